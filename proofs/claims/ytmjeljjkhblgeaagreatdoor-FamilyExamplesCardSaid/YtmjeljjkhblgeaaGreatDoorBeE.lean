/- What is proved here: an evaluator of the model's steps that the kernel can run, and that whatever it answers is what the model does (part 5 of 8: AeDraw1, AeDraw2, AeDraw3, AeDraw4, AeDraw5, AeDraw6, AeDraw7, AeDraw8, AeRun1, AeRun2, AeNorm, AeCode, AePat1, AePat2, AePat3). Conditions: those that each theorem states; they hold of no one program. -/
import Derived.Test.YtmjeljjkhblgeaaGreatDoorBeD
import Derived.Orders
set_option linter.unusedVariables false
set_option linter.unusedSectionVars false
set_option linter.unusedSimpArgs false
namespace Go.AE
variable [Gl:Au]
variable [U:Unk]
def WF (h:Aa):Prop:=∀b,h.nx≤b→h.blk.get b=none
theorem Ext.wf {ρ σ:Ren} {h h':Aa} {w w':World} (e:Ext ρ σ h h' w w') (hw:WF h):WF h':=by
 intro b hb;have:=e.nx;cases hg:h'.blk.get b with
 |none=>rfl
 |some x=>
  rcases e.live b (by rw [hg];exact fun e=>by cases e) with h1|⟨_,h2⟩
  ·exact absurd (hw b (by omega)) h1
  ·omega
def BK (P:Program) (m:Machine) (c0:Frame) (base:List Frame) (ok:Bool) (v:Value) (w:World):Prop:=
 match ok with
 |true=>Steps P m (lone (c0.finish v) base w)
 |false=>Steps P m (lone (c0.raise [{v:=v,recovered:=false}]) base w)
theorem BK.head {P:Program} {m m':Machine} {c0:Frame} {base:List Frame} {ok:Bool} {v:Value} {w:World} (h:step P m=.next m') (k:BK P m' c0 base ok v w):BK P m c0 base ok v w:=by
 cases ok
 ·exact Steps.head h k
 ·exact Steps.head h k
def Dv (E:Env) (callF:Ask→Aa→Option (Bool×AV×Aa)):Prop:=
 (∀(f:FuncId) (args:List AV) (args':List Value) (h g:Aa) (ok:Bool) (v:AV) (ρ:Ren) (w:World),VL ρ args args'→HR ρ h.blk.get w→WF h→callF (.enter f args) h=some (ok,v,g)→Ax ρ h.nx g.nx→
  ∀(c0:Frame) (base:List Frame),∃σ v' w',BK E.P (lone (Frame.enter E.P f args'.toArray .normal) (c0::base) w) c0 base ok v' w'∧VR σ v v'∧HR σ g.blk.get w'∧Ext ρ σ h g w w')∧
 (∀(l:Nat) (args:List AV) (h g:Aa) (ok:Bool) (v:AV) (ρ:Ren) (w:World),HR ρ h.blk.get w→WF h→callF (.round l args) h=some (ok,v,g)→Ax ρ h.nx g.nx→
  ∃fr,Fl l args h=some fr∧∀(cf:Frame),FrR ρ fr cf→∀(c0:Frame) (base:List Frame),∃σ v' w',BK E.P (lone cf (c0::base) w) c0 base ok v' w'∧VR σ v v'∧HR σ g.blk.get w'∧Ext ρ σ h g w w')
def part (h:Aa):Option (List Nat)→Aa
 |some ids=>{blk:=CM h ids,nx:=h.nx,log:=[]}
 |none=>{h with log:=[]}
theorem CT (h:Aa):∀(l:List Nat) (b:Nat),(CM h l).get b=none∨(b∈l∧(CM h l).get b=h.blk.get b)
 |[],b=>.inl (T.get_nil b)
 |c::r,b=>by
  simp only [CM];cases hc:h.blk.get c with
  |none=>
   rcases CT h r b with q|⟨q1,q2⟩
   ·exact .inl q
   ·exact .inr ⟨by simp [q1],q2⟩
  |some x=>
   simp only [T.get_set];by_cases e:c=b
   ·subst e;rw [if_pos rfl];exact .inr ⟨by simp,hc.symm⟩
   ·rw [if_neg e];rcases CT h r b with q|⟨q1,q2⟩
    ·exact .inl q
    ·exact .inr ⟨by simp [q1],q2⟩
theorem I5 {h:Aa} (hw:WF h) (fp:Option (List Nat)):WF (part h fp):=by
 intro b hb;cases fp with
 |none=>exact hw b hb
 |some ids=>
  rcases CT h ids b with q|⟨_,q⟩
  ·exact q
  ·exact q.trans (hw b hb)
theorem LQ {ρ:Ren} {a:AV} {v:Value} (h:VR ρ a v):VR ρ (TI a) v:=by
 unfold TI;split
 ·rename_i b nl;split
  ·rename_i hd;have e:=An U.ok hd;cases h with
   |nmap _ _ base hb hn=>rw [hn] at e;cases e
   |nmap0=>exact .map0
  ·rename_i hd;have e:=An U.ok hd;cases h with
   |nmap _ _ base hb hn=>exact .map _ base hb
   |nmap0 _ _ hn=>rw [hn] at e;cases e
  ·exact h
 ·exact h
theorem CY (t:T AV):∀(l:List Tmp) (i:Tmp) (x:AV),(AL t l).get i=some x→i∈l∧∃y,t.get i=some y∧x=TI y
 |[],i,x,h=>by rw [AL,T.get_nil] at h;cases h
 |c::r,i,x,h=>by
  simp only [AL] at h;cases hc:t.get c with
  |none=>
   rw [hc] at h;obtain ⟨q1,q2⟩:=CY t r i x h;exact ⟨by simp [q1],q2⟩
  |some y=>
   rw [hc] at h;simp only [T.get_set] at h;by_cases e:c=i
   ·subst e;rw [if_pos rfl] at h;cases h;exact ⟨by simp,_,hc,rfl⟩
   ·rw [if_neg e] at h;obtain ⟨q1,q2⟩:=CY t r i x h;exact ⟨by simp [q1],q2⟩
section
variable {E:Env} (hE:OK E) {callF:Ask→Aa→Option (Bool×AV×Aa)} {ρ:Ren} {h:Aa} {w:World} {c:Frame} {cs:List Frame}
include hE
theorem LJ (hF:Dv E callF) {all:Array Oper} {o:Oper} {nt:Nat} {t:T AV} {d:Did} {i:Nat} {rest:List Nat} {k:List Item} (hd:CD E callF all o t h=some d) (hwf:WF h) (hm:c.mode=.run)
  (htd:c.todo=.inRegion all (i::rest)::k) (ho:all[i]?=some o) (ht:TR ρ nt t c.tmps) (hr:HR ρ (part h d.fp).blk.get w) (hfree:Ax ρ h.nx d.g.nx) :
  ∃σ v' w',BK E.P (lone c cs w) c cs d.ok v' w'∧VR σ d.v v'∧HR σ d.g.blk.get w'∧Ext ρ σ (part h d.fp) d.g w w':=by
 have hev:EvR ρ t c.eval:=by
  intro x;have:=Hp ht x;cases x<;>exact this
 unfold CD at hd;split at hd
 ·cases hd
 ·rename_i hw;have hwt:=Be ht hw;cases hd;exact ⟨ρ,undef,w,Steps.one (Lz hm htd ho hwt),VR.undef ρ,hr,Ext.refl _ _ _⟩
 ·rename_i hw;have hwt:=Be ht hw;split at hd
  ·rename_i hsim
   have hnd:∀cl,o.op≠.defer cl:=by
    intro cl e;rw [e] at hsim;cases hsim
   simp only at hd;split at hd
   ·rename_i v g hop;cases hd;have hdoes:=H7 hE (h:=part h (some (Sk t h o.op))) hr hev o;rw [show aop E t (part h (some (Sk t h o.op))) o.op=_ from hop] at hdoes
    obtain ⟨σ,v',w',q1,q2,q3,q4⟩:=hdoes hfree;exact ⟨σ,v',w',Steps.one (PM hm htd ho hwt (.inr hnd) q1),q2,q3,q4⟩
   ·cases hd
  ·have hndef:∀{r:Res},aop E t {h with log:=[]} o.op=r→(∀d g,r≠.defer d g)→(∀y,r≠.bad y)→∀cl,o.op≠.defer cl:=by
    intro r hop n1 n2 cl e;rw [e] at hop;simp only [aop] at hop;rcases CZ t cl {h with log:=[]} with ⟨d,hq⟩|⟨y,hq⟩
    ·exact n1 _ _ (hop.symm.trans hq)
    ·exact n2 _ (hop.symm.trans hq)
   split at hd
   ·rename_i f args h' hop;split at hd
    ·rename_i ok v g hcall;cases hd;have hdoes:=H7 hE (h:=part h none) hr hev o;rw [show aop E t (part h none) o.op=_ from hop] at hdoes
     obtain ⟨rfl,args',ha,hrun⟩:=hdoes;have hnd:=hndef hop (fun _ _ e=>by cases e) (fun _ e=>by cases e)
     obtain ⟨σ,v',w',q1,q2,q3,q4⟩:=hF.1 f args args' (part h none) g ok v ρ w ha hr (I5 hwf none) hcall hfree c cs;exact ⟨σ,v',w',q1.head (J7 hm htd ho hwt (.inr hnd) hrun),q2,q3,q4⟩
    ·cases hd
   ·rename_i l args h' hop;split at hd
    ·rename_i ok v g hcall;cases hd;have hdoes:=H7 hE (h:=part h none) hr hev o;rw [show aop E t (part h none) o.op=_ from hop] at hdoes
     obtain ⟨rfl,b,args',hb,ha,hrun⟩:=hdoes;have hnd:=hndef hop (fun _ _ e=>by cases e) (fun _ e=>by cases e)
     obtain ⟨fr,hfr,hgo⟩:=hF.2 l args (part h none) g ok v ρ w hr (I5 hwf none) hcall hfree;obtain ⟨fn,tm,assign,body,q1,q2⟩:=KS (E:=E) (h:=h) hr hb (show Fl l args h=some fr from hfr) ha
     obtain ⟨σ,v',w',p1,p2,p3,p4⟩:=hgo _ q2 c cs;exact ⟨σ,v',w',p1.head (TY hm htd ho hwt (.inr hnd) (hrun.trans q1)),p2,p3,p4⟩
    ·cases hd
   ·cases hd
end
end Go.AE
namespace Go.AE
variable [Gl:Au]
variable [U:Unk]
theorem GN {b:Nat}:∀{l:List Nat},KE b l=true↔b∈l
 |[]=>by simp [KE]
 |c::r=>by
  simp only [KE,List.mem_cons];cases e:Nat.beq b c with
  |true=>simp [Aq e]
  |false=>simp only;rw [GN];simp [NI e]
theorem Gj:∀{l m:List Nat},HT l m=true→∀b∈l,b∉m
 |[],m,_,b,hb=>by cases hb
 |c::r,m,h,b,hb=>by
  simp only [HT] at h;cases e:KE c m with
  |true=>rw [e] at h;cases h
  |false=>
   rw [e] at h;rcases List.mem_cons.1 hb with rfl|hb
   ·exact fun hm=>by rw [GN.2 hm] at e;cases e
   ·exact Gj h b hb
theorem Od {lo hi:Nat}:∀{l:List Nat},SA lo hi l=true→∀b∈l,¬(lo≤b∧b<hi)
 |[],_,b,hb=>by cases hb
 |c::r,h,b,hb=>by
  simp only [SA] at h;cases e:Nat.ble lo c&&Nat.blt c hi with
  |true=>rw [e] at h;cases h
  |false=>
   rw [e] at h;rcases List.mem_cons.1 hb with rfl|hb
   ·rintro ⟨h1,h2⟩
    have:(Nat.ble lo b&&Nat.blt b hi)=true:=by simp [Nat.ble_eq,Nat.blt_eq,h1,h2]
    rw [this] at e;cases e
   ·exact Od h b hb
theorem BX {n b:Nat}:∀{l:List Nat},b∈Bo n l↔b∈l∧b<n
 |[]=>by simp [Bo]
 |c::r=>by
  simp only [Bo];cases e:Nat.blt c n with
  |true=>
   simp only [List.mem_cons,BX];have:c<n:=by simpa [Nat.blt_eq] using e
   constructor
   ·rintro (rfl|h)
    ·exact ⟨.inl rfl,this⟩
    ·exact ⟨.inr h.1,h.2⟩
   ·rintro ⟨rfl|h,h2⟩
    ·exact .inl rfl
    ·exact .inr ⟨h,h2⟩
  |false=>
   simp only [List.mem_cons,BX]
   have:¬c<n:=by
    intro h;have:Nat.blt c n=true:=by simpa [Nat.blt_eq] using h
    rw [this] at e;cases e
   constructor
   ·rintro h;exact ⟨.inr h.1,h.2⟩
   ·rintro ⟨rfl|h,h2⟩
    ·exact absurd h2 this
    ·exact ⟨h,h2⟩
structure Rc.Apart (x y:Rc):Prop where
 fp1:∀b∈x.wr,∀l,y.fp=some l→b∉l
 fp1n:y.fp=none→x.wr=[]
 fp2:∀b∈y.wr,∀l,x.fp=some l→b∉l
 fp2n:x.fp=none→y.wr=[]
 wr:∀b∈x.wr,b∉y.wr
 out:∀b∈y.wr,¬(x.lo≤b∧b<x.hi)
 look1:∀t,x.dst=some t→t∉y.looks
 look2:∀t,y.dst=some t→t∉x.looks
 dst:∀t,x.dst=some t→y.dst≠some t
theorem In {w l:List Nat} (h:Gw w (some l)=true):∀b∈w,b∉l:=Gj h
theorem Rc.apart_ok {x y:Rc} (h:x.apart y=true):x.Apart y:=by
 simp only [Rc.apart,Bool.and_eq_true,Bool.not_eq_true'] at h;obtain ⟨⟨⟨⟨⟨⟨h1,h2⟩,h3⟩,h4⟩,h5⟩,h6⟩,h7⟩:=h;refine ⟨fun b hb l hl=>?_,fun hn=>?_,fun b hb l hl=>?_,fun hn=>?_,Gj h3,Od h4,fun t ht hm=>?_,fun t ht hm=>?_,fun t ht ht'=>?_⟩
 ·rw [hl] at h1;exact In h1 b hb
 ·rw [hn] at h1;simpa [Gw] using h1
 ·rw [hl] at h2;exact In h2 b hb
 ·rw [hn] at h2;simpa [Gw] using h2
 ·rw [ht] at h5;rw [Rs,GN.2 hm] at h5;cases h5
 ·rw [ht] at h6;rw [Rs,GN.2 hm] at h6;cases h6
 ·rw [ht,ht',Td,El] at h7;cases h7
theorem RP (m i:Nat):Nat.beq (m/2^i%2) 1=m.testBit i:=by
 rw [Nat.testBit_eq_decide_div_mod_eq];by_cases h:m/2^i%2=1
 ·rw [h];rfl
 ·rw [Dx h];simp [h]
theorem Iy {y:Rc}:∀{l:List Rc} {p:Nat},Cz y l p=true→∀i x,l[i]?=some x→y.mask.testBit (p+i)=true∨x.Apart y
 |[],p,h,i,x,hx=>by cases hx
 |c::r,p,h,i,x,hx=>by
  simp only [Cz,RP] at h;cases e:y.mask.testBit p||c.apart y with
  |false=>rw [e] at h;cases h
  |true=>
   rw [e] at h;cases i with
   |zero=>
    simp only [List.getElem?_cons_zero,Option.some.injEq] at hx;subst hx;rcases Bool.or_eq_true_iff.1 e with e|e
    ·exact .inl e
    ·exact .inr (Rc.apart_ok e)
   |succ i=>
    have:=Iy h i x (by simpa using hx)
    rw [show p+(i+1)=p+1+i by omega]
    exact this
theorem C4 {recs:List Rc}:∀{es:List Edge} {m:Nat},Bs recs es=some m→
  (∀e∈es,Region.binds .any e=true→∃x,recs[e.on]?=some x)∧
  ∀i,m.testBit i=true↔∃e∈es,Region.binds .any e=true∧∃x,recs[e.on]?=some x∧(x.mask.testBit i=true∨i=e.on)
 |[],m,h=>by
  simp only [Bs,Option.some.injEq] at h;subst h;simp
 |e::r,m,h=>by
  simp only [Bs] at h;cases hr:Bs recs r with
  |none=>rw [hr] at h;cases h
  |some m1=>
   rw [hr] at h;obtain ⟨q1,q2⟩:=C4 hr;simp only at h;cases hb:Region.binds .any e with
   |false=>
    rw [hb] at h;simp only [Option.some.injEq] at h;subst h;refine ⟨fun a ha hab=>?_,fun i=>?_⟩
    ·rcases List.mem_cons.1 ha with rfl|ha
     ·rw [hb] at hab;cases hab
     ·exact q1 a ha hab
    ·rw [q2];constructor
     ·rintro ⟨a,ha,hh⟩;exact ⟨a,by simp [ha],hh⟩
     ·rintro ⟨a,ha,hab,hh⟩
      rcases List.mem_cons.1 ha with rfl|ha
      ·rw [hb] at hab;cases hab
      ·exact ⟨a,ha,hab,hh⟩
   |true=>
    rw [hb] at h;simp only at h;cases hx:recs[e.on]? with
    |none=>rw [hx] at h;cases h
    |some x=>
     rw [hx] at h;simp only [Option.some.injEq] at h;subst h;refine ⟨fun a ha hab=>?_,fun i=>?_⟩
     ·rcases List.mem_cons.1 ha with rfl|ha
      ·exact ⟨x,hx⟩
      ·exact q1 a ha hab
     ·simp only [Nat.testBit_or,Bool.or_eq_true,Nat.testBit_two_pow,decide_eq_true_eq,q2];constructor
      ·rintro ((⟨a,ha,hh⟩|h)|h)
       ·exact ⟨a,by simp [ha],hh⟩
       ·exact ⟨e,by simp,hb,x,hx,.inl h⟩
       ·exact ⟨e,by simp,hb,x,hx,.inr h.symm⟩
      ·rintro ⟨a,ha,hab,y,hy,hh⟩
       rcases List.mem_cons.1 ha with rfl|ha
       ·rw [hx] at hy;cases hy;rcases hh with hh|hh
        ·exact .inl (.inr hh)
        ·exact .inr hh.symm
       ·exact .inl (.inl ⟨a,ha,hab,y,hy,hh⟩)
theorem Ez (blk g:T Ac):∀(l:List Nat) (b:Nat),(b∉l→(Fo blk g l).get b=blk.get b)∧(b∈l→(Fo blk g l).get b=none∨(blk.get b≠none∧(Fo blk g l).get b=g.get b))
 |[],b=>⟨fun _=>rfl,(fun h=>by cases h)⟩
 |c::r,b=>by
  have ih:=Ez blk g r b;simp only [Fo];split
  ·rename_i x y hx hy;rw [T.get_set];refine ⟨fun h=>?_,fun h=>?_⟩
   ·rw [if_neg (by rintro rfl;simp at h)];exact ih.1 (by simp at h;exact h.2)
   ·by_cases e:c=b
    ·subst e;rw [if_pos rfl];exact .inr ⟨(by rw [hy];exact Option.some_ne_none _),hx.symm⟩
    ·rw [if_neg e];exact ih.2 ((List.mem_cons.1 h).resolve_left (fun q=>e q.symm))
  ·rw [T.get_del];refine ⟨fun h=>?_,fun h=>?_⟩
   ·rw [if_neg (by rintro rfl;simp at h)];exact ih.1 (by simp at h;exact h.2)
   ·by_cases e:c=b
    ·subst e;rw [if_pos rfl];exact .inl rfl
    ·rw [if_neg e];exact ih.2 ((List.mem_cons.1 h).resolve_left (fun q=>e q.symm))
theorem ED (blk g:T Ac):∀(n i b:Nat),(GF blk g i n).get b=if i≤b∧b<i+n∧g.get b≠none then g.get b else blk.get b
 |0,i,b=>by
  simp only [GF];rw [if_neg (by omega)]
 |n+1,i,b=>by
  have ih:=ED blk g n (i+1) b;simp only [GF];cases hg:g.get i with
  |none=>
   simp only;rw [ih];by_cases e:i=b
   ·subst e;rw [if_neg (by omega),if_neg (by rintro ⟨_,_,h⟩;exact h hg)]
   ·by_cases q:i+1≤b∧b<i+1+n∧g.get b≠none
    ·rw [if_pos q,if_pos ⟨by omega,by omega,q.2.2⟩]
    ·rw [if_neg q,if_neg (by rintro ⟨h1,h2,h3⟩;exact q ⟨by omega,by omega,h3⟩)]
  |some x=>
   simp only [T.get_set];by_cases e:i=b
   ·subst e;rw [if_pos rfl,if_pos ⟨by omega,by omega,(by rw [hg];exact Option.some_ne_none _)⟩,hg]
   ·rw [if_neg e,ih];by_cases q:i+1≤b∧b<i+1+n∧g.get b≠none
    ·rw [if_pos q,if_pos ⟨by omega,by omega,q.2.2⟩]
    ·rw [if_neg q,if_neg (by rintro ⟨h1,h2,h3⟩;exact q ⟨by omega,by omega,h3⟩)]
section
variable {h g:Aa}
theorem Cd (hn:h.nx≤g.nx) {b:Nat} (hb:b∉Bo h.nx g.log) (ho:b<h.nx∨g.nx≤b):(AK h g).blk.get b=h.blk.get b:=by
 simp only [AK,ED];rw [if_neg (by omega)]
 exact (Ez _ _ _ b).1 hb
theorem FD {b:Nat} (hb:b∈Bo h.nx g.log):(AK h g).blk.get b=none∨(h.blk.get b≠none∧(AK h g).blk.get b=g.blk.get b):=by
 have hlt:=(BX.1 hb).2;simp only [AK,ED];rw [if_neg (by omega)]
 exact (Ez _ _ _ b).2 hb
theorem Gk (hw:WF h) (hn:h.nx≤g.nx) {b:Nat} (h1:h.nx≤b) (h2:b<g.nx):(AK h g).blk.get b=g.blk.get b:=by
 simp only [AK,ED];have hb:b∉Bo h.nx g.log:=fun e=>by have:=(BX.1 e).2;omega
 cases hg:g.blk.get b with
 |none=>
  rw [if_neg (by rintro ⟨_,_,h⟩;exact h rfl),(Ez _ _ _ b).1 hb,hw b h1]
 |some x=>rw [if_pos ⟨h1,by omega,fun e=>by cases e⟩]
theorem FM (hw:WF h) (hn:h.nx≤g.nx):WF (AK h g):=by
 intro b hb;have hb':g.nx≤b:=hb;rw [Cd hn (fun e=>by have:=(BX.1 e).2;omega) (.inr hb')]
 exact hw b (by omega)
theorem Fm (hw:WF h) (hn:h.nx≤g.nx) {b:Nat} (hb:(AK h g).blk.get b≠none):h.blk.get b≠none∨(h.nx≤b∧b<g.nx):=by
 by_cases h1:b<h.nx
 ·by_cases h2:b∈Bo h.nx g.log
  ·rcases FD h2 with q|⟨q,_⟩
   ·exact absurd q hb
   ·exact .inl q
  ·rw [Cd hn h2 (.inl h1)] at hb;exact .inl hb
 ·by_cases h2:b<g.nx
  ·exact .inr ⟨by omega,h2⟩
  ·exact absurd (FM hw hn b (by show g.nx≤b;omega)) hb
end
end Go.AE
namespace Go.AE
variable [Gl:Au]
variable [U:Unk]
structure Tx (E:Env) (callF:Ask→Aa→Option (Bool×AV×Aa)) (all:Array Oper) (H:Nat→Aa) (Tm:Nat→T AV) (R:Nat→Rc) (Dd:Nat→Did) (j:Nat) (o:Oper):Prop where
 mask:Bs ((List.range j).map R) o.after.toList=some (R j).mask
 did:CD E callF all o (AL (Tm j) (A2 all o)) (H j)=some (Dd j)
 nx:(H j).nx≤(Dd j).g.nx
structure Good (E:Env) (callF:Ask→Aa→Option (Bool×AV×Aa)) (all:Array Oper) (nt:Nat) (H:Nat→Aa) (Tm:Nat→T AV) (R:Nat→Rc) (Dd:Nat→Did) (j:Nat) (o:Oper):Prop where
 tx:Tx E callF all H Tm R Dd j o
 wr:(R j).wr=Bo (H j).nx (Dd j).g.log
 fp:(R j).fp=(Dd j).fp
 lo:(R j).lo=(H j).nx
 hi:(R j).hi=(Dd j).g.nx
 dst:(R j).dst=o.dst
 looks:(R j).looks=A2 all o
 apart:Cz (R j) ((List.range j).map R) 0=true
 put:DB nt (Tm j) o.dst (Dd j).v=some (Tm (j+1))
 heap:H (j+1)=AK (H j) (Dd j).g
 ok:(Dd j).ok=true
structure Bad (E:Env) (callF:Ask→Aa→Option (Bool×AV×Aa)) (all:Array Oper) (H:Nat→Aa) (Tm:Nat→T AV) (R:Nat→Rc) (Dd:Nat→Did) (j:Nat) (o:Oper) (rest:List Oper):Prop where
 tx:Tx E callF all H Tm R Dd j o
 ok:(Dd j).ok=false
 all:(R j).mask+1=2^j
 after:∃recs:List Rc,recs.length=j∧recs=(List.range j).map R∧Eo (recs++[{wr:=[],fp:=none,lo:=0,hi:=0,dst:=none,looks:=[],mask:=(R j).mask}]) j rest=true
section
variable {E:Env} {callF:Ask→Aa→Option (Bool×AV×Aa)} {all:Array Oper} {nt:Nat}
theorem Hr {α:Type} {R:Nat→α} {recs:List α} (h:∀i x,recs[i]?=some x→R i=x):(List.range recs.length).map R=recs:=by
 apply List.ext_getElem (by simp)
 intro i h1 h2;simp only [List.getElem_map,List.getElem_range];exact h i _ (by simp [h2])
theorem G4:∀(l:List Oper) (recs:List Rc) (tmps:T AV) (h:Aa) (r:Option AV) (tmps':T AV) (h':Aa),Br E callF all nt l recs tmps h=some (r,tmps',h')→
  ∃H Tm R Dd m,(∀i x,recs[i]?=some x→R i=x)∧H recs.length=h∧Tm recs.length=tmps∧(∀i,i<m→∃o,l[i]?=some o∧Good E callF all nt H Tm R Dd (recs.length+i) o)∧
   (r=none→m=l.length∧tmps'=Tm (recs.length+m)∧h'=H (recs.length+m))∧
   (∀v,r=some v→∃o,l[m]?=some o∧Bad E callF all H Tm R Dd (recs.length+m) o (l.drop (m+1))∧v=(Dd (recs.length+m)).v∧tmps'=Tm (recs.length+m)∧h'=AK (H (recs.length+m)) (Dd (recs.length+m)).g)
 |[],recs,tmps,h,r,tmps',h',hd=>by
  simp only [Br,Option.some.injEq,Prod.mk.injEq] at hd;obtain ⟨rfl,rfl,rfl⟩:=hd;exact ⟨fun _=>h,fun _=>tmps,fun i=>recs.getD i default,fun _=>default,0,fun i x hx=>by simp [hx],rfl,rfl,fun i hi=>absurd hi (Nat.not_lt_zero _),fun _=>⟨rfl,rfl,rfl⟩,(fun v hv=>by cases hv)⟩
 |o::rest,recs,tmps,h,r,tmps',h',hd=>by
  simp only [Br] at hd;cases hmask:Bs recs o.after.toList with
  |none=>rw [hmask] at hd;cases hd
  |some mask=>
   rw [hmask] at hd;simp only at hd;cases hdid:CD E callF all o (AL tmps (A2 all o)) h with
   |none=>rw [hdid] at hd;cases hd
   |some d=>
    rw [hdid] at hd;simp only at hd;cases hnx:Nat.ble h.nx d.g.nx with
    |false=>rw [hnx] at hd;cases hd
    |true=>
     have hle:h.nx≤d.g.nx:=Nat.le_of_ble_eq_true hnx;cases hok:d.ok with
     |true=>
      rw [hnx,hok] at hd;simp only at hd;cases hap:Cz {wr:=Bo h.nx d.g.log,fp:=d.fp,lo:=h.nx,hi:=d.g.nx,dst:=o.dst,looks:=A2 all o,mask} recs 0 with
      |false=>rw [hap] at hd;cases hd
      |true=>
       rw [hap] at hd;simp only at hd;cases hput:DB nt tmps o.dst d.v with
       |none=>rw [hput] at hd;cases hd
       |some t1=>
        rw [hput] at hd;simp only at hd;obtain ⟨H,Tm,R,Dd,m,q1,q2,q3,q4,q5,q6⟩:=G4 rest _ t1 _ r tmps' h' hd;have hl:(recs++[({wr:=Bo h.nx d.g.log,fp:=d.fp,lo:=h.nx,hi:=d.g.nx,dst:=o.dst,looks:=A2 all o,mask}:Rc)]).length=recs.length+1:=by simp
        rw [hl] at q2 q3 q4 q5 q6;have hR:R recs.length={wr:=Bo h.nx d.g.log,fp:=d.fp,lo:=h.nx,hi:=d.g.nx,dst:=o.dst,looks:=A2 all o,mask}:=q1 _ _ (by simp)
        have hrecs:∀i x,recs[i]?=some x→R i=x:=fun i x hx=>q1 i x (by rw [List.getElem?_append_left (List.getElem?_eq_some_iff.1 hx).1];exact hx)
        have hmr:=Hr hrecs;have hH1:∀j,recs.length+1≤j→(fun i=>if i≤recs.length then h else H i) j=H j:=fun j hj=>if_neg (by omega)
        have hT1:∀j,recs.length+1≤j→(fun i=>if i≤recs.length then tmps else Tm i) j=Tm j:=fun j hj=>if_neg (by omega)
        have hD1:∀j,recs.length+1≤j→(fun i=>if i≤recs.length then d else Dd i) j=Dd j:=fun j hj=>if_neg (by omega)
        have hH0:(fun i=>if i≤recs.length then h else H i) recs.length=h:=if_pos (Nat.le_refl _)
        have hT0:(fun i=>if i≤recs.length then tmps else Tm i) recs.length=tmps:=if_pos (Nat.le_refl _)
        have hD0:(fun i=>if i≤recs.length then d else Dd i) recs.length=d:=if_pos (Nat.le_refl _)
        generalize (fun i=>if i≤recs.length then h else H i)=H' at hH1 hH0
        generalize (fun i=>if i≤recs.length then tmps else Tm i)=Tm' at hT1 hT0
        generalize (fun i=>if i≤recs.length then d else Dd i)=Dd' at hD1 hD0
        have htx:∀j x,recs.length+1≤j→Tx E callF all H Tm R Dd j x→Tx E callF all H' Tm' R Dd' j x:=by
         intro j x hj t;refine ⟨t.mask,?_,?_⟩
         ·rw [hT1 j hj,hH1 j hj,hD1 j hj];exact t.did
         ·rw [hH1 j hj,hD1 j hj];exact t.nx
        have hplus:∀i,recs.length+(i+1)=recs.length+1+i:=fun i=>by omega
        refine ⟨H',Tm',R,Dd',m+1,hrecs,hH0,hT0,?_,?_,?_⟩
        ·intro i hi;cases i with
         |zero=>
          refine ⟨o,rfl,⟨⟨?_,?_,?_⟩,?_,?_,?_,?_,?_,?_,?_,?_,?_,?_⟩⟩
          ·rw [Nat.add_zero,hmr,hR];exact hmask
          ·rw [Nat.add_zero,hT0,hH0,hD0];exact hdid
          ·rw [Nat.add_zero,hH0,hD0];exact hle
          ·rw [Nat.add_zero,hR,hH0,hD0]
          ·rw [Nat.add_zero,hR,hD0]
          ·rw [Nat.add_zero,hR,hH0]
          ·rw [Nat.add_zero,hR,hD0]
          ·rw [Nat.add_zero,hR]
          ·rw [Nat.add_zero,hR]
          ·rw [Nat.add_zero,hmr,hR];exact hap
          ·rw [Nat.add_zero,hT0,hD0,hT1 _ (Nat.le_refl _),q3];exact hput
          ·show H' (recs.length+1)=AK (H' recs.length) (Dd' recs.length).g;rw [hH0,hD0,hH1 _ (Nat.le_refl _),q2]
          ·rw [Nat.add_zero,hD0];exact hok
         |succ i=>
          obtain ⟨x,hx,g⟩:=q4 i (by omega)
          have hj:recs.length+1≤recs.length+1+i:=by omega
          refine ⟨x,by simpa using hx,?_⟩
          rw [hplus];refine ⟨htx _ _ hj g.tx,?_,?_,?_,?_,g.dst,g.looks,g.apart,?_,?_,?_⟩
          ·rw [hH1 _ hj,hD1 _ hj];exact g.wr
          ·rw [hD1 _ hj];exact g.fp
          ·rw [hH1 _ hj];exact g.lo
          ·rw [hD1 _ hj];exact g.hi
          ·rw [hT1 _ hj,hD1 _ hj,hT1 _ (by omega)];exact g.put
          ·rw [hH1 _ hj,hD1 _ hj,hH1 _ (by omega)];exact g.heap
          ·rw [hD1 _ hj];exact g.ok
        ·intro hr;obtain ⟨r1,r2,r3⟩:=q5 hr;refine ⟨by simp [r1],?_,?_⟩
         ·rw [hplus,hT1 _ (by omega)];exact r2
         ·rw [hplus,hH1 _ (by omega)];exact r3
        ·intro v hv;obtain ⟨x,hx,b,r1,r2,r3⟩:=q6 v hv;have hj:recs.length+1≤recs.length+1+m:=by omega
         refine ⟨x,by simpa using hx,?_,?_,?_,?_⟩
         ·rw [hplus];exact ⟨htx _ _ hj b.tx,by rw [hD1 _ hj];exact b.ok,b.all,by simpa using b.after⟩
         ·rw [hplus,hD1 _ hj];exact r1
         ·rw [hplus,hT1 _ hj];exact r2
         ·rw [hplus,hH1 _ hj,hD1 _ hj];exact r3
     |false=>
      rw [hnx,hok] at hd;simp only at hd;cases hc:Nat.beq (mask+1) (2^recs.length)&&Eo (recs++[{wr:=[],fp:=none,lo:=0,hi:=0,dst:=none,looks:=[],mask}]) recs.length rest with
      |false=>rw [hc] at hd;cases hd
      |true=>
       rw [hc] at hd;simp only [Option.some.injEq,Prod.mk.injEq] at hd;obtain ⟨rfl,rfl,rfl⟩:=hd;obtain ⟨c1,c2⟩:=Am hc
       have hrecs:∀i x,recs[i]?=some x→(fun i=>if i<recs.length then recs.getD i default else ({wr:=[],fp:=none,lo:=0,hi:=0,dst:=none,looks:=[],mask}:Rc)) i=x:=by
        intro i x hx;have:=(List.getElem?_eq_some_iff.1 hx).1;simp only [this,if_true];simp [hx]
       have hR:(fun i=>if i<recs.length then recs.getD i default else ({wr:=[],fp:=none,lo:=0,hi:=0,dst:=none,looks:=[],mask}:Rc)) recs.length={wr:=[],fp:=none,lo:=0,hi:=0,dst:=none,looks:=[],mask}:=if_neg (Nat.lt_irrefl _)
       generalize (fun i=>if i<recs.length then recs.getD i default else ({wr:=[],fp:=none,lo:=0,hi:=0,dst:=none,looks:=[],mask}:Rc))=R at hrecs hR
       have hmr:=Hr hrecs;refine ⟨fun _=>h,fun _=>tmps,R,fun _=>d,0,hrecs,rfl,rfl,fun i hi=>absurd hi (Nat.not_lt_zero _),(fun hv=>by cases hv),fun v hv=>?_⟩
       cases hv;refine ⟨o,rfl,⟨⟨?_,hdid,hle⟩,hok,?_,recs,rfl,?_,?_⟩,rfl,rfl,rfl⟩
       ·rw [Nat.add_zero,hmr,hR];exact hmask
       ·show (R recs.length).mask+1=2^recs.length;rw [hR];exact Aq c1
       ·rw [Nat.add_zero,hmr]
       ·rw [Nat.add_zero,hR];simpa using c2
end
end Go.AE
namespace Go.AE
variable [Gl:Au]
variable [U:Unk]
def ins (D:Nat→Bool) (j:Nat):Nat→Bool:=fun i=>if i=j then true else D i
def Cn (H:Nat→Aa) (R:Nat→Rc) (D:Nat→Bool):Nat→Nat→Option Ac
 |0,b=>(H 0).blk.get b
 |j+1,b=>if D j=true∧(b∈(R j).wr∨((R j).lo≤b∧b<(R j).hi)) then (H (j+1)).blk.get b else Cn H R D j b
def Tn (Tm:Nat→T AV) (R:Nat→Rc) (D:Nat→Bool):Nat→Tmp→Option AV
 |0,t=>(Tm 0).get t
 |j+1,t=>if D j=true∧(R j).dst=some t then (Tm (j+1)).get t else Tn Tm R D j t
structure BL (E:Env) (callF:Ask→Aa→Option (Bool×AV×Aa)) (all:Array Oper) (nt:Nat) (H:Nat→Aa) (Tm:Nat→T AV) (R:Nat→Rc) (Dd:Nat→Did) (n:Nat):Prop where
 good:∀j,j<n→∃o,all[j]?=some o∧Good E callF all nt H Tm R Dd j o
 wf:WF (H 0)
section
variable {E:Env} {callF:Ask→Aa→Option (Bool×AV×Aa)} {all:Array Oper} {nt:Nat} {H:Nat→Aa} {Tm:Nat→T AV} {R:Nat→Rc} {Dd:Nat→Did} {n:Nat}
 (X:BL E callF all nt H Tm R Dd n)
include X
theorem BL.hi {j:Nat} (hj:j<n):(H (j+1)).nx=(R j).hi:=by
 obtain ⟨o,_,g⟩:=X.good j hj;rw [g.heap,g.hi];rfl
theorem BL.lo {j:Nat} (hj:j<n):(R j).lo=(H j).nx:=by
 obtain ⟨o,_,g⟩:=X.good j hj;exact g.lo
theorem BL.le {j:Nat} (hj:j<n):(R j).lo≤(R j).hi:=by
 obtain ⟨o,_,g⟩:=X.good j hj;rw [g.lo,g.hi];exact g.tx.nx
theorem BL.mono {i:Nat}:∀{j:Nat},i≤j→j≤n→(H i).nx≤(H j).nx
 |0,hij,_=>by rw [Nat.le_zero.1 hij];exact Nat.le_refl _
 |j+1,hij,hj=>by
  rcases Nat.lt_or_ge i (j+1) with h|h
  ·have:=BL.mono (i:=i) (j:=j) (by omega) (by omega)
   have h1:=X.hi (j:=j) (by omega)
   have h2:=X.lo (j:=j) (by omega)
   have h3:=X.le (j:=j) (by omega)
   omega
  ·have:i=j+1:=by omega
   rw [this];exact Nat.le_refl _
theorem BL.wfAt:∀{j:Nat},j≤n→WF (H j)
 |0,_=>X.wf
 |j+1,hj=>by
  obtain ⟨o,_,g⟩:=X.good j (by omega)
  rw [g.heap];exact FM (BL.wfAt (j:=j) (by omega)) g.tx.nx
theorem BL.bits {j:Nat} (hj:j<n):∀{i:Nat},(R j).mask.testBit i=true→i<j:=by
 induction j using Nat.strongRecOn with
 |ind j ih=>
  intro i hi;obtain ⟨o,_,g⟩:=X.good j hj;obtain ⟨e,he,hb,x,hx,h⟩:=((C4 g.tx.mask).2 i).1 hi
  have hon:e.on<j:=by
   have:=(List.getElem?_eq_some_iff.1 hx).1;simpa using this
  have hxe:x=R e.on:=by
   rw [List.getElem?_map,List.getElem?_range hon] at hx;simpa using hx.symm
  rcases h with h|h
  ·rw [hxe] at h;have:=ih e.on hon (by omega) h
   omega
  ·omega
theorem BL.apart {i j:Nat} (hij:i<j) (hj:j<n) (hb:(R j).mask.testBit i=false):(R i).Apart (R j):=by
 obtain ⟨o,_,g⟩:=X.good j hj;rcases Iy g.apart i (R i) (by rw [List.getElem?_map,List.getElem?_range hij];rfl) with h|h
 ·rw [Nat.zero_add,hb] at h;cases h
 ·exact h
theorem BL.stay {j:Nat} (hj:j<n) {b:Nat} (h1:b∉(R j).wr) (h2:¬((R j).lo≤b∧b<(R j).hi)):(H (j+1)).blk.get b=(H j).blk.get b:=by
 obtain ⟨o,_,g⟩:=X.good j hj;rw [g.wr] at h1;rw [g.lo,g.hi] at h2;rw [g.heap];exact Cd g.tx.nx h1 (by omega)
theorem BL.wr_lt {j:Nat} (hj:j<n) {b:Nat} (hb:b∈(R j).wr):b<(H j).nx:=by
 obtain ⟨o,_,g⟩:=X.good j hj;rw [g.wr] at hb;exact (BX.1 hb).2
theorem BL.cn_text {D:Nat→Bool} {b:Nat}:∀{m:Nat},m≤n→(∀i,i<m→D i=false→b∉(R i).wr∧¬((R i).lo≤b∧b<(R i).hi))→Cn H R D m b=(H m).blk.get b
 |0,_,_=>rfl
 |m+1,hm,h=>by
  simp only [Cn];by_cases hc:D m=true∧(b∈(R m).wr∨((R m).lo≤b∧b<(R m).hi))
  ·rw [if_pos hc]
  ·rw [if_neg hc,BL.cn_text (m:=m) (by omega) fun i hi=>h i (by omega)]
   have:b∉(R m).wr∧¬((R m).lo≤b∧b<(R m).hi):=by
    cases hD:D m with
    |false=>exact h m (by omega) hD
    |true=>exact ⟨fun q=>hc ⟨hD,.inl q⟩,fun q=>hc ⟨hD,.inr q⟩⟩
   exact (X.stay (by omega) this.1 this.2).symm
omit X in
theorem Jd {D:Nat→Bool} {b j:Nat}:∀{m:Nat},j≤m→(∀i,j≤i→i<m→D i=true→b∉(R i).wr∧¬((R i).lo≤b∧b<(R i).hi))→Cn H R D m b=Cn H R D j b
 |0,hj,_=>by rw [Nat.le_zero.1 hj]
 |m+1,hj,h=>by
  rcases Nat.lt_or_ge j (m+1) with hlt|hge
  ·simp only [Cn];rw [if_neg,Jd (by omega) fun i h1 h2=>h i h1 (by omega)]
   rintro ⟨hD,q⟩
   obtain ⟨a1,a2⟩:=h m (by omega) (by omega) hD
   exact q.elim a1 a2
  ·rw [show j=m+1 by omega]
omit X in
theorem T2 {D:Nat→Bool} {b j:Nat} (hD:D j=false) (h1:b∉(R j).wr) (h2:¬((R j).lo≤b∧b<(R j).hi)):∀m,Cn H R (ins D j) m b=Cn H R D m b
 |0=>rfl
 |m+1=>by
  simp only [Cn];rw [T2 hD h1 h2 m];by_cases e:m=j
  ·subst e;rw [if_neg (by rintro ⟨_,q⟩;exact q.elim h1 h2),if_neg (by rintro ⟨q,_⟩;rw [hD] at q;cases q)]
  ·simp [ins,e]
omit X in
theorem Rh {D:Nat→Bool} {b j m:Nat} (hjm:j<m) (h1:b∈(R j).wr∨((R j).lo≤b∧b<(R j).hi)) (h2:∀i,j<i→i<m→D i=true→b∉(R i).wr∧¬((R i).lo≤b∧b<(R i).hi)) :
  Cn H R (ins D j) m b=(H (j+1)).blk.get b:=by
 rw [Jd (j:=j+1) hjm fun i a1 a2 hD=>h2 i a1 a2 (by simpa [ins,show i≠j by omega] using hD)]
 simp only [Cn];rw [if_pos ⟨by simp [ins],h1⟩]
theorem BL.tput {j:Nat} (hj:j<n) {t:Tmp} (ht:(R j).dst≠some t):(Tm (j+1)).get t=(Tm j).get t:=by
 obtain ⟨o,_,g⟩:=X.good j hj;have hp:=g.put;rw [g.dst] at ht;unfold DB at hp;split at hp
 ·rename_i d hd;split at hp
  ·simp only [Option.some.injEq] at hp;rw [←hp,T.get_set,if_neg]
   rintro rfl;exact ht hd
  ·cases hp
 ·simp only [Option.some.injEq] at hp;rw [hp]
theorem BL.tn_text {D:Nat→Bool} {t:Tmp}:∀{m:Nat},m≤n→(∀i,i<m→D i=false→(R i).dst≠some t)→Tn Tm R D m t=(Tm m).get t
 |0,_,_=>rfl
 |m+1,hm,h=>by
  simp only [Tn];by_cases hc:D m=true∧(R m).dst=some t
  ·rw [if_pos hc]
  ·rw [if_neg hc,BL.tn_text (m:=m) (by omega) fun i hi=>h i (by omega)]
   refine (X.tput (by omega) ?_).symm
   cases hD:D m with
   |false=>exact h m (by omega) hD
   |true=>exact fun q=>hc ⟨hD,q⟩
omit X in
theorem Jn {D:Nat→Bool} {t:Tmp} {j:Nat}:∀{m:Nat},j≤m→(∀i,j≤i→i<m→D i=true→(R i).dst≠some t)→Tn Tm R D m t=Tn Tm R D j t
 |0,hj,_=>by rw [Nat.le_zero.1 hj]
 |m+1,hj,h=>by
  rcases Nat.lt_or_ge j (m+1) with hlt|hge
  ·simp only [Tn];rw [if_neg,Jn (by omega) fun i h1 h2=>h i h1 (by omega)]
   rintro ⟨hD,q⟩
   exact h m (by omega) (by omega) hD q
  ·rw [show j=m+1 by omega]
omit X in
theorem RX {D:Nat→Bool} {t:Tmp} {j:Nat} (hD:D j=false) (h1:(R j).dst≠some t):∀m,Tn Tm R (ins D j) m t=Tn Tm R D m t
 |0=>rfl
 |m+1=>by
  simp only [Tn];rw [RX hD h1 m];by_cases e:m=j
  ·subst e;rw [if_neg (by rintro ⟨_,q⟩;exact h1 q),if_neg (by rintro ⟨q,_⟩;rw [hD] at q;cases q)]
  ·simp [ins,e]
omit X in
theorem Rw {D:Nat→Bool} {t:Tmp} {j m:Nat} (hjm:j<m) (h1:(R j).dst=some t) (h2:∀i,j<i→i<m→D i=true→(R i).dst≠some t):Tn Tm R (ins D j) m t=(Tm (j+1)).get t:=by
 rw [Jn (j:=j+1) hjm fun i a1 a2 hD=>h2 i a1 a2 (by simpa [ins,show i≠j by omega] using hD)]
 simp only [Tn];rw [if_pos ⟨by simp [ins],h1⟩]
end
end Go.AE
namespace Go.AE
variable [Gl:Au]
variable [U:Unk]
theorem HR.weaken {ρ:Ren} {g g':Nat→Option Ac} {w:World} (h:HR ρ g w) (hg:∀b x,ρ b≠none→g' b=some x→g b=some x):HR ρ g' w:=by
 refine ⟨h.lt,fun b base x hb hx=>h.blk b base x hb (hg b x (by rw [hb];exact Option.some_ne_none _) hx),fun b b' base base' hne hb hb' h1 h2=>h.apart b b' base base' hne hb hb' ?_ ?_,h.imm,fun k arr b base hk hb hl=>h.off k arr b base hk hb ?_,h.glob⟩
 ·cases hx:g' b with
  |none=>exact absurd hx h1
  |some x=>rw [hg b x (by rw [hb];exact Option.some_ne_none _) hx];exact Option.some_ne_none _
 ·cases hx:g' b' with
  |none=>exact absurd hx h2
  |some x=>rw [hg b' x (by rw [hb'];exact Option.some_ne_none _) hx];exact Option.some_ne_none _
 ·cases hx:g' b with
  |none=>exact absurd hx hl
  |some x=>rw [hg b x (by rw [hb];exact Option.some_ne_none _) hx];exact Option.some_ne_none _
structure Inv (nt:Nat) (H:Nat→Aa) (Tm:Nat→T AV) (R:Nat→Rc) (n M:Nat) (ρ0:Ren) (w0:World) (D:Nat→Bool) (ρ:Ren) (tm:Array Value) (w:World):Prop where
 sub:∀j,D j=true→j<n
 closed:∀j,D j=true→∀i,(R j).mask.testBit i=true→D i=true
 size:tm.size=nt
 tmp:∀t x,Tn Tm R D n t=some x→VR ρ x (tm.getD t undef)
 heap:HR ρ (Cn H R D n) w
 free:∀b,(H 0).nx≤b→b<M→ρ b≠none→∃j,D j=true∧(R j).lo≤b∧b<(R j).hi
 le:ρ0.le ρ
 calm:Fq w0 w
 new:∀b base,ρ b=some base→ρ0 b=some base∨((H 0).nx≤b∧b<(H n).nx∧(w0.heap.size≤base.cb∨∃b0 base0,ρ0 b0=some base0∧(H 0).blk.get b0≠none∧base0.cb=base.cb))
 kept:∀k,k<w0.heap.size→(∀b base,ρ0 b=some base→(H 0).blk.get b≠none→base.cb≠k)→w.heap[k]?=w0.heap[k]?
 imm:∀k arr,ρ.imm k=some arr→ρ0.imm k=some arr∨w0.heap.size≤k∨∃b0 base0,ρ0 b0=some base0∧(H 0).blk.get b0≠none∧base0.cb=k
section
variable {E:Env} {callF:Ask→Aa→Option (Bool×AV×Aa)} {all:Array Oper} {nt:Nat} {H:Nat→Aa} {Tm:Nat→T AV} {R:Nat→Rc} {Dd:Nat→Did} {n M:Nat}
 {ρ0 ρ:Ren} {w0 w:World} {tm:Array Value} {D:Nat→Bool} (X:BL E callF all nt H Tm R Dd n)
include X
theorem BL.live {b:Nat} (hb:b<(H 0).nx):∀{j:Nat},j≤n→(H j).blk.get b≠none→(H 0).blk.get b≠none
 |0,_,h=>h
 |j+1,hj,h=>by
  obtain ⟨o,_,g⟩:=X.good j (by omega)
  rw [g.heap] at h;have:=X.mono (i:=0) (j:=j) (by omega) (by omega)
  rcases Fm (X.wfAt (by omega)) g.tx.nx h with h|h
  ·exact BL.live hb (j:=j) (by omega) h
  ·omega
theorem BL.cn_live {b:Nat} (hb:b<(H 0).nx):∀{m:Nat},m≤n→Cn H R D m b≠none→(H 0).blk.get b≠none
 |0,_,h=>h
 |m+1,hm,h=>by
  simp only [Cn] at h;split at h
  ·exact X.live hb (by omega) h
  ·exact BL.cn_live hb (m:=m) (by omega) h
theorem BL.disj {i j b:Nat} (hi:i<n) (hj:j<n) (h1:(R i).lo≤b∧b<(R i).hi) (h2:(R j).lo≤b∧b<(R j).hi):i=j:=by
 rcases Nat.lt_trichotomy i j with h|h|h
 ·have:=X.mono (i:=i+1) (j:=j) (by omega) (by omega)
  have a:=X.hi hi;have c:=X.lo hj;omega
 ·exact h
 ·have:=X.mono (i:=j+1) (j:=i) (by omega) (by omega)
  have a:=X.hi hj;have c:=X.lo hi;omega
theorem BL.agree (I:Inv nt H Tm R n M ρ0 w0 D ρ tm w) (hM:(H n).nx≤M) {j:Nat} (hj:j<n) (hD:D j=false) (hready:∀i,(R j).mask.testBit i=true→D i=true) {b:Nat} {x:Ac} (hb:ρ b≠none)
  (hx:(part (H j) (Dd j).fp).blk.get b=some x):Cn H R D n b=some x:=by
 obtain ⟨o,ho,g⟩:=X.good j hj
 have hxj:(H j).blk.get b=some x∧(∀l,(R j).fp=some l→b∈l):=by
  rw [g.fp];cases hfp:(Dd j).fp with
  |none=>rw [hfp] at hx;exact ⟨hx,(fun l hl=>by cases hl)⟩
  |some ids=>
   rw [hfp] at hx;rcases CT (H j) ids b with q|⟨q1,q2⟩
   ·simp only [part] at hx;rw [q] at hx;cases hx
   ·exact ⟨q2▸hx,fun l hl=>by cases hl;exact q1⟩
 have hlt:b<(H j).nx:=by
  rcases Nat.lt_or_ge b (H j).nx with h|h
  ·exact h
  ·rw [X.wfAt (by omega) b h] at hxj;cases hxj.1
 have hwr:∀i,i<n→i≠j→(i<j→(R j).mask.testBit i=false)→(j<i→(R i).mask.testBit j=false)→b∉(R i).wr:=by
  intro i hi hne h1 h2 hm;rcases Nat.lt_or_ge i j with h|h
  ·have a:=X.apart h hj (h1 h);cases hfp:(R j).fp with
   |none=>rw [a.fp1n hfp] at hm;cases hm
   |some l=>exact a.fp1 b hm l hfp (hxj.2 l hfp)
  ·have a:=X.apart (show j<i by omega) hi (h2 (by omega))
   cases hfp:(R j).fp with
   |none=>rw [a.fp2n hfp] at hm;cases hm
   |some l=>exact a.fp2 b hm l hfp (hxj.2 l hfp)
 have hC:Cn H R D n b=Cn H R D j b:=by
  refine Jd (by omega) fun i h1 h2 hDi=>?_
  have hne:i≠j:=by rintro rfl;rw [hD] at hDi;cases hDi
  refine ⟨hwr i h2 hne (fun h=>by omega) fun h=>?_,?_⟩
  ·cases hb:(R i).mask.testBit j with
   |false=>rfl
   |true=>rw [I.closed i hDi j hb] at hD;cases hD
  ·have:=X.mono (i:=j) (j:=i) h1 (by omega)
   have:=X.lo h2;omega
 rw [hC,X.cn_text (by omega) fun i hi hDi=>?_,hxj.1]
 refine ⟨hwr i (by omega) (by omega) (fun h=>?_) (fun h=>by omega),fun hnew=>?_⟩
 ·cases hb:(R j).mask.testBit i with
  |false=>rfl
  |true=>rw [hready i hb] at hDi;cases hDi
 ·have hlo:=X.lo (show i<n by omega)
  have h0:=X.mono (i:=0) (j:=i) (by omega) (by omega)
  have h1:=X.mono (i:=j) (j:=n) (by omega) (by omega)
  obtain ⟨j',hD',hr'⟩:=I.free b (by omega) (by omega) hb
  have:=X.disj (show i<n by omega) (I.sub j' hD') hnew hr'
  subst this;rw [hDi] at hD';cases hD'
theorem BL.tagree (I:Inv nt H Tm R n M ρ0 w0 D ρ tm w) {j:Nat} (hj:j<n) (hD:D j=false) (hready:∀i,(R j).mask.testBit i=true→D i=true):TR ρ nt (AL (Tm j) (R j).looks) tm:=by
 refine ⟨I.size,fun t x hx=>?_⟩
 obtain ⟨hl,y,hy,rfl⟩:=CY _ _ _ _ hx;refine LQ (I.tmp t y ?_)
 have hT:Tn Tm R D n t=Tn Tm R D j t:=by
  refine Jn (by omega) fun i h1 h2 hDi hd=>?_
  have hne:i≠j:=by rintro rfl;rw [hD] at hDi;cases hDi
  have a:=X.apart (show j<i by omega) h2 (by
   cases hb:(R i).mask.testBit j with
   |false=>rfl
   |true=>rw [I.closed i hDi j hb] at hD;cases hD)
  exact a.look2 t hd hl
 rw [hT,X.tn_text (by omega) fun i hi hDi hd=>?_,hy]
 have a:=X.apart hi hj (by
  cases hb:(R j).mask.testBit i with
  |false=>rfl
  |true=>rw [hready i hb] at hDi;cases hDi)
 exact a.look1 t hd hl
end
end Go.AE
namespace Go.AE
variable [Gl:Au]
variable [U:Unk]
section
variable {E:Env} {callF:Ask→Aa→Option (Bool×AV×Aa)} {all:Array Oper} {nt:Nat} {H:Nat→Aa} {Tm:Nat→T AV} {R:Nat→Rc} {Dd:Nat→Did} {n M:Nat}
 {ρ0 ρ σ:Ren} {w0 w w':World} {tm:Array Value} {D:Nat→Bool} (X:BL E callF all nt H Tm R Dd n)
include X
theorem BL.after (I:Inv nt H Tm R n M ρ0 w0 D ρ tm w) (hM:(H n).nx≤M) {j:Nat} (hj:j<n) (hD:D j=false) (hready:∀i,(R j).mask.testBit i=true→D i=true)
  (q3:HR σ (Dd j).g.blk.get w') (q4:Ext ρ σ (part (H j) (Dd j).fp) (Dd j).g w w'):HR σ (Cn H R (ins D j) n) w':=by
 obtain ⟨o,ho,g⟩:=X.good j hj;have hnxp:(part (H j) (Dd j).fp).nx=(H j).nx:=by cases (Dd j).fp<;>rfl
 have hlogp:(part (H j) (Dd j).fp).log=[]:=by cases (Dd j).fp<;>rfl
 obtain ⟨l,hl1,hl2⟩:=q4.log;rw [hlogp,List.append_nil] at hl1;have hag:∀b x,ρ b≠none→(part (H j) (Dd j).fp).blk.get b=some x→Cn H R D n b=some x:=fun b x hb hx=>X.agree I hM hj hD hready hb hx
 have hlater:∀b,(b∈(R j).wr∨((R j).lo≤b∧b<(R j).hi))→∀i,j<i→i<n→D i=true→b∉(R i).wr∧¬((R i).lo≤b∧b<(R i).hi):=by
  intro b hb i hi hin hDi
  have a:=X.apart hi hin (by
   cases hb:(R i).mask.testBit j with
   |false=>rfl
   |true=>rw [I.closed i hDi j hb] at hD;cases hD)
  have h1:=X.mono (i:=j+1) (j:=i) (by omega) (by omega)
  have h2:=X.hi hj;have h3:=X.lo hin;have h4:=X.lo hj;have h5:=X.le hj;rcases hb with hb|hb
  ·have:=X.wr_lt hj hb;exact ⟨a.wr b hb,fun h=>by omega⟩
  ·exact ⟨fun h=>a.out b h hb,fun h=>by omega⟩
 have hcase:∀b x,Cn H R (ins D j) n b=some x→((b∈(R j).wr∨((R j).lo≤b∧b<(R j).hi))∧(Dd j).g.blk.get b=some x)∨((b∉(R j).wr∧¬((R j).lo≤b∧b<(R j).hi))∧Cn H R D n b=some x):=by
  intro b x hx;by_cases hb:b∈(R j).wr∨((R j).lo≤b∧b<(R j).hi)
  ·refine .inl ⟨hb,?_⟩;rw [Rh hj hb (hlater b hb),g.heap] at hx;rcases hb with hb|hb
   ·rw [g.wr] at hb;rcases FD hb with q|⟨_,q⟩
    ·rw [q] at hx;cases hx
    ·rw [←q];exact hx
   ·rw [g.lo,g.hi] at hb;rw [Gk (X.wfAt (by omega)) g.tx.nx hb.1 hb.2] at hx
    exact hx
  ·have hb1:b∉(R j).wr:=fun q=>hb (.inl q)
   have hb2:¬((R j).lo≤b∧b<(R j).hi):=fun q=>hb (.inr q)
   rw [T2 hD hb1 hb2] at hx;exact .inr ⟨⟨hb1,hb2⟩,hx⟩
 have hgiven:∀b base x,(b∉(R j).wr∧¬((R j).lo≤b∧b<(R j).hi))→σ b=some base→Cn H R D n b=some x→ρ b=some base∧((part (H j) (Dd j).fp).blk.get b≠none→(Dd j).g.blk.get b=some x):=by
  intro b base x hb hs hx
  have hρ:ρ b=some base:=by
   rcases q4.new b base hs with h|⟨h1,h2,_⟩
   ·exact h
   ·rw [hnxp] at h1;exact absurd ⟨g.lo▸h1,g.hi▸h2⟩ hb.2
  refine ⟨hρ,fun hp=>?_⟩
  cases hy:(part (H j) (Dd j).fp).blk.get b with
  |none=>exact absurd hy hp
  |some y=>
   have:=hag b y (by rw [hρ];exact Option.some_ne_none _) hy
   rw [hx] at this;cases this
   have hlt:b<(H j).nx:=by
    rcases Nat.lt_or_ge b (H j).nx with h|h
    ·exact h
    ·have:=I5 (X.wfAt (j:=j) (by omega)) (Dd j).fp b (by rw [hnxp];exact h)
     rw [this] at hy;cases hy
   rw [hl2 b ?_ (.inl (by rw [hnxp];exact hlt)),hy]
   intro hm;refine hb.1 ?_;rw [g.wr,BX,hl1];exact ⟨hm,hlt⟩
 refine ⟨q3.lt,fun b base x hs hx=>?_,fun b b' base base' hne hs hs' h1 h2=>?_,q3.imm,fun k arr b base hk hs hl=>?_,q3.glob⟩
 ·rcases hcase b x hx with ⟨_,hg⟩|⟨hb,hc⟩
  ·exact q3.blk b base x hs hg
  ·obtain ⟨hρ,hgv⟩:=hgiven b base x hb hs hc;by_cases hp:(part (H j) (Dd j).fp).blk.get b=none
   ·have hk:=q4.kept base.cb (I.heap.lt b base hρ) (fun b0 base0 hb0 hl0=>by
     have hne:b0≠b:=by rintro rfl;exact hl0 hp
     cases hy:(part (H j) (Dd j).fp).blk.get b0 with
     |none=>exact absurd hy hl0
     |some y=>
      have:=hag b0 y (by rw [hb0];exact Option.some_ne_none _) hy
      exact I.heap.apart b0 b base0 base hne hb0 hρ (by rw [this];exact Option.some_ne_none _) (by rw [hc];exact Option.some_ne_none _))
    rw [hk];exact (I.heap.blk b base x hρ hc).mono q4.le
   ·exact q3.blk b base x hs (hgv hp)
 ·have key:∀b b' base base',b≠b'→σ b=some base→σ b'=some base'→Cn H R (ins D j) n b≠none→Cn H R (ins D j) n b'≠none→(Dd j).g.blk.get b=none→base.cb≠base'.cb:=by
   intro b b' base base' hne hs hs' h1 h2 hgn;cases hx:Cn H R (ins D j) n b with
   |none=>exact absurd hx h1
   |some x=>
    cases hx':Cn H R (ins D j) n b' with
    |none=>exact absurd hx' h2
    |some x'=>
     rcases hcase b x hx with ⟨_,hg⟩|⟨hb,hc⟩
     ·rw [hgn] at hg;cases hg
     ·obtain ⟨hρ,hgv⟩:=hgiven b base x hb hs hc
      have hp:(part (H j) (Dd j).fp).blk.get b=none:=by
       cases hp:(part (H j) (Dd j).fp).blk.get b with
       |none=>rfl
       |some y=>have:=hgv (by rw [hp];exact Option.some_ne_none _);rw [hgn] at this;cases this
      have hCb:Cn H R D n b≠none:=by rw [hc];exact Option.some_ne_none _
      have hap:∀b0 base0,ρ b0=some base0→(part (H j) (Dd j).fp).blk.get b0≠none→base.cb≠base0.cb:=by
       intro b0 base0 hb0 hl0;have hne0:b≠b0:=by rintro rfl;exact hl0 hp
       cases hy:(part (H j) (Dd j).fp).blk.get b0 with
       |none=>exact absurd hy hl0
       |some y=>
        have:=hag b0 y (by rw [hb0];exact Option.some_ne_none _) hy
        exact I.heap.apart b b0 base base0 hne0 hρ hb0 hCb (by rw [this];exact Option.some_ne_none _)
      rcases hcase b' x' hx' with ⟨hb',hg'⟩|⟨hb',hc'⟩
      ·rcases q4.new b' base' hs' with h|⟨_,_,h|⟨b0,base0,e1,e2,e3⟩⟩
       ·rcases q4.live b' (by rw [hg'];exact Option.some_ne_none _) with hl|⟨hl,hl'⟩
        ·exact hap b' base' h hl
        ·
         rw [hnxp] at hl;have hlo:=X.lo hj;have h0:=X.mono (i:=0) (j:=j) (by omega) (by omega)
         have h1:=X.mono (i:=j+1) (j:=n) (by omega) (by omega)
         have h2:=X.hi hj;rw [g.hi] at h2;obtain ⟨j',hD',hr'⟩:=I.free b' (by omega) (by omega) (by rw [h];exact Option.some_ne_none _)
         have:=X.disj hj (I.sub j' hD') ⟨by omega,by rw [g.hi];exact hl'⟩ hr'
         subst this;rw [hD] at hD';cases hD'
       ·have:=I.heap.lt b base hρ;omega
       ·rw [←e3];exact hap b0 base0 e1 e2
      ·obtain ⟨hρ',_⟩:=hgiven b' base' x' hb' hs' hc';exact I.heap.apart b b' base base' hne hρ hρ' hCb (by rw [hc'];exact Option.some_ne_none _)
  by_cases hg:(Dd j).g.blk.get b=none
  ·exact key b b' base base' hne hs hs' h1 h2 hg
  ·by_cases hg':(Dd j).g.blk.get b'=none
   ·exact fun e=>key b' b base' base (Ne.symm hne) hs' hs h2 h1 hg' e.symm
   ·exact q3.apart b b' base base' hne hs hs' hg hg'
 ·cases hx:Cn H R (ins D j) n b with
  |none=>exact absurd hx hl
  |some x=>
   rcases hcase b x hx with ⟨_,hg⟩|⟨hb,hc⟩
   ·exact q3.off k arr b base hk hs (by rw [hg];exact Option.some_ne_none _)
   ·obtain ⟨hρ,hgv⟩:=hgiven b base x hb hs hc;have hCb:Cn H R D n b≠none:=by rw [hc];exact Option.some_ne_none _
    by_cases hp:(part (H j) (Dd j).fp).blk.get b=none
    ·rcases q4.imm k arr hk with h|h|⟨b0,base0,e1,e2,e3⟩
     ·exact I.heap.off k arr b base h hρ hCb
     ·have:=I.heap.lt b base hρ;omega
     ·have hne0:b≠b0:=by rintro rfl;exact e2 hp
      cases hy:(part (H j) (Dd j).fp).blk.get b0 with
      |none=>exact absurd hy e2
      |some y=>
       have:=hag b0 y (by rw [e1];exact Option.some_ne_none _) hy
       rw [←e3];exact I.heap.apart b b0 base base0 hne0 hρ e1 hCb (by rw [this];exact Option.some_ne_none _)
    ·exact q3.off k arr b base hk hs (by rw [hgv hp];exact Option.some_ne_none _)
theorem BL.step (I:Inv nt H Tm R n M ρ0 w0 D ρ tm w) (hM:(H n).nx≤M) (hfree:Ax ρ0 (H 0).nx M) {j:Nat} (hj:j<n) (hD:D j=false) (hready:∀i,(R j).mask.testBit i=true→D i=true) {v':Value}
  (q2:VR σ (Dd j).v v') (q3:HR σ (Dd j).g.blk.get w') (q4:Ext ρ σ (part (H j) (Dd j).fp) (Dd j).g w w'):Inv nt H Tm R n M ρ0 w0 (ins D j) σ (Hc tm (R j).dst v') w':=by
 obtain ⟨o,ho,g⟩:=X.good j hj;have hnxp:(part (H j) (Dd j).fp).nx=(H j).nx:=by cases (Dd j).fp<;>rfl
 have hlo:=X.lo hj;have hhi:=X.hi hj;have hm0:=X.mono (i:=0) (j:=j) (by omega) (by omega)
 have hmn:=X.mono (i:=j+1) (j:=n) (by omega) (by omega)
 have hold:∀b0 base0,ρ b0=some base0→(part (H j) (Dd j).fp).blk.get b0≠none→w0.heap.size≤base0.cb∨∃b1 base1,ρ0 b1=some base1∧(H 0).blk.get b1≠none∧base1.cb=base0.cb:=by
  intro b0 base0 hb0 hl0;cases hy:(part (H j) (Dd j).fp).blk.get b0 with
  |none=>exact absurd hy hl0
  |some y=>
   have hc:=X.agree I hM hj hD hready (by rw [hb0];exact Option.some_ne_none _) hy
   rcases I.new b0 base0 hb0 with h|⟨_,_,h⟩
   ·right;refine ⟨b0,base0,h,?_,rfl⟩
    have hlt:b0<(H 0).nx:=by
     rcases Nat.lt_or_ge b0 (H 0).nx with q|q
     ·exact q
     ·have hlt:b0<(H j).nx:=by
       rcases Nat.lt_or_ge b0 (H j).nx with h|h
       ·exact h
       ·have:=I5 (X.wfAt (j:=j) (by omega)) (Dd j).fp b0 (by rw [hnxp];exact h)
        rw [this] at hy;cases hy
      have:=X.le hj;rw [hfree b0 q (by omega)] at h;cases h
    exact X.cn_live (D:=D) hlt (Nat.le_refl n) (by rw [hc];exact Option.some_ne_none _)
   ·exact h
 refine ⟨?_,?_,?_,?_,X.after I hM hj hD hready q3 q4,?_,I.le.trans q4.le,I.calm.trans q4.calm,?_,?_,?_⟩
 ·intro i hi;by_cases e:i=j
  ·omega
  ·exact I.sub i (by simpa [ins,e] using hi)
 ·intro i hi k hk;by_cases e:i=j
  ·subst e;have:=hready k hk;by_cases e2:k=i
   ·simp [ins,e2]
   ·simpa [ins,e2] using this
  ·have:=I.closed i (by simpa [ins,e] using hi) k hk
   by_cases e2:k=j
   ·simp [ins,e2]
   ·simpa [ins,e2] using this
 ·unfold Hc;split<;>simp [I.size]
 ·intro t x hx;by_cases hd:(R j).dst=some t
  ·rw [Rw hj hd (fun i h1 h2 hDi hdi=>by
    have a:=X.apart h1 h2 (by
     cases hb:(R i).mask.testBit j with
     |false=>rfl
     |true=>rw [I.closed i hDi j hb] at hD;cases hD)
    exact a.dst t hd hdi)] at hx
   have hp:=g.put;rw [g.dst] at hd;rw [hd] at hp;simp only [DB] at hp;cases hb:Nat.blt t nt with
   |false=>rw [hb] at hp;cases hp
   |true=>
    rw [hb] at hp;simp only [Option.some.injEq] at hp;rw [←hp,T.get_set,if_pos rfl] at hx;cases hx;have hlt:t<tm.size:=by rw [I.size];simpa [Nat.blt_eq] using hb
    rw [g.dst,hd];simpa [Hc,Array.getD_eq_getD_getElem?,hlt] using q2
  ·rw [RX hD hd] at hx;have:=(I.tmp t x hx).mono q4.le;unfold Hc;split
   ·rename_i d hdd;have hne:d≠t:=by rintro rfl;exact hd hdd
    simpa [Array.getD_eq_getD_getElem?,Array.getElem?_setIfInBounds_ne hne] using this
   ·exact this
 ·intro b h1 h2 hb;cases hs:σ b with
  |none=>exact absurd hs hb
  |some base=>
   rcases q4.new b base hs with h|⟨a1,a2,_⟩
   ·obtain ⟨i,hi,hr⟩:=I.free b h1 h2 (by rw [h];exact Option.some_ne_none _)
    refine ⟨i,?_,hr⟩;by_cases e:i=j
    ·simp [ins,e]
    ·simpa [ins,e] using hi
   ·exact ⟨j,by simp [ins],by omega,by rw [g.hi];exact a2⟩
 ·intro b base hs;rcases q4.new b base hs with h|⟨a1,a2,a3⟩
  ·exact I.new b base h
  ·right;rw [g.hi] at hhi;refine ⟨by omega,by omega,?_⟩
   rcases a3 with a3|⟨b0,base0,e1,e2,e3⟩
   ·left;have:=I.calm.size;omega
   ·rw [←e3];exact hold b0 base0 e1 e2
 ·intro k hk hno
  rw [q4.kept k (by have:=I.calm.size;omega) (fun b0 base0 hb0 hl0=>by
   rcases hold b0 base0 hb0 hl0 with h|⟨b1,base1,e1,e2,e3⟩
   ·omega
   ·rw [←e3];exact hno b1 base1 e1 e2)]
  exact I.kept k hk hno
 ·intro k arr hk;rcases q4.imm k arr hk with h|h|⟨b0,base0,e1,e2,e3⟩
  ·exact I.imm k arr h
  ·right;left;have:=I.calm.size;omega
  ·right;rcases hold b0 base0 e1 e2 with h|⟨b1,base1,f1,f2,f3⟩
   ·left;omega
   ·right;exact ⟨b1,base1,f1,f2,f3.trans e3⟩
end
end Go.AE
namespace Go.AE
variable [Gl:Au]
variable [U:Unk]
theorem Ih {j:Nat}:∀{rest:List Oper} {recs:List Rc},(∀i x,i<j→recs[i]?=some x→x.mask.testBit j=false)→j<recs.length→Eo recs j rest=true→∀o∈rest,∃e∈o.after.toList,Region.binds .any e=true∧j≤e.on
 |[],recs,_,_,_,o,ho=>by cases ho
 |o::rest,recs,hb,hj,h,x,hx=>by
  simp only [Eo] at h;cases hm:Bs recs o.after.toList with
  |none=>rw [hm] at h;cases h
  |some mask=>
   rw [hm] at h;simp only [RP] at h;cases ht:mask.testBit j with
   |false=>rw [ht] at h;cases h
   |true=>
    rw [ht] at h;rcases List.mem_cons.1 hx with rfl|hx
    ·obtain ⟨e,he,hbe,y,hy,hh⟩:=((C4 hm).2 j).1 ht;refine ⟨e,he,hbe,?_⟩;rcases Nat.lt_or_ge e.on j with hlt|hge
     ·rcases hh with hh|hh
      ·rw [hb e.on y hlt hy] at hh;cases hh
      ·omega
     ·exact hge
    ·refine Ih (recs:=recs++[{wr:=[],fp:=none,lo:=0,hi:=0,dst:=none,looks:=[],mask}]) (fun i y hi hy=>?_) (by simp;omega) h x hx
     rw [List.getElem?_append_left (by omega)] at hy
     exact hb i y hi hy
theorem Pp {E:Env} {callF:Ask→Aa→Option (Bool×AV×Aa)} {all:Array Oper} {o:Oper} {t:T AV} {h:Aa} {d:Did} (hd:CD E callF all o t h=some d) (hok:d.ok=false):d.fp=none:=by
 unfold CD at hd;split at hd
 ·cases hd
 ·cases hd;cases hok
 ·split at hd
  ·simp only at hd;split at hd
   ·cases hd;cases hok
   ·cases hd
  ·split at hd
   ·split at hd
    ·cases hd;rfl
    ·cases hd
   ·split at hd
    ·cases hd;rfl
    ·cases hd
   ·cases hd
section
variable {E:Env} {callF:Ask→Aa→Option (Bool×AV×Aa)} {all:Array Oper} {nt:Nat} {H:Nat→Aa} {Tm:Nat→T AV} {R:Nat→Rc} {Dd:Nat→Did} {n M:Nat}
 {ρ0 ρ σ:Ren} {w0 w w':World} {tm:Array Value} {D:Nat→Bool} (X:BL E callF all nt H Tm R Dd n)
include X
omit X in
theorem rU (ht:TR ρ0 nt (Tm 0) tm) (hr:HR ρ0 (H 0).blk.get w0) (hfree:Ax ρ0 (H 0).nx M) (hD:∀i,D i=false):Inv nt H Tm R n M ρ0 w0 D ρ0 tm w0:=by
 have hno:∀i,D i≠true:=fun i h=>by rw [hD i] at h;cases h
 refine ⟨fun j h=>absurd h (hno j),fun j h=>absurd h (hno j),ht.size,fun t x hx=>ht.get t x ?_,hr.weaken fun b x hb hx=>?_,fun b h1 h2 hb=>absurd (hfree b h1 h2) hb,Ren.le_refl _,Fq.refl _,fun b base h=>.inl h,fun k hk hno=>rfl,fun k arr h=>.inl h⟩
 ·rw [Jn (j:=0) (Nat.zero_le _) fun i _ _ h=>absurd h (hno i)] at hx;exact hx
 ·rw [Jd (j:=0) (Nat.zero_le _) fun i _ _ h=>absurd h (hno i)] at hx;exact hx
theorem BL.logs:∀{j:Nat},j≤n→∃l,(H j).log=l++(H 0).log∧∀b,b∉l→(b<(H 0).nx∨(H j).nx≤b)→(H j).blk.get b=(H 0).blk.get b
 |0,_=>⟨[],rfl,fun _ _ _=>rfl⟩
 |j+1,hj=>by
  obtain ⟨l,h1,h2⟩:=BL.logs (j:=j) (by omega)
  obtain ⟨o,_,g⟩:=X.good j (by omega)
  have hm:=X.mono (i:=0) (j:=j) (by omega) (by omega)
  have hl:=X.lo (show j<n by omega)
  have hh:=X.hi (show j<n by omega)
  have hle:=X.le (show j<n by omega)
  refine ⟨(R j).wr++l,?_,fun b hb ho=>?_⟩
  ·rw [g.heap,g.wr,List.append_assoc,←h1];rfl
  ·simp only [List.mem_append,not_or] at hb;rw [X.stay (by omega) hb.1 (by omega),h2 b hb.2 (by omega)]
theorem BL.final (I:Inv nt H Tm R n M ρ0 w0 D ρ tm w) (hD:∀i,i<n→D i=true):TR ρ nt (Tm n) tm∧HR ρ (H n).blk.get w∧Ext ρ0 ρ (H 0) (H n) w0 w:=by
 have hno:∀i,i<n→D i≠false:=fun i hi h=>by rw [hD i hi] at h;cases h
 refine ⟨⟨I.size,fun t x hx=>I.tmp t x ?_⟩,I.heap.weaken fun b x hb hx=>?_,⟨I.le,X.mono (Nat.zero_le _) (Nat.le_refl _),I.new,I.calm,I.kept,X.logs (Nat.le_refl _),fun b hb=>?_,I.imm⟩⟩
 ·rw [X.tn_text (Nat.le_refl _) fun i hi h=>absurd h (hno i hi)];exact hx
 ·rw [X.cn_text (Nat.le_refl _) fun i hi h=>absurd h (hno i hi)];exact hx
 ·rcases Nat.lt_or_ge b (H 0).nx with h|h
  ·exact .inl (X.live h (Nat.le_refl _) hb)
  ·refine .inr ⟨h,?_⟩;rcases Nat.lt_or_ge b (H n).nx with h'|h'
   ·exact h'
   ·exact absurd (X.wfAt (Nat.le_refl _) b h') hb
omit X in
theorem N2 {j:Nat} {o:Oper} (t:Tx E callF all H Tm R Dd j o) {e:Edge} (he:e∈o.after.toList) (hb:Region.binds .any e=true):e.on<j:=by
 obtain ⟨x,hx⟩:=(C4 t.mask).1 e he hb;have:=(List.getElem?_eq_some_iff.1 hx).1;simpa using this
omit X in
theorem Ql {j:Nat} {o:Oper} (t:Tx E callF all H Tm R Dd j o) (hcl:∀j,D j=true→∀i,(R j).mask.testBit i=true→D i=true)
  (hon:∀e∈o.after.toList,Region.binds .any e=true→D e.on=true) {i:Nat} (hi:(R j).mask.testBit i=true):D i=true:=by
 obtain ⟨e,he,hb,x,hx,h⟩:=((C4 t.mask).2 i).1 hi;have hlt:=N2 t he hb;rw [List.getElem?_map,List.getElem?_range hlt] at hx;simp only [Option.map_some,Option.some.injEq] at hx;subst hx;rcases h with h|h
 ·exact hcl e.on (hon e he hb) i h
 ·rw [h];exact hon e he hb
end
end Go.AE
namespace Go.AE
variable [Gl:Au]
variable [U:Unk]
theorem Ly:∀{l:List Bool} {i:Nat},l[i]?=some false→(l.set i true).count true=l.count true+1
 |[],i,h=>by cases h
 |b::l,0,h=>by
  simp only [List.getElem?_cons_zero,Option.some.injEq] at h;subst h;simp
 |b::l,i+1,h=>by
  have:=Ly (l:=l) (i:=i) (by simpa using h)
  simp only [List.set_cons_succ,List.count_cons,this];omega
theorem SN {a:Array Bool} {i:Nat} (hi:i<a.size):(fun j=>(a.setIfInBounds i true).getD j false)=ins (fun j=>a.getD j false) i:=by
 funext j
 simp only [ins,Array.getD_eq_getD_getElem?];by_cases e:j=i
 ·subst e;simp [hi]
 ·rw [if_neg e,Array.getElem?_setIfInBounds_ne (Ne.symm e)]
section
variable {E:Env} (hE:OK E) {callF:Ask→Aa→Option (Bool×AV×Aa)} (hF:Dv E callF) {all:Array Oper} {nt:Nat} {H:Nat→Aa} {Tm:Nat→T AV} {R:Nat→Rc} {Dd:Nat→Did} {n M:Nat}
 {ρ0:Ren} {w0:World} {k:List Item} {cs:List Frame} (X:BL E callF all nt H Tm R Dd n)
include hE hF X
theorem BL.sched (hM:(H n).nx≤M) (hfree:Ax ρ0 (H 0).nx M) (hle:n≤all.size)
  (hbad:n<all.size→∃o,all[n]?=some o∧Bad E callF all H Tm R Dd n o (all.toList.drop (n+1))) :
  ∀(fuel t:Nat) (listed:Array Bool) (ρ:Ren) (w:World) (c:Frame),c.mode=.run→c.todo=.inRegion all (Region.linearise.go .any all fuel t listed [])::k→listed.size=all.size→
   all.size≤fuel+listed.toList.count true→Inv nt H Tm R n M ρ0 w0 (fun i=>listed.getD i false) ρ c.tmps w→
   ∃rest σ tm' w' D',Inv nt H Tm R n M ρ0 w0 D' σ tm' w'∧(∀i,i<n→D' i=true)∧Steps E.P (lone c cs w) (lone {c with tmps:=tm',todo:=.inRegion all rest::k} cs w')∧
    (n=all.size→rest=[])∧(n<all.size→∃r,rest=n::r):=by
 have htx:∀j,j<all.size→j≤n→∃o,all[j]?=some o∧Tx E callF all H Tm R Dd j o:=by
  intro j hj hjn;rcases Nat.lt_or_ge j n with h|h
  ·obtain ⟨o,h1,h2⟩:=X.good j h;exact ⟨o,h1,h2.tx⟩
  ·have:j=n:=by omega
   subst this;obtain ⟨o,h1,h2⟩:=hbad hj;exact ⟨o,h1,h2.tx⟩
 have hend:∀(listed:Array Bool) (ρ:Ren) (w:World) (c:Frame),listed.size=all.size→c.todo=.inRegion all []::k→Inv nt H Tm R n M ρ0 w0 (fun i=>listed.getD i false) ρ c.tmps w→(∀i,i<all.size→listed.getD i false=true)→
   ∃rest σ tm' w' D',Inv nt H Tm R n M ρ0 w0 D' σ tm' w'∧(∀i,i<n→D' i=true)∧Steps E.P (lone c cs w) (lone {c with tmps:=tm',todo:=.inRegion all rest::k} cs w')∧
    (n=all.size→rest=[])∧(n<all.size→∃r,rest=n::r):=by
  intro listed ρ w c hsz ht I hall;refine ⟨[],ρ,c.tmps,w,_,I,fun i hi=>hall i (by omega),?_,fun _=>rfl,fun h=>?_⟩
  ·rw [←ht];exact Steps.refl _ _
  ·exact absurd (I.sub n (hall n h)) (Nat.lt_irrefl _)
 intro fuel
 induction fuel with
 |zero=>
  intro t listed ρ w c hm ht hsz hcnt I;refine hend listed ρ w c hsz (by simpa [Region.linearise.go] using ht) I fun i hi=>?_
  have hlen:listed.toList.count true=listed.toList.length:=by
   have:=List.count_le_length (a:=true) (l:=listed.toList);have e:listed.toList.length=listed.size:=Array.length_toList;omega
  have:=(List.count_eq_length.1 hlen) (listed[i]'(by omega)) (by simp)
  rw [Array.getD_eq_getD_getElem?];simp [hsz,hi,←this]
 |succ fuel ih=>
  intro t listed ρ w c hm ht hsz hcnt I
  have hgo:Region.linearise.go .any all (fuel+1) t listed []=(match (Region.ready .any all listed)[t%(Region.ready .any all listed).length]? with
   |some i=>Region.linearise.go .any all fuel (t/(Region.ready .any all listed).length) (listed.setIfInBounds i true) [i]
   |none=>[].reverse):=rfl
  cases hi:(Region.ready .any all listed)[t%(Region.ready .any all listed).length]? with
  |none=>
   have hnil:Region.ready .any all listed=[]:=by
    cases hr:Region.ready .any all listed with
    |nil=>rfl
    |cons x xs=>
     rw [hr] at hi;have hlt:t%(x::xs).length<(x::xs).length:=Nat.mod_lt _ (by simp)
     simp at hi;simp at hlt;omega
   rw [hgo,hi] at ht;refine hend listed ρ w c hsz ht I fun i=>?_
   induction i using Nat.strongRecOn with
   |ind i ihi=>
    intro hia;cases hli:listed.getD i false with
    |true=>rfl
    |false=>
     exfalso
     have hin:i≤n:=by
      rcases Nat.lt_or_ge n i with h|h
      ·exact absurd (I.sub n (ihi n h (by omega))) (Nat.lt_irrefl _)
      ·exact h
     obtain ⟨o,ho,tx⟩:=htx i hia hin
     have:i∈Region.ready .any all listed:=by
      unfold Region.ready;rw [List.mem_filter];refine ⟨by simpa using hia,?_⟩
      have h1:listed.getD i true=false:=by
       rw [Array.getD_eq_getD_getElem?] at hli ⊢;have:i<listed.size:=by omega
       simpa [this] using hli
      simp only [h1,ho,Option.map_some,Option.getD_some,Bool.not_false,Bool.true_and];rw [Array.all_eq_true_iff_forall_mem];intro e he;cases hb:Region.binds .any e with
      |false=>rfl
      |true=>
       have hlt:=N2 tx (by simpa using he) hb
       simp [ihi e.on hlt (by omega)]
     rw [hnil] at this;cases this
  |some i=>
   have hmem:i∈Region.ready .any all listed:=List.mem_of_getElem? hi;rw [hgo,hi] at ht;simp only at ht;rw [linearise_go_acc,List.reverse_singleton,List.singleton_append] at ht;unfold Region.ready at hmem;rw [List.mem_filter] at hmem;obtain ⟨hia,hcond⟩:=hmem;simp only [List.mem_range] at hia;simp only [Bool.and_eq_true,Bool.not_eq_true'] at hcond;obtain ⟨hun,hedges⟩:=hcond
   have hun':listed.getD i false=false:=by
    rw [Array.getD_eq_getD_getElem?] at hun ⊢;have:i<listed.size:=by omega
    simpa [this] using hun
   have hon:∀o,all[i]?=some o→∀e∈o.after.toList,Region.binds .any e=true→listed.getD e.on false=true:=by
    intro o ho e he hb;rw [ho] at hedges;simp only [Option.map_some,Option.getD_some] at hedges;rw [Array.all_eq_true_iff_forall_mem] at hedges;have:=hedges e (by simpa using he)
    simpa [hb] using this
   rcases Nat.lt_trichotomy i n with hin|hin|hin
   ·obtain ⟨o,ho,g⟩:=X.good i hin;have hready:∀q,(R i).mask.testBit q=true→(fun i=>listed.getD i false) q=true:=fun q hq=>Ql (D:=fun i=>listed.getD i false) g.tx I.closed (hon o ho) hq
    have hD:(fun i=>listed.getD i false) i=false:=hun'
    have htr:=X.tagree I hin hD hready;rw [g.looks] at htr;have hlo:=X.lo hin;have hhi:=X.hi hin;have hm0:=X.mono (i:=0) (j:=i) (by omega) (by omega)
    have hmn:=X.mono (i:=i+1) (j:=n) (by omega) (by omega)
    rw [g.hi] at hhi
    have hfr:Ax ρ (H i).nx (Dd i).g.nx:=by
     intro b h1 h2;cases hb:ρ b with
     |none=>rfl
     |some base=>
      obtain ⟨j',hD',hr'⟩:=I.free b (by omega) (by omega) (by rw [hb];exact Option.some_ne_none _)
      have:=X.disj hin (I.sub j' hD') ⟨by omega,by rw [g.hi];exact h2⟩ hr'
      subst this;rw [hun'] at hD';cases hD'
    obtain ⟨σ,v',w',q1,q2,q3,q4⟩:=LJ hE hF (cs:=cs) g.tx.did (X.wfAt (by omega)) hm ht ho htr (I.heap.weaken fun b x hb hx=>X.agree I hM hin hD hready hb hx) hfr
    have I':=X.step I hM hfree hin hD hready q2 q3 q4;rw [←SN (by omega)] at I'
    rw [g.ok] at q1
    have efin:c.finish v'={c with tmps:=Hc c.tmps (R i).dst v',todo:=.inRegion all (Region.linearise.go .any all fuel (t/(Region.ready .any all listed).length) (listed.setIfInBounds i true) [])::k}:=by
     simp only [Frame.finish,ht,ho,Option.bind_some,Hc,g.dst];cases o.dst<;>rfl
    simp only [BK] at q1;rw [efin] at q1
    obtain ⟨rest,τ,tm',w2,D',r1,r2,r3,r4,r5⟩:=ih _ (listed.setIfInBounds i true) σ w' {c with tmps:=Hc c.tmps (R i).dst v',todo:=.inRegion all (Region.linearise.go .any all fuel (t/(Region.ready .any all listed).length) (listed.setIfInBounds i true) [])::k} hm rfl (by simp [hsz]) (by
     rw [Array.toList_setIfInBounds,Ly]
     ·omega
     ·have:i<listed.size:=by omega
      rw [Array.getD_eq_getD_getElem?] at hun';simpa [this] using hun') I'
    exact ⟨rest,τ,tm',w2,D',r1,r2,Steps.trans q1 r3,r4,r5⟩
   ·subst hin;obtain ⟨o,ho,b⟩:=hbad hia;refine ⟨i::Region.linearise.go .any all fuel (t/(Region.ready .any all listed).length) (listed.setIfInBounds i true) [],ρ,c.tmps,w,_,I,fun q hq=>?_,?_,fun h=>by omega,fun _=>⟨_,rfl⟩⟩
    ·refine Ql (D:=fun i=>listed.getD i false) b.tx I.closed (hon o ho) ?_
     have:(R i).mask=2^i-1:=by have:=b.all;omega
     rw [this,Nat.testBit_two_pow_sub_one];simpa using hq
    ·rw [←ht];exact Steps.refl _ _
   ·exfalso
    obtain ⟨o,ho,b⟩:=hbad (by omega)
    obtain ⟨recs,a1,a2,a3⟩:=b.after;have hoi:all[i]?=some all[i]:=by simp [hia]
    have:=Ih (recs:=recs++[{wr:=[],fp:=none,lo:=0,hi:=0,dst:=none,looks:=[],mask:=(R n).mask}]) (fun q x hq hx=>?_) (by simp [a1]) a3 all[i] ?_
    ·obtain ⟨e,he,hb,hge⟩:=this;have:=hon _ hoi e he hb;have:=I.sub e.on this;omega
    ·rw [List.getElem?_append_left (by omega),a2,List.getElem?_map,List.getElem?_range hq] at hx
     simp only [Option.map_some,Option.some.injEq] at hx;subst hx;cases hbit:(R q).mask.testBit n with
     |false=>rfl
     |true=>have:=X.bits hq hbit;omega
    ·rw [List.mem_iff_getElem?];refine ⟨i-(n+1),?_⟩;rw [List.getElem?_drop];rw [show n+1+(i-(n+1))=i by omega]
     simp
end
end Go.AE
namespace Go.AE
variable [Gl:Au]
variable [U:Unk]
theorem EU {f:AF} {cs:List AF} {v v2:AV} {h h2:Aa} {ok:Bool} (hx:B8 f cs v h=.done ok v2 h2):cs=[]∧f.kind=.normal∧ok=true∧v2=v∧h2=h:=by
 unfold B8 at hx;split at hx
 ·split at hx
  ·split at hx<;>cases hx
  ·split at hx<;>cases hx
  ·cases hx
 ·split at hx
  ·rename_i hk;cases hx;exact ⟨rfl,hk,rfl,rfl,rfl⟩
  ·cases hx
theorem EC {f:AF} {cs:List AF} {v:AV} {h:Aa} {s:AS} {ops:Array Oper} {k:List AI}:B8 f cs v h≠.draw s ops k:=by
 intro hx;unfold B8 at hx;split at hx
 ·split at hx
  ·split at hx<;>cases hx
  ·split at hx<;>cases hx
  ·cases hx
 ·split at hx<;>cases hx
theorem D2 {E:Env} {f:AF} {cs:List AF} {r:Res}:(∃s,Bi E f cs r=.next s)∨∃y,Bi E f cs r=.bad y:=by
 cases r<;>simp only [Bi]<;>repeat' (first|exact .inl ⟨_,rfl⟩|exact .inr ⟨_,rfl⟩|split)
theorem G0 {E:Env} {s:AS} {f:Operand} {ps:List Tmp} {a b:Code} {k:List AI}:(∃s',FP E s f ps a b k=.next s')∨∃y,FP E s f ps a b k=.bad y:=by
 unfold FP
 repeat' (first|exact .inl ⟨_,rfl⟩|exact .inr ⟨_,rfl⟩|split)
theorem D3 {f:AF} {cs:List AF} {h:Aa} {j:Option Code} {s:AS} {ops:Array Oper} {k:List AI}:C6 f cs h j≠.draw s ops k:=by
 intro hx;unfold C6 at hx;split at hx
 ·split at hx<;>cases hx
 ·split at hx
  ·exact EC hx
  ·cases hx
theorem LN {E:Env} {f:AF} {cs:List AF} {h:Aa} {s:AS} {ops:Array Oper} {k:List AI}:Dl E f cs h≠.draw s ops k:=by
 intro hx;unfold Dl at hx;split at hx
 ·split at hx
  ·split at hx<;>cases hx
  ·split at hx
   ·split at hx<;>cases hx
   ·cases hx
 ·split at hx
  ·cases hx
  ·split at hx
   ·split at hx<;>cases hx
   ·split at hx
    ·split at hx<;>cases hx
    ·cases hx
  ·split at hx
   ·split at hx
    ·exact EC hx
    ·exact EC hx
    ·cases hx
   ·cases hx
theorem Ce {E:Env} {s s':AS} {ops:Array Oper} {k:List AI} (hx:AQ E s=.draw s' ops k):s'=s∧s.fr.mode=.run∧∃id,s.fr.todo=.code (.region id ops true)::k:=by
 unfold AQ at hx;simp only at hx;split at hx
 ·rename_i hm;split at hx
  ·exact absurd hx D3
  ·cases hx
  ·cases hx
  ·cases hx
  ·cases hx
  ·split at hx
   ·rcases D2 (E:=E) (f:=s.fr) (cs:=s.cs) (r:=aop E s.fr.tmps s.h _) with ⟨y,h⟩|⟨y,h⟩<;>(rw [h] at hx;cases hx)
   ·rcases D2 (E:=E) (f:=s.fr) (cs:=s.cs) (r:=.val .undef s.h) with ⟨y,h⟩|⟨y,h⟩<;>(rw [h] at hx;cases hx)
   ·cases hx
  ·cases hx
  ·cases hx
  ·cases hx
  ·split at hx
   ·split at hx<;>cases hx
   ·cases hx
  ·split at hx
   ·split at hx<;>cases hx
   ·cases hx
  ·rename_i c k2 ht;split at hx
   ·exact absurd hx D3
   ·cases hx
   ·cases hx
   ·cases hx
   ·split at hx
    ·cases hx
    ·cases hx
    ·split at hx
     ·split at hx<;>cases hx
     ·cases hx
    ·cases hx
   ·cases hx
   ·cases hx
   ·cases hx
   ·split at hx
    ·cases hx
    ·split at hx
     ·cases hx
     ·exact absurd hx D3
   ·split at hx
    ·cases hx
    ·split at hx
     ·cases hx
     ·exact absurd hx D3
   ·rcases G0 (E:=E) (s:=s) with ⟨y,h⟩|⟨y,h⟩<;>(rw [h] at hx;cases hx)
   ·split at hx
    ·cases hx
    ·cases hx;exact ⟨rfl,hm,_,ht⟩
   ·cases hx
 ·exact absurd hx LN
end Go.AE
namespace Go.AE
variable [Gl:Au]
variable [U:Unk]
def lO (ok:Bool) (v:Value):Ending:=match ok with
 |true=>.returned v
 |false=>.panicked [{v:=v,recovered:=false}]
def bK (c0:Frame) (ok:Bool) (v:Value):Frame:=match ok with
 |true=>c0.finish v
 |false=>c0.raise [{v:=v,recovered:=false}]
structure IU (P:Program) (cf:Frame) (w:World) (ok:Bool) (v':Value) (w':World):Prop where
 back:∀(c0:Frame) (base:List Frame),step P (lone cf (c0::base) w)=.next (lone (bK c0 ok v') base w')
 leaves:cf.roundOf=none→w'=w∧cf.leaving P w (lO ok v')
section
variable {E:Env} (hE:OK E) {ρ:Ren} {h h2:Aa} {w:World} {c:Frame} {f:AF} {cs:List AF} {ccs base:List Frame} {s s':AS} {ok:Bool} {v:AV}
theorem FrL.nil_inv {ρ:Ren} {l:List Frame} (h:FrL ρ [] l):l=[]:=by cases h;rfl
theorem DU (hr:HR ρ h.blk.get w) (hf:FrR ρ f c) (hm:c.mode=.run) {jump:Option Code}
  (ht:(c.todo=[]∧jump=none)∨(∃k,c.todo=.code .ret::k∧jump=some .ret)∨(∃id k,c.todo=.code (.exit id)::k∧exitTo id k=none∧jump=some (.exit id))∨(∃l k,c.todo=.code (.goto l)::k∧gotoIn l k=none∧jump=some (.goto l)))
  (hx:C6 f cs h jump=.done ok v h2):cs=[]∧∃v' w',VR ρ v v'∧HR ρ h2.blk.get w'∧Ext ρ ρ h h2 w w'∧IU E.P c w ok v' w':=by
 have hround:=hf.round;unfold C6 at hx;split at hx
 ·split at hx<;>cases hx
 ·rename_i l hrs;rw [hrs] at hround;obtain ⟨b,hb,hro⟩:=hround.some_inv;split at hx
  ·rename_i st pending fn nt tmps params assign body d hl;obtain ⟨w',q1,q2,q3⟩:=Ij (E:=E) hr hb hl jump;obtain ⟨rfl,hk,rfl,rfl,rfl⟩:=EU hx;refine ⟨rfl,_,w',.bool _,q2,q3,⟨fun c0 base=>NB hm hro (hf.kind.trans hk) ht q1,fun h=>by rw [hro] at h;cases h⟩⟩
  ·cases hx
include hE
theorem Mt (hr:HR ρ h.blk.get w) (hf:FrR ρ f c) (hm:c.mode≠.run) (hx:Dl E f cs h=.done ok v h2):cs=[]∧∃v' w',VR ρ v v'∧HR ρ h2.blk.get w'∧Ext ρ ρ h h2 w w'∧IU E.P c w ok v' w':=by
 have hdef:=hf.defers;unfold Dl at hx;split at hx
 ·split at hx
  ·split at hx<;>cases hx
  ·split at hx
   ·split at hx<;>cases hx
   ·cases hx
 ·rename_i hfd;rw [hfd] at hdef
  have hcd:c.defers=[]:=by
   cases hcd:c.defers with
   |nil=>rfl
   |cons d' ds'=>rw [hcd] at hdef;exact hdef.elim
  have hmode:=hf.mode;split at hx
  ·cases hx
  ·rename_i chain hfm;rw [hfm] at hmode;split at hx
   ·split at hx<;>cases hx
   ·split at hx
    ·split at hx
     ·rename_i fn hfn;cases hx;generalize hcm:c.mode=cm at hmode;cases hmode with
      |panic _ ch' hch=>
       cases ch' with
       |nil=>exact hch.elim
       |cons e r=>
        obtain ⟨h1,h2,h3,h4⟩:=hch;cases r with
        |cons _ _=>exact h4.elim
        |nil=>
         obtain ⟨ev,er,eg⟩:=e;simp only at h1 h2 h3;subst h2;subst h3;have hl:c.leaving E.P w (.panicked [{v:=ev,recovered:=false}]):=⟨hcm,hcd,fn,by rw [hf.fn];exact hE.fn _ _ hfn⟩
         exact ⟨rfl,ev,w,h1,hr,Ext.refl _ _ _,⟨fun c0 base=>step_leave_panicked hl,fun _=>⟨rfl,hl⟩⟩⟩
     ·cases hx
    ·cases hx
  ·rename_i hfm;rw [hfm] at hmode
   have hcm:c.mode=.returning:=by
    generalize c.mode=x at hmode;cases hmode;rfl
   split at hx
   ·rename_i fn hfn;have hfn':E.P.funcs[c.fn]?=some fn:=by rw [hf.fn];exact hE.fn _ _ hfn
    split at hx
    ·rename_i v hrs;obtain ⟨v',p1,p2,p3⟩:=EI hE hr hf hrs;obtain ⟨rfl,hk,rfl,rfl,rfl⟩:=EU hx;have hl:c.leaving E.P w (.returned v'):=⟨hcm,hcd,hf.kind.trans hk,fn,hfn',p1⟩;exact ⟨rfl,v',w,p2 _ rfl,hr,Ext.refl _ _ _,⟨fun c0 base=>step_leave_returned hl,fun _=>⟨rfl,hl⟩⟩⟩
    ·rename_i l hne hrs;obtain ⟨v',p1,p2,p3⟩:=EI hE hr hf hrs;obtain ⟨rfl,hk,rfl,rfl,rfl⟩:=EU hx;have hl:c.leaving E.P w (.returned v'):=⟨hcm,hcd,hf.kind.trans hk,fn,hfn',p1⟩;exact ⟨rfl,v',w,p3 fun a e=>hne a (by rw [e]),hr,Ext.refl _ _ _,⟨fun c0 base=>step_leave_returned hl,fun _=>⟨rfl,hl⟩⟩⟩
    ·cases hx
   ·cases hx
theorem GA (hsr:SR ρ s c ccs w) (hx:AQ E s=.done ok v h2):ccs=[]∧∃v' w',VR ρ v v'∧HR ρ h2.blk.get w'∧Ext ρ ρ s.h h2 w w'∧IU E.P c w ok v' w':=by
 have hmode:=hsr.fr.mode;have htodo:=hsr.fr.todo
 suffices hs:s.cs=[]∧∃v' w',VR ρ v v'∧HR ρ h2.blk.get w'∧Ext ρ ρ s.h h2 w w'∧IU E.P c w ok v' w' by
  obtain ⟨h1,h2⟩:=hs;have hcs:=hsr.cs;rw [h1] at hcs;exact ⟨hcs.nil_inv,h2⟩
 unfold AQ at hx;simp only at hx;split at hx
 ·rename_i hmf;rw [hmf] at hmode
  have hm:c.mode=.run:=by
   generalize c.mode=x at hmode;cases hmode;rfl
  split at hx
  ·rename_i ht;rw [ht] at htodo;generalize hct:c.todo=td at htodo;cases htodo;exact DU hsr.h hsr.fr hm (.inl ⟨hct,rfl⟩) hx
  ·cases hx
  ·cases hx
  ·cases hx
  ·cases hx
  ·split at hx
   ·rcases D2 (E:=E) (f:=s.fr) (cs:=s.cs) (r:=aop E s.fr.tmps s.h _) with ⟨y,h⟩|⟨y,h⟩<;>(rw [h] at hx;cases hx)
   ·rcases D2 (E:=E) (f:=s.fr) (cs:=s.cs) (r:=.val .undef s.h) with ⟨y,h⟩|⟨y,h⟩<;>(rw [h] at hx;cases hx)
   ·cases hx
  ·cases hx
  ·cases hx
  ·cases hx
  ·split at hx
   ·split at hx<;>cases hx
   ·cases hx
  ·split at hx
   ·split at hx<;>cases hx
   ·cases hx
  ·rename_i cd k ht;rw [ht] at htodo;generalize hct:c.todo=td at htodo;cases htodo with|cons a hk=>
   cases a;split at hx
   ·exact DU hsr.h hsr.fr hm (.inr (.inl ⟨_,hct,rfl⟩)) hx
   ·cases hx
   ·cases hx
   ·cases hx
   ·split at hx
    ·cases hx
    ·cases hx
    ·split at hx
     ·split at hx<;>cases hx
     ·cases hx
    ·cases hx
   ·cases hx
   ·cases hx
   ·cases hx
   ·split at hx
    ·cases hx
    ·rename_i he;split at hx
     ·cases hx
     ·rename_i hre;exact DU hsr.h hsr.fr hm (.inr (.inr (.inl ⟨_,_,hct,(JX hk).2 he hre,rfl⟩))) hx
   ·split at hx
    ·cases hx
    ·rename_i he;split at hx
     ·cases hx
     ·rename_i hre;exact DU hsr.h hsr.fr hm (.inr (.inr (.inr ⟨_,_,hct,(JY hk).2 he hre,rfl⟩))) hx
   ·rcases G0 (E:=E) (s:=s) with ⟨y,h⟩|⟨y,h⟩<;>(rw [h] at hx;cases hx)
   ·split at hx<;>cases hx
   ·cases hx
 ·rename_i hmf;exact Mt hE hsr.h hsr.fr (F5.not_run hmode hmf) hx
end
end Go.AE
namespace Go.AE
variable [Gl:Au]
@[reducible] def xQ:Unk:={facts:=[],V:=⟨fun _=>default,fun _ d=>d⟩,K:=fun _=>none,R:=[],hR:=fun _ _ _ _ _ h=>(by cases h),ok:=by simp}
def Fu:SE→SE
 |.nilIs y _=>Fu y
 |.nilL=>.c 0
 |.emptyL=>.c 0
 |.upd a _ _ _=>Fu a
 |.cat a b=>match Fu a with
  |.c n=>match n==0 with
   |true=>Fu b
   |false=>.lenL (.cat a b)
  |_=>.lenL (.cat a b)
 |.snoc a r=>match Fu a with
  |.c n=>.c (n+1)
  |_=>.lenL (.snoc a r)
 |x=>.lenL x
def HI:SE→SE
 |.nilIs _ b=>b
 |.nilL=>.bc true
 |.emptyL=>.bc false
 |.snoc _ _=>.bc false
 |.rep _ _=>.bc false
 |.upd a _ _ _=>HI a
 |x=>.isNil x
def Sx:SE→SE→SE
 |.bc true,b=>b
 |.bc false,_=>.bc false
 |_,.bc false=>.bc false
 |a,.bc true=>a
 |a,b=>.and a b
def SE.isB:SE→Bool
 |.bc _=>true
 |.lss _ _=>true
 |.eql _ _=>true
 |.eqS _ _ _=>true
 |.eqSS _ _=>true
 |.isNil _=>true
 |.neg _=>true
 |.and _ _=>true
 |_=>false
def kQ:SE→SE
 |.bc b=>.bc (!b)
 |x=>.neg x
def XB:SE→SE→SE
 |.c n,.c m=>.bc (n==m)
 |a,b=>match a.same b with
  |true=>.bc true
  |false=>.eql a b
def Xt:SE→SE→SE
 |.c n,.c m=>.bc (decide (n<m))
 |a,b=>.lss a b
def SE.norm:SE→SE
 |.lenL a=>Fu a.norm
 |.isNil a=>match (HI a.norm).isB with
  |true=>HI a.norm
  |false=>.isNil a.norm
 |.and a b=>match (Sx a.norm b.norm).isB with
  |true=>Sx a.norm b.norm
  |false=>.and a.norm b.norm
 |.neg a=>kQ a.norm
 |.nilIs a b=>.nilIs a.norm b.norm
 |.eql a b=>XB a.norm b.norm
 |.lss a b=>Xt a.norm b.norm
 |.arith op k a b=>.arith op k a.norm b.norm
 |.cell a i j=>.cell a.norm i.norm j
 |.snoc a r=>.snoc a.norm r.norm
 |.rcons x r=>.rcons x.norm r.norm
 |.upd a i j x=>.upd a.norm i.norm j x.norm
 |.sel a j=>.sel a.norm j
 |.app g a=>.app g a.norm
 |.cat a b=>.cat a.norm b.norm
 |.rmv a i=>.rmv a.norm i.norm
 |.mIdx ks a k=>.mIdx ks a.norm k.norm
 |e=>e
theorem SJ (V:Val):∀x:SE,Af V (Fu x)=.int ((Af V x).rows.length:Nat):=by
 intro x
 induction x
 case nilIs y b ih _=>simp only [Fu,ih,Af,D.rows]
 case upd a i j x ih _ _=>simp only [Fu,ih,Af,D.rows,List.length_modify]
 case cat a b iha ihb=>
  simp only [Fu];split
  ·rename_i n h;split
   ·rename_i hn;have hn:=eq_of_beq hn;subst hn;rw [h] at iha
    have h0:(Af V a).rows.length=0:=by
     simp only [Af,D.int.injEq] at iha;omega
    rw [ihb];have e:(Af V (.cat a b)).rows=(Af V a).rows++(Af V b).rows:=rfl;rw [e,List.length_append,h0,Nat.zero_add]
   ·rfl
  ·rfl
 case snoc a r ih _=>
  simp only [Fu];split
  ·rename_i n h;rw [h] at ih;simp only [Af,D.int.injEq,D.rows,List.length_append,List.length_singleton] at ih ⊢;omega
  ·rfl
 all_goals rfl
theorem Rr (V:Val):∀x:SE,(HI x).isB=true→Af V (HI x)=.bool (Af V x).isNil:=by
 intro x
 induction x<;>intro hb<;>first|rfl|skip
 case upd a i j x ih _ _=>exact ih hb
 case nilIs y b _ _=>
  simp only [HI] at hb ⊢;cases b<;>first|rfl | (simp [SE.isB] at hb;done)|skip
theorem LX (V:Val) {x:SE} (h:x.isB=true):Af V x=.bool (Af V x).toBool:=by
 cases x<;>first|rfl | (simp [SE.isB] at h;done)
theorem VG (V:Val) (a b:SE) (h:(Sx a b).isB=true):Af V (Sx a b)=Af V (.and a b):=by
 unfold Sx at h ⊢;split
 ·simp only at h;rw [LX V h];simp only [Af,D.toBool,Bool.true_and]
 ·simp only [Af,D.toBool,Bool.false_and]
 ·simp only [Af,D.toBool,Bool.and_false]
 ·simp only at h;rw [LX V h];simp only [Af,D.toBool,Bool.and_true]
 ·rfl
theorem U1 (V:Val) (a b:SE):Af V (XB a b)=Af V (.eql a b):=by
 unfold XB;split
 ·rfl
 ·split
  ·rename_i h;rw [SE.same_ok (U:=xQ) h];simp only [Af,beq_self_eq_true]
  ·rfl
theorem U8 (V:Val) (a b:SE):Af V (Xt a b)=Af V (.lss a b):=by
 unfold Xt;split<;>rfl
theorem B0 (V:Val):∀e:SE,Af V e.norm=Af V e:=by
 intro e
 induction e
 case lenL a ih=>simp only [SE.norm,SJ,ih];rfl
 case isNil a ih=>
  simp only [SE.norm];split
  ·rename_i h;rw [Rr V _ h,ih];rfl
  ·simp only [Af,ih]
 case and a b iha ihb=>
  simp only [SE.norm];split
  ·rename_i h;rw [VG V _ _ h];simp only [Af,iha,ihb]
  ·simp only [Af,iha,ihb]
 case neg a ih=>
  simp only [SE.norm];unfold kQ;split
  ·rename_i b h;rw [h] at ih;simp only [Af] at ih ⊢;rw [←ih];rfl
  ·simp only [Af,ih]
 case eql a b iha ihb=>simp only [SE.norm,U1,Af,iha,ihb]
 case lss a b iha ihb=>simp only [SE.norm,U8,Af,iha,ihb]
 all_goals simp_all only [SE.norm,Af]
end Go.AE
namespace Go.AE
variable [Gl:Au]
def eqD {α:Type} [DecidableEq α] (a b:α):Bool:=decide (a=b)
theorem B4 {α:Type} [DecidableEq α] {a b:α} (h:eqD a b=true):a=b:=of_decide_eq_true h
theorem AJ {i j:Nat} (h:Nat.beq i j=true):i=j:=Nat.eq_of_beq_eq_true h
def My:Value→Value→Bool
 |.bool a,.bool b=>eqD a b
 |.int k a,.int k' b=>eqD k k'&&eqD a b
 |.string a,.string b=>eqD a.data.toList b.data.toList
 |.pointer none,.pointer none=>true
 |.slice none a b,.slice none a' b'=>Nat.beq a a'&&Nat.beq b b'
 |.map none,.map none=>true
 |.nilFunc,.nilFunc=>true
 |.nilIface,.nilIface=>true
 |_,_=>false
theorem OZ {a b:Value} (h:My a b=true):a=b:=by
 unfold My at h;split at h<;>first|rfl | (cases h;done)|skip
 ·rw [B4 h]
 ·simp only [Bool.and_eq_true] at h;rw [B4 h.1,B4 h.2]
 ·rename_i a b;have:=B4 h
  have e:a=b:=by
   cases a;cases b;simp only [ByteArray.mk.injEq];exact Array.ext' this
  rw [e]
 ·simp only [Bool.and_eq_true] at h;rw [AJ h.1,AJ h.2]
def Aw:Operand→Operand→Bool
 |.tmp a,.tmp b=>Nat.beq a b
 |.const a,.const b=>My a b
 |.global a,.global b=>Nat.beq a b
 |.func a,.func b=>Nat.beq a b
 |_,_=>false
theorem Al {a b:Operand} (h:Aw a b=true):a=b:=by
 unfold Aw at h;split at h<;>first | (cases h;done)|skip
 ·rw [AJ h]
 ·rw [OZ h]
 ·rw [AJ h]
 ·rw [AJ h]
def EQ {α:Type} (eq:α→α→Bool):List α→List α→Bool
 |[],[]=>true
 |a::l,b::m=>eq a b&&EQ eq l m
 |_,_=>false
theorem FN {α:Type} {eq:α→α→Bool} (he:∀a b,eq a b=true→a=b):∀{l m:List α},EQ eq l m=true→l=m
 |[],[],_=>rfl
 |a::l,b::m,h=>by
  simp only [EQ,Bool.and_eq_true] at h;rw [he a b h.1,FN he h.2]
 |[],_::_,h=>by cases h
 |_::_,[],h=>by cases h
def IC {α:Type} (eq:α→α→Bool) (a b:Array α):Bool:=EQ eq a.toList b.toList
theorem DJ {α:Type} {eq:α→α→Bool} (he:∀a b,eq a b=true→a=b) {a b:Array α} (h:IC eq a b=true):a=b:=Array.ext' (FN he h)
def Qb (a b:Array Operand):Bool:=IC Aw a b
theorem J2 {a b:Array Operand} (h:Qb a b=true):a=b:=DJ (fun _ _=>Al) h
def ae (a b:Array (Nat×Operand)):Bool:=IC (fun x y=>Nat.beq x.1 y.1&&Aw x.2 y.2) a b
theorem Qt {a b:Array (Nat×Operand)} (h:ae a b=true):a=b:=DJ (fun x y h=>by
 simp only [Bool.and_eq_true] at h;exact Prod.ext (AJ h.1) (Al h.2)) h
def N6 {α:Type} (eq:α→α→Bool):Option α→Option α→Bool
 |none,none=>true
 |some a,some b=>eq a b
 |_,_=>false
theorem Ht {α:Type} {eq:α→α→Bool} (he:∀a b,eq a b=true→a=b) {a b:Option α} (h:N6 eq a b=true):a=b:=by
 cases a<;>cases b<;>first|rfl | (cases h;done)|skip
 rw [he _ _ h]
def S9 (a b:Option Operand):Bool:=N6 Aw a b
theorem I3 {a b:Option Operand} (h:S9 a b=true):a=b:=Ht (fun _ _=>Al) h
def Te:Fn→Fn→Bool
 |.func f,.func g=>Nat.beq f g
 |.method n,.method m=>eqD n m
 |_,_=>false
theorem TM {a b:Fn} (h:Te a b=true):a=b:=by
 unfold Te at h;split at h<;>first | (cases h;done)|skip
 ·rw [AJ h]
 ·rw [B4 h]
def JV:Callee→Callee→Bool
 |.value f,.value g=>Aw f g
 |.invoke r n,.invoke r' n'=>Aw r r'&&eqD n n'
 |.builtin b,.builtin b'=>eqD b b'
 |_,_=>false
theorem N7 {a b:Callee} (h:JV a b=true):a=b:=by
 unfold JV at h;split at h<;>first | (cases h;done)|skip
 ·rw [Al h]
 ·simp only [Bool.and_eq_true] at h;rw [Al h.1,B4 h.2]
 ·rw [B4 h]
def Mr (a b:Call):Bool:=JV a.callee b.callee&&Qb a.args b.args&&IC Nat.beq a.argTypes b.argTypes
theorem Lx {a b:Call} (h:Mr a b=true):a=b:=by
 cases a;cases b;simp only [Mr,Bool.and_eq_true] at h;simp only [Call.mk.injEq];exact ⟨N7 h.1.1,J2 h.1.2,DJ (fun _ _=>AJ) h.2⟩
def cn:Op→Op→Bool
 |.move x0,.move y0=>Aw x0 y0
 |.assign x0,.assign y0=>Aw x0 y0
 |.pick x0 x1 x2,.pick y0 y1 y2=>Aw x0 y0&&Aw x1 y1&&Aw x2 y2
 |.alloc x0,.alloc y0=>Nat.beq x0 y0
 |.box x0 x1,.box y0 y1=>Nat.beq x0 y0&&Aw x1 y1
 |.build x0 x1,.build y0 y1=>Nat.beq x0 y0&&ae x1 y1
 |.buildSlice x0 x1 x2,.buildSlice y0 y1 y2=>Nat.beq x0 y0&&Nat.beq x1 y1&&ae x2 y2
 |.insert x0 x1 x2 x3,.insert y0 y1 y2 y3=>Nat.beq x0 y0&&Aw x1 y1&&Aw x2 y2&&Aw x3 y3
 |.load x0 x1,.load y0 y1=>Nat.beq x0 y0&&Aw x1 y1
 |.store x0 x1 x2,.store y0 y1 y2=>Nat.beq x0 y0&&Aw x1 y1&&Aw x2 y2
 |.ready x0,.ready y0=>Nat.beq x0 y0
 |.waits x0,.waits y0=>Nat.beq x0 y0
 |.nilCheck x0,.nilCheck y0=>Aw x0 y0
 |.binOp x0 x1 x2 x3 x4,.binOp y0 y1 y2 y3 y4=>eqD x0 y0&&Nat.beq x1 y1&&Aw x2 y2&&Aw x3 y3&&Nat.beq x4 y4
 |.unOp x0 x1 x2,.unOp y0 y1 y2=>eqD x0 y0&&Nat.beq x1 y1&&Aw x2 y2
 |.convert x0 x1 x2,.convert y0 y1 y2=>Nat.beq x0 y0&&Nat.beq x1 y1&&Aw x2 y2
 |.sliceToArrayPointer x0 x1,.sliceToArrayPointer y0 y1=>Nat.beq x0 y0&&Aw x1 y1
 |.makeInterface x0 x1,.makeInterface y0 y1=>Nat.beq x0 y0&&Aw x1 y1
 |.makeFunc x0 x1 x2,.makeFunc y0 y1 y2=>Te x0 y0&&Qb x1 y1&&Qb x2 y2
 |.makeMap x0 x1,.makeMap y0 y1=>Nat.beq x0 y0&&S9 x1 y1
 |.makeSlice x0 x1 x2,.makeSlice y0 y1 y2=>Nat.beq x0 y0&&Aw x1 y1&&Aw x2 y2
 |.slice x0 x1 x2 x3 x4,.slice y0 y1 y2 y3 y4=>Nat.beq x0 y0&&Aw x1 y1&&S9 x2 y2&&S9 x3 y3&&S9 x4 y4
 |.fieldAddr x0 x1 x2,.fieldAddr y0 y1 y2=>Nat.beq x0 y0&&Aw x1 y1&&Nat.beq x2 y2
 |.field x0 x1 x2,.field y0 y1 y2=>Nat.beq x0 y0&&Aw x1 y1&&Nat.beq x2 y2
 |.indexAddr x0 x1 x2,.indexAddr y0 y1 y2=>Nat.beq x0 y0&&Aw x1 y1&&Aw x2 y2
 |.index x0 x1 x2,.index y0 y1 y2=>Nat.beq x0 y0&&Aw x1 y1&&Aw x2 y2
 |.lookup x0 x1 x2 x3,.lookup y0 y1 y2 y3=>Nat.beq x0 y0&&Aw x1 y1&&Aw x2 y2&&eqD x3 y3
 |.mapUpdate x0 x1 x2 x3,.mapUpdate y0 y1 y2 y3=>Nat.beq x0 y0&&Aw x1 y1&&Aw x2 y2&&Aw x3 y3
 |.mapEntry x0 x1 x2,.mapEntry y0 y1 y2=>Nat.beq x0 y0&&Aw x1 y1&&Aw x2 y2
 |.entryStore x0 x1 x2 x3,.entryStore y0 y1 y2 y3=>Nat.beq x0 y0&&Aw x1 y1&&Aw x2 y2&&Aw x3 y3
 |.range x0 x1,.range y0 y1=>Nat.beq x0 y0&&Aw x1 y1
 |.next x0 x1,.next y0 y1=>Aw x0 y0&&eqD x1 y1
 |.entry x0,.entry y0=>Aw x0 y0
 |.typeAssert x0 x1 x2 x3,.typeAssert y0 y1 y2 y3=>Aw x0 y0&&Nat.beq x1 y1&&Nat.beq x2 y2&&eqD x3 y3
 |.extract x0 x1,.extract y0 y1=>Aw x0 y0&&Nat.beq x1 y1
 |.call x0,.call y0=>Mr x0 y0
 |.defer x0,.defer y0=>Mr x0 y0
 |.panic x0,.panic y0=>Aw x0 y0
 |_,_=>false
set_option maxHeartbeats 4000000 in
theorem VN:∀{a b:Op},cn a b=true→a=b:=by
 intro a b h;cases a<;>cases b<;>simp only [cn,Bool.false_eq_true,Bool.and_eq_true] at h
 case move.move=>have h0:=h;rw [Al h0]
 case assign.assign=>have h0:=h;rw [Al h0]
 case pick.pick=>obtain ⟨⟨h0,h1⟩,h2⟩:=h;rw [Al h0,Al h1,Al h2]
 case alloc.alloc=>have h0:=h;rw [AJ h0]
 case box.box=>obtain ⟨h0,h1⟩:=h;rw [AJ h0,Al h1]
 case build.build=>obtain ⟨h0,h1⟩:=h;rw [AJ h0,Qt h1]
 case buildSlice.buildSlice=>obtain ⟨⟨h0,h1⟩,h2⟩:=h;rw [AJ h0,AJ h1,Qt h2]
 case insert.insert=>obtain ⟨⟨⟨h0,h1⟩,h2⟩,h3⟩:=h;rw [AJ h0,Al h1,Al h2,Al h3]
 case load.load=>obtain ⟨h0,h1⟩:=h;rw [AJ h0,Al h1]
 case store.store=>obtain ⟨⟨h0,h1⟩,h2⟩:=h;rw [AJ h0,Al h1,Al h2]
 case ready.ready=>have h0:=h;rw [AJ h0]
 case waits.waits=>have h0:=h;rw [AJ h0]
 case nilCheck.nilCheck=>have h0:=h;rw [Al h0]
 case binOp.binOp=>obtain ⟨⟨⟨⟨h0,h1⟩,h2⟩,h3⟩,h4⟩:=h;rw [B4 h0,AJ h1,Al h2,Al h3,AJ h4]
 case unOp.unOp=>obtain ⟨⟨h0,h1⟩,h2⟩:=h;rw [B4 h0,AJ h1,Al h2]
 case convert.convert=>obtain ⟨⟨h0,h1⟩,h2⟩:=h;rw [AJ h0,AJ h1,Al h2]
 case sliceToArrayPointer.sliceToArrayPointer=>obtain ⟨h0,h1⟩:=h;rw [AJ h0,Al h1]
 case makeInterface.makeInterface=>obtain ⟨h0,h1⟩:=h;rw [AJ h0,Al h1]
 case makeFunc.makeFunc=>obtain ⟨⟨h0,h1⟩,h2⟩:=h;rw [TM h0,J2 h1,J2 h2]
 case makeMap.makeMap=>obtain ⟨h0,h1⟩:=h;rw [AJ h0,I3 h1]
 case makeSlice.makeSlice=>obtain ⟨⟨h0,h1⟩,h2⟩:=h;rw [AJ h0,Al h1,Al h2]
 case slice.slice=>obtain ⟨⟨⟨⟨h0,h1⟩,h2⟩,h3⟩,h4⟩:=h;rw [AJ h0,Al h1,I3 h2,I3 h3,I3 h4]
 case fieldAddr.fieldAddr=>obtain ⟨⟨h0,h1⟩,h2⟩:=h;rw [AJ h0,Al h1,AJ h2]
 case field.field=>obtain ⟨⟨h0,h1⟩,h2⟩:=h;rw [AJ h0,Al h1,AJ h2]
 case indexAddr.indexAddr=>obtain ⟨⟨h0,h1⟩,h2⟩:=h;rw [AJ h0,Al h1,Al h2]
 case index.index=>obtain ⟨⟨h0,h1⟩,h2⟩:=h;rw [AJ h0,Al h1,Al h2]
 case lookup.lookup=>obtain ⟨⟨⟨h0,h1⟩,h2⟩,h3⟩:=h;rw [AJ h0,Al h1,Al h2,B4 h3]
 case mapUpdate.mapUpdate=>obtain ⟨⟨⟨h0,h1⟩,h2⟩,h3⟩:=h;rw [AJ h0,Al h1,Al h2,Al h3]
 case mapEntry.mapEntry=>obtain ⟨⟨h0,h1⟩,h2⟩:=h;rw [AJ h0,Al h1,Al h2]
 case entryStore.entryStore=>obtain ⟨⟨⟨h0,h1⟩,h2⟩,h3⟩:=h;rw [AJ h0,Al h1,Al h2,Al h3]
 case range.range=>obtain ⟨h0,h1⟩:=h;rw [AJ h0,Al h1]
 case next.next=>obtain ⟨h0,h1⟩:=h;rw [Al h0,B4 h1]
 case entry.entry=>have h0:=h;rw [Al h0]
 case typeAssert.typeAssert=>obtain ⟨⟨⟨h0,h1⟩,h2⟩,h3⟩:=h;rw [Al h0,AJ h1,AJ h2,B4 h3]
 case extract.extract=>obtain ⟨h0,h1⟩:=h;rw [Al h0,AJ h1]
 case call.call=>have h0:=h;rw [Lx h0]
 case defer.defer=>have h0:=h;rw [Lx h0]
 case panic.panic=>have h0:=h;rw [Al h0]
def Pi (a b:Edge):Bool:=Nat.beq a.on b.on&&eqD a.ground b.ground
theorem QQ {a b:Edge} (h:Pi a b=true):a=b:=by
 cases a;cases b;simp only [Pi,Bool.and_eq_true] at h;simp only [Edge.mk.injEq];exact ⟨AJ h.1,B4 h.2⟩
def J9 (a b:Oper):Bool:=N6 Nat.beq a.dst b.dst&&cn a.op b.op&&Nat.beq a.type b.type&&IC Pi a.after b.after&&N6 (fun x y=>Nat.beq x.1 y.1&&eqD x.2 y.2) a.guard b.guard&&eqD a.pos b.pos
theorem HV {a b:Oper} (h:J9 a b=true):a=b:=by
 cases a;cases b;simp only [J9,Bool.and_eq_true] at h;obtain ⟨⟨⟨⟨⟨h1,h2⟩,h3⟩,h4⟩,h5⟩,h6⟩:=h;simp only [Oper.mk.injEq];refine ⟨Ht (fun _ _=>AJ) h1,VN h2,AJ h3,B4 h6,DJ (fun _ _=>QQ) h4,Ht (fun x y h=>?_) h5⟩
 simp only [Bool.and_eq_true] at h;exact Prod.ext (AJ h.1) (B4 h.2)
def BU:Code→Code→Bool
 |.skip,.skip=>true
 |.region i o d,.region i' o' d'=>Nat.beq i i'&&eqD d d'&&IC J9 o o'
 |.seq a b,.seq a' b'=>BU a a'&&BU b b'
 |.cond c a b,.cond c' a' b'=>Aw c c'&&BU a a'&&BU b b'
 |.block i a,.block i' a'=>Nat.beq i i'&&BU a a'
 |.loop a,.loop a'=>BU a a'
 |.rangeFunc f p a b,.rangeFunc f' p' a' b'=>Aw f f'&&IC Nat.beq p p'&&BU a a'&&BU b b'
 |.exit i,.exit i'=>Nat.beq i i'
 |.scope a,.scope a'=>BU a a'
 |.label i,.label i'=>Nat.beq i i'
 |.goto i,.goto i'=>Nat.beq i i'
 |.ret,.ret=>true
 |_,_=>false
theorem Dp:∀{a b:Code},BU a b=true→a=b:=by
 intro a
 induction a<;>intro b h<;>cases b<;>simp only [BU,Bool.false_eq_true,Bool.and_eq_true] at h<;>first|rfl|skip
 case region.region=>rw [AJ h.1.1,B4 h.1.2,DJ (fun _ _=>HV) h.2]
 case seq.seq iha ihb _ _=>rw [iha h.1,ihb h.2]
 case cond.cond iha ihb _ _ _=>rw [Al h.1.1,iha h.1.2,ihb h.2]
 case block.block ih _ _=>rw [AJ h.1,ih h.2]
 case loop.loop ih _=>rw [ih h]
 case rangeFunc.rangeFunc iha ihb _ _ _ _=>rw [Al h.1.1.1,DJ (fun _ _=>AJ) h.1.1.2,iha h.1.2,ihb h.2]
 case exit.exit=>rw [AJ h]
 case scope.scope ih _=>rw [ih h]
 case label.label=>rw [AJ h]
 case goto.goto=>rw [AJ h]
end Go.AE
namespace Go.AE
variable [Gl:Au]
def SE.inst (θ:List SE):SE→SE
 |.c n=>.c n
 |.var i=>θ.getD i (.var i)
 |.lenS a=>.lenS (a.inst θ)
 |.lenL a=>.lenL (a.inst θ)
 |.arith op k a b=>.arith op k (a.inst θ) (b.inst θ)
 |.conv k a=>.conv k (a.inst θ)
 |.lss a b=>.lss (a.inst θ) (b.inst θ)
 |.eql a b=>.eql (a.inst θ) (b.inst θ)
 |.eqS a l b=>.eqS (a.inst θ) l b
 |.eqSS a b=>.eqSS (a.inst θ) (b.inst θ)
 |.isNil a=>.isNil (a.inst θ)
 |.bc b=>.bc b
 |.neg a=>.neg (a.inst θ)
 |.and a b=>.and (a.inst θ) (b.inst θ)
 |.nilIs a b=>.nilIs (a.inst θ) (b.inst θ)
 |.strc l b=>.strc l b
 |.strAt a i=>.strAt (a.inst θ) (i.inst θ)
 |.strCat a b=>.strCat (a.inst θ) (b.inst θ)
 |.strSub a lo hi=>.strSub (a.inst θ) (lo.inst θ) (hi.inst θ)
 |.cell a i j=>.cell (a.inst θ) (i.inst θ) j
 |.sel a j=>.sel (a.inst θ) j
 |.nilL=>.nilL
 |.emptyL=>.emptyL
 |.snoc a r=>.snoc (a.inst θ) (r.inst θ)
 |.upd a i j x=>.upd (a.inst θ) (i.inst θ) j (x.inst θ)
 |.rep n r=>.rep (n.inst θ) (r.inst θ)
 |.cat a b=>.cat (a.inst θ) (b.inst θ)
 |.sub a lo hi=>.sub (a.inst θ) (lo.inst θ) (hi.inst θ)
 |.rnil=>.rnil
 |.rcons x r=>.rcons (x.inst θ) (r.inst θ)
 |.app f x=>.app f (x.inst θ)
 |.bytes a=>.bytes (a.inst θ)
 |.ofBytes a=>.ofBytes (a.inst θ)
 |.mIdx ks a k=>.mIdx ks (a.inst θ) (k.inst θ)
 |.rmv a i=>.rmv (a.inst θ) (i.inst θ)
def Val.inst (V:Val) (θ:List SE):Val:={d:=fun i=>Af V (θ.getD i (.var i)),fn:=V.fn}
theorem BI (V:Val) (θ:List SE):∀e:SE,Af V (e.inst θ)=Af (V.inst θ) e:=by
 intro e
 induction e<;>simp_all only [SE.inst,Af,Val.inst]<;>rfl
theorem Lt (V:Val) (θ:List SE) (e:SE):Ag V (e.inst θ)=Ag (V.inst θ) e:=by unfold Ag;rw [BI]
theorem Em (V:Val) (θ:List SE) (e:SE):Ai V (e.inst θ)=Ai (V.inst θ) e:=by unfold Ai;rw [BI]
abbrev Obs:=List (SE×SE)
def IW (a b:SE):Option Obs:=match a.same b with
 |true=>some []
 |false=>match a.norm.same b.norm with
  |true=>some []
  |false=>some [(a,b)]
def CB (a b:SE):Option Obs:=match a.same b with
 |true=>some []
 |false=>match a.norm.same b.norm with
  |true=>some []
  |false=>some [(.and a (.bc true),.and b (.bc true))]
def F9 (a b:SE):Option Obs:=match a.same b with
 |true=>some []
 |false=>match a.norm.same b.norm with
  |true=>some []
  |false=>some [(.eql a b,.bc true)]
def Obs.holds (V:Val) (o:Obs):Prop:=∀a b,(a,b)∈o→Af V a=Af V b
def Dc (a b:Option Obs):Option Obs:=match a,b with
 |some x,some y=>some (x++y)
 |_,_=>none
def Db (c:Bool) (o:Option Obs):Option Obs:=match c with
 |true=>o
 |false=>none
def toB (β:List Nat) (b c:Nat):Bool:=match β[b]? with
 |some d=>Nat.beq d c
 |none=>false
def VD (β:List Nat):Fn→Fn→Bool
 |.func f,.func g=>Nat.beq f g
 |.yield l,.yield m=>toB β l m
 |_,_=>false
mutual
def Cj (θ:List SE) (β:List Nat):AV→AV→Option Obs
 |.top,_=>some []
 |.bool a,.bool b=>Db (a==b) (some [])
 |.int k a,.int k' b=>Db (decide (k=k')&&a==b) (some [])
 |.str l a,.str l' b=>Db (Nat.beq l l'&&Nat.beq a b) (some [])
 |.ptr0,.ptr0=>some []
 |.ptr b o,.ptr b' o'=>Db (toB β b b'&&Nat.beq o o') (some [])
 |.slice0,.slice0=>some []
 |.slice b o n es,.slice b' o' n' es'=>Db (toB β b b'&&Nat.beq o o'&&Nat.beq n n'&&Nat.beq es es') (some [])
 |.map0,.map0=>some []
 |.map b,.map b'=>Db (toB β b b') (some [])
 |.func fn f c,.func fn' f' c'=>Db (VD β fn fn') (Dc (EW θ β f f') (EW θ β c c'))
 |.nilFunc,.nilFunc=>some []
 |.iface t v,.iface t' v'=>Db (Nat.beq t t') (Cj θ β v v')
 |.nilIface,.nilIface=>some []
 |.agg l,.agg l'=>EW θ β l l'
 |.tuple l,.tuple l'=>EW θ β l l'
 |.sb p e,.sb p' e'=>match p==p' with
  |true=>CB (e.inst θ) e'
  |false=>CB (e.inst θ) (.neg e')
 |.sb p e,.bool b=>CB (e.inst θ) (.bc (b==p))
 |.si k e,.si k' e'=>Db (decide (k=k')) (F9 (e.inst θ) e')
 |.si k e,.int k' n=>Db (decide (k=k')) (F9 (e.inst θ) (.c n))
 |.ss x,.ss x'=>IW (x.inst θ) x'
 |.ss x,.str l b=>IW (x.inst θ) (.strc l b)
 |.dat e x,.dat e' x'=>Db (Nat.beq e e') (IW (x.inst θ) x')
 |.dat e x,.slice0=>IW (x.inst θ) .nilL
 |.asl b es n nl,.asl b' es' n' nl'=>Db (toB β b b'&&Nat.beq es es') (Dc (F9 (n.inst θ) n') (CB (nl.inst θ) nl'))
 |.asl b es n nl,.slice b' o' n' es'=>Db (toB β b b'&&Nat.beq o' 0&&Nat.beq es es') (Dc (F9 (n.inst θ) (.c n')) (CB (nl.inst θ) (.bc false)))
 |.asl b es n nl,.slice0=>Dc (F9 (n.inst θ) (.c 0)) (CB (nl.inst θ) (.bc true))
 |.asl b es n nl,.eslc nl'=>Dc (F9 (n.inst θ) (.c 0)) (CB (nl.inst θ) nl')
 |.eslc nl,.eslc nl'=>CB (nl.inst θ) nl'
 |.eslc nl,.slice0=>CB (nl.inst θ) (.bc true)
 |.nmap b nl,.nmap b' nl'=>Db (toB β b b') (CB (nl.inst θ) nl')
 |.nmap b nl,.map b'=>Db (toB β b b') (CB (nl.inst θ) (.bc false))
 |.nmap _ nl,.map0=>CB (nl.inst θ) (.bc true)
 |_,_=>none
termination_by structural a=>a
def EW (θ:List SE) (β:List Nat):List AV→List AV→Option Obs
 |[],[]=>some []
 |a::l,b::m=>Dc (Cj θ β a b) (EW θ β l m)
 |_,_=>none
termination_by structural l=>l
end
@[reducible] def AZ:Unk:={facts:=[],V:=⟨fun _=>default,fun _ d=>d⟩,K:=fun _=>none,R:=[],hR:=fun _ _ _ _ _ h=>(by cases h),ok:=by simp}
theorem Obs.append {V:Val} {a b:Obs} (h:Obs.holds V (a++b)):Obs.holds V a∧Obs.holds V b:=
 ⟨fun x y hm=>h x y (by simp [hm]),fun x y hm=>h x y (by simp [hm])⟩
theorem FE {V:Val} {a b:SE} {o:Obs} (h:IW a b=some o) (ho:o.holds V):Af V a=Af V b:=by
 unfold IW at h;split at h
 ·rename_i hs;rw [SE.same_ok (U:=AZ) hs]
 ·split at h
  ·rename_i hs;have:=congrArg (Af V) (SE.same_ok (U:=AZ) hs)
   rwa [B0,B0] at this
  ·cases h;exact ho a b (by simp)
theorem Ny {V:Val} {a b:SE} {o:Obs} (h:F9 a b=some o) (ho:o.holds V):Ag V a=Ag V b:=by
 unfold F9 at h;split at h
 ·rename_i hs;rw [SE.same_ok (U:=AZ) hs]
 ·split at h
  ·rename_i hs;have:=congrArg (Af V) (SE.same_ok (U:=AZ) hs);rw [B0,B0] at this;unfold Ag;rw [this]
  ·cases h;have:=ho (.eql a b) (.bc true) (by simp)
   simp only [Af,D.bool.injEq] at this;exact eq_of_beq this
theorem Hj {V:Val} {a b:SE} {o:Obs} (h:CB a b=some o) (ho:o.holds V):Ai V a=Ai V b:=by
 unfold CB at h;split at h
 ·rename_i hs;rw [SE.same_ok (U:=AZ) hs]
 ·split at h
  ·rename_i hs;have:=congrArg (Af V) (SE.same_ok (U:=AZ) hs);rw [B0,B0] at this;unfold Ai;rw [this]
  ·cases h;have:=ho (.and a (.bc true)) (.and b (.bc true)) (by simp)
   simp only [Af,D.bool.injEq,D.toBool,Bool.and_true] at this;exact this
theorem Bt {a b:Option Obs} {o:Obs} (h:Dc a b=some o):∃x y,a=some x∧b=some y∧o=x++y:=by
 unfold Dc at h;split at h
 ·cases h;exact ⟨_,_,rfl,rfl,rfl⟩
 ·cases h
theorem AO {c:Bool} {a:Option Obs} {o:Obs} (h:Db c a=some o):c=true∧a=some o:=by
 cases c with
 |true=>exact ⟨rfl,h⟩
 |false=>cases h
def Ren.back (ρ:Ren) (β:List Nat):Ren:=⟨fun b=>(β[b]?).bind ρ.m,ρ.imm⟩
theorem Ea {β:List Nat} {b c:Nat} (h:toB β b c=true) (ρ:Ren):(ρ.back β).m b=ρ c:=by
 unfold toB at h;split at h
 ·rename_i d hd;rw [Aq h] at hd;simp [Ren.back,hd]
 ·cases h
section
variable {U W:Unk} {θ:List SE} (hV:W.V=U.V.inst θ) (hK:W.K=U.K) {β:List Nat} {ρ:Ren}
include hV hK
theorem PY {f g:Fn} {g':Fn} (h:VD β f g=true) (hg:FnR ρ g g'):FnR (ρ.back β) f g':=by
 cases f<;>cases g<;>simp only [VD,Bool.false_eq_true] at h
 ·rw [Aq h];exact hg
 ·obtain ⟨base,h1,h2⟩:=hg;exact ⟨base,by rw [Ea h];exact h1,h2⟩
mutual
theorem FS:∀(a b:AV) (o:Obs) (v:Value),Cj θ β a b=some o→o.holds U.V→@VR U.toVals ρ b v→@VR W.toVals (ρ.back β) a v
 |.top,_,_,v,_,_,_=>@VR.top W.toVals _ v
 |.bool a,b,o,v,h,ho,hv=>by
  cases b<;>simp only [Cj,reduceCtorEq] at h
  obtain ⟨h1,_⟩:=AO h;cases hv;have:=eq_of_beq h1;subst this;exact @VR.bool W.toVals _ _
 |.int k a,b,o,v,h,ho,hv=>by
  cases b<;>simp only [Cj,reduceCtorEq] at h
  obtain ⟨h1,_⟩:=AO h;cases hv;simp only [Bool.and_eq_true,decide_eq_true_eq,beq_iff_eq] at h1;obtain ⟨rfl,rfl⟩:=h1;exact @VR.int W.toVals _ _ _
 |.str l a,b,o,v,h,ho,hv=>by
  cases b<;>simp only [Cj,reduceCtorEq] at h
  obtain ⟨h1,_⟩:=AO h;obtain ⟨h2,h3⟩:=Am h1;rw [Aq h2,Aq h3];cases hv;exact @VR.str W.toVals _ _
 |.ptr0,b,o,v,h,ho,hv=>by
  cases b<;>simp only [Cj,reduceCtorEq] at h
  cases hv;exact @VR.ptr0 W.toVals _
 |.ptr b off,x,o,v,h,ho,hv=>by
  cases x<;>simp only [Cj,reduceCtorEq] at h
  obtain ⟨h1,_⟩:=AO h;obtain ⟨h2,h3⟩:=Am h1;cases hv with
  |ptr _ _ base hb=>
   rw [Aq h3];exact @VR.ptr W.toVals _ _ _ base (by rw [Ea h2];exact hb)
 |.slice0,b,o,v,h,ho,hv=>by
  cases b<;>simp only [Cj,reduceCtorEq] at h
  cases hv;exact @VR.slice0 W.toVals _
 |.slice b off n es,x,o,v,h,ho,hv=>by
  cases x<;>simp only [Cj,reduceCtorEq] at h
  obtain ⟨h1,_⟩:=AO h;obtain ⟨h2,h3⟩:=Am h1;obtain ⟨h4,h5⟩:=Am h2;obtain ⟨h6,h7⟩:=Am h4;rw [Aq h3,Aq h5,Aq h7];cases hv with
  |slice _ _ _ _ cap base hb hc hz=>exact @VR.slice W.toVals _ _ _ _ _ cap base (by rw [Ea h6];exact hb) hc hz
  |sliceEnd _ _ _ a=>exact @VR.sliceEnd W.toVals _ _ _ _ a
 |.map0,b,o,v,h,ho,hv=>by
  cases b<;>simp only [Cj,reduceCtorEq] at h
  cases hv;exact @VR.map0 W.toVals _
 |.map b,x,o,v,h,ho,hv=>by
  cases x<;>simp only [Cj,reduceCtorEq] at h
  obtain ⟨h1,_⟩:=AO h;cases hv with
  |map _ base hb=>exact @VR.map W.toVals _ _ base (by rw [Ea h1];exact hb)
 |.func fn f c,x,o,v,h,ho,hv=>by
  cases x<;>simp only [Cj,reduceCtorEq] at h
  obtain ⟨h1,h2⟩:=AO h;obtain ⟨o1,o2,h3,h4,rfl⟩:=Bt h2;obtain ⟨ho1,ho2⟩:=Obs.append ho;cases hv with
  |func _ fn' _ _ f' c' r1 r2 r3 r4 r5=>
   have q1:=C2 f _ o1 f' h3 ho1 ⟨r2,r3⟩;have q2:=C2 c _ o2 c' h4 ho2 ⟨r4,r5⟩;exact @VR.func W.toVals _ fn fn' f c f' c' (PY hV hK h1 r1) q1.1 q1.2 q2.1 q2.2
 |.nilFunc,b,o,v,h,ho,hv=>by
  cases b<;>simp only [Cj,reduceCtorEq] at h
  cases hv;exact @VR.nilFunc W.toVals _
 |.iface t a,x,o,v,h,ho,hv=>by
  cases x<;>simp only [Cj,reduceCtorEq] at h
  obtain ⟨h1,h2⟩:=AO h;rw [Aq h1];cases hv with
  |iface _ _ v' hv'=>exact @VR.iface W.toVals _ _ a v' (FS a _ o v' h2 ho hv')
 |.nilIface,b,o,v,h,ho,hv=>by
  cases b<;>simp only [Cj,reduceCtorEq] at h
  cases hv;exact @VR.nilIface W.toVals _
 |.agg l,x,o,v,h,ho,hv=>by
  cases x<;>simp only [Cj,reduceCtorEq] at h
  cases hv with
  |agg _ l' r1 r2=>
   have q:=C2 l _ o l' h ho ⟨r1,r2⟩;exact @VR.agg W.toVals _ l l' q.1 q.2
 |.tuple l,x,o,v,h,ho,hv=>by
  cases x<;>simp only [Cj,reduceCtorEq] at h
  cases hv with
  |tuple _ l' r1 r2=>
   have q:=C2 l _ o l' h ho ⟨r1,r2⟩;exact @VR.tuple W.toVals _ l l' q.1 q.2
 |.sb p e,x,o,v,h,ho,hv=>by
  have key:∀{e':SE},CB (e.inst θ) e'=some o→Ai W.V e=Ai U.V e':=by
   intro e' hq;rw [hV,←Em];exact Hj hq ho
  cases x<;>simp only [Cj,reduceCtorEq] at h
  ·have:=key h;cases hv;rename_i b;have q:=@VR.sb W.toVals (ρ.back β) p e;rw [this] at q;have e1:((Ai U.V (.bc (b==p)))==p)=b:=by show ((b==p)==p)=b;cases b<;>cases p<;>rfl
   rw [e1] at q;exact q
  ·split at h
   ·rename_i h1;have:=key h;cases hv;have hp:=eq_of_beq h1;subst hp;rw [←this];exact @VR.sb W.toVals _ p e
   ·rename_i p' e' _ h1;have:=key h;cases hv;have q:=@VR.sb W.toVals (ρ.back β) p e;rw [this] at q
    have e1:(Ai U.V (.neg e')==p)=(Ai U.V e'==p'):=by
     show ((!(Ai U.V e'))==p)=_;cases p<;>cases p'<;>cases Ai U.V e'<;>first|rfl | (simp at h1)
    rw [e1] at q;exact q
 |.si k e,x,o,v,h,ho,hv=>by
  have key:∀{e':SE},F9 (e.inst θ) e'=some o→Ag W.V e=Ag U.V e':=by
   intro e' hq;rw [hV,←Lt];exact Ny hq ho
  cases x<;>simp only [Cj,reduceCtorEq] at h
  ·obtain ⟨h1,h2⟩:=AO h;have:=key h2;cases hv;have hp:=of_decide_eq_true h1;subst hp;have q:=@VR.si W.toVals (ρ.back β) k e;rw [this,Bn] at q;exact q
  ·obtain ⟨h1,h2⟩:=AO h;have:=key h2;cases hv;have hp:=of_decide_eq_true h1;subst hp;rw [←this];exact @VR.si W.toVals _ k e
 |.ss e,x,o,v,h,ho,hv=>by
  have key:∀{e':SE},IW (e.inst θ) e'=some o→AG W.V e=AG U.V e':=by
   intro e' hq;unfold AG;rw [hV,←BI,FE hq ho]
  cases x<;>simp only [Cj,reduceCtorEq] at h
  ·have:=key h;cases hv;rename_i s;have q:=@VR.ss W.toVals (ρ.back β) e;rw [this] at q
   have e1:AG U.V (.strc s.data.toList.length (As s.data.toList))=s:=by
    show (⟨(CW _ _).toArray⟩:ByteArray)=s;rw [Dh (U:=U)]
   rw [e1] at q;exact q
  ·have:=key h;cases hv;rw [←this];exact @VR.ss W.toVals _ e
 |.dat t e,x,o,v,h,ho,hv=>by
  have key:∀{e':SE},IW (e.inst θ) e'=some o→Af W.V e=Af U.V e':=by
   intro e' hq;rw [hV,←BI,FE hq ho]
  cases x<;>simp only [Cj,reduceCtorEq] at h
  ·have:=key h;cases hv;exact @VR.dat W.toVals _ t e _ _ _ (by rw [this];exact .nil t _ rfl rfl)
  ·obtain ⟨h1,h2⟩:=AO h;have:=key h2;rw [Aq h1];cases hv with
   |dat _ _ a n c hd=>exact @VR.dat W.toVals _ _ e a n c (by rw [this,hK];exact hd)
 |.dptr _ _ _ _,x,o,v,h,ho,hv=>by cases x<;>simp only [Cj,reduceCtorEq] at h
 |.asl b es n nl,x,o,v,h,ho,hv=>by
  have keyI:∀{a b:SE} {o:Obs},F9 (a.inst θ) b=some o→o.holds U.V→Ag W.V a=Ag U.V b:=by
   intro a b o hq ho;rw [hV,←Lt];exact Ny hq ho
  have keyB:∀{a b:SE} {o:Obs},CB (a.inst θ) b=some o→o.holds U.V→Ai W.V a=Ai U.V b:=by
   intro a b o hq ho;rw [hV,←Em];exact Hj hq ho
  cases x<;>simp only [Cj,reduceCtorEq] at h
  ·
   obtain ⟨o1,o2,h3,h4,rfl⟩:=Bt h;obtain ⟨ho1,ho2⟩:=Obs.append ho;have k1:=keyI h3 ho1;have k2:=keyB h4 ho2;cases hv;exact @VR.aslEnd W.toVals _ b es n nl none (by rw [k1];rfl) (by rw [k2];rfl)
  ·
   rename_i b' o' n' es';obtain ⟨h1,h2⟩:=AO h;obtain ⟨h5,h6⟩:=Am h1;obtain ⟨h7,h8⟩:=Am h5;obtain ⟨o1,o2,h3,h4,rfl⟩:=Bt h2;obtain ⟨ho1,ho2⟩:=Obs.append ho;have k1:=keyI h3 ho1;have k2:=keyB h4 ho2;have e1:Ag W.V n=n':=by rw [k1];rfl
   have e2:Ai W.V nl=false:=by rw [k2];rfl
   have e3:=Aq h8;have e4:=Aq h6;subst e3;subst e4;cases hv with
   |slice _ _ _ _ cap base hb hc hz=>
    have q:=@VR.asl W.toVals (ρ.back β) b es n nl cap base (by rw [Ea h7];exact hb) (by rw [e1];exact Int.natCast_nonneg _) (by rw [e1];simpa using hc) (by simpa using hz) e2
    rw [e1] at q;simpa using q
   |sliceEnd _ _ _ a=>exact @VR.aslEnd W.toVals _ b es n nl (some a) (by rw [e1];rfl) (by rw [e2];rfl)
  ·
   rename_i b' es' n' nl';obtain ⟨h1,h2⟩:=AO h;obtain ⟨h7,h6⟩:=Am h1;obtain ⟨o1,o2,h3,h4,rfl⟩:=Bt h2;obtain ⟨ho1,ho2⟩:=Obs.append ho;have k1:=keyI h3 ho1;have k2:=keyB h4 ho2;have e1:Ag W.V n=Ag U.V n':=k1;have e2:Ai W.V nl=Ai U.V nl':=k2;have e4:=Aq h6;subst e4;cases hv with
   |asl _ _ _ _ cap base hb h0 hc hz hn=>
    rw [←e1];exact @VR.asl W.toVals _ b es n nl cap base (by rw [Ea h7];exact hb) (by rw [e1];exact h0) (by rw [e1];exact hc) hz (by rw [e2];exact hn)
   |aslEnd _ _ _ _ a h0 hn=>exact @VR.aslEnd W.toVals _ b es n nl a (by rw [e1];exact h0) (by rw [e2];exact hn)
  ·
   obtain ⟨o1,o2,h3,h4,rfl⟩:=Bt h;obtain ⟨ho1,ho2⟩:=Obs.append ho;have k1:=keyI h3 ho1;have k2:=keyB h4 ho2;cases hv with
   |eslc _ a hn=>exact @VR.aslEnd W.toVals _ b es n nl a (by rw [k1];rfl) (by rw [hn];exact k2.symm)
 |.eslc nl,x,o,v,h,ho,hv=>by
  have key:∀{b:SE},CB (nl.inst θ) b=some o→Ai W.V nl=Ai U.V b:=by
   intro b hq;rw [hV,←Em];exact Hj hq ho
  cases x<;>simp only [Cj,reduceCtorEq] at h
  ·have:=key h;cases hv;exact @VR.eslc W.toVals _ nl none (by rw [this];rfl)
  ·have:=key h;cases hv with
   |eslc _ a hn=>exact @VR.eslc W.toVals _ nl a (by rw [hn,this])
 |.aptr _ _ _ _,x,o,v,h,ho,hv=>by cases x<;>simp only [Cj,reduceCtorEq] at h
 |.nmap b nl,x,o,v,h,ho,hv=>by
  have key:∀{b:SE},CB (nl.inst θ) b=some o→Ai W.V nl=Ai U.V b:=by
   intro b hq;rw [hV,←Em];exact Hj hq ho
  cases x<;>simp only [Cj,reduceCtorEq] at h
  ·have:=key h;cases hv;exact @VR.nmap0 W.toVals _ b nl (by rw [this];rfl)
  ·obtain ⟨h1,h2⟩:=AO h;have:=key h2;cases hv with
   |map _ base hb=>exact @VR.nmap W.toVals _ b nl base (by rw [Ea h1];exact hb) (by rw [this];rfl)
  ·obtain ⟨h1,h2⟩:=AO h;have:=key h2;cases hv with
   |nmap _ _ base hb hn=>exact @VR.nmap W.toVals _ b nl base (by rw [Ea h1];exact hb) (by rw [this];exact hn)
   |nmap0 _ _ hn=>exact @VR.nmap0 W.toVals _ b nl (by rw [this];exact hn)
theorem C2:∀(a b:List AV) (o:Obs) (vs:List Value),EW θ β a b=some o→o.holds U.V→@VL U.toVals ρ b vs→@VL W.toVals (ρ.back β) a vs
 |[],b,o,vs,h,ho,hv=>by
  cases b with
  |nil=>have:=VL.nil_inv (U:=U.toVals) hv;subst this;exact VL.nil (U:=W.toVals) _
  |cons=>cases h
 |a::l,b,o,vs,h,ho,hv=>by
  cases b with
  |nil=>cases h
  |cons b m=>
   simp only [EW] at h;obtain ⟨o1,o2,h1,h2,rfl⟩:=Bt h;obtain ⟨ho1,ho2⟩:=Obs.append ho;obtain ⟨v,r,rfl,q1,q2⟩:=VL.cons_inv (U:=U.toVals) hv;exact VL.cons (U:=W.toVals) (FS a b o1 v h1 ho1 q1) (C2 l m o2 r h2 ho2 q2)
end
end
end Go.AE
namespace Go.AE
variable [Gl:Au]
def og (θ:List SE) (β:List Nat):Option AV→Option AV→Option Obs
 |none,_=>some []
 |some a,some b=>Cj θ β a b
 |some _,none=>none
def leT (θ:List SE) (β:List Nat):T AV→T AV→Option Obs
 |.nil,_=>some []
 |.node v l r,.node v' l' r'=>Dc (og θ β v v') (Dc (leT θ β l l') (leT θ β r r'))
 |.node _ _ _,.nil=>none
def VJ (θ:List SE) (β:List Nat):List Ak→List Ak→Option Obs
 |[],[]=>some []
 |a::l,b::m=>Db (Nat.beq a.born b.born) (Dc (Cj θ β a.key b.key) (Dc (Cj θ β a.val b.val) (VJ θ β l m)))
 |_,_=>none
def eW:LoopState→LoopState→Bool
 |.ready,.ready=>true
 |.busy,.busy=>true
 |.done,.done=>true
 |.exhausted,.exhausted=>true
 |_,_=>false
theorem Vx {a b:LoopState} (h:eW a b=true):a=b:=by cases a<;>cases b<;>first|rfl | (cases h;done)
def Ni [Facts] (E:Env) (θ:List SE) (β:List Nat):Ac→Ac→Option Obs
 |.cells n c,.cells n' c'=>Db (Nat.beq n n') (leT θ β c c')
 |.arr e x,.arr e' x'=>Db (Nat.beq e e') (IW (x.inst θ) x')
 |.arr e x,.cells n c=>match E.kinds e with
  |some ks=>match Nat.beq (n/ks.length*ks.length) n,c.range 0 n with
   |true,some l=>match C8 ks (n/ks.length) .emptyL l with
    |some y=>IW (x.inst θ) y
    |none=>none
   |_,_=>none
  |none=>none
 |.map es k,.map es' k'=>Db (Nat.beq k k') (VJ θ β es es')
 |.dmap k v x,.dmap k' v' x'=>Db (Nat.beq k k'&&Nat.beq v v') (IW (x.inst θ) x')
 |.dmap k v x,.map es clock=>match E.kinds k,E.kinds v with
  |some kks,some vks=>match KB kks vks .emptyL es with
   |some y=>Db (MB 0 es clock) (IW (x.inst θ) y)
   |none=>none
  |_,_=>none
 |.deferred none,.deferred none=>some []
 |.deferred (some []),.deferred (some [])=>some []
 |.loop st pending fn nt tmps params assign body d,.loop st' pending' fn' nt' tmps' params' assign' body' d'=>
  Db (eW st st'&&N6 BU pending pending'&&Nat.beq fn fn'&&Nat.beq nt nt'&&EQ Nat.beq params params'&&toB β d d') (Db (BU assign assign'&&BU body body') (leT θ β tmps tmps'))
 |_,_=>none
def aq [Facts] (E:Env) (θ:List SE) (β:List Nat):Option Ac→Option Ac→Option Obs
 |none,_=>some []
 |some x,some y=>Ni E θ β x y
 |some _,none=>none
def DG [Facts] (E:Env) (θ:List SE) (β:List Nat) (h:Aa):List (Option Ac)→List Nat→Option Obs
 |[],[]=>some []
 |o::r,b::bs=>Dc (aq E θ β o (h.blk.get b)) (DG E θ β h r bs)
 |_,_=>none
def Eb:List Nat→Bool
 |[]=>true
 |b::r=>!Gq b r&&Eb r
def BP:List (Option Ac)→Nat→T Ac→T Ac
 |[],_,t=>t
 |some x::r,i,t=>BP r (i+1) (t.set i x)
 |none::r,i,t=>BP r (i+1) t
def AW (l:List (Option Ac)):T Ac:=BP l 0 .nil
theorem J0:∀(l:List (Option Ac)) (i:Nat) (t:T Ac) (j:Nat),(∀q,i≤q→t.get q=none)→(BP l i t).get j=if i≤j then (l[j-i]?).join else t.get j:=by
 intro l
 induction l with
 |nil=>
  intro i t j ht;simp only [BP];by_cases h:i≤j
  ·rw [if_pos h,ht j h];rfl
  ·rw [if_neg h]
 |cons o r ih=>
  intro i t j ht
  have key:∀t',(∀q,i+1≤q→t'.get q=none)→t'.get i=o→(∀q,q<i→t'.get q=t.get q)→(BP r (i+1) t').get j=if i≤j then ((o::r)[j-i]?).join else t.get j:=by
   intro t' h1 h2 h3;rw [ih (i+1) t' j h1];by_cases c1:i+1≤j
   ·rw [if_pos c1,if_pos (by omega),show j-i=(j-(i+1))+1 by omega,List.getElem?_cons_succ]
   ·rw [if_neg c1];by_cases c2:i=j
    ·subst c2;rw [if_pos (Nat.le_refl _),h2];simp
    ·rw [if_neg (by omega),h3 j (by omega)]
  cases o with
  |some x=>
   simp only [BP];refine key _ (fun q hq=>?_) ?_ (fun q hq=>?_)
   ·rw [T.get_set,if_neg (by omega),ht q (by omega)]
   ·rw [T.get_set,if_pos rfl]
   ·rw [T.get_set,if_neg (by omega)]
  |none=>
   simp only [BP];exact key _ (fun q hq=>ht q (by omega)) (ht i (Nat.le_refl _)) (fun q hq=>rfl)
theorem BV (l:List (Option Ac)) (j:Nat):(AW l).get j=(l[j]?).join:=by
 rw [AW,J0 _ _ _ _ (fun q _=>T.get_nil _),if_pos (Nat.zero_le _)];simp
theorem Fa {b:Nat}:∀{l:List Nat},b∈l→Gq b l=true
 |c::r,h=>by
  simp only [Gq,Bool.or_eq_true];rcases List.mem_cons.1 h with rfl|h
  ·exact .inl (El b)
  ·exact .inr (Fa h)
def D7 (b:Nat):List (Option Ac)→List Nat→Bool
 |some _::r,c::bs=>Nat.beq b c||D7 b r bs
 |none::r,_::bs=>D7 b r bs
 |_,_=>false
def EH:List (Option Ac)→List Nat→Bool
 |some _::r,b::bs=>!D7 b r bs&&EH r bs
 |none::r,_::bs=>EH r bs
 |_,_=>true
theorem FG {b:Nat}:∀{l:List (Option Ac)} {bs:List Nat},D7 b l bs=false→∀{j:Nat} {x:Ac},l[j]?=some (some x)→bs[j]?=some b→False
 |[],_,_,j,x,h1,_=>by simp at h1
 |_::_,[],_,j,x,_,h2=>by simp at h2
 |some y::r,c::bs,h,j,x,h1,h2=>by
  simp only [D7,Bool.or_eq_false_iff] at h;cases j with
  |zero=>simp only [List.getElem?_cons_zero,Option.some.injEq] at h2;subst h2;rw [Nat.beq_refl] at h;exact absurd h.1 (by simp)
  |succ j=>exact FG h.2 (by simpa using h1) (by simpa using h2)
 |none::r,c::bs,h,j,x,h1,h2=>by
  simp only [D7] at h;cases j with
  |zero=>simp at h1
  |succ j=>exact FG h (by simpa using h1) (by simpa using h2)
theorem HW:∀{l:List (Option Ac)} {bs:List Nat},EH l bs=true→∀{i j b:Nat} {x y:Ac},l[i]?=some (some x)→l[j]?=some (some y)→bs[i]?=some b→bs[j]?=some b→i=j
 |[],_,_,i,j,b,x,y,h1,_,_,_=>by simp at h1
 |_::_,[],_,i,j,b,x,y,_,_,h3,_=>by simp at h3
 |none::r,c::bs,h,i,j,b,x,y,h1,h2,h3,h4=>by
  simp only [EH] at h;cases i with
  |zero=>simp at h1
  |succ i=>
   cases j with
   |zero=>simp at h2
   |succ j=>exact congrArg (· + 1) (HW h (i:=i) (j:=j) (b:=b) (x:=x) (y:=y) (by simpa using h1) (by simpa using h2) (by simpa using h3) (by simpa using h4))
 |some z::r,c::bs,h,i,j,b,x,y,h1,h2,h3,h4=>by
  simp only [EH,Bool.and_eq_true,Bool.not_eq_true'] at h;cases i with
  |zero=>
   simp only [List.getElem?_cons_zero,Option.some.injEq] at h3;subst h3;cases j with
   |zero=>rfl
   |succ j=>exact (FG h.1 (by simpa using h2) (by simpa using h4)).elim
  |succ i=>
   cases j with
   |zero=>
    simp only [List.getElem?_cons_zero,Option.some.injEq] at h4;subst h4;exact (FG h.1 (by simpa using h1) (by simpa using h3)).elim
   |succ j=>exact congrArg (· + 1) (HW h.2 (i:=i) (j:=j) (b:=b) (x:=x) (y:=y) (by simpa using h1) (by simpa using h2) (by simpa using h3) (by simpa using h4))
theorem Ll:∀{l:List Nat},Eb l=true→∀{i j b:Nat},l[i]?=some b→l[j]?=some b→i=j
 |[],_,i,j,b,h,_=>by simp at h
 |c::r,h,i,j,b,hi,hj=>by
  simp only [Eb,Bool.and_eq_true,Bool.not_eq_true'] at h;cases i with
  |zero=>
   simp only [List.getElem?_cons_zero,Option.some.injEq] at hi;subst hi;cases j with
   |zero=>rfl
   |succ j=>
    simp only [List.getElem?_cons_succ] at hj;rw [Fa (List.mem_of_getElem? hj)] at h;cases h.1
  |succ i=>
   simp only [List.getElem?_cons_succ] at hi;cases j with
   |zero=>
    simp only [List.getElem?_cons_zero,Option.some.injEq] at hj;subst hj;rw [Fa (List.mem_of_getElem? hi)] at h;cases h.1
   |succ j=>
    simp only [List.getElem?_cons_succ] at hj;rw [Ll h.2 hi hj]
section
variable {U W:Unk} {θ:List SE} (hV:W.V=U.V.inst θ) (hK:W.K=U.K) {β:List Nat} {ρ:Ren} {E:Env}
include hV hK
theorem Vs {a b:Option AV} {o:Obs} (h:og θ β a b=some o) (ho:o.holds U.V) {x:AV} (hx:a=some x):∃y,b=some y∧∀v,@VR U.toVals ρ y v→@VR W.toVals (ρ.back β) x v:=by
 subst hx;cases b with
 |none=>cases h
 |some y=>exact ⟨y,rfl,fun v hv=>FS hV hK x y o v h ho hv⟩
theorem JT:∀(p a:T AV) (o:Obs),leT θ β p a=some o→o.holds U.V→∀i x,p.get i=some x→∃y,a.get i=some y∧∀v,@VR U.toVals ρ y v→@VR W.toVals (ρ.back β) x v
 |.nil,a,o,h,ho,i,x,hx=>by simp [T.get_nil] at hx
 |.node v l r,.nil,o,h,ho,i,x,hx=>by cases h
 |.node v l r,.node v' l' r',o,h,ho,i,x,hx=>by
  simp only [leT] at h;obtain ⟨o1,o2,h1,h2,rfl⟩:=Bt h;obtain ⟨o3,o4,h3,h4,rfl⟩:=Bt h2;obtain ⟨ho1,ho2⟩:=Obs.append ho;obtain ⟨ho3,ho4⟩:=Obs.append ho2;simp only [T.get_eq,T.get0] at hx ⊢;split at hx
  ·exact Vs hV hK h1 ho1 hx
  ·split at hx
   ·simp only [←T.get_eq] at hx ⊢;exact JT l l' o3 h3 ho3 _ x hx
   ·simp only [←T.get_eq] at hx ⊢;exact JT r r' o4 h4 ho4 _ x hx
theorem P0:∀(p a:List Ak) (o:Obs) (es:List MapEntry),VJ θ β p a=some o→o.holds U.V→@ER U.toVals ρ a es→@ER W.toVals (ρ.back β) p es
 |[],[],o,es,h,ho,he=>by cases es<;>simp_all [ER]
 |a::l,b::m,o,es,h,ho,he=>by
  simp only [VJ] at h;obtain ⟨hb,h⟩:=AO h;obtain ⟨o1,o2,h1,h2,rfl⟩:=Bt h;obtain ⟨o3,o4,h3,h4,rfl⟩:=Bt h2;obtain ⟨ho1,ho2⟩:=Obs.append ho;obtain ⟨ho3,ho4⟩:=Obs.append ho2;cases es with
  |nil=>simp [ER] at he
  |cons e r=>
   obtain ⟨q1,q2,q3,q4⟩:=he;exact ⟨FS hV hK _ _ _ _ h1 ho1 q1,FS hV hK _ _ _ _ h3 ho3 q2,by rw [q3,Aq hb],P0 l m o4 r h4 ho4 q4⟩
 |[],_::_,o,es,h,_,_=>by cases h
 |_::_,[],o,es,h,_,_=>by cases h
theorem Sr (hE:@OK _ U E) {x y:Ac} {o:Obs} {base:Bf} {ob:Option Obj} (h:@Ni U.toFacts E θ β x y=some o) (ho:o.holds U.V) (hb:@BR U.toVals ρ y base ob):@BR W.toVals (ρ.back β) x base ob:=by
 unfold Ni at h;split at h
 ·
  rename_i n c n' c';obtain ⟨h1,h2⟩:=AO h;rw [Aq h1];obtain ⟨cur,e,fz,b1,b2,b3,b4,b5⟩:=hb;refine ⟨cur,e,fz,b1,b2,b3,b4,fun i a hi ha=>?_⟩
  obtain ⟨y,q1,q2⟩:=JT hV hK (ρ:=ρ) c c' o h2 ho i a ha;obtain ⟨v,v1,v2⟩:=b5 i y hi q1;exact ⟨v,v1,q2 v v2⟩
 ·
  rename_i e x e' x';obtain ⟨h1,h2⟩:=AO h;rw [Aq h1];obtain ⟨ks,cur,et,fz,b1,b2,b3,b4,b5⟩:=hb;have e1:Af W.V x=Af U.V x':=by rw [hV,←BI,FE h2 ho]
  exact ⟨ks,cur,et,fz,by rw [hK];exact b1,b2,b3,b4,by rw [e1,hK];exact b5⟩
 ·
  rename_i e x n c;split at h
  ·rename_i ks hk;split at h
   ·rename_i l hn hl;split at h
    ·rename_i y hy;obtain ⟨cur,et,fz,b1,b2,b3,b4,b5⟩:=hb;have hk2:U.K e=some ks:=by rw [OK.kd (U:=U) hE,←OK.ke (U:=U) hE];exact hk
     have e1:Af W.V x=Af U.V y:=by rw [hV,←BI,FE h ho]
     obtain ⟨l1,l2⟩:=T.range_spec c _ _ _ hl
     have hvl:@VL U.toVals ρ l ((cur.toList.drop base.co).take n):=by
      refine ⟨by simp [l1];omega,fun i a v ha hv=>?_⟩
      have hi:i<n:=by have:=(List.getElem?_eq_some_iff.1 ha).1;omega
      have:=l2 i hi;rw [Nat.zero_add,ha] at this;obtain ⟨v',v1,v2⟩:=b5 i a hi this;rw [List.getElem?_take,if_pos hi,List.getElem?_drop,Array.getElem?_toList,v1] at hv;cases hv;exact v2
     obtain ⟨rs,r1,r2,r3⟩:=@Eh _ U ρ ks _ _ _ _ _ hy hvl;have er:(Af U.V y).rows=rs:=by rw [r2];rfl
     have hlen:((cur.toList.drop base.co).take n).length=n:=by simp;omega
     refine ⟨ks,cur,et,fz,by rw [hK];exact hk2,b1,b2,b4,?_⟩
     rw [e1,er,hK]
     exact r3.at (by rw [hlen,b2];exact b3) (fun q hq=>by
      rw [hlen] at hq;rw [List.getElem?_take,if_pos hq,List.getElem?_drop,Array.getElem?_toList])
    ·cases h
   ·cases h
  ·cases h
 ·
  obtain ⟨h1,h2⟩:=AO h;rw [Aq h1];obtain ⟨es',b1,b2⟩:=hb;exact ⟨es',b1,P0 hV hK _ _ _ _ h2 ho b2⟩
 ·
  rename_i k v x k' v' x';obtain ⟨h1,h2⟩:=AO h;obtain ⟨c1,c2⟩:=Am h1;rw [Aq c1,Aq c2];obtain ⟨kks,vks,es',clock,b1,b2,b3,b4,b5⟩:=hb;have e1:Af W.V x=Af U.V x':=by rw [hV,←BI,FE h2 ho]
  exact ⟨kks,vks,es',clock,by rw [hK];exact b1,by rw [hK];exact b2,b3,by rw [e1,hK];exact b4,b5⟩
 ·
  rename_i k v x es clock;split at h
  ·rename_i kks vks hk hv;split at h
   ·rename_i y hy;obtain ⟨hinc,h⟩:=AO h;obtain ⟨es',b1,b2⟩:=hb;have hk2:U.K k=some kks:=by rw [OK.kd (U:=U) hE,←OK.ke (U:=U) hE];exact hk
    have hv2:U.K v=some vks:=by rw [OK.kd (U:=U) hE,←OK.ke (U:=U) hE];exact hv
    have e1:Af W.V x=Af U.V y:=by rw [hV,←BI,FE h ho]
    have q:AU U.K ρ.imm kks vks ([]++es') (Af U.V y).rows:=@Kr _ U ρ kks vks _ _ _ _ [] hy b2 trivial;rw [List.nil_append] at q;exact ⟨kks,vks,es',clock,by rw [hK];exact hk2,by rw [hK];exact hv2,b1,by rw [e1,hK];exact q,(@Mj _ U.toVals ρ es es' 0 clock hinc b2).2⟩
   ·cases h
  ·cases h
 ·exact hb
 ·obtain ⟨l',q1,q2⟩:=hb;cases l' with
  |nil=>exact ⟨[],trivial,q2⟩
  |cons=>exact q1.elim
 ·
  obtain ⟨h1,h2⟩:=AO h;obtain ⟨h3,h4⟩:=AO h2;obtain ⟨h1,c6⟩:=Am h1;obtain ⟨h1,c5⟩:=Am h1;obtain ⟨h1,c4⟩:=Am h1;obtain ⟨h1,c3⟩:=Am h1;obtain ⟨c1,c2⟩:=Am h1;obtain ⟨c7,c8⟩:=Am h3;have e1:=Vx c1;have e2:=Ht (fun _ _=>Dp) c2
  have e3:=Aq c3;have e4:=Aq c4;have e5:=FN (fun _ _=>AJ) c5
  have e7:=Dp c7;have e8:=Dp c8;subst e1;subst e2;subst e3;subst e4;subst e5;subst e7;subst e8;obtain ⟨tm,bd,q1,q2,q3⟩:=hb;refine ⟨tm,bd,by rw [Ea c6];exact q1,@TR.mk W.toVals (ρ.back β) _ _ _ (@TR.size U.toVals ρ _ _ _ q2) (fun i x hx=>?_),q3⟩
  obtain ⟨y,r1,r2⟩:=JT hV hK (ρ:=ρ) _ _ o h4 ho i x hx;exact r2 _ (@TR.get U.toVals ρ _ _ _ q2 i y r1)
 ·cases h
theorem CF {h:Aa}:∀(l:List (Option Ac)) (bs:List Nat) (o:Obs),@DG U.toFacts E θ β h l bs=some o→o.holds U.V→l.length=bs.length∧∀(i:Nat) x,l[i]?=some (some x)→∃b y o',bs[i]?=some b∧h.blk.get b=some y∧@Ni U.toFacts E θ β x y=some o'∧o'.holds U.V
 |[],[],o,h,ho=>⟨rfl,fun i x hx=>by simp at hx⟩
 |a::l,b::bs,o,h,ho=>by
  simp only [DG] at h;obtain ⟨o1,o2,h1,h2,rfl⟩:=Bt h;obtain ⟨ho1,ho2⟩:=Obs.append ho;obtain ⟨q1,q2⟩:=CF l bs o2 h2 ho2;refine ⟨by simp [q1],fun i x hx=>?_⟩
  cases i with
  |zero=>
   simp only [List.getElem?_cons_zero,Option.some.injEq] at hx;subst hx;cases hg:(_:Aa).blk.get b with
   |none=>rw [hg] at h1;cases h1
   |some y=>rw [hg] at h1;exact ⟨b,y,o1,rfl,hg,h1,ho1⟩
  |succ i=>
   simp only [List.getElem?_cons_succ] at hx ⊢;exact q2 i x hx
 |[],_::_,o,h,_=>by cases h
 |_::_,[],o,h,_=>by cases h
theorem HR.toPatL (hE:@OK _ U E) {h:Aa} {w:World} {l:List (Option Ac)} {o:Obs} (hr:@HR _ U.toVals ρ h.blk.get w) (hl:@DG U.toFacts E θ β h l β=some o) (ho:o.holds U.V) (hn:EH l β=true):@HR _ W.toVals (ρ.back β) (AW l).get w:=by
 obtain ⟨q1,q2⟩:=CF hV hK l β o hl ho
 have at_:∀b base,(ρ.back β).m b=some base→∃c,β[b]?=some c∧ρ c=some base:=by
  intro b base hb;simp only [Ren.back] at hb;cases hc:β[b]? with
  |none=>rw [hc] at hb;cases hb
  |some c=>rw [hc] at hb;exact ⟨c,rfl,hb⟩
 have live:∀b,(AW l).get b≠none→∃x c y o',(AW l).get b=some x∧β[b]?=some c∧h.blk.get c=some y∧@Ni U.toFacts E θ β x y=some o'∧o'.holds U.V:=by
  intro b hb;rw [BV] at hb ⊢;cases hx:l[b]? with
  |none=>rw [hx] at hb;exact absurd rfl hb
  |some ox=>
   cases ox with
   |none=>rw [hx] at hb;exact absurd rfl hb
   |some x=>
    obtain ⟨c,y,o',a1,a2,a3,a4⟩:=q2 b x hx;exact ⟨x,c,y,o',rfl,a1,a2,a3,a4⟩
 refine ⟨fun b base hb=>?_,fun b base x hb hx=>?_,fun b b' base base' hne hb hb' h1 h2=>?_,fun k arr hk=>HR.imm (U:=U.toVals) (ρ:=ρ) hr k arr hk,fun k arr b base hk hb hl=>?_,HR.glob (U:=U.toVals) (ρ:=ρ) hr⟩
 ·obtain ⟨c,c1,c2⟩:=at_ b base hb;exact HR.lt (U:=U.toVals) hr c base c2
 ·obtain ⟨x',c,y,o',e1,e2,e3,e4,e5⟩:=live b (by rw [hx];exact Option.some_ne_none _)
  rw [hx] at e1;cases e1;obtain ⟨c',c1,c2⟩:=at_ b base hb;rw [e2] at c1;cases c1;exact Sr hV hK hE e4 e5 (HR.blk (U:=U.toVals) hr c base y c2 e3)
 ·obtain ⟨c,c1,c2⟩:=at_ b base hb;obtain ⟨c',c1',c2'⟩:=at_ b' base' hb';obtain ⟨_,d,y,_,_,e2,e3,_,_⟩:=live b h1;obtain ⟨_,d',y',_,_,e2',e3',_,_⟩:=live b' h2;rw [c1] at e2;cases e2;rw [c1'] at e2';cases e2';refine HR.apart (U:=U.toVals) hr c c' base base' (fun e=>?_) c2 c2' (by rw [e3];exact Option.some_ne_none _) (by rw [e3'];exact Option.some_ne_none _)
  subst e
  have live1:∀b,(AW l).get b≠none→∃x,l[b]?=some (some x):=by
   intro b hb;rw [BV] at hb;cases hx:l[b]? with
   |none=>rw [hx] at hb;exact absurd rfl hb
   |some ox=>
    cases ox with
    |none=>rw [hx] at hb;exact absurd rfl hb
    |some x=>exact ⟨x,rfl⟩
  obtain ⟨x1,l1⟩:=live1 b h1;obtain ⟨x2,l2⟩:=live1 b' h2;exact hne (HW hn l1 l2 c1 c1')
 ·obtain ⟨c,c1,c2⟩:=at_ b base hb;obtain ⟨_,d,y,_,_,e2,e3,_,_⟩:=live b hl;rw [c1] at e2;cases e2;exact HR.off (U:=U.toVals) hr k arr c base hk c2 (by rw [e3];exact Option.some_ne_none _)
omit hV hK in
theorem R1 {l:List (Option Ac)} {bs:List Nat} (h:Eb bs=true):EH l bs=true:=by
 induction l generalizing bs with
 |nil=>rfl
 |cons o r ih=>
  cases bs with
  |nil=>cases o<;>rfl
  |cons b bs=>
   simp only [Eb,Bool.and_eq_true,Bool.not_eq_true'] at h;cases o with
   |none=>exact ih h.2
   |some x=>
    simp only [EH,Bool.and_eq_true,Bool.not_eq_true'];refine ⟨?_,ih h.2⟩;cases hq:D7 b r bs with
    |false=>rfl
    |true=>
     exfalso
     have:∀(r:List (Option Ac)) (bs:List Nat),D7 b r bs=true→Gq b bs=true:=by
      intro r
      induction r with
      |nil=>intro bs h;cases bs<;>cases h
      |cons o r ih2=>
       intro bs h;cases bs with
       |nil=>cases o<;>cases h
       |cons c bs=>
        cases o with
        |none=>simp only [D7] at h;simp [Gq,ih2 bs h]
        |some x=>
         simp only [D7,Bool.or_eq_true] at h;simp only [Gq,Bool.or_eq_true];exact h.imp id (ih2 bs)
     rw [this r bs hq] at h;exact absurd h.1 (by simp)
theorem HR.toPat (hE:@OK _ U E) {h:Aa} {w:World} {l:List (Option Ac)} {o:Obs} (hr:@HR _ U.toVals ρ h.blk.get w) (hl:@DG U.toFacts E θ β h l β=some o) (ho:o.holds U.V) (hn:Eb β=true):@HR _ W.toVals (ρ.back β) (AW l).get w:=
 HR.toPatL hV hK hE hr hl ho (R1 hn)
end
end Go.AE
namespace Go.AE
variable [Gl:Au]
def Pu (β:List Nat):Fn→Fn
 |.yield l=>.yield (β.getD l 0)
 |f=>f
mutual
def AV.inst [Facts] (θ:List SE) (β:List Nat):AV→AV
 |.top=>.top
 |.bool b=>.bool b
 |.int k n=>.int k n
 |.str l b=>.str l b
 |.ptr0=>.ptr0
 |.ptr b o=>.ptr (β.getD b 0) o
 |.slice0=>.slice0
 |.slice b o n es=>.slice (β.getD b 0) o n es
 |.map0=>.map0
 |.map b=>.map (β.getD b 0)
 |.func fn f c=>.func (Pu β fn) (AV.instL θ β f) (AV.instL θ β c)
 |.nilFunc=>.nilFunc
 |.iface t v=>.iface t (AV.inst θ β v)
 |.nilIface=>.nilIface
 |.agg l=>.agg (AV.instL θ β l)
 |.tuple l=>.tuple (AV.instL θ β l)
 |.sb p e=>mkB p (e.inst θ)
 |.si k e=>mkI k (e.inst θ)
 |.ss x=>.ss (x.inst θ)
 |.dat e x=>.dat e (x.inst θ)
 |.dptr e x i off=>.dptr e (x.inst θ) (i.inst θ) off
 |.asl b es n nl=>.asl (β.getD b 0) es (n.inst θ) (nl.inst θ)
 |.eslc nl=>.eslc (nl.inst θ)
 |.aptr b es i off=>.aptr (β.getD b 0) es (i.inst θ) off
 |.nmap b nl=>.nmap (β.getD b 0) (nl.inst θ)
 |.stamp b=>.stamp (β.getD b 0)
 |.glob g off=>.glob g off
termination_by structural a=>a
def AV.instL [Facts] (θ:List SE) (β:List Nat):List AV→List AV
 |[]=>[]
 |a::l=>AV.inst θ β a::AV.instL θ β l
termination_by structural l=>l
end
def T.mapA {α γ:Type} (f:α→γ):T α→T γ
 |.nil=>.nil
 |.node v l r=>.node (match v with|some x=>some (f x)|none=>none) (l.mapA f) (r.mapA f)
def PE [Facts] (θ:List SE) (β:List Nat):List Ak→List Ak
 |[]=>[]
 |e::r=>{key:=e.key.inst θ β,val:=e.val.inst θ β,born:=e.born}::PE θ β r
def Ac.inst [Facts] (θ:List SE) (β:List Nat):Ac→Option Ac
 |.cells n c=>some (.cells n (c.mapA (AV.inst θ β)))
 |.arr e x=>some (.arr e (x.inst θ))
 |.map es k=>some (.map (PE θ β es) k)
 |.dmap k v x=>some (.dmap k v (x.inst θ))
 |.deferred none=>some (.deferred none)
 |.deferred (some [])=>some (.deferred (some []))
 |.loop st pending fn nt tmps params assign body d=>some (.loop st pending fn nt (tmps.mapA (AV.inst θ β)) params assign body (β.getD d 0))
 |_=>none
theorem T.get_mapA {α γ:Type} (f:α→γ):∀(t:T α) (i:Nat),(t.mapA f).get i=(t.get i).map f
 |.nil,i=>by rw [T.mapA,T.get_nil,T.get_nil];rfl
 |.node v l r,i=>by
  simp only [T.mapA,T.get_eq,T.get0];split
  ·cases v<;>rfl
  ·split
   ·simp only [←T.get_eq];exact T.get_mapA f l _
   ·simp only [←T.get_eq];exact T.get_mapA f r _
section
variable {U W:Unk} {θ:List SE} (hV:W.V=U.V.inst θ) (hK:W.K=U.K) {β:List Nat} {σ τ:Ren}
 (hβ:∀b base,σ b=some base→τ (β.getD b 0)=some base) (hM:∀k a,σ.imm k=some a→τ.imm k=some a)
include hV hK hβ hM
omit hK in
theorem BW {e:SE}:Af U.V (e.inst θ)=Af W.V e:=by rw [BI,hV]
theorem Rt {f g:Fn} (h:FnR σ f g):FnR τ (Pu β f) g:=by
 cases f<;>simp only [FnR,Pu] at h ⊢<;>first|exact h|skip
 obtain ⟨base,h1,h2⟩:=h;exact ⟨base,hβ _ _ h1,h2⟩
mutual
theorem EK:∀(a:AV) (v:Value),@VR W.toVals σ a v→@VR U.toVals τ (@AV.inst U.toFacts θ β a) v
 |.top,v,h=>@VR.top U.toVals _ v
 |.bool b,v,h=>by cases h;exact @VR.bool U.toVals _ _
 |.int k n,v,h=>by cases h;exact @VR.int U.toVals _ _ _
 |.str l b,v,h=>by cases h;exact @VR.str U.toVals _ _
 |.ptr0,v,h=>by cases h;exact @VR.ptr0 U.toVals _
 |.ptr b o,v,h=>by
  cases h with
  |ptr _ _ base hb=>exact @VR.ptr U.toVals _ _ o base (hβ _ _ hb)
 |.slice0,v,h=>by cases h;exact @VR.slice0 U.toVals _
 |.slice b o n es,v,h=>by
  cases h with
  |slice _ _ _ _ cap base hb hc hz=>exact @VR.slice U.toVals _ _ o n es cap base (hβ _ _ hb) hc hz
  |sliceEnd _ _ _ a=>exact @VR.sliceEnd U.toVals _ _ o es a
 |.map0,v,h=>by cases h;exact @VR.map0 U.toVals _
 |.map b,v,h=>by
  cases h with
  |map _ base hb=>exact @VR.map U.toVals _ _ base (hβ _ _ hb)
 |.func fn f c,v,h=>by
  cases h with
  |func _ fn' _ _ f' c' r1 r2 r3 r4 r5=>
   have q1:=Fr f f' ⟨r2,r3⟩;have q2:=Fr c c' ⟨r4,r5⟩;exact @VR.func U.toVals _ _ fn' _ _ f' c' (Rt hV hK hβ hM r1) q1.1 q1.2 q2.1 q2.2
 |.nilFunc,v,h=>by cases h;exact @VR.nilFunc U.toVals _
 |.iface t a,v,h=>by
  cases h with
  |iface _ _ v' hv=>exact @VR.iface U.toVals _ t _ v' (EK a v' hv)
 |.nilIface,v,h=>by cases h;exact @VR.nilIface U.toVals _
 |.agg l,v,h=>by
  cases h with
  |agg _ l' r1 r2=>
   have q:=Fr l l' ⟨r1,r2⟩;exact @VR.agg U.toVals _ _ l' q.1 q.2
 |.tuple l,v,h=>by
  cases h with
  |tuple _ l' r1 r2=>
   have q:=Fr l l' ⟨r1,r2⟩;exact @VR.tuple U.toVals _ _ l' q.1 q.2
 |.sb p e,v,h=>by
  cases h;have:=@Fh _ U τ p (e.inst θ);have e1:Ai U.V (e.inst θ)=Ai W.V e:=by unfold Ai;rw [BW hV hβ hM]
  rw [e1] at this;exact this
 |.si k e,v,h=>by
  cases h;have:=@B3 _ U τ k (e.inst θ);have e1:Ag U.V (e.inst θ)=Ag W.V e:=by unfold Ag;rw [BW hV hβ hM]
  rw [e1] at this;exact this
 |.ss x,v,h=>by
  cases h;have e1:AG U.V (x.inst θ)=AG W.V x:=by unfold AG;rw [BW hV hβ hM]
  have:=@VR.ss U.toVals τ (x.inst θ);rw [e1] at this;exact this
 |.dat e x,v,h=>by
  cases h with
  |dat _ _ a n c hd=>exact @VR.dat U.toVals τ e _ a n c (by rw [BW hV hβ hM,←hK];exact hd.mono hM)
 |.dptr e x i off,v,h=>by
  cases h with
  |dptr _ _ _ _ b o n cap ks hd hk h0 hi ho=>
   have e1:Ag U.V (i.inst θ)=Ag W.V i:=by unfold Ag;rw [BW hV hβ hM]
   have:=@VR.dptr U.toVals τ e (x.inst θ) (i.inst θ) off b o n cap ks (by rw [BW hV hβ hM,←hK];exact hd.mono hM) (by rw [←hK];exact hk) (by rw [e1];exact h0) (by rw [e1];exact hi) ho
   rw [e1] at this;exact this
 |.asl b es n nl,v,h=>by
  have e1:Ag U.V (n.inst θ)=Ag W.V n:=by unfold Ag;rw [BW hV hβ hM]
  have e2:Ai U.V (nl.inst θ)=Ai W.V nl:=by unfold Ai;rw [BW hV hβ hM]
  cases h with
  |asl _ _ _ _ cap base hb h0 hc hz hn=>
   have:=@VR.asl U.toVals τ _ es (n.inst θ) (nl.inst θ) cap base (hβ _ _ hb) (by rw [e1];exact h0) (by rw [e1];exact hc) hz (by rw [e2];exact hn)
   rw [e1] at this;exact this
  |aslEnd _ _ _ _ a h0 hn=>exact @VR.aslEnd U.toVals τ _ es _ _ a (by rw [e1];exact h0) (by rw [e2];exact hn)
 |.eslc nl,v,h=>by
  have e2:Ai U.V (nl.inst θ)=Ai W.V nl:=by unfold Ai;rw [BW hV hβ hM]
  cases h with
  |eslc _ a hn=>exact @VR.eslc U.toVals τ _ a (by rw [e2];exact hn)
 |.aptr b es i off,v,h=>by
  have e1:Ag U.V (i.inst θ)=Ag W.V i:=by unfold Ag;rw [BW hV hβ hM]
  cases h with
  |aptr _ _ _ _ base hb h0=>
   have:=@VR.aptr U.toVals τ _ es (i.inst θ) off base (hβ _ _ hb) (by rw [e1];exact h0)
   rw [e1] at this;exact this
 |.nmap b nl,v,h=>by
  have e2:Ai U.V (nl.inst θ)=Ai W.V nl:=by unfold Ai;rw [BW hV hβ hM]
  cases h with
  |nmap _ _ base hb hn=>exact @VR.nmap U.toVals τ _ _ base (hβ _ _ hb) (by rw [e2];exact hn)
  |nmap0 _ _ hn=>exact @VR.nmap0 U.toVals τ _ _ (by rw [e2];exact hn)
 |.stamp b,v,h=>by
  cases h with
  |stamp _ base hb=>exact @VR.stamp U.toVals τ _ base (hβ _ _ hb)
 |.glob g off,v,h=>by cases h;exact @VR.glob U.toVals _ _ _
theorem Fr:∀(l:List AV) (vs:List Value),@VL W.toVals σ l vs→@VL U.toVals τ (@AV.instL U.toFacts θ β l) vs
 |[],vs,h=>by have:=VL.nil_inv (U:=W.toVals) h;subst this;exact VL.nil (U:=U.toVals) _
 |a::l,vs,h=>by
  obtain ⟨v,r,rfl,q1,q2⟩:=VL.cons_inv (U:=W.toVals) h;exact VL.cons (U:=U.toVals) (EK a v q1) (Fr l r q2)
end
theorem K8:∀(l:List Ak) (es:List MapEntry),@ER W.toVals σ l es→@ER U.toVals τ (@PE U.toFacts θ β l) es
 |[],[],_=>trivial
 |a::l,e::r,h=>⟨EK hV hK hβ hM _ _ h.1,EK hV hK hβ hM _ _ h.2.1,h.2.2.1,K8 l r h.2.2.2⟩
theorem ON {x y:Ac} {base:Bf} {ob:Option Obj} (h:@Ac.inst U.toFacts θ β x=some y) (hb:@BR W.toVals σ x base ob):@BR U.toVals τ y base ob:=by
 unfold Ac.inst at h;split at h
 ·cases h;obtain ⟨cur,e,fz,b1,b2,b3,b4,b5⟩:=hb;refine ⟨cur,e,fz,b1,b2,b3,b4,fun i a hi ha=>?_⟩
  rw [T.get_mapA] at ha;cases hx:(_:T AV).get i with
  |none=>rw [hx] at ha;cases ha
  |some a0=>
   rw [hx] at ha;cases ha;obtain ⟨v,v1,v2⟩:=b5 i a0 hi hx;exact ⟨v,v1,EK hV hK hβ hM _ _ v2⟩
 ·cases h;obtain ⟨ks,cur,et,fz,b1,b2,b3,b4,b5⟩:=hb;exact ⟨ks,cur,et,fz,by rw [←hK];exact b1,b2,b3,b4,by rw [BW hV hβ hM,←hK];exact b5.mono hM⟩
 ·cases h;obtain ⟨es,b1,b2⟩:=hb;exact ⟨es,b1,K8 hV hK hβ hM _ _ b2⟩
 ·cases h;obtain ⟨kks,vks,es',clock,b1,b2,b3,b4,b5⟩:=hb;exact ⟨kks,vks,es',clock,by rw [←hK];exact b1,by rw [←hK];exact b2,b3,by rw [BW hV hβ hM,←hK];exact b4.mono hM,b5⟩
 ·cases h;exact hb
 ·cases h;obtain ⟨l',q1,q2⟩:=hb;cases l' with
  |nil=>exact ⟨[],trivial,q2⟩
  |cons=>exact q1.elim
 ·cases h;obtain ⟨tm,bd,q1,q2,q3⟩:=hb;refine ⟨tm,bd,hβ _ _ q1,@TR.mk U.toVals τ _ _ _ (@TR.size W.toVals σ _ _ _ q2) (fun i x hx=>?_),q3⟩
  rw [T.get_mapA] at hx;cases hy:(_:T AV).get i with
  |none=>rw [hy] at hx;cases hx
  |some a0=>
   rw [hy] at hx;cases hx;exact EK hV hK hβ hM _ _ (@TR.get W.toVals σ _ _ _ q2 i a0 hy)
 ·cases h
end
end Go.AE

