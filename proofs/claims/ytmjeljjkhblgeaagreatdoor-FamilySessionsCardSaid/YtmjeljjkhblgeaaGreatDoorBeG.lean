/- What is proved here: an evaluator of the model's steps that the kernel can run, and that whatever it answers is what the model does (part 7 of 8: AeLoop, AeRun4, AeQuick, AeFast, AeOK, AeTop). Conditions: those that each theorem states; they hold of no one program. -/
import Derived.Test.YtmjeljjkhblgeaaGreatDoorBeF
import Derived.Eval
import Derived.KernelRfl
import Derived.Carry
import Derived.Handed
set_option linter.unusedVariables false
set_option linter.unusedSectionVars false
set_option linter.unusedSimpArgs false
namespace Go.AE
variable [Gl:Ax]
section
variable [U:Vals]
theorem blT {a b:Nat} (h:Nat.blt a b=true):a<b:=Nat.le_of_ble_eq_true h
theorem T.allA_get {C:Type} {p:C→Bool}:∀{t:T C},t.allA p=true→∀i x,t.get i=some x→p x=true
 |.nil,_,i,x,j=>by rw [T.get_nil] at j;cases j
 |.node v l r,h,i,x,j=>by
  simp only [T.allA,Bool.and_eq_true] at h;obtain ⟨I,h2,J⟩:=h;by_cases e:i=0
  ·rw [T.get_zero _ _ _ e] at j;subst j;exact I
  ·by_cases o:i%2=1
   ·rw [T.get_odd _ _ _ o] at j;exact T.allA_get h2 _ x j
   ·rw [T.get_even _ _ _ (by omega) e] at j;exact T.allA_get J _ x j
theorem CF {n:Nat}:∀{l:List AV},Eb n l=true→∀(i:Nat) (a:AV),l[i]?=some a→FA n a=true
 |[],_,i,a,h=>by simp at h
 |x::l,h,i,a,b=>by
  simp only [Eb,Bool.and_eq_true] at h;cases i with
  |zero=>simp only [List.getElem?_cons_zero,Option.some.injEq] at b;subst b;exact h.1
  |succ i=>exact CF h.2 i a (by simpa using b)
def Ren.cut (i:Ren) (nx N:Nat):Ren:=⟨fun b=>if nx≤b∧b<N then none else i b,i.imm⟩
theorem Ren.cut_lt {i:Ren} {nx N b:Nat} (h:b<nx):(i.cut nx N) b=i b:=if_neg (by omega)
theorem Ren.cut_some {i:Ren} {nx N b:Nat} {x:Bh} (h:(i.cut nx N) b=some x):i b=some x:=by
 unfold Ren.cut at h;simp only at h;split at h
 ·cases h
 ·exact h
theorem Ren.le_cut {i l:Ren} {nx N:Nat} (h:i.le l) (r:AA i nx N):i.le (l.cut nx N):=by
 refine ⟨fun b x j=>?_,h.imm⟩
 unfold Ren.cut;simp only;split
 ·rename_i q;rw [r b q.1 q.2] at j;cases j
 ·exact h.m b x j
theorem Ren.cut_free (i:Ren) (nx N:Nat):AA (i.cut nx N) nx N:=fun b j h2=>if_pos ⟨j,h2⟩
theorem FnR.cut {i:Ren} {nx N:Nat} {f g:Fn} (h:FnR i f g) (k:aJ nx f=true):FnR (i.cut nx N) f g:=by
 cases f<;>simp only [FnR] at h ⊢<;>first|exact h|skip
 obtain ⟨x,j,l⟩:=h;exact ⟨x,(Ren.cut_lt (blT k)).trans j,l⟩
theorem VR.cut {τ:Ren} {nx N:Nat} {a:AV} {v:Value} (h:VR τ a v) (j:FA nx a=true):VR (τ.cut nx N) a v:=by
 have at':∀{b:Nat} {x:Bh},τ b=some x→Nat.blt b nx=true→(τ.cut nx N) b=some x:=fun h k=>(Ren.cut_lt (blT k)).trans h
 induction h with
 |top v=>exact .top v
 |bool b=>exact .bool b
 |int k n=>exact .int k n
 |str s=>exact .str s
 |ptr0=>exact .ptr0
 |ptr b off base h=>exact .ptr b off base (at' h j)
 |slice0=>exact .slice0
 |slice b off n es cap base h hc hz=>exact .slice b off n es cap base (at' h j) hc hz
 |sliceEnd b off es a=>exact .sliceEnd b off es a
 |map0=>exact .map0
 |map b base h=>exact .map b base (at' h j)
 |func fn ab f c f' c' h h1 h2 h3 h4 al an=>
  simp only [FA,Bool.and_eq_true] at j;exact .func fn ab f c f' c' (h.cut j.1) h1 (fun i a v r J=>al i a v r J (CF j.2.1 i a r)) h3 (fun i a v r J=>an i a v r J (CF j.2.2 i a r))
 |nilFunc=>exact .nilFunc
 |iface t a v h ih=>exact .iface t a v (ih j)
 |nilIface=>exact .nilIface
 |agg l l' h1 h2 ih=>exact .agg l l' h1 (fun i a v r J=>ih i a v r J (CF j i a r))
 |tuple l l' h1 h2 ih=>exact .tuple l l' h1 (fun i a v r J=>ih i a v r J (CF j i a r))
 |sb pos e=>exact .sb pos e
 |si k e=>exact .si k e
 |ss x=>exact .ss x
 |dat e x a n c h=>exact .dat e x a n c h
 |dptr e x i off b o n cap ks h ar h0 hi ho=>exact .dptr e x i off b o n cap ks h ar h0 hi ho
 |asl b es n C cap base h h0 hc hz I=>exact .asl b es n C cap base (at' h j) h0 hc hz I
 |aslEnd b es n C a h0 I=>exact .aslEnd b es n C a h0 I
 |eslc C a I=>exact .eslc C a I
 |aptr b es i off base h h0=>exact .aptr b es i off base (at' h j) h0
 |nmap b C base h I=>exact .nmap b C base (at' h j) I
 |nmap0 b C I=>exact .nmap0 b C I
 |stamp b base h=>exact .stamp b base (at' h j)
 |glob g off=>exact .glob g off
theorem VL.cut {j:Ren} {nx N:Nat} {l:List AV} {l':List Value} (h:VL j l l') (k:Eb nx l=true):VL (j.cut nx N) l l':=
 ⟨h.1,fun i a v r t=>(h.2 i a v r t).cut (CF k i a r)⟩
theorem TR.cut {j:Ren} {nx N nt:Nat} {t:T AV} {a:Array Value} (h:TR j nt t a) (k:t.allA (FA nx)=true):TR (j.cut nx N) nt t a:=
 ⟨h.size,fun i x l=>(h.get i x l).cut (T.allA_get k i x l)⟩
theorem ER.cut {i:Ren} {nx N:Nat}:∀{l:List Al} {j:List MapEntry},ER i l j→VV nx l=true→ER (i.cut nx N) l j
 |[],[],_,_=>trivial
 |_::_,_::_,⟨r,t,C,I⟩,k=>by
  simp only [VV,Bool.and_eq_true] at k;exact ⟨r.cut k.1,t.cut k.2.1,C,I.cut k.2.2⟩
 |[],_::_,h,_=>h.elim
 |_::_,[],h,_=>h.elim
theorem DL.cut {I:Ren} {nx N:Nat}:∀{l:List AD} {J:List Deferred},DL I l J→U2 nx l=true→DL (I.cut nx N) l J
 |[],[],_,_=>trivial
 |d::_,_::_,⟨j,h2⟩,k=>by
  simp only [U2,Bool.and_eq_true] at k;refine ⟨?_,h2.cut k.2.2.2⟩;unfold DR at *;cases hf:d.fn with
  |none=>
   rw [hf] at j k;obtain ⟨i,r,t⟩:=j;exact ⟨i,(Ren.cut_lt (blT k.1)).trans r,t⟩
  |some fn=>
   rw [hf] at j k;obtain ⟨C,c',a',r,t,h5,h6⟩:=j;exact ⟨C,c',a',r.cut k.1,t.cut k.2.1,h5.cut k.2.2.1,h6⟩
 |[],_::_,h,_=>h.elim
 |_::_,[],h,_=>h.elim
theorem BR.cut {τ:Ren} {nx N:Nat} {x:Ab} {t:Bh} {o:Option Obj} (h:BR τ x t o) (k:QP nx x=true):BR (τ.cut nx N) x t o:=by
 cases x with
 |cells n c=>
  obtain ⟨J,e,fz,j,r,I,h4,h5⟩:=h;exact ⟨J,e,fz,j,r,I,h4,fun i a hi ha=>let ⟨v,hv,hr⟩:=h5 i a hi ha;⟨v,hv,hr.cut (T.allA_get k i a ha)⟩⟩
 |arr e x=>exact h
 |map es ab=>obtain ⟨C,j,r⟩:=h;exact ⟨C,j,r.cut k⟩
 |dmap kt vt x=>exact h
 |dmapS kt vt x n b=>obtain ⟨al,an,C,c,j,r,I,h4,h5,bs,h6,h7⟩:=h;exact ⟨al,an,C,c,j,r,I,h4,h5,bs,(Ren.cut_lt (blT k)).trans h6,h7⟩
 |loop st pending fn nt tmps params assign body d=>
  simp only [QP,Bool.and_eq_true] at k;obtain ⟨tm,bd,j,r,I⟩:=h;exact ⟨tm,bd,(Ren.cut_lt (blT k.1)).trans j,r.cut k.2,I⟩
 |deferred ds=>cases ds with
  |none=>exact h
  |some l=>obtain ⟨l',j,r⟩:=h;exact ⟨l',j.cut k,r⟩
 |mapIter m ar seen av=>cases m with
  |none=>exact h
  |some b=>obtain ⟨h0,bm,j,r⟩:=h;exact ⟨h0,bm,(Ren.cut_lt (blT k)).trans j,r⟩
 |strIter l b pos=>exact h
theorem HR.cut {r:Ren} {nx N:Nat} {g:Nat→Option Ab} {w:World} (h:HR r g w) (k:∀b x,g b=some x→QP nx x=true):HR (r.cut nx N) g w:=
 ⟨fun b base i=>h.lt b base (Ren.cut_some i),fun b base x i t=>(h.blk b base x (Ren.cut_some i) t).cut (k b x t),
  fun b C base base' j i l I J=>h.apart b C base base' j (Ren.cut_some i) (Ren.cut_some l) I J,h.imm,fun k' arr b base hk i hl=>h.off k' arr b base hk (Ren.cut_some i) hl,h.glob⟩
structure Ex0 (ρ σ:Ren) (h h':Aa) (w w':World):Prop where
 le:ρ.le σ
 nx:h.nx≤h'.nx
 new:∀b base,σ b=some base→ρ b=some base∨(h.nx≤b∧b<h'.nx∧(w.heap.size≤base.cb∨∃b0 base0,ρ b0=some base0∧h.blk.get b0≠none∧base0.cb=base.cb))
 calm:Fu w w'
 kept:∀k,k<w.heap.size→(∀b base,ρ b=some base→h.blk.get b≠none→base.cb≠k)→w'.heap[k]?=w.heap[k]?
 live:∀b,h'.blk.get b≠none→h.blk.get b≠none∨(h.nx≤b∧b<h'.nx)
 imm:∀k arr,σ.imm k=some arr→ρ.imm k=some arr∨w.heap.size≤k∨∃b0 base0,ρ b0=some base0∧h.blk.get b0≠none∧base0.cb=k
theorem Ext.ex {ρ i:Ren} {h h':Aa} {w j:World} (e:Ext ρ i h h' w j):Ex0 ρ i h h' w j:=⟨e.le,e.nx,e.new,e.calm,e.kept,e.live,e.imm⟩
theorem Ex0.ext {ρ i:Ren} {h h':Aa} {w j:World} (e:Ex0 ρ i h h' w j) (l:∃l,h'.log=l++h.log∧∀b,b∉l→(b<h.nx∨h'.nx≤b)→h'.blk.get b=h.blk.get b):Ext ρ i h h' w j:=⟨e.le,e.nx,e.new,e.calm,e.kept,l,e.live,e.imm⟩
theorem Ex0.full {i j:Ren} {h h':Aa} {w r:World} (e:Ex0 i j h h' w r) (t:WF h) (C:WF h') (l:List Nat) :
  Ext i j {h with log:=l} {h' with log:=List.range h'.nx++l} w r:=
 ⟨e.le,e.nx,e.new,e.calm,e.kept,⟨List.range h'.nx,rfl,fun b I _=>by
  have J:=e.nx
  have:h'.nx≤b:=by
   rcases Nat.lt_or_ge b h'.nx with q|q
   ·exact absurd (List.mem_range.2 q) I
   ·exact q
  show h'.blk.get b=h.blk.get b;rw [C b this,t b (by omega)]⟩,e.live,e.imm⟩
theorem Ex0.trans {ρ l r:Ren} {h i j:Aa} {w w1 w2:World} (e:Ex0 ρ l h i w w1) (k:Ex0 l r i j w1 w2) (q:WF h) (t:WF i) (C:WF j) (f:AA ρ h.nx j.nx):Ex0 ρ r h j w w2:=by
 have a:=e.full q t [];have b:=k.full t C (List.range i.nx++[]);have c:=a.trans b f;exact ⟨c.le,c.nx,c.new,c.calm,c.kept,c.live,c.imm⟩
theorem Ex0.free {j i:Ren} {h h':Aa} {w r:World} (e:Ex0 j i h h' w r) {m:Nat} (f:AA j h.nx m):AA i h'.nx m:=by
 intro b I t;have:=e.nx;cases C:i b with
 |none=>rfl
 |some base=>
  rcases e.new b base C with l|⟨_,J,_⟩
  ·rw [f b (by omega) t] at l;cases l
  ·omega
theorem Ex0.tgt {t C:Ren} {h j h2:Aa} {w I:World} (e:Ex0 t C h j w I) (J:j.nx≤h2.nx) (hl:∀b,h2.blk.get b≠none→j.blk.get b≠none∨h.blk.get b≠none):Ex0 t C h h2 w I:=by
 refine ⟨e.le,Nat.le_trans e.nx J,fun b i l=>?_,e.calm,e.kept,fun b l=>?_,e.imm⟩
 ·rcases e.new b i l with q|⟨r,q2,q3⟩
  ·exact .inl q
  ·exact .inr ⟨r,by omega,q3⟩
 ·rcases hl b l with q|q
  ·rcases e.live b q with q|⟨r,q2⟩
   ·exact .inl q
   ·exact .inr ⟨r,by omega⟩
  ·exact .inl q
theorem Ex0.back {ρ i j:Ren} {h S R:Aa} {w w1 w2:World} {N:Nat} (l:Ex0 ρ i h S w w1) (t:Ex0 ρ j h R w w2) (C:i.le j) (I:AA i S.nx N) (J:∀b x,j b=some x→(i b=some x∨(S.nx≤b∧b<N))) :
  Ex0 ρ (j.cut S.nx N) h S w w2:=by
 refine ⟨l.le.trans (Ren.le_cut C I),l.nx,fun b base r=>?_,t.calm,t.kept,l.live,t.imm⟩
 rcases J b base (Ren.cut_some r) with q|⟨q1,q2⟩
 ·exact l.new b base q
 ·unfold Ren.cut at r;simp only [if_pos (And.intro q1 q2)] at r;cases r
omit U in
theorem Fm:∀{a b:T AV},Ij a b=true→∀i x,a.get i=some x→b.get i=some x
 |.nil,_,_,i,x,hx=>by rw [T.get_nil] at hx;cases hx
 |.node v l r,.node v' l' r',h,i,x,hx=>by
  simp only [Ij,Bool.and_eq_true] at h;obtain ⟨h1,h2,h3⟩:=h;by_cases e:i=0
  ·rw [T.get_zero _ _ _ e] at hx ⊢;subst hx;cases v' with
   |none=>cases h1
   |some y=>rw [Dm _ _ h1]
  ·by_cases o:i%2=1
   ·rw [T.get_odd _ _ _ o] at hx ⊢;exact Fm h2 _ x hx
   ·rw [T.get_even _ _ _ (by omega) e] at hx ⊢;exact Fm h3 _ x hx
 |.node v l r,.nil,h,i,x,hx=>by
  simp only [Ij,Bool.and_eq_true] at h;obtain ⟨h1,h2,h3⟩:=h;by_cases e:i=0
  ·rw [T.get_zero _ _ _ e] at hx;subst hx;cases h1
  ·by_cases o:i%2=1
   ·rw [T.get_odd _ _ _ o] at hx;have:=Fm h2 _ x hx;rw [T.get_nil] at this;cases this
   ·rw [T.get_even _ _ _ (by omega) e] at hx;have:=Fm h3 _ x hx;rw [T.get_nil] at this;cases this
omit U in
theorem GE:∀{a b:T AV} {i:Nat} {x:AV},(Dv a b).get i=some x→b.get i=some x
 |.nil,_,i,x,hx=>by simp only [Dv,T.get_nil] at hx;cases hx
 |.node v l r,.nil,i,x,hx=>by simp only [Dv,T.get_nil] at hx;cases hx
 |.node v l r,.node v' l' r',i,x,hx=>by
  simp only [Dv] at hx;by_cases e:i=0
  ·rw [T.get_zero _ _ _ e] at hx ⊢;cases v with
   |none=>cases hx
   |some y=>exact hx
  ·by_cases o:i%2=1
   ·rw [T.get_odd _ _ _ o] at hx ⊢;exact GE hx
   ·rw [T.get_even _ _ _ (by omega) e] at hx ⊢;exact GE hx
omit U in
theorem Lt:∀{l:List Tmp} {t:T AV} {i:Nat} {x:AV},(QB l t).get i=some x→t.get i=some x
 |[],t,i,x,h=>h
 |d::r,t,i,x,h=>by
  have:=Lt (l:=r) h;rw [T.get_del] at this;split at this
  ·cases this
  ·exact this
omit U in
theorem VW {a b:AI} (h:UX a b=true):a=b:=by
 cases a<;>cases b<;>simp only [UX,Bool.false_eq_true,Bool.and_eq_true] at h
 ·rw [Dr h]
 ·rw [AM h]
 ·rw [Dr h]
 ·rw [Dr h]
 ·rw [DN (fun _ _=>HY) h.1,FQ (fun _ _=>HY) h.2]
theorem IL.any {ρ I:Ren}:∀{l m:List AI} {k:List Item},ET UX l m=true→IL ρ m k→IL I l k
 |[],[],k,_,h=>by cases h;exact .nil
 |[],_::_,k,e,_=>by cases e
 |_::_,[],k,e,_=>by cases e
 |a::l,b::m,k,e,h=>by
  simp only [ET,Bool.and_eq_true] at e;have J:=VW e.1;subst J;have C:=e.1;cases h with
  |cons h1 h2=>
   refine .cons ?_ (IL.any e.2 h2);cases h1 with
   |code c=>exact .code c
   |inBlock id=>exact .inBlock id
   |inLoop b=>exact .inLoop b
   |inScope b=>exact .inScope b
   |ops all rest j h=>exact .ops all rest j h
   |_=>cases C
  |rest=>cases C
theorem K2 {f:AF} (h:MB f=true):f.defers=[]∧f.mode=.run∧f.kind=.normal∧f.round=none:=by
 simp only [MB,Bool.and_eq_true] at h;obtain ⟨h1,h2,h3,g⟩:=h;refine ⟨List.isEmpty_iff.1 h1,?_,?_,by simpa using g⟩
 ·cases c:f.mode<;>rw [c] at h2<;>first|rfl|cases h2
 ·cases c:f.kind<;>rw [c] at h3<;>first|rfl|cases h3
theorem FrR.place {C j:Ren} {f g:AF} {c:Frame} (h:FrR C g c) (e:IM f g=true) (I:∀i x,f.tmps.get i=some x→VR j x (c.tmps.getD i Go.undef)):FrR j f c:=by
 simp only [IM,Bool.and_eq_true] at e;obtain ⟨J,e2,e3,e4,e5⟩:=e;obtain ⟨a1,a2,a3,a4⟩:=K2 J;obtain ⟨b1,b2,b3,b4⟩:=K2 e2;refine ⟨by rw [h.fn,AM e3],⟨by rw [h.tm.size,AM e4],I⟩,IL.any e5 h.todo,?_,?_,by rw [h.kind,b3,a3],?_⟩
 ·have:=h.defers;rw [b1] at this;rw [a1];generalize c.defers=d at this;cases d with
  |nil=>trivial
  |cons=>exact this.elim
 ·have:=h.mode;rw [b2] at this;rw [a2];generalize c.mode=d at this;cases this;exact .run
 ·have:=h.round;rw [b4] at this;rw [a4];generalize c.roundOf=d at this;cases d with
  |none=>trivial
  |some=>exact this.elim
omit U in
theorem Nm {nx:Nat} {t t':T Ab}:∀{l:List Nat},Qm nx t t' l=true→∀b∈l,b<nx→∀x,t.get b=some x→t'.get b=some x
 |[],_,b,hb,_,_,_=>by cases hb
 |c::l,h,b,hb,hlt,x,hx=>by
  simp only [Qm,Bool.and_eq_true] at h;rcases List.mem_cons.1 hb with rfl|hb
  ·rcases Bool.or_eq_true _ _▸h.1 with q|q
   ·have:=Nat.le_of_ble_eq_true q;omega
   ·rw [hx] at q;simp only at q;cases hy:t'.get b with
    |none=>rw [hy] at q;cases q
    |some y=>rw [hy] at q;rw [JK q]
  ·exact Nm h.2 b hb hlt x hx
theorem Gs {n:Nat}:∀{l:List Al} {e:Al},e∈l→e.born≠n→e∈HN n l
 |x::l,e,h,f=>by
  unfold HN;rcases List.mem_cons.1 h with rfl|h
  ·cases q:Nat.beq e.born n with
   |true=>exact absurd (AM q) f
   |false=>exact List.mem_cons_self
  ·cases q:Nat.beq x.born n with
   |true=>exact Gs h f
   |false=>exact List.mem_cons_of_mem _ (Gs h f)
theorem FK {run:Al→Option AS} {S:AS}:∀{l:List Al} {x:Option (Al×AS)} {n:Nat},EQ run S l=some (x,n)→
  S.h.nx≤n∧∀e∈l,∃R,run e=some R∧R.cs=[]∧IM S.fr R.fr=true∧S.h.nx≤R.h.nx∧R.h.nx≤n∧(Jz S R=true∨(x=some (e,R)∧Jz S R=false))
 |[],x,n,h=>by
  simp only [EQ,Option.some.injEq,Prod.mk.injEq] at h;exact ⟨by omega,fun e A=>by cases A⟩
 |e::l,x,n,h=>by
  simp only [EQ] at h;split at h
  ·rename_i R x0 C hR B;obtain ⟨D,z⟩:=FK B;split at h
   ·rename_i x1 f g;simp only [Option.some.injEq,Prod.mk.injEq] at h;obtain ⟨rfl,rfl⟩:=h;simp only [Bool.and_eq_true] at f;obtain ⟨j,k,m⟩:=f;refine ⟨by omega,fun y hy=>?_⟩
    rcases List.mem_cons.1 hy with rfl|hy
    ·exact ⟨R,hR,List.isEmpty_iff.1 j,k,Nat.le_of_ble_eq_true m,by omega,.inl g⟩
    ·obtain ⟨p,s,u,a3,a4,a5,w⟩:=z y hy;exact ⟨p,s,u,a3,a4,by omega,w⟩
   ·rename_i f g;simp only [Option.some.injEq,Prod.mk.injEq] at h;obtain ⟨rfl,rfl⟩:=h;simp only [Bool.and_eq_true] at f;obtain ⟨j,k,m⟩:=f;refine ⟨by omega,fun y hy=>?_⟩
    rcases List.mem_cons.1 hy with rfl|hy
    ·exact ⟨R,hR,List.isEmpty_iff.1 j,k,Nat.le_of_ble_eq_true m,by omega,.inr ⟨rfl,g⟩⟩
    ·obtain ⟨p,s,u,a3,a4,a5,w⟩:=z y hy;refine ⟨p,s,u,a3,a4,by omega,.inl ?_⟩
     rcases w with q|⟨q,_⟩
     ·exact q
     ·cases q
   ·cases h
  ·cases h
theorem IA {run:Al→Option AS} {S:AS}:∀{l:List Al} {e:Al} {R:AS} {n:Nat},EQ run S l=some (some (e,R),n)→e∈l∧run e=some R∧Jz S R=false
 |[],e,R,n,h=>by simp [EQ] at h
 |a::l,e,R,n,h=>by
  simp only [EQ] at h;split at h
  ·rename_i p x0 s hR f;split at h
   ·simp only [Option.some.injEq,Prod.mk.injEq] at h;obtain ⟨rfl,_⟩:=h;obtain ⟨g,j,k⟩:=IA f;exact ⟨List.mem_cons_of_mem _ g,j,k⟩
   ·rename_i u m;simp only [Option.some.injEq,Prod.mk.injEq] at h;obtain ⟨⟨rfl,rfl⟩,_⟩:=h;exact ⟨List.mem_cons_self,hR,m⟩
   ·cases h
  ·cases h
theorem M3:∀{j:List Al} {lo c:Nat},MH lo j c=true→(∀e∈j,lo≤e.born)∧∀e∈j,∀f∈j,e.born=f.born→e=f
 |[],lo,c,_=>⟨fun e h=>(by cases h),fun e h f h' hb=>(by cases h)⟩
 |a::r,lo,c,h=>by
  simp only [MH,Bool.and_eq_true] at h;obtain ⟨⟨k,u⟩,a3⟩:=h;have k:=Nat.le_of_ble_eq_true k;obtain ⟨m,s⟩:=M3 a3;refine ⟨fun e n=>?_,fun e n f p hb=>?_⟩
  ·rcases List.mem_cons.1 n with q|q
   ·subst q;exact k
   ·have:=m e q;omega
  ·rcases List.mem_cons.1 n with q|q<;>rcases List.mem_cons.1 p with g|g
   ·rw [q,g]
   ·have:=m f g;rw [q] at hb;omega
   ·have:=m e q;rw [g] at hb;omega
   ·exact s e q f g hb
theorem VN {s:AS} {b m f:Nat} {j:List Al} (h:d5 s=some (b,m,j,f)):∃g,DG b s.fr=true∧s.h.blk.get b=some (.mapIter (some m) g [] f)∧s.h.blk.get m=some (.map j f)∧IX g f j=true∧MH 0 j f=true∧m≠b:=by
 unfold d5 at h;split at h
 ·rename_i all o r k B C;split at h
  ·rename_i it D E;split at h
   ·rename_i I n;split at h
    ·rename_i m0 g w hb;split at h
     ·rename_i F cl p;split at h
      ·rename_i z;simp only [Option.some.injEq,Prod.mk.injEq] at h;obtain ⟨rfl,rfl,rfl,rfl⟩:=h;simp only [Bool.and_eq_true,Bool.not_eq_true'] at z;obtain ⟨u,G,H,A⟩:=z;have u:=AM u;subst u;refine ⟨g,?_,hb,p,G,H,fun e=>?_⟩
       ·simp only [DG,B,C,D,E,n,Nat.beq_refl]
       ·subst e;rw [Nat.beq_refl] at A;cases A
      ·cases h
     ·cases h
    ·cases h
   ·cases h
  ·cases h
 ·cases h
end
section
variable [U:Unk] {E:Env} (hE:OK E) (hO:Ad E U.V.fn)
theorem Nt {d i:Ren} {h h':Aa} {w j:World} (e:Ext d i h h' w j) (n:AA d h.nx h'.nx) {k:Nat} {o:Obj} (l:w.heap[k]?=some o) (a:∀b x,d b=some x→h.blk.get b≠none→x.cb≠k) :
  j.heap[k]?=some o∧∀b x,i b=some x→h'.blk.get b≠none→x.cb≠k:=by
 have p:k<w.heap.size:=(Array.getElem?_eq_some_iff.1 l).1;refine ⟨by rw [e.kept k p a];exact l,fun b x q r=>?_⟩
 rcases e.new b x q with f|⟨_,_,m⟩
 ·rcases e.live b r with c|⟨c,g⟩
  ·exact a b x f c
  ·rw [n b c g] at f;cases f
 ·rcases m with m|⟨s,x0,c,g,t⟩
  ·omega
  ·rw [←t];exact a s x0 c g
include hE in
theorem O3 {σ:Ren} {s s':AS} {c:Frame} {ccs bs:List Frame} {w:World} (hsr:SR σ s c ccs w) {b m clock born since:Nat} {seen:Array Nat} {base bm:Bh} (hb:σ b=some base) (h0:base.co=0) (hm:σ m=some bm)
  (ho:w.heap[base.cb]?=some (.mapIter (some bm.cb) since seen clock)) (hs:seen.back?=some born) (hx:GV b m clock born s=some s'):AG E.P bs σ s.h c ccs w w s'∧s'.h=s.h:=by
 unfold GV at hx;split at hx
 ·rename_i all o rest k hmf ht;split at hx
  ·rename_i it hgd hop;split at hx
   ·rename_i b' hev;split at hx
    ·rename_i hbb;have hbb:=AM hbb;subst hbb;split at hx
     ·rename_i es cl hgm;split at hx
      ·rename_i e2 hcl hbe;split at hx
       ·rename_i fr hfin;cases hx;have hcl:=AM hcl;subst hcl;have hmode:=hsr.fr.mode;rw [hmf] at hmode
        have hmr:c.mode=.run:=by
         generalize c.mode=x at hmode;cases hmode;rfl
        have htodo:=hsr.fr.todo;rw [ht] at htodo;obtain ⟨i,idx,k',e,hoi,hmap,hk⟩:=htodo.ops_inv;have hw:A3 all o s.fr.tmps=some true:=by unfold A3;rw [hgd]
        have hwt:=Bg hsr.fr.tm hw;have hd:c.roundOf=none∨∀cl,o.op≠.defer cl:=.inr (fun cl q=>by rw [hop] at q;cases q)
        have hev':=hsr.fr.evR it;rw [hev] at hev';refine ⟨En (s:=execOp c.eval o) (r:=.val (.tuple [e2.key,e2.val]) s.h) hE (by rw [CQ hmr e hoi hwt hd]) ?_ hsr.h hsr.fr hsr.cs hmr (by simp only [Bk,hfin]) (fun b h1 h2=>absurd h2 (Nat.not_lt.2 h1)),rfl⟩
        intro _;obtain ⟨es',m1,m2⟩:=hsr.h.blk m bm _ hm hgm;obtain ⟨e',y1,k1,k2⟩:=JV born es es' e2 m2 hbe;have hget:=Aq (w:=w) E.P ho (by simp)
        have hgetm:=Aq (w:=w) E.P m1 (by simp)
        have hv:=VL.cons k1 (VL.cons k2 (VL.nil σ));refine ⟨σ,.tuple #[e'.key,e'.val],w,.inl ?_,.tuple _ [e'.key,e'.val] hv.1 hv.2,hsr.h,Ext.refl _ _ _⟩
        have hiv:c.eval it=.pointer (some ⟨base.cb,0,none⟩):=by
         generalize c.eval it=iv at hev' ⊢;generalize hq:AV.ptr b' 0=q at hev';cases hev'<;>first|cases hq|skip
         rename_i y hy;rw [hb] at hy;cases hy;rw [h0]
        simp [execOp,hop,hiv,Instr.entry,hget,hs,hgetm,y1]
       ·cases hx
      ·cases hx
     ·cases hx
    ·cases hx
   ·cases hx
  ·cases hx
 ·cases hx
theorem O0 {s s':AS} {b m clock born:Nat} (hx:GV b m clock born s=some s'):s'.h=s.h:=by
 unfold GV at hx
 repeat' (first | (cases hx;done)|split at hx)
 all_goals (cases hx;rfl)
theorem BA {a:Ask→Aa→Option (Bool×AV×Aa)} {b m clock born:Nat}:∀(f:Nat) (s s':AS),Ec E a b m clock born f s=some s'→s.h.nx≤s'.h.nx
 |0,s,s',h=>by cases h
 |f+1,s,s',h=>by
  simp only [Ec] at h;split at h
  ·cases h;exact Nat.le_refl _
  ·split at h
   ·rename_i j g;have:=BA f _ _ h;rw [O0 g] at this;exact this
   ·split at h
    ·split at h
     ·rename_i hb;exact Nat.le_trans (Nat.le_of_ble_eq_true hb) (BA f _ _ h)
     ·cases h
    ·split at h
     ·split at h
      ·rename_i hb;exact Nat.le_trans (Nat.le_of_ble_eq_true hb) (BA f _ _ h)
      ·cases h
     ·rename_i l ops k d;obtain ⟨rfl,_,_⟩:=Cf d;split at h
      ·rename_i hd;exact Nat.le_trans (B0 _ _ _ _ _ _ _ hd) (BA f _ _ h)
      ·cases h
     ·cases h
include hE hO in
theorem Rr {callF:Ask→Aa→Option (Bool×AV×Aa)} (hF:Dx E callF) {b m clock born since:Nat} {seen:Array Nat} {base bm:Bh} (h0:base.co=0) (hs:seen.back?=some born) :
  ∀(f:Nat) (s s':AS) (σ:Ren) (c:Frame) (ccs:List Frame) (w:World),SR σ s c ccs w→WF s.h→Ec E callF b m clock born f s=some s'→AA σ s.h.nx s'.h.nx→σ b=some base→σ m=some bm→
   w.heap[base.cb]?=some (.mapIter (some bm.cb) since seen clock)→(∀b' x,σ b'=some x→s.h.blk.get b'≠none→x.cb≠base.cb)→
   ∀bs:List Frame,∃τ c' ccs' w',Steps E.P (lone c (ccs++bs) w) (lone c' (ccs'++bs) w')∧SR τ s' c' ccs' w'∧Ext σ τ s.h s'.h w w':=by
 intro f
 induction f with
 |zero=>intro s s' σ c ccs w _ _ h;cases h
 |succ f ih=>
  intro s s' σ c ccs w hsr hwf h hfree hb hm ho hap bs
  have go:∀(s1:AS) (τ:Ren) (c1:Frame) (ccs1:List Frame) (w1:World),Steps E.P (lone c (ccs++bs) w) (lone c1 (ccs1++bs) w1)→SR τ s1 c1 ccs1 w1→Ext σ τ s.h s1.h w w1→Ec E callF b m clock born f s1=some s'→
    ∃τ c' ccs' w',Steps E.P (lone c (ccs++bs) w) (lone c' (ccs'++bs) w')∧SR τ s' c' ccs' w'∧Ext σ τ s.h s'.h w w':=by
   intro s1 τ c1 ccs1 w1 q1 q2 q3 q4;have hmono:=BA f _ _ q4;have hf1:AA σ s.h.nx s1.h.nx:=fun b h1 h2=>hfree b h1 (by omega)
   obtain ⟨p1,p2⟩:=Nt q3 hf1 ho hap;obtain ⟨υ,c',ccs',w',r1,r2,r3⟩:=ih s1 s' τ c1 ccs1 w1 q2 (q3.wf hwf) q4 (q3.free hfree) (q3.le.m _ _ hb) (q3.le.m _ _ hm) p1 p2 bs;exact ⟨υ,c',ccs',w',Steps.trans q1 r1,r2,q3.trans r3 hfree⟩
  simp only [Ec] at h;split at h
  ·cases h;exact ⟨σ,c,ccs,w,Steps.refl _ _,hsr,Ext.refl _ _ _⟩
  ·split at h
   ·rename_i s1 he;obtain ⟨⟨τ,c1,ccs1,w1,q1,q2,q3⟩,q4⟩:=O3 hE (bs:=bs) hsr hb h0 hm ho hs he;exact go s1 τ c1 ccs1 w1 (Steps.one q1) q2 q3 h
   ·split at h
    ·rename_i s1 htop;split at h
     ·have hmono:=BA f _ _ h;obtain ⟨τ,c1,ccs1,w1,q1,q2,q3⟩:=Jm hE hO hsr hwf htop (fun b h1 h2=>hfree b h1 (by omega)) bs
      exact go s1 τ c1 ccs1 w1 q1 q2 q3 h
     ·cases h
    ·split at h
     ·rename_i s1 hst;split at h
      ·have hmono:=BA f _ _ h;obtain ⟨τ,c1,ccs1,w1,q1,q2,q3⟩:=Fh (base:=bs) hE hsr hst (fun b h1 h2=>hfree b h1 (by omega))
       exact go s1 τ c1 ccs1 w1 (Steps.one q1) q2 q3 h
      ·cases h
     ·rename_i s2 ops k hst;obtain ⟨rfl,hmr,id,ht⟩:=Cf hst;split at h
      ·rename_i tmps h1 hd;have hmono:=BA f _ _ h;obtain ⟨τ,c1,w1,q1,q2,q3⟩:=EO hE hF hsr hwf hmr ht hd (fun b a1 a2=>hfree b a1 (Nat.lt_of_lt_of_le a2 hmono)) bs
       exact go _ τ c1 ccs w1 q1 q2 q3 h
      ·cases h
     ·cases h
theorem HR.revive {σ:Ren} {t:T Ab} {w:World} (hr:HR σ t.get w) {b:Nat} {base:Bh} {x:Ab} (hb:σ b=some base) (hd:t.get b=none) (J:BR σ x base w.heap[base.cb]?)
  (ap:∀b' y,σ b'=some y→t.get b'≠none→y.cb≠base.cb) (im:∀k arr,σ.imm k=some arr→base.cb≠k):HR σ (t.set b x).get w:=by
 refine ⟨hr.lt,fun c y z j I=>?_,fun c c' y y' C j l h1 h2=>?_,hr.imm,fun k arr c y hk j hl=>?_,hr.glob⟩
 ·rw [T.get_set] at I;split at I
  ·rename_i e;subst e;cases I;rw [hb] at j;cases j;exact J
  ·exact hr.blk c y z j I
 ·rw [T.get_set] at h1 h2;split at h1
  ·rename_i e;subst e;rw [hb] at j;cases j;rw [if_neg C] at h2;exact fun q=>ap c' y' l h2 q.symm
  ·split at h2
   ·rename_i e;subst e;rw [hb] at l;cases l;exact ap c y j h1
   ·exact hr.apart c c' y y' C j l h1 h2
 ·rw [T.get_set] at hl;split at hl
  ·rename_i e;subst e;rw [hb] at j;cases j;exact im k arr hk
  ·exact hr.off k arr c y hk j hl
theorem C1 {b:Nat}:∀{l:List Nat},Hz b l=true↔b∈l
 |[]=>by simp [Hz]
 |a::r=>by
  unfold Hz;cases q:Nat.beq a b with
  |true=>simp [AM q]
  |false=>
   have:=NP q;simp only [C1,List.mem_cons];constructor
   ·exact .inr
   ·rintro (h|h)
    ·exact absurd h.symm this
    ·exact h
theorem BI {L:List Nat}:∀{es:List Al} {e:Al},e∈Be L es↔e∈es∧e.born∉L
 |[],e=>by simp [Be]
 |x::r,e=>by
  unfold Be;cases q:Hz x.born L with
  |true=>
   simp only [BI,List.mem_cons];have hx:=C1.1 q;constructor
   ·rintro ⟨h1,h2⟩;exact ⟨.inr h1,h2⟩
   ·rintro ⟨h1|h1,h2⟩
    ·subst h1;exact absurd hx h2
    ·exact ⟨h1,h2⟩
  |false=>
   have hx:x.born∉L:=fun h=>by rw [C1.2 h] at q;cases q
   simp only [List.mem_cons,BI];constructor
   ·rintro (h|h)
    ·subst h;exact ⟨.inl rfl,hx⟩
    ·exact ⟨.inr h.1,h.2⟩
   ·rintro ⟨h1|h1,h2⟩
    ·exact .inl h1
    ·exact .inr ⟨h1,h2⟩
theorem NG {L M:List Nat} (hs:∀x∈L,x∈M):∀{es:List Al},(Be M es).length≤(Be L es).length
 |[]=>Nat.le_refl _
 |x::r=>by
  unfold Be;have:=NG hs (es:=r);cases q:Hz x.born L with
  |true=>rw [C1.2 (hs _ (C1.1 q))];exact this
  |false=>cases Hz x.born M<;>simp only [List.length_cons]<;>omega
theorem GZ {L:List Nat}:∀{es:List Al} {e:Al},e∈Be L es→(Be (L++[e.born]) es).length<(Be L es).length
 |[],e,h=>by simp [Be] at h
 |x::r,e,h=>by
  have a:=NG (L:=L) (M:=L++[e.born]) (fun y hy=>List.mem_append_left _ hy) (es:=r)
  unfold Be at h ⊢;cases q:Hz x.born L with
  |true=>
   rw [q] at h;rw [C1.2 (List.mem_append_left _ (C1.1 q))];exact GZ h
  |false=>
   rw [q] at h;cases q2:Hz x.born (L++[e.born]) with
   |true=>simp only [List.length_cons];omega
   |false=>
    rcases List.mem_cons.1 h with rfl|h
    ·rw [C1.2 (by simp)] at q2;cases q2
    ·have:=GZ h;simp only [List.length_cons];omega
theorem LC {b:Nat} {f:AF} (h:DG b f=true):∃all o r k it,f.mode=.run∧f.todo=.ops all (o::r)::k∧o.guard=none∧o.op=.next it false∧Ah f.tmps it=.ptr b 0:=by
 unfold DG at h
 repeat' (first | (cases h;done)|split at h)
 rename_i all o r k hm ht _ _ it a ho _ b' he;have:=AM h;subst this;exact ⟨all,o,r,k,it,hm,ht,a,ho,he⟩
include hE in
theorem Vf {σ:Ren} {S:AS} {c:Frame} {ccs bs:List Frame} {w:World} {b m since clock:Nat} {L:List Nat} {es:List Al} {base bm:Bh} (hfr:FrR σ S.fr c) (hcs:FrL σ S.cs ccs) (hr:HR σ S.h.blk.get w) (hb:σ b=some base) (hm:σ m=some bm) (h0:base.co=0)
  (ho:w.heap[base.cb]?=some (.mapIter (some bm.cb) since L.toArray clock)) (hap:∀b' x,σ b'=some x→S.h.blk.get b'≠none→x.cb≠base.cb) (him:∀k arr,σ.imm k=some arr→base.cb≠k)
  (hd:S.h.blk.get b=none) (hgm:S.h.blk.get m=some (.map es clock)) (hold:IX since clock es=true) (hat:DG b S.fr=true) :
  (Be L es=[]∧∀fr',AT S.fr (.tuple [.bool false])=some fr'→AG E.P bs σ {S.h with blk:=S.h.blk.set b (.mapIter (some m) since L clock)} c ccs w w {S with fr:=fr',h:={S.h with blk:=S.h.blk.set b (.mapIter (some m) since L clock)}})∨
  (∃e∈Be L es,∀fr',AT S.fr (.tuple [.bool true,e.key,e.val])=some fr'→AG E.P bs σ {S.h with blk:=S.h.blk.set b (.mapIter (some m) since L clock)} c ccs w w
   {S with fr:=fr',h:=Aa.put {S.h with blk:=S.h.blk.set b (.mapIter (some m) since L clock)} b (.mapIter (some m) since (L++[e.born]) clock)}):=by
 generalize hL:({S.h with blk:=S.h.blk.set b (.mapIter (some m) since L clock)}:Aa)=hh
 have hrL:HR σ hh.blk.get w:=by
  rw [←hL];exact hr.revive hb hd (by rw [ho];exact ⟨h0,bm,hm,rfl⟩) hap him
 have hmb:m≠b:=by intro e;subst e;rw [hd] at hgm;cases hgm
 have gb:hh.blk.get b=some (.mapIter (some m) since L clock):=by rw [←hL];simp [T.get_set]
 have gm:hh.blk.get m=some (.map es clock):=by
  rw [←hL];show (S.h.blk.set b _).get m=_;rw [T.get_set,if_neg (fun e=>hmb e.symm)];exact hgm
 obtain ⟨all,o,r,k,it,hmf,ht,hgd,hop,hev⟩:=LC hat;have hmode:=hfr.mode;rw [hmf] at hmode
 have hmr:c.mode=.run:=by
  generalize c.mode=x at hmode;cases hmode;rfl
 have htodo:=hfr.todo;rw [ht] at htodo;obtain ⟨i,idx,k',e,hoi,hmap,hk⟩:=htodo.ops_inv;have hwt:=Bg hfr.tm (show A3 all o S.fr.tmps=some true by unfold A3;rw [hgd])
 have hdf:c.roundOf=none∨∀cl,o.op≠.defer cl:=.inr (fun cl q=>by rw [hop] at q;cases q)
 have hvi:=hfr.evR it;rw [hev] at hvi
 have fin:∀(a:AV) (h':Aa),AH E σ hh h' w (Instr.next (c.eval it) false o.type) a→h'.nx=hh.nx→∀fr',AT S.fr a=some fr'→AG E.P bs σ hh c ccs w w {S with fr:=fr',h:=h'}:=by
  intro a h' hl hnx fr' hf;refine En (s:=execOp c.eval o) (r:=.val a h') hE (by rw [CQ hmr e hoi hwt hdf]) ?_ hrL hfr hcs hmr (by simp only [Bk,hf]) (fun b h1 h2=>by simp only at h2;omega)
  intro _;obtain ⟨τ,v,w',q1,q2,q3,q4⟩:=hl;exact ⟨τ,v,w',.inl (by simp [execOp,hop,q1]),q2,q3,q4⟩
 cases hq:Be L es with
 |nil=>
  refine .inl ⟨rfl,fin _ hh (Jy (E:=E) hrL hvi ?_) rfl⟩;simp only [N3,gb,gm,hold,hq]
 |cons e1 l=>
  refine .inr ?_;cases l with
  |nil=>
   refine ⟨e1,List.mem_cons_self,fin _ _ (Jy (E:=E) (a:=.tuple [.bool true,e1.key,e1.val]) (h':=hh.put b (.mapIter (some m) since (L++[e1.born]) clock)) hrL hvi ?_) rfl⟩;simp only [N3,gb,gm,hold,hq,Lm]
  |cons e2 l=>
   obtain ⟨p,hp,hl⟩:=Ju (E:=E) (ty:=o.type) (l:=(e1::e2::l).map (Lm b m since clock L hh)) hrL hvi (by simp only [Jo,gb,gm,hold,hq])
   obtain ⟨e3,he,rfl⟩:=List.mem_map.1 hp;exact ⟨e3,he,fin _ _ hl rfl⟩
structure R9 (S:AS) (ρ:Ren) (h:Aa) (w0:World) (b m since clock N:Nat) (base bm:Bh) (σ:Ren) (L:List Nat) (c:Frame) (ccs:List Frame) (w:World):Prop where
 fr:FrR σ S.fr c
 cs:FrL σ S.cs ccs
 hr:HR σ S.h.blk.get w
 rb:σ b=some base
 rm:σ m=some bm
 ob:w.heap[base.cb]?=some (.mapIter (some bm.cb) since L.toArray clock)
 ap:∀b' x,σ b'=some x→S.h.blk.get b'≠none→x.cb≠base.cb
 im:∀k arr,σ.imm k=some arr→base.cb≠k
 ex:Ex0 ρ σ h S.h w0 w
 free:AA σ S.h.nx N
structure Rh (S:AS) (ρ:Ren) (h:Aa) (b m since clock N:Nat) (es:List Al) (base:Bh):Prop where
 h0:base.co=0
 hwf:WF h
 swf:WF S.h
 dead:S.h.blk.get b=none
 live:h.blk.get b≠none
 gm:S.h.blk.get m=some (.map es clock)
 old:IX since clock es=true
 at':DG b S.fr=true
 lt:Q2 S=true
 nxN:S.h.nx≤N
 free:AA ρ h.nx N
structure gL (S R:AS) (ρ:Ren) (h:Aa) (w0:World) (b m since clock N born:Nat) (base bm:Bh) (σ:Ren) (L:List Nat) (c:Frame) (ccs:List Frame) (w:World) (σ1 τ:Ren) (c2:Frame) (ccs1:List Frame) (w2:World):Prop where
 fr:FrR τ R.fr c2
 cs:FrL σ1 S.cs ccs1
 hr:HR τ R.h.blk.get w2
 rb:σ1 b=some base
 rm:σ1 m=some bm
 ob:w2.heap[base.cb]?=some (.mapIter (some bm.cb) since (L++[born]).toArray clock)
 ap:∀b' x,τ b'=some x→R.h.blk.get b'≠none→x.cb≠base.cb
 im:∀k arr,τ.imm k=some arr→base.cb≠k
 ex1:∃w1,Ex0 ρ σ1 h S.h w0 w1
 ex2:Ex0 ρ τ h R.h w0 w2
 le:σ1.le τ
 free1:AA σ1 S.h.nx N
 free2:AA τ R.h.nx N
 log:∀b',b'∉R.h.log→(b'<S.h.nx∨R.h.nx≤b')→R.h.blk.get b'=S.h.blk.get b'
 new:∀b' x,τ b'=some x→σ1 b'=some x∨(S.h.nx≤b'∧b'<R.h.nx)
 rwf:WF R.h
 dead:R.h.blk.get b=none
include hE hO in
theorem Np {callF:Ask→Aa→Option (Bool×AV×Aa)} (hF:Dx E callF) {F b m since clock N:Nat} {es:List Al} {base bm:Bh} {S:AS} {ρ:Ren} {h:Aa} {w0:World} (fx:Rh S ρ h b m since clock N es base) {σ:Ren} {L:List Nat} {c:Frame} {ccs:List Frame} {w:World}
  (iv:R9 S ρ h w0 b m since clock N base bm σ L c ccs w) (hq:∀e∈Be L es,∃R,EA E callF F b m clock S e=some R∧R.cs=[]∧S.h.nx≤R.h.nx∧R.h.nx≤N) (bs:List Frame) :
  (Be L es=[]∧∀fr',AT S.fr (.tuple [.bool false])=some fr'→∃σ' c' ccs' w',Steps E.P (lone c (ccs++bs) w) (lone c' (ccs'++bs) w')∧FrR σ' fr' c'∧FrL σ' S.cs ccs'∧HR σ' S.h.blk.get w'∧Ex0 ρ σ' h S.h w0 w')∨
  (∃e∈Be L es,∀R,EA E callF F b m clock S e=some R→∃σ1 τ c2 ccs1 w2,Steps E.P (lone c (ccs++bs) w) (lone c2 (ccs1++bs) w2)∧gL S R ρ h w0 b m since clock N e.born base bm σ L c ccs w σ1 τ c2 ccs1 w2):=by
 generalize hL:({S.h with blk:=S.h.blk.set b (.mapIter (some m) since L clock)}:Aa)=hh
 have hnx:hh.nx=S.h.nx:=by rw [←hL]
 have gbs:∀b',b'≠b→hh.blk.get b'=S.h.blk.get b':=by
  intro b' hne;rw [←hL];show (S.h.blk.set b _).get b'=_;rw [T.get_set,if_neg (fun e=>hne e.symm)]
 have hbn:b<S.h.nx:=by
  rcases Nat.lt_or_ge b S.h.nx with q|q
  ·exact q
  ·exfalso
   rcases Nat.lt_or_ge b h.nx with q2|q2
   ·have:=iv.ex.nx;omega
   ·exact fx.live (fx.hwf b q2)
 have hwfh:WF hh:=by
  intro b' hb';rw [hnx] at hb';rw [gbs b' (by omega)]
  exact fx.swf b' hb'
 have e1:Ex0 ρ σ h hh w0 w:=iv.ex.tgt (Nat.le_of_eq hnx.symm) (fun b' hb'=>by
  by_cases e:b'=b
  ·subst e;exact .inr fx.live
  ·rw [gbs b' e] at hb';exact .inl hb')
 have drop:∀b',S.h.blk.get b'=none∨S.h.blk.get b'=hh.blk.get b':=by
  intro b';by_cases e:b'=b
  ·subst e;exact .inl fx.dead
  ·exact .inr (gbs b' e).symm
 have hbl:base.cb<w.heap.size:=iv.hr.lt b base iv.rb;have walk:=Vf (bs:=bs) hE iv.fr iv.cs iv.hr iv.rb iv.rm fx.h0 iv.ob iv.ap iv.im fx.dead fx.gm fx.old fx.at';rw [hL] at walk;rcases walk with ⟨hq0,hfin⟩|⟨e,he,hfin⟩
 ·refine .inl ⟨hq0,fun fr' hf=>?_⟩
  obtain ⟨σ',c',ccs',w',q1,q2,q3⟩:=hfin fr' hf;refine ⟨σ',c',ccs',w',Steps.one q1,q2.fr,q2.cs,q2.h.restrict drop,?_⟩
  exact (e1.trans q3.ex fx.hwf hwfh hwfh (fun b' h1 h2=>fx.free b' h1 (by have:=fx.nxN;simp only [hnx] at h2;omega))).tgt (Nat.le_of_eq hnx) (fun b' hb'=>by
   rcases drop b' with q|q
   ·exact absurd q hb'
   ·rw [q] at hb';exact .inl hb')
 ·refine .inr ⟨e,he,fun R hR=>?_⟩
  obtain ⟨R',hR',hRcs,hRn,hRN⟩:=hq e he;rw [hR] at hR';cases hR';unfold EA at hR;split at hR
  ·rename_i fr' hf;obtain ⟨σ1,c1,ccs1,w1,q1,q2,q3⟩:=hfin fr' hf
   have putn:∀b',b'≠b→(hh.put b (.mapIter (some m) since (L++[e.born]) clock)).blk.get b'=S.h.blk.get b':=by
    intro b' hne;show (hh.blk.set b _).get b'=_;rw [T.get_set,if_neg (fun e=>hne e.symm)]
    exact gbs b' hne
   have drop1:∀b',S.h.blk.get b'=none∨S.h.blk.get b'=(hh.put b (.mapIter (some m) since (L++[e.born]) clock)).blk.get b':=by
    intro b';by_cases e:b'=b
    ·subst e;exact .inl fx.dead
    ·exact .inr (putn b' e).symm
   have hr1:HR σ1 S.h.blk.get w1:=q2.h.restrict drop1;have rb1:=q3.le.m _ _ iv.rb;have rm1:=q3.le.m _ _ iv.rm
   have ob1:w1.heap[base.cb]?=some (.mapIter (some bm.cb) since (L++[e.born]).toArray clock):=by
    have:=q2.h.blk b base (.mapIter (some m) since (L++[e.born]) clock) rb1 (by show (hh.blk.set b _).get b=_;rw [T.get_set,if_pos rfl])
    obtain ⟨_,bm',h1,h2⟩:=this;rw [rm1] at h1;cases h1;exact h2
   have wfp:WF (hh.put b (.mapIter (some m) since (L++[e.born]) clock)):=by
    intro b' hb';have hb':hh.nx≤b':=hb';rw [putn b' (by omega)]
    exact fx.swf b' (by omega)
   have new1:∀b' x,σ1 b'=some x→σ b'=some x:=by
    intro b' x hx;rcases q3.new b' x hx with q|⟨h1,h2,_⟩
    ·exact q
    ·have h2:b'<hh.nx:=h2;omega
   have ap1:∀b' x,σ1 b'=some x→S.h.blk.get b'≠none→x.cb≠base.cb:=fun b' x hx hl=>iv.ap b' x (new1 b' x hx) hl
   have hsz:w.heap.size≤w1.heap.size:=q3.calm.size
   have im1:∀k arr,σ1.imm k=some arr→base.cb≠k:=by
    intro k arr hk;have:=q2.h.off k arr b base hk rb1 (by show (hh.blk.set b _).get b≠none;rw [T.get_set,if_pos rfl];simp)
    exact this
   have ex1:Ex0 ρ σ1 h S.h w0 w1:=by
    refine (e1.trans q3.ex fx.hwf hwfh wfp (fun b' h1 h2=>fx.free b' h1 (by have:=fx.nxN;have h2:b'<hh.nx:=h2;omega))).tgt (Nat.le_of_eq hnx) (fun b' hb'=>?_)
    rcases drop1 b' with q|q
    ·exact absurd q hb'
    ·rw [q] at hb';exact .inl hb'
   have free1:AA σ1 S.h.nx N:=fun b' h1 h2=>by
    cases hx:σ1 b' with
    |none=>rfl
    |some x=>have:=new1 b' x hx;rw [iv.free b' h1 h2] at this;cases this
   have back:(L++[e.born]).toArray.back?=some e.born:=by simp
   obtain ⟨τ,c2,ccs2,w2,p1,p2,p3⟩:=Rr hE hO hF fx.h0 back F {fr:=fr',cs:=[],h:={S.h with log:=[]}} R σ1 c1 [] w1 ⟨q2.fr,.nil,hr1⟩ fx.swf hR (fun b' h1 h2=>free1 b' h1 (by omega)) rb1 rm1 ob1 ap1 (ccs1++bs)
   have hc2:ccs2=[]:=by
    have:=p2.cs;rw [hRcs] at this;cases this;rfl
   subst hc2;obtain ⟨o2,a2⟩:=Nt p3 (fun b' h1 h2=>free1 b' h1 (by omega)) ob1 ap1
   have rwf:WF R.h:=p3.wf fx.swf;have p3e:Ex0 σ1 τ S.h R.h w1 w2:=⟨p3.le,p3.nx,p3.new,p3.calm,p3.kept,p3.live,p3.imm⟩;refine ⟨σ1,τ,c2,ccs1,w2,Steps.trans (Steps.one q1) (by simpa using p1),⟨p2.fr,q2.cs,p2.h,rb1,rm1,o2,a2,?_,⟨w1,ex1⟩,ex1.trans p3e fx.hwf fx.swf rwf (fun b' h1 h2=>fx.free b' h1 (by omega)),p3.le,free1,p3e.free free1,?_,?_,rwf,?_⟩⟩
   ·intro k arr hk;rcases p3.imm k arr hk with q|q|⟨b0,x0,h1,h2,h3⟩
    ·exact im1 k arr q
    ·have:=(Array.getElem?_eq_some_iff.1 ob1).1;omega
    ·rw [←h3];exact fun q=>ap1 b0 x0 h1 h2 q.symm
   ·obtain ⟨l,hl,hl'⟩:=p3.log;intro b' hb' hr';have hl:R.h.log=l++[]:=hl;rw [List.append_nil] at hl;exact hl' b' (by rw [←hl];exact hb') hr'
   ·intro b' x hx;rcases p3.new b' x hx with q|⟨h1,h2,_⟩
    ·exact .inl q
    ·exact .inr ⟨h1,h2⟩
   ·cases hx:R.h.blk.get b with
    |none=>rfl
    |some y=>
     rcases p3.live b (by rw [hx];simp) with q|⟨q1,_⟩
     ·exact absurd fx.dead q
     ·have q1:S.h.nx≤b:=q1;omega
  ·cases hR
theorem Oo {b m since clock N born:Nat} {es:List Al} {base bm:Bh} {S R:AS} {ρ:Ren} {h:Aa} {w0:World} (fx:Rh S ρ h b m since clock N es base) {σ:Ren} {L:List Nat} {c:Frame} {ccs:List Frame} {w:World} {σ1 τ:Ren} {c2:Frame} {ccs1:List Frame} {w2:World}
  (q:gL S R ρ h w0 b m since clock N born base bm σ L c ccs w σ1 τ c2 ccs1 w2) (hs:IM S.fr R.fr=true) (j:Jz S R=true) (n:R.h.nx≤N):R9 S ρ h w0 b m since clock N base bm (τ.cut S.h.nx N) (L++[born]) c2 ccs1 w2:=by
 have d:=fx.lt;simp only [Q2,Bool.and_eq_true] at d;simp only [Jz,Bool.and_eq_true] at j
 have same:∀b' x,S.h.blk.get b'=some x→R.h.blk.get b'=some x:=by
  intro b' x hx
  have hb':b'<S.h.nx:=by
   rcases Nat.lt_or_ge b' S.h.nx with q|q
   ·exact q
   ·rw [fx.swf b' q] at hx;cases hx
  by_cases hm:b'∈R.h.log
  ·exact Nm j.2 b' hm hb' x hx
  ·rw [q.log b' hm (.inl hb')];exact hx
 have g:=Ren.le_cut q.le q.free1;obtain ⟨w1,e1⟩:=q.ex1
 refine ⟨q.fr.place hs (fun i x hx=>(q.fr.tm.get i x (Fm j.1 i x hx)).cut (T.allA_get d.1 i x hx)),q.cs.mono g,(q.hr.weaken (fun b' x _ hx=>same b' x hx)).cut (fun b' x hx=>T.allA_get d.2 b' x hx),g.m _ _ q.rb,g.m _ _ q.rm,q.ob,
  fun b' x hx hl=>q.ap b' x (Ren.cut_some hx) ?_,q.im,e1.back q.ex2 q.le q.free1 (fun b' x hx=>(q.new b' x hx).imp id (fun ⟨h1,h2⟩=>⟨h1,by omega⟩)),Ren.cut_free _ _ _⟩
 cases hy:S.h.blk.get b' with
 |none=>exact absurd hy hl
 |some y=>rw [same b' y hy];simp
def Wq (E:Env) (S:AS) (ρ:Ren) (h:Aa) (w0:World) (bs:List Frame) (c:Frame) (ccs:List Frame) (w:World) (fr':AF):Prop:=
 ∃σ' c' ccs' w',Steps E.P (lone c (ccs++bs) w) (lone c' (ccs'++bs) w')∧FrR σ' fr' c'∧FrL σ' S.cs ccs'∧HR σ' S.h.blk.get w'∧Ex0 ρ σ' h S.h w0 w'
include hE hO in
theorem NT {callF:Ask→Aa→Option (Bool×AV×Aa)} (hF:Dx E callF) {F b m since clock N:Nat} {es:List Al} {base bm:Bh} {S:AS} {ρ:Ren} {h:Aa} {w0:World} (fx:Rh S ρ h b m since clock N es base) {L0:List Nat}
  (hq:∀e∈Be L0 es,∃R,EA E callF F b m clock S e=some R∧R.cs=[]∧IM S.fr R.fr=true∧S.h.nx≤R.h.nx∧R.h.nx≤N∧Jz S R=true) {fr':AF} (hf:AT S.fr (.tuple [.bool false])=some fr') (bs:List Frame) :
  ∀(n:Nat) (L:List Nat) (σ:Ren) (c:Frame) (ccs:List Frame) (w:World),(Be L es).length<n→(∀x∈L0,x∈L)→R9 S ρ h w0 b m since clock N base bm σ L c ccs w→Wq E S ρ h w0 bs c ccs w fr':=by
 intro n
 induction n with
 |zero=>intro L σ c ccs w hn;omega
 |succ n ih=>
  intro L σ c ccs w hn hL iv
  have hin:∀e∈Be L es,e∈Be L0 es:=fun e he=>by
   have:=BI.1 he;exact BI.2 ⟨this.1,fun q=>this.2 (hL _ q)⟩
  rcases Np hE hO hF (F:=F) fx iv (fun e he=>by obtain ⟨R,a1,a2,a3,a4,a5,a6⟩:=hq e (hin e he);exact ⟨R,a1,a2,a4,a5⟩) bs with ⟨_,q⟩|⟨e,he,q⟩
  ·exact q fr' hf
  ·obtain ⟨R,a1,a2,a3,a4,a5,a6⟩:=hq e (hin e he);obtain ⟨σ1,τ,c2,ccs1,w2,p1,p2⟩:=q R a1;have iv2:=Oo fx p2 a3 a6 a5;obtain ⟨σ',c',ccs',w',r1,r2⟩:=ih (L++[e.born]) _ c2 ccs1 w2 (by have:=GZ he;omega) (fun x hx=>List.mem_append_left _ (hL x hx)) iv2
   exact ⟨σ',c',ccs',w',Steps.trans p1 r1,r2⟩
include hE hO in
theorem Uh {callF:Ask→Aa→Option (Bool×AV×Aa)} (hF:Dx E callF) {F b m since clock N:Nat} {es:List Al} {base bm:Bh} {S R:AS} {ρ:Ren} {h:Aa} {w0:World} (fx:Rh S ρ h b m since clock N es base) {e0:Al} (he0:e0∈es) (hR0:EA E callF F b m clock S e0=some R) (hun:Jz S R=false) (hinj:∀e∈es,e.born=e0.born→e=e0)
  (hq:∀e∈es,∃R',EA E callF F b m clock S e=some R'∧R'.cs=[]∧IM S.fr R'.fr=true∧S.h.nx≤R'.h.nx∧R'.h.nx≤N∧(Jz S R'=true∨(some (e0,R)=some (e,R')∧Jz S R'=false)))
  {S1:AS} (hS1:S1={fr:={S.fr with tmps:=Dv S.fr.tmps R.fr.tmps},cs:=S.cs,h:={R.h with log:=R.h.log++S.h.log}}) (hat:DG b S1.fr=true) (hlt:Q2 S1=true) (hml:Gt m R.h.log=false)
  (hq1:∀e∈HN e0.born es,∃R',EA E callF F b m clock S1 e=some R'∧R'.cs=[]∧IM S1.fr R'.fr=true∧S1.h.nx≤R'.h.nx∧R'.h.nx≤N∧Jz S1 R'=true) {fr':AF} (hf:AT S1.fr (.tuple [.bool false])=some fr') (bs:List Frame) :
  ∀(n:Nat) (L:List Nat) (σ:Ren) (c:Frame) (ccs:List Frame) (w:World),(Be L es).length<n→e0.born∉L→R9 S ρ h w0 b m since clock N base bm σ L c ccs w→
   Wq E S1 ρ h w0 bs c ccs w fr'∧(∀b',b'∉R.h.log→(b'<S.h.nx∨R.h.nx≤b')→R.h.blk.get b'=S.h.blk.get b'):=by
 intro n
 induction n with
 |zero=>intro L σ c ccs w hn;omega
 |succ n ih=>
  intro L σ c ccs w hn hL iv;rcases Np hE hO hF (F:=F) fx iv (fun e he=>by obtain ⟨R,a1,a2,a3,a4,a5,a6⟩:=hq e (BI.1 he).1;exact ⟨R,a1,a2,a4,a5⟩) bs with ⟨q0,_⟩|⟨e,he,q⟩
  ·have:=BI.2 ⟨he0,hL⟩;rw [q0] at this;cases this
  ·obtain ⟨R',a1,a2,a3,a4,a5,a6⟩:=hq e (BI.1 he).1;obtain ⟨σ1,τ,c2,ccs1,w2,p1,p2⟩:=q R' a1;rcases a6 with a6|⟨a6,a7⟩
   ·have hne:e0.born∉L++[e.born]:=by
     intro q;rcases List.mem_append.1 q with q|q
     ·exact hL q
     ·simp only [List.mem_singleton] at q;have e1:=hinj e (BI.1 he).1 q.symm;subst e1;rw [hR0] at a1;cases a1;rw [hun] at a6;cases a6
    have iv2:=Oo fx p2 a3 a6 a5;obtain ⟨⟨σ',c',ccs',w',r1,r2⟩,r3⟩:=ih (L++[e.born]) _ c2 ccs1 w2 (by have:=GZ he;omega) hne iv2
    exact ⟨⟨σ',c',ccs',w',Steps.trans p1 r1,r2⟩,r3⟩
   ·simp only [Option.some.injEq,Prod.mk.injEq] at a6;obtain ⟨rfl,rfl⟩:=a6
    have hmn:m∉R.h.log:=by
     intro q
     have:∀l:List Nat,m∈l→Gt m l=true:=by
      intro l
      induction l with
      |nil=>intro h;cases h
      |cons a l ih=>intro h;unfold Gt;rcases List.mem_cons.1 h with rfl|h<;>simp [*]
     rw [this _ q] at hml;cases hml
    have hmlt:m<S.h.nx:=by
     rcases Nat.lt_or_ge m S.h.nx with q|q
     ·exact q
     ·have:=fx.gm;rw [fx.swf m q] at this;cases this
    have fx1:Rh S1 ρ h b m since clock N es base:=by
     subst hS1;exact ⟨fx.h0,fx.hwf,p2.rwf,p2.dead,fx.live,by show R.h.blk.get m=_;rw [p2.log m hmn (.inl hmlt)];exact fx.gm,fx.old,hat,hlt,a5,fx.free⟩
    have iv1:R9 S1 ρ h w0 b m since clock N base bm τ (L++[e0.born]) c2 ccs1 w2:=by
     subst hS1;exact ⟨p2.fr.place (f:={S.fr with tmps:=Dv S.fr.tmps R.fr.tmps}) a3 (fun i x hx=>p2.fr.tm.get i x (GE hx)),p2.cs.mono p2.le,p2.hr,p2.le.m _ _ p2.rb,p2.le.m _ _ p2.rm,p2.ob,p2.ap,p2.im,p2.ex2.tgt (Nat.le_refl _) (fun b' hb'=>.inl hb'),p2.free2⟩
    obtain ⟨σ',c',ccs',w',r1,r2⟩:=NT hE hO hF fx1 (L0:=L++[e0.born]) (fun e he=>hq1 e (by
     have:=BI.1 he;exact Gs this.1 (fun q=>this.2 (by rw [q];simp)))) hf bs ((Be (L++[e0.born]) es).length+1) (L++[e0.born]) τ c2 ccs1 w2 (by omega) (fun x hx=>hx) iv1
    exact ⟨⟨σ',c',ccs',w',Steps.trans p1 r1,r2⟩,p2.log⟩
include hE hO in
theorem N7 {callF:Ask→Aa→Option (Bool×AV×Aa)} (hF:Dx E callF) {F:Nat} {ρ:Ren} {s s':AS} {c:Frame} {ccs:List Frame} {w:World} (hsr:SR ρ s c ccs w) (hwf:WF s.h) (hx:QO E callF F s=some s') (hfree:AA ρ s.h.nx s'.h.nx) (bs:List Frame) :
  ∃σ c' ccs' w',Steps E.P (lone c (ccs++bs) w) (lone c' (ccs'++bs) w')∧SR σ s' c' ccs' w'∧Ext ρ σ s.h s'.h w w':=by
 unfold QO at hx;split at hx
 ·cases hx
 rename_i b m es clock hit;obtain ⟨since,hat0,hgb,hgm,hold,hinc,hmb⟩:=VN hit;obtain ⟨all,o,r,k,it,hmf,ht,hgd,hop,hev⟩:=LC hat0;have hvi:=hsr.fr.evR it;rw [hev] at hvi
 obtain ⟨base,hb⟩:∃base,ρ b=some base:=by
  generalize c.eval it=cv at hvi;generalize hq:AV.ptr b 0=q at hvi;cases hvi<;>first | (cases hq;done)|skip
  cases hq;exact ⟨_,‹_›⟩
 obtain ⟨h0,bm,hm,ho⟩:=hsr.h.blk b base _ hb hgb;generalize hS:({s with fr:={s.fr with tmps:=QB (SG s.fr.todo) s.fr.tmps},h:=s.h.strike b}:AS)=S at hx
 have hSn:S.h.nx=s.h.nx:=by rw [←hS];rfl
 have hSb:∀b',S.h.blk.get b'=if b=b' then none else s.h.blk.get b':=fun b'=>by rw [←hS];exact T.get_del _ _ _
 have hScs:S.cs=s.cs:=by rw [←hS]
 have hSlog:S.h.log=b::s.h.log:=by rw [←hS];rfl
 have swf:WF S.h:=fun b' hb'=>by
  rw [hSb];split
  ·rfl
  ·exact hwf b' (by omega)
 have iv0:∀N,AA ρ s.h.nx N→R9 S ρ s.h w b m since clock N base bm ρ [] c ccs w:=by
  intro N hN;refine ⟨?_,by rw [hScs];exact hsr.cs,hsr.h.restrict (fun b'=>?_),hb,hm,ho,fun b' x hx hl=>?_,fun k arr hk=>hsr.h.off k arr b base hk hb (by rw [hgb];simp),?_,by rw [hSn];exact hN⟩
  ·rw [←hS];exact ⟨hsr.fr.fn,⟨hsr.fr.tm.size,fun i x hx=>hsr.fr.tm.get i x (Lt hx)⟩,hsr.fr.todo,hsr.fr.defers,hsr.fr.mode,hsr.fr.kind,hsr.fr.round⟩
  ·rw [hSb];split
   ·exact .inl rfl
   ·exact .inr rfl
  ·rw [hSb] at hl;split at hl
   ·exact absurd rfl hl
   ·rename_i hne;exact hsr.h.apart b' b x base (fun e=>hne e.symm) hx hb hl (by rw [hgb];simp)
  ·exact (Ext.refl ρ s.h w).ex.tgt (Nat.le_of_eq hSn.symm) (fun b' hl=>by
    rw [hSb] at hl;split at hl
    ·exact absurd rfl hl
    ·exact .inl hl)
 have fxOf:∀N,S.h.nx≤N→AA ρ s.h.nx N→DG b S.fr=true→Q2 S=true→Rh S ρ s.h b m since clock N es base:=by
  intro N h1 h2 h3 h4;exact ⟨h0,hwf,swf,by rw [hSb,if_pos rfl],by rw [hgb];simp,by rw [hSb,if_neg (fun e=>hmb e.symm)];exact hgm,hold,h3,h4,h1,h2⟩
 unfold Wr at hx;split at hx
 ·
  rename_i n hat hgo;rw [Bool.and_eq_true] at hat;obtain ⟨g1,g2⟩:=FK hgo;unfold Jj at hx;split at hx
  ·rename_i fr' hf;cases hx;have fx:=fxOf n g1 hfree hat.1 hat.2
   obtain ⟨σ,c',ccs',w',r1,r2,r3,r4,r5⟩:=NT hE hO hF fx (L0:=[]) (fun e he=>by
    obtain ⟨R,a1,a2,a3,a4,a5,a6⟩:=g2 e (BI.1 he).1;refine ⟨R,a1,a2,a3,a4,a5,?_⟩;rcases a6 with q|⟨q,_⟩
    ·exact q
    ·cases q) hf bs _ [] ρ c ccs w (Nat.lt_succ_self _) (fun x hx=>hx) (iv0 n hfree)
   refine ⟨σ,c',ccs',w',r1,⟨r2,r3,r4⟩,(r5.tgt (h2:={S.h with nx:=n}) g1 (fun b' hb'=>.inl hb')).ext ⟨[b],hSlog,fun b' hb' _=>?_⟩⟩
   simp only [List.mem_singleton] at hb';show S.h.blk.get b'=_;rw [hSb,if_neg (fun e=>hb' e.symm)]
  ·cases hx
 ·
  rename_i e R n hat hgo;rw [Bool.and_eq_true] at hat;obtain ⟨g1,g2⟩:=FK hgo;obtain ⟨s1,s2,s3⟩:=IA hgo;generalize hS1:({fr:={S.fr with tmps:=Dv S.fr.tmps R.fr.tmps},cs:=S.cs,h:={R.h with log:=R.h.log++S.h.log}}:AS)=S1 at hx
  have hS1':S1={fr:={S.fr with tmps:=Dv S.fr.tmps R.fr.tmps},cs:=S.cs,h:={R.h with log:=R.h.log++S.h.log}}:=hS1.symm
  unfold TN at hx;split at hx
  ·rename_i n1 hat1 hgo1;simp only [Bool.and_eq_true,Bool.not_eq_true'] at hat1;obtain ⟨k1,k2⟩:=FK hgo1;unfold Jj at hx;split at hx
   ·rename_i fr' hf;cases hx;have fx:=fxOf (max n n1) (by omega) hfree hat.1 hat.2
    obtain ⟨R2,a1,_,_,_,a5,_⟩:=g2 e s1;rw [s2] at a1;cases a1
    obtain ⟨⟨σ,c',ccs',w',r1,r2,r3,r4,r5⟩,r6⟩:=Uh hE hO hF fx s1 s2 s3 (fun e' he' hb'=>(M3 hinc).2 e' he' e s1 hb') (fun e' he'=>by
     obtain ⟨R',a1,a2,a3,a4,a5,a6⟩:=g2 e' he';exact ⟨R',a1,a2,a3,a4,by omega,a6⟩) hS1' hat1.1 hat1.2.1 hat1.2.2 (fun e' he'=>by
     obtain ⟨R',a1,a2,a3,a4,a5,a6⟩:=k2 e' he';refine ⟨R',a1,a2,a3,a4,by omega,?_⟩
     rcases a6 with q|⟨q,_⟩
     ·exact q
     ·cases q) hf bs _ [] ρ c ccs w (Nat.lt_succ_self _) (by simp) (iv0 _ hfree)
    refine ⟨σ,c',ccs',w',r1,⟨r2,r3,r4⟩,(r5.tgt (h2:={S1.h with nx:=max n n1}) (by rw [show S1.h.nx=R.h.nx by rw [hS1']];exact Nat.le_trans a5 (Nat.le_max_left n n1)) (fun b' hb'=>.inl hb')).ext ⟨R.h.log++[b],?_,fun b' hb' hr'=>?_⟩⟩
    ·rw [hS1'];show R.h.log++S.h.log=_;rw [hSlog];simp
    ·simp only [List.mem_append,List.mem_singleton,not_or] at hb'
     have:S1.h.blk.get b'=S.h.blk.get b':=by
      rw [hS1'];refine r6 b' hb'.1 ?_;rcases hr' with q|q
      ·left;omega
      ·right;have q:max n n1≤b':=q;omega
     show S1.h.blk.get b'=_;rw [this,hSb,if_neg (fun e=>hb'.2 e.symm)]
   ·cases hx
  ·cases hx
 ·cases hx
end
end Go.AE
namespace Go.AE
variable [Gl:Ax]
variable [U:Unk]
section
variable {E:Env} (hE:OK E) (hO:Ad E U.V.fn)
include hE hO
theorem SP:∀(f:Nat) (G:FuncId) (H:Bool) (s:AS) (p:Ren) (c:Frame) (u:List Frame) (w:World) (ok:Bool) (v:AV) (h:Aa),SR p s c u w→WF s.h→ES E f G H s=some (ok,v,h)→AA p s.h.nx h.nx→
  ∀base:List Frame,∃j q C w1 m,Steps E.P (lone c (u++base) w) (lone q base w1)∧q.fn=G∧(H=false→q.roundOf=none)∧IY E.P q w1 ok C m∧VR j v C∧HR j h.blk.get m∧Ext p j s.h h w m:=by
 intro f
 induction f with
 |zero=>intro G H s p c u w ok v h o hwf d;cases d
 |succ f ih=>
  intro G H s p c u w ok v h o hwf d a base
  have Q:∀(y:AS) (j:Ren) (N:Frame) (i:List Frame) (w1:World),Steps E.P (lone c (u++base) w) (lone N (i++base) w1)→SR j y N i w1→Ext p j s.h y.h w w1→ES E f G H y=some (ok,v,h)→
    ∃j q C w1 m,Steps E.P (lone c (u++base) w) (lone q base w1)∧q.fn=G∧(H=false→q.roundOf=none)∧IY E.P q w1 ok C m∧VR j v C∧HR j h.blk.get m∧Ext p j s.h h w m:=by
   intro y j N i w1 M Y Z h4;obtain ⟨τ,q,C,w2,m,z,B,t,R,q5,q6,q7⟩:=ih G H y j N i w1 ok v h Y (Z.wf hwf) h4 (Z.free a) base;exact ⟨τ,q,C,w2,m,Steps.trans M z,B,t,R,q5,q6,Z.trans q7 a⟩
  have hC:∀(fr:AF) (g K:Aa) (ok:Bool) (v:AV) (p:Ren) (q:Frame) (w:World),FrR p fr q→HR p g.blk.get w→WF g→ES E f fr.fn true {fr,cs:=[],h:=g}=some (ok,v,K)→AA p g.nx K.nx→
    ∀(c0:Frame) (base:List Frame),∃j C m,BM E.P (lone q (c0::base) w) c0 base ok C m∧VR j v C∧HR j K.blk.get m∧Ext p j g K w m:=by
   intro fr g K ok v p q w I hr hwf d a c0 base;obtain ⟨j,A,C,w1,m,z,B,t,R,q5,q6,q7⟩:=ih fr.fn true {fr,cs:=[],h:=g} p q [] w ok v K ⟨I,.nil,hr⟩ hwf d a (c0::base);refine ⟨j,C,m,?_,q5,q6,q7⟩;have:=Steps.trans z (Steps.one (R.back c0 base));cases ok<;>exact this
  have hF:Dx E (Km E (ES E f)):=by
   refine ⟨?_,?_⟩
   ·intro f' args aa g K ok v p w ha hr hwf d a;simp only [Km] at d;split at d
    ·rename_i r O;cases d;exact DC hE hO O ha hr hwf a
    ·split at d
     ·rename_i fr I;exact hC fr g K ok v p _ w (Cq hE I ha) hr hwf d a
     ·cases d
   ·intro l args g K ok v p w hr hwf d a;simp only [Km] at d;split at d
    ·rename_i fr I;exact ⟨fr,I,fun q ab=>hC fr g K ok v p q w ab hr hwf d a⟩
    ·cases d
  simp only [ES] at d;split at d
  ·rename_i y S;split at d
   ·rename_i L;have n:=BG f G H y ok v h d;obtain ⟨j,A,i,m,z,B,t⟩:=Jm hE hO o hwf S (fun b M Y=>a b M (by omega)) base
    exact Q y j A i m z B t d
   ·cases d
  split at d
  ·rename_i y J;split at d
   ·rename_i L;have n:=BG f G H y ok v h d;obtain ⟨j,A,i,m,z,B,t⟩:=Fh (base:=base) hE o J (fun b M Y=>a b M (by omega))
    exact Q y j A i m (Steps.one z) B t d
   ·cases d
  ·rename_i ah C h' J;split at d
   ·rename_i L;simp only [Option.some.injEq,Prod.mk.injEq] at d;obtain ⟨rfl,rfl,rfl⟩:=d;obtain ⟨rfl,x,m,z,B,t,R⟩:=GD hE o J;obtain ⟨b1,b2⟩:=Ao L;have ac:=As (Ao b1).2;refine ⟨p,c,x,w,m,Steps.refl _ _,o.fr.fn.trans ac,fun ad=>?_,R,z,B,t⟩
    subst ad;have D:=o.fr.round;simp only [Bool.false_or,Option.isNone_iff_eq_none] at b2;rw [b2] at D;exact D.none_inv
   ·cases d
  ·rename_i s2 ops k J;obtain ⟨rfl,hm,id,ht⟩:=Cf J;split at d
   ·rename_i tmps M hd;have n:=BG f G H _ ok v h d;obtain ⟨j,N,m,z,B,t⟩:=EO hE hF o hwf hm ht hd (fun b a1 a2=>a b a1 (Nat.lt_of_lt_of_le a2 n)) base
    exact Q _ j N u m z B t d
   ·rename_i v1 tmps M hd;have n:=BG f G H _ ok v h d;obtain ⟨j,N,m,z,B,t⟩:=EO hE hF o hwf hm ht hd (fun b a1 a2=>a b a1 (Nat.lt_of_lt_of_le a2 n)) base
    exact Q _ j N u m z B t d
   ·cases d
  ·split at d
   ·rename_i y hl;split at d
    ·rename_i L;have n:=BG f G H y ok v h d;obtain ⟨j,A,i,m,z,B,t⟩:=N7 hE hO hF o hwf hl (fun b M Y=>a b M (by omega)) base
     exact Q y j A i m z B t d
    ·cases d
   split at d
   ·rename_i al ae;obtain ⟨j1,j2,j3,j4⟩:=N4 d;obtain ⟨y,W,ai,j,A,i,m,z,B,t⟩:=UU hE o ae base;obtain ⟨h',af,X⟩:=j4 _ (List.mem_map.2 ⟨y,W,rfl⟩);have F:AA p s.h.nx h'.nx:=by rw [X];exact a
    obtain ⟨τ,q,C,w2,w3,t1,t2,t3,t4,t5,t6,t7⟩:=ih G H y j A i m ok v h' B (t.wf hwf) af (t.free F) base;have e:=t.trans t7 F;refine ⟨τ,q,C,w2,w3,Steps.trans (Steps.one z) t1,t2,t3,t4,t5,t6.restrict (fun b=>.inl (by rw [j1];exact T.get_nil _)),⟨e.le,j3,fun b bs L=>by rw [←X];exact e.new b bs L,e.calm,e.kept,⟨_,j2,fun b L aj=>?_⟩,fun b L=>absurd (by rw [j1];exact T.get_nil _) L,e.imm⟩⟩
    rw [j1,T.get_nil];refine Eq.symm ?_;by_cases ag:b<s.h.nx
    ·exact JY s.h s.h.nx b ag L
    ·exact hwf b (by omega)
   ·cases d
end
theorem Orc.valid {E:Env} (hE:∀[U:Unk],U.K=(Env.of E.P).kinds→OK E) {G:Nat→D→D} (hO:Ad E G) {N:Nat} {e:Orc} (h:∀[F:Facts],Pq E N e=true):e.Valid E.P G:=by
 intro U hK J ρ w t ha hr hwf l c0 j;have hE:=hE hK;subst J;have r:=h (F:=U.toFacts);unfold Pq at r;split at r
 ·rename_i ok v g i;simp only [Bool.and_eq_true,beq_iff_eq] at r;obtain ⟨⟨⟨⟨h1,h2⟩,h3⟩,h4⟩,h5⟩:=r;have I:=Nat.eq_of_beq_eq_true h4;unfold WA at i;split at i
  ·rename_i fr C;obtain ⟨σ,cf,v',w1,w',q1,q2,q3,q4,q5,q6,q7⟩:=SP hE hO N e.f false _ ρ _ [] w ok v g ⟨Cq hE C ha,.nil,hr⟩ hwf i (by show AA ρ e.nx g.nx;rw [I];exact l) (c0::j)
   refine ⟨σ,v',w',g,?_,Dm _ _ h2▸q5,q6,q7,EV h3,I,M2 h5⟩;rw [←h1];have:=Steps.trans q1 (Steps.one (q4.back c0 j));cases ok<;>exact this
  ·cases i
 ·cases r
end Go.AE
namespace Go.AE
variable [Gl:Ax]
structure PR where
 o:Oper
 looks:List Tmp
 mask:Nat
 free:List Nat
def eM (a:List Nat):List Edge→Option Nat
 |[]=>some 0
 |e::r=>match eM a r with
  |none=>none
  |some m=>match Region.binds .any e with
   |false=>some m
   |true=>match a[e.on]? with
    |some x=>some (m ||| x ||| 2^e.on)
    |none=>none
def JW (m n:Nat):List Nat:=(List.range n).filter fun p=>!Nat.beq (m/2^(n-1-p)%2) 1
def WB (all:Array Oper) (x y:Oper):Bool:=!RG (A4 all y) x.dst && !RG (A4 all x) y.dst && !TC x.dst y.dst
def Wx (all:Array Oper) (done:List Oper) (o:Oper) (l:List Nat):Bool:=l.all fun p=>match done[p]? with
 |some x=>WB all x o
 |none=>false
def Ka (all:Array Oper):List Oper→List Nat→List Oper→Option (List PR)
 |[],_,_=>some []
 |o::rest,a,done=>match eM a o.after.toList with
  |none=>none
  |some m=>match Wx all done o (JW m done.length) with
   |false=>none
   |true=>match Ka all rest (a++[m]) (o::done) with
    |none=>none
    |some l=>some (⟨o,A4 all o,m,JW m done.length⟩::l)
def Q9 (x y:Rc):Bool:=Gz x.wr y.fp&&Gz y.wr x.fp&&HW x.wr y.wr&&SX x.lo x.hi y.wr
def di (x y:Rc):Bool:=List.casesOn (motive:=fun _=>Bool) x.wr (List.casesOn (motive:=fun _=>Bool) y.wr true (fun _ _=>Q9 x y)) (fun _ _=>Q9 x y)
def oc (p:Nat):List Rc→Option Rc:=Nat.rec (motive:=fun _=>List Rc→Option Rc) (fun l=>List.casesOn (motive:=fun _=>Option Rc) l none (fun x _=>some x)) (fun _ ih l=>List.casesOn (motive:=fun _=>Option Rc) l none (fun _ r=>ih r)) p
def EH (y:Rc) (a:List Rc):List Nat→Bool
 |[]=>true
 |p::r=>match oc p a with
  |some x=>match di x y with
   |true=>EH y a r
   |false=>false
  |none=>false
def uK (n:Nat) (k:Nat→Aa):Aa:=Nat.casesOn (motive:=fun _=>Aa) n (k 0) (fun m=>k (Nat.succ m))
def L3 (h g:Aa):Aa:=uK g.nx fun n=>{blk:=GI (Fr h.blk g.blk (Bq h.nx g.log)) g.blk h.nx (n-h.nx),nx:=n,log:=Bq h.nx g.log++h.log}
def Mq (h g:Aa):Aa:=List.casesOn (motive:=fun _=>Aa) g.log (Bool.casesOn (motive:=fun _=>Aa) (Nat.beq g.nx h.nx) (L3 h g) h) (fun _ _=>L3 h g)
theorem R1 (h g:Aa):L3 h g=AN h g:=by
 unfold L3 AN uK;cases g.nx<;>rfl
theorem Rg (h g:Aa):Mq h g=AN h g:=by
 unfold Mq;rw [R1];cases b:g.log with
 |cons a r=>rfl
 |nil=>
  show (Bool.casesOn (motive:=fun _=>Aa) (Nat.beq g.nx h.nx) (AN h g) h:Aa)=AN h g
  cases c:Nat.beq g.nx h.nx with
  |false=>rfl
  |true=>
   have d:g.nx=h.nx:=Nat.eq_of_beq_eq_true c;show h=AN h g;unfold AN;rw [b,d,Nat.sub_self];cases h;rfl
section
variable [U:Facts]
abbrev DrR:=Option (Option AV×T AV×Aa)
def Nx (E:Env) (b:Ask→Aa→Option (Bool×AV×Aa)) (all:Array Oper) (nt:Nat) (F:Nat):List PR→List Rc→T AV→Aa→DrR:=
 Nat.rec (motive:=fun _=>List PR→List Rc→T AV→Aa→DrR) (fun _ _ _ _=>none) (fun _ ih l a tmps h=>
  List.casesOn (motive:=fun _=>DrR) l (some (none,tmps,h)) (fun p rest=>
   Option.casesOn (motive:=fun _=>DrR) (CE E b all p.o (AO tmps p.looks) h) none (fun d=>
    Bool.casesOn (motive:=fun _=>DrR) (Nat.ble h.nx d.g.nx) none (Bool.casesOn (motive:=fun _=>DrR) d.ok none
     (Bool.casesOn (motive:=fun _=>DrR) (EH {wr:=Bq h.nx d.g.log,fp:=d.fp,lo:=h.nx,hi:=d.g.nx,dst:=p.o.dst,looks:=p.looks,mask:=p.mask} a p.free) none
      (Option.casesOn (motive:=fun _=>DrR) (DE nt tmps p.o.dst d.v) none (fun c=>ih rest ({wr:=Bq h.nx d.g.log,fp:=d.fp,lo:=h.nx,hi:=d.g.nx,dst:=p.o.dst,looks:=p.looks,mask:=p.mask}::a) c (Mq h d.g)))))))) F
def SQ (E:Env) (a:Ask→Aa→Option (Bool×AV×Aa)) (all:Array Oper) (nt:Nat) (tmps:T AV) (h:Aa):DrR:=
 Option.casesOn (motive:=fun _=>DrR) (Option.casesOn (motive:=fun _=>DrR) (Ka all all.toList [] []) none (fun b=>Nx E a all nt 100000 b [] tmps h)) (Bt E a all nt all.toList [] tmps h) some
end
theorem qG (a:List Rc):∀l:List Edge,eM (a.map Rc.mask) l=Bu a l:=by
 intro l
 induction l with
 |nil=>rfl
 |cons e r ih=>
  unfold eM Bu;rw [ih];cases Bu a r with
  |none=>rfl
  |some m=>
   simp only;cases Region.binds .any e with
   |false=>rfl
   |true=>
    simp only [List.getElem?_map];cases a[e.on]?<;>rfl
theorem U7:∀(p:Nat) (l:List Rc),oc p l=l[p]?:=by
 intro p
 induction p with
 |zero=>intro l;cases l<;>rfl
 |succ p ih=>intro l;cases l with
  |nil=>rfl
  |cons x r=>exact ih r
theorem Ve {x y:Rc} (h:di x y=true):Q9 x y=true:=by
 unfold di at h;cases b:x.wr with
 |cons a r=>rw [b] at h;exact h
 |nil=>
  cases c:y.wr with
  |cons a r=>rw [b,c] at h;exact h
  |nil=>
   unfold Q9;rw [b,c];cases x.fp<;>cases y.fp<;>rfl
theorem O6 {y:Rc} {a:List Rc}:∀{l:List Nat},EH y a l=true→∀p∈l,∃x,a[p]?=some x∧Q9 x y=true:=by
 intro l
 induction l with
 |nil=>intro _ p b;cases b
 |cons q r ih=>
  intro h p b;unfold EH at h;split at h
  ·rename_i x c;split at h
   ·rename_i d;rcases List.mem_cons.1 b with rfl|b
    ·exact ⟨x,by rw [←U7];exact c,Ve d⟩
    ·exact ih h p b
   ·cases h
  ·cases h
theorem NQ {y:Rc}:∀(l:List Rc) (i:Nat),(∀j x,l[j]?=some x→(Nat.beq (y.mask/2^(i+j)%2) 1||x.apart y)=true)→CA y l i=true:=by
 intro l
 induction l with
 |nil=>intro i _;rfl
 |cons x r ih=>
  intro i h;unfold CA;have h0:=h 0 x rfl;rw [Nat.add_zero] at h0;rw [h0];exact ih (i+1) (fun j z a=>by have:=h (j+1) z a;rwa [show i+(j+1)=i+1+j from by omega] at this)
inductive RL2 (all:Array Oper):List Rc→List Oper→Prop
 |nil:RL2 all [] []
 |cons {x:Rc} {o:Oper} {l:List Rc} {l':List Oper} (hd:x.dst=o.dst) (hl:x.looks=A4 all o) (k:RL2 all l l'):RL2 all (x::l) (o::l')
theorem RL2.len {all:Array Oper} {l:List Rc} {l':List Oper} (h:RL2 all l l'):l.length=l'.length:=by
 induction h with
 |nil=>rfl
 |cons _ _ _ ih=>simp [ih]
theorem RL2.get {all:Array Oper} {l:List Rc} {l':List Oper} (h:RL2 all l l'):∀{p:Nat} {x:Rc},l[p]?=some x→∃o,l'[p]?=some o∧x.dst=o.dst∧x.looks=A4 all o:=by
 induction h with
 |nil=>intro p x i;simp at i
 |cons j r k ih=>
  intro p x i;cases p with
  |zero=>simp at i;subst i;exact ⟨_,rfl,j,r⟩
  |succ p=>exact ih (by simpa using i)
theorem Ul {all:Array Oper} {a:List Rc} {done:List Oper} {o:Oper} {y:Rc} {m:Nat} (hr:RL2 all a done) (e:y.mask=m) (f:y.dst=o.dst) (g:y.looks=A4 all o)
  (l:Wx all done o (JW m done.length)=true) (n:EH y a (JW m done.length)=true):CA y a.reverse 0=true:=by
 refine NQ _ _ fun j x h=>?_
 rw [Nat.zero_add,e]
 have p:j<a.length:=by
  have:=(List.getElem?_eq_some_iff.1 h).1;simpa using this
 have d:a[a.length-1-j]?=some x:=by
  rw [List.getElem?_reverse (by simpa using p)] at h
  exact h
 cases q:Nat.beq (m/2^j%2) 1 with
 |true=>rfl
 |false=>
  have c:a.length-1-j∈JW m done.length:=by
   unfold JW;rw [List.mem_filter,List.mem_range,←hr.len];refine ⟨by omega,?_⟩
   rw [show a.length-1-(a.length-1-j)=j from by omega,q]
   rfl
  obtain ⟨x1,k,i⟩:=O6 n _ c;rw [d] at k;cases k;obtain ⟨o1,r,s,t⟩:=hr.get d;have b:=List.all_eq_true.1 l _ c;rw [r] at b;simp only [WB] at b;rw [Bool.false_or];unfold Rc.apart;unfold Q9 at i;rw [s,t,f,g];simp only [Bool.and_eq_true] at i b ⊢;simp only [i,b,and_self]
section
variable [U:Facts]
theorem Po {E:Env} {a:Ask→Aa→Option (Bool×AV×Aa)} {all:Array Oper} {nt F:Nat} (p:PR) (rest:List PR) (b:List Rc) (tmps:T AV) (h:Aa) :
  Nx E a all nt (F+1) (p::rest) b tmps h=(match CE E a all p.o (AO tmps p.looks) h with
   |none=>none
   |some d=>match Nat.ble h.nx d.g.nx with
    |false=>none
    |true=>match d.ok with
     |false=>none
     |true=>match EH {wr:=Bq h.nx d.g.log,fp:=d.fp,lo:=h.nx,hi:=d.g.nx,dst:=p.o.dst,looks:=p.looks,mask:=p.mask} b p.free with
      |false=>none
      |true=>match DE nt tmps p.o.dst d.v with
       |none=>none
       |some c=>Nx E a all nt F rest ({wr:=Bq h.nx d.g.log,fp:=d.fp,lo:=h.nx,hi:=d.g.nx,dst:=p.o.dst,looks:=p.looks,mask:=p.mask}::b) c (Mq h d.g)):=by
 show Option.casesOn (motive:=fun _=>DrR) (CE E a all p.o (AO tmps p.looks) h) none _=_
 cases CE E a all p.o (AO tmps p.looks) h with
 |none=>rfl
 |some d=>
  show Bool.casesOn (motive:=fun _=>DrR) (Nat.ble h.nx d.g.nx) none _=_
  simp only;cases Nat.ble h.nx d.g.nx with
  |false=>rfl
  |true=>
   show Bool.casesOn (motive:=fun _=>DrR) d.ok none _=_
   simp only;cases d.ok with
   |false=>rfl
   |true=>
    show Bool.casesOn (motive:=fun _=>DrR) (EH _ b p.free) none _=_
    simp only;cases EH {wr:=Bq h.nx d.g.log,fp:=d.fp,lo:=h.nx,hi:=d.g.nx,dst:=p.o.dst,looks:=p.looks,mask:=p.mask} b p.free with
    |false=>rfl
    |true=>
     show Option.casesOn (motive:=fun _=>DrR) (DE nt tmps p.o.dst d.v) none _=_
     simp only;cases DE nt tmps p.o.dst d.v with
     |none=>rfl
     |some c=>rfl
theorem Um {E:Env} {c:Ask→Aa→Option (Bool×AV×Aa)} {all:Array Oper} {nt:Nat}:∀(l:List Oper) (n:List Nat) (done:List Oper) (p:List PR) (F:Nat) (b:List Rc) (tmps:T AV) (h:Aa) (r:Option AV×T AV×Aa),
  Ka all l n done=some p→n=b.reverse.map Rc.mask→RL2 all b done→Nx E c all nt F p b tmps h=some r→Bt E c all nt l b.reverse tmps h=some r:=by
 intro l
 induction l with
 |nil=>
  intro n done p F b tmps h r e q hr a;cases e;cases F with
  |zero=>cases a
  |succ F=>exact a
 |cons o rest ih=>
  intro n done p F b tmps h r e q hr a;unfold Ka at e;split at e
  ·cases e
  ·rename_i m w;split at e
   ·cases e
   ·rename_i s;split at e
    ·cases e
    ·rename_i y t;cases e;cases F with
     |zero=>cases a
     |succ F=>
      rw [q,qG] at w;unfold Bt;rw [w];rw [Po] at a;simp only at a ⊢;cases j:CE E c all o (AO tmps (A4 all o)) h with
      |none=>rw [j] at a;cases a
      |some d=>
       rw [j] at a;simp only at a ⊢;cases x:Nat.ble h.nx d.g.nx with
       |false=>rw [x] at a;cases a
       |true=>
        rw [x] at a;simp only at a;cases k:d.ok with
        |false=>rw [k] at a;cases a
        |true=>
         rw [k] at a;simp only at a ⊢;cases i:EH {wr:=Bq h.nx d.g.log,fp:=d.fp,lo:=h.nx,hi:=d.g.nx,dst:=o.dst,looks:=A4 all o,mask:=m} b (JW m done.length) with
         |false=>rw [i] at a;cases a
         |true=>
          rw [i] at a;simp only at a;rw [Ul hr rfl rfl rfl s i];simp only;cases f:DE nt tmps o.dst d.v with
          |none=>rw [f] at a;cases a
          |some u=>
           rw [f] at a;simp only [Rg] at a ⊢;have:=ih _ _ _ _ _ _ _ _ t (by simp [q]) (RL2.cons rfl rfl hr) a
           simpa using this
theorem GJ {E:Env} {a:Ask→Aa→Option (Bool×AV×Aa)} {all:Array Oper} {nt:Nat} {tmps:T AV} {h:Aa} {r:Option AV×T AV×Aa} (b:SQ E a all nt tmps h=some r):Bt E a all nt all.toList [] tmps h=some r:=by
 unfold SQ at b;cases c:Ka all all.toList [] [] with
 |none=>rw [c] at b;exact b
 |some e=>
  rw [c] at b;simp only at b;cases d:Nx E a all nt 100000 e [] tmps h with
  |none=>rw [d] at b;exact b
  |some x=>
   rw [d] at b;cases b;exact Um _ _ _ _ _ [] _ _ _ c rfl .nil d
end
end Go.AE
namespace Go.AE
variable [Gl:Ax]
structure CX where
 fn:FuncId
 nt:Nat
 defers:List AD
 kind:CallKind
 round:Option Nat
 cs:List AF
def CX.as (X:CX) (tmps:T AV) (todo:List AI) (mode:F8) (h:Aa):AS:=⟨⟨X.fn,X.nt,tmps,todo,X.defers,mode,X.kind,X.round⟩,X.cs,h⟩
inductive QSt where
 |o (l:List Oper) (all:Array Oper) (k:List AI) (tmps:T AV) (h:Aa) (X:CX)
 |c (c:Code) (k:List AI) (tmps:T AV) (h:Aa) (X:CX)
 |k (k:List AI) (tmps:T AV) (h:Aa) (X:CX)
 |g (s:AS)
abbrev R3:=Option (Bool×AV×Aa)
def Kl (n:Nat) (k:Nat→R3):R3:=Nat.casesOn (motive:=fun _=>R3) n (k 0) (fun m=>k (Nat.succ m))
theorem H1 (n:Nat) (k:Nat→R3):Kl n k=k n:=by cases n<;>rfl
def OB (h:Aa) (k:Aa→R3):R3:=Aa.casesOn (motive:=fun _=>R3) h (fun b n l=>Kl n (fun n=>k ⟨b,n,l⟩))
theorem Lx (h:Aa) (k:Aa→R3):OB h k=k h:=by
 obtain ⟨b,n,l⟩:=h;exact H1 n (fun n=>k ⟨b,n,l⟩)
section
variable [U:Facts]
def Hq (ih:QSt→R3) (s:AS):R3:=match s with
 |⟨⟨fn,nt,tmps,todo,defers,mode,kind,round⟩,cs,h⟩=>match mode with
  |.run=>Kl fn fun fn=>Kl nt fun nt=>OB h fun h=>ih (.k todo tmps h ⟨fn,nt,defers,kind,round,cs⟩)
  |m=>ih (.g ⟨⟨fn,nt,tmps,todo,defers,m,kind,round⟩,cs,h⟩)
def gen (E:Env) (d:FuncId) (e:Bool) (ih:QSt→R3) (a:Ask→Aa→R3) (s:AS):R3:=match Ou E s with
   |some b=>(match Nat.ble s.h.nx b.h.nx with
     |true=>Hq ih b
     |false=>none)
   |none=>match AU E s with
    |.next b=>match Nat.ble s.h.nx b.h.nx with
      |true=>Hq ih b
      |false=>none
    |.done ok v h=>match Nat.ble s.h.nx h.nx&&Nat.beq s.fr.fn d&&(e||s.fr.round.isNone) with
      |true=>some (ok,v,h)
      |false=>none
    |.draw s ops k=>
      match SQ E a ops s.fr.nt s.fr.tmps s.h with
      |some (none,tmps,h)=>Hq ih {s with fr:={s.fr with tmps,todo:=k},h}
      |some (some v,tmps,h)=>Hq ih {s with fr:={s.fr with tmps,todo:=.dead::k,mode:=.panic [(v,false)]},h}
      |none=>none
    |.bad _=>match QO E a 100000 s with
      |some c=>match Nat.ble s.h.nx c.h.nx with
        |true=>Hq ih c
        |false=>none
      |none=>none
def ZZ (v:Value):AV:=match ofValue v with
  |some a=>a
  |none=>.top
def vj (i:Tmp) (t:T AV):AV:=Option.casesOn (motive:=fun _=>AV) (T.get t i) .top fun v=>v
def cZ (v:Value) (t:T AV):AV:=ZZ v
def rL (g:Nat) (t:T AV):AV:=.glob g 0
def ul (g:FuncId) (t:T AV):AV:=.func (.func g) [] []
def evF (t:T AV) (x:Operand):AV:=Operand.casesOn (motive:=fun _=>T AV→AV) x vj cZ rL ul t
abbrev OT:=Env→(QSt→R3)→Oper→List Oper→Array Oper→List AI→Option Tmp→T AV→Aa→CX→R3
def onK (E:Env) (ih:QSt→R3) (rest:List Oper) (all:Array Oper) (k:List AI) (dst:Option Tmp) (tmps:T AV) (X:CX) (v:AV) (h:Aa):R3:=
 Option.casesOn (motive:=fun _=>R3) dst (ih (.o rest all k tmps h X)) (fun d=>Bool.casesOn (motive:=fun _=>R3) (Nat.blt d X.nt) none (ih (.o rest all k (T.set tmps d v) h X)))
def St (E:Env) (ih:QSt→R3) (rest:List Oper) (all:Array Oper) (k:List AI) (dst:Option Tmp) (tmps:T AV) (X:CX) (v:AV) (h:Aa):R3:=OB h fun h=>onK E ih rest all k dst tmps X v h
theorem I8 (E:Env) (ih:QSt→R3) (rest:List Oper) (all:Array Oper) (k:List AI) (dst:Option Tmp) (tmps:T AV) (X:CX) (v:AV) (h:Aa):St E ih rest all k dst tmps X v h=onK E ih rest all k dst tmps X v h:=Lx _ _
def C4 (E:Env) (ih:QSt→R3) (o:Oper) (rest:List Oper) (all:Array Oper) (k:List AI) (tmps:T AV) (h:Aa) (X:CX):R3:=ih (.g (X.as tmps (.ops all (o::rest)::k) .run h))
def I2 (E:Env) (ih:QSt→R3) (o:Oper) (rest:List Oper) (all:Array Oper) (k:List AI) (dst:Option Tmp) (tmps:T AV) (h:Aa) (X:CX) (r:Option AV):R3:=
 Option.casesOn (motive:=fun _=>R3) r (C4 E ih o rest all k tmps h X) (fun v=>onK E ih rest all k dst tmps X v h)
def Oj (E:Env) (ih:QSt→R3) (o:Oper) (rest:List Oper) (all:Array Oper) (k:List AI) (dst:Option Tmp) (tmps:T AV) (h:Aa) (X:CX) (r:Option (AV×Aa)):R3:=
 Option.casesOn (motive:=fun _=>R3) r (C4 E ih o rest all k tmps h X) (fun p=>Prod.casesOn (motive:=fun _=>R3) p (fun v h'=>Bool.casesOn (motive:=fun _=>R3) (Nat.ble h.nx h'.nx) none (St E ih rest all k dst tmps X v h')))
def S6 (E:Env) (ih:QSt→R3) (o:Oper) (rest:List Oper) (all:Array Oper) (k:List AI) (dst:Option Tmp) (tmps:T AV) (h:Aa) (X:CX) (r:Option Aa):R3:=
 Option.casesOn (motive:=fun _=>R3) r (C4 E ih o rest all k tmps h X) (fun h'=>Bool.casesOn (motive:=fun _=>R3) (Nat.ble h.nx h'.nx) none (St E ih rest all k dst tmps X AV.undef h'))
def V0:OT:=fun E ih o rest all k dst tmps h X=>C4 E ih o rest all k tmps h X
def WG (x:Operand):OT:=fun E ih o rest all k dst tmps h X=>onK E ih rest all k dst tmps X (evF tmps x) h
def Aea (a:BinOp) (t:TypeId) (x y:Operand) (_:TypeId):OT:=fun E ih o rest all k dst tmps h X=>I2 E ih o rest all k dst tmps h X (ba E a t x y (evF tmps x) (evF tmps y))
def oUn (a:UnOp) (_:TypeId) (x:Operand):OT:=fun E ih o rest all k dst tmps h X=>I2 E ih o rest all k dst tmps h X (unB a (evF tmps x))
def j0 (t:TypeId) (a:Operand):OT:=fun E ih o rest all k dst tmps h X=>I2 E ih o rest all k dst tmps h X (QA E t (evF tmps a) h)
def fh (t:TypeId) (x:Operand) (f:Nat):OT:=fun E ih o rest all k dst tmps h X=>I2 E ih o rest all k dst tmps h X (Mc E t (evF tmps x) f)
def Px (t:TypeId) (x:Operand) (f:Nat):OT:=fun E ih o rest all k dst tmps h X=>I2 E ih o rest all k dst tmps h X (ED E t (evF tmps x) f)
def O2 (t:TypeId) (x i:Operand):OT:=fun E ih o rest all k dst tmps h X=>I2 E ih o rest all k dst tmps h X (EU E t (evF tmps x) (evF tmps i))
def cP (t:TypeId) (x i:Operand):OT:=fun E ih o rest all k dst tmps h X=>I2 E ih o rest all k dst tmps h X (LZ E t (evF tmps x) (evF tmps i))
def da (t:TypeId) (a x:Operand):OT:=fun E ih o rest all k dst tmps h X=>S6 E ih o rest all k dst tmps h X (HO E t (evF tmps a) (evF tmps x) h)
def Kv (t:Operand) (i:Nat):OT:=fun E ih o rest all k dst tmps h X=>match evF tmps t with
 |.tuple a=>I2 E ih o rest all k dst tmps h X a[i]?
 |_=>C4 E ih o rest all k tmps h X
def OM (t:TypeId):OT:=fun E ih o rest all k dst tmps h X=>Option.casesOn (motive:=fun _=>R3) (E.zero t) (C4 E ih o rest all k tmps h X) (fun z=>St E ih rest all k dst tmps X (.ptr h.nx 0) (A6 h z.cells))
def Xz (t:TypeId) (a:Array (Nat×Operand)):OT:=fun E ih o rest all k dst tmps h X=>I2 E ih o rest all k dst tmps h X (LW E t (a.toList.map fun (i,x)=>(i,evF tmps x)))
def Ny (t:TypeId) (len:Nat) (a:Array (Nat×Operand)):OT:=fun E ih o rest all k dst tmps h X=>Oj E ih o rest all k dst tmps h X (D4 E t len (a.toList.map fun (i,x)=>(i,evF tmps x)) h)
def dP (x:Operand):OT:=fun E ih o rest all k dst tmps h X=>match evF tmps x with
 |.ptr b off=>onK E ih rest all k dst tmps X (.ptr b off) h
 |_=>C4 E ih o rest all k tmps h X
def XE (t:TypeId) (x:Operand):OT:=fun E ih o rest all k dst tmps h X=>match E.desc t with
  |some (.interface _)=>C4 E ih o rest all k tmps h X
  |some _=>onK E ih rest all k dst tmps X (.iface t (evF tmps x)) h
  |none=>C4 E ih o rest all k tmps h X
def bA (fn:Fn) (first captured:Array Operand):OT:=fun E ih o rest all k dst tmps h X=>match fn with
 |.yield _=>C4 E ih o rest all k tmps h X
 |fn=>onK E ih rest all k dst tmps X (.func fn (first.toList.map (evF tmps)) (captured.toList.map (evF tmps))) h
def NE (tmps:T AV):Option Operand→Option AV
 |some o=>some (evF tmps o)
 |none=>none
def O1 (t:TypeId) (x:Operand) (lo hi a:Option Operand):OT:=fun E ih o rest all k dst tmps h X=>match a,hi with
  |some _,none=>C4 E ih o rest all k tmps h X
  |_,_=>Oj E ih o rest all k dst tmps h X (sliceB E t (evF tmps x) (NE tmps lo) (NE tmps hi) (NE tmps a) h)
def Tq (c a b:Operand):OT:=fun E ih o rest all k dst tmps h X=>match evF tmps c with
 |.bool true=>onK E ih rest all k dst tmps X (evF tmps a) h
 |.bool false=>onK E ih rest all k dst tmps X (evF tmps b) h
 |_=>C4 E ih o rest all k tmps h X
def gH (s d:TypeId) (x:Operand):OT:=fun E ih o rest all k dst tmps h X=>Oj E ih o rest all k dst tmps h X (P3 E s d (evF tmps x) h)
def V7 (t:TypeId) (m i:Operand) (ok:Bool):OT:=fun E ih o rest all k dst tmps h X=>I2 E ih o rest all k dst tmps h X (Je E t (evF tmps m) (evF tmps i) ok h)
def Pc (E:Env) (ih:QSt→R3) (o:Oper) (rest:List Oper) (all:Array Oper) (k:List AI) (tmps:T AV) (X:CX) (g:FuncId) (args:List AV) (h:Aa):R3:=match Io E g args h with
  |some _=>C4 E ih o rest all k tmps h X
  |none=>match E.fn.get g with
   |some fn=>match fn.body with
    |some b=>Kl (max fn.ntmps args.length) fun nt=>ih (.c b [] (.ofList args) h ⟨g,nt,[],.normal,none,⟨X.fn,X.nt,tmps,.ops all (o::rest)::k,X.defers,.run,X.kind,X.round⟩::X.cs⟩)
    |none=>C4 E ih o rest all k tmps h X
   |none=>none
def SD (E:Env) (ih:QSt→R3) (o:Oper) (rest:List Oper) (all:Array Oper) (k:List AI) (dst:Option Tmp) (tmps:T AV) (h:Aa) (X:CX) (r:Res):R3:=match r with
 |.val v h'=>Bool.casesOn (motive:=fun _=>R3) (Nat.ble h.nx h'.nx) none (St E ih rest all k dst tmps X v h')
 |.enter g args h'=>Pc E ih o rest all k tmps X g args h'
 |_=>C4 E ih o rest all k tmps h X
def GL (tmps:T AV):List Operand→List AV
 |[]=>[]
 |x::r=>evF tmps x::GL tmps r
def X3 (f:Operand):Call→OT:=fun c E ih o rest all k dst tmps h X=>match evF tmps f with
  |.func fn first captured=>SD E ih o rest all k dst tmps h X (BB E fn captured (first++GL tmps c.args.toList) h)
  |_=>C4 E ih o rest all k tmps h X
def Anh (r:Operand) (name:String):Call→OT:=fun c E ih o rest all k dst tmps h X=>SD E ih o rest all k dst tmps h X (BB E (.method name) [] (evF tmps r::GL tmps c.args.toList) h)
def X6 (b:Builtin):Call→OT:=fun c E ih o rest all k dst tmps h X=>SD E ih o rest all k dst tmps h X (Ex E b c.argTypes.toList (GL tmps c.args.toList) h)
def Uz (c:Call):OT:=Callee.casesOn (motive:=fun _=>Call→OT) c.callee X3 Anh X6 c
def Lk {a:Type} (_:a):OT:=V0
def IS {a b:Type} (_:a) (_:b):OT:=V0
def Ut {a b c:Type} (_:a) (_:b) (_:c):OT:=V0
def QT {a b c d:Type} (_:a) (_:b) (_:c) (_:d):OT:=V0
def opF (a:Op):OT:=Op.casesOn (motive:=fun _=>OT) a
 WG WG Tq OM IS Xz Ny QT
 j0 da Lk Lk dP Aea oUn
 gH IS XE bA IS IS Ut O1
 Px fh O2 cP V7 QT Ut QT
 IS IS Lk QT Kv Uz Lk Lk Lk
 IS Ut IS
def Rp (E:Env) (tmps:T AV) (h:Aa):List ResultVar→Option (List AV)
 |[]=>some []
 |.tmp t::r=>match Rp E tmps h r with
  |some l=>some ((match T.get tmps t with|some v=>v|none=>.top)::l)
  |none=>none
 |.cell a t::r=>match T.get tmps a with
  |some p=>match LM E t p h,Rp E tmps h r with
   |some v,some l=>some (v::l)
   |_,_=>none
  |none=>none
def bF (l:List AV):AV:=match l with
 |[v]=>v
 |l=>.tuple l
abbrev KT:=Env→FuncId→(QSt→R3)→List AI→T AV→Aa→CX→R3
def JI (E:Env) (a:FuncId) (ih:QSt→R3) (c:Code) (k:List AI) (tmps:T AV) (h:Aa) (X:CX):R3:=ih (.g (X.as tmps (.code c::k) .run h))
def Wt (E:Env) (a:FuncId) (ih:QSt→R3) (X:CX) (v:AV) (h:Aa) (DU:Unit→R3):R3:=match X.kind,X.cs with
 |.normal,⟨fn,nt,tmps,todo,defers,.run,kind,round⟩::cs=>match todo with
  |.ops all (o::rest)::k=>onK E ih rest all k o.dst tmps ⟨fn,nt,defers,kind,round,cs⟩ v h
  |.inRange l::k=>ih (.k (.endRange l::k) tmps h ⟨fn,nt,defers,kind,round,cs⟩)
  |_=>DU ()
 |.normal,[]=>match Nat.beq X.fn a with
  |true=>some (true,v,h)
  |false=>none
 |_,_=>DU ()
def UO (E:Env) (a:FuncId) (ih:QSt→R3) (tmps:T AV) (h:Aa) (X:CX) (DU:Unit→R3):R3:=match X.round,X.defers with
 |none,[]=>match E.fn.get X.fn with
  |some fn=>match Rp E tmps h fn.results.toList with
   |some l=>Wt E a ih X (bF l) h DU
   |none=>none
  |none=>none
 |_,_=>DU ()
def Wo:KT:=fun E a ih k tmps h X=>ih (.k k tmps h X)
def Wa (id:Nat) (ops:Array Oper) (a:Bool):KT:=fun E b ih k tmps h X=>Bool.casesOn (motive:=fun _=>R3) a (ih (.o ops.toList ops k tmps h X)) (JI E b ih (.region id ops a) k tmps h X)
def zV (a b:Code):KT:=fun E d ih k tmps h X=>ih (.c a (.code b::k) tmps h X)
def SK (c:Operand) (x y:Code):KT:=fun E a ih k tmps h X=>match evF tmps c with
 |.bool b=>Bool.casesOn (motive:=fun _=>R3) b (ih (.c y k tmps h X)) (ih (.c x k tmps h X))
 |_=>JI E a ih (.cond c x y) k tmps h X
def bZ (id:Nat) (b:Code):KT:=fun E a ih k tmps h X=>ih (.c b (.inBlock id::k) tmps h X)
def pZ (b:Code):KT:=fun E a ih k tmps h X=>ih (.c b (.inLoop b::k) tmps h X)
def Zc (b:Code):KT:=fun E a ih k tmps h X=>ih (.c b (.inScope b::k) tmps h X)
def W9 (f:Operand) (c:Array Tmp) (a b:Code):KT:=fun E d ih k tmps h X=>JI E d ih (.rangeFunc f c a b) k tmps h X
def TY (id:Nat):KT:=fun E a ih k tmps h X=>Option.casesOn (motive:=fun _=>R3) (Ip id k) (JI E a ih (.exit id) k tmps h X) (fun b=>ih (.k b tmps h X))
def cR (_:Nat):KT:=Wo
def nM (l:Nat):KT:=fun E a ih k tmps h X=>JI E a ih (.goto l) k tmps h X
def Adk:KT:=fun E a ih k tmps h X=>UO E a ih tmps h X (fun _=>JI E a ih .ret k tmps h X)
def U0 (w:String):KT:=fun _ _ _ _ _ _ _=>none
def TQ (c:Code):KT:=Code.casesOn (motive:=fun _=>KT) c Wo Wa zV SK bZ pZ W9 TY Zc cR nM Adk U0
def kF (E:Env) (a:FuncId) (ih:QSt→R3) (k:List AI) (tmps:T AV) (h:Aa) (X:CX):R3:=match k with
 |[]=>UO E a ih tmps h X (fun _=>ih (.g (X.as tmps [] .run h)))
 |.code c::k=>TQ c E a ih k tmps h X
 |.inBlock _::k=>ih (.k k tmps h X)
 |.inScope _::k=>ih (.k k tmps h X)
 |.inLoop b::k=>ih (.c b (.inLoop b::k) tmps h X)
 |.ops all l::k=>ih (.o l all k tmps h X)
 |k=>ih (.g (X.as tmps k .run h))
def cY (E:Env) (ih:QSt→R3) (l:List Oper) (all:Array Oper) (k:List AI) (tmps:T AV) (h:Aa) (X:CX):R3:=match l with
  |[]=>ih (.k k tmps h X)
  |o::rest=>match o.guard with
    |none=>opF o.op E ih o rest all k o.dst tmps h X
    |some _=>match A3 all o tmps with
       |some true=>opF o.op E ih o rest all k o.dst tmps h X
       |some false=>onK E ih rest all k o.dst tmps X AV.undef h
       |none=>none
def Nj (E:Env) (run:FuncId→Bool→QSt→R3) (a:Ask) (h:Aa):R3:=match a with
 |.enter g args=>match Io E g args h with
  |some r=>some r
  |none=>match BQ E g args .normal with
   |some fr=>Hq (run fr.fn true) {fr,cs:=[],h}
   |none=>none
 |.round l args=>match Fo l args h with
  |some fr=>Hq (run fr.fn true) {fr,cs:=[],h}
  |none=>none
def goF (E:Env) (n:Nat):FuncId→Bool→QSt→R3:=Nat.rec (motive:=fun _=>FuncId→Bool→QSt→R3) (fun _ _ _=>none) (fun f ih a b s=>
  QSt.casesOn (motive:=fun _=>R3) s
   (fun l all k tmps h X=>cY E (ih a b) l all k tmps h X)
   (fun c k tmps h X=>TQ c E a (ih a b) k tmps h X)
   (fun k tmps h X=>kF E a (ih a b) k tmps h X)
   (fun s=>gen E a b (ih a b) (Nj E ih) s)) n
def Wy (E:Env) (n:Nat) (f:FuncId) (args:List AV) (h:Aa):R3:=
 match BQ E f args .normal with
 |some fr=>Hq (goF E n f false) {fr,cs:=[],h}
 |none=>none
def Ac (E:Env) (N:Nat) (e:Orc):Bool:=
 match Wy E N e.f e.args {blk:=e.part,nx:=e.nx,log:=[]} with
 |some (ok,v,g)=>(ok==e.ok)&&Bi v e.v&&NR e.out g.blk&&Nat.beq g.nx e.nx'&&TI e.nx e.wr g.log
 |none=>false
end
def QSt.as:QSt→AS
 |.o l all i tmps h X=>X.as tmps (.ops all l::i) .run h
 |.c j i tmps h X=>X.as tmps (.code j::i) .run h
 |.k i tmps h X=>X.as tmps i .run h
 |.g s=>s
section
variable [U:Facts]
inductive BT (E:Env):AS→AS→Prop
 |refl (s:AS):BT E s s
 |head {s s1 s2:AS} (h:AU E s=.next s1) (hn:s.h.nx≤s1.h.nx) (k:BT E s1 s2):BT E s s2
theorem BT.one {E:Env} {s i:AS} (h:AU E s=.next i) (j:s.h.nx≤i.h.nx):BT E s i:=.head h j (.refl i)
def Via (E:Env) (b:FuncId) (ih:QSt→R3) (s:AS) (r:R3):Prop:=∀x,r=some x→(∃st,BT E s st.as∧ih st=some x)∨(∃a,BT E s a∧AU E a=.done true x.2.1 x.2.2∧x.1=true∧a.fr.fn=b∧a.fr.round=none∧a.h.nx≤x.2.2.nx)
theorem Via.none {E:Env} {i:FuncId} {ih:QSt→R3} {s:AS}:Via E i ih s none:=fun x h=>by cases h
theorem Via.ih {E:Env} {i:FuncId} {ih:QSt→R3} {s:AS} (st:QSt) (h:BT E s st.as):Via E i ih s (ih st):=fun x j=>.inl ⟨st,h,j⟩
theorem ML (t:T AV) (x:Operand):evF t x=Ah t x:=by
 cases x with
 |tmp i=>simp only [evF,vj,Ah];cases t.get i<;>rfl
 |const v=>rfl
 |global g=>rfl
 |func g=>rfl
theorem He (t:T AV):∀l:List Operand,GL t l=l.map (Ah t)
 |[]=>rfl
 |x::r=>by simp [GL,He t r,ML]
theorem A0 (t:T AV):evF t=Ah t:=funext (ML t)
theorem NJ (h:Aa) (l:List AV):h.nx≤(A6 h l).nx:=by simp [A6,Aa.new]
theorem PA {E:Env} {t:TypeId} {x v:AV} {h h':Aa} (a:HO E t x v h=some h'):Ho E t x v h=some h':=by
 cases x<;>first | (cases a;done)|skip
 exact a
theorem KQ {n:String} {args a:List AV} {h h':Aa} {g:FuncId} (e:GU n args h=.enter g a h'):False:=by
 unfold GU at e
 repeat' (first | (cases e;done)|split at e)
theorem IQ {E:Env} {f g:FuncId} {args a:List AV} {h h':Aa} (e:Hg E f args h=.enter g a h'):h'=h:=by
 unfold Hg at e
 repeat' (first | (cases e;done)|split at e)
 all_goals first | (cases e;rfl)|exact (KQ e).elim
theorem L9 {E:Env} {tmps:T AV} {c:Call} {h h':Aa} {g:FuncId} {a:List AV} (e:CP E tmps c h=.enter g a h'):h'=h:=by
 unfold CP at e;simp only at e;split at e
 ·unfold Ex Bx CB DD at e
  repeat' (first | (cases e;done)|split at e)
 ·unfold BB at e
  repeat' (first | (cases e;done)|exact IQ e|split at e)
 ·split at e
  ·unfold BB at e
   repeat' (first | (cases e;done)|exact IQ e|split at e)
  ·cases e
theorem Nv {E:Env} {o:Oper} {rest:List Oper} {all:Array Oper} {k:List AI} {tmps a:T AV} {h h':Aa} {X:CX} {v:AV} (b:A3 all o tmps=some true) (c:aop E tmps h o.op=.val v h') (d:DE X.nt tmps o.dst v=some a) :
  AU E (X.as tmps (.ops all (o::rest)::k) .run h)=.next (X.as a (.ops all rest::k) .run h'):=by
 simp only [AU,CX.as,b,c,Bk,AT,d]
theorem Cd {E:Env} {i:FuncId} {ih:QSt→R3} {o:Oper} {rest:List Oper} {all:Array Oper} {k:List AI} {tmps:T AV} {h h':Aa} {X:CX} {v:AV} (c:A3 all o tmps=some true) (e:aop E tmps h o.op=.val v h') (f:h.nx≤h'.nx) :
  Via E i ih (X.as tmps (.ops all (o::rest)::k) .run h) (onK E ih rest all k o.dst tmps X v h'):=by
 unfold onK;cases g:o.dst with
 |none=>
  have a:DE X.nt tmps o.dst v=some tmps:=by rw [g];rfl
  exact Via.ih (.o rest all k tmps h' X) (.one (Nv c e a) f)
 |some d=>
  cases b:Nat.blt d X.nt with
  |false=>simp only;rw [b];exact Via.none
  |true=>
   have a:DE X.nt tmps o.dst v=some (tmps.set d v):=by rw [g];simp only [DE,b]
   simp only;rw [b];exact Via.ih (.o rest all k (tmps.set d v) h' X) (.one (Nv c e a) f)
theorem AX {E:Env} {a:FuncId} {ih:QSt→R3} {o:Oper} {rest:List Oper} {all:Array Oper} {k:List AI} {tmps:T AV} {h:Aa} {X:CX} :
  Via E a ih (X.as tmps (.ops all (o::rest)::k) .run h) (C4 E ih o rest all k tmps h X):=Via.ih (.g _) (BT.refl (X.as tmps (.ops all (o::rest)::k) .run h))
section
variable {E:Env} {f0:FuncId} {ih:QSt→R3} {o:Oper} {rest:List Oper} {all:Array Oper} {k:List AI} {tmps:T AV} {h:Aa} {X:CX} (hw:A3 all o tmps=some true)
include hw
theorem B7 {r:Option AV} (a:∀v,r=some v→aop E tmps h o.op=.val v h):Via E f0 ih (X.as tmps (.ops all (o::rest)::k) .run h) (I2 E ih o rest all k o.dst tmps h X r):=by
 unfold I2;cases r with
 |none=>exact AX
 |some v=>exact Cd hw (a v rfl) (Nat.le_refl _)
theorem H5 {r:Option (AV×Aa)} (a:∀v h',r=some (v,h')→aop E tmps h o.op=.val v h'):Via E f0 ih (X.as tmps (.ops all (o::rest)::k) .run h) (Oj E ih o rest all k o.dst tmps h X r):=by
 unfold Oj;simp only [I8];cases r with
 |none=>exact AX
 |some p=>
  obtain ⟨v,h'⟩:=p;simp only;cases b:Nat.ble h.nx h'.nx with
  |false=>exact Via.none
  |true=>exact Cd hw (a v h' rfl) (Nat.le_of_ble_eq_true b)
theorem RB {r:Option Aa} (a:∀h',r=some h'→aop E tmps h o.op=.val .undef h'):Via E f0 ih (X.as tmps (.ops all (o::rest)::k) .run h) (S6 E ih o rest all k o.dst tmps h X r):=by
 unfold S6;simp only [I8];cases r with
 |none=>exact AX
 |some h'=>
  simp only;cases b:Nat.ble h.nx h'.nx with
  |false=>exact Via.none
  |true=>exact Cd hw (a h' rfl) (Nat.le_of_ble_eq_true b)
theorem PI {g:FuncId} {args:List AV} (d:aop E tmps h o.op=.enter g args h):Via E f0 ih (X.as tmps (.ops all (o::rest)::k) .run h) (Pc E ih o rest all k tmps X g args h):=by
 unfold Pc;split
 ·exact AX
 ·split
  ·rename_i fn a;split
   ·rename_i b e;rw [H1];refine Via.ih (.c b [] (.ofList args) h _) (.one ?_ (Nat.le_refl _));simp only [AU,CX.as,hw,d,Bk,BQ,a,e,QSt.as]
   ·exact AX
  ·exact Via.none
theorem JC {r:Res} (a:aop E tmps h o.op=r) (b:∀g args h',r=.enter g args h'→h'=h):Via E f0 ih (X.as tmps (.ops all (o::rest)::k) .run h) (SD E ih o rest all k o.dst tmps h X r):=by
 unfold SD;simp only [I8];cases r with
 |val v h'=>
  simp only;cases c:Nat.ble h.nx h'.nx with
  |false=>exact Via.none
  |true=>exact Cd hw a (Nat.le_of_ble_eq_true c)
 |enter g args h'=>
  have:=b g args h' rfl;subst this;exact PI hw a
 |_=>exact AX
end
section
variable {E:Env} {f0:FuncId} {ih:QSt→R3} {o:Oper} {rest:List Oper} {all:Array Oper} {k:List AI} {tmps:T AV} {h:Aa} {X:CX} (hw:A3 all o tmps=some true)
include hw
theorem QH:Via E f0 ih (X.as tmps (.ops all (o::rest)::k) .run h) (opF o.op E ih o rest all k o.dst tmps h X):=by
 have le:=Nat.le_refl h.nx;generalize j:o.op=w;cases w with
 |move x=>exact Cd (v:=evF tmps x) hw (by rw [j,A0];rfl) le
 |assign x=>exact Cd (v:=evF tmps x) hw (by rw [j,A0];rfl) le
 |pick c a b=>
  show Via E f0 ih _ (Tq c a b E ih o rest all k o.dst tmps h X);unfold Tq;rw [A0];split
  ·rename_i n;exact Cd hw (by rw [j];simp only [aop,n]) le
  ·rename_i n;exact Cd hw (by rw [j];simp only [aop,n]) le
  ·exact AX
 |alloc t=>
  show Via E f0 ih _ (OM t E ih o rest all k o.dst tmps h X);unfold OM;simp only [I8];cases B:E.zero t with
  |none=>exact AX
  |some z=>exact Cd hw (by rw [j];simp only [aop,B]) (NJ h z.cells)
 |load t a=>exact B7 hw (fun v l=>by rw [j];rw [A0] at l;simp only [aop,l,Bx])
 |store t a x=>exact RB hw (fun h' l=>by rw [j];rw [A0] at l;simp only [aop,PA l,DD])
 |build t C=>exact B7 hw (fun v l=>by rw [j];rw [A0] at l;simp only [aop,l,Bx])
 |buildSlice t len C=>exact H5 hw (fun v h' l=>by rw [j];rw [A0] at l;simp only [aop,l,CB])
 |nilCheck x=>
  show Via E f0 ih _ (dP x E ih o rest all k o.dst tmps h X);unfold dP;rw [A0];split
  ·rename_i n;exact Cd hw (by rw [j];simp only [aop,n]) le
  ·exact AX
 |binOp w t x y u=>exact B7 hw (fun v l=>by rw [j];rw [A0] at l;simp only [aop,l,Bx])
 |unOp w t x=>exact B7 hw (fun v l=>by rw [j];rw [A0] at l;simp only [aop,l,Bx])
 |convert s d x=>exact H5 hw (fun v h' l=>by rw [j];rw [A0] at l;simp only [aop,l,CB])
 |makeInterface t x=>
  show Via E f0 ih _ (XE t x E ih o rest all k o.dst tmps h X);unfold XE;rw [A0];split
  ·exact AX
  ·rename_i d D F;exact Cd hw (by rw [j];simp only [aop,F]) le
  ·exact AX
 |makeFunc fn first captured=>
  show Via E f0 ih _ (bA fn first captured E ih o rest all k o.dst tmps h X);unfold bA;rw [A0];split
  ·exact AX
  ·exact Cd hw (by rw [j];simp only [aop]) le
 |slice t x lo hi G=>
  show Via E f0 ih _ (O1 t x lo hi G E ih o rest all k o.dst tmps h X);have p:NE tmps=AW tmps:=by funext q;cases q<;>simp [NE,AW,ML]
  unfold O1;rw [A0,p];split
  ·exact AX
  ·exact H5 hw (fun v h' l=>by rw [j];simp only [aop,l,CB])
 |fieldAddr t x f=>exact B7 hw (fun v l=>by rw [j];rw [A0] at l;simp only [aop,l,Bx])
 |field t x f=>exact B7 hw (fun v l=>by rw [j];rw [A0] at l;simp only [aop,l,Bx])
 |indexAddr t x i=>exact B7 hw (fun v l=>by rw [j];rw [A0] at l;simp only [aop,l,Bx])
 |index t x i=>exact B7 hw (fun v l=>by rw [j];rw [A0] at l;simp only [aop,l,Bx])
 |lookup t m i ok=>exact B7 hw (fun v l=>by rw [j];rw [A0] at l;simp only [aop,l,Bx])
 |extract t i=>
  show Via E f0 ih _ (Kv t i E ih o rest all k o.dst tmps h X);unfold Kv;rw [A0];split
  ·rename_i I n;exact B7 hw (fun v l=>by rw [j];simp only [aop,n,l,Bx])
  ·exact AX
 |call c=>
  have A:∀r,CP E tmps c h=r→aop E tmps h o.op=r:=fun r e=>by rw [j];exact e
  have p:∀r,CP E tmps c h=r→∀g args h',r=.enter g args h'→h'=h:=fun r e g args h' q=>L9 (e.trans q)
  show Via E f0 ih _ (Uz c E ih o rest all k o.dst tmps h X);unfold Uz;cases n:c.callee with
  |value f=>
   show Via E f0 ih _ (X3 f c E ih o rest all k o.dst tmps h X);unfold X3;rw [A0];split
   ·rename_i fn first captured H;have e:CP E tmps c h=BB E fn captured (first++GL tmps c.args.toList) h:=by simp only [CP,n,H,He]
    exact JC hw (A _ e) (p _ e)
   ·exact AX
  |invoke r name=>
   have e:CP E tmps c h=BB E (.method name) [] (evF tmps r::GL tmps c.args.toList) h:=by simp only [CP,n,He,ML]
   exact JC hw (A _ e) (p _ e)
  |builtin b=>
   have e:CP E tmps c h=Ex E b c.argTypes.toList (GL tmps c.args.toList) h:=by simp only [CP,n,He]
   exact JC hw (A _ e) (p _ e)
 |_=>exact AX
end
theorem NV {E:Env} {e:FuncId} {ih:QSt→R3} {s:AS} {dst:Option Tmp} {rest:List Oper} {all:Array Oper} {k:List AI} {tmps:T AV} {h:Aa} {X:CX} {v:AV} (b:∀c,DE X.nt tmps dst v=some c→BT E s (X.as c (.ops all rest::k) .run h)) :
  Via E e ih s (onK E ih rest all k dst tmps X v h):=by
 unfold onK;cases dst with
 |none=>exact Via.ih (.o rest all k tmps h X) (b tmps rfl)
 |some d=>
  cases a:Nat.blt d X.nt with
  |false=>simp only;rw [a];exact Via.none
  |true=>
   simp only;rw [a];exact Via.ih (.o rest all k (tmps.set d v) h X) (b _ (by simp only [DE,a]))
theorem Sb {E:Env} {b:FuncId} {ih:QSt→R3} {l:List Oper} {all:Array Oper} {k:List AI} {tmps:T AV} {h:Aa} {X:CX}:Via E b ih (X.as tmps (.ops all l::k) .run h) (cY E ih l all k tmps h X):=by
 unfold cY;split
 ·exact Via.ih (.k k tmps h X) (.one (by simp only [AU,CX.as,QSt.as]) (Nat.le_refl _))
 ·rename_i o rest;split
  ·rename_i c;exact QH (by unfold A3;rw [c])
  ·split
   ·rename_i a;exact QH a
   ·rename_i a;refine NV fun e d=>.one ?_ (Nat.le_refl _)
    simp only [AU,CX.as,a,Bk,AT,d]
   ·exact Via.none
theorem Ml {E:Env} {tmps:T AV} {h:Aa} (fr:AF) (b:fr.tmps=tmps):∀l:List ResultVar,Rp E tmps h l=Br E fr h l
 |[]=>rfl
 |.tmp t::r=>by simp only [Rp,Br,Ml fr b r,b];rfl
 |.cell a t::r=>by simp only [Rp,Br,Ml fr b r,b];rfl
theorem N5 {E:Env} {m:FuncId} {ih:QSt→R3} {c:List AI} {tmps:T AV} {h:Aa} {X:CX} {DU:Unit→R3} (z:X.round=none→AU E (X.as tmps c .run h)=.next (X.as tmps c .ret h)) (d:Via E m ih (X.as tmps c .run h) (DU ())) :
  Via E m ih (X.as tmps c .run h) (UO E m ih tmps h X DU):=by
 unfold UO;split
 ·rename_i hr A;have n:=z hr;split
  ·rename_i fn p;split
   ·rename_i l q;have q:Br E (X.as tmps c .ret h).fr h fn.results.toList=some l:=(Ml (X.as tmps c .ret h).fr rfl _).symm.trans q
    have g:AU E (X.as tmps c .ret h)=Ca (X.as tmps c .ret h).fr X.cs (bF l) h:=by
     have e:AU E (X.as tmps c .ret h)=Dn E (X.as tmps c .ret h).fr X.cs h:=rfl;rw [e];unfold Dn;have s:(X.as tmps c .ret h).fr.defers=[]:=A;have t:(X.as tmps c .ret h).fr.mode=.ret:=rfl;have u:E.fn.get (X.as tmps c .ret h).fr.fn=some fn:=p;rw [s,t,u];simp only [q]
     match l with
     |[]=>rfl
     |[v]=>rfl
     |a::b::r=>rfl
    unfold Wt;split
    ·rename_i f nt tm todo B kd C cs w i;have j:(X.as tmps c .ret h).fr.kind=.normal:=w;rw [i] at g;simp only [Ca,j] at g;split
     ·rename_i all o rest k;refine NV fun D y=>.head n (Nat.le_refl _) (.one ?_ (Nat.le_refl _))
      rw [g];have y:DE nt tm o.dst (bF l)=some D:=y;simp only [AT,y];rfl
     ·rename_i F k;refine Via.ih (.k (.endRange F::k) tm h ⟨f,nt,B,kd,C,cs⟩) (.head n (Nat.le_refl _) (.one ?_ (Nat.le_refl _)));rw [g];rfl
     ·exact d
    ·rename_i w i;have j:(X.as tmps c .ret h).fr.kind=.normal:=w;rw [i] at g;simp only [Ca,j] at g;split
     ·rename_i G;intro x H;cases H;exact .inr ⟨X.as tmps c .ret h,.one n (Nat.le_refl _),g,rfl,AM G,hr,Nat.le_refl _⟩
     ·exact Via.none
    ·exact d
   ·exact Via.none
  ·exact Via.none
 ·exact d
theorem Dq {E:Env} {a:FuncId} {ih:QSt→R3} {c:Code} {k:List AI} {tmps:T AV} {h:Aa} {X:CX}:Via E a ih (X.as tmps (.code c::k) .run h) (JI E a ih c k tmps h X):=Via.ih (.g _) (BT.refl (X.as tmps (.code c::k) .run h))
theorem K7 {E:Env} {d:FuncId} {ih:QSt→R3} {c:Code} {k:List AI} {tmps:T AV} {h:Aa} {X:CX}:Via E d ih (X.as tmps (.code c::k) .run h) (TQ c E d ih k tmps h X):=by
 have le:=Nat.le_refl h.nx;cases c with
 |skip=>exact Via.ih (.k k tmps h X) (.one (by simp only [AU,CX.as,QSt.as]) le)
 |label l=>exact Via.ih (.k k tmps h X) (.one (by simp only [AU,CX.as,QSt.as]) le)
 |region id ops e=>
  cases e with
  |false=>exact Via.ih (.o ops.toList ops k tmps h X) (.one (by simp only [AU,CX.as,QSt.as]) le)
  |true=>exact Dq
 |seq a b=>exact Via.ih (.c a (.code b::k) tmps h X) (.one (by simp only [AU,CX.as,QSt.as]) le)
 |cond c x y=>
  show Via E d ih _ (SK c x y E d ih k tmps h X);unfold SK;rw [A0];split
  ·rename_i b g;cases b with
   |true=>exact Via.ih (.c x k tmps h X) (.one (by simp only [AU,CX.as,QSt.as,g]) le)
   |false=>exact Via.ih (.c y k tmps h X) (.one (by simp only [AU,CX.as,QSt.as,g]) le)
  ·exact Dq
 |block id b=>exact Via.ih (.c b (.inBlock id::k) tmps h X) (.one (by simp only [AU,CX.as,QSt.as]) le)
 |loop b=>exact Via.ih (.c b (.inLoop b::k) tmps h X) (.one (by simp only [AU,CX.as,QSt.as]) le)
 |scope b=>exact Via.ih (.c b (.inScope b::k) tmps h X) (.one (by simp only [AU,CX.as,QSt.as]) le)
 |rangeFunc f m a b=>exact Dq
 |exit id=>
  show Via E d ih _ (TY id E d ih k tmps h X);unfold TY;cases i:Ip id k with
  |none=>exact Dq
  |some j=>exact Via.ih (.k j tmps h X) (.one (by simp only [AU,CX.as,QSt.as,i]) le)
 |goto l=>exact Dq
 |ret=>exact N5 (fun hr=>by simp only [AU,CX.as,C7,hr]) Dq
 |refuse w=>exact Via.none
theorem eC {E:Env} {a:FuncId} {ih:QSt→R3} {k:List AI} {tmps:T AV} {h:Aa} {X:CX}:Via E a ih (X.as tmps k .run h) (kF E a ih k tmps h X):=by
 have le:=Nat.le_refl h.nx;unfold kF;split
 ·exact N5 (fun hr=>by simp only [AU,CX.as,C7,hr]) (Via.ih (.g _) (BT.refl (X.as tmps [] .run h)))
 ·exact K7
 ·rename_i id k;exact Via.ih (.k k tmps h X) (.one (by simp only [AU,CX.as,QSt.as]) le)
 ·rename_i id k;exact Via.ih (.k k tmps h X) (.one (by simp only [AU,CX.as,QSt.as]) le)
 ·rename_i b k;exact Via.ih (.c b (.inLoop b::k) tmps h X) (.one (by simp only [AU,CX.as,QSt.as]) le)
 ·rename_i all l k;exact Via.ih (.o l all k tmps h X) (.refl (X.as tmps (.ops all l::k) .run h))
 ·exact Via.ih (.g _) (BT.refl (X.as tmps k .run h))
theorem BT.mono {E:Env} {s i:AS} (h:BT E s i):s.h.nx≤i.h.nx:=by
 induction h with
 |refl s=>exact Nat.le_refl _
 |head h j k ih=>exact Nat.le_trans j ih
theorem HI (ih:QSt→R3) (s:AS):∃st:QSt,st.as=s∧Hq ih s=ih st:=by
 obtain ⟨⟨fn,nt,tmps,todo,defers,mode,kind,round⟩,cs,h⟩:=s;cases mode with
 |run=>exact ⟨.k todo tmps h ⟨fn,nt,defers,kind,round,cs⟩,rfl,by simp only [Hq,H1,Lx]⟩
 |ret=>exact ⟨.g ⟨⟨fn,nt,tmps,todo,defers,.ret,kind,round⟩,cs,h⟩,rfl,rfl⟩
 |panic a=>exact ⟨.g ⟨⟨fn,nt,tmps,todo,defers,.panic a,kind,round⟩,cs,h⟩,rfl,rfl⟩
theorem QN {E:Env} (n:Nat) (a:FuncId) (b:Bool) (st:QSt) (e:∀s,st≠.g s):Via E a (goF E n a b) st.as (goF E (n+1) a b st):=by
 cases st with
 |o l all d tmps h X=>exact Sb
 |c f d tmps h X=>exact K7
 |k d tmps h X=>exact eC
 |g s=>exact absurd rfl (e s)
theorem Qo {E:Env} (n:Nat) (a:FuncId) (b:Bool) (s:AS):goF E (n+1) a b (.g s)=gen E a b (goF E n a b) (Nj E (goF E n)) s:=rfl
end
section
variable [U:Unk]
theorem GO {E:Env}:∀(n:Nat) (b:FuncId) (c:Bool) (st:QSt) (x:Bool×AV×Aa),goF E n b c st=some x→st.as.h.nx≤x.2.2.nx
 |0,b,c,st,x,h=>by cases h
 |n+1,b,c,st,x,h=>by
  have a:∀s,Hq (goF E n b c) s=some x→s.h.nx≤x.2.2.nx:=by
   intro s m;obtain ⟨d,p,q⟩:=HI (goF E n b c) s;rw [q] at m;rw [←p];exact GO n b c d x m
  by_cases o:∃s,st=.g s
  ·obtain ⟨s,rfl⟩:=o;rw [Qo] at h;unfold gen at h;show s.h.nx≤_;split at h
   ·split at h
    ·rename_i f;exact Nat.le_trans (Nat.le_of_ble_eq_true f) (a _ h)
    ·cases h
   ·split at h
    ·split at h
     ·rename_i f;exact Nat.le_trans (Nat.le_of_ble_eq_true f) (a _ h)
     ·cases h
    ·split at h
     ·rename_i f;cases h;exact Nat.le_of_ble_eq_true (Ao (Ao f).1).1
     ·cases h
    ·rename_i u ops k i;obtain ⟨rfl,_,_⟩:=Cf i;split at h
     ·rename_i j;exact Nat.le_trans (B0 _ _ _ _ _ _ _ (GJ j)) (a _ h)
     ·rename_i j;exact Nat.le_trans (B0 _ _ _ _ _ _ _ (GJ j)) (a _ h)
     ·cases h
    ·split at h
     ·split at h
      ·rename_i f;exact Nat.le_trans (Nat.le_of_ble_eq_true f) (a _ h)
      ·cases h
     ·cases h
  ·rcases QN n b c st (fun s e=>o ⟨s,e⟩) x h with ⟨d,l,r⟩|⟨v,l,_,_,_,_,t⟩
   ·exact Nat.le_trans l.mono (GO n b c d x r)
   ·exact Nat.le_trans l.mono t
section
variable {E:Env} (hE:OK E) (hO:Ad E U.V.fn)
include hE
theorem BT.ok {s C:AS} (k:BT E s C) {ρ:Ren} {c:Frame} {j:List Frame} {w:World} (r:SR ρ s c j w) (i:AA ρ s.h.nx C.h.nx) (base:List Frame) :
  ∃I c' l J,Steps E.P (lone c (j++base) w) (lone c' (l++base) J)∧SR I C c' l J∧Ext ρ I s.h C.h w J:=by
 induction k generalizing ρ c j w with
 |refl s=>exact ⟨ρ,c,j,w,Steps.refl _ _,r,Ext.refl _ _ _⟩
 |head h hn k ih=>
  have hm:=k.mono;obtain ⟨I,c1,ab,w1,q1,q2,q3⟩:=Fh (base:=base) hE r h (fun b h1 h2=>i b h1 (by omega))
  obtain ⟨τ,c2,t,w2,r1,r2,r3⟩:=ih q2 (q3.free i);exact ⟨τ,c2,t,w2,Steps.trans (Steps.one q1) r1,r2,q3.trans r3 i⟩
include hO
theorem eG:∀(n:Nat) (H:FuncId) (G:Bool) (st:QSt) (p:Ren) (c:Frame) (t:List Frame) (w:World) (ok:Bool) (v:AV) (h:Aa),SR p st.as c t w→WF st.as.h→goF E n H G st=some (ok,v,h)→AA p st.as.h.nx h.nx→
  ∀base:List Frame,∃i z F w1 j,Steps E.P (lone c (t++base) w) (lone z base w1)∧z.fn=H∧(G=false→z.roundOf=none)∧IY E.P z w1 ok F j∧VR i v F∧HR i h.blk.get j∧Ext p i st.as.h h w j:=by
 intro n
 induction n with
 |zero=>intro H G st p c t w ok v h o hwf f;cases f
 |succ n ih=>
  intro H G st p c t w ok v h o hwf f a base
  have X:∀(s B:AS) (i:Ren) (C:Frame) (d:List Frame) (w1:World),s=st.as→Steps E.P (lone c (t++base) w) (lone C (d++base) w1)→SR i B C d w1→Ext p i s.h B.h w w1→Hq (goF E n H G) B=some (ok,v,h)→
    ∃i z F w1 j,Steps E.P (lone c (t++base) w) (lone z base w1)∧z.fn=H∧(G=false→z.roundOf=none)∧IY E.P z w1 ok F j∧VR i v F∧HR i h.blk.get j∧Ext p i s.h h w j:=by
   intro s B i C d w1 es J T h3 h4;subst es;obtain ⟨D,O,Y⟩:=HI (goF E n H G) B;subst O;rw [Y] at h4;obtain ⟨τ,z,F,w2,j,u,y,A,N,R,Q,q7⟩:=ih H G D i C d w1 ok v h T (h3.wf hwf) h4 (h3.free a) base;exact ⟨τ,z,F,w2,j,Steps.trans J u,y,A,N,R,Q,h3.trans q7 a⟩
  have lt:∀B,Hq (goF E n H G) B=some (ok,v,h)→B.h.nx≤h.nx:=by
   intro B W;obtain ⟨D,O,Y⟩:=HI (goF E n H G) B;rw [Y] at W;rw [←O];exact GO n H G D _ W
  have hC:∀(fr:AF) (g M:Aa) (ok:Bool) (v:AV) (p:Ren) (z:Frame) (w:World),FrR p fr z→HR p g.blk.get w→WF g→Hq (goF E n fr.fn true) {fr,cs:=[],h:=g}=some (ok,v,M)→AA p g.nx M.nx→
    ∀(c0:Frame) (base:List Frame),∃i F j,BM E.P (lone z (c0::base) w) c0 base ok F j∧VR i v F∧HR i M.blk.get j∧Ext p i g M w j:=by
   intro fr g M ok v p z w L hr hwf f a c0 base;obtain ⟨D,O,Y⟩:=HI (goF E n fr.fn true) {fr,cs:=[],h:=g};rw [Y] at f;obtain ⟨i,K,F,w1,j,u,y,A,N,R,Q,q7⟩:=ih fr.fn true D p z [] w ok v M (by rw [O];exact ⟨L,.nil,hr⟩) (by rw [O];exact hwf) f (by rw [O];exact a) (c0::base)
   rw [O] at q7;refine ⟨i,F,j,?_,R,Q,q7⟩;have:=Steps.trans u (Steps.one (N.back c0 base));cases ok<;>exact this
  have hF:Dx E (Nj E (goF E n)):=by
   refine ⟨?_,?_⟩
   ·intro f' args aa g M ok v p w ha hr hwf f a;simp only [Nj] at f;split at f
    ·rename_i r S;cases f;exact DC hE hO S ha hr hwf a
    ·split at f
     ·rename_i fr L;exact hC fr g M ok v p _ w (Cq hE L ha) hr hwf f a
     ·cases f
   ·intro l args g M ok v p w hr hwf f a;simp only [Nj] at f;split at f
    ·rename_i fr L;exact ⟨fr,L,fun z ab=>hC fr g M ok v p z w ab hr hwf f a⟩
    ·cases f
  have done:∀(s:AS) (i:Ren) (C:Frame) (d:List Frame) (w1:World) (ok:Bool) (v:AV) (h:Aa),AU E s=.done ok v h→SR i s C d w1→s.fr.fn=H→(G=true∨s.fr.round=none)→
    d=[]∧∃F j,C.fn=H∧(G=false→C.roundOf=none)∧IY E.P C w1 ok F j∧VR i v F∧HR i h.blk.get j∧Ext i i s.h h w1 j:=by
   intro s i C d w1 ok v h I W ac ad;obtain ⟨e,x,j,u,y,A,N⟩:=GD hE W I;refine ⟨e,x,j,W.fr.fn.trans ac,fun ae=>?_,N,u,y,A⟩
   rcases ad with q|q
   ·rw [ae] at q;cases q
   ·have:=W.fr.round;rw [q] at this;exact this.none_inv
  by_cases hg:∃s,st=.g s
  ·obtain ⟨s,rfl⟩:=hg;rw [Qo] at f;unfold gen at f;have o:SR p s c t w:=o;have hwf:WF s.h:=hwf;have a:AA p s.h.nx h.nx:=a;split at f
   ·rename_i B Z;split at f
    ·have m:=lt B f;obtain ⟨i,K,d,j,u,y,A⟩:=Jm hE hO o hwf Z (fun b J T=>a b J (by omega)) base
     exact X s B i K d j rfl u y A f
    ·cases f
   ·split at f
    ·rename_i B I;split at f
     ·have m:=lt B f;obtain ⟨i,K,d,j,u,y,A⟩:=Fh (base:=base) hE o I (fun b J T=>a b J (by omega))
      exact X s B i K d j rfl (Steps.one u) y A f
     ·cases f
    ·rename_i af F h' I;split at f
     ·rename_i hb;simp only [Option.some.injEq,Prod.mk.injEq] at f;obtain ⟨rfl,rfl,rfl⟩:=f;obtain ⟨b1,b2⟩:=Ao hb
      obtain ⟨rfl,x,j,u,y,A,N,R,Q⟩:=done s p c t w _ _ _ I o (As (Ao b1).2) (by
       cases G with
       |true=>exact .inl rfl
       |false=>simp only [Bool.false_or,Option.isNone_iff_eq_none] at b2;exact .inr b2)
      exact ⟨p,c,x,w,j,Steps.refl _ _,u,y,A,N,R,Q⟩
     ·cases f
    ·rename_i s2 ops k I;obtain ⟨rfl,hm,id,ht⟩:=Cf I;split at f
     ·rename_i tmps J hd;have m:=lt _ f;obtain ⟨i,C,j,u,y,A⟩:=EO hE hF o hwf hm ht (GJ hd) (fun b a1 a2=>a b a1 (Nat.lt_of_lt_of_le a2 m)) base
      exact X _ _ i C t j rfl u y A f
     ·rename_i v1 tmps J hd;have m:=lt _ f;obtain ⟨i,C,j,u,y,A⟩:=EO hE hF o hwf hm ht (GJ hd) (fun b a1 a2=>a b a1 (Nat.lt_of_lt_of_le a2 m)) base
      exact X _ _ i C t j rfl u y A f
     ·cases f
    ·split at f
     ·rename_i B hl;split at f
      ·have m:=lt B f;obtain ⟨i,K,d,j,u,y,A⟩:=N7 hE hO hF o hwf hl (fun b J T=>a b J (by omega)) base
       exact X s B i K d j rfl u y A f
      ·cases f
     ·cases f
  ·rcases QN n H G st (fun s e=>hg ⟨s,e⟩) _ f with ⟨D,u,y⟩|⟨s1,u,y,A,N,R,Q⟩
   ·have m:=GO n H G D _ y;obtain ⟨i,C,d,w1,r1,r2,r3⟩:=u.ok hE o (fun b J T=>a b J (by have:D.as.h.nx≤h.nx:=m;omega)) base
    obtain ⟨τ,z,F,w2,j,t1,t2,t3,t4,t5,t6,t7⟩:=ih H G D i C d w1 ok v h r2 (r3.wf hwf) y (r3.free a) base;exact ⟨τ,z,F,w2,j,Steps.trans r1 t1,t2,t3,t4,t5,t6,r3.trans t7 a⟩
   ·have A:ok=true:=A;subst A;have Q:s1.h.nx≤h.nx:=Q;obtain ⟨i,C,d,w1,r1,r2,r3⟩:=u.ok hE o (fun b J T=>a b J (by omega)) base
    obtain ⟨rfl,x,j,t1,t2,t3,t4,t5,t6⟩:=done s1 i C d w1 _ _ _ y r2 N (.inr R);exact ⟨i,C,x,w1,j,r1,t1,t2,t3,t4,t5,r3.trans t6 a⟩
end
end
theorem Orc.validG {E:Env} (hE:∀[U:Unk],U.K=(Env.of E.P).kinds→OK E) {G:Nat→D→D} (hO:Ad E G) {N:Nat} {e:Orc} (h:∀[F:Facts],Ac E N e=true):e.Valid E.P G:=by
 intro U hK hG ρ w C ha hr hwf l c0 j;have hE:=hE hK;subst hG;have r:=h (F:=U.toFacts);unfold Ac at r;split at r
 ·rename_i ok v g i;simp only [Bool.and_eq_true,beq_iff_eq] at r;obtain ⟨⟨⟨⟨h1,h2⟩,h3⟩,h4⟩,h5⟩:=r;have e4:=Nat.eq_of_beq_eq_true h4;unfold Wy at i;split at i
  ·rename_i fr I;obtain ⟨J,t,s2⟩:=HI (goF E N e.f false) {fr,cs:=[],h:={blk:=e.part,nx:=e.nx,log:=[]}};rw [s2] at i;obtain ⟨σ,cf,v',w1,w',q1,q2,q3,q4,q5,q6,q7⟩:=eG hE hO N e.f false J ρ _ [] w ok v g (by rw [t];exact ⟨Cq hE I ha,.nil,hr⟩) (by rw [t];exact hwf) i (by rw [t];show AA ρ e.nx g.nx;rw [e4];exact l) (c0::j)
   rw [t] at q7;refine ⟨σ,v',w',g,?_,Dm _ _ h2▸q5,q6,q7,EV h3,e4,M2 h5⟩;rw [←h1];have:=Steps.trans q1 (Steps.one (q4.back c0 j));cases ok<;>exact this
  ·cases i
 ·cases r
end Go.AE
namespace Go.AE
variable [Gl:Ax]
variable [U:Unk]
def RN (x:Func):Bool:=!(x.name == "runtime.NumGoroutine")&&(x.body.isSome||(!(x.name == "maps.clone") && !(x.name == "internal/bytealg.IndexByteString") && !(x.name == "internal/bytealg.CountString"))||(Extern.allNextRows.lookup x.origin).isNone)
theorem Q4:Extern.allNextRows.lookup "maps.clone" = none:=by kernel_rfl
theorem Sg:Extern.allGenericRows.lookup "maps.clone" = none:=by kernel_rfl
theorem O4:Extern.allTypedRows.lookup "maps.clone" = none:=by kernel_rfl
theorem T0:Extern.allRows.lookup "maps.clone" = some Extern.MapsClone.clone:=by kernel_rfl
theorem Vt:Extern.allNextRows.lookup "internal/bytealg.IndexByteString" = none:=by kernel_rfl
theorem bq:Extern.allGenericRows.lookup "internal/bytealg.IndexByteString" = none:=by kernel_rfl
theorem Td:Extern.allTypedRows.lookup "internal/bytealg.IndexByteString" = none:=by kernel_rfl
theorem dr:Extern.allRows.lookup "internal/bytealg.IndexByteString" = some Extern.BytealgIndexByte.indexByte:=by kernel_rfl
theorem Wn:Extern.allNextRows.lookup "internal/bytealg.CountString" = none:=by kernel_rfl
theorem dN:Extern.allGenericRows.lookup "internal/bytealg.CountString" = none:=by kernel_rfl
theorem Ux:Extern.allTypedRows.lookup "internal/bytealg.CountString" = none:=by kernel_rfl
theorem ZD:Extern.allRows.lookup "internal/bytealg.CountString" = some Extern.BytealgCount.count:=by kernel_rfl
omit U in
theorem D7 {x:Func} {n:String} (hn:x.name=n) (h1:Extern.allNextRows.lookup n=none) (h2:Extern.allNextRows.lookup x.origin=none):Extern.findNext x=none:=by
 show ((Extern.allNextRows.lookup x.name).map (· x.params x.resultTypes) <|> (Extern.allNextRows.lookup x.origin).map (· x.params x.resultTypes))=none
 rw [hn,h1,h2];rfl
omit U in
theorem H6 {x:Func} {n:String} {g:Array Value→Sem Value} (hn:x.name=n) (h1:Extern.allGenericRows.lookup n=none) (h2:Extern.allTypedRows.lookup n=none) (h3:Extern.allRows.lookup n=some g):Extern.find x=some g:=by
 show (((Extern.allGenericRows.lookup x.name).map (· x.targs x.params x.resultTypes) <|> (Extern.allTypedRows.lookup x.name).map (· x.params x.resultTypes) <|> Extern.allRows.lookup x.name) <|> ((Extern.allGenericRows.lookup x.origin).map (· x.targs x.params x.resultTypes) <|> (Extern.allTypedRows.lookup x.origin).map (· x.params x.resultTypes) <|> Extern.allRows.lookup x.origin))=some g
 rw [hn,h1,h2,h3];rfl
omit U in
theorem G6:∀(l:List Orc) (f:Nat) (x:List Orc),(RZ l).get f=some x→∀e∈x,e∈l
 |[],f,x,h=>by rw [RZ,T.get_nil] at h;cases h
 |a::l,f,x,h=>by
  unfold RZ Ww at h;intro e he;cases hq:(RZ l).get a.f with
  |none=>
   rw [hq] at h;simp only [T.get_set] at h;split at h
   ·cases h;simp only [List.mem_singleton] at he;subst he;exact List.mem_cons_self
   ·exact List.mem_cons_of_mem _ (G6 l f x h e he)
  |some y=>
   rw [hq] at h;simp only [T.get_set] at h;split at h
   ·cases h;rcases List.mem_cons.1 he with q|q
    ·rw [q];exact List.mem_cons_self
    ·exact List.mem_cons_of_mem _ (G6 l a.f y hq e q)
   ·exact List.mem_cons_of_mem _ (G6 l f x h e he)
theorem OK.of {P:Program} {l:List Orc} {m:List Sm} (hm:P.follows .mixedOrders=true) (hc:P.funcs.toList.all RN=true) (hk:U.K=(Env.of P).kinds):OK (Env.ofS P l m):=by
 have r:∀f x,(Env.ofS P l m).fn.get f=some x→P.funcs[f]?=some x:=by
  intro f x h;rw [Env.ofS,T.get_ofList] at h;simpa using h
 have j:∀f x,(Env.ofS P l m).fn.get f=some x→RN x=true:=by
  intro f x h;have:=r f x h
  exact List.all_eq_true.1 hc x (by
   have h2:P.funcs.toList[f]?=some x:=by simpa using this
   exact List.mem_of_getElem? h2)
 refine ⟨fun t i h=>?_,r,fun f x h=>?_,fun f x h C hn=>?_,fun f x h C hn=>?_,fun f x h C hn=>?_,hm,hk,rfl,rfl,fun f x h=>G6 l f x h⟩
 ·rw [Env.ofS,T.get_ofList] at h;have h2:P.types[t]?=some i:=by simpa using h
  have J:t<P.types.size:=(Array.getElem?_eq_some_iff.1 h2).1;show P.info? t=some i;simp only [Tables.info?,if_pos J];exact h2
 ·have:=j f x h;simp only [RN,Bool.and_eq_true,Bool.not_eq_true'] at this;exact this.1
 ·have q:=j f x h;have I:Extern.allNextRows.lookup x.origin=none:=by simpa [RN,C,hn] using q
  exact ⟨D7 hn Q4 I,H6 hn Sg O4 T0⟩
 ·have q:=j f x h;have I:Extern.allNextRows.lookup x.origin=none:=by simpa [RN,C,hn] using q
  exact ⟨D7 hn Vt I,H6 hn bq Td dr⟩
 ·have q:=j f x h;have I:Extern.allNextRows.lookup x.origin=none:=by simpa [RN,C,hn] using q
  exact ⟨D7 hn Wn I,H6 hn dN Ux ZD⟩
theorem Ad.none {P:Program} {F:Nat→D→D}:Ad (Env.ofO P []) F:=⟨fun e he=>(by cases he),fun e he=>(by cases he)⟩
theorem Ad.add {P:Program} {l:List Orc} {m:List Sm} {e:Orc} {N:Nat} (hE:∀[U:Unk],U.K=(Env.of P).kinds→OK (Env.ofS P l m)) {G:Nat→D→D} (hO:Ad (Env.ofS P l m) G) (h:∀[F:Facts],Pq (Env.ofS P l m) N e=true):Ad (Env.ofS P (e::l) m) G:=by
 refine ⟨fun x i=>?_,hO.sms⟩
 rcases List.mem_cons.1 i with rfl|i
 ·exact Orc.valid (E:=Env.ofS P l m) hE hO h
 ·exact hO.orc x i
theorem Ad.cons {P:Program} {l:List Orc} {m:List Sm} {e:Orc} {G:Nat→D→D} (h:e.Valid P G) (hO:Ad (Env.ofS P l m) G):Ad (Env.ofS P (e::l) m) G:=
 ⟨fun x i=>(List.mem_cons.1 i).elim (fun q=>q▸h) (fun q=>hO.orc x q),hO.sms⟩
theorem Ad.val {P:Program} {l:List Orc} {e:Orc} {N:Nat} (hE:∀[U:Unk],U.K=(Env.of P).kinds→OK (Env.ofS P l [])) {G:Nat→D→D} (hO:Ad (Env.ofS P l []) G) (h:∀[F:Facts],Ac (Env.ofS P l []) N e=true):e.Valid P G:=
 Orc.validG (E:=Env.ofS P l []) hE hO h
end Go.AE
namespace Go.AE
variable [Gl:Ax]
open Go.RowKit
def VJ [Facts] (j:Nat):Kd→AV
 |.int k=>mkI k (.var j)
 |.bool=>mkB true (.var j)
 |.str=>.ss (.var j)
 |.slice e=>.dat e (.var j)
def HE [Facts]:Nat→List Kd→List AV
 |_,[]=>[]
 |j,k::a=>VJ j k::HE (j+1) a
def H4:TypeDesc→Bool
 |.struct _=>true
 |_=>false
def EN [Facts] (E:Env):Nat→List TypeId→Option (List AV)
 |_,[]=>some []
 |j,t::ts=>match E.desc t,E.kinds0 t with
  |some d,some b=>match EN E (j+b.length) ts with
   |some r=>match H4 d with
    |true=>some (.agg (HE j b)::r)
    |false=>match HE j b with
     |[a]=>some (a::r)
     |_=>none
   |none=>none
  |_,_=>none
def Ba (E:Env):List TypeId→Option (List Kd)
 |[]=>some []
 |t::ts=>match E.kinds0 t,Ba E ts with
  |some a,some l=>some (a++l)
  |_,_=>none
def BV:Nat→List Kd→List (SB×Bool)
 |_,[]=>[]
 |j,.int k::r=>match decide (k=.i64) with
  |true=>BV (j+1) r
  |false=>(.lss (.var j) (.c k.min),false)::(.lss (.c k.max) (.var j),false)::BV (j+1) r
 |j,_::r=>BV (j+1) r
def inL (e:TypeId):List TypeId→Bool
 |[]=>false
 |f::r=>Nat.beq e f||inL e r
def NK (L:List TypeId):Kd→Bool
 |.slice e=>inL e L
 |_=>true
def FO (E:Env) (L:List TypeId):List TypeId→Bool
 |[]=>true
 |e::r=>match E.kinds0 e with
  |some a=>!a.isEmpty&&a.all (NK L)&&FO E L r
  |none=>false
inductive DT where
 |leaf
 |split (e:SB) (t f:DT)
def CD (fn:Nat→D→D) (a:List D):Val:={d:=fun j=>a.getD j default,fn}
@[reducible] def Sk (P:Program):Unk:={facts:=[],V:=CD (fun _ d=>d) [],K:=(Env.of P).kinds,R:=[],hR:=fun _ _ _ _ _ h=>by (cases h),ok:=by simp}
def DVL (K:TypeId→Option (List Kd)) (M:Nat→Option (Array Value)):List Kd→List Value→List D→Prop
 |[],[],[]=>True
 |k::ks,v::a,d::b=>DV K M k v d∧DVL K M ks a b
 |_,_,_=>False
theorem DVL.len {K:TypeId→Option (List Kd)} {M:Nat→Option (Array Value)}:∀{ks:List Kd} {i:List Value} {j:List D},DVL K M ks i j→ks.length=i.length∧ks.length=j.length
 |[],[],[],_=>⟨rfl,rfl⟩
 |_::_,_::_,_::_,h=>by have:=DVL.len h.2;simp [this.1.symm,this.2.symm]
def Can:List Kd→List D→Prop
 |.int _::ks,d::a=>(∃n,d=.int n)∧Can ks a
 |.bool::ks,d::a=>(∃n,d=.bool n)∧Can ks a
 |.str::ks,d::a=>(∃n,d=.str n)∧Can ks a
 |.slice _::ks,_::a=>Can ks a
 |_,_=>True
def Hb (K:TypeId→Option (List Kd)):Nat→Kd→D→Prop
 |_,.int _,d=>∃n,d=.int n
 |_,.bool,d=>∃b,d=.bool b
 |_,.str,d=>∃s,d=.str s
 |0,.slice _,_=>True
 |m+1,.slice e,d=>∃a rows,d=.slc a rows∧(a=true→rows=[])∧∀ks,K e=some ks→∀r∈rows,∃cs,r=.row cs∧cs.length=ks.length∧∀(j:Nat) kd,ks[j]?=some kd→Hb K m kd (cs.getD j default)
def L8 (K:TypeId→Option (List Kd)) (m:Nat) (a:List Kd) (b:List D):Prop:=∀(j:Nat) kd,a[j]?=some kd→Hb K m kd (b.getD j default)
def leB (o:Option Nat) (n:Nat):Prop:=∀b,o=some b→n≤b
def ShK (K:TypeId→Option (List Kd)) (o:Option Nat):Nat→Kd→D→Prop
 |_,.int _,_=>True
 |_,.bool,_=>True
 |_,.str,d=>leB o d.toStr.data.toList.length
 |0,.slice _,_=>True
 |m+1,.slice e,d=>leB o d.rows.length∧∀a,K e=some a→∀i,i<d.rows.length→∀(j:Nat) kd,a[j]?=some kd→ShK K o m kd ((d.rows.getD i default).cells.getD j default)
def ShL (K:TypeId→Option (List Kd)) (o:Option Nat) (m:Nat) (a:List Kd) (b:List D):Prop:=∀(j:Nat) kd,a[j]?=some kd→ShK K o m kd (b.getD j default)
mutual
def A9 {H:Type} (o:Option Nat):DataW H→Prop
 |.lit (.string bytes)=>leB o bytes.length
 |.lit _=>True
 |.nil=>True
 |.ptr _=>True
 |.slice a _=>leB o a.length∧Bo o a
 |.agg parts=>Bo o parts
 |.iface _ _=>True
 |.map _=>True
 |.held _=>True
def Bo {H:Type} (o:Option Nat):List (DataW H)→Prop
 |[]=>True
 |d::r=>A9 o d∧Bo o r
end
mutual
theorem A9.none {H:Type}:∀d:DataW H,A9 none d
 |.lit (.string _)=>by rw [A9];intro b j;cases j
 |.lit (.bool _)=>by simp [A9]
 |.lit (.int _ _)=>by simp [A9]
 |.lit (.float _ _)=>by simp [A9]
 |.lit .nil=>by simp [A9]
 |.nil=>by simp [A9]
 |.ptr _=>by simp [A9]
 |.slice i _=>by rw [A9];exact ⟨fun b j=>(by cases j),Bo.none i⟩
 |.agg parts=>by rw [A9];exact Bo.none parts
 |.iface _ _=>by simp [A9]
 |.map _=>by simp [A9]
 |.held _=>by simp [A9]
theorem Bo.none {H:Type}:∀l:List (DataW H),Bo none l
 |[]=>by simp [Bo]
 |d::r=>by rw [Bo];exact ⟨A9.none d,Bo.none r⟩
end
theorem Bo.get {H:Type} {o:Option Nat}:∀{l:List (DataW H)} {i:Nat} {d:DataW H},Bo o l→l[i]?=some d→A9 o d
 |x::l,0,d,h,hi=>by
  simp only [List.getElem?_cons_zero,Option.some.injEq] at hi;subst hi;rw [Bo] at h;exact h.1
 |x::l,i+1,d,h,hi=>by
  rw [Bo] at h;exact h.2.get (by simpa using hi)
 |[],i,d,h,hi=>by simp at hi
theorem DV.canK {K:TypeId→Option (List Kd)} {M:Nat→Option (Array Value)} {o:Option Nat}:∀(m:Nat) (kd:Kd) (v:Value) (d:D),DV K M kd v d→∃d',DV K M kd v d'∧Hb K m kd d'∧(ShK K o m kd d→ShK K o m kd d')
 |m,.int k,v,d,h=>by
  cases h with
  |int _ n _ hr q=>exact ⟨.int n,.int k n _ hr rfl,by cases m<;>exact ⟨n,rfl⟩,fun _=>by cases m<;>trivial⟩
 |m,.bool,v,d,h=>by
  cases h with
  |bool b _ q=>exact ⟨.bool b,.bool b _ rfl,by cases m<;>exact ⟨b,rfl⟩,fun _=>by cases m<;>trivial⟩
 |m,.str,v,d,h=>by
  cases h with
  |str b _ q=>exact ⟨.str b,.str b _ rfl,by cases m<;>exact ⟨b,rfl⟩,fun hs=>by cases m<;>(simp only [ShK] at hs ⊢;rw [q] at hs;exact hs)⟩
 |0,.slice e,v,d,h=>⟨d,h,trivial,fun h=>h⟩
 |m+1,.slice e,v,d,h=>by
  cases h with
  |nil _ _ h1 h2=>exact ⟨.slc true [],.nil e _ rfl rfl,⟨true,[],rfl,fun _=>rfl,fun _ _ r hr=>by cases hr⟩,fun _=>⟨fun b _=>Nat.zero_le b,fun l _ i hi=>absurd hi (Nat.not_lt_zero i)⟩⟩
  |empty _ a J _ h1 h2=>exact ⟨.slc false [],.empty e a J _ rfl rfl,⟨false,[],rfl,fun _=>rfl,fun _ _ r hr=>by cases hr⟩,fun _=>⟨fun b _=>Nat.zero_le b,fun l _ i hi=>absurd hi (Nat.not_lt_zero i)⟩⟩
  |slc _ b off n J _ l arr hk ha hn hc h1 an a1 hv=>
   classical
   have key:∀i j,∃x,∀kd,i<n→l[j]?=some kd→DV K M kd (arr.getD (off+i*l.length+j) Go.undef) x∧Hb K m kd x∧(ShK K o m kd ((d.rows.getD i default).cells.getD j default)→ShK K o m kd x):=by
    intro i j;cases C:l[j]? with
    |none=>exact ⟨default,fun kd _ h=>by cases h⟩
    |some kd=>
     by_cases hi:i<n
     ·obtain ⟨x,q1,q2⟩:=DV.canK m kd _ _ (hv i j kd hi C);exact ⟨x,fun a2 _ h=>by cases h;exact ⟨q1,q2⟩⟩
     ·exact ⟨default,fun kd _ h=>absurd ‹i<n› hi⟩
   let f:Nat→Nat→D:=fun i j=>Classical.choose (key i j)
   have hf:∀i j kd,i<n→l[j]?=some kd→DV K M kd (arr.getD (off+i*l.length+j) Go.undef) (f i j)∧Hb K m kd (f i j)∧(ShK K o m kd ((d.rows.getD i default).cells.getD j default)→ShK K o m kd (f i j)):=fun i j=>Classical.choose_spec (key i j)
   have hr:∀i,i<n→((List.range n).map fun i=>D.row ((List.range l.length).map (f i))).getD i default=.row ((List.range l.length).map (f i)):=by
    intro i hi;simp [List.getD_eq_getElem?_getD,hi]
   have t:∀i j,j<l.length→((List.range l.length).map (f i)).getD j default=f i j:=by
    intro i j C;simp [List.getD_eq_getElem?_getD,C]
   have ab:∀{j:Nat} {kd:Kd},l[j]?=some kd→j<l.length:=fun h=>(List.getElem?_eq_some_iff.1 h).1
   refine ⟨.slc false ((List.range n).map fun i=>.row ((List.range l.length).map (f i))),.slc e b off n J _ l arr hk ha (by show (List.map _ _).length=n;simp) hc rfl an (fun i hi=>?_) (fun i j kd hi C=>?_),⟨false,_,rfl,(fun h=>by cases h),fun ar I r av=>?_⟩,fun hs=>⟨?_,fun ar I i hi j kd C=>?_⟩⟩
   ·show (((List.range n).map fun i=>D.row ((List.range l.length).map (f i))).getD i default).cells.length=_
    rw [hr i hi];simp [D.cells]
   ·show DV K M kd _ ((((List.range n).map fun i=>D.row ((List.range l.length).map (f i))).getD i default).cells.getD j default)
    rw [hr i hi];show DV K M kd _ (((List.range l.length).map (f i)).getD j default);rw [t i j (ab C)];exact (hf i j kd hi C).1
   ·rw [hk] at I;cases I;obtain ⟨i,hi,e⟩:=List.mem_map.1 av;refine ⟨_,e.symm,by simp,fun j kd C=>?_⟩
    rw [t i j (ab C)];exact (hf i j kd (List.mem_range.1 hi) C).2.1
   ·have e:(D.slc false ((List.range n).map fun i=>D.row ((List.range l.length).map (f i)))).rows.length=d.rows.length:=by rw [hn];simp [D.rows]
    rw [e];exact hs.1
   ·rw [hk] at I;cases I
    have al:i<n:=by
     have:i<((List.range n).map fun i=>D.row ((List.range l.length).map (f i))).length:=hi
     simpa using this
    show ShK K o m kd ((((List.range n).map fun i=>D.row ((List.range l.length).map (f i))).getD i default).cells.getD j default)
    rw [hr i al];show ShK K o m kd (((List.range l.length).map (f i)).getD j default);rw [t i j (ab C)];exact (hf i j kd al C).2.2 (hs.2 l hk i (by rw [hn];exact al) j kd C)
theorem DVL.can {K:TypeId→Option (List Kd)} {M:Nat→Option (Array Value)} {o:Option Nat}:∀{ks:List Kd} {cs:List Value} {xs:List D},DVL K M ks cs xs→ShL K o 9 ks xs→∃l,DVL K M ks cs l∧(Can ks l∧L8 K 9 ks l)∧ShL K o 9 ks l
 |[],[],[],h,_=>⟨[],h,⟨trivial,fun j kd h=>by simp at h⟩,fun j kd h=>by simp at h⟩
 |k::ks,v::vs,d::ds,h,C=>by
  obtain ⟨l,I,⟨r,J⟩,h4⟩:=DVL.can (o:=o) h.2 (fun j kd i=>by simpa using C (j+1) kd (by simpa using i))
  obtain ⟨d',q1,t,q3⟩:=DV.canK (o:=o) 9 k v d h.1;refine ⟨d'::l,⟨q1,I⟩,⟨?_,fun j kd i=>?_⟩,fun j kd i=>?_⟩
  rotate_left 2
  ·cases j with
   |zero=>simp only [List.getElem?_cons_zero,Option.some.injEq] at i;subst i;exact q3 (C 0 k rfl)
   |succ j=>simpa using h4 j kd (by simpa using i)
  ·cases k with
   |int k=>exact ⟨t,r⟩
   |bool=>exact ⟨t,r⟩
   |str=>exact ⟨t,r⟩
   |slice e=>exact r
  ·cases j with
   |zero=>simp only [List.getElem?_cons_zero,Option.some.injEq] at i;subst i;exact t
   |succ j=>simpa using J j kd (by simpa using i)
theorem ShL.append {K:TypeId→Option (List Kd)} {o:Option Nat} {m:Nat} {ks ks':List Kd} {xs xs':List D} (l:ks.length=xs.length) (h:ShL K o m ks xs) (h':ShL K o m ks' xs'):ShL K o m (ks++ks') (xs++xs'):=by
 intro j kd i;rcases Nat.lt_or_ge j ks.length with c|c
 ·rw [List.getElem?_append_left c] at i;have:=h j kd i;simpa [List.getD_eq_getElem?_getD,List.getElem?_append_left (show j<xs.length by omega)] using this
 ·rw [List.getElem?_append_right c] at i;have:=h' (j-ks.length) kd i;simpa [List.getD_eq_getElem?_getD,List.getElem?_append_right (show xs.length≤j by omega),←l] using this
theorem L8.append {K:TypeId→Option (List Kd)} {m:Nat} {ks ks':List Kd} {xs xs':List D} (l:ks.length=xs.length) (h:L8 K m ks xs) (h':L8 K m ks' xs'):L8 K m (ks++ks') (xs++xs'):=by
 intro j kd i;rcases Nat.lt_or_ge j ks.length with c|c
 ·rw [List.getElem?_append_left c] at i;have:=h j kd i;simpa [List.getD_eq_getElem?_getD,List.getElem?_append_left (show j<xs.length by omega)] using this
 ·rw [List.getElem?_append_right c] at i;have:=h' (j-ks.length) kd i;simpa [List.getD_eq_getElem?_getD,List.getElem?_append_right (show xs.length≤j by omega),←l] using this
theorem Can.append {K:TypeId→Option (List Kd)} {M:Nat→Option (Array Value)}:∀{ks ks':List Kd} {cs:List Value} {xs xs':List D},DVL K M ks cs xs→Can ks xs→Can ks' xs'→Can (ks++ks') (xs++xs')
 |[],_,[],[],_,_,_,h'=>h'
 |.int _::_,_,_::_,_::_,_,i,h,h'=>⟨h.1,Can.append i.2 h.2 h'⟩
 |.bool::_,_,_::_,_::_,_,i,h,h'=>⟨h.1,Can.append i.2 h.2 h'⟩
 |.str::_,_,_::_,_::_,_,i,h,h'=>⟨h.1,Can.append i.2 h.2 h'⟩
 |.slice _::ks,ks',_::cs,_::xs,xs',i,h,h'=>Can.append (ks:=ks) (ks':=ks') (cs:=cs) (xs:=xs) (xs':=xs') i.2 h h'
theorem DVL.append {K:TypeId→Option (List Kd)} {M:Nat→Option (Array Value)}:∀{ks ks':List Kd} {l i:List Value} {r j:List D},DVL K M ks l r→DVL K M ks' i j→DVL K M (ks++ks') (l++i) (r++j)
 |[],_,[],_,[],_,_,h=>h
 |_::_,_,_::_,_,_::_,_,h,h'=>⟨h.1,DVL.append h.2 h'⟩
theorem DVL.get {K:TypeId→Option (List Kd)} {M:Nat→Option (Array Value)}:∀{ks:List Kd} {l:List Value} {r:List D},DVL K M ks l r→∀{j:Nat} {k:Kd} {d:D},ks[j]?=some k→r[j]?=some d→∃v,l[j]?=some v∧DV K M k v d
 |[],[],[],_,j,k,d,h,_=>by simp at h
 |_::_,_::_,_::_,h,0,k,d,i,h2=>by
  simp only [List.getElem?_cons_zero,Option.some.injEq] at i h2;subst i;subst h2;exact ⟨_,rfl,h.1⟩
 |_::_,_::_,_::_,h,j+1,k,d,i,h2=>by
  simp only [List.getElem?_cons_succ] at i h2 ⊢;exact DVL.get h.2 i h2
theorem IC [U:Unk] (ρ:Ren):∀(f:List Kd) (r:List Value) (l:List D) (j:Nat),(∀i,i<l.length→U.V.d (j+i)=l.getD i default)→DVL U.K ρ.imm f r l→VL ρ (HE j f) r
 |[],[],[],_,_,_=>VL.nil ρ
 |k::f,v::r,d::l,j,hi,h=>by
  have h0:U.V.d j=d:=by have:=hi 0 (by simp);simpa using this
  refine VL.cons ?_ (IC ρ f r l (j+1) (fun i B=>by have:=hi (i+1) (by simp;omega);rw [show j+1+i=j+(i+1) by omega,this];simp) h.2)
  have m:=h.1;have w:Af U.V (.var j)=d:=h0;rw [←w] at m;generalize g:Af U.V (.var j)=C at m;cases m with
  |int k n _ hr o=>
   have:=B5 ρ k (.var j);have e:Ag U.V (.var j)=n:=by unfold Ag;rw [g];exact o
   rw [e] at this;exact this
  |bool b _ o=>
   have:=Fj ρ true (.var j);have e:(Ai U.V (.var j)==true)=b:=by unfold Ai;rw [g,o];cases b<;>rfl
   rw [e] at this;exact this
  |str s _ o=>
   have:=VR.ss (ρ:=ρ) (.var j);have e:AK U.V (.var j)=s:=by unfold AK;rw [g];exact o
   rw [e] at this;exact this
  |nil e _ p t=>exact .dat e (.var j) _ _ _ (by rw [g];exact .nil e _ p t)
  |empty e a c _ p t=>exact .dat e (.var j) _ _ _ (by rw [g];exact .empty e a c _ p t)
  |slc e b off n c _ f arr m x y z p u q A=>exact .dat e (.var j) _ _ _ (by rw [g];exact .slc e b off n c _ f arr m x y z p u q A)
theorem Gb [U:Unk] {K:TypeId→Option (List Kd)} {M:Nat→Option (Array Value)} {V:Val}:∀(f:List Kd) (l:List Value) (c:List D) (j:Nat),(∀i,i<c.length→V.d (j+i)=c.getD i default)→DVL K M f l c→∀e b,(e,b)∈BV j f→Ai V e=b
 |[],[],[],_,_,_,e,b,a=>by simp [BV] at a
 |k::f,v::l,d::c,j,hi,h,e,b,a=>by
  have h0:V.d j=d:=by have:=hi 0 (by simp);simpa using this
  have ih:=Gb f l c (j+1) (fun i q=>by have:=hi (i+1) (by simp;omega);rw [show j+1+i=j+(i+1) by omega,this];simp) h.2 e b
  have m:=h.1;cases m with
  |int k n _ hr p=>
   have o:(Af V (.var j)).toInt=n:=by simp only [Af,h0];exact p
   simp only [BV] at a;split at a
   ·exact ih a
   ·rename_i m;have g:=hr.resolve_left (by simpa using m)
    simp only [List.mem_cons,Prod.mk.injEq] at a;rcases a with ⟨rfl,rfl⟩|⟨rfl,rfl⟩|a
    ·rw [Ar,decide_eq_false_iff_not];simp only [Ag];rw [o];show ¬_<_;have:=g.1;have:=g.2;simp only [Af,D.toInt];omega
    ·rw [Ar,decide_eq_false_iff_not];simp only [Ag];rw [o];show ¬_<_;have:=g.1;have:=g.2;simp only [Af,D.toInt];omega
    ·exact ih a
  |bool=>exact ih a
  |str=>exact ih a
  |nil=>exact ih a
  |empty=>exact ih a
  |slc=>exact ih a
def DF (w:World) (k:Nat):Option (Array Value):=match w.heap[k]? with
 |some (.cells c _ _)=>some c
 |_=>none
theorem Ls {w:World} {a:Addr} {v:Value} (h:w.cell? a=some v):∃arr,DF w a.block=some arr∧a.spot=none∧arr[a.off]?=some v:=by
 unfold World.cell? at h;unfold DF;split at h
 ·rename_i c _ _ d;rw [d];split at h
  ·cases h
  ·rename_i b;refine ⟨c,rfl,?_,h⟩;cases e:a.spot with
   |none=>rfl
   |some x=>rw [e] at b;simp at b
 ·cases h
theorem Jx {w:World} {c n:Nat} {a:Addr} {cs:List Value} (h:w.cells? c a n=some cs) (r:0<n):∃arr,DF w a.block=some arr∧a.spot=none∧cs.length=n∧∀j,j<n→arr[a.off+j]?=cs[j]?:=by
 unfold World.cells? at h;split at h
 ·have l:cs.length=n:=by simpa using mapM_some_length h
  have m:∀j,j<n→w.cell? (a.add j)=cs[j]?:=fun j e=>mapM_some_get h j j (by simp [e])
  have h0:=m 0 r;have o:a.add 0=a:=by simp [Addr.add]
  rw [o] at h0;have g:cs[0]?=some cs[0]:=by simp
  rw [g] at h0;obtain ⟨arr,i,s,t⟩:=Ls h0;refine ⟨arr,i,s,l,fun j e=>?_⟩
  have d:=m j e;have k:cs[j]?=some cs[j]:=by simp [l,e]
  rw [k] at d ⊢;obtain ⟨p,b,u,f⟩:=Ls d;by_cases q:j=0
  ·subst q;rw [o] at b f;rw [i] at b;cases b;exact f
  ·simp only [Addr.add,if_neg q] at b f;rw [i] at b;cases b;exact f
 ·cases h
theorem Ir {P:Nat→D→Prop}:∀(n:Nat),(∀i,i<n→∃d,P i d)→∃l:List D,l.length=n∧∀i,i<n→∃d,l[i]?=some d∧P i d
 |0,_=>⟨[],rfl,fun i hi=>by omega⟩
 |n+1,h=>by
  obtain ⟨l,a,b⟩:=Ir n (fun i hi=>h i (by omega))
  obtain ⟨d,c⟩:=h n (by omega)
  refine ⟨l++[d],by simp [a],fun i hi=>?_⟩
  by_cases e:i<n
  ·obtain ⟨x,f,g⟩:=b i e;exact ⟨x,by rw [List.getElem?_append_left (by omega)];exact f,g⟩
  ·have:i=n:=by omega
   subst this;exact ⟨d,by rw [List.getElem?_append_right (by omega),a];simp,c⟩
theorem Kh {b:TypeId→Nat→Bool} {c d:TypeId→Option (List Kd)} (h:∀t a,c t=some a→d t=some a):∀(e:List Field) (off:Nat) (a:List Kd),DX b c e off=some a→DX b d e off=some a
 |[],_,_,q=>q
 |f::r,off,a,q=>by
  simp only [DX] at q ⊢;split at q
  ·rename_i l g i;rw [h _ _ i];split at q
   ·rename_i m j k;simp only [g,j,Kh h r _ _ k];exact q
   ·cases q
  ·cases q
theorem LL {desc:TypeId→Option TypeDesc} {a:TypeId→Nat→Bool}:∀(n:Nat) (t:TypeId) (b:List Kd),Da false desc a n t=some b→Da true desc a n t=some b
 |0,_,_,h=>h
 |n+1,t,b,h=>by
  have key:∀l,HX false a (Da false desc a n) (desc t)=some l→HX true a (Da true desc a n) (desc t)=some l:=by
   intro l q;cases c:desc t with
   |none=>rw [c] at q;exact q
   |some d=>
    rw [c] at q;cases d<;>first|exact q|skip
    ·simp [HX] at q
    ·exact Kh (LL n) _ _ _ q
  simp only [Da] at h ⊢;split at h
  ·rename_i l e;rw [key l e];exact h
  ·cases h
theorem R4 {E:Env} {t:TypeId} {a:List Kd} (h:E.kinds0 t=some a):E.kinds t=some a:=LL 20 t a h
theorem S2 {E:Env} {L:List TypeId}:∀{l:List TypeId} {e:TypeId},FO E L l=true→inL e l=true→∃b,E.kinds0 e=some b∧b≠[]∧b.all (NK L)=true
 |[],e,_,h=>by simp [inL] at h
 |f::r,e,a,h=>by
  simp only [FO] at a;split at a
  ·rename_i b c;simp only [Bool.and_eq_true,Bool.not_eq_true',List.isEmpty_eq_false_iff] at a;simp only [inL,Bool.or_eq_true] at h;rcases h with h|h
   ·rw [As h];exact ⟨b,c,a.1.1,a.1.2⟩
   ·exact S2 a.2 h
  ·cases a
section
variable {E:Env} {L:List TypeId} {H:Type} {enc:TypeId×Value→H} {w:World} {base:Nat} {sp:Nat→Bool} {held:Bool}
theorem Gu [U:Unk] (hE:OK E) {t:TypeId} {n:Nat} (h:E.szIs t n=true):E.P.cellsOf t=n:=by
 unfold Env.szIs at h;cases hi:E.ty.get t with
 |none=>rw [hi] at h;cases h
 |some i=>rw [hi] at h;simp [Program.cellsOf,hE.ty t i hi,As h]
theorem PC [U:Unk] (hE:OK E) {rec_:TypeId→Option (List Kd)} {o:Option Nat} {m:Nat} {cs:List Value} (c:∀t a cs x,rec_ t=some a→a.all (NK L)=true→DataW.trod enc E.P w base sp held m t cs=some x→A9 o x.1→∃d,DVL E.kinds (DF w) a cs d∧∀q,ShL E.kinds o q a d) :
  ∀(i:List Field) (off:Nat) (a:List Kd),DX E.szIs rec_ i off=some a→a.all (NK L)=true→(∀f∈i,∃x,DataW.trod enc E.P w base sp held m f.type ((cs.drop f.offset).take (E.P.cellsOf f.type))=some x∧A9 o x.1)→∃d,DVL E.kinds (DF w) a ((cs.drop off).take a.length) d∧∀q,ShL E.kinds o q a d:=by
 intro i
 induction i with
 |nil=>intro off a h _ _;simp [DX] at h;subst h;exact ⟨[],by simp [DVL],fun q j kd h=>by simp at h⟩
 |cons f r ih=>
  intro off a h b u;simp only [DX] at h;split at h
  ·rename_i k1 v y;split at h
   ·rename_i l z A;cases h;rw [List.all_append,Bool.and_eq_true] at b;obtain ⟨x,k,n⟩:=u f (by simp)
    have g:=As v;have p:=Gu hE z;obtain ⟨B,s,C⟩:=c _ _ _ _ y b.1 k n;rw [p,g] at s;obtain ⟨D,F,G⟩:=ih _ _ A b.2 (fun f I=>u f (by simp [I]))
    have e:(cs.drop off).take (k1++l).length=(cs.drop off).take k1.length++(cs.drop (off+k1.length)).take l.length:=by
     rw [List.length_append,List.take_add,List.drop_drop]
    rw [e];exact ⟨B++D,s.append F,fun q=>(C q).append s.len.2 (G q)⟩
   ·cases h
  ·cases h
theorem Uc [U:Unk] (hE:OK E) (hL:FO E L L=true) {o:Option Nat}:∀(m n:Nat) (t:TypeId) (z:List Kd) (cs:List Value) (x:DataW H×List MemPlace),Da false E.desc E.szIs n t=some z→z.all (NK L)=true→DataW.trod enc E.P w base sp held m t cs=some x→A9 o x.1→∃g,DVL E.kinds (DF w) z cs g∧∀q,ShL E.kinds o q z g:=by
  intro m
  have one:∀{kd:Kd} {d:D},(∀q,ShK E.kinds o q kd d)→∀q,ShL E.kinds o q [kd] [d]:=by
    intro kd d h q j an A;cases j with
    |zero=>simp only [List.getElem?_cons_zero,Option.some.injEq] at A;subst A;exact h q
    |succ j=>simp at A
  induction m using Nat.strongRecOn with
  |_ m ih=>
    intro n t z cs x h0 F r p;obtain ⟨ac,n',rfl,h⟩:=kinds_size h0;clear h0;cases hd:E.desc t with
    |none=>rw [hd] at h;cases h
    |some d=>
      have N:=hE.und hd;rw [hd] at h;cases m with
      |zero=>simp [DataW.trod] at r
      |succ m=>
      cases d<;>first | (cases h;done)|skip
      case bool=>
        cases h;unfold DataW.trod at r;rw [N] at r;split at r<;>simp_all
        exact ⟨[.bool _],⟨.bool _ _ rfl,trivial⟩,one fun q=>by cases q<;>trivial⟩
      case int k=>
        cases h;unfold DataW.trod at r;rw [N] at r
        have go:∀{O:IntKind} {n:Int},(O=k∧(Lit.int k n).wf=true)→∃g,DVL E.kinds (DF w) [.int k] [.int O n] g∧∀q,ShL E.kinds o q [.int k] g:=by
          rintro O n ⟨rfl,hw⟩
          have hb:O.min≤n∧n≤O.max:=by simpa [Lit.wf] using hw
          exact ⟨[.int n],⟨.int _ _ _ (.inr hb) rfl,trivial⟩,one fun q=>by cases q<;>trivial⟩
        split at r<;>first | (cases r;done)|skip
        all_goals
          first
            | (split at r
               · rename_i hq;simp_all
               · cases r)
            |simp_all
      case string=>
        cases h;unfold DataW.trod at r;rw [N] at r;split at r<;>first | (simp at r;done)|skip
        all_goals first
          | (rename_i hh;cases hh;done)
          | (rename_i hh _;cases hh;done)
          |skip
        all_goals
          rename_i s _;split at r
          · simp only [Option.some.injEq] at r
            subst r;exact ⟨[.str s],⟨.str _ _ rfl,trivial⟩,one fun q=>by cases q<;>(simp only [A9] at p;exact p)⟩
          · cases r
      case slice e=>
        cases h;simp only [List.all_cons,List.all_nil,Bool.and_true,NK] at F;obtain ⟨ke,B,ad,Q⟩:=S2 hL F;have G:=R4 B;rcases DataW.trod_slice N r with ⟨rfl,_⟩|⟨a,len,R,l,rest,q,hq,rfl,S,hb,hl,hc,u,T,_,_⟩
        · exact ⟨[.slc true []],⟨.nil e _ rfl rfl,trivial⟩,one fun q=>by cases q<;>first|trivial|exact ⟨fun b _=>Nat.zero_le b,fun _ _ i hi=>absurd hi (Nat.not_lt_zero i)⟩⟩
        · by_cases h0:len=0
          · subst h0
            exact ⟨[.slc false []],⟨.empty e a R _ rfl rfl,trivial⟩,one fun q=>by cases q<;>first|trivial|exact ⟨fun b _=>Nat.zero_le b,fun _ _ i hi=>absurd hi (Nat.not_lt_zero i)⟩⟩
          · have ae:E.P.cellsOf e=ke.length:=Gu hE (kinds_size G).1
            have C:0<ke.length:=by cases ke with|nil=>exact absurd rfl ad|cons=>simp
            rw [ae] at T
            obtain ⟨rows,r1,r2⟩:=Ir (P:=fun i d=>∃g cells,d=.row g∧w.cells? base (a.add (i*ke.length)) ke.length=some cells∧DVL E.kinds (DF w) ke cells g∧∀q,ShL E.kinds o q ke g) len (by
              intro i hi;have:=T i hi;have he:l[i]?=some l[i]:=by simp [u,hi]
              rw [he] at this;simp only [Option.bind_eq_some_iff] at this;obtain ⟨cells,c1,c2⟩:=this
              have af:A9 o (l[i]).1:=by
                rw [S] at p;simp only [A9] at p;exact p.2.get (i:=i) (by simp [u,hi])
              obtain ⟨g,ag,V⟩:=ih q (by omega) 20 e ke cells _ B Q c2 af
              exact ⟨.row g,g,cells,rfl,c1,ag,V⟩)
            obtain ⟨_,_,ao,ab,_,c0,_⟩:=r2 0 (by omega)
            have ea:a.add (0*ke.length)=a:=by simp [Addr.add]
            rw [ea] at c0;obtain ⟨arr,s1,s2,_,s4⟩:=Jx c0 C;have W:a=⟨a.block,a.off,none⟩:=by cases a;simp at s2;simp [s2]
            have key:∀i,i<len→∃g cells,rows[i]?=some (.row g)∧(DVL E.kinds (DF w) ke cells g∧∀q,ShL E.kinds o q ke g)∧∀j,j<ke.length→arr[a.off+i*ke.length+j]?=cells[j]?:=by
              intro i hi;obtain ⟨d,I,g,cells,y,X,g4,g5⟩:=r2 i hi;subst y;refine ⟨g,cells,I,⟨g4,g5⟩,?_⟩;obtain ⟨am,J,t2,_,t4⟩:=Jx X C;by_cases hz:i*ke.length=0
              · rw [hz] at J t4 ⊢
                have e0:a.add 0=a:=by simp [Addr.add]
                rw [e0] at J t4;rw [s1] at J;cases J;simpa using t4
              · simp only [Addr.add,if_neg hz] at J t4
                rw [s1] at J;cases J;exact t4
            refine ⟨[.slc false rows],⟨?_,trivial⟩,one fun q=>by
              cases q with
              |zero=>trivial
              |succ q=>
                refine ⟨by
                  rw [S] at p;simp only [A9] at p;have e:(D.slc false rows).rows.length=l.length:=by rw [u];exact r1
                  rw [e];exact (show (l.map (·.1)).length=l.length from List.length_map _)▸p.1,fun ah ai i hi j kd A=>?_⟩
                have aj:ah=ke:=Option.some.inj (ai.symm.trans G);subst aj;have K:i<len:=by have:i<rows.length:=hi;omega
                obtain ⟨g,cells,I,⟨_,y⟩,_⟩:=key i K;have Y:(D.rows (.slc false rows)).getD i default=.row g:=by simp [D.rows,List.getD_eq_getElem?_getD,I]
                rw [Y];exact y q j kd A⟩
            rw [W];refine .slc e a.block a.off len R (.slc false rows) ke arr G s1 r1 hl rfl ?_ (fun i hi=>?_) ?_
            · obtain ⟨g,cells,_,⟨y,_⟩,X⟩:=key (len-1) (by omega)
              have:=X (ke.length-1) (by omega)
              have ap:=y.len.1;have ak:cells[ke.length-1]?=some (cells[ke.length-1]'(by omega)):=by simp
              rw [ak] at this;have aq:=(Array.getElem?_eq_some_iff.1 this).1
              have:len*ke.length=(len-1)*ke.length+ke.length:=by
                rw [←Nat.succ_mul];congr 1;omega
              omega
            · obtain ⟨g,cells,I,⟨y,_⟩,_⟩:=key i hi
              have Y:(D.rows (.slc false rows)).getD i default=.row g:=by simp [D.rows,List.getD_eq_getElem?_getD,I]
              rw [Y];exact y.len.2.symm
            · intro i j kd hi A
              obtain ⟨g,cells,I,⟨y,_⟩,X⟩:=key i hi;have Y:(D.rows (.slc false rows)).getD i default=.row g:=by simp [D.rows,List.getD_eq_getElem?_getD,I]
              rw [Y];have Z:j<ke.length:=(List.getElem?_eq_some_iff.1 A).1
              have al:g[j]?=some ((D.cells (.row g)).getD j default):=by
                have:j<g.length:=by rw [←y.len.2];exact Z
                simp [D.cells,List.getD_eq_getElem?_getD,this]
              obtain ⟨v,v1,v2⟩:=y.get A al;have:=X j Z;rw [v1] at this;have ev:arr.getD (a.off+i*ke.length+j) Go.undef=v:=by simp [Array.getD_eq_getD_getElem?,this]
              rw [ev];exact v2
      case struct fs=>
        simp only [HX] at h;obtain ⟨xs,q,e1,e2,e3,e4,e5⟩:=DataW.trod_struct N r;rw [e2] at p;simp only [A9] at p
        obtain ⟨g,this,M⟩:=PC hE (L:=L) (o:=o) (m:=q) (cs:=cs) (fun t z cs x a b c d=>ih q (by omega) n' t z cs x a b c d) fs.toList 0 z h F (fun f hf=>by
          obtain ⟨i,hi,rfl⟩:=List.getElem_of_mem hf;have K:i<fs.size:=by simpa using hi
          have h5:=e5 i fs[i] (by simp [K])
          have aa:i<xs.length:=by omega
          exact ⟨xs[i],by simpa [aa] using h5,p.get (i:=i) (by simp [aa])⟩)
        have u:cs.length=z.length:=by rw [e3,Gu hE ac]
        rw [List.drop_zero,←u,List.take_length] at this;exact ⟨g,this,M⟩
theorem VY [U:Unk] (hE:OK E) (hL:FO E L L=true) {o:Option Nat}:∀(ts:List TypeId) (g:List Value) (k:List (DataW H)) (Q:List MemPlace) (m:List Kd),DataW.TrodAll enc E.P w base sp held ts g k Q→
  (∀(j:Nat) t v,ts[j]?=some t→g[j]?=some v→∃r Z,Value.okWide E.P w r Z t v)→Ba E ts=some m→m.all (NK L)=true→Bo o k→
  ∃(cs:List Value) (n:List D),DVL E.kinds (DF w) m cs n∧((Can m n∧L8 E.kinds 9 m n)∧ShL E.kinds o 9 m n)∧∀(U:Unk) (j:Nat) (args:List AV) (u:Ren),U.K=E.kinds→u.imm=DF w→(∀i,i<n.length→U.V.d (j+i)=n.getD i default)→EN E j ts=some args→VL u args g:=by
 intro ts
 induction ts with
 |nil=>
  intro g k Q m A f x _ _;cases g with
  |nil=>
   simp [Ba] at x;subst x;exact ⟨[],[],trivial,⟨⟨trivial,fun j kd h=>by simp at h⟩,fun j kd h=>by simp at h⟩,fun U j args u _ _ _ b=>by simp [EN] at b;subst b;exact VL.nil u⟩
  |cons=>cases k<;>simp [DataW.TrodAll] at A
 |cons t ts ih=>
  intro g k Q m A f x y B;cases g with
  |nil=>cases k<;>simp [DataW.TrodAll] at A
  |cons v g=>
   cases k with
   |nil=>simp [DataW.TrodAll] at A
   |cons d k=>
    obtain ⟨p,q,⟨C,hx⟩,R,_⟩:=A;simp only [Ba] at x;split at x
    ·rename_i k1 l z hl;cases x;rw [List.all_append,Bool.and_eq_true] at y;obtain ⟨cs,n,q1,S,q2⟩:=ih g k q l R (fun j t v ht hv=>f (j+1) t v (by simpa using ht) (by simpa using hv)) hl y.2 B.2
     obtain ⟨x0,F,G⟩:=Uc hE hL (o:=o) C 20 t k1 _ _ z y.1 hx B.1;obtain ⟨x1,c,I,J⟩:=F.can (G 9);refine ⟨v.cells.toList++cs,x1++n,c.append q1,⟨⟨Can.append c I.1 S.1.1,I.2.append c.len.2 S.1.2⟩,J.append c.len.2 S.2⟩,?_⟩;intro U' j args u hK hM s b;obtain ⟨r,Z,e⟩:=f 0 t v rfl rfl;have aa:k1.length=x1.length:=c.len.2;simp only [EN] at b;split at b
     ·rename_i d0 ab hd M;rw [z] at M;cases M;have T:=OK.und (U:=U) hE hd;clear ih;split at b
      ·rename_i rr W
       have tail:=q2 U' (j+k1.length) rr u hK hM (fun i hi=>by
        have:=s (x1.length+i) (by simp only [List.length_append];omega)
        rw [show j+k1.length+i=j+(x1.length+i) by omega,this]
        simp [List.getD_eq_getElem?_getD,List.getElem?_append_right]) W
       have head:=IC (U:=U') u k1 v.cells.toList x1 j (fun i hi=>by
        have:=s i (by simp only [List.length_append];omega)
        rw [this];simp [List.getD_eq_getElem?_getD,List.getElem?_append_left hi]) (by rw [hK,hM];exact c)
       split at b
       ·rename_i X;cases b;refine VL.cons ?_ tail;cases d0<;>simp [H4] at X
        unfold Value.okWide at e;rw [T] at e;obtain ⟨N,rfl,_⟩:=e;exact .agg _ N.toList head.1 head.2
       ·rename_i X;split at b
        ·rename_i a O;cases b;refine VL.cons ?_ tail;rw [O] at head
         have Y:v.cells.toList=[v]:=by
          cases v<;>first|rfl|skip
          rename_i N
          exfalso
          unfold Value.okWide at e;rw [T] at e;obtain ⟨_,_,_,z⟩:=kinds_size z;rw [hd] at z;cases d0<;>simp [H4] at X<;>first | (cases z;done)|skip
          all_goals simp [Cell.okWide,Cell.ok,T] at e
         rw [Y] at head;obtain ⟨v',r',e1,e2,_⟩:=head.cons_inv;cases e1;exact e2
        ·cases b
      ·cases b
     ·cases b
    ·cases x
theorem E6.none (h:Gl.tab=.nil) (M:Nat→Option (Array Value)):E6 M:=fun g l i=>by rw [h,T.get_nil] at i;cases i
theorem SY [U:Unk] (w:World) (a:E6 (DF w)):HR ⟨fun _=>none,DF w⟩ (T.nil:T Ab).get w:=by
 refine ⟨fun b base h=>(by cases h),fun b base x h=>(by cases h),fun b i base d _ h=>(by cases h),fun k arr h=>?_,fun k arr b base _ h=>(by cases h),a⟩
 simp only [DF] at h;split at h
 ·rename_i c e f g;cases h;exact ⟨e,f,g⟩
 ·cases h
end
theorem IK {H:Type} {c:TypeId×Value→H} {P:Program} {w:World} {a:Nat} {e:Nat→Bool} {b:Bool}:∀{ts:List TypeId} {f:List Value} {d:List (DataW H)} {g:List MemPlace},DataW.TrodAll c P w a e b ts f d g→d.length=ts.length
 |[],[],[],_,_=>rfl
 |_::_,_::_,_::_,_,⟨_,_,_,h,_⟩=>by simp [IK h]
 |[],_::_,_,_,h=>by simp [DataW.TrodAll] at h
 |[],[],_::_,_,h=>by simp [DataW.TrodAll] at h
 |_::_,[],_,_,h=>by simp [DataW.TrodAll] at h
 |_::_,_::_,[],_,h=>by simp [DataW.TrodAll] at h
theorem Gf {H:Type} {a:TypeId×Value→H} {P:Program} (j:laidOutB P=true) {W k:World} (l:Below W.heap.size W k):∀{ts:List TypeId} {f:List Value} {g:List (DataW H)} {e:List MemPlace},
  (∀t∈ts,P.readableRec t=true∧t<P.types.size)→DataW.TrodAll a P W 0 (fun _=>true) true ts f g e→(∀x∈e,x.block<W.heap.size)→DataW.TrodAll a P k 0 (fun b=>decide (b<W.heap.size)) true ts f g e
 |[],[],[],_,_,h,_=>h
 |t::ts,v::f,d::g,e,hr,⟨p,q,m,n,o⟩,c=>by
  subst o;exact ⟨p,q,Below.trod j (hr t (by simp)).1 (hr t (by simp)).2 m l (fun x i=>c x (by simp [i])),Gf j l (fun t r=>hr t (by simp [r])) n (fun x i=>c x (by simp [i])),rfl⟩
 |[],_::_,_,_,_,h,_=>by simp [DataW.TrodAll] at h
 |[],[],_::_,_,_,h,_=>by simp [DataW.TrodAll] at h
 |_::_,[],_,_,_,h,_=>by simp [DataW.TrodAll] at h
 |_::_,_::_,[],_,_,h,_=>by simp [DataW.TrodAll] at h
end Go.AE

