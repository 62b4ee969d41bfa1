/- What is proved here: an evaluator of the model's steps that the kernel can run, and that whatever it answers is what the model does (part 7 of 8: AeLoop, AeRun4, AeQuick, AeFast, AeOK, AeSeg). Conditions: those that each theorem states; they hold of no one program. -/
import Derived.Test.YtmjeljjkhblgeaaGreatDoorBeF
import Derived.Eval
import Derived.KernelRfl
set_option linter.unusedVariables false
set_option linter.unusedSectionVars false
set_option linter.unusedSimpArgs false
namespace Go.AE
variable [Gl:AH]
section
variable [U:Vals]
theorem blT {a b:Nat} (h:Nat.blt a b=true):a<b:=Nat.le_of_ble_eq_true h
theorem T.allA_get {C:Type} {p:C→Bool}:∀{t:T C},t.allA p=true→∀i x,t.get i=some x→p x=true
 |.nil,_,i,x,j=>by rw [T.get_nil] at j;cases j
 |.node v l r,h,i,x,j=>by
  simp only [T.allA,Bool.and_eq_true] at h;obtain ⟨I,h2,J⟩:=h;by_cases e:i=0
  ·rw [T.get_zero _ _ _ e] at j;subst j;exact I
  ·by_cases o:i%2=1
   ·rw [T.get_odd _ _ _ o] at j;exact T.allA_get h2 _ x j
   ·rw [T.get_even _ _ _ (by omega) e] at j;exact T.allA_get J _ x j
theorem C9 {n:Nat}:∀{l:List AV},EZ n l=true→∀(i:Nat) (a:AV),l[i]?=some a→GN n a=true
 |[],_,i,a,h=>by simp at h
 |x::l,h,i,a,b=>by
  simp only [EZ,Bool.and_eq_true] at h;cases i with
  |zero=>simp only [List.getElem?_cons_zero,Option.some.injEq] at b;subst b;exact h.1
  |succ i=>exact C9 h.2 i a (by simpa using b)
def Ren.cut (i:Ren) (nx N:Nat):Ren:=⟨fun b=>if nx≤b∧b<N then none else i b,i.imm⟩
theorem Ren.cut_lt {i:Ren} {nx N b:Nat} (h:b<nx):(i.cut nx N) b=i b:=if_neg (by omega)
theorem Ren.cut_some {i:Ren} {nx N b:Nat} {x:Bt} (h:(i.cut nx N) b=some x):i b=some x:=by
 unfold Ren.cut at h;simp only at h;split at h
 ·cases h
 ·exact h
theorem Ren.le_cut {i l:Ren} {nx N:Nat} (h:i.le l) (r:AJ i nx N):i.le (l.cut nx N):=by
 refine ⟨fun b x j=>?_,h.imm⟩
 unfold Ren.cut;simp only;split
 ·rename_i q;rw [r b q.1 q.2] at j;cases j
 ·exact h.m b x j
theorem Ren.cut_free (i:Ren) (nx N:Nat):AJ (i.cut nx N) nx N:=fun b j h2=>if_pos ⟨j,h2⟩
theorem FnR.cut {i:Ren} {nx N:Nat} {f g:Fn} (h:FnR i f g) (k:Aal nx f=true):FnR (i.cut nx N) f g:=by
 cases f<;>simp only [FnR] at h ⊢<;>first|exact h|skip
 obtain ⟨x,j,l⟩:=h;exact ⟨x,(Ren.cut_lt (blT k)).trans j,l⟩
theorem VR.cut {τ:Ren} {nx N:Nat} {a:AV} {v:Value} (h:VR τ a v) (j:GN nx a=true):VR (τ.cut nx N) a v:=by
 have at':∀{b:Nat} {x:Bt},τ b=some x→Nat.blt b nx=true→(τ.cut nx N) b=some x:=fun h k=>(Ren.cut_lt (blT k)).trans h
 induction h with
 |top v=>exact .top v
 |bool b=>exact .bool b
 |int k n=>exact .int k n
 |str s=>exact .str s
 |ptr0=>exact .ptr0
 |ptr b off base h=>exact .ptr b off base (at' h j)
 |slice0=>exact .slice0
 |slice b off n es cap base h hc hz=>exact .slice b off n es cap base (at' h j) hc hz
 |sliceEnd b off es a=>exact .sliceEnd b off es a
 |map0=>exact .map0
 |map b base h=>exact .map b base (at' h j)
 |func fn ab f c f' c' h h1 h2 h3 h4 al an=>
  simp only [GN,Bool.and_eq_true] at j;exact .func fn ab f c f' c' (h.cut j.1) h1 (fun i a v r J=>al i a v r J (C9 j.2.1 i a r)) h3 (fun i a v r J=>an i a v r J (C9 j.2.2 i a r))
 |nilFunc=>exact .nilFunc
 |iface t a v h ih=>exact .iface t a v (ih j)
 |nilIface=>exact .nilIface
 |agg l l' h1 h2 ih=>exact .agg l l' h1 (fun i a v r J=>ih i a v r J (C9 j i a r))
 |tuple l l' h1 h2 ih=>exact .tuple l l' h1 (fun i a v r J=>ih i a v r J (C9 j i a r))
 |sb pos e=>exact .sb pos e
 |si k e=>exact .si k e
 |ss x=>exact .ss x
 |dat e x a n c h=>exact .dat e x a n c h
 |dptr e x i off b o n cap ks h ar h0 hi ho=>exact .dptr e x i off b o n cap ks h ar h0 hi ho
 |asl b es n C cap base h h0 hc hz I=>exact .asl b es n C cap base (at' h j) h0 hc hz I
 |aslEnd b es n C a h0 I=>exact .aslEnd b es n C a h0 I
 |eslc C a I=>exact .eslc C a I
 |aptr b es i off base h h0=>exact .aptr b es i off base (at' h j) h0
 |nmap b C base h I=>exact .nmap b C base (at' h j) I
 |nmap0 b C I=>exact .nmap0 b C I
 |stamp b base h=>exact .stamp b base (at' h j)
 |glob g off=>exact .glob g off
theorem VL.cut {j:Ren} {nx N:Nat} {l:List AV} {l':List Value} (h:VL j l l') (k:EZ nx l=true):VL (j.cut nx N) l l':=
 ⟨h.1,fun i a v r t=>(h.2 i a v r t).cut (C9 k i a r)⟩
theorem TR.cut {j:Ren} {nx N nt:Nat} {t:T AV} {a:Array Value} (h:TR j nt t a) (k:t.allA (GN nx)=true):TR (j.cut nx N) nt t a:=
 ⟨h.size,fun i x l=>(h.get i x l).cut (T.allA_get k i x l)⟩
theorem ER.cut {i:Ren} {nx N:Nat}:∀{l:List Am} {j:List MapEntry},ER i l j→mz nx l=true→ER (i.cut nx N) l j
 |[],[],_,_=>trivial
 |_::_,_::_,⟨r,t,C,I⟩,k=>by
  simp only [mz,Bool.and_eq_true] at k;exact ⟨r.cut k.1,t.cut k.2.1,C,I.cut k.2.2⟩
 |[],_::_,h,_=>h.elim
 |_::_,[],h,_=>h.elim
theorem DL.cut {C:Ren} {nx N:Nat}:∀{l:List AD} {I:List Deferred},DL C l I→lj nx l=true→DL (C.cut nx N) l I
 |[],[],_,_=>trivial
 |d::_,_::_,⟨i,h2⟩,k=>by
  simp only [lj,Bool.and_eq_true] at k;refine ⟨?_,h2.cut k.2.2.2⟩;unfold DR at *;cases J:d.fn with
  |none=>
   rw [J] at i k;obtain ⟨base,j,r⟩:=i;exact ⟨base,(Ren.cut_lt (blT k.1)).trans j,r⟩
  |some fn=>
   rw [J] at i k;obtain ⟨t,c',a',j,r,h5,h6⟩:=i;exact ⟨t,c',a',j.cut k.1,r.cut k.2.1,h5.cut k.2.2.1,h6⟩
 |[],_::_,h,_=>h.elim
 |_::_,[],h,_=>h.elim
theorem BR.cut {τ:Ren} {nx N:Nat} {x:Ab} {base:Bt} {o:Option Obj} (h:BR τ x base o) (k:ZZ nx x=true):BR (τ.cut nx N) x base o:=by
 cases x with
 |cells n c=>
  obtain ⟨I,e,fz,j,r,C,J,h5⟩:=h;exact ⟨I,e,fz,j,r,C,J,fun i a hi ha=>let ⟨v,hv,hr⟩:=h5 i a hi ha;⟨v,hv,hr.cut (T.allA_get k i a ha)⟩⟩
 |arr e x=>exact h
 |map es ab=>obtain ⟨t,j,r⟩:=h;exact ⟨t,j,r.cut k⟩
 |dmap kt vt x=>exact h
 |dmapS kt vt x n b=>obtain ⟨al,an,t,c,j,r,C,J,h5,bs,h6,h7⟩:=h;exact ⟨al,an,t,c,j,r,C,J,h5,bs,(Ren.cut_lt (blT k)).trans h6,h7⟩
 |loop st pending fn nt tmps params assign body d=>
  simp only [ZZ,Bool.and_eq_true] at k;obtain ⟨tm,bd,j,r,C⟩:=h;exact ⟨tm,bd,(Ren.cut_lt (blT k.1)).trans j,r.cut k.2,C⟩
 |deferred ds=>cases ds with
  |none=>exact h
  |some l=>obtain ⟨l',j,r⟩:=h;exact ⟨l',j.cut k,r⟩
 |mapIter m ar seen last=>cases m with
  |none=>exact h
  |some b=>obtain ⟨h0,bm,j,r⟩:=h;exact ⟨h0,bm,(Ren.cut_lt (blT k)).trans j,r⟩
 |strIter l b pos=>exact h
theorem HR.cut {r:Ren} {nx N:Nat} {g:Nat→Option Ab} {w:World} (h:HR r g w) (k:∀b x,g b=some x→ZZ nx x=true):HR (r.cut nx N) g w:=
 ⟨fun b base i=>h.lt b base (Ren.cut_some i),fun b base x i t=>(h.blk b base x (Ren.cut_some i) t).cut (k b x t),
  fun b C base base' j i l I J=>h.apart b C base base' j (Ren.cut_some i) (Ren.cut_some l) I J,h.imm,fun k' arr b base hk i hl=>h.off k' arr b base hk (Ren.cut_some i) hl,h.glob⟩
structure Ex0 (ρ σ:Ren) (h h':Aa) (w w':World):Prop where
 le:ρ.le σ
 nx:h.nx≤h'.nx
 new:∀b base,σ b=some base→ρ b=some base∨(h.nx≤b∧b<h'.nx∧(w.heap.size≤base.cb∨∃b0 base0,ρ b0=some base0∧h.blk.get b0≠none∧base0.cb=base.cb))
 calm:GE w w'
 kept:∀k,k<w.heap.size→(∀b base,ρ b=some base→h.blk.get b≠none→base.cb≠k)→w'.heap[k]?=w.heap[k]?
 live:∀b,h'.blk.get b≠none→h.blk.get b≠none∨(h.nx≤b∧b<h'.nx)
 imm:∀k arr,σ.imm k=some arr→ρ.imm k=some arr∨w.heap.size≤k∨∃b0 base0,ρ b0=some base0∧h.blk.get b0≠none∧base0.cb=k
theorem Ext.ex {ρ i:Ren} {h h':Aa} {w j:World} (e:Ext ρ i h h' w j):Ex0 ρ i h h' w j:=⟨e.le,e.nx,e.new,e.calm,e.kept,e.live,e.imm⟩
theorem Ex0.ext {ρ i:Ren} {h h':Aa} {w j:World} (e:Ex0 ρ i h h' w j) (l:∃l,h'.log=l++h.log∧∀b,b∉l→(b<h.nx∨h'.nx≤b)→h'.blk.get b=h.blk.get b):Ext ρ i h h' w j:=⟨e.le,e.nx,e.new,e.calm,e.kept,l,e.live,e.imm⟩
theorem Ex0.full {i j:Ren} {h h':Aa} {w r:World} (e:Ex0 i j h h' w r) (t:WF h) (C:WF h') (l:List Nat) :
  Ext i j {h with log:=l} {h' with log:=List.range h'.nx++l} w r:=
 ⟨e.le,e.nx,e.new,e.calm,e.kept,⟨List.range h'.nx,rfl,fun b I _=>by
  have J:=e.nx
  have:h'.nx≤b:=by
   rcases Nat.lt_or_ge b h'.nx with q|q
   ·exact absurd (List.mem_range.2 q) I
   ·exact q
  show h'.blk.get b=h.blk.get b;rw [C b this,t b (by omega)]⟩,e.live,e.imm⟩
theorem Ex0.trans {ρ l r:Ren} {h i j:Aa} {w w1 w2:World} (e:Ex0 ρ l h i w w1) (k:Ex0 l r i j w1 w2) (q:WF h) (t:WF i) (C:WF j) (f:AJ ρ h.nx j.nx):Ex0 ρ r h j w w2:=by
 have a:=e.full q t [];have b:=k.full t C (List.range i.nx++[]);have c:=a.trans b f;exact ⟨c.le,c.nx,c.new,c.calm,c.kept,c.live,c.imm⟩
theorem Ex0.free {j i:Ren} {h h':Aa} {w r:World} (e:Ex0 j i h h' w r) {m:Nat} (f:AJ j h.nx m):AJ i h'.nx m:=by
 intro b I t;have:=e.nx;cases C:i b with
 |none=>rfl
 |some base=>
  rcases e.new b base C with l|⟨_,J,_⟩
  ·rw [f b (by omega) t] at l;cases l
  ·omega
theorem Ex0.tgt {r t:Ren} {h i h2:Aa} {w C:World} (e:Ex0 r t h i w C) (I:i.nx≤h2.nx) (J:∀b,h2.blk.get b≠none→i.blk.get b≠none∨h.blk.get b≠none):Ex0 r t h h2 w C:=by
 refine ⟨e.le,Nat.le_trans e.nx I,fun b base j=>?_,e.calm,e.kept,fun b j=>?_,e.imm⟩
 ·rcases e.new b base j with q|⟨l,q2,q3⟩
  ·exact .inl q
  ·exact .inr ⟨l,by omega,q3⟩
 ·rcases J b j with q|q
  ·rcases e.live b q with q|⟨l,q2⟩
   ·exact .inl q
   ·exact .inr ⟨l,by omega⟩
  ·exact .inl q
theorem Ex0.back {ρ i j:Ren} {h S R:Aa} {w w1 w2:World} {N:Nat} (l:Ex0 ρ i h S w w1) (t:Ex0 ρ j h R w w2) (C:i.le j) (I:AJ i S.nx N) (J:∀b x,j b=some x→(i b=some x∨(S.nx≤b∧b<N))) :
  Ex0 ρ (j.cut S.nx N) h S w w2:=by
 refine ⟨l.le.trans (Ren.le_cut C I),l.nx,fun b base r=>?_,t.calm,t.kept,l.live,t.imm⟩
 rcases J b base (Ren.cut_some r) with q|⟨q1,q2⟩
 ·exact l.new b base q
 ·unfold Ren.cut at r;simp only [if_pos (And.intro q1 q2)] at r;cases r
omit U in
theorem Fl:∀{a b:T AV},Iw a b=true→∀i x,a.get i=some x→b.get i=some x
 |.nil,_,_,i,x,hx=>by rw [T.get_nil] at hx;cases hx
 |.node v l r,.node v' l' r',h,i,x,hx=>by
  simp only [Iw,Bool.and_eq_true] at h;obtain ⟨h1,h2,h3⟩:=h;by_cases e:i=0
  ·rw [T.get_zero _ _ _ e] at hx ⊢;subst hx;cases v' with
   |none=>cases h1
   |some y=>rw [Do _ _ h1]
  ·by_cases o:i%2=1
   ·rw [T.get_odd _ _ _ o] at hx ⊢;exact Fl h2 _ x hx
   ·rw [T.get_even _ _ _ (by omega) e] at hx ⊢;exact Fl h3 _ x hx
 |.node v l r,.nil,h,i,x,hx=>by
  simp only [Iw,Bool.and_eq_true] at h;obtain ⟨h1,h2,h3⟩:=h;by_cases e:i=0
  ·rw [T.get_zero _ _ _ e] at hx;subst hx;cases h1
  ·by_cases o:i%2=1
   ·rw [T.get_odd _ _ _ o] at hx;have:=Fl h2 _ x hx;rw [T.get_nil] at this;cases this
   ·rw [T.get_even _ _ _ (by omega) e] at hx;have:=Fl h3 _ x hx;rw [T.get_nil] at this;cases this
omit U in
theorem Ii:∀{a b:T AV} {i:Nat} {x:AV},(Ea a b).get i=some x→b.get i=some x
 |.nil,_,i,x,hx=>by simp only [Ea,T.get_nil] at hx;cases hx
 |.node v l r,.nil,i,x,hx=>by simp only [Ea,T.get_nil] at hx;cases hx
 |.node v l r,.node v' l' r',i,x,hx=>by
  simp only [Ea] at hx;by_cases e:i=0
  ·rw [T.get_zero _ _ _ e] at hx ⊢;cases v with
   |none=>cases hx
   |some y=>exact hx
  ·by_cases o:i%2=1
   ·rw [T.get_odd _ _ _ o] at hx ⊢;exact Ii hx
   ·rw [T.get_even _ _ _ (by omega) e] at hx ⊢;exact Ii hx
omit U in
theorem QI:∀{l:List Tmp} {t:T AV} {i:Nat} {x:AV},(Zs l t).get i=some x→t.get i=some x
 |[],t,i,x,h=>h
 |d::r,t,i,x,h=>by
  have:=QI (l:=r) h;rw [T.get_del] at this;split at this
  ·cases this
  ·exact this
omit U in
theorem ZP {a b:AI} (h:ew a b=true):a=b:=by
 cases a<;>cases b<;>simp only [ew,Bool.false_eq_true,Bool.and_eq_true] at h
 ·rw [D6 h]
 ·rw [AZ h]
 ·rw [D6 h]
 ·rw [D6 h]
 ·rw [Er (fun _ _=>Kw) h.1,G4 (fun _ _=>Kw) h.2]
theorem IL.any {ρ I:Ren}:∀{l m:List AI} {k:List Item},FS ew l m=true→IL ρ m k→IL I l k
 |[],[],k,_,h=>by cases h;exact .nil
 |[],_::_,k,e,_=>by cases e
 |_::_,[],k,e,_=>by cases e
 |a::l,b::m,k,e,h=>by
  simp only [FS,Bool.and_eq_true] at e;have J:=ZP e.1;subst J;have C:=e.1;cases h with
  |cons h1 h2=>
   refine .cons ?_ (IL.any e.2 h2);cases h1 with
   |code c=>exact .code c
   |inBlock id=>exact .inBlock id
   |inLoop b=>exact .inLoop b
   |inScope b=>exact .inScope b
   |ops all rest j h=>exact .ops all rest j h
   |_=>cases C
  |rest=>cases C
theorem P0 {f:AF} (h:Se f=true):f.defers=[]∧f.mode=.run∧f.kind=.normal∧f.round=none:=by
 simp only [Se,Bool.and_eq_true] at h;obtain ⟨h1,h2,h3,g⟩:=h;refine ⟨List.isEmpty_iff.1 h1,?_,?_,by simpa using g⟩
 ·cases c:f.mode<;>rw [c] at h2<;>first|rfl|cases h2
 ·cases c:f.kind<;>rw [c] at h3<;>first|rfl|cases h3
theorem FrR.place {C j:Ren} {f g:AF} {c:Frame} (h:FrR C g c) (e:L9 f g=true) (I:∀i x,f.tmps.get i=some x→VR j x (c.tmps.getD i Go.undef)):FrR j f c:=by
 simp only [L9,Bool.and_eq_true] at e;obtain ⟨J,e2,e3,e4,e5⟩:=e;obtain ⟨a1,a2,a3,a4⟩:=P0 J;obtain ⟨b1,b2,b3,b4⟩:=P0 e2;refine ⟨by rw [h.fn,AZ e3],⟨by rw [h.tm.size,AZ e4],I⟩,IL.any e5 h.todo,?_,?_,by rw [h.kind,b3,a3],?_⟩
 ·have:=h.defers;rw [b1] at this;rw [a1];generalize c.defers=d at this;cases d with
  |nil=>trivial
  |cons=>exact this.elim
 ·have:=h.mode;rw [b2] at this;rw [a2];generalize c.mode=d at this;cases this;exact .run
 ·have:=h.round;rw [b4] at this;rw [a4];generalize c.roundOf=d at this;cases d with
  |none=>trivial
  |some=>exact this.elim
omit U in
theorem TM {nx:Nat} {t t':T Ab}:∀{l:List Nat},Y2 nx t t' l=true→∀b∈l,b<nx→∀x,t.get b=some x→t'.get b=some x
 |[],_,b,hb,_,_,_=>by cases hb
 |c::l,h,b,hb,hlt,x,hx=>by
  simp only [Y2,Bool.and_eq_true] at h;rcases List.mem_cons.1 hb with rfl|hb
  ·rcases Bool.or_eq_true _ _▸h.1 with q|q
   ·have:=Nat.le_of_ble_eq_true q;omega
   ·rw [hx] at q;simp only at q;cases hy:t'.get b with
    |none=>rw [hy] at q;cases q
    |some y=>rw [hy] at q;rw [NC q]
  ·exact TM h.2 b hb hlt x hx
theorem H1 {n:Nat}:∀{l:List Am} {e:Am},e∈l→e.born≠n→e∈Kk n l
 |x::l,e,h,f=>by
  unfold Kk;rcases List.mem_cons.1 h with rfl|h
  ·cases q:Nat.beq e.born n with
   |true=>exact absurd (AZ q) f
   |false=>exact List.mem_cons_self
  ·cases q:Nat.beq x.born n with
   |true=>exact H1 h f
   |false=>exact List.mem_cons_of_mem _ (H1 h f)
theorem GY {run:Am→Option AS} {S:AS}:∀{l:List Am} {x:Option (Am×AS)} {n:Nat},FP run S l=some (x,n)→
  S.h.nx≤n∧∀e∈l,∃R,run e=some R∧R.cs=[]∧L9 S.fr R.fr=true∧S.h.nx≤R.h.nx∧R.h.nx≤n∧(Nk S R=true∨(x=some (e,R)∧Nk S R=false))
 |[],x,n,h=>by
  simp only [FP,Option.some.injEq,Prod.mk.injEq] at h;exact ⟨by omega,fun e A=>by cases A⟩
 |e::l,x,n,h=>by
  simp only [FP] at h;split at h
  ·rename_i R x0 C hR B;obtain ⟨D,z⟩:=GY B;split at h
   ·rename_i x1 f g;simp only [Option.some.injEq,Prod.mk.injEq] at h;obtain ⟨rfl,rfl⟩:=h;simp only [Bool.and_eq_true] at f;obtain ⟨j,k,m⟩:=f;refine ⟨by omega,fun y hy=>?_⟩
    rcases List.mem_cons.1 hy with rfl|hy
    ·exact ⟨R,hR,List.isEmpty_iff.1 j,k,Nat.le_of_ble_eq_true m,by omega,.inl g⟩
    ·obtain ⟨p,s,u,a3,a4,a5,w⟩:=z y hy;exact ⟨p,s,u,a3,a4,by omega,w⟩
   ·rename_i f g;simp only [Option.some.injEq,Prod.mk.injEq] at h;obtain ⟨rfl,rfl⟩:=h;simp only [Bool.and_eq_true] at f;obtain ⟨j,k,m⟩:=f;refine ⟨by omega,fun y hy=>?_⟩
    rcases List.mem_cons.1 hy with rfl|hy
    ·exact ⟨R,hR,List.isEmpty_iff.1 j,k,Nat.le_of_ble_eq_true m,by omega,.inr ⟨rfl,g⟩⟩
    ·obtain ⟨p,s,u,a3,a4,a5,w⟩:=z y hy;refine ⟨p,s,u,a3,a4,by omega,.inl ?_⟩
     rcases w with q|⟨q,_⟩
     ·exact q
     ·cases q
   ·cases h
  ·cases h
theorem LL {run:Am→Option AS} {S:AS}:∀{l:List Am} {e:Am} {R:AS} {n:Nat},FP run S l=some (some (e,R),n)→e∈l∧run e=some R∧Nk S R=false
 |[],e,R,n,h=>by simp [FP] at h
 |a::l,e,R,n,h=>by
  simp only [FP] at h;split at h
  ·rename_i p x0 s hR f;split at h
   ·simp only [Option.some.injEq,Prod.mk.injEq] at h;obtain ⟨rfl,_⟩:=h;obtain ⟨g,j,k⟩:=LL f;exact ⟨List.mem_cons_of_mem _ g,j,k⟩
   ·rename_i u m;simp only [Option.some.injEq,Prod.mk.injEq] at h;obtain ⟨⟨rfl,rfl⟩,_⟩:=h;exact ⟨List.mem_cons_self,hR,m⟩
   ·cases h
  ·cases h
theorem SY:∀{j:List Am} {lo c:Nat},Sl lo j c=true→(∀e∈j,lo≤e.born)∧∀e∈j,∀f∈j,e.born=f.born→e=f
 |[],lo,c,_=>⟨fun e h=>(by cases h),fun e h f h' hb=>(by cases h)⟩
 |a::r,lo,c,h=>by
  simp only [Sl,Bool.and_eq_true] at h;obtain ⟨⟨k,u⟩,a3⟩:=h;have k:=Nat.le_of_ble_eq_true k;obtain ⟨m,s⟩:=SY a3;refine ⟨fun e n=>?_,fun e n f p hb=>?_⟩
  ·rcases List.mem_cons.1 n with q|q
   ·subst q;exact k
   ·have:=m e q;omega
  ·rcases List.mem_cons.1 n with q|q<;>rcases List.mem_cons.1 p with g|g
   ·rw [q,g]
   ·have:=m f g;rw [q] at hb;omega
   ·have:=m e q;rw [g] at hb;omega
   ·exact s e q f g hb
theorem mq {s:AS} {b m f:Nat} {j:List Am} (h:Ac4 s=some (b,m,j,f)):∃g,Ek b s.fr=true∧s.h.blk.get b=some (.mapIter (some m) g [] f)∧s.h.blk.get m=some (.map j f)∧Mu g f j=true∧Sl 0 j f=true∧m≠b:=by
 unfold Ac4 at h;split at h
 ·rename_i all o r k A B;split at h
  ·rename_i it C D;split at h
   ·rename_i H n;split at h
    ·rename_i m0 g last hb;split at h
     ·rename_i E cl p;split at h
      ·rename_i w;simp only [Option.some.injEq,Prod.mk.injEq] at h;obtain ⟨rfl,rfl,rfl,rfl⟩:=h;simp only [Bool.and_eq_true,Bool.not_eq_true'] at w;obtain ⟨u,F,G,z⟩:=w;have u:=AZ u;subst u;refine ⟨g,?_,hb,p,F,G,fun e=>?_⟩
       ·simp only [Ek,A,B,C,D,n,Nat.beq_refl]
       ·subst e;rw [Nat.beq_refl] at z;cases z
      ·cases h
     ·cases h
    ·cases h
   ·cases h
  ·cases h
 ·cases h
end
section
variable [U:Unk] {E:Env} (hE:OK E) (hO:Ai E U.V.fn)
theorem T1 {d i:Ren} {h h':Aa} {w j:World} (e:Ext d i h h' w j) (n:AJ d h.nx h'.nx) {k:Nat} {o:Obj} (l:w.heap[k]?=some o) (a:∀b x,d b=some x→h.blk.get b≠none→x.cb≠k) :
  j.heap[k]?=some o∧∀b x,i b=some x→h'.blk.get b≠none→x.cb≠k:=by
 have p:k<w.heap.size:=(Array.getElem?_eq_some_iff.1 l).1;refine ⟨by rw [e.kept k p a];exact l,fun b x q r=>?_⟩
 rcases e.new b x q with f|⟨_,_,m⟩
 ·rcases e.live b r with c|⟨c,g⟩
  ·exact a b x f c
  ·rw [n b c g] at f;cases f
 ·rcases m with m|⟨s,x0,c,g,t⟩
  ·omega
  ·rw [←t];exact a s x0 c g
include hE in
theorem Xf {σ:Ren} {s s':AS} {c:Frame} {ccs bs:List Frame} {w:World} (hsr:SR σ s c ccs w) {b m clock born since:Nat} {seen:Array Nat} {base bm:Bt} (hb:σ b=some base) (h0:base.co=0) (hm:σ m=some bm)
  (ho:w.heap[base.cb]?=some (.mapIter (some bm.cb) since seen clock)) (hs:seen.back?=some born) (hx:II b m clock born s=some s'):AP E.P bs σ s.h c ccs w w s'∧s'.h=s.h:=by
 unfold II at hx;split at hx
 ·rename_i all o rest k hmf ht;split at hx
  ·rename_i it hgd hop;split at hx
   ·rename_i b' hev;split at hx
    ·rename_i hbb;have hbb:=AZ hbb;subst hbb;split at hx
     ·rename_i es cl hgm;split at hx
      ·rename_i e2 hcl hbe;split at hx
       ·rename_i fr hfin;cases hx;have hcl:=AZ hcl;subst hcl;have hmode:=hsr.fr.mode;rw [hmf] at hmode
        have hmr:c.mode=.run:=by
         generalize c.mode=x at hmode;cases hmode;rfl
        have htodo:=hsr.fr.todo;rw [ht] at htodo;obtain ⟨i,idx,k',e,hoi,hmap,hk⟩:=htodo.ops_inv;have hw:Bf all o s.fr.tmps=some true:=by unfold Bf;rw [hgd]
        have hwt:=Bs hsr.fr.tm hw;have hd:c.roundOf=none∨∀cl,o.op≠.defer cl:=.inr (fun cl q=>by rw [hop] at q;cases q)
        have hev':=hsr.fr.evR it;rw [hev] at hev';refine ⟨Fe (s:=execOp c.eval o) (r:=.val (.tuple [e2.key,e2.val]) s.h) hE (by rw [Dk hmr e hoi hwt hd]) ?_ hsr.h hsr.fr hsr.cs hmr (by simp only [Bv,hfin]) (fun b h1 h2=>absurd h2 (Nat.not_lt.2 h1)),rfl⟩
        intro _;obtain ⟨es',m1,m2⟩:=hsr.h.blk m bm _ hm hgm;obtain ⟨e',y1,k1,k2⟩:=NZ born es es' e2 m2 hbe;have hget:=As (w:=w) E.P ho (by simp)
        have hgetm:=As (w:=w) E.P m1 (by simp)
        have hv:=VL.cons k1 (VL.cons k2 (VL.nil σ));refine ⟨σ,.tuple #[e'.key,e'.val],w,.inl ?_,.tuple _ [e'.key,e'.val] hv.1 hv.2,hsr.h,Ext.refl _ _ _⟩
        have hiv:c.eval it=.pointer (some ⟨base.cb,0,none⟩):=by
         generalize c.eval it=iv at hev' ⊢;generalize hq:AV.ptr b' 0=q at hev';cases hev'<;>first|cases hq|skip
         rename_i y hy;rw [hb] at hy;cases hy;rw [h0]
        simp [execOp,hop,hiv,Instr.entry,hget,hs,hgetm,y1]
       ·cases hx
      ·cases hx
     ·cases hx
    ·cases hx
   ·cases hx
  ·cases hx
 ·cases hx
theorem Xc {s s':AS} {b m clock born:Nat} (hx:II b m clock born s=some s'):s'.h=s.h:=by
 unfold II at hx
 repeat' (first | (cases hx;done)|split at hx)
 all_goals (cases hx;rfl)
theorem BP {a:Ask→Aa→Option (Bool×AV×Aa)} {b m clock born:Nat}:∀(f:Nat) (s s':AS),E1 E a b m clock born f s=some s'→s.h.nx≤s'.h.nx
 |0,s,s',h=>by cases h
 |f+1,s,s',h=>by
  simp only [E1] at h;split at h
  ·cases h;exact Nat.le_refl _
  ·split at h
   ·rename_i j g;have:=BP f _ _ h;rw [Xc g] at this;exact this
   ·split at h
    ·split at h
     ·rename_i hb;exact Nat.le_trans (Nat.le_of_ble_eq_true hb) (BP f _ _ h)
     ·cases h
    ·split at h
     ·split at h
      ·rename_i hb;exact Nat.le_trans (Nat.le_of_ble_eq_true hb) (BP f _ _ h)
      ·cases h
     ·rename_i l ops k d;obtain ⟨rfl,_,_⟩:=CC d;split at h
      ·rename_i hd;exact Nat.le_trans (Ci _ _ _ _ _ _ _ hd) (BP f _ _ h)
      ·cases h
     ·cases h
include hE hO in
theorem br {callF:Ask→Aa→Option (Bool×AV×Aa)} (hF:C8 E callF) {b m clock born since:Nat} {seen:Array Nat} {base bm:Bt} (h0:base.co=0) (hs:seen.back?=some born) :
  ∀(f:Nat) (s s':AS) (σ:Ren) (c:Frame) (ccs:List Frame) (w:World),SR σ s c ccs w→WF s.h→E1 E callF b m clock born f s=some s'→AJ σ s.h.nx s'.h.nx→σ b=some base→σ m=some bm→
   w.heap[base.cb]?=some (.mapIter (some bm.cb) since seen clock)→(∀b' x,σ b'=some x→s.h.blk.get b'≠none→x.cb≠base.cb)→
   ∀bs:List Frame,∃τ c' ccs' w',Steps E.P (lone c (ccs++bs) w) (lone c' (ccs'++bs) w')∧SR τ s' c' ccs' w'∧Ext σ τ s.h s'.h w w':=by
 intro f
 induction f with
 |zero=>intro s s' σ c ccs w _ _ h;cases h
 |succ f ih=>
  intro s s' σ c ccs w hsr hwf h hfree hb hm ho hap bs
  have go:∀(s1:AS) (τ:Ren) (c1:Frame) (ccs1:List Frame) (w1:World),Steps E.P (lone c (ccs++bs) w) (lone c1 (ccs1++bs) w1)→SR τ s1 c1 ccs1 w1→Ext σ τ s.h s1.h w w1→E1 E callF b m clock born f s1=some s'→
    ∃τ c' ccs' w',Steps E.P (lone c (ccs++bs) w) (lone c' (ccs'++bs) w')∧SR τ s' c' ccs' w'∧Ext σ τ s.h s'.h w w':=by
   intro s1 τ c1 ccs1 w1 q1 q2 q3 q4;have hmono:=BP f _ _ q4;have hf1:AJ σ s.h.nx s1.h.nx:=fun b h1 h2=>hfree b h1 (by omega)
   obtain ⟨p1,p2⟩:=T1 q3 hf1 ho hap;obtain ⟨υ,c',ccs',w',r1,r2,r3⟩:=ih s1 s' τ c1 ccs1 w1 q2 (q3.wf hwf) q4 (q3.free hfree) (q3.le.m _ _ hb) (q3.le.m _ _ hm) p1 p2 bs;exact ⟨υ,c',ccs',w',Steps.trans q1 r1,r2,q3.trans r3 hfree⟩
  simp only [E1] at h;split at h
  ·cases h;exact ⟨σ,c,ccs,w,Steps.refl _ _,hsr,Ext.refl _ _ _⟩
  ·split at h
   ·rename_i s1 he;obtain ⟨⟨τ,c1,ccs1,w1,q1,q2,q3⟩,q4⟩:=Xf hE (bs:=bs) hsr hb h0 hm ho hs he;exact go s1 τ c1 ccs1 w1 (Steps.one q1) q2 q3 h
   ·split at h
    ·rename_i s1 htop;split at h
     ·have hmono:=BP f _ _ h;obtain ⟨τ,c1,ccs1,w1,q1,q2,q3⟩:=MY hE hO hsr hwf htop (fun b h1 h2=>hfree b h1 (by omega)) bs
      exact go s1 τ c1 ccs1 w1 q1 q2 q3 h
     ·cases h
    ·split at h
     ·rename_i s1 hst;split at h
      ·have hmono:=BP f _ _ h;obtain ⟨τ,c1,ccs1,w1,q1,q2,q3⟩:=Gq (base:=bs) hE hsr hst (fun b h1 h2=>hfree b h1 (by omega))
       exact go s1 τ c1 ccs1 w1 (Steps.one q1) q2 q3 h
      ·cases h
     ·rename_i s2 ops k hst;obtain ⟨rfl,hmr,id,ht⟩:=CC hst;split at h
      ·rename_i tmps h1 hd;have hmono:=BP f _ _ h;obtain ⟨τ,c1,w1,q1,q2,q3⟩:=FN hE hF hsr hwf hmr ht hd (fun b a1 a2=>hfree b a1 (Nat.lt_of_lt_of_le a2 hmono)) bs
       exact go _ τ c1 ccs w1 q1 q2 q3 h
      ·cases h
     ·cases h
theorem HR.revive {σ:Ren} {t:T Ab} {w:World} (hr:HR σ t.get w) {b:Nat} {base:Bt} {x:Ab} (hb:σ b=some base) (hd:t.get b=none) (J:BR σ x base w.heap[base.cb]?)
  (ap:∀b' y,σ b'=some y→t.get b'≠none→y.cb≠base.cb) (im:∀k arr,σ.imm k=some arr→base.cb≠k):HR σ (t.set b x).get w:=by
 refine ⟨hr.lt,fun c y z j I=>?_,fun c c' y y' C j l h1 h2=>?_,hr.imm,fun k arr c y hk j hl=>?_,hr.glob⟩
 ·rw [T.get_set] at I;split at I
  ·rename_i e;subst e;cases I;rw [hb] at j;cases j;exact J
  ·exact hr.blk c y z j I
 ·rw [T.get_set] at h1 h2;split at h1
  ·rename_i e;subst e;rw [hb] at j;cases j;rw [if_neg C] at h2;exact fun q=>ap c' y' l h2 q.symm
  ·split at h2
   ·rename_i e;subst e;rw [hb] at l;cases l;exact ap c y j h1
   ·exact hr.apart c c' y y' C j l h1 h2
 ·rw [T.get_set] at hl;split at hl
  ·rename_i e;subst e;rw [hb] at j;cases j;exact im k arr hk
  ·exact hr.off k arr c y hk j hl
theorem Dx {b:Nat}:∀{l:List Nat},JT b l=true↔b∈l
 |[]=>by simp [JT]
 |a::r=>by
  unfold JT;cases q:Nat.beq a b with
  |true=>simp [AZ q]
  |false=>
   have:=US q;simp only [Dx,List.mem_cons];constructor
   ·exact .inr
   ·rintro (h|h)
    ·exact absurd h.symm this
    ·exact h
theorem B0 {L:List Nat}:∀{es:List Am} {e:Am},e∈Bp L es↔e∈es∧e.born∉L
 |[],e=>by simp [Bp]
 |x::r,e=>by
  unfold Bp;cases q:JT x.born L with
  |true=>
   simp only [B0,List.mem_cons];have hx:=Dx.1 q;constructor
   ·rintro ⟨h1,h2⟩;exact ⟨.inr h1,h2⟩
   ·rintro ⟨h1|h1,h2⟩
    ·subst h1;exact absurd hx h2
    ·exact ⟨h1,h2⟩
  |false=>
   have hx:x.born∉L:=fun h=>by rw [Dx.2 h] at q;cases q
   simp only [List.mem_cons,B0];constructor
   ·rintro (h|h)
    ·subst h;exact ⟨.inl rfl,hx⟩
    ·exact ⟨.inr h.1,h.2⟩
   ·rintro ⟨h1|h1,h2⟩
    ·exact .inl h1
    ·exact .inr ⟨h1,h2⟩
theorem UB {L M:List Nat} (hs:∀x∈L,x∈M):∀{es:List Am},(Bp M es).length≤(Bp L es).length
 |[]=>Nat.le_refl _
 |x::r=>by
  unfold Bp;have:=UB hs (es:=r);cases q:JT x.born L with
  |true=>rw [Dx.2 (hs _ (Dx.1 q))];exact this
  |false=>cases JT x.born M<;>simp only [List.length_cons]<;>omega
theorem IQ {L:List Nat}:∀{es:List Am} {e:Am},e∈Bp L es→(Bp (L++[e.born]) es).length<(Bp L es).length
 |[],e,h=>by simp [Bp] at h
 |x::r,e,h=>by
  have a:=UB (L:=L) (M:=L++[e.born]) (fun y hy=>List.mem_append_left _ hy) (es:=r)
  unfold Bp at h ⊢;cases q:JT x.born L with
  |true=>
   rw [q] at h;rw [Dx.2 (List.mem_append_left _ (Dx.1 q))];exact IQ h
  |false=>
   rw [q] at h;cases q2:JT x.born (L++[e.born]) with
   |true=>simp only [List.length_cons];omega
   |false=>
    rcases List.mem_cons.1 h with rfl|h
    ·rw [Dx.2 (by simp)] at q2;cases q2
    ·have:=IQ h;simp only [List.length_cons];omega
theorem QV {b:Nat} {f:AF} (h:Ek b f=true):∃all o r k it,f.mode=.run∧f.todo=.ops all (o::r)::k∧o.guard=none∧o.op=.next it false∧Ag f.tmps it=.ptr b 0:=by
 unfold Ek at h
 repeat' (first | (cases h;done)|split at h)
 rename_i all o r k hm ht _ _ it a ho _ b' he;have:=AZ h;subst this;exact ⟨all,o,r,k,it,hm,ht,a,ho,he⟩
include hE in
theorem lK {σ:Ren} {S:AS} {c:Frame} {ccs bs:List Frame} {w:World} {b m since clock:Nat} {L:List Nat} {es:List Am} {base bm:Bt} (hfr:FrR σ S.fr c) (hcs:FrL σ S.cs ccs) (hr:HR σ S.h.blk.get w) (hb:σ b=some base) (hm:σ m=some bm) (h0:base.co=0)
  (ho:w.heap[base.cb]?=some (.mapIter (some bm.cb) since L.toArray clock)) (hap:∀b' x,σ b'=some x→S.h.blk.get b'≠none→x.cb≠base.cb) (him:∀k arr,σ.imm k=some arr→base.cb≠k)
  (hd:S.h.blk.get b=none) (hgm:S.h.blk.get m=some (.map es clock)) (hold:Mu since clock es=true) (hat:Ek b S.fr=true) :
  (Bp L es=[]∧∀fr',A3 S.fr (.tuple [.bool false])=some fr'→AP E.P bs σ {S.h with blk:=S.h.blk.set b (.mapIter (some m) since L clock)} c ccs w w {S with fr:=fr',h:={S.h with blk:=S.h.blk.set b (.mapIter (some m) since L clock)}})∨
  (∃e∈Bp L es,∀fr',A3 S.fr (.tuple [.bool true,e.key,e.val])=some fr'→AP E.P bs σ {S.h with blk:=S.h.blk.set b (.mapIter (some m) since L clock)} c ccs w w
   {S with fr:=fr',h:=Aa.put {S.h with blk:=S.h.blk.set b (.mapIter (some m) since L clock)} b (.mapIter (some m) since (L++[e.born]) clock)}):=by
 generalize hL:({S.h with blk:=S.h.blk.set b (.mapIter (some m) since L clock)}:Aa)=hh
 have hrL:HR σ hh.blk.get w:=by
  rw [←hL];exact hr.revive hb hd (by rw [ho];exact ⟨h0,bm,hm,rfl⟩) hap him
 have hmb:m≠b:=by intro e;subst e;rw [hd] at hgm;cases hgm
 have gb:hh.blk.get b=some (.mapIter (some m) since L clock):=by rw [←hL];simp [T.get_set]
 have gm:hh.blk.get m=some (.map es clock):=by
  rw [←hL];show (S.h.blk.set b _).get m=_;rw [T.get_set,if_neg (fun e=>hmb e.symm)];exact hgm
 obtain ⟨all,o,r,k,it,hmf,ht,hgd,hop,hev⟩:=QV hat;have hmode:=hfr.mode;rw [hmf] at hmode
 have hmr:c.mode=.run:=by
  generalize c.mode=x at hmode;cases hmode;rfl
 have htodo:=hfr.todo;rw [ht] at htodo;obtain ⟨i,idx,k',e,hoi,hmap,hk⟩:=htodo.ops_inv;have hwt:=Bs hfr.tm (show Bf all o S.fr.tmps=some true by unfold Bf;rw [hgd])
 have hdf:c.roundOf=none∨∀cl,o.op≠.defer cl:=.inr (fun cl q=>by rw [hop] at q;cases q)
 have hvi:=hfr.evR it;rw [hev] at hvi
 have fin:∀(a:AV) (h':Aa),AR E σ hh h' w (Instr.next (c.eval it) false o.type) a→h'.nx=hh.nx→∀fr',A3 S.fr a=some fr'→AP E.P bs σ hh c ccs w w {S with fr:=fr',h:=h'}:=by
  intro a h' hl hnx fr' hf;refine Fe (s:=execOp c.eval o) (r:=.val a h') hE (by rw [Dk hmr e hoi hwt hdf]) ?_ hrL hfr hcs hmr (by simp only [Bv,hf]) (fun b h1 h2=>by simp only at h2;omega)
  intro _;obtain ⟨τ,v,w',q1,q2,q3,q4⟩:=hl;exact ⟨τ,v,w',.inl (by simp [execOp,hop,q1]),q2,q3,q4⟩
 cases hq:Bp L es with
 |nil=>
  refine .inl ⟨rfl,fin _ hh (Ng (E:=E) hrL hvi ?_) rfl⟩;simp only [Vo,gb,gm,hold,hq]
 |cons e1 l=>
  refine .inr ?_;cases l with
  |nil=>
   refine ⟨e1,List.mem_cons_self,fin _ _ (Ng (E:=E) (a:=.tuple [.bool true,e1.key,e1.val]) (h':=hh.put b (.mapIter (some m) since (L++[e1.born]) clock)) hrL hvi ?_) rfl⟩;simp only [Vo,gb,gm,hold,hq,Qv]
  |cons e2 l=>
   obtain ⟨p,hp,hl⟩:=M9 (E:=E) (ty:=o.type) (l:=(e1::e2::l).map (Qv b m since clock L hh)) hrL hvi (by simp only [M0,gb,gm,hold,hq])
   obtain ⟨e3,he,rfl⟩:=List.mem_map.1 hp;exact ⟨e3,he,fin _ _ hl rfl⟩
structure cP (S:AS) (ρ:Ren) (h:Aa) (w0:World) (b m since clock N:Nat) (base bm:Bt) (σ:Ren) (L:List Nat) (c:Frame) (ccs:List Frame) (w:World):Prop where
 fr:FrR σ S.fr c
 cs:FrL σ S.cs ccs
 hr:HR σ S.h.blk.get w
 rb:σ b=some base
 rm:σ m=some bm
 ob:w.heap[base.cb]?=some (.mapIter (some bm.cb) since L.toArray clock)
 ap:∀b' x,σ b'=some x→S.h.blk.get b'≠none→x.cb≠base.cb
 im:∀k arr,σ.imm k=some arr→base.cb≠k
 ex:Ex0 ρ σ h S.h w0 w
 free:AJ σ S.h.nx N
structure aY (S:AS) (ρ:Ren) (h:Aa) (b m since clock N:Nat) (es:List Am) (base:Bt):Prop where
 h0:base.co=0
 hwf:WF h
 swf:WF S.h
 dead:S.h.blk.get b=none
 live:h.blk.get b≠none
 gm:S.h.blk.get m=some (.map es clock)
 old:Mu since clock es=true
 at':Ek b S.fr=true
 lt:aA S=true
 nxN:S.h.nx≤N
 free:AJ ρ h.nx N
structure Ae0 (S R:AS) (ρ:Ren) (h:Aa) (w0:World) (b m since clock N born:Nat) (base bm:Bt) (σ:Ren) (L:List Nat) (c:Frame) (ccs:List Frame) (w:World) (σ1 τ:Ren) (c2:Frame) (ccs1:List Frame) (w2:World):Prop where
 fr:FrR τ R.fr c2
 cs:FrL σ1 S.cs ccs1
 hr:HR τ R.h.blk.get w2
 rb:σ1 b=some base
 rm:σ1 m=some bm
 ob:w2.heap[base.cb]?=some (.mapIter (some bm.cb) since (L++[born]).toArray clock)
 ap:∀b' x,τ b'=some x→R.h.blk.get b'≠none→x.cb≠base.cb
 im:∀k arr,τ.imm k=some arr→base.cb≠k
 ex1:∃w1,Ex0 ρ σ1 h S.h w0 w1
 ex2:Ex0 ρ τ h R.h w0 w2
 le:σ1.le τ
 free1:AJ σ1 S.h.nx N
 free2:AJ τ R.h.nx N
 log:∀b',b'∉R.h.log→(b'<S.h.nx∨R.h.nx≤b')→R.h.blk.get b'=S.h.blk.get b'
 new:∀b' x,τ b'=some x→σ1 b'=some x∨(S.h.nx≤b'∧b'<R.h.nx)
 rwf:WF R.h
 dead:R.h.blk.get b=none
include hE hO in
theorem TT {callF:Ask→Aa→Option (Bool×AV×Aa)} (hF:C8 E callF) {F b m since clock N:Nat} {es:List Am} {base bm:Bt} {S:AS} {ρ:Ren} {h:Aa} {w0:World} (fx:aY S ρ h b m since clock N es base) {σ:Ren} {L:List Nat} {c:Frame} {ccs:List Frame} {w:World}
  (iv:cP S ρ h w0 b m since clock N base bm σ L c ccs w) (hq:∀e∈Bp L es,∃R,Fy E callF F b m clock S e=some R∧R.cs=[]∧S.h.nx≤R.h.nx∧R.h.nx≤N) (bs:List Frame) :
  (Bp L es=[]∧∀fr',A3 S.fr (.tuple [.bool false])=some fr'→∃σ' c' ccs' w',Steps E.P (lone c (ccs++bs) w) (lone c' (ccs'++bs) w')∧FrR σ' fr' c'∧FrL σ' S.cs ccs'∧HR σ' S.h.blk.get w'∧Ex0 ρ σ' h S.h w0 w')∨
  (∃e∈Bp L es,∀R,Fy E callF F b m clock S e=some R→∃σ1 τ c2 ccs1 w2,Steps E.P (lone c (ccs++bs) w) (lone c2 (ccs1++bs) w2)∧Ae0 S R ρ h w0 b m since clock N e.born base bm σ L c ccs w σ1 τ c2 ccs1 w2):=by
 generalize hL:({S.h with blk:=S.h.blk.set b (.mapIter (some m) since L clock)}:Aa)=hh
 have hnx:hh.nx=S.h.nx:=by rw [←hL]
 have gbs:∀b',b'≠b→hh.blk.get b'=S.h.blk.get b':=by
  intro b' hne;rw [←hL];show (S.h.blk.set b _).get b'=_;rw [T.get_set,if_neg (fun e=>hne e.symm)]
 have hbn:b<S.h.nx:=by
  rcases Nat.lt_or_ge b S.h.nx with q|q
  ·exact q
  ·exfalso
   rcases Nat.lt_or_ge b h.nx with q2|q2
   ·have:=iv.ex.nx;omega
   ·exact fx.live (fx.hwf b q2)
 have hwfh:WF hh:=by
  intro b' hb';rw [hnx] at hb';rw [gbs b' (by omega)]
  exact fx.swf b' hb'
 have e1:Ex0 ρ σ h hh w0 w:=iv.ex.tgt (Nat.le_of_eq hnx.symm) (fun b' hb'=>by
  by_cases e:b'=b
  ·subst e;exact .inr fx.live
  ·rw [gbs b' e] at hb';exact .inl hb')
 have drop:∀b',S.h.blk.get b'=none∨S.h.blk.get b'=hh.blk.get b':=by
  intro b';by_cases e:b'=b
  ·subst e;exact .inl fx.dead
  ·exact .inr (gbs b' e).symm
 have hbl:base.cb<w.heap.size:=iv.hr.lt b base iv.rb;have walk:=lK (bs:=bs) hE iv.fr iv.cs iv.hr iv.rb iv.rm fx.h0 iv.ob iv.ap iv.im fx.dead fx.gm fx.old fx.at';rw [hL] at walk;rcases walk with ⟨hq0,hfin⟩|⟨e,he,hfin⟩
 ·refine .inl ⟨hq0,fun fr' hf=>?_⟩
  obtain ⟨σ',c',ccs',w',q1,q2,q3⟩:=hfin fr' hf;refine ⟨σ',c',ccs',w',Steps.one q1,q2.fr,q2.cs,q2.h.restrict drop,?_⟩
  exact (e1.trans q3.ex fx.hwf hwfh hwfh (fun b' h1 h2=>fx.free b' h1 (by have:=fx.nxN;simp only [hnx] at h2;omega))).tgt (Nat.le_of_eq hnx) (fun b' hb'=>by
   rcases drop b' with q|q
   ·exact absurd q hb'
   ·rw [q] at hb';exact .inl hb')
 ·refine .inr ⟨e,he,fun R hR=>?_⟩
  obtain ⟨R',hR',hRcs,hRn,hRN⟩:=hq e he;rw [hR] at hR';cases hR';unfold Fy at hR;split at hR
  ·rename_i fr' hf;obtain ⟨σ1,c1,ccs1,w1,q1,q2,q3⟩:=hfin fr' hf
   have putn:∀b',b'≠b→(hh.put b (.mapIter (some m) since (L++[e.born]) clock)).blk.get b'=S.h.blk.get b':=by
    intro b' hne;show (hh.blk.set b _).get b'=_;rw [T.get_set,if_neg (fun e=>hne e.symm)]
    exact gbs b' hne
   have drop1:∀b',S.h.blk.get b'=none∨S.h.blk.get b'=(hh.put b (.mapIter (some m) since (L++[e.born]) clock)).blk.get b':=by
    intro b';by_cases e:b'=b
    ·subst e;exact .inl fx.dead
    ·exact .inr (putn b' e).symm
   have hr1:HR σ1 S.h.blk.get w1:=q2.h.restrict drop1;have rb1:=q3.le.m _ _ iv.rb;have rm1:=q3.le.m _ _ iv.rm
   have ob1:w1.heap[base.cb]?=some (.mapIter (some bm.cb) since (L++[e.born]).toArray clock):=by
    have:=q2.h.blk b base (.mapIter (some m) since (L++[e.born]) clock) rb1 (by show (hh.blk.set b _).get b=_;rw [T.get_set,if_pos rfl])
    obtain ⟨_,bm',h1,h2⟩:=this;rw [rm1] at h1;cases h1;exact h2
   have wfp:WF (hh.put b (.mapIter (some m) since (L++[e.born]) clock)):=by
    intro b' hb';have hb':hh.nx≤b':=hb';rw [putn b' (by omega)]
    exact fx.swf b' (by omega)
   have new1:∀b' x,σ1 b'=some x→σ b'=some x:=by
    intro b' x hx;rcases q3.new b' x hx with q|⟨h1,h2,_⟩
    ·exact q
    ·have h2:b'<hh.nx:=h2;omega
   have ap1:∀b' x,σ1 b'=some x→S.h.blk.get b'≠none→x.cb≠base.cb:=fun b' x hx hl=>iv.ap b' x (new1 b' x hx) hl
   have hsz:w.heap.size≤w1.heap.size:=q3.calm.size
   have im1:∀k arr,σ1.imm k=some arr→base.cb≠k:=by
    intro k arr hk;have:=q2.h.off k arr b base hk rb1 (by show (hh.blk.set b _).get b≠none;rw [T.get_set,if_pos rfl];simp)
    exact this
   have ex1:Ex0 ρ σ1 h S.h w0 w1:=by
    refine (e1.trans q3.ex fx.hwf hwfh wfp (fun b' h1 h2=>fx.free b' h1 (by have:=fx.nxN;have h2:b'<hh.nx:=h2;omega))).tgt (Nat.le_of_eq hnx) (fun b' hb'=>?_)
    rcases drop1 b' with q|q
    ·exact absurd q hb'
    ·rw [q] at hb';exact .inl hb'
   have free1:AJ σ1 S.h.nx N:=fun b' h1 h2=>by
    cases hx:σ1 b' with
    |none=>rfl
    |some x=>have:=new1 b' x hx;rw [iv.free b' h1 h2] at this;cases this
   have back:(L++[e.born]).toArray.back?=some e.born:=by simp
   obtain ⟨τ,c2,ccs2,w2,p1,p2,p3⟩:=br hE hO hF fx.h0 back F {fr:=fr',cs:=[],h:={S.h with log:=[]}} R σ1 c1 [] w1 ⟨q2.fr,.nil,hr1⟩ fx.swf hR (fun b' h1 h2=>free1 b' h1 (by omega)) rb1 rm1 ob1 ap1 (ccs1++bs)
   have hc2:ccs2=[]:=by
    have:=p2.cs;rw [hRcs] at this;cases this;rfl
   subst hc2;obtain ⟨o2,a2⟩:=T1 p3 (fun b' h1 h2=>free1 b' h1 (by omega)) ob1 ap1
   have rwf:WF R.h:=p3.wf fx.swf;have p3e:Ex0 σ1 τ S.h R.h w1 w2:=⟨p3.le,p3.nx,p3.new,p3.calm,p3.kept,p3.live,p3.imm⟩;refine ⟨σ1,τ,c2,ccs1,w2,Steps.trans (Steps.one q1) (by simpa using p1),⟨p2.fr,q2.cs,p2.h,rb1,rm1,o2,a2,?_,⟨w1,ex1⟩,ex1.trans p3e fx.hwf fx.swf rwf (fun b' h1 h2=>fx.free b' h1 (by omega)),p3.le,free1,p3e.free free1,?_,?_,rwf,?_⟩⟩
   ·intro k arr hk;rcases p3.imm k arr hk with q|q|⟨b0,x0,h1,h2,h3⟩
    ·exact im1 k arr q
    ·have:=(Array.getElem?_eq_some_iff.1 ob1).1;omega
    ·rw [←h3];exact fun q=>ap1 b0 x0 h1 h2 q.symm
   ·obtain ⟨l,hl,hl'⟩:=p3.log;intro b' hb' hr';have hl:R.h.log=l++[]:=hl;rw [List.append_nil] at hl;exact hl' b' (by rw [←hl];exact hb') hr'
   ·intro b' x hx;rcases p3.new b' x hx with q|⟨h1,h2,_⟩
    ·exact .inl q
    ·exact .inr ⟨h1,h2⟩
   ·cases hx:R.h.blk.get b with
    |none=>rfl
    |some y=>
     rcases p3.live b (by rw [hx];simp) with q|⟨q1,_⟩
     ·exact absurd fx.dead q
     ·have q1:S.h.nx≤b:=q1;omega
  ·cases hR
theorem Wn {b m since clock N born:Nat} {es:List Am} {base bm:Bt} {S R:AS} {ρ:Ren} {h:Aa} {w0:World} (fx:aY S ρ h b m since clock N es base) {σ:Ren} {L:List Nat} {c:Frame} {ccs:List Frame} {w:World} {σ1 τ:Ren} {c2:Frame} {ccs1:List Frame} {w2:World}
  (q:Ae0 S R ρ h w0 b m since clock N born base bm σ L c ccs w σ1 τ c2 ccs1 w2) (hs:L9 S.fr R.fr=true) (j:Nk S R=true) (n:R.h.nx≤N):cP S ρ h w0 b m since clock N base bm (τ.cut S.h.nx N) (L++[born]) c2 ccs1 w2:=by
 have d:=fx.lt;simp only [aA,Bool.and_eq_true] at d;simp only [Nk,Bool.and_eq_true] at j
 have same:∀b' x,S.h.blk.get b'=some x→R.h.blk.get b'=some x:=by
  intro b' x hx
  have hb':b'<S.h.nx:=by
   rcases Nat.lt_or_ge b' S.h.nx with q|q
   ·exact q
   ·rw [fx.swf b' q] at hx;cases hx
  by_cases hm:b'∈R.h.log
  ·exact TM j.2 b' hm hb' x hx
  ·rw [q.log b' hm (.inl hb')];exact hx
 have g:=Ren.le_cut q.le q.free1;obtain ⟨w1,e1⟩:=q.ex1
 refine ⟨q.fr.place hs (fun i x hx=>(q.fr.tm.get i x (Fl j.1 i x hx)).cut (T.allA_get d.1 i x hx)),q.cs.mono g,(q.hr.weaken (fun b' x _ hx=>same b' x hx)).cut (fun b' x hx=>T.allA_get d.2 b' x hx),g.m _ _ q.rb,g.m _ _ q.rm,q.ob,
  fun b' x hx hl=>q.ap b' x (Ren.cut_some hx) ?_,q.im,e1.back q.ex2 q.le q.free1 (fun b' x hx=>(q.new b' x hx).imp id (fun ⟨h1,h2⟩=>⟨h1,by omega⟩)),Ren.cut_free _ _ _⟩
 cases hy:S.h.blk.get b' with
 |none=>exact absurd hy hl
 |some y=>rw [same b' y hy];simp
def oc (E:Env) (S:AS) (ρ:Ren) (h:Aa) (w0:World) (bs:List Frame) (c:Frame) (ccs:List Frame) (w:World) (fr':AF):Prop:=
 ∃σ' c' ccs' w',Steps E.P (lone c (ccs++bs) w) (lone c' (ccs'++bs) w')∧FrR σ' fr' c'∧FrL σ' S.cs ccs'∧HR σ' S.h.blk.get w'∧Ex0 ρ σ' h S.h w0 w'
include hE hO in
theorem UY {callF:Ask→Aa→Option (Bool×AV×Aa)} (hF:C8 E callF) {F b m since clock N:Nat} {es:List Am} {base bm:Bt} {S:AS} {ρ:Ren} {h:Aa} {w0:World} (fx:aY S ρ h b m since clock N es base) {L0:List Nat}
  (hq:∀e∈Bp L0 es,∃R,Fy E callF F b m clock S e=some R∧R.cs=[]∧L9 S.fr R.fr=true∧S.h.nx≤R.h.nx∧R.h.nx≤N∧Nk S R=true) {fr':AF} (hf:A3 S.fr (.tuple [.bool false])=some fr') (bs:List Frame) :
  ∀(n:Nat) (L:List Nat) (σ:Ren) (c:Frame) (ccs:List Frame) (w:World),(Bp L es).length<n→(∀x∈L0,x∈L)→cP S ρ h w0 b m since clock N base bm σ L c ccs w→oc E S ρ h w0 bs c ccs w fr':=by
 intro n
 induction n with
 |zero=>intro L σ c ccs w hn;omega
 |succ n ih=>
  intro L σ c ccs w hn hL iv
  have hin:∀e∈Bp L es,e∈Bp L0 es:=fun e he=>by
   have:=B0.1 he;exact B0.2 ⟨this.1,fun q=>this.2 (hL _ q)⟩
  rcases TT hE hO hF (F:=F) fx iv (fun e he=>by obtain ⟨R,a1,a2,a3,a4,a5,a6⟩:=hq e (hin e he);exact ⟨R,a1,a2,a4,a5⟩) bs with ⟨_,q⟩|⟨e,he,q⟩
  ·exact q fr' hf
  ·obtain ⟨R,a1,a2,a3,a4,a5,a6⟩:=hq e (hin e he);obtain ⟨σ1,τ,c2,ccs1,w2,p1,p2⟩:=q R a1;have iv2:=Wn fx p2 a3 a6 a5;obtain ⟨σ',c',ccs',w',r1,r2⟩:=ih (L++[e.born]) _ c2 ccs1 w2 (by have:=IQ he;omega) (fun x hx=>List.mem_append_left _ (hL x hx)) iv2
   exact ⟨σ',c',ccs',w',Steps.trans p1 r1,r2⟩
include hE hO in
theorem jn {callF:Ask→Aa→Option (Bool×AV×Aa)} (hF:C8 E callF) {F b m since clock N:Nat} {es:List Am} {base bm:Bt} {S R:AS} {ρ:Ren} {h:Aa} {w0:World} (fx:aY S ρ h b m since clock N es base) {e0:Am} (he0:e0∈es) (hR0:Fy E callF F b m clock S e0=some R) (hun:Nk S R=false) (hinj:∀e∈es,e.born=e0.born→e=e0)
  (hq:∀e∈es,∃R',Fy E callF F b m clock S e=some R'∧R'.cs=[]∧L9 S.fr R'.fr=true∧S.h.nx≤R'.h.nx∧R'.h.nx≤N∧(Nk S R'=true∨(some (e0,R)=some (e,R')∧Nk S R'=false)))
  {S1:AS} (hS1:S1={fr:={S.fr with tmps:=Ea S.fr.tmps R.fr.tmps},cs:=S.cs,h:={R.h with log:=R.h.log++S.h.log}}) (hat:Ek b S1.fr=true) (hlt:aA S1=true) (hml:H2 m R.h.log=false)
  (hq1:∀e∈Kk e0.born es,∃R',Fy E callF F b m clock S1 e=some R'∧R'.cs=[]∧L9 S1.fr R'.fr=true∧S1.h.nx≤R'.h.nx∧R'.h.nx≤N∧Nk S1 R'=true) {fr':AF} (hf:A3 S1.fr (.tuple [.bool false])=some fr') (bs:List Frame) :
  ∀(n:Nat) (L:List Nat) (σ:Ren) (c:Frame) (ccs:List Frame) (w:World),(Bp L es).length<n→e0.born∉L→cP S ρ h w0 b m since clock N base bm σ L c ccs w→
   oc E S1 ρ h w0 bs c ccs w fr'∧(∀b',b'∉R.h.log→(b'<S.h.nx∨R.h.nx≤b')→R.h.blk.get b'=S.h.blk.get b'):=by
 intro n
 induction n with
 |zero=>intro L σ c ccs w hn;omega
 |succ n ih=>
  intro L σ c ccs w hn hL iv;rcases TT hE hO hF (F:=F) fx iv (fun e he=>by obtain ⟨R,a1,a2,a3,a4,a5,a6⟩:=hq e (B0.1 he).1;exact ⟨R,a1,a2,a4,a5⟩) bs with ⟨q0,_⟩|⟨e,he,q⟩
  ·have:=B0.2 ⟨he0,hL⟩;rw [q0] at this;cases this
  ·obtain ⟨R',a1,a2,a3,a4,a5,a6⟩:=hq e (B0.1 he).1;obtain ⟨σ1,τ,c2,ccs1,w2,p1,p2⟩:=q R' a1;rcases a6 with a6|⟨a6,a7⟩
   ·have hne:e0.born∉L++[e.born]:=by
     intro q;rcases List.mem_append.1 q with q|q
     ·exact hL q
     ·simp only [List.mem_singleton] at q;have e1:=hinj e (B0.1 he).1 q.symm;subst e1;rw [hR0] at a1;cases a1;rw [hun] at a6;cases a6
    have iv2:=Wn fx p2 a3 a6 a5;obtain ⟨⟨σ',c',ccs',w',r1,r2⟩,r3⟩:=ih (L++[e.born]) _ c2 ccs1 w2 (by have:=IQ he;omega) hne iv2
    exact ⟨⟨σ',c',ccs',w',Steps.trans p1 r1,r2⟩,r3⟩
   ·simp only [Option.some.injEq,Prod.mk.injEq] at a6;obtain ⟨rfl,rfl⟩:=a6
    have hmn:m∉R.h.log:=by
     intro q
     have:∀l:List Nat,m∈l→H2 m l=true:=by
      intro l
      induction l with
      |nil=>intro h;cases h
      |cons a l ih=>intro h;unfold H2;rcases List.mem_cons.1 h with rfl|h<;>simp [*]
     rw [this _ q] at hml;cases hml
    have hmlt:m<S.h.nx:=by
     rcases Nat.lt_or_ge m S.h.nx with q|q
     ·exact q
     ·have:=fx.gm;rw [fx.swf m q] at this;cases this
    have fx1:aY S1 ρ h b m since clock N es base:=by
     subst hS1;exact ⟨fx.h0,fx.hwf,p2.rwf,p2.dead,fx.live,by show R.h.blk.get m=_;rw [p2.log m hmn (.inl hmlt)];exact fx.gm,fx.old,hat,hlt,a5,fx.free⟩
    have iv1:cP S1 ρ h w0 b m since clock N base bm τ (L++[e0.born]) c2 ccs1 w2:=by
     subst hS1;exact ⟨p2.fr.place (f:={S.fr with tmps:=Ea S.fr.tmps R.fr.tmps}) a3 (fun i x hx=>p2.fr.tm.get i x (Ii hx)),p2.cs.mono p2.le,p2.hr,p2.le.m _ _ p2.rb,p2.le.m _ _ p2.rm,p2.ob,p2.ap,p2.im,p2.ex2.tgt (Nat.le_refl _) (fun b' hb'=>.inl hb'),p2.free2⟩
    obtain ⟨σ',c',ccs',w',r1,r2⟩:=UY hE hO hF fx1 (L0:=L++[e0.born]) (fun e he=>hq1 e (by
     have:=B0.1 he;exact H1 this.1 (fun q=>this.2 (by rw [q];simp)))) hf bs ((Bp (L++[e0.born]) es).length+1) (L++[e0.born]) τ c2 ccs1 w2 (by omega) (fun x hx=>hx) iv1
    exact ⟨⟨σ',c',ccs',w',Steps.trans p1 r1,r2⟩,p2.log⟩
include hE hO in
theorem VA {callF:Ask→Aa→Option (Bool×AV×Aa)} (hF:C8 E callF) {F:Nat} {ρ:Ren} {s s':AS} {c:Frame} {ccs:List Frame} {w:World} (hsr:SR ρ s c ccs w) (hwf:WF s.h) (hx:ZY E callF F s=some s') (hfree:AJ ρ s.h.nx s'.h.nx) (bs:List Frame) :
  ∃σ c' ccs' w',Steps E.P (lone c (ccs++bs) w) (lone c' (ccs'++bs) w')∧SR σ s' c' ccs' w'∧Ext ρ σ s.h s'.h w w':=by
 unfold ZY at hx;split at hx
 ·cases hx
 rename_i b m es clock hit;obtain ⟨since,hat0,hgb,hgm,hold,hinc,hmb⟩:=mq hit;obtain ⟨all,o,r,k,it,hmf,ht,hgd,hop,hev⟩:=QV hat0;have hvi:=hsr.fr.evR it;rw [hev] at hvi
 obtain ⟨base,hb⟩:∃base,ρ b=some base:=by
  generalize c.eval it=cv at hvi;generalize hq:AV.ptr b 0=q at hvi;cases hvi<;>first | (cases hq;done)|skip
  cases hq;exact ⟨_,‹_›⟩
 obtain ⟨h0,bm,hm,ho⟩:=hsr.h.blk b base _ hb hgb;generalize hS:({s with fr:={s.fr with tmps:=Zs (eu s.fr.todo) s.fr.tmps},h:=s.h.strike b}:AS)=S at hx
 have hSn:S.h.nx=s.h.nx:=by rw [←hS];rfl
 have hSb:∀b',S.h.blk.get b'=if b=b' then none else s.h.blk.get b':=fun b'=>by rw [←hS];exact T.get_del _ _ _
 have hScs:S.cs=s.cs:=by rw [←hS]
 have hSlog:S.h.log=b::s.h.log:=by rw [←hS];rfl
 have swf:WF S.h:=fun b' hb'=>by
  rw [hSb];split
  ·rfl
  ·exact hwf b' (by omega)
 have iv0:∀N,AJ ρ s.h.nx N→cP S ρ s.h w b m since clock N base bm ρ [] c ccs w:=by
  intro N hN;refine ⟨?_,by rw [hScs];exact hsr.cs,hsr.h.restrict (fun b'=>?_),hb,hm,ho,fun b' x hx hl=>?_,fun k arr hk=>hsr.h.off k arr b base hk hb (by rw [hgb];simp),?_,by rw [hSn];exact hN⟩
  ·rw [←hS];exact ⟨hsr.fr.fn,⟨hsr.fr.tm.size,fun i x hx=>hsr.fr.tm.get i x (QI hx)⟩,hsr.fr.todo,hsr.fr.defers,hsr.fr.mode,hsr.fr.kind,hsr.fr.round⟩
  ·rw [hSb];split
   ·exact .inl rfl
   ·exact .inr rfl
  ·rw [hSb] at hl;split at hl
   ·exact absurd rfl hl
   ·rename_i hne;exact hsr.h.apart b' b x base (fun e=>hne e.symm) hx hb hl (by rw [hgb];simp)
  ·exact (Ext.refl ρ s.h w).ex.tgt (Nat.le_of_eq hSn.symm) (fun b' hl=>by
    rw [hSb] at hl;split at hl
    ·exact absurd rfl hl
    ·exact .inl hl)
 have fxOf:∀N,S.h.nx≤N→AJ ρ s.h.nx N→Ek b S.fr=true→aA S=true→aY S ρ s.h b m since clock N es base:=by
  intro N h1 h2 h3 h4;exact ⟨h0,hwf,swf,by rw [hSb,if_pos rfl],by rw [hgb];simp,by rw [hSb,if_neg (fun e=>hmb e.symm)];exact hgm,hold,h3,h4,h1,h2⟩
 unfold oD at hx;split at hx
 ·
  rename_i n hat hgo;rw [Bool.and_eq_true] at hat;obtain ⟨g1,g2⟩:=GY hgo;unfold MV at hx;split at hx
  ·rename_i fr' hf;cases hx;have fx:=fxOf n g1 hfree hat.1 hat.2
   obtain ⟨σ,c',ccs',w',r1,r2,r3,r4,r5⟩:=UY hE hO hF fx (L0:=[]) (fun e he=>by
    obtain ⟨R,a1,a2,a3,a4,a5,a6⟩:=g2 e (B0.1 he).1;refine ⟨R,a1,a2,a3,a4,a5,?_⟩;rcases a6 with q|⟨q,_⟩
    ·exact q
    ·cases q) hf bs _ [] ρ c ccs w (Nat.lt_succ_self _) (fun x hx=>hx) (iv0 n hfree)
   refine ⟨σ,c',ccs',w',r1,⟨r2,r3,r4⟩,(r5.tgt (h2:={S.h with nx:=n}) g1 (fun b' hb'=>.inl hb')).ext ⟨[b],hSlog,fun b' hb' _=>?_⟩⟩
   simp only [List.mem_singleton] at hb';show S.h.blk.get b'=_;rw [hSb,if_neg (fun e=>hb' e.symm)]
  ·cases hx
 ·
  rename_i e R n hat hgo;rw [Bool.and_eq_true] at hat;obtain ⟨g1,g2⟩:=GY hgo;obtain ⟨s1,s2,s3⟩:=LL hgo;generalize hS1:({fr:={S.fr with tmps:=Ea S.fr.tmps R.fr.tmps},cs:=S.cs,h:={R.h with log:=R.h.log++S.h.log}}:AS)=S1 at hx
  have hS1':S1={fr:={S.fr with tmps:=Ea S.fr.tmps R.fr.tmps},cs:=S.cs,h:={R.h with log:=R.h.log++S.h.log}}:=hS1.symm
  unfold ic at hx;split at hx
  ·rename_i n1 hat1 hgo1;simp only [Bool.and_eq_true,Bool.not_eq_true'] at hat1;obtain ⟨k1,k2⟩:=GY hgo1;unfold MV at hx;split at hx
   ·rename_i fr' hf;cases hx;have fx:=fxOf (max n n1) (by omega) hfree hat.1 hat.2
    obtain ⟨R2,a1,_,_,_,a5,_⟩:=g2 e s1;rw [s2] at a1;cases a1
    obtain ⟨⟨σ,c',ccs',w',r1,r2,r3,r4,r5⟩,r6⟩:=jn hE hO hF fx s1 s2 s3 (fun e' he' hb'=>(SY hinc).2 e' he' e s1 hb') (fun e' he'=>by
     obtain ⟨R',a1,a2,a3,a4,a5,a6⟩:=g2 e' he';exact ⟨R',a1,a2,a3,a4,by omega,a6⟩) hS1' hat1.1 hat1.2.1 hat1.2.2 (fun e' he'=>by
     obtain ⟨R',a1,a2,a3,a4,a5,a6⟩:=k2 e' he';refine ⟨R',a1,a2,a3,a4,by omega,?_⟩
     rcases a6 with q|⟨q,_⟩
     ·exact q
     ·cases q) hf bs _ [] ρ c ccs w (Nat.lt_succ_self _) (by simp) (iv0 _ hfree)
    refine ⟨σ,c',ccs',w',r1,⟨r2,r3,r4⟩,(r5.tgt (h2:={S1.h with nx:=max n n1}) (by rw [show S1.h.nx=R.h.nx by rw [hS1']];exact Nat.le_trans a5 (Nat.le_max_left n n1)) (fun b' hb'=>.inl hb')).ext ⟨R.h.log++[b],?_,fun b' hb' hr'=>?_⟩⟩
    ·rw [hS1'];show R.h.log++S.h.log=_;rw [hSlog];simp
    ·simp only [List.mem_append,List.mem_singleton,not_or] at hb'
     have:S1.h.blk.get b'=S.h.blk.get b':=by
      rw [hS1'];refine r6 b' hb'.1 ?_;rcases hr' with q|q
      ·left;omega
      ·right;have q:max n n1≤b':=q;omega
     show S1.h.blk.get b'=_;rw [this,hSb,if_neg (fun e=>hb'.2 e.symm)]
   ·cases hx
  ·cases hx
 ·cases hx
end
end Go.AE
namespace Go.AE
variable [Gl:AH]
variable [U:Unk]
section
variable {E:Env} (hE:OK E) (hO:Ai E U.V.fn)
include hE hO
theorem eQ:∀(f:Nat) (G:FuncId) (H:Bool) (s:AS) (p:Ren) (c:Frame) (u:List Frame) (w:World) (ok:Bool) (v:AV) (h:Aa),SR p s c u w→WF s.h→FQ E f G H s=some (ok,v,h)→AJ p s.h.nx h.nx→
  ∀base:List Frame,∃j q C w1 m,Steps E.P (lone c (u++base) w) (lone q base w1)∧q.fn=G∧(H=false→q.roundOf=none)∧Js E.P q w1 ok C m∧VR j v C∧HR j h.blk.get m∧Ext p j s.h h w m:=by
 intro f
 induction f with
 |zero=>intro G H s p c u w ok v h o hwf d;cases d
 |succ f ih=>
  intro G H s p c u w ok v h o hwf d a base
  have Q:∀(y:AS) (j:Ren) (N:Frame) (i:List Frame) (w1:World),Steps E.P (lone c (u++base) w) (lone N (i++base) w1)→SR j y N i w1→Ext p j s.h y.h w w1→FQ E f G H y=some (ok,v,h)→
    ∃j q C w1 m,Steps E.P (lone c (u++base) w) (lone q base w1)∧q.fn=G∧(H=false→q.roundOf=none)∧Js E.P q w1 ok C m∧VR j v C∧HR j h.blk.get m∧Ext p j s.h h w m:=by
   intro y j N i w1 M Y Z h4;obtain ⟨τ,q,C,w2,m,z,B,t,R,q5,q6,q7⟩:=ih G H y j N i w1 ok v h Y (Z.wf hwf) h4 (Z.free a) base;exact ⟨τ,q,C,w2,m,Steps.trans M z,B,t,R,q5,q6,Z.trans q7 a⟩
  have hC:∀(fr:AF) (g K:Aa) (ok:Bool) (v:AV) (p:Ren) (q:Frame) (w:World),FrR p fr q→HR p g.blk.get w→WF g→FQ E f fr.fn true {fr,cs:=[],h:=g}=some (ok,v,K)→AJ p g.nx K.nx→
    ∀(c0:Frame) (base:List Frame),∃j C m,B4 E.P (lone q (c0::base) w) c0 base ok C m∧VR j v C∧HR j K.blk.get m∧Ext p j g K w m:=by
   intro fr g K ok v p q w I hr hwf d a c0 base;obtain ⟨j,A,C,w1,m,z,B,t,R,q5,q6,q7⟩:=ih fr.fn true {fr,cs:=[],h:=g} p q [] w ok v K ⟨I,.nil,hr⟩ hwf d a (c0::base);refine ⟨j,C,m,?_,q5,q6,q7⟩;have:=Steps.trans z (Steps.one (R.back c0 base));cases ok<;>exact this
  have hF:C8 E (OM E (FQ E f)):=by
   refine ⟨?_,?_⟩
   ·intro f' args aa g K ok v p w ha hr hwf d a;simp only [OM] at d;split at d
    ·rename_i r O;cases d;exact Eg hE hO O ha hr hwf a
    ·split at d
     ·rename_i fr I;exact hC fr g K ok v p _ w (CO hE I ha) hr hwf d a
     ·cases d
   ·intro l args g K ok v p w hr hwf d a;simp only [OM] at d;split at d
    ·rename_i fr I;exact ⟨fr,I,fun q ab=>hC fr g K ok v p q w ab hr hwf d a⟩
    ·cases d
  simp only [FQ] at d;split at d
  ·rename_i y S;split at d
   ·rename_i L;have n:=BY f G H y ok v h d;obtain ⟨j,A,i,m,z,B,t⟩:=MY hE hO o hwf S (fun b M Y=>a b M (by omega)) base
    exact Q y j A i m z B t d
   ·cases d
  split at d
  ·rename_i y J;split at d
   ·rename_i L;have n:=BY f G H y ok v h d;obtain ⟨j,A,i,m,z,B,t⟩:=Gq (base:=base) hE o J (fun b M Y=>a b M (by omega))
    exact Q y j A i m (Steps.one z) B t d
   ·cases d
  ·rename_i ah C h' J;split at d
   ·rename_i L;simp only [Option.some.injEq,Prod.mk.injEq] at d;obtain ⟨rfl,rfl,rfl⟩:=d;obtain ⟨rfl,x,m,z,B,t,R⟩:=Ih hE o J;obtain ⟨b1,b2⟩:=Aq L;have ac:=Aw (Aq b1).2;refine ⟨p,c,x,w,m,Steps.refl _ _,o.fr.fn.trans ac,fun ad=>?_,R,z,B,t⟩
    subst ad;have D:=o.fr.round;simp only [Bool.false_or,Option.isNone_iff_eq_none] at b2;rw [b2] at D;exact D.none_inv
   ·cases d
  ·rename_i s2 ops k J;obtain ⟨rfl,hm,id,ht⟩:=CC J;split at d
   ·rename_i tmps M hd;have n:=BY f G H _ ok v h d;obtain ⟨j,N,m,z,B,t⟩:=FN hE hF o hwf hm ht hd (fun b a1 a2=>a b a1 (Nat.lt_of_lt_of_le a2 n)) base
    exact Q _ j N u m z B t d
   ·rename_i v1 tmps M hd;have n:=BY f G H _ ok v h d;obtain ⟨j,N,m,z,B,t⟩:=FN hE hF o hwf hm ht hd (fun b a1 a2=>a b a1 (Nat.lt_of_lt_of_le a2 n)) base
    exact Q _ j N u m z B t d
   ·cases d
  ·split at d
   ·rename_i y hl;split at d
    ·rename_i L;have n:=BY f G H y ok v h d;obtain ⟨j,A,i,m,z,B,t⟩:=VA hE hO hF o hwf hl (fun b M Y=>a b M (by omega)) base
     exact Q y j A i m z B t d
    ·cases d
   split at d
   ·rename_i al ae;obtain ⟨j1,j2,j3,j4⟩:=Vq d;obtain ⟨y,W,ai,j,A,i,m,z,B,t⟩:=kY hE o ae base;obtain ⟨h',af,X⟩:=j4 _ (List.mem_map.2 ⟨y,W,rfl⟩);have F:AJ p s.h.nx h'.nx:=by rw [X];exact a
    obtain ⟨τ,q,C,w2,w3,t1,t2,t3,t4,t5,t6,t7⟩:=ih G H y j A i m ok v h' B (t.wf hwf) af (t.free F) base;have e:=t.trans t7 F;refine ⟨τ,q,C,w2,w3,Steps.trans (Steps.one z) t1,t2,t3,t4,t5,t6.restrict (fun b=>.inl (by rw [j1];exact T.get_nil _)),⟨e.le,j3,fun b bs L=>by rw [←X];exact e.new b bs L,e.calm,e.kept,⟨_,j2,fun b L aj=>?_⟩,fun b L=>absurd (by rw [j1];exact T.get_nil _) L,e.imm⟩⟩
    rw [j1,T.get_nil];refine Eq.symm ?_;by_cases ag:b<s.h.nx
    ·exact N2 s.h s.h.nx b ag L
    ·exact hwf b (by omega)
   ·cases d
end
theorem Orc.valid {E:Env} (hE:∀[U:Unk],U.K=(Env.of E.P).kinds→OK E) {G:Nat→D→D} (hO:Ai E G) {N:Nat} {e:Orc} (h:∀[F:Facts],XG E N e=true):e.Valid E.P G:=by
 intro U hK I ρ w r J hr hwf j c0 base;have hE:=hE hK;subst I;have l:=h (F:=U.toFacts);unfold XG at l;split at l
 ·rename_i ok v g i;simp only [Bool.and_eq_true,beq_iff_eq] at l;obtain ⟨⟨⟨⟨h1,h2⟩,h3⟩,h4⟩,h5⟩:=l;have C:=Nat.eq_of_beq_eq_true h4;unfold tW at i;split at i
  ·rename_i fr t;obtain ⟨σ,cf,v',w1,w',q1,q2,q3,q4,q5,q6,q7⟩:=eQ hE hO N e.f false _ ρ _ [] w ok v g ⟨CO hE t J,.nil,hr⟩ hwf i (by show AJ ρ e.nx g.nx;rw [C];exact j) (c0::base)
   refine ⟨σ,v',w',g,?_,Do _ _ h2▸q5,q6,q7,C1 h3,C,M3 h5⟩;rw [←h1];have:=Steps.trans q1 (Steps.one (q4.back c0 base));cases ok<;>exact this
  ·cases i
 ·cases l
end Go.AE
namespace Go.AE
variable [Gl:AH]
structure PR where
 o:Oper
 looks:List Tmp
 mask:Nat
 free:List Nat
def eM (a:List Nat):List Edge→Option Nat
 |[]=>some 0
 |e::r=>match eM a r with
  |none=>none
  |some m=>match Region.binds .any e with
   |false=>some m
   |true=>match a[e.on]? with
    |some x=>some (m ||| x ||| 2^e.on)
    |none=>none
def N0 (m n:Nat):List Nat:=(List.range n).filter fun p=>!Nat.beq (m/2^(n-1-p)%2) 1
def uc (all:Array Oper) (x y:Oper):Bool:=!bR (Bg all y) x.dst && !bR (Bg all x) y.dst && !gR x.dst y.dst
def ti (all:Array Oper) (done:List Oper) (o:Oper) (l:List Nat):Bool:=l.all fun p=>match done[p]? with
 |some x=>uc all x o
 |none=>false
def Oo (all:Array Oper):List Oper→List Nat→List Oper→Option (List PR)
 |[],_,_=>some []
 |o::rest,a,done=>match eM a o.after.toList with
  |none=>none
  |some m=>match ti all done o (N0 m done.length) with
   |false=>none
   |true=>match Oo all rest (a++[m]) (o::done) with
    |none=>none
    |some l=>some (⟨o,Bg all o,m,N0 m done.length⟩::l)
def aJ (x y:Rc):Bool:=H8 x.wr y.fp&&H8 y.wr x.fp&&Kt x.wr y.wr&&fb x.lo x.hi y.wr
def Ack (x y:Rc):Bool:=List.casesOn (motive:=fun _=>Bool) x.wr (List.casesOn (motive:=fun _=>Bool) y.wr true (fun _ _=>aJ x y)) (fun _ _=>aJ x y)
def Akj (p:Nat):List Rc→Option Rc:=Nat.rec (motive:=fun _=>List Rc→Option Rc) (fun l=>List.casesOn (motive:=fun _=>Option Rc) l none (fun x _=>some x)) (fun _ ih l=>List.casesOn (motive:=fun _=>Option Rc) l none (fun _ r=>ih r)) p
def FG (y:Rc) (a:List Rc):List Nat→Bool
 |[]=>true
 |p::r=>match Akj p a with
  |some x=>match Ack x y with
   |true=>FG y a r
   |false=>false
  |none=>false
def Apl (n:Nat) (k:Nat→Aa):Aa:=Nat.casesOn (motive:=fun _=>Aa) n (k 0) (fun m=>k (Nat.succ m))
def Rp (h g:Aa):Aa:=Apl g.nx fun n=>{blk:=Im (GC h.blk g.blk (BD h.nx g.log)) g.blk h.nx (n-h.nx),nx:=n,log:=BD h.nx g.log++h.log}
def RT (h g:Aa):Aa:=List.casesOn (motive:=fun _=>Aa) g.log (Bool.casesOn (motive:=fun _=>Aa) (Nat.beq g.nx h.nx) (Rp h g) h) (fun _ _=>Rp h g)
theorem cC (h g:Aa):Rp h g=AX h g:=by
 unfold Rp AX Apl;cases g.nx<;>rfl
theorem aU (h g:Aa):RT h g=AX h g:=by
 unfold RT;rw [cC];cases b:g.log with
 |cons a r=>rfl
 |nil=>
  show (Bool.casesOn (motive:=fun _=>Aa) (Nat.beq g.nx h.nx) (AX h g) h:Aa)=AX h g
  cases c:Nat.beq g.nx h.nx with
  |false=>rfl
  |true=>
   have d:g.nx=h.nx:=Nat.eq_of_beq_eq_true c;show h=AX h g;unfold AX;rw [b,d,Nat.sub_self];cases h;rfl
section
variable [U:Facts]
abbrev DrR:=Option (Option AV×T AV×Aa)
def Uh (E:Env) (b:Ask→Aa→Option (Bool×AV×Aa)) (all:Array Oper) (nt:Nat) (F:Nat):List PR→List Rc→T AV→Aa→DrR:=
 Nat.rec (motive:=fun _=>List PR→List Rc→T AV→Aa→DrR) (fun _ _ _ _=>none) (fun _ ih l a tmps h=>
  List.casesOn (motive:=fun _=>DrR) l (some (none,tmps,h)) (fun p rest=>
   Option.casesOn (motive:=fun _=>DrR) (C7 E b all p.o (A0 tmps p.looks) h) none (fun d=>
    Bool.casesOn (motive:=fun _=>DrR) (Nat.ble h.nx d.g.nx) none (Bool.casesOn (motive:=fun _=>DrR) d.ok none
     (Bool.casesOn (motive:=fun _=>DrR) (FG {wr:=BD h.nx d.g.log,fp:=d.fp,lo:=h.nx,hi:=d.g.nx,dst:=p.o.dst,looks:=p.looks,mask:=p.mask} a p.free) none
      (Option.casesOn (motive:=fun _=>DrR) (Ei nt tmps p.o.dst d.v) none (fun c=>ih rest ({wr:=BD h.nx d.g.log,fp:=d.fp,lo:=h.nx,hi:=d.g.nx,dst:=p.o.dst,looks:=p.looks,mask:=p.mask}::a) c (RT h d.g)))))))) F
def eS (E:Env) (a:Ask→Aa→Option (Bool×AV×Aa)) (all:Array Oper) (nt:Nat) (tmps:T AV) (h:Aa):DrR:=
 Option.casesOn (motive:=fun _=>DrR) (Option.casesOn (motive:=fun _=>DrR) (Oo all all.toList [] []) none (fun b=>Uh E a all nt 100000 b [] tmps h)) (BH E a all nt all.toList [] tmps h) some
end
theorem Ame (a:List Rc):∀l:List Edge,eM (a.map Rc.mask) l=BI a l:=by
 intro l
 induction l with
 |nil=>rfl
 |cons e r ih=>
  unfold eM BI;rw [ih];cases BI a r with
  |none=>rfl
  |some m=>
   simp only;cases Region.binds .any e with
   |false=>rfl
   |true=>
    simp only [List.getElem?_map];cases a[e.on]?<;>rfl
theorem lx:∀(p:Nat) (l:List Rc),Akj p l=l[p]?:=by
 intro p
 induction p with
 |zero=>intro l;cases l<;>rfl
 |succ p ih=>intro l;cases l with
  |nil=>rfl
  |cons x r=>exact ih r
theorem lI {x y:Rc} (h:Ack x y=true):aJ x y=true:=by
 unfold Ack at h;cases b:x.wr with
 |cons a r=>rw [b] at h;exact h
 |nil=>
  cases c:y.wr with
  |cons a r=>rw [b,c] at h;exact h
  |nil=>
   unfold aJ;rw [b,c];cases x.fp<;>cases y.fp<;>rfl
theorem Xj {y:Rc} {a:List Rc}:∀{l:List Nat},FG y a l=true→∀p∈l,∃x,a[p]?=some x∧aJ x y=true:=by
 intro l
 induction l with
 |nil=>intro _ p b;cases b
 |cons q r ih=>
  intro h p b;unfold FG at h;split at h
  ·rename_i x c;split at h
   ·rename_i d;rcases List.mem_cons.1 b with rfl|b
    ·exact ⟨x,by rw [←lx];exact c,lI d⟩
    ·exact ih h p b
   ·cases h
  ·cases h
theorem UT {y:Rc}:∀(l:List Rc) (i:Nat),(∀j x,l[j]?=some x→(Nat.beq (y.mask/2^(i+j)%2) 1||x.apart y)=true)→C3 y l i=true:=by
 intro l
 induction l with
 |nil=>intro i _;rfl
 |cons x r ih=>
  intro i h;unfold C3;have h0:=h 0 x rfl;rw [Nat.add_zero] at h0;rw [h0];exact ih (i+1) (fun j z a=>by have:=h (j+1) z a;rwa [show i+(j+1)=i+1+j from by omega] at this)
inductive RL2 (all:Array Oper):List Rc→List Oper→Prop
 |nil:RL2 all [] []
 |cons {x:Rc} {o:Oper} {l:List Rc} {l':List Oper} (hd:x.dst=o.dst) (hl:x.looks=Bg all o) (k:RL2 all l l'):RL2 all (x::l) (o::l')
theorem RL2.len {all:Array Oper} {l:List Rc} {l':List Oper} (h:RL2 all l l'):l.length=l'.length:=by
 induction h with
 |nil=>rfl
 |cons _ _ _ ih=>simp [ih]
theorem RL2.get {all:Array Oper} {l:List Rc} {l':List Oper} (h:RL2 all l l'):∀{p:Nat} {x:Rc},l[p]?=some x→∃o,l'[p]?=some o∧x.dst=o.dst∧x.looks=Bg all o:=by
 induction h with
 |nil=>intro p x i;simp at i
 |cons j r k ih=>
  intro p x i;cases p with
  |zero=>simp at i;subst i;exact ⟨_,rfl,j,r⟩
  |succ p=>exact ih (by simpa using i)
theorem jB {all:Array Oper} {a:List Rc} {done:List Oper} {o:Oper} {y:Rc} {m:Nat} (hr:RL2 all a done) (e:y.mask=m) (f:y.dst=o.dst) (g:y.looks=Bg all o)
  (l:ti all done o (N0 m done.length)=true) (n:FG y a (N0 m done.length)=true):C3 y a.reverse 0=true:=by
 refine UT _ _ fun j x h=>?_
 rw [Nat.zero_add,e]
 have p:j<a.length:=by
  have:=(List.getElem?_eq_some_iff.1 h).1;simpa using this
 have d:a[a.length-1-j]?=some x:=by
  rw [List.getElem?_reverse (by simpa using p)] at h
  exact h
 cases q:Nat.beq (m/2^j%2) 1 with
 |true=>rfl
 |false=>
  have c:a.length-1-j∈N0 m done.length:=by
   unfold N0;rw [List.mem_filter,List.mem_range,←hr.len];refine ⟨by omega,?_⟩
   rw [show a.length-1-(a.length-1-j)=j from by omega,q]
   rfl
  obtain ⟨x1,k,i⟩:=Xj n _ c;rw [d] at k;cases k;obtain ⟨o1,r,s,t⟩:=hr.get d;have b:=List.all_eq_true.1 l _ c;rw [r] at b;simp only [uc] at b;rw [Bool.false_or];unfold Rc.apart;unfold aJ at i;rw [s,t,f,g];simp only [Bool.and_eq_true] at i b ⊢;simp only [i,b,and_self]
section
variable [U:Facts]
theorem XF {E:Env} {a:Ask→Aa→Option (Bool×AV×Aa)} {all:Array Oper} {nt F:Nat} (p:PR) (rest:List PR) (b:List Rc) (tmps:T AV) (h:Aa) :
  Uh E a all nt (F+1) (p::rest) b tmps h=(match C7 E a all p.o (A0 tmps p.looks) h with
   |none=>none
   |some d=>match Nat.ble h.nx d.g.nx with
    |false=>none
    |true=>match d.ok with
     |false=>none
     |true=>match FG {wr:=BD h.nx d.g.log,fp:=d.fp,lo:=h.nx,hi:=d.g.nx,dst:=p.o.dst,looks:=p.looks,mask:=p.mask} b p.free with
      |false=>none
      |true=>match Ei nt tmps p.o.dst d.v with
       |none=>none
       |some c=>Uh E a all nt F rest ({wr:=BD h.nx d.g.log,fp:=d.fp,lo:=h.nx,hi:=d.g.nx,dst:=p.o.dst,looks:=p.looks,mask:=p.mask}::b) c (RT h d.g)):=by
 show Option.casesOn (motive:=fun _=>DrR) (C7 E a all p.o (A0 tmps p.looks) h) none _=_
 cases C7 E a all p.o (A0 tmps p.looks) h with
 |none=>rfl
 |some d=>
  show Bool.casesOn (motive:=fun _=>DrR) (Nat.ble h.nx d.g.nx) none _=_
  simp only;cases Nat.ble h.nx d.g.nx with
  |false=>rfl
  |true=>
   show Bool.casesOn (motive:=fun _=>DrR) d.ok none _=_
   simp only;cases d.ok with
   |false=>rfl
   |true=>
    show Bool.casesOn (motive:=fun _=>DrR) (FG _ b p.free) none _=_
    simp only;cases FG {wr:=BD h.nx d.g.log,fp:=d.fp,lo:=h.nx,hi:=d.g.nx,dst:=p.o.dst,looks:=p.looks,mask:=p.mask} b p.free with
    |false=>rfl
    |true=>
     show Option.casesOn (motive:=fun _=>DrR) (Ei nt tmps p.o.dst d.v) none _=_
     simp only;cases Ei nt tmps p.o.dst d.v with
     |none=>rfl
     |some c=>rfl
theorem jE {E:Env} {c:Ask→Aa→Option (Bool×AV×Aa)} {all:Array Oper} {nt:Nat}:∀(l:List Oper) (n:List Nat) (done:List Oper) (p:List PR) (F:Nat) (b:List Rc) (tmps:T AV) (h:Aa) (r:Option AV×T AV×Aa),
  Oo all l n done=some p→n=b.reverse.map Rc.mask→RL2 all b done→Uh E c all nt F p b tmps h=some r→BH E c all nt l b.reverse tmps h=some r:=by
 intro l
 induction l with
 |nil=>
  intro n done p F b tmps h r e q hr a;cases e;cases F with
  |zero=>cases a
  |succ F=>exact a
 |cons o rest ih=>
  intro n done p F b tmps h r e q hr a;unfold Oo at e;split at e
  ·cases e
  ·rename_i m w;split at e
   ·cases e
   ·rename_i s;split at e
    ·cases e
    ·rename_i y t;cases e;cases F with
     |zero=>cases a
     |succ F=>
      rw [q,Ame] at w;unfold BH;rw [w];rw [XF] at a;simp only at a ⊢;cases j:C7 E c all o (A0 tmps (Bg all o)) h with
      |none=>rw [j] at a;cases a
      |some d=>
       rw [j] at a;simp only at a ⊢;cases x:Nat.ble h.nx d.g.nx with
       |false=>rw [x] at a;cases a
       |true=>
        rw [x] at a;simp only at a;cases k:d.ok with
        |false=>rw [k] at a;cases a
        |true=>
         rw [k] at a;simp only at a ⊢;cases i:FG {wr:=BD h.nx d.g.log,fp:=d.fp,lo:=h.nx,hi:=d.g.nx,dst:=o.dst,looks:=Bg all o,mask:=m} b (N0 m done.length) with
         |false=>rw [i] at a;cases a
         |true=>
          rw [i] at a;simp only at a;rw [jB hr rfl rfl rfl s i];simp only;cases f:Ei nt tmps o.dst d.v with
          |none=>rw [f] at a;cases a
          |some u=>
           rw [f] at a;simp only [aU] at a ⊢;have:=ih _ _ _ _ _ _ _ _ t (by simp [q]) (RL2.cons rfl rfl hr) a
           simpa using this
theorem In {E:Env} {a:Ask→Aa→Option (Bool×AV×Aa)} {all:Array Oper} {nt:Nat} {tmps:T AV} {h:Aa} {r:Option AV×T AV×Aa} (b:eS E a all nt tmps h=some r):BH E a all nt all.toList [] tmps h=some r:=by
 unfold eS at b;cases c:Oo all all.toList [] [] with
 |none=>rw [c] at b;exact b
 |some e=>
  rw [c] at b;simp only at b;cases d:Uh E a all nt 100000 e [] tmps h with
  |none=>rw [d] at b;exact b
  |some x=>
   rw [d] at b;cases b;exact jE _ _ _ _ _ [] _ _ _ c rfl .nil d
end
end Go.AE
namespace Go.AE
variable [Gl:AH]
structure CX where
 fn:FuncId
 nt:Nat
 defers:List AD
 kind:CallKind
 round:Option Nat
 cs:List AF
def CX.as (X:CX) (tmps:T AV) (todo:List AI) (mode:Hw) (h:Aa):AS:=⟨⟨X.fn,X.nt,tmps,todo,X.defers,mode,X.kind,X.round⟩,X.cs,h⟩
inductive QSt where
 |o (l:List Oper) (all:Array Oper) (k:List AI) (tmps:T AV) (h:Aa) (X:CX)
 |c (c:Code) (k:List AI) (tmps:T AV) (h:Aa) (X:CX)
 |k (k:List AI) (tmps:T AV) (h:Aa) (X:CX)
 |g (s:AS)
abbrev R3:=Option (Bool×AV×Aa)
def OL (n:Nat) (k:Nat→R3):R3:=Nat.casesOn (motive:=fun _=>R3) n (k 0) (fun m=>k (Nat.succ m))
theorem Kz (n:Nat) (k:Nat→R3):OL n k=k n:=by cases n<;>rfl
def WD (h:Aa) (k:Aa→R3):R3:=Aa.casesOn (motive:=fun _=>R3) h (fun b n l=>OL n (fun n=>k ⟨b,n,l⟩))
theorem QP (h:Aa) (k:Aa→R3):WD h k=k h:=by
 obtain ⟨b,n,l⟩:=h;exact Kz n (fun n=>k ⟨b,n,l⟩)
section
variable [U:Facts]
def JH (ih:QSt→R3) (s:AS):R3:=match s with
 |⟨⟨fn,nt,tmps,todo,defers,mode,kind,round⟩,cs,h⟩=>match mode with
  |.run=>OL fn fun fn=>OL nt fun nt=>WD h fun h=>ih (.k todo tmps h ⟨fn,nt,defers,kind,round,cs⟩)
  |m=>ih (.g ⟨⟨fn,nt,tmps,todo,defers,m,kind,round⟩,cs,h⟩)
def gen (E:Env) (d:FuncId) (e:Bool) (ih:QSt→R3) (a:Ask→Aa→R3) (s:AS):R3:=match Ww E s with
   |some b=>(match Nat.ble s.h.nx b.h.nx with
     |true=>JH ih b
     |false=>none)
   |none=>match A4 E s with
    |.next b=>match Nat.ble s.h.nx b.h.nx with
      |true=>JH ih b
      |false=>none
    |.done ok v h=>match Nat.ble s.h.nx h.nx&&Nat.beq s.fr.fn d&&(e||s.fr.round.isNone) with
      |true=>some (ok,v,h)
      |false=>none
    |.draw s ops k=>
      match eS E a ops s.fr.nt s.fr.tmps s.h with
      |some (none,tmps,h)=>JH ih {s with fr:={s.fr with tmps,todo:=k},h}
      |some (some v,tmps,h)=>JH ih {s with fr:={s.fr with tmps,todo:=.dead::k,mode:=.panic [(v,false)]},h}
      |none=>none
    |.bad _=>match ZY E a 100000 s with
      |some c=>match Nat.ble s.h.nx c.h.nx with
        |true=>JH ih c
        |false=>none
      |none=>none
def zU (v:Value):AV:=match ofValue v with
  |some a=>a
  |none=>.top
def Ap1 (i:Tmp) (t:T AV):AV:=Option.casesOn (motive:=fun _=>AV) (T.get t i) .top fun v=>v
def Acg (v:Value) (t:T AV):AV:=zU v
def Anb (g:Nat) (t:T AV):AV:=.glob g 0
def Ao8 (g:FuncId) (t:T AV):AV:=.func (.func g) [] []
def evF (t:T AV) (x:Operand):AV:=Operand.casesOn (motive:=fun _=>T AV→AV) x Ap1 Acg Anb Ao8 t
abbrev OT:=Env→(QSt→R3)→Oper→List Oper→Array Oper→List AI→Option Tmp→T AV→Aa→CX→R3
def onK (E:Env) (ih:QSt→R3) (rest:List Oper) (all:Array Oper) (k:List AI) (dst:Option Tmp) (tmps:T AV) (X:CX) (v:AV) (h:Aa):R3:=
 Option.casesOn (motive:=fun _=>R3) dst (ih (.o rest all k tmps h X)) (fun d=>Bool.casesOn (motive:=fun _=>R3) (Nat.blt d X.nt) none (ih (.o rest all k (T.set tmps d v) h X)))
def dQ (E:Env) (ih:QSt→R3) (rest:List Oper) (all:Array Oper) (k:List AI) (dst:Option Tmp) (tmps:T AV) (X:CX) (v:AV) (h:Aa):R3:=WD h fun h=>onK E ih rest all k dst tmps X v h
theorem MJ (E:Env) (ih:QSt→R3) (rest:List Oper) (all:Array Oper) (k:List AI) (dst:Option Tmp) (tmps:T AV) (X:CX) (v:AV) (h:Aa):dQ E ih rest all k dst tmps X v h=onK E ih rest all k dst tmps X v h:=QP _ _
def DB (E:Env) (ih:QSt→R3) (o:Oper) (rest:List Oper) (all:Array Oper) (k:List AI) (tmps:T AV) (h:Aa) (X:CX):R3:=ih (.g (X.as tmps (.ops all (o::rest)::k) .run h))
def MD (E:Env) (ih:QSt→R3) (o:Oper) (rest:List Oper) (all:Array Oper) (k:List AI) (dst:Option Tmp) (tmps:T AV) (h:Aa) (X:CX) (r:Option AV):R3:=
 Option.casesOn (motive:=fun _=>R3) r (DB E ih o rest all k tmps h X) (fun v=>onK E ih rest all k dst tmps X v h)
def Wc (E:Env) (ih:QSt→R3) (o:Oper) (rest:List Oper) (all:Array Oper) (k:List AI) (dst:Option Tmp) (tmps:T AV) (h:Aa) (X:CX) (r:Option (AV×Aa)):R3:=
 Option.casesOn (motive:=fun _=>R3) r (DB E ih o rest all k tmps h X) (fun p=>Prod.casesOn (motive:=fun _=>R3) p (fun v h'=>Bool.casesOn (motive:=fun _=>R3) (Nat.ble h.nx h'.nx) none (dQ E ih rest all k dst tmps X v h')))
def fK (E:Env) (ih:QSt→R3) (o:Oper) (rest:List Oper) (all:Array Oper) (k:List AI) (dst:Option Tmp) (tmps:T AV) (h:Aa) (X:CX) (r:Option Aa):R3:=
 Option.casesOn (motive:=fun _=>R3) r (DB E ih o rest all k tmps h X) (fun h'=>Bool.casesOn (motive:=fun _=>R3) (Nat.ble h.nx h'.nx) none (dQ E ih rest all k dst tmps X AV.undef h'))
def mI:OT:=fun E ih o rest all k dst tmps h X=>DB E ih o rest all k tmps h X
def wL (x:Operand):OT:=fun E ih o rest all k dst tmps h X=>onK E ih rest all k dst tmps X (evF tmps x) h
def Avi (a:BinOp) (t:TypeId) (x y:Operand) (_:TypeId):OT:=fun E ih o rest all k dst tmps h X=>MD E ih o rest all k dst tmps h X (Aaw E a t x y (evF tmps x) (evF tmps y))
def oUn (a:UnOp) (_:TypeId) (x:Operand):OT:=fun E ih o rest all k dst tmps h X=>MD E ih o rest all k dst tmps h X (unB a (evF tmps x))
def Ag6 (t:TypeId) (a:Operand):OT:=fun E ih o rest all k dst tmps h X=>MD E ih o rest all k dst tmps h X (Zr E t (evF tmps a) h)
def Ado (t:TypeId) (x:Operand) (f:Nat):OT:=fun E ih o rest all k dst tmps h X=>MD E ih o rest all k dst tmps h X (RA E t (evF tmps x) f)
def XO (t:TypeId) (x:Operand) (f:Nat):OT:=fun E ih o rest all k dst tmps h X=>MD E ih o rest all k dst tmps h X (FC E t (evF tmps x) f)
def Xe (t:TypeId) (x i:Operand):OT:=fun E ih o rest all k dst tmps h X=>MD E ih o rest all k dst tmps h X (FT E t (evF tmps x) (evF tmps i))
def Aca (t:TypeId) (x i:Operand):OT:=fun E ih o rest all k dst tmps h X=>MD E ih o rest all k dst tmps h X (Ro E t (evF tmps x) (evF tmps i))
def Ach (t:TypeId) (a x:Operand):OT:=fun E ih o rest all k dst tmps h X=>fK E ih o rest all k dst tmps h X (Kl E t (evF tmps a) (evF tmps x) h)
def O1 (t:Operand) (i:Nat):OT:=fun E ih o rest all k dst tmps h X=>match evF tmps t with
 |.tuple a=>MD E ih o rest all k dst tmps h X a[i]?
 |_=>DB E ih o rest all k tmps h X
def WS (t:TypeId):OT:=fun E ih o rest all k dst tmps h X=>Option.casesOn (motive:=fun _=>R3) (E.zero t) (DB E ih o rest all k tmps h X) (fun z=>dQ E ih rest all k dst tmps X (.ptr h.nx 0) (Bi h z.cells))
def yc (t:TypeId) (a:Array (Nat×Operand)):OT:=fun E ih o rest all k dst tmps h X=>MD E ih o rest all k dst tmps h X (Rk E t (a.toList.map fun (i,x)=>(i,evF tmps x)))
def Uk (t:TypeId) (len:Nat) (a:Array (Nat×Operand)):OT:=fun E ih o rest all k dst tmps h X=>Wc E ih o rest all k dst tmps h X (EO E t len (a.toList.map fun (i,x)=>(i,evF tmps x)) h)
def Ac0 (x:Operand):OT:=fun E ih o rest all k dst tmps h X=>match evF tmps x with
 |.ptr b off=>onK E ih rest all k dst tmps X (.ptr b off) h
 |_=>DB E ih o rest all k tmps h X
def yh (t:TypeId) (x:Operand):OT:=fun E ih o rest all k dst tmps h X=>match E.desc t with
  |some (.interface _)=>DB E ih o rest all k tmps h X
  |some _=>onK E ih rest all k dst tmps X (.iface t (evF tmps x)) h
  |none=>DB E ih o rest all k tmps h X
def Aba (fn:Fn) (first captured:Array Operand):OT:=fun E ih o rest all k dst tmps h X=>match fn with
 |.yield _=>DB E ih o rest all k tmps h X
 |fn=>onK E ih rest all k dst tmps X (.func fn (first.toList.map (evF tmps)) (captured.toList.map (evF tmps))) h
def Ut (tmps:T AV):Option Operand→Option AV
 |some o=>some (evF tmps o)
 |none=>none
def Xd (t:TypeId) (x:Operand) (lo hi a:Option Operand):OT:=fun E ih o rest all k dst tmps h X=>match a,hi with
  |some _,none=>DB E ih o rest all k tmps h X
  |_,_=>Wc E ih o rest all k dst tmps h X (sliceB E t (evF tmps x) (Ut tmps lo) (Ut tmps hi) (Ut tmps a) h)
def gx (c a b:Operand):OT:=fun E ih o rest all k dst tmps h X=>match evF tmps c with
 |.bool true=>onK E ih rest all k dst tmps X (evF tmps a) h
 |.bool false=>onK E ih rest all k dst tmps X (evF tmps b) h
 |_=>DB E ih o rest all k tmps h X
def Aew (s d:TypeId) (x:Operand):OT:=fun E ih o rest all k dst tmps h X=>Wc E ih o rest all k dst tmps h X (Yw E s d (evF tmps x) h)
def mS (t:TypeId) (m i:Operand) (ok:Bool):OT:=fun E ih o rest all k dst tmps h X=>MD E ih o rest all k dst tmps h X (MP E t (evF tmps m) (evF tmps i) ok h)
def Xq (E:Env) (ih:QSt→R3) (o:Oper) (rest:List Oper) (all:Array Oper) (k:List AI) (tmps:T AV) (X:CX) (g:FuncId) (args:List AV) (h:Aa):R3:=match Le E g args h with
  |some _=>DB E ih o rest all k tmps h X
  |none=>match E.fn.get g with
   |some fn=>match fn.body with
    |some b=>OL (max fn.ntmps args.length) fun nt=>ih (.c b [] (.ofList args) h ⟨g,nt,[],.normal,none,⟨X.fn,X.nt,tmps,.ops all (o::rest)::k,X.defers,.run,X.kind,X.round⟩::X.cs⟩)
    |none=>DB E ih o rest all k tmps h X
   |none=>none
def ek (E:Env) (ih:QSt→R3) (o:Oper) (rest:List Oper) (all:Array Oper) (k:List AI) (dst:Option Tmp) (tmps:T AV) (h:Aa) (X:CX) (r:Res):R3:=match r with
 |.val v h'=>Bool.casesOn (motive:=fun _=>R3) (Nat.ble h.nx h'.nx) none (dQ E ih rest all k dst tmps X v h')
 |.enter g args h'=>Xq E ih o rest all k tmps X g args h'
 |_=>DB E ih o rest all k tmps h X
def Ip (tmps:T AV):List Operand→List AV
 |[]=>[]
 |x::r=>evF tmps x::Ip tmps r
def yw (f:Operand):Call→OT:=fun c E ih o rest all k dst tmps h X=>match evF tmps f with
  |.func fn first captured=>ek E ih o rest all k dst tmps h X (BT E fn captured (first++Ip tmps c.args.toList) h)
  |_=>DB E ih o rest all k tmps h X
def Azn (r:Operand) (name:String):Call→OT:=fun c E ih o rest all k dst tmps h X=>ek E ih o rest all k dst tmps h X (BT E (.method name) [] (evF tmps r::Ip tmps c.args.toList) h)
def yy (b:Builtin):Call→OT:=fun c E ih o rest all k dst tmps h X=>ek E ih o rest all k dst tmps h X (Ft E b c.argTypes.toList (Ip tmps c.args.toList) h)
def ki (c:Call):OT:=Callee.casesOn (motive:=fun _=>Call→OT) c.callee yw Azn yy c
def Qq {a:Type} (_:a):OT:=mI
def Mj {a b:Type} (_:a) (_:b):OT:=mI
def jV {a b c:Type} (_:a) (_:b) (_:c):OT:=mI
def af {a b c d:Type} (_:a) (_:b) (_:c) (_:d):OT:=mI
def opF (a:Op):OT:=Op.casesOn (motive:=fun _=>OT) a
 wL wL gx WS Mj yc Uk af
 Ag6 Ach Qq Qq Ac0 Avi oUn
 Aew Mj yh Aba Mj Mj jV Xd
 XO Ado Xe Aca mS af jV af
 Mj Mj Qq af O1 ki Qq Qq Qq
 Mj jV Mj
def bk (E:Env) (tmps:T AV) (h:Aa):List ResultVar→Option (List AV)
 |[]=>some []
 |.tmp t::r=>match bk E tmps h r with
  |some l=>some ((match T.get tmps t with|some v=>v|none=>.top)::l)
  |none=>none
 |.cell a t::r=>match T.get tmps a with
  |some p=>match Q8 E t p h,bk E tmps h r with
   |some v,some l=>some (v::l)
   |_,_=>none
  |none=>none
def Abd (l:List AV):AV:=match l with
 |[v]=>v
 |l=>.tuple l
abbrev KT:=Env→FuncId→(QSt→R3)→List AI→T AV→Aa→CX→R3
def Nz (E:Env) (a:FuncId) (ih:QSt→R3) (c:Code) (k:List AI) (tmps:T AV) (h:Aa) (X:CX):R3:=ih (.g (X.as tmps (.code c::k) .run h))
def pQ (E:Env) (a:FuncId) (ih:QSt→R3) (X:CX) (v:AV) (h:Aa) (EA:Unit→R3):R3:=match X.kind,X.cs with
 |.normal,⟨fn,nt,tmps,todo,defers,.run,kind,round⟩::cs=>match todo with
  |.ops all (o::rest)::k=>onK E ih rest all k o.dst tmps ⟨fn,nt,defers,kind,round,cs⟩ v h
  |.inRange l::k=>ih (.k (.endRange l::k) tmps h ⟨fn,nt,defers,kind,round,cs⟩)
  |_=>EA ()
 |.normal,[]=>match Nat.beq X.fn a with
  |true=>some (true,v,h)
  |false=>none
 |_,_=>EA ()
def kP (E:Env) (a:FuncId) (ih:QSt→R3) (tmps:T AV) (h:Aa) (X:CX) (EA:Unit→R3):R3:=match X.round,X.defers with
 |none,[]=>match E.fn.get X.fn with
  |some fn=>match bk E tmps h fn.results.toList with
   |some l=>pQ E a ih X (Abd l) h EA
   |none=>none
  |none=>none
 |_,_=>EA ()
def nA:KT:=fun E a ih k tmps h X=>ih (.k k tmps h X)
def mY (id:Nat) (ops:Array Oper) (a:Bool):KT:=fun E b ih k tmps h X=>Bool.casesOn (motive:=fun _=>R3) a (ih (.o ops.toList ops k tmps h X)) (Nz E b ih (.region id ops a) k tmps h X)
def Atu (a b:Code):KT:=fun E d ih k tmps h X=>ih (.c a (.code b::k) tmps h X)
def eF (c:Operand) (x y:Code):KT:=fun E a ih k tmps h X=>match evF tmps c with
 |.bool b=>Bool.casesOn (motive:=fun _=>R3) b (ih (.c y k tmps h X)) (ih (.c x k tmps h X))
 |_=>Nz E a ih (.cond c x y) k tmps h X
def Abl (id:Nat) (b:Code):KT:=fun E a ih k tmps h X=>ih (.c b (.inBlock id::k) tmps h X)
def Al0 (b:Code):KT:=fun E a ih k tmps h X=>ih (.c b (.inLoop b::k) tmps h X)
def zp (b:Code):KT:=fun E a ih k tmps h X=>ih (.c b (.inScope b::k) tmps h X)
def xT (f:Operand) (c:Array Tmp) (a b:Code):KT:=fun E d ih k tmps h X=>Nz E d ih (.rangeFunc f c a b) k tmps h X
def iz (id:Nat):KT:=fun E a ih k tmps h X=>Option.casesOn (motive:=fun _=>R3) (Li id k) (Nz E a ih (.exit id) k tmps h X) (fun b=>ih (.k b tmps h X))
def Acb (_:Nat):KT:=nA
def Aj9 (l:Nat):KT:=fun E a ih k tmps h X=>Nz E a ih (.goto l) k tmps h X
def Avb:KT:=fun E a ih k tmps h X=>kP E a ih tmps h X (fun _=>Nz E a ih .ret k tmps h X)
def li (w:String):KT:=fun _ _ _ _ _ _ _=>none
def ij (c:Code):KT:=Code.casesOn (motive:=fun _=>KT) c nA mY Atu eF Abl Al0 xT iz zp Acb Aj9 Avb li
def kF (E:Env) (a:FuncId) (ih:QSt→R3) (k:List AI) (tmps:T AV) (h:Aa) (X:CX):R3:=match k with
 |[]=>kP E a ih tmps h X (fun _=>ih (.g (X.as tmps [] .run h)))
 |.code c::k=>ij c E a ih k tmps h X
 |.inBlock _::k=>ih (.k k tmps h X)
 |.inScope _::k=>ih (.k k tmps h X)
 |.inLoop b::k=>ih (.c b (.inLoop b::k) tmps h X)
 |.ops all l::k=>ih (.o l all k tmps h X)
 |k=>ih (.g (X.as tmps k .run h))
def Acf (E:Env) (ih:QSt→R3) (l:List Oper) (all:Array Oper) (k:List AI) (tmps:T AV) (h:Aa) (X:CX):R3:=match l with
  |[]=>ih (.k k tmps h X)
  |o::rest=>match o.guard with
    |none=>opF o.op E ih o rest all k o.dst tmps h X
    |some _=>match Bf all o tmps with
       |some true=>opF o.op E ih o rest all k o.dst tmps h X
       |some false=>onK E ih rest all k o.dst tmps X AV.undef h
       |none=>none
def YK (E:Env) (run:FuncId→Bool→QSt→R3) (a:Ask) (h:Aa):R3:=match a with
 |.enter g args=>match Le E g args h with
  |some r=>some r
  |none=>match B8 E g args .normal with
   |some fr=>JH (run fr.fn true) {fr,cs:=[],h}
   |none=>none
 |.round l args=>match Gx l args h with
  |some fr=>JH (run fr.fn true) {fr,cs:=[],h}
  |none=>none
def goB (E:Env) (b:FuncId→Bool→QSt→R3) (e:Ask→Aa→R3) (n:Nat):FuncId→Bool→QSt→R3:=Nat.rec (motive:=fun _=>FuncId→Bool→QSt→R3) b (fun f ih a d s=>
  QSt.casesOn (motive:=fun _=>R3) s
   (fun l all k tmps h X=>Acf E (ih a d) l all k tmps h X)
   (fun c k tmps h X=>ij c E a (ih a d) k tmps h X)
   (fun k tmps h X=>kF E a (ih a d) k tmps h X)
   (fun s=>gen E a d (ih a d) e s)) n
def noB:FuncId→Bool→QSt→R3:=fun _ _ _=>none
def cfN (E:Env) (L:Nat):Ask→Aa→R3:=Nat.rec (motive:=fun _=>Ask→Aa→R3) (fun _ _=>none) (fun _ ih=>YK E (goB E noB ih 1000000)) L
def dZ (E:Env) (b:FuncId→Bool→QSt→R3) (n:Nat) (f:FuncId) (args:List AV) (h:Aa):R3:=
 match B8 E f args .normal with
 |some fr=>JH (goB E b (cfN E 40) n f false) {fr,cs:=[],h}
 |none=>none
def BF (E:Env) (b:FuncId→Bool→QSt→R3) (N:Nat) (e:Orc):Bool:=
 match dZ E b N e.f e.args {blk:=e.part,nx:=e.nx,log:=[]} with
 |some (ok,v,g)=>(ok==e.ok)&&Br v e.v&&PC e.out g.blk&&Nat.beq g.nx e.nx'&&bJ e.nx e.wr g.log
 |none=>false
def Ap (E:Env) (N:Nat) (e:Orc):Bool:=BF E noB N e
end
def QSt.as:QSt→AS
 |.o l all td tmps h X=>X.as tmps (.ops all l::td) .run h
 |.c i td tmps h X=>X.as tmps (.code i::td) .run h
 |.k td tmps h X=>X.as tmps td .run h
 |.g s=>s
section
variable [U:Facts]
inductive Ca (E:Env):AS→AS→Prop
 |refl (s:AS):Ca E s s
 |head {s s1 s2:AS} (h:A4 E s=.next s1) (hn:s.h.nx≤s1.h.nx) (k:Ca E s1 s2):Ca E s s2
theorem Ca.one {E:Env} {s i:AS} (h:A4 E s=.next i) (j:s.h.nx≤i.h.nx):Ca E s i:=.head h j (.refl i)
def Via (E:Env) (b:FuncId) (ih:QSt→R3) (s:AS) (r:R3):Prop:=∀x,r=some x→(∃st,Ca E s st.as∧ih st=some x)∨(∃a,Ca E s a∧A4 E a=.done true x.2.1 x.2.2∧x.1=true∧a.fr.fn=b∧a.fr.round=none∧a.h.nx≤x.2.2.nx)
theorem Via.none {E:Env} {i:FuncId} {ih:QSt→R3} {s:AS}:Via E i ih s none:=fun x h=>by cases h
theorem Via.ih {E:Env} {i:FuncId} {ih:QSt→R3} {s:AS} (st:QSt) (h:Ca E s st.as):Via E i ih s (ih st):=fun x j=>.inl ⟨st,h,j⟩
theorem Sr (t:T AV) (x:Operand):evF t x=Ag t x:=by
 cases x with
 |tmp i=>simp only [evF,Ap1,Ag];cases t.get i<;>rfl
 |const v=>rfl
 |global g=>rfl
 |func g=>rfl
theorem Ji (t:T AV):∀l:List Operand,Ip t l=l.map (Ag t)
 |[]=>rfl
 |x::r=>by simp [Ip,Ji t r,Sr]
theorem Bb (t:T AV):evF t=Ag t:=funext (Sr t)
theorem UE (h:Aa) (l:List AV):h.nx≤(Bi h l).nx:=by simp [Bi,Aa.new]
theorem XR {E:Env} {t:TypeId} {x v:AV} {h h':Aa} (a:Kl E t x v h=some h'):JF E t x v h=some h':=by
 cases x<;>first | (cases a;done)|skip
 exact a
theorem PD {n:String} {args a:List AV} {h h':Aa} {g:FuncId} (e:ID n args h=.enter g a h'):False:=by
 unfold ID at e
 repeat' (first | (cases e;done)|split at e)
theorem Mh {E:Env} {f g:FuncId} {args a:List AV} {h h':Aa} (e:Jk E f args h=.enter g a h'):h'=h:=by
 unfold Jk at e
 repeat' (first | (cases e;done)|split at e)
 all_goals first | (cases e;rfl)|exact (PD e).elim
theorem Rw {E:Env} {tmps:T AV} {c:Call} {h h':Aa} {g:FuncId} {a:List AV} (e:Dj E tmps c h=.enter g a h'):h'=h:=by
 unfold Dj at e;simp only at e;split at e
 ·unfold Ft BM C4 Eh at e
  repeat' (first | (cases e;done)|split at e)
 ·unfold BT at e
  repeat' (first | (cases e;done)|exact Mh e|split at e)
 ·split at e
  ·unfold BT at e
   repeat' (first | (cases e;done)|exact Mh e|split at e)
  ·cases e
theorem Ua {E:Env} {o:Oper} {rest:List Oper} {all:Array Oper} {k:List AI} {tmps a:T AV} {h h':Aa} {X:CX} {v:AV} (b:Bf all o tmps=some true) (c:aop E tmps h o.op=.val v h') (d:Ei X.nt tmps o.dst v=some a) :
  A4 E (X.as tmps (.ops all (o::rest)::k) .run h)=.next (X.as a (.ops all rest::k) .run h'):=by
 simp only [A4,CX.as,b,c,Bv,A3,d]
theorem CA {E:Env} {i:FuncId} {ih:QSt→R3} {o:Oper} {rest:List Oper} {all:Array Oper} {k:List AI} {tmps:T AV} {h h':Aa} {X:CX} {v:AV} (c:Bf all o tmps=some true) (e:aop E tmps h o.op=.val v h') (f:h.nx≤h'.nx) :
  Via E i ih (X.as tmps (.ops all (o::rest)::k) .run h) (onK E ih rest all k o.dst tmps X v h'):=by
 unfold onK;cases g:o.dst with
 |none=>
  have a:Ei X.nt tmps o.dst v=some tmps:=by rw [g];rfl
  exact Via.ih (.o rest all k tmps h' X) (.one (Ua c e a) f)
 |some d=>
  cases b:Nat.blt d X.nt with
  |false=>simp only;rw [b];exact Via.none
  |true=>
   have a:Ei X.nt tmps o.dst v=some (tmps.set d v):=by rw [g];simp only [Ei,b]
   simp only;rw [b];exact Via.ih (.o rest all k (tmps.set d v) h' X) (.one (Ua c e a) f)
theorem A8 {E:Env} {a:FuncId} {ih:QSt→R3} {o:Oper} {rest:List Oper} {all:Array Oper} {k:List AI} {tmps:T AV} {h:Aa} {X:CX} :
  Via E a ih (X.as tmps (.ops all (o::rest)::k) .run h) (DB E ih o rest all k tmps h X):=Via.ih (.g _) (Ca.refl (X.as tmps (.ops all (o::rest)::k) .run h))
section
variable {E:Env} {f0:FuncId} {ih:QSt→R3} {o:Oper} {rest:List Oper} {all:Array Oper} {k:List AI} {tmps:T AV} {h:Aa} {X:CX} (hw:Bf all o tmps=some true)
include hw
theorem Ct {r:Option AV} (a:∀v,r=some v→aop E tmps h o.op=.val v h):Via E f0 ih (X.as tmps (.ops all (o::rest)::k) .run h) (MD E ih o rest all k o.dst tmps h X r):=by
 unfold MD;cases r with
 |none=>exact A8
 |some v=>exact CA hw (a v rfl) (Nat.le_refl _)
theorem KD {r:Option (AV×Aa)} (a:∀v h',r=some (v,h')→aop E tmps h o.op=.val v h'):Via E f0 ih (X.as tmps (.ops all (o::rest)::k) .run h) (Wc E ih o rest all k o.dst tmps h X r):=by
 unfold Wc;simp only [MJ];cases r with
 |none=>exact A8
 |some p=>
  obtain ⟨v,h'⟩:=p;simp only;cases b:Nat.ble h.nx h'.nx with
  |false=>exact Via.none
  |true=>exact CA hw (a v h' rfl) (Nat.le_of_ble_eq_true b)
theorem bF {r:Option Aa} (a:∀h',r=some h'→aop E tmps h o.op=.val .undef h'):Via E f0 ih (X.as tmps (.ops all (o::rest)::k) .run h) (fK E ih o rest all k o.dst tmps h X r):=by
 unfold fK;simp only [MJ];cases r with
 |none=>exact A8
 |some h'=>
  simp only;cases b:Nat.ble h.nx h'.nx with
  |false=>exact Via.none
  |true=>exact CA hw (a h' rfl) (Nat.le_of_ble_eq_true b)
theorem X4 {g:FuncId} {args:List AV} (d:aop E tmps h o.op=.enter g args h):Via E f0 ih (X.as tmps (.ops all (o::rest)::k) .run h) (Xq E ih o rest all k tmps X g args h):=by
 unfold Xq;split
 ·exact A8
 ·split
  ·rename_i fn a;split
   ·rename_i b e;rw [Kz];refine Via.ih (.c b [] (.ofList args) h _) (.one ?_ (Nat.le_refl _));simp only [A4,CX.as,hw,d,Bv,B8,a,e,QSt.as]
   ·exact A8
  ·exact Via.none
theorem Ns {r:Res} (a:aop E tmps h o.op=r) (b:∀g args h',r=.enter g args h'→h'=h):Via E f0 ih (X.as tmps (.ops all (o::rest)::k) .run h) (ek E ih o rest all k o.dst tmps h X r):=by
 unfold ek;simp only [MJ];cases r with
 |val v h'=>
  simp only;cases c:Nat.ble h.nx h'.nx with
  |false=>exact Via.none
  |true=>exact CA hw a (Nat.le_of_ble_eq_true c)
 |enter g args h'=>
  have:=b g args h' rfl;subst this;exact X4 hw a
 |_=>exact A8
end
section
variable {E:Env} {f0:FuncId} {ih:QSt→R3} {o:Oper} {rest:List Oper} {all:Array Oper} {k:List AI} {tmps:T AV} {h:Aa} {X:CX} (hw:Bf all o tmps=some true)
include hw
theorem ZL:Via E f0 ih (X.as tmps (.ops all (o::rest)::k) .run h) (opF o.op E ih o rest all k o.dst tmps h X):=by
 have le:=Nat.le_refl h.nx;generalize j:o.op=w;cases w with
 |move x=>exact CA (v:=evF tmps x) hw (by rw [j,Bb];rfl) le
 |assign x=>exact CA (v:=evF tmps x) hw (by rw [j,Bb];rfl) le
 |pick c a b=>
  show Via E f0 ih _ (gx c a b E ih o rest all k o.dst tmps h X);unfold gx;rw [Bb];split
  ·rename_i n;exact CA hw (by rw [j];simp only [aop,n]) le
  ·rename_i n;exact CA hw (by rw [j];simp only [aop,n]) le
  ·exact A8
 |alloc t=>
  show Via E f0 ih _ (WS t E ih o rest all k o.dst tmps h X);unfold WS;simp only [MJ];cases B:E.zero t with
  |none=>exact A8
  |some z=>exact CA hw (by rw [j];simp only [aop,B]) (UE h z.cells)
 |load t a=>exact Ct hw (fun v l=>by rw [j];rw [Bb] at l;simp only [aop,l,BM])
 |store t a x=>exact bF hw (fun h' l=>by rw [j];rw [Bb] at l;simp only [aop,XR l,Eh])
 |build t C=>exact Ct hw (fun v l=>by rw [j];rw [Bb] at l;simp only [aop,l,BM])
 |buildSlice t len C=>exact KD hw (fun v h' l=>by rw [j];rw [Bb] at l;simp only [aop,l,C4])
 |nilCheck x=>
  show Via E f0 ih _ (Ac0 x E ih o rest all k o.dst tmps h X);unfold Ac0;rw [Bb];split
  ·rename_i n;exact CA hw (by rw [j];simp only [aop,n]) le
  ·exact A8
 |binOp w t x y u=>exact Ct hw (fun v l=>by rw [j];rw [Bb] at l;simp only [aop,l,BM])
 |unOp w t x=>exact Ct hw (fun v l=>by rw [j];rw [Bb] at l;simp only [aop,l,BM])
 |convert s d x=>exact KD hw (fun v h' l=>by rw [j];rw [Bb] at l;simp only [aop,l,C4])
 |makeInterface t x=>
  show Via E f0 ih _ (yh t x E ih o rest all k o.dst tmps h X);unfold yh;rw [Bb];split
  ·exact A8
  ·rename_i d D F;exact CA hw (by rw [j];simp only [aop,F]) le
  ·exact A8
 |makeFunc fn first captured=>
  show Via E f0 ih _ (Aba fn first captured E ih o rest all k o.dst tmps h X);unfold Aba;rw [Bb];split
  ·exact A8
  ·exact CA hw (by rw [j];simp only [aop]) le
 |slice t x lo hi G=>
  show Via E f0 ih _ (Xd t x lo hi G E ih o rest all k o.dst tmps h X);have p:Ut tmps=A5 tmps:=by funext q;cases q<;>simp [Ut,A5,Sr]
  unfold Xd;rw [Bb,p];split
  ·exact A8
  ·exact KD hw (fun v h' l=>by rw [j];simp only [aop,l,C4])
 |fieldAddr t x f=>exact Ct hw (fun v l=>by rw [j];rw [Bb] at l;simp only [aop,l,BM])
 |field t x f=>exact Ct hw (fun v l=>by rw [j];rw [Bb] at l;simp only [aop,l,BM])
 |indexAddr t x i=>exact Ct hw (fun v l=>by rw [j];rw [Bb] at l;simp only [aop,l,BM])
 |index t x i=>exact Ct hw (fun v l=>by rw [j];rw [Bb] at l;simp only [aop,l,BM])
 |lookup t m i ok=>exact Ct hw (fun v l=>by rw [j];rw [Bb] at l;simp only [aop,l,BM])
 |extract t i=>
  show Via E f0 ih _ (O1 t i E ih o rest all k o.dst tmps h X);unfold O1;rw [Bb];split
  ·rename_i I n;exact Ct hw (fun v l=>by rw [j];simp only [aop,n,l,BM])
  ·exact A8
 |call c=>
  have A:∀r,Dj E tmps c h=r→aop E tmps h o.op=r:=fun r e=>by rw [j];exact e
  have p:∀r,Dj E tmps c h=r→∀g args h',r=.enter g args h'→h'=h:=fun r e g args h' q=>Rw (e.trans q)
  show Via E f0 ih _ (ki c E ih o rest all k o.dst tmps h X);unfold ki;cases n:c.callee with
  |value f=>
   show Via E f0 ih _ (yw f c E ih o rest all k o.dst tmps h X);unfold yw;rw [Bb];split
   ·rename_i fn first captured H;have e:Dj E tmps c h=BT E fn captured (first++Ip tmps c.args.toList) h:=by simp only [Dj,n,H,Ji]
    exact Ns hw (A _ e) (p _ e)
   ·exact A8
  |invoke r name=>
   have e:Dj E tmps c h=BT E (.method name) [] (evF tmps r::Ip tmps c.args.toList) h:=by simp only [Dj,n,Ji,Sr]
   exact Ns hw (A _ e) (p _ e)
  |builtin b=>
   have e:Dj E tmps c h=Ft E b c.argTypes.toList (Ip tmps c.args.toList) h:=by simp only [Dj,n,Ji]
   exact Ns hw (A _ e) (p _ e)
 |_=>exact A8
end
theorem U0 {E:Env} {e:FuncId} {ih:QSt→R3} {s:AS} {dst:Option Tmp} {rest:List Oper} {all:Array Oper} {k:List AI} {tmps:T AV} {h:Aa} {X:CX} {v:AV} (b:∀c,Ei X.nt tmps dst v=some c→Ca E s (X.as c (.ops all rest::k) .run h)) :
  Via E e ih s (onK E ih rest all k dst tmps X v h):=by
 unfold onK;cases dst with
 |none=>exact Via.ih (.o rest all k tmps h X) (b tmps rfl)
 |some d=>
  cases a:Nat.blt d X.nt with
  |false=>simp only;rw [a];exact Via.none
  |true=>
   simp only;rw [a];exact Via.ih (.o rest all k (tmps.set d v) h X) (b _ (by simp only [Ei,a]))
theorem cZ {E:Env} {b:FuncId} {ih:QSt→R3} {l:List Oper} {all:Array Oper} {k:List AI} {tmps:T AV} {h:Aa} {X:CX}:Via E b ih (X.as tmps (.ops all l::k) .run h) (Acf E ih l all k tmps h X):=by
 unfold Acf;split
 ·exact Via.ih (.k k tmps h X) (.one (by simp only [A4,CX.as,QSt.as]) (Nat.le_refl _))
 ·rename_i o rest;split
  ·rename_i c;exact ZL (by unfold Bf;rw [c])
  ·split
   ·rename_i a;exact ZL a
   ·rename_i a;refine U0 fun e d=>.one ?_ (Nat.le_refl _)
    simp only [A4,CX.as,a,Bv,A3,d]
   ·exact Via.none
theorem RL {E:Env} {tmps:T AV} {h:Aa} (fr:AF) (b:fr.tmps=tmps):∀l:List ResultVar,bk E tmps h l=BE E fr h l
 |[]=>rfl
 |.tmp t::r=>by simp only [bk,BE,RL fr b r,b];rfl
 |.cell a t::r=>by simp only [bk,BE,RL fr b r,b];rfl
theorem Vs {E:Env} {j:FuncId} {ih:QSt→R3} {td:List AI} {tmps:T AV} {h:Aa} {X:CX} {EA:Unit→R3} (y:X.round=none→A4 E (X.as tmps td .run h)=.next (X.as tmps td .ret h)) (c:Via E j ih (X.as tmps td .run h) (EA ())) :
  Via E j ih (X.as tmps td .run h) (kP E j ih tmps h X EA):=by
 unfold kP;split
 ·rename_i hr z;have m:=y hr;split
  ·rename_i fn n;split
   ·rename_i l p;have p:BE E (X.as tmps td .ret h).fr h fn.results.toList=some l:=(RL (X.as tmps td .ret h).fr rfl _).symm.trans p
    have d:A4 E (X.as tmps td .ret h)=Cx (X.as tmps td .ret h).fr X.cs (Abd l) h:=by
     have e:A4 E (X.as tmps td .ret h)=D2 E (X.as tmps td .ret h).fr X.cs h:=rfl;rw [e];unfold D2;have q:(X.as tmps td .ret h).fr.defers=[]:=z;have s:(X.as tmps td .ret h).fr.mode=.ret:=rfl;have t:E.fn.get (X.as tmps td .ret h).fr.fn=some fn:=n;rw [q,s,t];simp only [p]
     match l with
     |[]=>rfl
     |[v]=>rfl
     |a::b::r=>rfl
    unfold pQ;split
    ·rename_i f nt tm todo A kd B cs u g;have i:(X.as tmps td .ret h).fr.kind=.normal:=u;rw [g] at d;simp only [Cx,i] at d;split
     ·rename_i all o rest k;refine U0 fun C w=>.head m (Nat.le_refl _) (.one ?_ (Nat.le_refl _))
      rw [d];have w:Ei nt tm o.dst (Abd l)=some C:=w;simp only [A3,w];rfl
     ·rename_i D k;refine Via.ih (.k (.endRange D::k) tm h ⟨f,nt,A,kd,B,cs⟩) (.head m (Nat.le_refl _) (.one ?_ (Nat.le_refl _)));rw [d];rfl
     ·exact c
    ·rename_i u g;have i:(X.as tmps td .ret h).fr.kind=.normal:=u;rw [g] at d;simp only [Cx,i] at d;split
     ·rename_i F;intro x G;cases G;exact .inr ⟨X.as tmps td .ret h,.one m (Nat.le_refl _),d,rfl,AZ F,hr,Nat.le_refl _⟩
     ·exact Via.none
    ·exact c
   ·exact Via.none
  ·exact Via.none
 ·exact c
theorem D5 {E:Env} {a:FuncId} {ih:QSt→R3} {c:Code} {k:List AI} {tmps:T AV} {h:Aa} {X:CX}:Via E a ih (X.as tmps (.code c::k) .run h) (Nz E a ih c k tmps h X):=Via.ih (.g _) (Ca.refl (X.as tmps (.code c::k) .run h))
theorem P8 {E:Env} {d:FuncId} {ih:QSt→R3} {c:Code} {k:List AI} {tmps:T AV} {h:Aa} {X:CX}:Via E d ih (X.as tmps (.code c::k) .run h) (ij c E d ih k tmps h X):=by
 have le:=Nat.le_refl h.nx;cases c with
 |skip=>exact Via.ih (.k k tmps h X) (.one (by simp only [A4,CX.as,QSt.as]) le)
 |label l=>exact Via.ih (.k k tmps h X) (.one (by simp only [A4,CX.as,QSt.as]) le)
 |region id ops e=>
  cases e with
  |false=>exact Via.ih (.o ops.toList ops k tmps h X) (.one (by simp only [A4,CX.as,QSt.as]) le)
  |true=>exact D5
 |seq a b=>exact Via.ih (.c a (.code b::k) tmps h X) (.one (by simp only [A4,CX.as,QSt.as]) le)
 |cond c x y=>
  show Via E d ih _ (eF c x y E d ih k tmps h X);unfold eF;rw [Bb];split
  ·rename_i b g;cases b with
   |true=>exact Via.ih (.c x k tmps h X) (.one (by simp only [A4,CX.as,QSt.as,g]) le)
   |false=>exact Via.ih (.c y k tmps h X) (.one (by simp only [A4,CX.as,QSt.as,g]) le)
  ·exact D5
 |block id b=>exact Via.ih (.c b (.inBlock id::k) tmps h X) (.one (by simp only [A4,CX.as,QSt.as]) le)
 |loop b=>exact Via.ih (.c b (.inLoop b::k) tmps h X) (.one (by simp only [A4,CX.as,QSt.as]) le)
 |scope b=>exact Via.ih (.c b (.inScope b::k) tmps h X) (.one (by simp only [A4,CX.as,QSt.as]) le)
 |rangeFunc f m a b=>exact D5
 |exit id=>
  show Via E d ih _ (iz id E d ih k tmps h X);unfold iz;cases i:Li id k with
  |none=>exact D5
  |some j=>exact Via.ih (.k j tmps h X) (.one (by simp only [A4,CX.as,QSt.as,i]) le)
 |goto l=>exact D5
 |ret=>exact Vs (fun hr=>by simp only [A4,CX.as,DJ,hr]) D5
 |refuse w=>exact Via.none
theorem Ac9 {E:Env} {a:FuncId} {ih:QSt→R3} {k:List AI} {tmps:T AV} {h:Aa} {X:CX}:Via E a ih (X.as tmps k .run h) (kF E a ih k tmps h X):=by
 have le:=Nat.le_refl h.nx;unfold kF;split
 ·exact Vs (fun hr=>by simp only [A4,CX.as,DJ,hr]) (Via.ih (.g _) (Ca.refl (X.as tmps [] .run h)))
 ·exact P8
 ·rename_i id k;exact Via.ih (.k k tmps h X) (.one (by simp only [A4,CX.as,QSt.as]) le)
 ·rename_i id k;exact Via.ih (.k k tmps h X) (.one (by simp only [A4,CX.as,QSt.as]) le)
 ·rename_i b k;exact Via.ih (.c b (.inLoop b::k) tmps h X) (.one (by simp only [A4,CX.as,QSt.as]) le)
 ·rename_i all l k;exact Via.ih (.o l all k tmps h X) (.refl (X.as tmps (.ops all l::k) .run h))
 ·exact Via.ih (.g _) (Ca.refl (X.as tmps k .run h))
theorem Ca.mono {E:Env} {s i:AS} (h:Ca E s i):s.h.nx≤i.h.nx:=by
 induction h with
 |refl s=>exact Nat.le_refl _
 |head h j k ih=>exact Nat.le_trans j ih
theorem Ka (ih:QSt→R3) (s:AS):∃st:QSt,st.as=s∧JH ih s=ih st:=by
 obtain ⟨⟨fn,nt,tmps,todo,defers,mode,kind,round⟩,cs,h⟩:=s;cases mode with
 |run=>exact ⟨.k todo tmps h ⟨fn,nt,defers,kind,round,cs⟩,rfl,by simp only [JH,Kz,QP]⟩
 |ret=>exact ⟨.g ⟨⟨fn,nt,tmps,todo,defers,.ret,kind,round⟩,cs,h⟩,rfl,rfl⟩
 |panic a=>exact ⟨.g ⟨⟨fn,nt,tmps,todo,defers,.panic a,kind,round⟩,cs,h⟩,rfl,rfl⟩
theorem YW {E:Env} {b:FuncId→Bool→QSt→R3} {d:Ask→Aa→R3} (n:Nat) (a:FuncId) (e:Bool) (st:QSt) (f:∀s,st≠.g s):Via E a (goB E b d n a e) st.as (goB E b d (n+1) a e st):=by
 cases st with
 |o l all td tmps h X=>exact cZ
 |c i td tmps h X=>exact P8
 |k td tmps h X=>exact Ac9
 |g s=>exact absurd rfl (f s)
theorem YM {E:Env} {b:FuncId→Bool→QSt→R3} {a:Ask→Aa→R3} (n:Nat) (c:FuncId) (d:Bool) (s:AS):goB E b a (n+1) c d (.g s)=gen E c d (goB E b a n c d) a s:=rfl
end
section
variable [U:Unk]
theorem IY {E:Env} {b:FuncId→Bool→QSt→R3} {j:Ask→Aa→R3} (l:∀a c st x,b a c st=some x→st.as.h.nx≤x.2.2.nx):∀(n:Nat) (a:FuncId) (c:Bool) (st:QSt) (x:Bool×AV×Aa),goB E b j n a c st=some x→st.as.h.nx≤x.2.2.nx
 |0,a,c,st,x,h=>l a c st x h
 |n+1,a,c,st,x,h=>by
  have d:∀s,JH (goB E b j n a c) s=some x→s.h.nx≤x.2.2.nx:=by
   intro s q;obtain ⟨f,t,u⟩:=Ka (goB E b j n a c) s;rw [u] at q;rw [←t];exact IY l n a c f x q
  by_cases r:∃s,st=.g s
  ·obtain ⟨s,rfl⟩:=r;rw [YM] at h;unfold gen at h;show s.h.nx≤_;split at h
   ·split at h
    ·rename_i i;exact Nat.le_trans (Nat.le_of_ble_eq_true i) (d _ h)
    ·cases h
   ·split at h
    ·split at h
     ·rename_i i;exact Nat.le_trans (Nat.le_of_ble_eq_true i) (d _ h)
     ·cases h
    ·split at h
     ·rename_i i;cases h;exact Nat.le_of_ble_eq_true (Aq (Aq i).1).1
     ·cases h
    ·rename_i y ops k m;obtain ⟨rfl,_,_⟩:=CC m;split at h
     ·rename_i o;exact Nat.le_trans (Ci _ _ _ _ _ _ _ (In o)) (d _ h)
     ·rename_i o;exact Nat.le_trans (Ci _ _ _ _ _ _ _ (In o)) (d _ h)
     ·cases h
    ·split at h
     ·split at h
      ·rename_i i;exact Nat.le_trans (Nat.le_of_ble_eq_true i) (d _ h)
      ·cases h
     ·cases h
  ·rcases YW n a c st (fun s e=>r ⟨s,e⟩) x h with ⟨f,p,v⟩|⟨z,p,_,_,_,_,w⟩
   ·exact Nat.le_trans p.mono (IY l n a c f x v)
   ·exact Nat.le_trans p.mono w
def BOK (E:Env) (b:FuncId→Bool→QSt→R3):Prop:=∀(i:FuncId) (j:Bool) (st:QSt) (e:Ren) (c:Frame) (a:List Frame) (w:World) (ok:Bool) (v:AV) (h:Aa),SR e st.as c a w→WF st.as.h→b i j st=some (ok,v,h)→AJ e st.as.h.nx h.nx→
  ∀base:List Frame,∃f d k w1 g,Steps E.P (lone c (a++base) w) (lone d base w1)∧d.fn=i∧(j=false→d.roundOf=none)∧Js E.P d w1 ok k g∧VR f v k∧HR f h.blk.get g∧Ext e f st.as.h h w g
section
variable {E:Env} (hE:OK E) (hO:Ai E U.V.fn)
include hE
theorem Ca.ok {s C:AS} (k:Ca E s C) {ρ:Ren} {c:Frame} {j:List Frame} {w:World} (r:SR ρ s c j w) (i:AJ ρ s.h.nx C.h.nx) (base:List Frame) :
  ∃I c' l J,Steps E.P (lone c (j++base) w) (lone c' (l++base) J)∧SR I C c' l J∧Ext ρ I s.h C.h w J:=by
 induction k generalizing ρ c j w with
 |refl s=>exact ⟨ρ,c,j,w,Steps.refl _ _,r,Ext.refl _ _ _⟩
 |head h hn k ih=>
  have hm:=k.mono;obtain ⟨I,c1,ab,w1,q1,q2,q3⟩:=Gq (base:=base) hE r h (fun b h1 h2=>i b h1 (by omega))
  obtain ⟨τ,c2,t,w2,r1,r2,r3⟩:=ih q2 (q3.free i);exact ⟨τ,c2,t,w2,Steps.trans (Steps.one q1) r1,r2,q3.trans r3 i⟩
include hO
theorem Xg {b:FuncId→Bool→QSt→R3} {o:Ask→Aa→R3} (N:∀B A st x,b B A st=some x→st.as.h.nx≤x.2.2.nx) (T:BOK E b) (W:C8 E o):∀(n:Nat) (B:FuncId) (A:Bool) (st:QSt) (I:Ren) (c:Frame) (r:List Frame) (w:World) (ok:Bool) (v:AV) (h:Aa),SR I st.as c r w→WF st.as.h→goB E b o n B A st=some (ok,v,h)→AJ I st.as.h.nx h.nx→
  ∀base:List Frame,∃i o F w1 j,Steps E.P (lone c (r++base) w) (lone o base w1)∧o.fn=B∧(A=false→o.roundOf=none)∧Js E.P o w1 ok F j∧VR i v F∧HR i h.blk.get j∧Ext I i st.as.h h w j:=by
 intro n
 induction n with
 |zero=>exact T
 |succ n ih=>
  intro B A st I c r w ok v h m hwf l a base
  have O:∀(s t:AS) (i:Ren) (u:Frame) (d:List Frame) (w1:World),s=st.as→Steps E.P (lone c (r++base) w) (lone u (d++base) w1)→SR i t u d w1→Ext I i s.h t.h w w1→JH (goB E b o n B A) t=some (ok,v,h)→
    ∃i o F w1 j,Steps E.P (lone c (r++base) w) (lone o base w1)∧o.fn=B∧(A=false→o.roundOf=none)∧Js E.P o w1 ok F j∧VR i v F∧HR i h.blk.get j∧Ext I i s.h h w j:=by
   intro s t i u d w1 es G K X h4;subst es;obtain ⟨C,Y,Z⟩:=Ka (goB E b o n B A) t;subst Y;rw [Z] at h4;obtain ⟨τ,o,F,w2,j,y,p,z,J,Q,L,q7⟩:=ih B A C i u d w1 ok v h K (X.wf hwf) h4 (X.free a) base;exact ⟨τ,o,F,w2,j,Steps.trans G y,p,z,J,Q,L,X.trans q7 a⟩
  have lt:∀t,JH (goB E b o n B A) t=some (ok,v,h)→t.h.nx≤h.nx:=by
   intro t M;obtain ⟨C,Y,Z⟩:=Ka (goB E b o n B A) t;rw [Z] at M;rw [←Y];exact IY N n B A C _ M
  have done:∀(s:AS) (i:Ren) (u:Frame) (d:List Frame) (w1:World) (ok:Bool) (v:AV) (h:Aa),A4 E s=.done ok v h→SR i s u d w1→s.fr.fn=B→(A=true∨s.fr.round=none)→
    d=[]∧∃F j,u.fn=B∧(A=false→u.roundOf=none)∧Js E.P u w1 ok F j∧VR i v F∧HR i h.blk.get j∧Ext i i s.h h w1 j:=by
   intro s i u d w1 ok v h D M aa ab;obtain ⟨e,x,j,y,p,z,J⟩:=Ih hE M D;refine ⟨e,x,j,M.fr.fn.trans aa,fun ac=>?_,J,y,p,z⟩
   rcases ab with q|q
   ·rw [ac] at q;cases q
   ·have:=M.fr.round;rw [q] at this;exact this.none_inv
  by_cases hg:∃s,st=.g s
  ·obtain ⟨s,rfl⟩:=hg;rw [YM] at l;unfold gen at l;have m:SR I s c r w:=m;have hwf:WF s.h:=hwf;have a:AJ I s.h.nx h.nx:=a;split at l
   ·rename_i t R;split at l
    ·have f:=lt t l;obtain ⟨i,H,d,j,y,p,z⟩:=MY hE hO m hwf R (fun b G K=>a b G (by omega)) base
     exact O s t i H d j rfl y p z l
    ·cases l
   ·split at l
    ·rename_i t D;split at l
     ·have f:=lt t l;obtain ⟨i,H,d,j,y,p,z⟩:=Gq (base:=base) hE m D (fun b G K=>a b G (by omega))
      exact O s t i H d j rfl (Steps.one y) p z l
     ·cases l
    ·rename_i ad F h' D;split at l
     ·rename_i T;simp only [Option.some.injEq,Prod.mk.injEq] at l;obtain ⟨rfl,rfl,rfl⟩:=l;obtain ⟨b1,b2⟩:=Aq T
      obtain ⟨rfl,x,j,y,p,z,J,Q,L⟩:=done s I c r w _ _ _ D m (Aw (Aq b1).2) (by
       cases A with
       |true=>exact .inl rfl
       |false=>simp only [Bool.false_or,Option.isNone_iff_eq_none] at b2;exact .inr b2)
      exact ⟨I,c,x,w,j,Steps.refl _ _,y,p,z,J,Q,L⟩
     ·cases l
    ·rename_i s2 ops k D;obtain ⟨rfl,N,id,ht⟩:=CC D;split at l
     ·rename_i tmps G hd;have f:=lt _ l;obtain ⟨i,u,j,y,p,z⟩:=FN hE W m hwf N ht (In hd) (fun b a1 a2=>a b a1 (Nat.lt_of_lt_of_le a2 f)) base
      exact O _ _ i u r j rfl y p z l
     ·rename_i v1 tmps G hd;have f:=lt _ l;obtain ⟨i,u,j,y,p,z⟩:=FN hE W m hwf N ht (In hd) (fun b a1 a2=>a b a1 (Nat.lt_of_lt_of_le a2 f)) base
      exact O _ _ i u r j rfl y p z l
     ·cases l
    ·split at l
     ·rename_i t hl;split at l
      ·have f:=lt t l;obtain ⟨i,H,d,j,y,p,z⟩:=VA hE hO W m hwf hl (fun b G K=>a b G (by omega)) base
       exact O s t i H d j rfl y p z l
      ·cases l
     ·cases l
  ·rcases YW n B A st (fun s e=>hg ⟨s,e⟩) _ l with ⟨C,y,p⟩|⟨s1,y,p,z,J,Q,L⟩
   ·have f:=IY N n B A C _ p;obtain ⟨i,u,d,w1,r1,r2,S⟩:=y.ok hE m (fun b G K=>a b G (by have:C.as.h.nx≤h.nx:=f;omega)) base
    obtain ⟨τ,o,F,w2,j,t1,t2,t3,t4,t5,t6,t7⟩:=ih B A C i u d w1 ok v h r2 (S.wf hwf) p (S.free a) base;exact ⟨τ,o,F,w2,j,Steps.trans r1 t1,t2,t3,t4,t5,t6,S.trans t7 a⟩
   ·have z:ok=true:=z;subst z;have L:s1.h.nx≤h.nx:=L;obtain ⟨i,u,d,w1,r1,r2,S⟩:=y.ok hE m (fun b G K=>a b G (by omega)) base
    obtain ⟨rfl,x,j,t1,t2,t3,t4,t5,t6⟩:=done s1 i u d w1 _ _ _ p r2 J (.inr Q);exact ⟨i,u,x,w1,j,r1,t1,t2,t3,t4,t5,S.trans t6 a⟩
theorem fc:∀L,C8 E (cfN E L):=by
 intro L
 induction L with
 |zero=>exact ⟨fun _ _ _ _ _ _ _ _ _ _ _ _ h=>(by cases h),fun _ _ _ _ _ _ _ _ _ _ h=>(by cases h)⟩
 |succ L ih=>
  have s:∀(fr:AF) (g d:Aa) (ok:Bool) (v:AV) (e:Ren) (i:Frame) (w:World),FrR e fr i→HR e g.blk.get w→WF g→JH (goB E noB (cfN E L) 1000000 fr.fn true) {fr,cs:=[],h:=g}=some (ok,v,d)→AJ e g.nx d.nx→
    ∀(c0:Frame) (base:List Frame),∃j m k,B4 E.P (lone i (c0::base) w) c0 base ok m k∧VR j v m∧HR j d.blk.get k∧Ext e j g d w k:=by
   intro fr g d ok v e i w c hr hwf b a c0 base;obtain ⟨o,n,x⟩:=Ka (goB E noB (cfN E L) 1000000 fr.fn true) {fr,cs:=[],h:=g};rw [x] at b;obtain ⟨j,y,m,w1,k,z,D,F,A,B,C,t⟩:=Xg hE hO (fun _ _ _ _ h=>by cases h) (fun _ _ _ _ _ _ _ _ _ _ _ _ h=>by cases h) ih 1000000 fr.fn true o e i [] w ok v d (by rw [n];exact ⟨c,.nil,hr⟩) (by rw [n];exact hwf) b (by rw [n];exact a) (c0::base)
   rw [n] at t;refine ⟨j,m,k,?_,B,C,t⟩;have:=Steps.trans z (Steps.one (A.back c0 base));cases ok<;>exact this
  show C8 E (YK E (goB E noB (cfN E L) 1000000));refine ⟨?_,?_⟩
  ·intro G args p g d ok v e w u hr hwf b a;simp only [YK] at b;split at b
   ·rename_i r f;cases b;exact Eg hE hO f u hr hwf a
   ·split at b
    ·rename_i fr c;exact s fr g d ok v e _ w (CO hE c u) hr hwf b a
    ·cases b
  ·intro l args g d ok v e w hr hwf b a;simp only [YK] at b;split at b
   ·rename_i fr c;exact ⟨fr,c,fun i q=>s fr g d ok v e i w q hr hwf b a⟩
   ·cases b
end
end
theorem Orc.validB {E:Env} (hE:∀[U:Unk],U.K=(Env.of E.P).kinds→OK E) {G:Nat→D→D} (hO:Ai E G) {b:[Facts]→FuncId→Bool→QSt→R3} (hm:∀[F:Facts] f0 rd st x,b f0 rd st=some x→st.as.h.nx≤x.2.2.nx) (hb:∀[U:Unk],U.K=(Env.of E.P).kinds→U.V.fn=G→BOK E b) {N:Nat} {e:Orc} (h:∀[F:Facts],BF E b N e=true):e.Valid E.P G:=by
 intro U hK hG ρ w t ha hr hwf j c0 base;have hE:=hE hK;have C:=hb hK hG;subst hG;have l:=h (F:=U.toFacts);unfold BF at l;split at l
 ·rename_i ok v g i;simp only [Bool.and_eq_true,beq_iff_eq] at l;obtain ⟨⟨⟨⟨h1,h2⟩,h3⟩,h4⟩,h5⟩:=l;have e4:=Nat.eq_of_beq_eq_true h4;unfold dZ at i;split at i
  ·rename_i fr I;obtain ⟨J,r,s2⟩:=Ka (goB E b (cfN E 40) N e.f false) {fr,cs:=[],h:={blk:=e.part,nx:=e.nx,log:=[]}};rw [s2] at i;obtain ⟨σ,cf,v',w1,w',q1,q2,q3,q4,q5,q6,q7⟩:=Xg hE hO hm C (fc hE hO 40) N e.f false J ρ _ [] w ok v g (by rw [r];exact ⟨CO hE I ha,.nil,hr⟩) (by rw [r];exact hwf) i (by rw [r];show AJ ρ e.nx g.nx;rw [e4];exact j) (c0::base)
   rw [r] at q7;refine ⟨σ,v',w',g,?_,Do _ _ h2▸q5,q6,q7,C1 h3,e4,M3 h5⟩;rw [←h1];have:=Steps.trans q1 (Steps.one (q4.back c0 base));cases ok<;>exact this
  ·cases i
 ·cases l
theorem Orc.validG {E:Env} (hE:∀[U:Unk],U.K=(Env.of E.P).kinds→OK E) {G:Nat→D→D} (hO:Ai E G) {N:Nat} {e:Orc} (h:∀[F:Facts],Ap E N e=true):e.Valid E.P G:=
 Orc.validB hE hO (b:=noB) (fun _ _ _ _ h=>by cases h) (fun _ _ _ _ _ _ _ _ _ _ _ _ _ _ h=>by cases h) h
end Go.AE
namespace Go.AE
variable [Gl:AH]
variable [U:Unk]
def ca (x:Func):Bool:=!(x.name == "runtime.NumGoroutine")&&(x.body.isSome||(!(x.name == "maps.clone") && !(x.name == "internal/bytealg.IndexByteString") && !(x.name == "internal/bytealg.CountString"))||(Extern.allNextRows.lookup x.origin).isNone)
theorem aD:Extern.allNextRows.lookup "maps.clone" = none:=by kernel_rfl
theorem dt:Extern.allGenericRows.lookup "maps.clone" = none:=by kernel_rfl
theorem Xh:Extern.allTypedRows.lookup "maps.clone" = none:=by kernel_rfl
theorem iD:Extern.allRows.lookup "maps.clone" = some Extern.MapsClone.clone:=by kernel_rfl
theorem lY:Extern.allNextRows.lookup "internal/bytealg.IndexByteString" = none:=by kernel_rfl
theorem Aa4:Extern.allGenericRows.lookup "internal/bytealg.IndexByteString" = none:=by kernel_rfl
theorem f8:Extern.allTypedRows.lookup "internal/bytealg.IndexByteString" = none:=by kernel_rfl
theorem Acp:Extern.allRows.lookup "internal/bytealg.IndexByteString" = some Extern.BytealgIndexByte.indexByte:=by kernel_rfl
theorem ni:Extern.allNextRows.lookup "internal/bytealg.CountString" = none:=by kernel_rfl
theorem Acy:Extern.allGenericRows.lookup "internal/bytealg.CountString" = none:=by kernel_rfl
theorem kc:Extern.allTypedRows.lookup "internal/bytealg.CountString" = none:=by kernel_rfl
theorem zJ:Extern.allRows.lookup "internal/bytealg.CountString" = some Extern.BytealgCount.count:=by kernel_rfl
omit U in
theorem EU {x:Func} {n:String} (hn:x.name=n) (h1:Extern.allNextRows.lookup n=none) (h2:Extern.allNextRows.lookup x.origin=none):Extern.findNext x=none:=by
 show ((Extern.allNextRows.lookup x.name).map (· x.params x.resultTypes) <|> (Extern.allNextRows.lookup x.origin).map (· x.params x.resultTypes))=none
 rw [hn,h1,h2];rfl
omit U in
theorem KE {x:Func} {n:String} {g:Array Value→Sem Value} (hn:x.name=n) (h1:Extern.allGenericRows.lookup n=none) (h2:Extern.allTypedRows.lookup n=none) (h3:Extern.allRows.lookup n=some g):Extern.find x=some g:=by
 show (((Extern.allGenericRows.lookup x.name).map (· x.targs x.params x.resultTypes) <|> (Extern.allTypedRows.lookup x.name).map (· x.params x.resultTypes) <|> Extern.allRows.lookup x.name) <|> ((Extern.allGenericRows.lookup x.origin).map (· x.targs x.params x.resultTypes) <|> (Extern.allTypedRows.lookup x.origin).map (· x.params x.resultTypes) <|> Extern.allRows.lookup x.origin))=some g
 rw [hn,h1,h2,h3];rfl
omit U in
theorem I7:∀(l:List Orc) (f:Nat) (x:List Orc),(cz l).get f=some x→∀e∈x,e∈l
 |[],f,x,h=>by rw [cz,T.get_nil] at h;cases h
 |a::l,f,x,h=>by
  unfold cz sZ at h;intro e he;cases hq:(cz l).get a.f with
  |none=>
   rw [hq] at h;simp only [T.get_set] at h;split at h
   ·cases h;simp only [List.mem_singleton] at he;subst he;exact List.mem_cons_self
   ·exact List.mem_cons_of_mem _ (I7 l f x h e he)
  |some y=>
   rw [hq] at h;simp only [T.get_set] at h;split at h
   ·cases h;rcases List.mem_cons.1 he with q|q
    ·rw [q];exact List.mem_cons_self
    ·exact List.mem_cons_of_mem _ (I7 l a.f y hq e q)
   ·exact List.mem_cons_of_mem _ (I7 l f x h e he)
theorem OK.of {P:Program} {l:List Orc} {m:List Sm} (hm:P.follows .mixedOrders=true) (hc:P.funcs.toList.all ca=true) (hk:U.K=(Env.of P).kinds):OK (Env.ofS P l m):=by
 have r:∀f x,(Env.ofS P l m).fn.get f=some x→P.funcs[f]?=some x:=by
  intro f x h;rw [Env.ofS,T.get_ofList] at h;simpa using h
 have j:∀f x,(Env.ofS P l m).fn.get f=some x→ca x=true:=by
  intro f x h;have:=r f x h
  exact List.all_eq_true.1 hc x (by
   have h2:P.funcs.toList[f]?=some x:=by simpa using this
   exact List.mem_of_getElem? h2)
 refine ⟨fun t i h=>?_,r,fun f x h=>?_,fun f x h C hn=>?_,fun f x h C hn=>?_,fun f x h C hn=>?_,hm,hk,rfl,rfl,fun f x h=>I7 l f x h⟩
 ·rw [Env.ofS,T.get_ofList] at h;have h2:P.types[t]?=some i:=by simpa using h
  have J:t<P.types.size:=(Array.getElem?_eq_some_iff.1 h2).1;show P.info? t=some i;simp only [Tables.info?,if_pos J];exact h2
 ·have:=j f x h;simp only [ca,Bool.and_eq_true,Bool.not_eq_true'] at this;exact this.1
 ·have q:=j f x h;have I:Extern.allNextRows.lookup x.origin=none:=by simpa [ca,C,hn] using q
  exact ⟨EU hn aD I,KE hn dt Xh iD⟩
 ·have q:=j f x h;have I:Extern.allNextRows.lookup x.origin=none:=by simpa [ca,C,hn] using q
  exact ⟨EU hn lY I,KE hn Aa4 f8 Acp⟩
 ·have q:=j f x h;have I:Extern.allNextRows.lookup x.origin=none:=by simpa [ca,C,hn] using q
  exact ⟨EU hn ni I,KE hn Acy kc zJ⟩
theorem Ai.none {P:Program} {F:Nat→D→D}:Ai (Env.ofO P []) F:=⟨fun e he=>(by cases he),fun e he=>(by cases he)⟩
theorem Ai.add {P:Program} {l:List Orc} {m:List Sm} {e:Orc} {N:Nat} (hE:∀[U:Unk],U.K=(Env.of P).kinds→OK (Env.ofS P l m)) {G:Nat→D→D} (hO:Ai (Env.ofS P l m) G) (h:∀[F:Facts],XG (Env.ofS P l m) N e=true):Ai (Env.ofS P (e::l) m) G:=by
 refine ⟨fun x i=>?_,hO.sms⟩
 rcases List.mem_cons.1 i with rfl|i
 ·exact Orc.valid (E:=Env.ofS P l m) hE hO h
 ·exact hO.orc x i
theorem Ai.cons {P:Program} {l:List Orc} {m:List Sm} {e:Orc} {G:Nat→D→D} (h:e.Valid P G) (hO:Ai (Env.ofS P l m) G):Ai (Env.ofS P (e::l) m) G:=
 ⟨fun x i=>(List.mem_cons.1 i).elim (fun q=>q▸h) (fun q=>hO.orc x q),hO.sms⟩
theorem Ai.val {P:Program} {l:List Orc} {e:Orc} {N:Nat} (hE:∀[U:Unk],U.K=(Env.of P).kinds→OK (Env.ofS P l [])) {G:Nat→D→D} (hO:Ai (Env.ofS P l []) G) (h:∀[F:Facts],Ap (Env.ofS P l []) N e=true):e.Valid P G:=
 Orc.validG (E:=Env.ofS P l []) hE hO h
end Go.AE
namespace Go.AE
variable [Gl:AH]
abbrev iN (n:Nat):AV:=.int .i64 (.ofNat n)
abbrev pN (b:Nat):AV:=.ptr b 0
abbrev ceL (n:Nat) (a:List (List AV)):Ab:=.cells n (T.ofList a.flatten)
structure Cor where
 f:FuncId
 nt:Nat
 td:List AI
 tmps:T AV
 part:T Ab
 nx:Nat
 ok:Bool
 v:AV
 out:T Ab
 nx':Nat
 wr:List Nat
def Cor.heap (K:Cor):Aa:={blk:=K.part,nx:=K.nx,log:=[]}
def Cor.cx (K:Cor):CX:=⟨K.f,K.nt,[],.normal,none,[]⟩
def Cor.st (K:Cor):QSt:=.k K.td.tail K.tmps K.heap K.cx
def lN:List AI→List AI→Bool
 |[],[]=>true
 |a::r,b::s=>ew a b&&lN r s
 |_,_=>false
def XB (K:Cor) (X:CX):Bool:=Nat.beq X.fn K.f&&Nat.beq X.nt K.nt&&X.defers.isEmpty&&X.round.isNone&&X.cs.isEmpty&&(match X.kind with|.normal=>true|_=>false)
def Cor.base (K:Cor):FuncId→Bool→QSt→R3:=fun f i st=>match st with
 |.k td tmps h X=>match !i&&Nat.beq f K.f&&XB K X&&Nat.beq h.nx K.nx&&Nat.ble K.nx K.nx'&&lN td K.td.tail&&Iw K.tmps tmps&&PC K.part h.blk with
  |true=>some (K.ok,K.v,AX h {blk:=K.out,nx:=K.nx',log:=K.wr})
  |false=>none
 |_=>none
section
variable [U:Facts]
def An (E:Env) (b:FuncId→Bool→QSt→R3) (N:Nat) (K:Cor):Bool:=
 match goB E b (cfN E 40) N K.f false K.st with
 |some (ok,v,g)=>(ok==K.ok)&&Br v K.v&&PC K.out g.blk&&Nat.beq g.nx K.nx'&&bJ K.nx K.wr g.log
 |none=>false
end
def Cor.Valid (P:Program) (F:Nat→D→D) (K:Cor):Prop:=
 ∀[U:Unk],U.K=(Env.of P).kinds→U.V.fn=F→∀(ρ:Ren) (c:Frame) (w:World),SR ρ K.st.as c [] w→WF K.heap→AJ ρ K.nx K.nx'→
  ∀base:List Frame,∃j i r w1 l g,Steps P (lone c base w) (lone i base w1)∧i.fn=K.f∧i.roundOf=none∧Js P i w1 K.ok r l∧VR j K.v r∧HR j g.blk.get l∧
   Ext ρ j K.heap g w l∧(∀b x,K.out.get b=some x→g.blk.get b=some x)∧g.nx=K.nx'∧(∀b∈g.log,b<K.nx→b∈K.wr)
theorem Zh:∀{a b:List AI},lN a b=true→a=b
 |[],[],_=>rfl
 |a::r,b::s,h=>by
  simp only [lN,Bool.and_eq_true] at h;rw [ZP h.1,Zh h.2]
 |[],_::_,h=>by cases h
 |_::_,[],h=>by cases h
theorem bN {K:Cor} {X:CX} (h:XB K X=true):X=K.cx:=by
 unfold XB at h;simp only [Bool.and_eq_true] at h;obtain ⟨⟨⟨⟨⟨b,c⟩,d⟩,e⟩,g⟩,a⟩:=h;obtain ⟨fn,nt,i,kind,round,cs⟩:=X;have j:fn=K.f:=Nat.eq_of_beq_eq_true b;have k:nt=K.nt:=Nat.eq_of_beq_eq_true c;have l:i=[]:=by simpa using d
 have m:round=none:=by simpa using e
 have n:cs=[]:=by simpa using g
 have o:kind=.normal:=by
  simp only at a;split at a
  ·rfl
  ·cases a
 subst j k l m n o;rfl
theorem Cor.base_mono (K:Cor):∀i j st x,K.base i j st=some x→st.as.h.nx≤x.2.2.nx:=by
 intro i j st x h;unfold Cor.base at h;split at h
 ·rename_i td tmps r X;split at h
  ·rename_i l;cases h;simp only [Bool.and_eq_true] at l;obtain ⟨⟨⟨⟨⟨_,t⟩,C⟩,_⟩,_⟩,_⟩:=l;have I:=Nat.eq_of_beq_eq_true t;have J:=Nat.le_of_ble_eq_true C;show r.nx≤K.nx';omega
  ·cases h
 ·cases h
theorem Cor.base_ok {E:Env} {K:Cor} {F:Nat→D→D} (hv:K.Valid E.P F) [U:Unk] (hK:U.K=(Env.of E.P).kinds) (hF:U.V.fn=F):BOK E K.base:=by
 intro f0 rd st I c ab w ok v h r hwf l t base;unfold Cor.base at l;split at l
 ·rename_i td tmps C X;split at l
  ·rename_i J;cases l;simp only [Bool.and_eq_true,Bool.not_eq_true'] at J;obtain ⟨⟨⟨⟨⟨⟨⟨h1,h2⟩,h3⟩,h4⟩,h5⟩,h6⟩,h7⟩,h8⟩:=J;have e2:f0=K.f:=Nat.eq_of_beq_eq_true h2;have e3:=bN h3;have e4:C.nx=K.nx:=Nat.eq_of_beq_eq_true h4;have e6:=Zh h6;subst e3 e6
   have al:ab=[]:=by
    have:=r.cs;generalize hq:((QSt.k K.td tmps C K.cx).as).cs=q at this;have hq:[]=q:=hq;subst hq;cases this;rfl
   subst al;have hwf:WF C:=hwf
   have an:FrR I K.st.as.fr c:=by
    have q:=r.fr;exact ⟨q.fn,⟨q.tm.size,fun i x l=>q.tm.get i x (Fl h7 i x l)⟩,q.todo,q.defers,q.mode,q.kind,q.round⟩
   have hr:HR I C.blk.get w:=r.h
   have ar:WF K.heap:=fun b J=>by
    show K.part.get b=none;cases hp:K.part.get b with
    |none=>rfl
    |some x=>
     have q:=C1 h8 b x hp;rw [hwf b (by rw [e4];exact J)] at q
     cases q
   have j:AJ I C.nx K.nx':=t;obtain ⟨σ,cf,v',w1,w',g,q1,q2,q3,q4,q5,q6,q7,q8,q9,av⟩:=hv hK hF I c w ⟨an,.nil,hr.weaken (fun b x _ l=>C1 h8 b x l)⟩ ar (by rw [←e4];exact j) base
   have q7:Ext I σ {blk:=K.part,nx:=C.nx,log:=[]} g w w':=by rw [e4];exact q7
   obtain ⟨m1,m2⟩:=Oh hr hwf (C1 h8) j q6 q7 q8 q9 (by rw [e4];exact av)
   exact ⟨σ,cf,v',w1,w',q1,q2.trans e2.symm,fun _=>q3,q4,q5,m1,m2⟩
  ·cases l
 ·cases l
theorem Cor.valid {P:Program} {l:List Orc} {K:Cor} {N:Nat} {G:Nat→D→D} {b:FuncId→Bool→QSt→R3} (hE:∀[U:Unk],U.K=(Env.of P).kinds→OK (Env.ofS P l [])) (hO:Ai (Env.ofS P l []) G)
  (hm:∀f0 rd st x,b f0 rd st=some x→st.as.h.nx≤x.2.2.nx) (hb:∀[U:Unk],U.K=(Env.of P).kinds→U.V.fn=G→BOK (Env.ofS P l []) b) (h:∀[F:Facts],An (Env.ofS P l []) b N K=true):K.Valid P G:=by
 intro U hK I J c w t hwf i base;have hE:=hE hK;have C:=hb hK I;subst I;have r:=h (F:=U.toFacts);unfold An at r;split at r
 ·rename_i ok v g j;simp only [Bool.and_eq_true,beq_iff_eq] at r;obtain ⟨⟨⟨⟨h1,h2⟩,h3⟩,h4⟩,h5⟩:=r;have e4:=Nat.eq_of_beq_eq_true h4;obtain ⟨σ,cf,v',w1,w',q1,q2,q3,q4,q5,q6,q7⟩:=Xg hE hO hm C (fc hE hO 40) N K.f false K.st J c [] w ok v g t hwf j (by show AJ J K.nx g.nx;rw [e4];exact i) base
  exact ⟨σ,cf,v',w1,w',g,q1,q2,q3 rfl,h1▸q4,Do _ _ h2▸q5,q6,q7,C1 h3,e4,M3 h5⟩
 ·cases r
theorem Cor.last {P:Program} {l:List Orc} {K:Cor} {N:Nat} {G:Nat→D→D} (hE:∀[U:Unk],U.K=(Env.of P).kinds→OK (Env.ofS P l [])) (hO:Ai (Env.ofS P l []) G) (h:∀[F:Facts],An (Env.ofS P l []) noB N K=true):K.Valid P G:=
 Cor.valid hE hO (b:=noB) (fun _ _ _ _ h=>by cases h) (fun _ _ _ _ _ _ _ _ _ _ _ _ _ _ h=>by cases h) h
theorem Cor.next {P:Program} {l:List Orc} {K i:Cor} {N:Nat} {G:Nat→D→D} (hE:∀[U:Unk],U.K=(Env.of P).kinds→OK (Env.ofS P l [])) (hO:Ai (Env.ofS P l []) G) (j:i.Valid P G) (h:∀[F:Facts],An (Env.ofS P l []) i.base N K=true):K.Valid P G:=
 Cor.valid hE hO i.base_mono (fun hK r=>Cor.base_ok (E:=Env.ofS P l []) j hK r) h
theorem Orc.first {P:Program} {l:List Orc} {e:Orc} {i:Cor} {N:Nat} {G:Nat→D→D} (hE:∀[U:Unk],U.K=(Env.of P).kinds→OK (Env.ofS P l [])) (hO:Ai (Env.ofS P l []) G) (j:i.Valid P G) (h:∀[F:Facts],BF (Env.ofS P l []) i.base N e=true):e.Valid P G:=
 Orc.validB (E:=Env.ofS P l []) hE hO i.base_mono (fun hK r=>Cor.base_ok (E:=Env.ofS P l []) j hK r) h
end Go.AE

