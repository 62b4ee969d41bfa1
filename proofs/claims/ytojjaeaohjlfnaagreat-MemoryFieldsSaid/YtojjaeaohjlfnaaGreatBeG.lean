/- What is proved here: an evaluator of the model's steps that the kernel can run, and that whatever it answers is what the model does (part 7 of 8: AeLoop, AeRun4, AeQuick, AeFast, AeOK, AeSeg). Conditions: those that each theorem states; they hold of no one program. -/
import Derived.Test.YtojjaeaohjlfnaaGreatBeF
import Derived.Eval
import Derived.KernelRfl
set_option linter.unusedVariables false
set_option linter.unusedSectionVars false
set_option linter.unusedSimpArgs false
namespace Go.AE
variable [Gl:AH]
section
variable [U:Vals]
theorem blT {a b:Nat} (h:Nat.blt a b=true):a<b:=Nat.le_of_ble_eq_true h
theorem T.allA_get {J:Type} {p:J→Bool}:∀{t:T J},t.allA p=true→∀i x,t.get i=some x→p x=true
 |.nil,_,i,x,I=>by rw [T.get_nil] at I;cases I
 |.node v l r,h,i,x,I=>by
  simp only [T.allA,Bool.and_eq_true] at h;obtain ⟨h1,h2,h3⟩:=h;by_cases e:i=0
  ·rw [T.get_zero _ _ _ e] at I;subst I;exact h1
  ·by_cases o:i%2=1
   ·rw [T.get_odd _ _ _ o] at I;exact T.allA_get h2 _ x I
   ·rw [T.get_even _ _ _ (by omega) e] at I;exact T.allA_get h3 _ x I
theorem Dc {n:Nat}:∀{l:List AV},EZ n l=true→∀(i:Nat) (a:AV),l[i]?=some a→GN n a=true
 |[],_,i,a,h=>by simp at h
 |x::l,h,i,a,b=>by
  simp only [EZ,Bool.and_eq_true] at h;cases i with
  |zero=>simp only [List.getElem?_cons_zero,Option.some.injEq] at b;subst b;exact h.1
  |succ i=>exact Dc h.2 i a (by simpa using b)
def Ren.cut (l:Ren) (nx N:Nat):Ren:=⟨fun b=>if nx≤b∧b<N then none else l b,l.imm⟩
theorem Ren.cut_lt {l:Ren} {nx N b:Nat} (h:b<nx):(l.cut nx N) b=l b:=if_neg (by omega)
theorem Ren.cut_some {l:Ren} {nx N b:Nat} {x:Br} (h:(l.cut nx N) b=some x):l b=some x:=by
 unfold Ren.cut at h;simp only at h;split at h
 ·cases h
 ·exact h
theorem Ren.le_cut {l t:Ren} {nx N:Nat} (h:l.le t) (I:AG l nx N):l.le (t.cut nx N):=by
 refine ⟨fun b x r=>?_,h.imm⟩
 unfold Ren.cut;simp only;split
 ·rename_i q;rw [I b q.1 q.2] at r;cases r
 ·exact h.m b x r
theorem Ren.cut_free (l:Ren) (nx N:Nat):AG (l.cut nx N) nx N:=fun b r h2=>if_pos ⟨r,h2⟩
theorem FnR.cut {l:Ren} {nx N:Nat} {f g:Fn} (h:FnR l f g) (k:bi nx f=true):FnR (l.cut nx N) f g:=by
 cases f<;>simp only [FnR] at h ⊢<;>first|exact h|skip
 obtain ⟨x,r,t⟩:=h;exact ⟨x,(Ren.cut_lt (blT k)).trans r,t⟩
theorem VR.cut {τ:Ren} {nx N:Nat} {a:AV} {v:Value} (h:VR τ a v) (r:GN nx a=true):VR (τ.cut nx N) a v:=by
 have at':∀{b:Nat} {x:Br},τ b=some x→Nat.blt b nx=true→(τ.cut nx N) b=some x:=fun h k=>(Ren.cut_lt (blT k)).trans h
 induction h with
 |top v=>exact .top v
 |bool b=>exact .bool b
 |int k n=>exact .int k n
 |str s=>exact .str s
 |ptr0=>exact .ptr0
 |ptr b off base h=>exact .ptr b off base (at' h r)
 |slice0=>exact .slice0
 |slice b off n es cap base h hc hz=>exact .slice b off n es cap base (at' h r) hc hz
 |sliceEnd b off es a=>exact .sliceEnd b off es a
 |map0=>exact .map0
 |map b base h=>exact .map b base (at' h r)
 |func fn ab f c f' c' h h1 h2 h3 h4 al an=>
  simp only [GN,Bool.and_eq_true] at r;exact .func fn ab f c f' c' (h.cut r.1) h1 (fun i a v I hv=>al i a v I hv (Dc r.2.1 i a I)) h3 (fun i a v I hv=>an i a v I hv (Dc r.2.2 i a I))
 |nilFunc=>exact .nilFunc
 |iface t a v h ih=>exact .iface t a v (ih r)
 |nilIface=>exact .nilIface
 |agg l l' h1 h2 ih=>exact .agg l l' h1 (fun i a v I hv=>ih i a v I hv (Dc r i a I))
 |tuple l l' h1 h2 ih=>exact .tuple l l' h1 (fun i a v I hv=>ih i a v I hv (Dc r i a I))
 |sb pos e=>exact .sb pos e
 |si k e=>exact .si k e
 |ss x=>exact .ss x
 |dat e x a n c h=>exact .dat e x a n c h
 |dptr e x i off b o n cap ks h ar h0 hi ho=>exact .dptr e x i off b o n cap ks h ar h0 hi ho
 |asl b es n J cap base h h0 hc hz hn=>exact .asl b es n J cap base (at' h r) h0 hc hz hn
 |aslEnd b es n J a h0 hn=>exact .aslEnd b es n J a h0 hn
 |eslc J a hn=>exact .eslc J a hn
 |aptr b es i off base h h0=>exact .aptr b es i off base (at' h r) h0
 |nmap b J base h hn=>exact .nmap b J base (at' h r) hn
 |nmap0 b J hn=>exact .nmap0 b J hn
 |stamp b base h=>exact .stamp b base (at' h r)
 |glob g off=>exact .glob g off
 |fsl b off n es base h hz=>exact .fsl b off n es base (at' h r) hz
theorem VL.cut {r:Ren} {nx N:Nat} {l:List AV} {l':List Value} (h:VL r l l') (k:EZ nx l=true):VL (r.cut nx N) l l':=
 ⟨h.1,fun i a v t I=>(h.2 i a v t I).cut (Dc k i a t)⟩
theorem TR.cut {l:Ren} {nx N nt:Nat} {t:T AV} {a:Array Value} (h:TR l nt t a) (k:t.allA (GN nx)=true):TR (l.cut nx N) nt t a:=
 ⟨h.size,fun i x r=>(h.get i x r).cut (T.allA_get k i x r)⟩
theorem ER.cut {r:Ren} {nx N:Nat}:∀{l:List Aj} {t:List MapEntry},ER r l t→YS nx l=true→ER (r.cut nx N) l t
 |[],[],_,_=>trivial
 |_::_,_::_,⟨I,J,h3,h4⟩,k=>by
  simp only [YS,Bool.and_eq_true] at k;exact ⟨I.cut k.1,J.cut k.2.1,h3,h4.cut k.2.2⟩
 |[],_::_,h,_=>h.elim
 |_::_,[],h,_=>h.elim
theorem DL.cut {τ:Ren} {nx N:Nat}:∀{l:List AD} {l':List Deferred},DL τ l l'→X8 nx l=true→DL (τ.cut nx N) l l'
 |[],[],_,_=>trivial
 |d::_,_::_,⟨r,h2⟩,k=>by
  simp only [X8,Bool.and_eq_true] at k;refine ⟨?_,h2.cut k.2.2.2⟩;unfold DR at *;cases hf:d.fn with
  |none=>
   rw [hf] at r k;obtain ⟨base,t,I⟩:=r;exact ⟨base,(Ren.cut_lt (blT k.1)).trans t,I⟩
  |some fn=>
   rw [hf] at r k;obtain ⟨J,c',a',t,I,h5,h6⟩:=r;exact ⟨J,c',a',t.cut k.1,I.cut k.2.1,h5.cut k.2.2.1,h6⟩
 |[],_::_,h,_=>h.elim
 |_::_,[],h,_=>h.elim
theorem BR.cut {τ:Ren} {nx N:Nat} {x:Ag} {base:Br} {o:Option Obj} (h:BR τ x base o) (k:T8 nx x=true):BR (τ.cut nx N) x base o:=by
 cases x with
 |cells n c=>
  obtain ⟨ab,e,fz,r,t,J,h4,h5⟩:=h;exact ⟨ab,e,fz,r,t,J,h4,fun i a hi ha=>let ⟨v,hv,hr⟩:=h5 i a hi ha;⟨v,hv,hr.cut (T.allA_get k i a ha)⟩⟩
 |arr e x=>exact h
 |map es al=>obtain ⟨I,r,t⟩:=h;exact ⟨I,r,t.cut k⟩
 |dmap kt vt x=>exact h
 |dmapS kt vt x n b=>obtain ⟨an,ar,I,c,r,t,J,h4,h5,bs,h6,h7⟩:=h;exact ⟨an,ar,I,c,r,t,J,h4,h5,bs,(Ren.cut_lt (blT k)).trans h6,h7⟩
 |loop st pending fn nt tmps params assign body d=>
  simp only [T8,Bool.and_eq_true] at k;obtain ⟨tm,bd,r,t,J⟩:=h;exact ⟨tm,bd,(Ren.cut_lt (blT k.1)).trans r,t.cut k.2,J⟩
 |deferred ds=>cases ds with
  |none=>exact h
  |some l=>obtain ⟨l',r,t⟩:=h;exact ⟨l',r.cut k,t⟩
 |mapIter m av seen last=>cases m with
  |none=>exact h
  |some b=>obtain ⟨h0,bm,r,t⟩:=h;exact ⟨h0,bm,(Ren.cut_lt (blT k)).trans r,t⟩
 |strIter l b pos=>exact h
theorem HR.cut {I:Ren} {nx N:Nat} {g:Nat→Option Ag} {w:World} (h:HR I g w) (k:∀b x,g b=some x→T8 nx x=true):HR (I.cut nx N) g w:=
 ⟨fun b base l=>h.lt b base (Ren.cut_some l),fun b base x l J=>(h.blk b base x (Ren.cut_some l) J).cut (k b x J),
  fun b b' base base' r l t h1 h2=>h.apart b b' base base' r (Ren.cut_some l) (Ren.cut_some t) h1 h2,h.imm,fun k' arr b base hk l hl=>h.off k' arr b base hk (Ren.cut_some l) hl,h.glob⟩
structure Ex0 (ρ σ:Ren) (h h':Aa) (w w':World):Prop where
 le:ρ.le σ
 nx:h.nx≤h'.nx
 new:∀b base,σ b=some base→ρ b=some base∨(h.nx≤b∧b<h'.nx∧(w.heap.size≤base.cb∨∃b0 base0,ρ b0=some base0∧h.blk.get b0≠none∧base0.cb=base.cb))
 calm:GH w w'
 kept:∀k,k<w.heap.size→(∀b base,ρ b=some base→h.blk.get b≠none→base.cb≠k)→w'.heap[k]?=w.heap[k]?
 live:∀b,h'.blk.get b≠none→h.blk.get b≠none∨(h.nx≤b∧b<h'.nx)
 imm:∀k arr,σ.imm k=some arr→ρ.imm k=some arr∨w.heap.size≤k∨∃b0 base0,ρ b0=some base0∧h.blk.get b0≠none∧base0.cb=k
theorem Ext.ex {ρ l:Ren} {h h':Aa} {w r:World} (e:Ext ρ l h h' w r):Ex0 ρ l h h' w r:=⟨e.le,e.nx,e.new,e.calm,e.kept,e.live,e.imm⟩
theorem Ex0.ext {ρ r:Ren} {h h':Aa} {w t:World} (e:Ex0 ρ r h h' w t) (l:∃l,h'.log=l++h.log∧∀b,b∉l→(b<h.nx∨h'.nx≤b)→h'.blk.get b=h.blk.get b):Ext ρ r h h' w t:=⟨e.le,e.nx,e.new,e.calm,e.kept,l,e.live,e.imm⟩
theorem Ex0.full {r t:Ren} {h h':Aa} {w I:World} (e:Ex0 r t h h' w I) (J:WF h) (h2:WF h') (l:List Nat) :
  Ext r t {h with log:=l} {h' with log:=List.range h'.nx++l} w I:=
 ⟨e.le,e.nx,e.new,e.calm,e.kept,⟨List.range h'.nx,rfl,fun b hb _=>by
  have hn:=e.nx
  have:h'.nx≤b:=by
   rcases Nat.lt_or_ge b h'.nx with q|q
   ·exact absurd (List.mem_range.2 q) hb
   ·exact q
  show h'.blk.get b=h.blk.get b;rw [h2 b this,J b (by omega)]⟩,e.live,e.imm⟩
theorem Ex0.trans {ρ t I:Ren} {h l r:Aa} {w w1 w2:World} (e:Ex0 ρ t h l w w1) (k:Ex0 t I l r w1 w2) (q:WF h) (J:WF l) (q2:WF r) (f:AG ρ h.nx r.nx):Ex0 ρ I h r w w2:=by
 have a:=e.full q J [];have b:=k.full J q2 (List.range l.nx++[]);have c:=a.trans b f;exact ⟨c.le,c.nx,c.new,c.calm,c.kept,c.live,c.imm⟩
theorem Ex0.free {r l:Ren} {h h':Aa} {w I:World} (e:Ex0 r l h h' w I) {m:Nat} (f:AG r h.nx m):AG l h'.nx m:=by
 intro b hb J;have:=e.nx;cases hs:l b with
 |none=>rfl
 |some base=>
  rcases e.new b base hs with t|⟨_,h2,_⟩
  ·rw [f b (by omega) J] at t;cases t
  ·omega
theorem Ex0.tgt {I J:Ren} {h l h2:Aa} {w w':World} (e:Ex0 I J h l w w') (hn:l.nx≤h2.nx) (hl:∀b,h2.blk.get b≠none→l.blk.get b≠none∨h.blk.get b≠none):Ex0 I J h h2 w w':=by
 refine ⟨e.le,Nat.le_trans e.nx hn,fun b base r=>?_,e.calm,e.kept,fun b r=>?_,e.imm⟩
 ·rcases e.new b base r with q|⟨t,q2,q3⟩
  ·exact .inl q
  ·exact .inr ⟨t,by omega,q3⟩
 ·rcases hl b r with q|q
  ·rcases e.live b q with q|⟨t,q2⟩
   ·exact .inl q
   ·exact .inr ⟨t,by omega⟩
  ·exact .inl q
theorem Ex0.back {ρ l r:Ren} {h S R:Aa} {w w1 w2:World} {N:Nat} (t:Ex0 ρ l h S w w1) (J:Ex0 ρ r h R w w2) (ab:l.le r) (hf:AG l S.nx N) (hn:∀b x,r b=some x→(l b=some x∨(S.nx≤b∧b<N))) :
  Ex0 ρ (r.cut S.nx N) h S w w2:=by
 refine ⟨t.le.trans (Ren.le_cut ab hf),t.nx,fun b base I=>?_,J.calm,J.kept,t.live,J.imm⟩
 rcases hn b base (Ren.cut_some I) with q|⟨q1,q2⟩
 ·exact t.new b base q
 ·unfold Ren.cut at I;simp only [if_pos (And.intro q1 q2)] at I;cases I
omit U in
theorem Fh:∀{a b:T AV},HW a b=true→∀i x,a.get i=some x→b.get i=some x
 |.nil,_,_,i,x,hx=>by rw [T.get_nil] at hx;cases hx
 |.node v l r,.node v' l' r',h,i,x,hx=>by
  simp only [HW,Bool.and_eq_true] at h;obtain ⟨h1,h2,h3⟩:=h;by_cases e:i=0
  ·rw [T.get_zero _ _ _ e] at hx ⊢;subst hx;cases v' with
   |none=>cases h1
   |some y=>rw [Dr _ _ h1]
  ·by_cases o:i%2=1
   ·rw [T.get_odd _ _ _ o] at hx ⊢;exact Fh h2 _ x hx
   ·rw [T.get_even _ _ _ (by omega) e] at hx ⊢;exact Fh h3 _ x hx
 |.node v l r,.nil,h,i,x,hx=>by
  simp only [HW,Bool.and_eq_true] at h;obtain ⟨h1,h2,h3⟩:=h;by_cases e:i=0
  ·rw [T.get_zero _ _ _ e] at hx;subst hx;cases h1
  ·by_cases o:i%2=1
   ·rw [T.get_odd _ _ _ o] at hx;have:=Fh h2 _ x hx;rw [T.get_nil] at this;cases this
   ·rw [T.get_even _ _ _ (by omega) e] at hx;have:=Fh h3 _ x hx;rw [T.get_nil] at this;cases this
omit U in
theorem HK:∀{a b:T AV} {i:Nat} {x:AV},(Eb a b).get i=some x→b.get i=some x
 |.nil,_,i,x,hx=>by simp only [Eb,T.get_nil] at hx;cases hx
 |.node v l r,.nil,i,x,hx=>by simp only [Eb,T.get_nil] at hx;cases hx
 |.node v l r,.node v' l' r',i,x,hx=>by
  simp only [Eb] at hx;by_cases e:i=0
  ·rw [T.get_zero _ _ _ e] at hx ⊢;cases v with
   |none=>cases hx
   |some y=>exact hx
  ·by_cases o:i%2=1
   ·rw [T.get_odd _ _ _ o] at hx ⊢;exact HK hx
   ·rw [T.get_even _ _ _ (by omega) e] at hx ⊢;exact HK hx
omit U in
theorem Nt:∀{l:List Tmp} {t:T AV} {i:Nat} {x:AV},(TN l t).get i=some x→t.get i=some x
 |[],t,i,x,h=>h
 |d::r,t,i,x,h=>by
  have:=Nt (l:=r) h;rw [T.get_del] at this;split at this
  ·cases this
  ·exact this
omit U in
theorem T1 {a b:AI} (h:VN a b=true):a=b:=by
 cases a<;>cases b<;>simp only [VN,Bool.false_eq_true,Bool.and_eq_true] at h
 ·rw [D6 h]
 ·rw [AX h]
 ·rw [D6 h]
 ·rw [D6 h]
 ·rw [Er (fun _ _=>JC) h.1,G1 (fun _ _=>JC) h.2]
theorem IL.any {ρ σ:Ren}:∀{l m:List AI} {k:List Item},FqQ VN l m=true→IL ρ m k→IL σ l k
 |[],[],k,_,h=>by cases h;exact .nil
 |[],_::_,k,e,_=>by cases e
 |_::_,[],k,e,_=>by cases e
 |a::l,b::m,k,e,h=>by
  simp only [FqQ,Bool.and_eq_true] at e;have ab:=T1 e.1;subst ab;have J:=e.1;cases h with
  |cons h1 h2=>
   refine .cons ?_ (IL.any e.2 h2);cases h1 with
   |code c=>exact .code c
   |inBlock id=>exact .inBlock id
   |inLoop b=>exact .inLoop b
   |inScope b=>exact .inScope b
   |ops all rest I h=>exact .ops all rest I h
   |_=>cases J
  |rest=>cases J
theorem M0 {f:AF} (h:OP f=true):f.defers=[]∧f.mode=.run∧f.kind=.normal∧f.round=none:=by
 simp only [OP,Bool.and_eq_true] at h;obtain ⟨h1,h2,h3,g⟩:=h;refine ⟨List.isEmpty_iff.1 h1,?_,?_,by simpa using g⟩
 ·cases c:f.mode<;>rw [c] at h2<;>first|rfl|cases h2
 ·cases c:f.kind<;>rw [c] at h3<;>first|rfl|cases h3
theorem FrR.place {J I:Ren} {f g:AF} {c:Frame} (h:FrR J g c) (e:Ko f g=true) (hm:∀i x,f.tmps.get i=some x→VR I x (c.tmps.getD i Go.undef)):FrR I f c:=by
 simp only [Ko,Bool.and_eq_true] at e;obtain ⟨e1,e2,e3,e4,e5⟩:=e;obtain ⟨a1,a2,a3,a4⟩:=M0 e1;obtain ⟨b1,b2,b3,b4⟩:=M0 e2;refine ⟨by rw [h.fn,AX e3],⟨by rw [h.tm.size,AX e4],hm⟩,IL.any e5 h.todo,?_,?_,by rw [h.kind,b3,a3],?_⟩
 ·have:=h.defers;rw [b1] at this;rw [a1];generalize c.defers=d at this;cases d with
  |nil=>trivial
  |cons=>exact this.elim
 ·have:=h.mode;rw [b2] at this;rw [a2];generalize c.mode=d at this;cases this;exact .run
 ·have:=h.round;rw [b4] at this;rw [a4];generalize c.roundOf=d at this;cases d with
  |none=>trivial
  |some=>exact this.elim
omit U in
theorem PG {nx:Nat} {t t':T Ag}:∀{l:List Nat},Tv nx t t' l=true→∀b∈l,b<nx→∀x,t.get b=some x→t'.get b=some x
 |[],_,b,hb,_,_,_=>by cases hb
 |c::l,h,b,hb,hlt,x,hx=>by
  simp only [Tv,Bool.and_eq_true] at h;rcases List.mem_cons.1 hb with rfl|hb
  ·rcases Bool.or_eq_true _ _▸h.1 with q|q
   ·have:=Nat.le_of_ble_eq_true q;omega
   ·rw [hx] at q;simp only at q;cases hy:t'.get b with
    |none=>rw [hy] at q;cases q
    |some y=>rw [hy] at q;rw [Lp q]
  ·exact PG h.2 b hb hlt x hx
theorem Hx {n:Nat}:∀{l:List Aj} {e:Aj},e∈l→e.born≠n→e∈Jr n l
 |x::l,e,h,f=>by
  unfold Jr;rcases List.mem_cons.1 h with rfl|h
  ·cases q:Nat.beq e.born n with
   |true=>exact absurd (AX q) f
   |false=>exact List.mem_cons_self
  ·cases q:Nat.beq x.born n with
   |true=>exact Hx h f
   |false=>exact List.mem_cons_of_mem _ (Hx h f)
theorem GV {run:Aj→Option AS} {S:AS}:∀{l:List Aj} {x:Option (Aj×AS)} {n:Nat},FP run S l=some (x,n)→
  S.h.nx≤n∧∀e∈l,∃R,run e=some R∧R.cs=[]∧Ko S.fr R.fr=true∧S.h.nx≤R.h.nx∧R.h.nx≤n∧(Lc S R=true∨(x=some (e,R)∧Lc S R=false))
 |[],x,n,h=>by
  simp only [FP,Option.some.injEq,Prod.mk.injEq] at h;exact ⟨by omega,fun e k=>by cases k⟩
 |e::l,x,n,h=>by
  simp only [FP] at h;split at h
  ·rename_i R x0 p hR m;obtain ⟨i1,i2⟩:=GV m;split at h
   ·rename_i x1 f g;simp only [Option.some.injEq,Prod.mk.injEq] at h;obtain ⟨rfl,rfl⟩:=h;simp only [Bool.and_eq_true] at f;obtain ⟨c1,c2,c3⟩:=f;refine ⟨by omega,fun y hy=>?_⟩
    rcases List.mem_cons.1 hy with rfl|hy
    ·exact ⟨R,hR,List.isEmpty_iff.1 c1,c2,Nat.le_of_ble_eq_true c3,by omega,.inl g⟩
    ·obtain ⟨j,a1,a2,a3,a4,a5,a6⟩:=i2 y hy;exact ⟨j,a1,a2,a3,a4,by omega,a6⟩
   ·rename_i f g;simp only [Option.some.injEq,Prod.mk.injEq] at h;obtain ⟨rfl,rfl⟩:=h;simp only [Bool.and_eq_true] at f;obtain ⟨c1,c2,c3⟩:=f;refine ⟨by omega,fun y hy=>?_⟩
    rcases List.mem_cons.1 hy with rfl|hy
    ·exact ⟨R,hR,List.isEmpty_iff.1 c1,c2,Nat.le_of_ble_eq_true c3,by omega,.inr ⟨rfl,g⟩⟩
    ·obtain ⟨j,a1,a2,a3,a4,a5,a6⟩:=i2 y hy;refine ⟨j,a1,a2,a3,a4,by omega,.inl ?_⟩
     rcases a6 with q|⟨q,_⟩
     ·exact q
     ·cases q
   ·cases h
  ·cases h
theorem Kc {run:Aj→Option AS} {S:AS}:∀{l:List Aj} {e:Aj} {R:AS} {n:Nat},FP run S l=some (some (e,R),n)→e∈l∧run e=some R∧Lc S R=false
 |[],e,R,n,h=>by simp [FP] at h
 |a::l,e,R,n,h=>by
  simp only [FP] at h;split at h
  ·rename_i k x0 m hR f;split at h
   ·simp only [Option.some.injEq,Prod.mk.injEq] at h;obtain ⟨rfl,_⟩:=h;obtain ⟨i1,i2,g⟩:=Kc f;exact ⟨List.mem_cons_of_mem _ i1,i2,g⟩
   ·rename_i p j;simp only [Option.some.injEq,Prod.mk.injEq] at h;obtain ⟨⟨rfl,rfl⟩,_⟩:=h;exact ⟨List.mem_cons_self,hR,j⟩
   ·cases h
  ·cases h
theorem Pl:∀{j:List Aj} {lo c:Nat},OW lo j c=true→(∀e∈j,lo≤e.born)∧∀e∈j,∀f∈j,e.born=f.born→e=f
 |[],lo,c,_=>⟨fun e h=>(by cases h),fun e h f h' hb=>(by cases h)⟩
 |a::r,lo,c,h=>by
  simp only [OW,Bool.and_eq_true] at h;obtain ⟨⟨a1,a2⟩,a3⟩:=h;have a1:=Nat.le_of_ble_eq_true a1;obtain ⟨i1,i2⟩:=Pl a3;refine ⟨fun e k=>?_,fun e k f m hb=>?_⟩
  ·rcases List.mem_cons.1 k with q|q
   ·subst q;exact a1
   ·have:=i1 e q;omega
  ·rcases List.mem_cons.1 k with q|q<;>rcases List.mem_cons.1 m with g|g
   ·rw [q,g]
   ·have:=i1 f g;rw [q] at hb;omega
   ·have:=i1 e q;rw [g] at hb;omega
   ·exact i2 e q f g hb
theorem YN {s:AS} {b m f:Nat} {j:List Aj} (h:cE s=some (b,m,j,f)):∃g,Em b s.fr=true∧s.h.blk.get b=some (.mapIter (some m) g [] f)∧s.h.blk.get m=some (.map j f)∧Kv g f j=true∧OW 0 j f=true∧m≠b:=by
 unfold cE at h;split at h
 ·rename_i all o r k w z;split at h
  ·rename_i it A B;split at h
   ·rename_i D n;split at h
    ·rename_i m0 g last hb;split at h
     ·rename_i C cl p;split at h
      ·rename_i u;simp only [Option.some.injEq,Prod.mk.injEq] at h;obtain ⟨rfl,rfl,rfl,rfl⟩:=h;simp only [Bool.and_eq_true,Bool.not_eq_true'] at u;obtain ⟨c1,c2,c3,c4⟩:=u;have c1:=AX c1;subst c1;refine ⟨g,?_,hb,p,c2,c3,fun e=>?_⟩
       ·simp only [Em,w,z,A,B,n,Nat.beq_refl]
       ·subst e;rw [Nat.beq_refl] at c4;cases c4
      ·cases h
     ·cases h
    ·cases h
   ·cases h
  ·cases h
 ·cases h
end
section
variable [U:Unk] {E:Env} (hE:OK E) (hO:Ah E U.V.fn)
theorem PP {d i:Ren} {h h':Aa} {w j:World} (e:Ext d i h h' w j) (n:AG d h.nx h'.nx) {k:Nat} {o:Obj} (l:w.heap[k]?=some o) (a:∀b x,d b=some x→h.blk.get b≠none→x.cb≠k) :
  j.heap[k]?=some o∧∀b x,i b=some x→h'.blk.get b≠none→x.cb≠k:=by
 have p:k<w.heap.size:=(Array.getElem?_eq_some_iff.1 l).1;refine ⟨by rw [e.kept k p a];exact l,fun b x q r=>?_⟩
 rcases e.new b x q with f|⟨_,_,m⟩
 ·rcases e.live b r with c|⟨c,g⟩
  ·exact a b x f c
  ·rw [n b c g] at f;cases f
 ·rcases m with m|⟨s,x0,c,g,t⟩
  ·omega
  ·rw [←t];exact a s x0 c g
include hE in
theorem RD {σ:Ren} {s s':AS} {c:Frame} {ccs bs:List Frame} {w:World} (hsr:SR σ s c ccs w) {b m clock born since:Nat} {seen:Array Nat} {base bm:Br} (hb:σ b=some base) (h0:base.co=0) (hm:σ m=some bm)
  (ho:w.heap[base.cb]?=some (.mapIter (some bm.cb) since seen clock)) (hs:seen.back?=some born) (hx:Ig b m clock born s=some s'):AN E.P bs σ s.h c ccs w w s'∧s'.h=s.h:=by
 unfold Ig at hx;split at hx
 ·rename_i all o rest k hmf ht;split at hx
  ·rename_i it hgd hop;split at hx
   ·rename_i b' hev;split at hx
    ·rename_i hbb;have hbb:=AX hbb;subst hbb;split at hx
     ·rename_i es cl hgm;split at hx
      ·rename_i e2 hcl hbe;split at hx
       ·rename_i fr hfin;cases hx;have hcl:=AX hcl;subst hcl;have hmode:=hsr.fr.mode;rw [hmf] at hmode
        have hmr:c.mode=.run:=by
         generalize c.mode=x at hmode;cases hmode;rfl
        have htodo:=hsr.fr.todo;rw [ht] at htodo;obtain ⟨i,idx,k',e,hoi,hmap,hk⟩:=htodo.ops_inv;have hw:Be all o s.fr.tmps=some true:=by unfold Be;rw [hgd]
        have hwt:=Bu hsr.fr.tm hw;have hd:c.roundOf=none∨∀cl,o.op≠.defer cl:=.inr (fun cl q=>by rw [hop] at q;cases q)
        have hev':=hsr.fr.evR it;rw [hev] at hev';refine ⟨Fd (s:=execOp c.eval o) (r:=.val (.tuple [e2.key,e2.val]) s.h) hE (by rw [CU hmr e hoi hwt hd]) ?_ hsr.h hsr.fr hsr.cs hmr (by simp only [Bx,hfin]) (fun b h1 h2=>absurd h2 (Nat.not_lt.2 h1)),rfl⟩
        intro _;obtain ⟨es',m1,m2⟩:=hsr.h.blk m bm _ hm hgm;obtain ⟨e',y1,k1,k2⟩:=LD born es es' e2 m2 hbe;have hget:=Au (w:=w) E.P ho (by simp)
        have hgetm:=Au (w:=w) E.P m1 (by simp)
        have hv:=VL.cons k1 (VL.cons k2 (VL.nil σ));refine ⟨σ,.tuple #[e'.key,e'.val],w,.inl ?_,.tuple _ [e'.key,e'.val] hv.1 hv.2,hsr.h,Ext.refl _ _ _⟩
        have hiv:c.eval it=.pointer (some ⟨base.cb,0,none⟩):=by
         generalize c.eval it=iv at hev' ⊢;generalize hq:AV.ptr b' 0=q at hev';cases hev'<;>first|cases hq|skip
         rename_i y hy;rw [hb] at hy;cases hy;rw [h0]
        simp [execOp,hop,hiv,Instr.entry,hget,hs,hgetm,y1]
       ·cases hx
      ·cases hx
     ·cases hx
    ·cases hx
   ·cases hx
  ·cases hx
 ·cases hx
theorem RA {s s':AS} {b m clock born:Nat} (hx:Ig b m clock born s=some s'):s'.h=s.h:=by
 unfold Ig at hx
 repeat' (first | (cases hx;done)|split at hx)
 all_goals (cases hx;rfl)
theorem BP {a:Ask→Aa→Option (Bool×AV×Aa)} {b m clock born:Nat}:∀(f:Nat) (s s':AS),E1 E a b m clock born f s=some s'→s.h.nx≤s'.h.nx
 |0,s,s',h=>by cases h
 |f+1,s,s',h=>by
  simp only [E1] at h;split at h
  ·cases h;exact Nat.le_refl _
  ·split at h
   ·rename_i j g;have:=BP f _ _ h;rw [RA g] at this;exact this
   ·split at h
    ·split at h
     ·rename_i hb;exact Nat.le_trans (Nat.le_of_ble_eq_true hb) (BP f _ _ h)
     ·cases h
    ·split at h
     ·split at h
      ·rename_i hb;exact Nat.le_trans (Nat.le_of_ble_eq_true hb) (BP f _ _ h)
      ·cases h
     ·rename_i l ops k d;obtain ⟨rfl,_,_⟩:=CI d;split at h
      ·rename_i hd;exact Nat.le_trans (Cq _ _ _ _ _ _ _ hd) (BP f _ _ h)
      ·cases h
     ·cases h
include hE hO in
theorem UI {callF:Ask→Aa→Option (Bool×AV×Aa)} (hF:Db E callF) {b m clock born since:Nat} {seen:Array Nat} {base bm:Br} (h0:base.co=0) (hs:seen.back?=some born) :
  ∀(f:Nat) (s s':AS) (σ:Ren) (c:Frame) (ccs:List Frame) (w:World),SR σ s c ccs w→WF s.h→E1 E callF b m clock born f s=some s'→AG σ s.h.nx s'.h.nx→σ b=some base→σ m=some bm→
   w.heap[base.cb]?=some (.mapIter (some bm.cb) since seen clock)→(∀b' x,σ b'=some x→s.h.blk.get b'≠none→x.cb≠base.cb)→
   ∀bs:List Frame,∃τ c' ccs' w',Steps E.P (lone c (ccs++bs) w) (lone c' (ccs'++bs) w')∧SR τ s' c' ccs' w'∧Ext σ τ s.h s'.h w w':=by
 intro f
 induction f with
 |zero=>intro s s' σ c ccs w _ _ h;cases h
 |succ f ih=>
  intro s s' σ c ccs w hsr hwf h hfree hb hm ho hap bs
  have go:∀(s1:AS) (τ:Ren) (c1:Frame) (ccs1:List Frame) (w1:World),Steps E.P (lone c (ccs++bs) w) (lone c1 (ccs1++bs) w1)→SR τ s1 c1 ccs1 w1→Ext σ τ s.h s1.h w w1→E1 E callF b m clock born f s1=some s'→
    ∃τ c' ccs' w',Steps E.P (lone c (ccs++bs) w) (lone c' (ccs'++bs) w')∧SR τ s' c' ccs' w'∧Ext σ τ s.h s'.h w w':=by
   intro s1 τ c1 ccs1 w1 q1 q2 q3 q4;have hmono:=BP f _ _ q4;have hf1:AG σ s.h.nx s1.h.nx:=fun b h1 h2=>hfree b h1 (by omega)
   obtain ⟨p1,p2⟩:=PP q3 hf1 ho hap;obtain ⟨υ,c',ccs',w',r1,r2,r3⟩:=ih s1 s' τ c1 ccs1 w1 q2 (q3.wf hwf) q4 (q3.free hfree) (q3.le.m _ _ hb) (q3.le.m _ _ hm) p1 p2 bs;exact ⟨υ,c',ccs',w',Steps.trans q1 r1,r2,q3.trans r3 hfree⟩
  simp only [E1] at h;split at h
  ·cases h;exact ⟨σ,c,ccs,w,Steps.refl _ _,hsr,Ext.refl _ _ _⟩
  ·split at h
   ·rename_i s1 he;obtain ⟨⟨τ,c1,ccs1,w1,q1,q2,q3⟩,q4⟩:=RD hE (bs:=bs) hsr hb h0 hm ho hs he;exact go s1 τ c1 ccs1 w1 (Steps.one q1) q2 q3 h
   ·split at h
    ·rename_i s1 htop;split at h
     ·have hmono:=BP f _ _ h;obtain ⟨τ,c1,ccs1,w1,q1,q2,q3⟩:=KY hE hO hsr hwf htop (fun b h1 h2=>hfree b h1 (by omega)) bs
      exact go s1 τ c1 ccs1 w1 q1 q2 q3 h
     ·cases h
    ·split at h
     ·rename_i s1 hst;split at h
      ·have hmono:=BP f _ _ h;obtain ⟨τ,c1,ccs1,w1,q1,q2,q3⟩:=Gx (base:=bs) hE hsr hst (fun b h1 h2=>hfree b h1 (by omega))
       exact go s1 τ c1 ccs1 w1 (Steps.one q1) q2 q3 h
      ·cases h
     ·rename_i s2 ops k hst;obtain ⟨rfl,hmr,id,ht⟩:=CI hst;split at h
      ·rename_i tmps h1 hd;have hmono:=BP f _ _ h;obtain ⟨τ,c1,w1,q1,q2,q3⟩:=FN hE hF hsr hwf hmr ht hd (fun b a1 a2=>hfree b a1 (Nat.lt_of_lt_of_le a2 hmono)) bs
       exact go _ τ c1 ccs w1 q1 q2 q3 h
      ·cases h
     ·cases h
theorem HR.revive {σ:Ren} {t:T Ag} {w:World} (hr:HR σ t.get w) {b:Nat} {base:Br} {x:Ag} (hb:σ b=some base) (hd:t.get b=none) (ab:BR σ x base w.heap[base.cb]?)
  (ap:∀b' y,σ b'=some y→t.get b'≠none→y.cb≠base.cb) (im:∀k arr,σ.imm k=some arr→base.cb≠k):HR σ (t.set b x).get w:=by
 refine ⟨hr.lt,fun c y z l hz=>?_,fun c c' y y' J l I h1 h2=>?_,hr.imm,fun k arr c y hk l hl=>?_,hr.glob⟩
 ·rw [T.get_set] at hz;split at hz
  ·rename_i e;subst e;cases hz;rw [hb] at l;cases l;exact ab
  ·exact hr.blk c y z l hz
 ·rw [T.get_set] at h1 h2;split at h1
  ·rename_i e;subst e;rw [hb] at l;cases l;rw [if_neg J] at h2;exact fun q=>ap c' y' I h2 q.symm
  ·split at h2
   ·rename_i e;subst e;rw [hb] at I;cases I;exact ap c y l h1
   ·exact hr.apart c c' y y' J l I h1 h2
 ·rw [T.get_set] at hl;split at hl
  ·rename_i e;subst e;rw [hb] at l;cases l;exact im k arr hk
  ·exact hr.off k arr c y hk l hl
theorem Dx {b:Nat}:∀{l:List Nat},Jd b l=true↔b∈l
 |[]=>by simp [Jd]
 |a::r=>by
  unfold Jd;cases q:Nat.beq a b with
  |true=>simp [AX q]
  |false=>
   have:=Qe q;simp only [Dx,List.mem_cons];constructor
   ·exact .inr
   ·rintro (h|h)
    ·exact absurd h.symm this
    ·exact h
theorem B1 {L:List Nat}:∀{es:List Aj} {e:Aj},e∈Bp L es↔e∈es∧e.born∉L
 |[],e=>by simp [Bp]
 |x::r,e=>by
  unfold Bp;cases q:Jd x.born L with
  |true=>
   simp only [B1,List.mem_cons];have hx:=Dx.1 q;constructor
   ·rintro ⟨h1,h2⟩;exact ⟨.inr h1,h2⟩
   ·rintro ⟨h1|h1,h2⟩
    ·subst h1;exact absurd hx h2
    ·exact ⟨h1,h2⟩
  |false=>
   have hx:x.born∉L:=fun h=>by rw [Dx.2 h] at q;cases q
   simp only [List.mem_cons,B1];constructor
   ·rintro (h|h)
    ·subst h;exact ⟨.inl rfl,hx⟩
    ·exact ⟨.inr h.1,h.2⟩
   ·rintro ⟨h1|h1,h2⟩
    ·exact .inl h1
    ·exact .inr ⟨h1,h2⟩
theorem P4 {L M:List Nat} (hs:∀x∈L,x∈M):∀{es:List Aj},(Bp M es).length≤(Bp L es).length
 |[]=>Nat.le_refl _
 |x::r=>by
  unfold Bp;have:=P4 hs (es:=r);cases q:Jd x.born L with
  |true=>rw [Dx.2 (hs _ (Dx.1 q))];exact this
  |false=>cases Jd x.born M<;>simp only [List.length_cons]<;>omega
theorem Il {L:List Nat}:∀{es:List Aj} {e:Aj},e∈Bp L es→(Bp (L++[e.born]) es).length<(Bp L es).length
 |[],e,h=>by simp [Bp] at h
 |x::r,e,h=>by
  have a:=P4 (L:=L) (M:=L++[e.born]) (fun y hy=>List.mem_append_left _ hy) (es:=r)
  unfold Bp at h ⊢;cases q:Jd x.born L with
  |true=>
   rw [q] at h;rw [Dx.2 (List.mem_append_left _ (Dx.1 q))];exact Il h
  |false=>
   rw [q] at h;cases q2:Jd x.born (L++[e.born]) with
   |true=>simp only [List.length_cons];omega
   |false=>
    rcases List.mem_cons.1 h with rfl|h
    ·rw [Dx.2 (by simp)] at q2;cases q2
    ·have:=Il h;simp only [List.length_cons];omega
theorem NC {b:Nat} {f:AF} (h:Em b f=true):∃all o r k it,f.mode=.run∧f.todo=.ops all (o::r)::k∧o.guard=none∧o.op=.next it false∧Af f.tmps it=.ptr b 0:=by
 unfold Em at h
 repeat' (first | (cases h;done)|split at h)
 rename_i all o r k hm ht _ _ it a ho _ b' he;have:=AX h;subst this;exact ⟨all,o,r,k,it,hm,ht,a,ho,he⟩
include hE in
theorem Yl {σ:Ren} {S:AS} {c:Frame} {ccs bs:List Frame} {w:World} {b m since clock:Nat} {L:List Nat} {es:List Aj} {base bm:Br} (hfr:FrR σ S.fr c) (hcs:FrL σ S.cs ccs) (hr:HR σ S.h.blk.get w) (hb:σ b=some base) (hm:σ m=some bm) (h0:base.co=0)
  (ho:w.heap[base.cb]?=some (.mapIter (some bm.cb) since L.toArray clock)) (hap:∀b' x,σ b'=some x→S.h.blk.get b'≠none→x.cb≠base.cb) (him:∀k arr,σ.imm k=some arr→base.cb≠k)
  (hd:S.h.blk.get b=none) (hgm:S.h.blk.get m=some (.map es clock)) (hold:Kv since clock es=true) (hat:Em b S.fr=true) :
  (Bp L es=[]∧∀fr',A3 S.fr (.tuple [.bool false])=some fr'→AN E.P bs σ {S.h with blk:=S.h.blk.set b (.mapIter (some m) since L clock)} c ccs w w {S with fr:=fr',h:={S.h with blk:=S.h.blk.set b (.mapIter (some m) since L clock)}})∨
  (∃e∈Bp L es,∀fr',A3 S.fr (.tuple [.bool true,e.key,e.val])=some fr'→AN E.P bs σ {S.h with blk:=S.h.blk.set b (.mapIter (some m) since L clock)} c ccs w w
   {S with fr:=fr',h:=Aa.put {S.h with blk:=S.h.blk.set b (.mapIter (some m) since L clock)} b (.mapIter (some m) since (L++[e.born]) clock)}):=by
 generalize hL:({S.h with blk:=S.h.blk.set b (.mapIter (some m) since L clock)}:Aa)=hh
 have hrL:HR σ hh.blk.get w:=by
  rw [←hL];exact hr.revive hb hd (by rw [ho];exact ⟨h0,bm,hm,rfl⟩) hap him
 have hmb:m≠b:=by intro e;subst e;rw [hd] at hgm;cases hgm
 have gb:hh.blk.get b=some (.mapIter (some m) since L clock):=by rw [←hL];simp [T.get_set]
 have gm:hh.blk.get m=some (.map es clock):=by
  rw [←hL];show (S.h.blk.set b _).get m=_;rw [T.get_set,if_neg (fun e=>hmb e.symm)];exact hgm
 obtain ⟨all,o,r,k,it,hmf,ht,hgd,hop,hev⟩:=NC hat;have hmode:=hfr.mode;rw [hmf] at hmode
 have hmr:c.mode=.run:=by
  generalize c.mode=x at hmode;cases hmode;rfl
 have htodo:=hfr.todo;rw [ht] at htodo;obtain ⟨i,idx,k',e,hoi,hmap,hk⟩:=htodo.ops_inv;have hwt:=Bu hfr.tm (show Be all o S.fr.tmps=some true by unfold Be;rw [hgd])
 have hdf:c.roundOf=none∨∀cl,o.op≠.defer cl:=.inr (fun cl q=>by rw [hop] at q;cases q)
 have hvi:=hfr.evR it;rw [hev] at hvi
 have fin:∀(a:AV) (h':Aa),AP E σ hh h' w (Instr.next (c.eval it) false o.type) a→h'.nx=hh.nx→∀fr',A3 S.fr a=some fr'→AN E.P bs σ hh c ccs w w {S with fr:=fr',h:=h'}:=by
  intro a h' hl hnx fr' hf;refine Fd (s:=execOp c.eval o) (r:=.val a h') hE (by rw [CU hmr e hoi hwt hdf]) ?_ hrL hfr hcs hmr (by simp only [Bx,hf]) (fun b h1 h2=>by simp only at h2;omega)
  intro _;obtain ⟨τ,v,w',q1,q2,q3,q4⟩:=hl;exact ⟨τ,v,w',.inl (by simp [execOp,hop,q1]),q2,q3,q4⟩
 cases hq:Bp L es with
 |nil=>
  refine .inl ⟨rfl,fin _ hh (La (E:=E) hrL hvi ?_) rfl⟩;simp only [Qv,gb,gm,hold,hq]
 |cons e1 l=>
  refine .inr ?_;cases l with
  |nil=>
   refine ⟨e1,List.mem_cons_self,fin _ _ (La (E:=E) (a:=.tuple [.bool true,e1.key,e1.val]) (h':=hh.put b (.mapIter (some m) since (L++[e1.born]) clock)) hrL hvi ?_) rfl⟩;simp only [Qv,gb,gm,hold,hq,Nl]
  |cons e2 l=>
   obtain ⟨p,hp,hl⟩:=K6 (E:=E) (ty:=o.type) (l:=(e1::e2::l).map (Nl b m since clock L hh)) hrL hvi (by simp only [K0,gb,gm,hold,hq])
   obtain ⟨e3,he,rfl⟩:=List.mem_map.1 hp;exact ⟨e3,he,fin _ _ hl rfl⟩
structure Vf (S:AS) (ρ:Ren) (h:Aa) (w0:World) (b m since clock N:Nat) (base bm:Br) (σ:Ren) (L:List Nat) (c:Frame) (ccs:List Frame) (w:World):Prop where
 fr:FrR σ S.fr c
 cs:FrL σ S.cs ccs
 hr:HR σ S.h.blk.get w
 rb:σ b=some base
 rm:σ m=some bm
 ob:w.heap[base.cb]?=some (.mapIter (some bm.cb) since L.toArray clock)
 ap:∀b' x,σ b'=some x→S.h.blk.get b'≠none→x.cb≠base.cb
 im:∀k arr,σ.imm k=some arr→base.cb≠k
 ex:Ex0 ρ σ h S.h w0 w
 free:AG σ S.h.nx N
structure UC (S:AS) (ρ:Ren) (h:Aa) (b m since clock N:Nat) (es:List Aj) (base:Br):Prop where
 h0:base.co=0
 hwf:WF h
 swf:WF S.h
 dead:S.h.blk.get b=none
 live:h.blk.get b≠none
 gm:S.h.blk.get m=some (.map es clock)
 old:Kv since clock es=true
 at':Em b S.fr=true
 lt:Uq S=true
 nxN:S.h.nx≤N
 free:AG ρ h.nx N
structure dB (S R:AS) (ρ:Ren) (h:Aa) (w0:World) (b m since clock N born:Nat) (base bm:Br) (σ:Ren) (L:List Nat) (c:Frame) (ccs:List Frame) (w:World) (σ1 τ:Ren) (c2:Frame) (ccs1:List Frame) (w2:World):Prop where
 fr:FrR τ R.fr c2
 cs:FrL σ1 S.cs ccs1
 hr:HR τ R.h.blk.get w2
 rb:σ1 b=some base
 rm:σ1 m=some bm
 ob:w2.heap[base.cb]?=some (.mapIter (some bm.cb) since (L++[born]).toArray clock)
 ap:∀b' x,τ b'=some x→R.h.blk.get b'≠none→x.cb≠base.cb
 im:∀k arr,τ.imm k=some arr→base.cb≠k
 ex1:∃w1,Ex0 ρ σ1 h S.h w0 w1
 ex2:Ex0 ρ τ h R.h w0 w2
 le:σ1.le τ
 free1:AG σ1 S.h.nx N
 free2:AG τ R.h.nx N
 log:∀b',b'∉R.h.log→(b'<S.h.nx∨R.h.nx≤b')→R.h.blk.get b'=S.h.blk.get b'
 new:∀b' x,τ b'=some x→σ1 b'=some x∨(S.h.nx≤b'∧b'<R.h.nx)
 rwf:WF R.h
 dead:R.h.blk.get b=none
include hE hO in
theorem PJ {callF:Ask→Aa→Option (Bool×AV×Aa)} (hF:Db E callF) {F b m since clock N:Nat} {es:List Aj} {base bm:Br} {S:AS} {ρ:Ren} {h:Aa} {w0:World} (fx:UC S ρ h b m since clock N es base) {σ:Ren} {L:List Nat} {c:Frame} {ccs:List Frame} {w:World}
  (iv:Vf S ρ h w0 b m since clock N base bm σ L c ccs w) (hq:∀e∈Bp L es,∃R,Fu E callF F b m clock S e=some R∧R.cs=[]∧S.h.nx≤R.h.nx∧R.h.nx≤N) (bs:List Frame) :
  (Bp L es=[]∧∀fr',A3 S.fr (.tuple [.bool false])=some fr'→∃σ' c' ccs' w',Steps E.P (lone c (ccs++bs) w) (lone c' (ccs'++bs) w')∧FrR σ' fr' c'∧FrL σ' S.cs ccs'∧HR σ' S.h.blk.get w'∧Ex0 ρ σ' h S.h w0 w')∨
  (∃e∈Bp L es,∀R,Fu E callF F b m clock S e=some R→∃σ1 τ c2 ccs1 w2,Steps E.P (lone c (ccs++bs) w) (lone c2 (ccs1++bs) w2)∧dB S R ρ h w0 b m since clock N e.born base bm σ L c ccs w σ1 τ c2 ccs1 w2):=by
 generalize hL:({S.h with blk:=S.h.blk.set b (.mapIter (some m) since L clock)}:Aa)=hh
 have hnx:hh.nx=S.h.nx:=by rw [←hL]
 have gbs:∀b',b'≠b→hh.blk.get b'=S.h.blk.get b':=by
  intro b' hne;rw [←hL];show (S.h.blk.set b _).get b'=_;rw [T.get_set,if_neg (fun e=>hne e.symm)]
 have hbn:b<S.h.nx:=by
  rcases Nat.lt_or_ge b S.h.nx with q|q
  ·exact q
  ·exfalso
   rcases Nat.lt_or_ge b h.nx with q2|q2
   ·have:=iv.ex.nx;omega
   ·exact fx.live (fx.hwf b q2)
 have hwfh:WF hh:=by
  intro b' hb';rw [hnx] at hb';rw [gbs b' (by omega)]
  exact fx.swf b' hb'
 have e1:Ex0 ρ σ h hh w0 w:=iv.ex.tgt (Nat.le_of_eq hnx.symm) (fun b' hb'=>by
  by_cases e:b'=b
  ·subst e;exact .inr fx.live
  ·rw [gbs b' e] at hb';exact .inl hb')
 have drop:∀b',S.h.blk.get b'=none∨S.h.blk.get b'=hh.blk.get b':=by
  intro b';by_cases e:b'=b
  ·subst e;exact .inl fx.dead
  ·exact .inr (gbs b' e).symm
 have hbl:base.cb<w.heap.size:=iv.hr.lt b base iv.rb;have walk:=Yl (bs:=bs) hE iv.fr iv.cs iv.hr iv.rb iv.rm fx.h0 iv.ob iv.ap iv.im fx.dead fx.gm fx.old fx.at';rw [hL] at walk;rcases walk with ⟨hq0,hfin⟩|⟨e,he,hfin⟩
 ·refine .inl ⟨hq0,fun fr' hf=>?_⟩
  obtain ⟨σ',c',ccs',w',q1,q2,q3⟩:=hfin fr' hf;refine ⟨σ',c',ccs',w',Steps.one q1,q2.fr,q2.cs,q2.h.restrict drop,?_⟩
  exact (e1.trans q3.ex fx.hwf hwfh hwfh (fun b' h1 h2=>fx.free b' h1 (by have:=fx.nxN;simp only [hnx] at h2;omega))).tgt (Nat.le_of_eq hnx) (fun b' hb'=>by
   rcases drop b' with q|q
   ·exact absurd q hb'
   ·rw [q] at hb';exact .inl hb')
 ·refine .inr ⟨e,he,fun R hR=>?_⟩
  obtain ⟨R',hR',hRcs,hRn,hRN⟩:=hq e he;rw [hR] at hR';cases hR';unfold Fu at hR;split at hR
  ·rename_i fr' hf;obtain ⟨σ1,c1,ccs1,w1,q1,q2,q3⟩:=hfin fr' hf
   have putn:∀b',b'≠b→(hh.put b (.mapIter (some m) since (L++[e.born]) clock)).blk.get b'=S.h.blk.get b':=by
    intro b' hne;show (hh.blk.set b _).get b'=_;rw [T.get_set,if_neg (fun e=>hne e.symm)]
    exact gbs b' hne
   have drop1:∀b',S.h.blk.get b'=none∨S.h.blk.get b'=(hh.put b (.mapIter (some m) since (L++[e.born]) clock)).blk.get b':=by
    intro b';by_cases e:b'=b
    ·subst e;exact .inl fx.dead
    ·exact .inr (putn b' e).symm
   have hr1:HR σ1 S.h.blk.get w1:=q2.h.restrict drop1;have rb1:=q3.le.m _ _ iv.rb;have rm1:=q3.le.m _ _ iv.rm
   have ob1:w1.heap[base.cb]?=some (.mapIter (some bm.cb) since (L++[e.born]).toArray clock):=by
    have:=q2.h.blk b base (.mapIter (some m) since (L++[e.born]) clock) rb1 (by show (hh.blk.set b _).get b=_;rw [T.get_set,if_pos rfl])
    obtain ⟨_,bm',h1,h2⟩:=this;rw [rm1] at h1;cases h1;exact h2
   have wfp:WF (hh.put b (.mapIter (some m) since (L++[e.born]) clock)):=by
    intro b' hb';have hb':hh.nx≤b':=hb';rw [putn b' (by omega)]
    exact fx.swf b' (by omega)
   have new1:∀b' x,σ1 b'=some x→σ b'=some x:=by
    intro b' x hx;rcases q3.new b' x hx with q|⟨h1,h2,_⟩
    ·exact q
    ·have h2:b'<hh.nx:=h2;omega
   have ap1:∀b' x,σ1 b'=some x→S.h.blk.get b'≠none→x.cb≠base.cb:=fun b' x hx hl=>iv.ap b' x (new1 b' x hx) hl
   have hsz:w.heap.size≤w1.heap.size:=q3.calm.size
   have im1:∀k arr,σ1.imm k=some arr→base.cb≠k:=by
    intro k arr hk;have:=q2.h.off k arr b base hk rb1 (by show (hh.blk.set b _).get b≠none;rw [T.get_set,if_pos rfl];simp)
    exact this
   have ex1:Ex0 ρ σ1 h S.h w0 w1:=by
    refine (e1.trans q3.ex fx.hwf hwfh wfp (fun b' h1 h2=>fx.free b' h1 (by have:=fx.nxN;have h2:b'<hh.nx:=h2;omega))).tgt (Nat.le_of_eq hnx) (fun b' hb'=>?_)
    rcases drop1 b' with q|q
    ·exact absurd q hb'
    ·rw [q] at hb';exact .inl hb'
   have free1:AG σ1 S.h.nx N:=fun b' h1 h2=>by
    cases hx:σ1 b' with
    |none=>rfl
    |some x=>have:=new1 b' x hx;rw [iv.free b' h1 h2] at this;cases this
   have back:(L++[e.born]).toArray.back?=some e.born:=by simp
   obtain ⟨τ,c2,ccs2,w2,p1,p2,p3⟩:=UI hE hO hF fx.h0 back F {fr:=fr',cs:=[],h:={S.h with log:=[]}} R σ1 c1 [] w1 ⟨q2.fr,.nil,hr1⟩ fx.swf hR (fun b' h1 h2=>free1 b' h1 (by omega)) rb1 rm1 ob1 ap1 (ccs1++bs)
   have hc2:ccs2=[]:=by
    have:=p2.cs;rw [hRcs] at this;cases this;rfl
   subst hc2;obtain ⟨o2,a2⟩:=PP p3 (fun b' h1 h2=>free1 b' h1 (by omega)) ob1 ap1
   have rwf:WF R.h:=p3.wf fx.swf;have p3e:Ex0 σ1 τ S.h R.h w1 w2:=⟨p3.le,p3.nx,p3.new,p3.calm,p3.kept,p3.live,p3.imm⟩;refine ⟨σ1,τ,c2,ccs1,w2,Steps.trans (Steps.one q1) (by simpa using p1),⟨p2.fr,q2.cs,p2.h,rb1,rm1,o2,a2,?_,⟨w1,ex1⟩,ex1.trans p3e fx.hwf fx.swf rwf (fun b' h1 h2=>fx.free b' h1 (by omega)),p3.le,free1,p3e.free free1,?_,?_,rwf,?_⟩⟩
   ·intro k arr hk;rcases p3.imm k arr hk with q|q|⟨b0,x0,h1,h2,h3⟩
    ·exact im1 k arr q
    ·have:=(Array.getElem?_eq_some_iff.1 ob1).1;omega
    ·rw [←h3];exact fun q=>ap1 b0 x0 h1 h2 q.symm
   ·obtain ⟨l,hl,hl'⟩:=p3.log;intro b' hb' hr';have hl:R.h.log=l++[]:=hl;rw [List.append_nil] at hl;exact hl' b' (by rw [←hl];exact hb') hr'
   ·intro b' x hx;rcases p3.new b' x hx with q|⟨h1,h2,_⟩
    ·exact .inl q
    ·exact .inr ⟨h1,h2⟩
   ·cases hx:R.h.blk.get b with
    |none=>rfl
    |some y=>
     rcases p3.live b (by rw [hx];simp) with q|⟨q1,_⟩
     ·exact absurd fx.dead q
     ·have q1:S.h.nx≤b:=q1;omega
  ·cases hR
theorem QQ {b m since clock N born:Nat} {es:List Aj} {base bm:Br} {S R:AS} {ρ:Ren} {h:Aa} {w0:World} (fx:UC S ρ h b m since clock N es base) {σ:Ren} {L:List Nat} {c:Frame} {ccs:List Frame} {w:World} {σ1 τ:Ren} {c2:Frame} {ccs1:List Frame} {w2:World}
  (q:dB S R ρ h w0 b m since clock N born base bm σ L c ccs w σ1 τ c2 ccs1 w2) (hs:Ko S.fr R.fr=true) (j:Lc S R=true) (n:R.h.nx≤N):Vf S ρ h w0 b m since clock N base bm (τ.cut S.h.nx N) (L++[born]) c2 ccs1 w2:=by
 have d:=fx.lt;simp only [Uq,Bool.and_eq_true] at d;simp only [Lc,Bool.and_eq_true] at j
 have same:∀b' x,S.h.blk.get b'=some x→R.h.blk.get b'=some x:=by
  intro b' x hx
  have hb':b'<S.h.nx:=by
   rcases Nat.lt_or_ge b' S.h.nx with q|q
   ·exact q
   ·rw [fx.swf b' q] at hx;cases hx
  by_cases hm:b'∈R.h.log
  ·exact PG j.2 b' hm hb' x hx
  ·rw [q.log b' hm (.inl hb')];exact hx
 have g:=Ren.le_cut q.le q.free1;obtain ⟨w1,e1⟩:=q.ex1
 refine ⟨q.fr.place hs (fun i x hx=>(q.fr.tm.get i x (Fh j.1 i x hx)).cut (T.allA_get d.1 i x hx)),q.cs.mono g,(q.hr.weaken (fun b' x _ hx=>same b' x hx)).cut (fun b' x hx=>T.allA_get d.2 b' x hx),g.m _ _ q.rb,g.m _ _ q.rm,q.ob,
  fun b' x hx hl=>q.ap b' x (Ren.cut_some hx) ?_,q.im,e1.back q.ex2 q.le q.free1 (fun b' x hx=>(q.new b' x hx).imp id (fun ⟨h1,h2⟩=>⟨h1,by omega⟩)),Ren.cut_free _ _ _⟩
 cases hy:S.h.blk.get b' with
 |none=>exact absurd hy hl
 |some y=>rw [same b' y hy];simp
def Zq (E:Env) (S:AS) (ρ:Ren) (h:Aa) (w0:World) (bs:List Frame) (c:Frame) (ccs:List Frame) (w:World) (fr':AF):Prop:=
 ∃σ' c' ccs' w',Steps E.P (lone c (ccs++bs) w) (lone c' (ccs'++bs) w')∧FrR σ' fr' c'∧FrL σ' S.cs ccs'∧HR σ' S.h.blk.get w'∧Ex0 ρ σ' h S.h w0 w'
include hE hO in
theorem Qi {callF:Ask→Aa→Option (Bool×AV×Aa)} (hF:Db E callF) {F b m since clock N:Nat} {es:List Aj} {base bm:Br} {S:AS} {ρ:Ren} {h:Aa} {w0:World} (fx:UC S ρ h b m since clock N es base) {L0:List Nat}
  (hq:∀e∈Bp L0 es,∃R,Fu E callF F b m clock S e=some R∧R.cs=[]∧Ko S.fr R.fr=true∧S.h.nx≤R.h.nx∧R.h.nx≤N∧Lc S R=true) {fr':AF} (hf:A3 S.fr (.tuple [.bool false])=some fr') (bs:List Frame) :
  ∀(n:Nat) (L:List Nat) (σ:Ren) (c:Frame) (ccs:List Frame) (w:World),(Bp L es).length<n→(∀x∈L0,x∈L)→Vf S ρ h w0 b m since clock N base bm σ L c ccs w→Zq E S ρ h w0 bs c ccs w fr':=by
 intro n
 induction n with
 |zero=>intro L σ c ccs w hn;omega
 |succ n ih=>
  intro L σ c ccs w hn hL iv
  have hin:∀e∈Bp L es,e∈Bp L0 es:=fun e he=>by
   have:=B1.1 he;exact B1.2 ⟨this.1,fun q=>this.2 (hL _ q)⟩
  rcases PJ hE hO hF (F:=F) fx iv (fun e he=>by obtain ⟨R,a1,a2,a3,a4,a5,a6⟩:=hq e (hin e he);exact ⟨R,a1,a2,a4,a5⟩) bs with ⟨_,q⟩|⟨e,he,q⟩
  ·exact q fr' hf
  ·obtain ⟨R,a1,a2,a3,a4,a5,a6⟩:=hq e (hin e he);obtain ⟨σ1,τ,c2,ccs1,w2,p1,p2⟩:=q R a1;have iv2:=QQ fx p2 a3 a6 a5;obtain ⟨σ',c',ccs',w',r1,r2⟩:=ih (L++[e.born]) _ c2 ccs1 w2 (by have:=Il he;omega) (fun x hx=>List.mem_append_left _ (hL x hx)) iv2
   exact ⟨σ',c',ccs',w',Steps.trans p1 r1,r2⟩
include hE hO in
theorem Xr {callF:Ask→Aa→Option (Bool×AV×Aa)} (hF:Db E callF) {F b m since clock N:Nat} {es:List Aj} {base bm:Br} {S R:AS} {ρ:Ren} {h:Aa} {w0:World} (fx:UC S ρ h b m since clock N es base) {e0:Aj} (he0:e0∈es) (hR0:Fu E callF F b m clock S e0=some R) (hun:Lc S R=false) (hinj:∀e∈es,e.born=e0.born→e=e0)
  (hq:∀e∈es,∃R',Fu E callF F b m clock S e=some R'∧R'.cs=[]∧Ko S.fr R'.fr=true∧S.h.nx≤R'.h.nx∧R'.h.nx≤N∧(Lc S R'=true∨(some (e0,R)=some (e,R')∧Lc S R'=false)))
  {S1:AS} (hS1:S1={fr:={S.fr with tmps:=Eb S.fr.tmps R.fr.tmps},cs:=S.cs,h:={R.h with log:=R.h.log++S.h.log}}) (hat:Em b S1.fr=true) (hlt:Uq S1=true) (hml:Hy m R.h.log=false)
  (hq1:∀e∈Jr e0.born es,∃R',Fu E callF F b m clock S1 e=some R'∧R'.cs=[]∧Ko S1.fr R'.fr=true∧S1.h.nx≤R'.h.nx∧R'.h.nx≤N∧Lc S1 R'=true) {fr':AF} (hf:A3 S1.fr (.tuple [.bool false])=some fr') (bs:List Frame) :
  ∀(n:Nat) (L:List Nat) (σ:Ren) (c:Frame) (ccs:List Frame) (w:World),(Bp L es).length<n→e0.born∉L→Vf S ρ h w0 b m since clock N base bm σ L c ccs w→
   Zq E S1 ρ h w0 bs c ccs w fr'∧(∀b',b'∉R.h.log→(b'<S.h.nx∨R.h.nx≤b')→R.h.blk.get b'=S.h.blk.get b'):=by
 intro n
 induction n with
 |zero=>intro L σ c ccs w hn;omega
 |succ n ih=>
  intro L σ c ccs w hn hL iv;rcases PJ hE hO hF (F:=F) fx iv (fun e he=>by obtain ⟨R,a1,a2,a3,a4,a5,a6⟩:=hq e (B1.1 he).1;exact ⟨R,a1,a2,a4,a5⟩) bs with ⟨q0,_⟩|⟨e,he,q⟩
  ·have:=B1.2 ⟨he0,hL⟩;rw [q0] at this;cases this
  ·obtain ⟨R',a1,a2,a3,a4,a5,a6⟩:=hq e (B1.1 he).1;obtain ⟨σ1,τ,c2,ccs1,w2,p1,p2⟩:=q R' a1;rcases a6 with a6|⟨a6,a7⟩
   ·have hne:e0.born∉L++[e.born]:=by
     intro q;rcases List.mem_append.1 q with q|q
     ·exact hL q
     ·simp only [List.mem_singleton] at q;have e1:=hinj e (B1.1 he).1 q.symm;subst e1;rw [hR0] at a1;cases a1;rw [hun] at a6;cases a6
    have iv2:=QQ fx p2 a3 a6 a5;obtain ⟨⟨σ',c',ccs',w',r1,r2⟩,r3⟩:=ih (L++[e.born]) _ c2 ccs1 w2 (by have:=Il he;omega) hne iv2
    exact ⟨⟨σ',c',ccs',w',Steps.trans p1 r1,r2⟩,r3⟩
   ·simp only [Option.some.injEq,Prod.mk.injEq] at a6;obtain ⟨rfl,rfl⟩:=a6
    have hmn:m∉R.h.log:=by
     intro q
     have:∀l:List Nat,m∈l→Hy m l=true:=by
      intro l
      induction l with
      |nil=>intro h;cases h
      |cons a l ih=>intro h;unfold Hy;rcases List.mem_cons.1 h with rfl|h<;>simp [*]
     rw [this _ q] at hml;cases hml
    have hmlt:m<S.h.nx:=by
     rcases Nat.lt_or_ge m S.h.nx with q|q
     ·exact q
     ·have:=fx.gm;rw [fx.swf m q] at this;cases this
    have fx1:UC S1 ρ h b m since clock N es base:=by
     subst hS1;exact ⟨fx.h0,fx.hwf,p2.rwf,p2.dead,fx.live,by show R.h.blk.get m=_;rw [p2.log m hmn (.inl hmlt)];exact fx.gm,fx.old,hat,hlt,a5,fx.free⟩
    have iv1:Vf S1 ρ h w0 b m since clock N base bm τ (L++[e0.born]) c2 ccs1 w2:=by
     subst hS1;exact ⟨p2.fr.place (f:={S.fr with tmps:=Eb S.fr.tmps R.fr.tmps}) a3 (fun i x hx=>p2.fr.tm.get i x (HK hx)),p2.cs.mono p2.le,p2.hr,p2.le.m _ _ p2.rb,p2.le.m _ _ p2.rm,p2.ob,p2.ap,p2.im,p2.ex2.tgt (Nat.le_refl _) (fun b' hb'=>.inl hb'),p2.free2⟩
    obtain ⟨σ',c',ccs',w',r1,r2⟩:=Qi hE hO hF fx1 (L0:=L++[e0.born]) (fun e he=>hq1 e (by
     have:=B1.1 he;exact Hx this.1 (fun q=>this.2 (by rw [q];simp)))) hf bs ((Bp (L++[e0.born]) es).length+1) (L++[e0.born]) τ c2 ccs1 w2 (by omega) (fun x hx=>hx) iv1
    exact ⟨⟨σ',c',ccs',w',Steps.trans p1 r1,r2⟩,p2.log⟩
include hE hO in
theorem Qz {callF:Ask→Aa→Option (Bool×AV×Aa)} (hF:Db E callF) {F:Nat} {ρ:Ren} {s s':AS} {c:Frame} {ccs:List Frame} {w:World} (hsr:SR ρ s c ccs w) (hwf:WF s.h) (hx:T6 E callF F s=some s') (hfree:AG ρ s.h.nx s'.h.nx) (bs:List Frame) :
  ∃σ c' ccs' w',Steps E.P (lone c (ccs++bs) w) (lone c' (ccs'++bs) w')∧SR σ s' c' ccs' w'∧Ext ρ σ s.h s'.h w w':=by
 unfold T6 at hx;split at hx
 ·cases hx
 rename_i b m es clock hit;obtain ⟨since,hat0,hgb,hgm,hold,hinc,hmb⟩:=YN hit;obtain ⟨all,o,r,k,it,hmf,ht,hgd,hop,hev⟩:=NC hat0;have hvi:=hsr.fr.evR it;rw [hev] at hvi
 obtain ⟨base,hb⟩:∃base,ρ b=some base:=by
  generalize c.eval it=cv at hvi;generalize hq:AV.ptr b 0=q at hvi;cases hvi<;>first | (cases hq;done)|skip
  cases hq;exact ⟨_,‹_›⟩
 obtain ⟨h0,bm,hm,ho⟩:=hsr.h.blk b base _ hb hgb;generalize hS:({s with fr:={s.fr with tmps:=TN (VM s.fr.todo) s.fr.tmps},h:=s.h.strike b}:AS)=S at hx
 have hSn:S.h.nx=s.h.nx:=by rw [←hS];rfl
 have hSb:∀b',S.h.blk.get b'=if b=b' then none else s.h.blk.get b':=fun b'=>by rw [←hS];exact T.get_del _ _ _
 have hScs:S.cs=s.cs:=by rw [←hS]
 have hSlog:S.h.log=b::s.h.log:=by rw [←hS];rfl
 have swf:WF S.h:=fun b' hb'=>by
  rw [hSb];split
  ·rfl
  ·exact hwf b' (by omega)
 have iv0:∀N,AG ρ s.h.nx N→Vf S ρ s.h w b m since clock N base bm ρ [] c ccs w:=by
  intro N hN;refine ⟨?_,by rw [hScs];exact hsr.cs,hsr.h.restrict (fun b'=>?_),hb,hm,ho,fun b' x hx hl=>?_,fun k arr hk=>hsr.h.off k arr b base hk hb (by rw [hgb];simp),?_,by rw [hSn];exact hN⟩
  ·rw [←hS];exact ⟨hsr.fr.fn,⟨hsr.fr.tm.size,fun i x hx=>hsr.fr.tm.get i x (Nt hx)⟩,hsr.fr.todo,hsr.fr.defers,hsr.fr.mode,hsr.fr.kind,hsr.fr.round⟩
  ·rw [hSb];split
   ·exact .inl rfl
   ·exact .inr rfl
  ·rw [hSb] at hl;split at hl
   ·exact absurd rfl hl
   ·rename_i hne;exact hsr.h.apart b' b x base (fun e=>hne e.symm) hx hb hl (by rw [hgb];simp)
  ·exact (Ext.refl ρ s.h w).ex.tgt (Nat.le_of_eq hSn.symm) (fun b' hl=>by
    rw [hSb] at hl;split at hl
    ·exact absurd rfl hl
    ·exact .inl hl)
 have fxOf:∀N,S.h.nx≤N→AG ρ s.h.nx N→Em b S.fr=true→Uq S=true→UC S ρ s.h b m since clock N es base:=by
  intro N h1 h2 h3 h4;exact ⟨h0,hwf,swf,by rw [hSb,if_pos rfl],by rw [hgb];simp,by rw [hSb,if_neg (fun e=>hmb e.symm)];exact hgm,hold,h3,h4,h1,h2⟩
 unfold Zr at hx;split at hx
 ·
  rename_i n hat hgo;rw [Bool.and_eq_true] at hat;obtain ⟨g1,g2⟩:=GV hgo;unfold KU at hx;split at hx
  ·rename_i fr' hf;cases hx;have fx:=fxOf n g1 hfree hat.1 hat.2
   obtain ⟨σ,c',ccs',w',r1,r2,r3,r4,r5⟩:=Qi hE hO hF fx (L0:=[]) (fun e he=>by
    obtain ⟨R,a1,a2,a3,a4,a5,a6⟩:=g2 e (B1.1 he).1;refine ⟨R,a1,a2,a3,a4,a5,?_⟩;rcases a6 with q|⟨q,_⟩
    ·exact q
    ·cases q) hf bs _ [] ρ c ccs w (Nat.lt_succ_self _) (fun x hx=>hx) (iv0 n hfree)
   refine ⟨σ,c',ccs',w',r1,⟨r2,r3,r4⟩,(r5.tgt (h2:={S.h with nx:=n}) g1 (fun b' hb'=>.inl hb')).ext ⟨[b],hSlog,fun b' hb' _=>?_⟩⟩
   simp only [List.mem_singleton] at hb';show S.h.blk.get b'=_;rw [hSb,if_neg (fun e=>hb' e.symm)]
  ·cases hx
 ·
  rename_i e R n hat hgo;rw [Bool.and_eq_true] at hat;obtain ⟨g1,g2⟩:=GV hgo;obtain ⟨s1,s2,s3⟩:=Kc hgo;generalize hS1:({fr:={S.fr with tmps:=Eb S.fr.tmps R.fr.tmps},cs:=S.cs,h:={R.h with log:=R.h.log++S.h.log}}:AS)=S1 at hx
  have hS1':S1={fr:={S.fr with tmps:=Eb S.fr.tmps R.fr.tmps},cs:=S.cs,h:={R.h with log:=R.h.log++S.h.log}}:=hS1.symm
  unfold WX at hx;split at hx
  ·rename_i n1 hat1 hgo1;simp only [Bool.and_eq_true,Bool.not_eq_true'] at hat1;obtain ⟨k1,k2⟩:=GV hgo1;unfold KU at hx;split at hx
   ·rename_i fr' hf;cases hx;have fx:=fxOf (max n n1) (by omega) hfree hat.1 hat.2
    obtain ⟨R2,a1,_,_,_,a5,_⟩:=g2 e s1;rw [s2] at a1;cases a1
    obtain ⟨⟨σ,c',ccs',w',r1,r2,r3,r4,r5⟩,r6⟩:=Xr hE hO hF fx s1 s2 s3 (fun e' he' hb'=>(Pl hinc).2 e' he' e s1 hb') (fun e' he'=>by
     obtain ⟨R',a1,a2,a3,a4,a5,a6⟩:=g2 e' he';exact ⟨R',a1,a2,a3,a4,by omega,a6⟩) hS1' hat1.1 hat1.2.1 hat1.2.2 (fun e' he'=>by
     obtain ⟨R',a1,a2,a3,a4,a5,a6⟩:=k2 e' he';refine ⟨R',a1,a2,a3,a4,by omega,?_⟩
     rcases a6 with q|⟨q,_⟩
     ·exact q
     ·cases q) hf bs _ [] ρ c ccs w (Nat.lt_succ_self _) (by simp) (iv0 _ hfree)
    refine ⟨σ,c',ccs',w',r1,⟨r2,r3,r4⟩,(r5.tgt (h2:={S1.h with nx:=max n n1}) (by rw [show S1.h.nx=R.h.nx by rw [hS1']];exact Nat.le_trans a5 (Nat.le_max_left n n1)) (fun b' hb'=>.inl hb')).ext ⟨R.h.log++[b],?_,fun b' hb' hr'=>?_⟩⟩
    ·rw [hS1'];show R.h.log++S.h.log=_;rw [hSlog];simp
    ·simp only [List.mem_append,List.mem_singleton,not_or] at hb'
     have:S1.h.blk.get b'=S.h.blk.get b':=by
      rw [hS1'];refine r6 b' hb'.1 ?_;rcases hr' with q|q
      ·left;omega
      ·right;have q:max n n1≤b':=q;omega
     show S1.h.blk.get b'=_;rw [this,hSb,if_neg (fun e=>hb'.2 e.symm)]
   ·cases hx
  ·cases hx
 ·cases hx
end
end Go.AE
namespace Go.AE
variable [Gl:AH]
variable [U:Unk]
section
variable {E:Env} (hE:OK E) (hO:Ah E U.V.fn)
include hE hO
theorem VY:∀(f:Nat) (G:FuncId) (H:Bool) (s:AS) (p:Ren) (c:Frame) (u:List Frame) (w:World) (ok:Bool) (v:AV) (h:Aa),SR p s c u w→WF s.h→FQ E f G H s=some (ok,v,h)→AG p s.h.nx h.nx→
  ∀base:List Frame,∃j q C w1 m,Steps E.P (lone c (u++base) w) (lone q base w1)∧q.fn=G∧(H=false→q.roundOf=none)∧IM E.P q w1 ok C m∧VR j v C∧HR j h.blk.get m∧Ext p j s.h h w m:=by
 intro f
 induction f with
 |zero=>intro G H s p c u w ok v h o hwf d;cases d
 |succ f ih=>
  intro G H s p c u w ok v h o hwf d a base
  have Q:∀(y:AS) (j:Ren) (N:Frame) (i:List Frame) (w1:World),Steps E.P (lone c (u++base) w) (lone N (i++base) w1)→SR j y N i w1→Ext p j s.h y.h w w1→FQ E f G H y=some (ok,v,h)→
    ∃j q C w1 m,Steps E.P (lone c (u++base) w) (lone q base w1)∧q.fn=G∧(H=false→q.roundOf=none)∧IM E.P q w1 ok C m∧VR j v C∧HR j h.blk.get m∧Ext p j s.h h w m:=by
   intro y j N i w1 M Y Z h4;obtain ⟨τ,q,C,w2,m,z,B,t,R,q5,q6,q7⟩:=ih G H y j N i w1 ok v h Y (Z.wf hwf) h4 (Z.free a) base;exact ⟨τ,q,C,w2,m,Steps.trans M z,B,t,R,q5,q6,Z.trans q7 a⟩
  have hC:∀(fr:AF) (g K:Aa) (ok:Bool) (v:AV) (p:Ren) (q:Frame) (w:World),FrR p fr q→HR p g.blk.get w→WF g→FQ E f fr.fn true {fr,cs:=[],h:=g}=some (ok,v,K)→AG p g.nx K.nx→
    ∀(c0:Frame) (base:List Frame),∃j C m,BH E.P (lone q (c0::base) w) c0 base ok C m∧VR j v C∧HR j K.blk.get m∧Ext p j g K w m:=by
   intro fr g K ok v p q w I hr hwf d a c0 base;obtain ⟨j,A,C,w1,m,z,B,t,R,q5,q6,q7⟩:=ih fr.fn true {fr,cs:=[],h:=g} p q [] w ok v K ⟨I,.nil,hr⟩ hwf d a (c0::base);refine ⟨j,C,m,?_,q5,q6,q7⟩;have:=Steps.trans z (Steps.one (R.back c0 base));cases ok<;>exact this
  have hF:Db E (Md E (FQ E f)):=by
   refine ⟨?_,?_⟩
   ·intro f' args aa g K ok v p w ha hr hwf d a;simp only [Md] at d;split at d
    ·rename_i r O;cases d;exact Ei hE hO O ha hr hwf a
    ·split at d
     ·rename_i fr I;exact hC fr g K ok v p _ w (B2 hE I ha) hr hwf d a
     ·cases d
   ·intro l args g K ok v p w hr hwf d a;simp only [Md] at d;split at d
    ·rename_i fr I;exact ⟨fr,I,fun q ab=>hC fr g K ok v p q w ab hr hwf d a⟩
    ·cases d
  simp only [FQ] at d;split at d
  ·rename_i y S;split at d
   ·rename_i L;have n:=BZ f G H y ok v h d;obtain ⟨j,A,i,m,z,B,t⟩:=KY hE hO o hwf S (fun b M Y=>a b M (by omega)) base
    exact Q y j A i m z B t d
   ·cases d
  split at d
  ·rename_i y J;split at d
   ·rename_i L;have n:=BZ f G H y ok v h d;obtain ⟨j,A,i,m,z,B,t⟩:=Gx (base:=base) hE o J (fun b M Y=>a b M (by omega))
    exact Q y j A i m (Steps.one z) B t d
   ·cases d
  ·rename_i ah C h' J;split at d
   ·rename_i L;simp only [Option.some.injEq,Prod.mk.injEq] at d;obtain ⟨rfl,rfl,rfl⟩:=d;obtain ⟨rfl,x,m,z,B,t,R⟩:=HJ hE o J;obtain ⟨b1,b2⟩:=An L;have ac:=Ay (An b1).2;refine ⟨p,c,x,w,m,Steps.refl _ _,o.fr.fn.trans ac,fun ad=>?_,R,z,B,t⟩
    subst ad;have D:=o.fr.round;simp only [Bool.false_or,Option.isNone_iff_eq_none] at b2;rw [b2] at D;exact D.none_inv
   ·cases d
  ·rename_i s2 ops k J;obtain ⟨rfl,hm,id,ht⟩:=CI J;split at d
   ·rename_i tmps M hd;have n:=BZ f G H _ ok v h d;obtain ⟨j,N,m,z,B,t⟩:=FN hE hF o hwf hm ht hd (fun b a1 a2=>a b a1 (Nat.lt_of_lt_of_le a2 n)) base
    exact Q _ j N u m z B t d
   ·rename_i v1 tmps M hd;have n:=BZ f G H _ ok v h d;obtain ⟨j,N,m,z,B,t⟩:=FN hE hF o hwf hm ht hd (fun b a1 a2=>a b a1 (Nat.lt_of_lt_of_le a2 n)) base
    exact Q _ j N u m z B t d
   ·cases d
  ·split at d
   ·rename_i y hl;split at d
    ·rename_i L;have n:=BZ f G H y ok v h d;obtain ⟨j,A,i,m,z,B,t⟩:=Qz hE hO hF o hwf hl (fun b M Y=>a b M (by omega)) base
     exact Q y j A i m z B t d
    ·cases d
   split at d
   ·rename_i al ae;obtain ⟨j1,j2,j3,j4⟩:=Qw d;obtain ⟨y,W,ai,j,A,i,m,z,B,t⟩:=X2 hE o ae base;obtain ⟨h',af,X⟩:=j4 _ (List.mem_map.2 ⟨y,W,rfl⟩);have F:AG p s.h.nx h'.nx:=by rw [X];exact a
    obtain ⟨τ,q,C,w2,w3,t1,t2,t3,t4,t5,t6,t7⟩:=ih G H y j A i m ok v h' B (t.wf hwf) af (t.free F) base;have e:=t.trans t7 F;refine ⟨τ,q,C,w2,w3,Steps.trans (Steps.one z) t1,t2,t3,t4,t5,t6.restrict (fun b=>.inl (by rw [j1];exact T.get_nil _)),⟨e.le,j3,fun b bs L=>by rw [←X];exact e.new b bs L,e.calm,e.kept,⟨_,j2,fun b L aj=>?_⟩,fun b L=>absurd (by rw [j1];exact T.get_nil _) L,e.imm⟩⟩
    rw [j1,T.get_nil];refine Eq.symm ?_;by_cases ag:b<s.h.nx
    ·exact LH s.h s.h.nx b ag L
    ·exact hwf b (by omega)
   ·cases d
end
theorem Orc.valid {E:Env} (hE:∀[U:Unk],U.K=(Env.of E.P).kinds→OK E) {G:Nat→D→D} (hO:Ah E G) {N:Nat} {e:Orc} (h:∀[F:Facts],R9 E N e=true):e.Valid E.P G:=by
 intro U hK hG ρ w I ha hr hwf r c0 base;have hE:=hE hK;subst hG;have t:=h (F:=U.toFacts);unfold R9 at t;split at t
 ·rename_i ok v g l;simp only [Bool.and_eq_true,beq_iff_eq] at t;obtain ⟨⟨⟨⟨h1,h2⟩,h3⟩,h4⟩,h5⟩:=t;have e4:=Nat.eq_of_beq_eq_true h4;unfold ZK at l;split at l
  ·rename_i fr J;obtain ⟨σ,cf,v',w1,w',q1,q2,q3,q4,q5,q6,q7⟩:=VY hE hO N e.f false _ ρ _ [] w ok v g ⟨B2 hE J ha,.nil,hr⟩ hwf l (by show AG ρ e.nx g.nx;rw [e4];exact r) (c0::base)
   refine ⟨σ,v',w',g,?_,Dr _ _ h2▸q5,q6,q7,C3 h3,e4,K2 h5⟩;rw [←h1];have:=Steps.trans q1 (Steps.one (q4.back c0 base));cases ok<;>exact this
  ·cases l
 ·cases t
end Go.AE
namespace Go.AE
variable [Gl:AH]
structure PR where
 o:Oper
 looks:List Tmp
 mask:Nat
 free:List Nat
def eM (a:List Nat):List Edge→Option Nat
 |[]=>some 0
 |e::r=>match eM a r with
  |none=>none
  |some m=>match Region.binds .any e with
   |false=>some m
   |true=>match a[e.on]? with
    |some x=>some (m ||| x ||| 2^e.on)
    |none=>none
def LF (m n:Nat):List Nat:=(List.range n).filter fun p=>!Nat.beq (m/2^(n-1-p)%2) 1
def ZN (all:Array Oper) (x y:Oper):Bool:=!UV (Bf all y) x.dst && !UV (Bf all x) y.dst && !WI x.dst y.dst
def ZG (all:Array Oper) (done:List Oper) (o:Oper) (l:List Nat):Bool:=l.all fun p=>match done[p]? with
 |some x=>ZN all x o
 |none=>false
def LX (all:Array Oper):List Oper→List Nat→List Oper→Option (List PR)
 |[],_,_=>some []
 |o::rest,a,done=>match eM a o.after.toList with
  |none=>none
  |some m=>match ZG all done o (LF m done.length) with
   |false=>none
   |true=>match LX all rest (a++[m]) (o::done) with
    |none=>none
    |some l=>some (⟨o,Bf all o,m,LF m done.length⟩::l)
def Uv (x y:Rc):Bool:=HF x.wr y.fp&&HF y.wr x.fp&&JA x.wr y.wr&&V4 x.lo x.hi y.wr
def cj (x y:Rc):Bool:=List.casesOn (motive:=fun _=>Bool) x.wr (List.casesOn (motive:=fun _=>Bool) y.wr true (fun _ _=>Uv x y)) (fun _ _=>Uv x y)
def gn (p:Nat):List Rc→Option Rc:=Nat.rec (motive:=fun _=>List Rc→Option Rc) (fun l=>List.casesOn (motive:=fun _=>Option Rc) l none (fun x _=>some x)) (fun _ ih l=>List.casesOn (motive:=fun _=>Option Rc) l none (fun _ r=>ih r)) p
def FA (y:Rc) (a:List Rc):List Nat→Bool
 |[]=>true
 |p::r=>match gn p a with
  |some x=>match cj x y with
   |true=>FA y a r
   |false=>false
  |none=>false
def jf (n:Nat) (k:Nat→Aa):Aa:=Nat.casesOn (motive:=fun _=>Aa) n (k 0) (fun m=>k (Nat.succ m))
def N6 (h g:Aa):Aa:=jf g.nx fun n=>{blk:=HO (GF h.blk g.blk (BE h.nx g.log)) g.blk h.nx (n-h.nx),nx:=n,log:=BE h.nx g.log++h.log}
def OC (h g:Aa):Aa:=List.casesOn (motive:=fun _=>Aa) g.log (Bool.casesOn (motive:=fun _=>Aa) (Nat.beq g.nx h.nx) (N6 h g) h) (fun _ _=>N6 h g)
theorem Vb (h g:Aa):N6 h g=AU h g:=by
 unfold N6 AU jf;cases g.nx<;>rfl
theorem UA (h g:Aa):OC h g=AU h g:=by
 unfold OC;rw [Vb];cases b:g.log with
 |cons a r=>rfl
 |nil=>
  show (Bool.casesOn (motive:=fun _=>Aa) (Nat.beq g.nx h.nx) (AU h g) h:Aa)=AU h g
  cases c:Nat.beq g.nx h.nx with
  |false=>rfl
  |true=>
   have d:g.nx=h.nx:=Nat.eq_of_beq_eq_true c;show h=AU h g;unfold AU;rw [b,d,Nat.sub_self];cases h;rfl
section
variable [U:Facts]
abbrev DrR:=Option (Option AV×T AV×Aa)
def PU (E:Env) (b:Ask→Aa→Option (Bool×AV×Aa)) (all:Array Oper) (nt:Nat) (F:Nat):List PR→List Rc→T AV→Aa→DrR:=
 Nat.rec (motive:=fun _=>List PR→List Rc→T AV→Aa→DrR) (fun _ _ _ _=>none) (fun _ ih l a tmps h=>
  List.casesOn (motive:=fun _=>DrR) l (some (none,tmps,h)) (fun p rest=>
   Option.casesOn (motive:=fun _=>DrR) (Da E b all p.o (AY tmps p.looks) h) none (fun d=>
    Bool.casesOn (motive:=fun _=>DrR) (Nat.ble h.nx d.g.nx) none (Bool.casesOn (motive:=fun _=>DrR) d.ok none
     (Bool.casesOn (motive:=fun _=>DrR) (FA {wr:=BE h.nx d.g.log,fp:=d.fp,lo:=h.nx,hi:=d.g.nx,dst:=p.o.dst,looks:=p.looks,mask:=p.mask} a p.free) none
      (Option.casesOn (motive:=fun _=>DrR) (El nt tmps p.o.dst d.v) none (fun c=>ih rest ({wr:=BE h.nx d.g.log,fp:=d.fp,lo:=h.nx,hi:=d.g.nx,dst:=p.o.dst,looks:=p.looks,mask:=p.mask}::a) c (OC h d.g)))))))) F
def VZ (E:Env) (a:Ask→Aa→Option (Bool×AV×Aa)) (all:Array Oper) (nt:Nat) (tmps:T AV) (h:Aa):DrR:=
 Option.casesOn (motive:=fun _=>DrR) (Option.casesOn (motive:=fun _=>DrR) (LX all all.toList [] []) none (fun b=>PU E a all nt 100000 b [] tmps h)) (BI E a all nt all.toList [] tmps h) some
end
theorem gZ (a:List Rc):∀l:List Edge,eM (a.map Rc.mask) l=BJ a l:=by
 intro l
 induction l with
 |nil=>rfl
 |cons e r ih=>
  unfold eM BJ;rw [ih];cases BJ a r with
  |none=>rfl
  |some m=>
   simp only;cases Region.binds .any e with
   |false=>rfl
   |true=>
    simp only [List.getElem?_map];cases a[e.on]?<;>rfl
theorem Yc:∀(p:Nat) (l:List Rc),gn p l=l[p]?:=by
 intro p
 induction p with
 |zero=>intro l;cases l<;>rfl
 |succ p ih=>intro l;cases l with
  |nil=>rfl
  |cons x r=>exact ih r
theorem Yj {x y:Rc} (h:cj x y=true):Uv x y=true:=by
 unfold cj at h;cases b:x.wr with
 |cons a r=>rw [b] at h;exact h
 |nil=>
  cases c:y.wr with
  |cons a r=>rw [b,c] at h;exact h
  |nil=>
   unfold Uv;rw [b,c];cases x.fp<;>cases y.fp<;>rfl
theorem RI {y:Rc} {a:List Rc}:∀{l:List Nat},FA y a l=true→∀p∈l,∃x,a[p]?=some x∧Uv x y=true:=by
 intro l
 induction l with
 |nil=>intro _ p b;cases b
 |cons q r ih=>
  intro h p b;unfold FA at h;split at h
  ·rename_i x c;split at h
   ·rename_i d;rcases List.mem_cons.1 b with rfl|b
    ·exact ⟨x,by rw [←Yc];exact c,Yj d⟩
    ·exact ih h p b
   ·cases h
  ·cases h
theorem Qg {y:Rc}:∀(l:List Rc) (i:Nat),(∀j x,l[j]?=some x→(Nat.beq (y.mask/2^(i+j)%2) 1||x.apart y)=true)→C5 y l i=true:=by
 intro l
 induction l with
 |nil=>intro i _;rfl
 |cons x r ih=>
  intro i h;unfold C5;have h0:=h 0 x rfl;rw [Nat.add_zero] at h0;rw [h0];exact ih (i+1) (fun j z a=>by have:=h (j+1) z a;rwa [show i+(j+1)=i+1+j from by omega] at this)
inductive RL2 (all:Array Oper):List Rc→List Oper→Prop
 |nil:RL2 all [] []
 |cons {x:Rc} {o:Oper} {l:List Rc} {l':List Oper} (hd:x.dst=o.dst) (hl:x.looks=Bf all o) (k:RL2 all l l'):RL2 all (x::l) (o::l')
theorem RL2.len {all:Array Oper} {l:List Rc} {l':List Oper} (h:RL2 all l l'):l.length=l'.length:=by
 induction h with
 |nil=>rfl
 |cons _ _ _ ih=>simp [ih]
theorem RL2.get {all:Array Oper} {l:List Rc} {l':List Oper} (h:RL2 all l l'):∀{p:Nat} {x:Rc},l[p]?=some x→∃o,l'[p]?=some o∧x.dst=o.dst∧x.looks=Bf all o:=by
 induction h with
 |nil=>intro p x r;simp at r
 |cons t I k ih=>
  intro p x r;cases p with
  |zero=>simp at r;subst r;exact ⟨_,rfl,t,I⟩
  |succ p=>exact ih (by simpa using r)
theorem Xw {all:Array Oper} {a:List Rc} {done:List Oper} {o:Oper} {y:Rc} {m:Nat} (hr:RL2 all a done) (e:y.mask=m) (f:y.dst=o.dst) (g:y.looks=Bf all o)
  (l:ZG all done o (LF m done.length)=true) (n:FA y a (LF m done.length)=true):C5 y a.reverse 0=true:=by
 refine Qg _ _ fun j x h=>?_
 rw [Nat.zero_add,e]
 have p:j<a.length:=by
  have:=(List.getElem?_eq_some_iff.1 h).1;simpa using this
 have d:a[a.length-1-j]?=some x:=by
  rw [List.getElem?_reverse (by simpa using p)] at h
  exact h
 cases q:Nat.beq (m/2^j%2) 1 with
 |true=>rfl
 |false=>
  have c:a.length-1-j∈LF m done.length:=by
   unfold LF;rw [List.mem_filter,List.mem_range,←hr.len];refine ⟨by omega,?_⟩
   rw [show a.length-1-(a.length-1-j)=j from by omega,q]
   rfl
  obtain ⟨x1,k,i⟩:=RI n _ c;rw [d] at k;cases k;obtain ⟨o1,r,s,t⟩:=hr.get d;have b:=List.all_eq_true.1 l _ c;rw [r] at b;simp only [ZN] at b;rw [Bool.false_or];unfold Rc.apart;unfold Uv at i;rw [s,t,f,g];simp only [Bool.and_eq_true] at i b ⊢;simp only [i,b,and_self]
section
variable [U:Facts]
theorem R7 {E:Env} {a:Ask→Aa→Option (Bool×AV×Aa)} {all:Array Oper} {nt F:Nat} (p:PR) (rest:List PR) (b:List Rc) (tmps:T AV) (h:Aa) :
  PU E a all nt (F+1) (p::rest) b tmps h=(match Da E a all p.o (AY tmps p.looks) h with
   |none=>none
   |some d=>match Nat.ble h.nx d.g.nx with
    |false=>none
    |true=>match d.ok with
     |false=>none
     |true=>match FA {wr:=BE h.nx d.g.log,fp:=d.fp,lo:=h.nx,hi:=d.g.nx,dst:=p.o.dst,looks:=p.looks,mask:=p.mask} b p.free with
      |false=>none
      |true=>match El nt tmps p.o.dst d.v with
       |none=>none
       |some c=>PU E a all nt F rest ({wr:=BE h.nx d.g.log,fp:=d.fp,lo:=h.nx,hi:=d.g.nx,dst:=p.o.dst,looks:=p.looks,mask:=p.mask}::b) c (OC h d.g)):=by
 show Option.casesOn (motive:=fun _=>DrR) (Da E a all p.o (AY tmps p.looks) h) none _=_
 cases Da E a all p.o (AY tmps p.looks) h with
 |none=>rfl
 |some d=>
  show Bool.casesOn (motive:=fun _=>DrR) (Nat.ble h.nx d.g.nx) none _=_
  simp only;cases Nat.ble h.nx d.g.nx with
  |false=>rfl
  |true=>
   show Bool.casesOn (motive:=fun _=>DrR) d.ok none _=_
   simp only;cases d.ok with
   |false=>rfl
   |true=>
    show Bool.casesOn (motive:=fun _=>DrR) (FA _ b p.free) none _=_
    simp only;cases FA {wr:=BE h.nx d.g.log,fp:=d.fp,lo:=h.nx,hi:=d.g.nx,dst:=p.o.dst,looks:=p.looks,mask:=p.mask} b p.free with
    |false=>rfl
    |true=>
     show Option.casesOn (motive:=fun _=>DrR) (El nt tmps p.o.dst d.v) none _=_
     simp only;cases El nt tmps p.o.dst d.v with
     |none=>rfl
     |some c=>rfl
theorem Xx {E:Env} {c:Ask→Aa→Option (Bool×AV×Aa)} {all:Array Oper} {nt:Nat}:∀(l:List Oper) (n:List Nat) (done:List Oper) (p:List PR) (F:Nat) (b:List Rc) (tmps:T AV) (h:Aa) (r:Option AV×T AV×Aa),
  LX all l n done=some p→n=b.reverse.map Rc.mask→RL2 all b done→PU E c all nt F p b tmps h=some r→BI E c all nt l b.reverse tmps h=some r:=by
 intro l
 induction l with
 |nil=>
  intro n done p F b tmps h r e q hr a;cases e;cases F with
  |zero=>cases a
  |succ F=>exact a
 |cons o rest ih=>
  intro n done p F b tmps h r e q hr a;unfold LX at e;split at e
  ·cases e
  ·rename_i m w;split at e
   ·cases e
   ·rename_i s;split at e
    ·cases e
    ·rename_i y t;cases e;cases F with
     |zero=>cases a
     |succ F=>
      rw [q,gZ] at w;unfold BI;rw [w];rw [R7] at a;simp only at a ⊢;cases j:Da E c all o (AY tmps (Bf all o)) h with
      |none=>rw [j] at a;cases a
      |some d=>
       rw [j] at a;simp only at a ⊢;cases x:Nat.ble h.nx d.g.nx with
       |false=>rw [x] at a;cases a
       |true=>
        rw [x] at a;simp only at a;cases k:d.ok with
        |false=>rw [k] at a;cases a
        |true=>
         rw [k] at a;simp only at a ⊢;cases i:FA {wr:=BE h.nx d.g.log,fp:=d.fp,lo:=h.nx,hi:=d.g.nx,dst:=o.dst,looks:=Bf all o,mask:=m} b (LF m done.length) with
         |false=>rw [i] at a;cases a
         |true=>
          rw [i] at a;simp only at a;rw [Xw hr rfl rfl rfl s i];simp only;cases f:El nt tmps o.dst d.v with
          |none=>rw [f] at a;cases a
          |some u=>
           rw [f] at a;simp only [UA] at a ⊢;have:=ih _ _ _ _ _ _ _ _ t (by simp [q]) (RL2.cons rfl rfl hr) a
           simpa using this
theorem HP {E:Env} {a:Ask→Aa→Option (Bool×AV×Aa)} {all:Array Oper} {nt:Nat} {tmps:T AV} {h:Aa} {r:Option AV×T AV×Aa} (b:VZ E a all nt tmps h=some r):BI E a all nt all.toList [] tmps h=some r:=by
 unfold VZ at b;cases c:LX all all.toList [] [] with
 |none=>rw [c] at b;exact b
 |some e=>
  rw [c] at b;simp only at b;cases d:PU E a all nt 100000 e [] tmps h with
  |none=>rw [d] at b;exact b
  |some x=>
   rw [d] at b;cases b;exact Xx _ _ _ _ _ [] _ _ _ c rfl .nil d
end
end Go.AE
namespace Go.AE
variable [Gl:AH]
structure CX where
 fn:FuncId
 nt:Nat
 defers:List AD
 kind:CallKind
 round:Option Nat
 cs:List AF
def CX.as (X:CX) (tmps:T AV) (todo:List AI) (mode:Hd) (h:Aa):AS:=⟨⟨X.fn,X.nt,tmps,todo,X.defers,mode,X.kind,X.round⟩,X.cs,h⟩
inductive QSt where
 |o (l:List Oper) (all:Array Oper) (k:List AI) (tmps:T AV) (h:Aa) (X:CX)
 |c (c:Code) (k:List AI) (tmps:T AV) (h:Aa) (X:CX)
 |k (k:List AI) (tmps:T AV) (h:Aa) (X:CX)
 |g (s:AS)
abbrev R3:=Option (Bool×AV×Aa)
def Mc (n:Nat) (k:Nat→R3):R3:=Nat.casesOn (motive:=fun _=>R3) n (k 0) (fun m=>k (Nat.succ m))
theorem JF (n:Nat) (k:Nat→R3):Mc n k=k n:=by cases n<;>rfl
def QZ (h:Aa) (k:Aa→R3):R3:=Aa.casesOn (motive:=fun _=>R3) h (fun b n l=>Mc n (fun n=>k ⟨b,n,l⟩))
theorem Nx (h:Aa) (k:Aa→R3):QZ h k=k h:=by
 obtain ⟨b,n,l⟩:=h;exact JF n (fun n=>k ⟨b,n,l⟩)
section
variable [U:Facts]
def I1 (ih:QSt→R3) (s:AS):R3:=match s with
 |⟨⟨fn,nt,tmps,todo,defers,mode,kind,round⟩,cs,h⟩=>match mode with
  |.run=>Mc fn fun fn=>Mc nt fun nt=>QZ h fun h=>ih (.k todo tmps h ⟨fn,nt,defers,kind,round,cs⟩)
  |m=>ih (.g ⟨⟨fn,nt,tmps,todo,defers,m,kind,round⟩,cs,h⟩)
def gen (E:Env) (d:FuncId) (e:Bool) (ih:QSt→R3) (a:Ask→Aa→R3) (s:AS):R3:=match QT E s with
   |some b=>(match Nat.ble s.h.nx b.h.nx with
     |true=>I1 ih b
     |false=>none)
   |none=>match A4 E s with
    |.next b=>match Nat.ble s.h.nx b.h.nx with
      |true=>I1 ih b
      |false=>none
    |.done ok v h=>match Nat.ble s.h.nx h.nx&&Nat.beq s.fr.fn d&&(e||s.fr.round.isNone) with
      |true=>some (ok,v,h)
      |false=>none
    |.draw s ops k=>
      match VZ E a ops s.fr.nt s.fr.tmps s.h with
      |some (none,tmps,h)=>I1 ih {s with fr:={s.fr with tmps,todo:=k},h}
      |some (some v,tmps,h)=>I1 ih {s with fr:={s.fr with tmps,todo:=.dead::k,mode:=.panic [(v,false)]},h}
      |none=>none
    |.bad _=>match T6 E a 100000 s with
      |some c=>match Nat.ble s.h.nx c.h.nx with
        |true=>I1 ih c
        |false=>none
      |none=>none
def ba (v:Value):AV:=match ofValue v with
  |some a=>a
  |none=>.top
def jm (i:Tmp) (t:T AV):AV:=Option.casesOn (motive:=fun _=>AV) (T.get t i) .top fun v=>v
def b8 (v:Value) (t:T AV):AV:=ba v
def iu (g:Nat) (t:T AV):AV:=.glob g 0
def i4 (g:FuncId) (t:T AV):AV:=.func (.func g) [] []
def evF (t:T AV) (x:Operand):AV:=Operand.casesOn (motive:=fun _=>T AV→AV) x jm b8 iu i4 t
abbrev OT:=Env→(QSt→R3)→Oper→List Oper→Array Oper→List AI→Option Tmp→T AV→Aa→CX→R3
def onK (E:Env) (ih:QSt→R3) (rest:List Oper) (all:Array Oper) (k:List AI) (dst:Option Tmp) (tmps:T AV) (X:CX) (v:AV) (h:Aa):R3:=
 Option.casesOn (motive:=fun _=>R3) dst (ih (.o rest all k tmps h X)) (fun d=>Bool.casesOn (motive:=fun _=>R3) (Nat.blt d X.nt) none (ih (.o rest all k (T.set tmps d v) h X)))
def Vz (E:Env) (ih:QSt→R3) (rest:List Oper) (all:Array Oper) (k:List AI) (dst:Option Tmp) (tmps:T AV) (X:CX) (v:AV) (h:Aa):R3:=QZ h fun h=>onK E ih rest all k dst tmps X v h
theorem KG (E:Env) (ih:QSt→R3) (rest:List Oper) (all:Array Oper) (k:List AI) (dst:Option Tmp) (tmps:T AV) (X:CX) (v:AV) (h:Aa):Vz E ih rest all k dst tmps X v h=onK E ih rest all k dst tmps X v h:=Nx _ _
def DC (E:Env) (ih:QSt→R3) (o:Oper) (rest:List Oper) (all:Array Oper) (k:List AI) (tmps:T AV) (h:Aa) (X:CX):R3:=ih (.g (X.as tmps (.ops all (o::rest)::k) .run h))
def KA (E:Env) (ih:QSt→R3) (o:Oper) (rest:List Oper) (all:Array Oper) (k:List AI) (dst:Option Tmp) (tmps:T AV) (h:Aa) (X:CX) (r:Option AV):R3:=
 Option.casesOn (motive:=fun _=>R3) r (DC E ih o rest all k tmps h X) (fun v=>onK E ih rest all k dst tmps X v h)
def QK (E:Env) (ih:QSt→R3) (o:Oper) (rest:List Oper) (all:Array Oper) (k:List AI) (dst:Option Tmp) (tmps:T AV) (h:Aa) (X:CX) (r:Option (AV×Aa)):R3:=
 Option.casesOn (motive:=fun _=>R3) r (DC E ih o rest all k tmps h X) (fun p=>Prod.casesOn (motive:=fun _=>R3) p (fun v h'=>Bool.casesOn (motive:=fun _=>R3) (Nat.ble h.nx h'.nx) none (Vz E ih rest all k dst tmps X v h')))
def Wg (E:Env) (ih:QSt→R3) (o:Oper) (rest:List Oper) (all:Array Oper) (k:List AI) (dst:Option Tmp) (tmps:T AV) (h:Aa) (X:CX) (r:Option Aa):R3:=
 Option.casesOn (motive:=fun _=>R3) r (DC E ih o rest all k tmps h X) (fun h'=>Bool.casesOn (motive:=fun _=>R3) (Nat.ble h.nx h'.nx) none (Vz E ih rest all k dst tmps X AV.undef h'))
def Y0:OT:=fun E ih o rest all k dst tmps h X=>DC E ih o rest all k tmps h X
def ZX (x:Operand):OT:=fun E ih o rest all k dst tmps h X=>onK E ih rest all k dst tmps X (evF tmps x) h
def kM (a:BinOp) (t:TypeId) (x y:Operand) (_:TypeId):OT:=fun E ih o rest all k dst tmps h X=>KA E ih o rest all k dst tmps h X (br E a t x y (evF tmps x) (evF tmps y))
def oUn (a:UnOp) (_:TypeId) (x:Operand):OT:=fun E ih o rest all k dst tmps h X=>KA E ih o rest all k dst tmps h X (unB a (evF tmps x))
def eC (t:TypeId) (a:Operand):OT:=fun E ih o rest all k dst tmps h X=>KA E ih o rest all k dst tmps h X (TM E t (evF tmps a) h)
def cS (t:TypeId) (x:Operand) (f:Nat):OT:=fun E ih o rest all k dst tmps h X=>KA E ih o rest all k dst tmps h X (Oh E t (evF tmps x) f)
def Sj (t:TypeId) (x:Operand) (f:Nat):OT:=fun E ih o rest all k dst tmps h X=>KA E ih o rest all k dst tmps h X (Fx E t (evF tmps x) f)
def RC (t:TypeId) (x i:Operand):OT:=fun E ih o rest all k dst tmps h X=>KA E ih o rest all k dst tmps h X (FU E t (evF tmps x) (evF tmps i))
def bW (t:TypeId) (x i:Operand):OT:=fun E ih o rest all k dst tmps h X=>KA E ih o rest all k dst tmps h X (N5 E t (evF tmps x) (evF tmps i))
def b9 (t:TypeId) (a x:Operand):OT:=fun E ih o rest all k dst tmps h X=>Wg E ih o rest all k dst tmps h X (Js E t (evF tmps a) (evF tmps x) h)
def Mp (t:Operand) (i:Nat):OT:=fun E ih o rest all k dst tmps h X=>match evF tmps t with
 |.tuple a=>KA E ih o rest all k dst tmps h X a[i]?
 |_=>DC E ih o rest all k tmps h X
def Ri (t:TypeId):OT:=fun E ih o rest all k dst tmps h X=>Option.casesOn (motive:=fun _=>R3) (E.zero t) (DC E ih o rest all k tmps h X) (fun z=>Vz E ih rest all k dst tmps X (.ptr h.nx 0) (Bh h z.cells))
def ae (t:TypeId) (a:Array (Nat×Operand)):OT:=fun E ih o rest all k dst tmps h X=>KA E ih o rest all k dst tmps h X (N1 E t (a.toList.map fun (i,x)=>(i,evF tmps x)))
def PV (t:TypeId) (len:Nat) (a:Array (Nat×Operand)):OT:=fun E ih o rest all k dst tmps h X=>QK E ih o rest all k dst tmps h X (EL E t len (a.toList.map fun (i,x)=>(i,evF tmps x)) h)
def cC (x:Operand):OT:=fun E ih o rest all k dst tmps h X=>match evF tmps x with
 |.ptr b off=>onK E ih rest all k dst tmps X (.ptr b off) h
 |_=>DC E ih o rest all k tmps h X
def af (t:TypeId) (x:Operand):OT:=fun E ih o rest all k dst tmps h X=>match E.desc t with
  |some (.interface _)=>DC E ih o rest all k tmps h X
  |some _=>onK E ih rest all k dst tmps X (.iface t (evF tmps x)) h
  |none=>DC E ih o rest all k tmps h X
def bB (fn:Fn) (first captured:Array Operand):OT:=fun E ih o rest all k dst tmps h X=>match fn with
 |.yield _=>DC E ih o rest all k tmps h X
 |fn=>onK E ih rest all k dst tmps X (.func fn (first.toList.map (evF tmps)) (captured.toList.map (evF tmps))) h
def P2 (tmps:T AV):Option Operand→Option AV
 |some o=>some (evF tmps o)
 |none=>none
def RB (t:TypeId) (x:Operand) (lo hi a:Option Operand):OT:=fun E ih o rest all k dst tmps h X=>match a,hi with
  |some _,none=>DC E ih o rest all k tmps h X
  |_,_=>QK E ih o rest all k dst tmps h X (sliceB E t (evF tmps x) (P2 tmps lo) (P2 tmps hi) (P2 tmps a) h)
def Wy (c a b:Operand):OT:=fun E ih o rest all k dst tmps h X=>match evF tmps c with
 |.bool true=>onK E ih rest all k dst tmps X (evF tmps a) h
 |.bool false=>onK E ih rest all k dst tmps X (evF tmps b) h
 |_=>DC E ih o rest all k tmps h X
def dz (s d:TypeId) (x:Operand):OT:=fun E ih o rest all k dst tmps h X=>QK E ih o rest all k dst tmps h X (SY E s d (evF tmps x) h)
def Y5 (t:TypeId) (m i:Operand) (ok:Bool):OT:=fun E ih o rest all k dst tmps h X=>KA E ih o rest all k dst tmps h X (KO E t (evF tmps m) (evF tmps i) ok h)
def RT (E:Env) (ih:QSt→R3) (o:Oper) (rest:List Oper) (all:Array Oper) (k:List AI) (tmps:T AV) (X:CX) (g:FuncId) (args:List AV) (h:Aa):R3:=match J1 E g args h with
  |some _=>DC E ih o rest all k tmps h X
  |none=>match E.fn.get g with
   |some fn=>match fn.body with
    |some b=>Mc (max fn.ntmps args.length) fun nt=>ih (.c b [] (.ofList args) h ⟨g,nt,[],.normal,none,⟨X.fn,X.nt,tmps,.ops all (o::rest)::k,X.defers,.run,X.kind,X.round⟩::X.cs⟩)
    |none=>DC E ih o rest all k tmps h X
   |none=>none
def VJ (E:Env) (ih:QSt→R3) (o:Oper) (rest:List Oper) (all:Array Oper) (k:List AI) (dst:Option Tmp) (tmps:T AV) (h:Aa) (X:CX) (r:Res):R3:=match r with
 |.val v h'=>Bool.casesOn (motive:=fun _=>R3) (Nat.ble h.nx h'.nx) none (Vz E ih rest all k dst tmps X v h')
 |.enter g args h'=>RT E ih o rest all k tmps X g args h'
 |_=>DC E ih o rest all k tmps h X
def HS (tmps:T AV):List Operand→List AV
 |[]=>[]
 |x::r=>evF tmps x::HS tmps r
def ao (f:Operand):Call→OT:=fun c E ih o rest all k dst tmps h X=>match evF tmps f with
  |.func fn first captured=>VJ E ih o rest all k dst tmps h X (BS E fn captured (first++HS tmps c.args.toList) h)
  |_=>DC E ih o rest all k tmps h X
def lA (r:Operand) (name:String):Call→OT:=fun c E ih o rest all k dst tmps h X=>VJ E ih o rest all k dst tmps h X (BS E (.method name) [] (evF tmps r::HS tmps c.args.toList) h)
def aq (b:Builtin):Call→OT:=fun c E ih o rest all k dst tmps h X=>VJ E ih o rest all k dst tmps h X (Fp E b c.argTypes.toList (HS tmps c.args.toList) h)
def XL (c:Call):OT:=Callee.casesOn (motive:=fun _=>Call→OT) c.callee ao lA aq c
def Ni {a:Type} (_:a):OT:=Y0
def Ks {a b:Type} (_:a) (_:b):OT:=Y0
def XG {a b c:Type} (_:a) (_:b) (_:c):OT:=Y0
def Uf {a b c d:Type} (_:a) (_:b) (_:c) (_:d):OT:=Y0
def opF (a:Op):OT:=Op.casesOn (motive:=fun _=>OT) a
 ZX ZX Wy Ri Ks ae PV Uf
 eC b9 Ni Ni cC kM oUn
 dz Ks af bB Ks Ks XG RB
 Sj cS RC bW Y5 Uf XG Uf
 Ks Ks Ni Uf Mp XL Ni Ni Ni
 Ks XG Ks
def UG (E:Env) (tmps:T AV) (h:Aa):List ResultVar→Option (List AV)
 |[]=>some []
 |.tmp t::r=>match UG E tmps h r with
  |some l=>some ((match T.get tmps t with|some v=>v|none=>.top)::l)
  |none=>none
 |.cell a t::r=>match T.get tmps a with
  |some p=>match NR E t p h,UG E tmps h r with
   |some v,some l=>some (v::l)
   |_,_=>none
  |none=>none
def bD (l:List AV):AV:=match l with
 |[v]=>v
 |l=>.tuple l
abbrev KT:=Env→FuncId→(QSt→R3)→List AI→T AV→Aa→CX→R3
def Ln (E:Env) (a:FuncId) (ih:QSt→R3) (c:Code) (k:List AI) (tmps:T AV) (h:Aa) (X:CX):R3:=ih (.g (X.as tmps (.code c::k) .run h))
def Zw (E:Env) (a:FuncId) (ih:QSt→R3) (X:CX) (v:AV) (h:Aa) (Ex:Unit→R3):R3:=match X.kind,X.cs with
 |.normal,⟨fn,nt,tmps,todo,defers,.run,kind,round⟩::cs=>match todo with
  |.ops all (o::rest)::k=>onK E ih rest all k o.dst tmps ⟨fn,nt,defers,kind,round,cs⟩ v h
  |.inRange l::k=>ih (.k (.endRange l::k) tmps h ⟨fn,nt,defers,kind,round,cs⟩)
  |_=>Ex ()
 |.normal,[]=>match Nat.beq X.fn a with
  |true=>some (true,v,h)
  |false=>none
 |_,_=>Ex ()
def XW (E:Env) (a:FuncId) (ih:QSt→R3) (tmps:T AV) (h:Aa) (X:CX) (Ex:Unit→R3):R3:=match X.round,X.defers with
 |none,[]=>match E.fn.get X.fn with
  |some fn=>match UG E tmps h fn.results.toList with
   |some l=>Zw E a ih X (bD l) h Ex
   |none=>none
  |none=>none
 |_,_=>Ex ()
def Zm:KT:=fun E a ih k tmps h X=>ih (.k k tmps h X)
def Y9 (id:Nat) (ops:Array Oper) (a:Bool):KT:=fun E b ih k tmps h X=>Bool.casesOn (motive:=fun _=>R3) a (ih (.o ops.toList ops k tmps h X)) (Ln E b ih (.region id ops a) k tmps h X)
def kz (a b:Code):KT:=fun E d ih k tmps h X=>ih (.c a (.code b::k) tmps h X)
def VT (c:Operand) (x y:Code):KT:=fun E a ih k tmps h X=>match evF tmps c with
 |.bool b=>Bool.casesOn (motive:=fun _=>R3) b (ih (.c y k tmps h X)) (ih (.c x k tmps h X))
 |_=>Ln E a ih (.cond c x y) k tmps h X
def bK (id:Nat) (b:Code):KT:=fun E a ih k tmps h X=>ih (.c b (.inBlock id::k) tmps h X)
def gE (b:Code):KT:=fun E a ih k tmps h X=>ih (.c b (.inLoop b::k) tmps h X)
def aH (b:Code):KT:=fun E a ih k tmps h X=>ih (.c b (.inScope b::k) tmps h X)
def Z7 (f:Operand) (c:Array Tmp) (a b:Code):KT:=fun E d ih k tmps h X=>Ln E d ih (.rangeFunc f c a b) k tmps h X
def W8 (id:Nat):KT:=fun E a ih k tmps h X=>Option.casesOn (motive:=fun _=>R3) (J2 id k) (Ln E a ih (.exit id) k tmps h X) (fun b=>ih (.k b tmps h X))
def bY (_:Nat):KT:=Zm
def f8 (l:Nat):KT:=fun E a ih k tmps h X=>Ln E a ih (.goto l) k tmps h X
def kJ:KT:=fun E a ih k tmps h X=>XW E a ih tmps h X (fun _=>Ln E a ih .ret k tmps h X)
def X6 (w:String):KT:=fun _ _ _ _ _ _ _=>none
def WZ (c:Code):KT:=Code.casesOn (motive:=fun _=>KT) c Zm Y9 kz VT bK gE Z7 W8 aH bY f8 kJ X6
def kF (E:Env) (a:FuncId) (ih:QSt→R3) (k:List AI) (tmps:T AV) (h:Aa) (X:CX):R3:=match k with
 |[]=>XW E a ih tmps h X (fun _=>ih (.g (X.as tmps [] .run h)))
 |.code c::k=>WZ c E a ih k tmps h X
 |.inBlock _::k=>ih (.k k tmps h X)
 |.inScope _::k=>ih (.k k tmps h X)
 |.inLoop b::k=>ih (.c b (.inLoop b::k) tmps h X)
 |.ops all l::k=>ih (.o l all k tmps h X)
 |k=>ih (.g (X.as tmps k .run h))
def b7 (E:Env) (ih:QSt→R3) (l:List Oper) (all:Array Oper) (k:List AI) (tmps:T AV) (h:Aa) (X:CX):R3:=match l with
  |[]=>ih (.k k tmps h X)
  |o::rest=>match o.guard with
    |none=>opF o.op E ih o rest all k o.dst tmps h X
    |some _=>match Be all o tmps with
       |some true=>opF o.op E ih o rest all k o.dst tmps h X
       |some false=>onK E ih rest all k o.dst tmps X AV.undef h
       |none=>none
def Tb (E:Env) (run:FuncId→Bool→QSt→R3) (a:Ask) (h:Aa):R3:=match a with
 |.enter g args=>match J1 E g args h with
  |some r=>some r
  |none=>match Bb E g args .normal with
   |some fr=>I1 (run fr.fn true) {fr,cs:=[],h}
   |none=>none
 |.round l args=>match GD l args h with
  |some fr=>I1 (run fr.fn true) {fr,cs:=[],h}
  |none=>none
def goB (E:Env) (b:FuncId→Bool→QSt→R3) (e:Ask→Aa→R3) (n:Nat):FuncId→Bool→QSt→R3:=Nat.rec (motive:=fun _=>FuncId→Bool→QSt→R3) b (fun f ih a d s=>
  QSt.casesOn (motive:=fun _=>R3) s
   (fun l all k tmps h X=>b7 E (ih a d) l all k tmps h X)
   (fun c k tmps h X=>WZ c E a (ih a d) k tmps h X)
   (fun k tmps h X=>kF E a (ih a d) k tmps h X)
   (fun s=>gen E a d (ih a d) e s)) n
def noB:FuncId→Bool→QSt→R3:=fun _ _ _=>none
def cfN (E:Env) (L:Nat):Ask→Aa→R3:=Nat.rec (motive:=fun _=>Ask→Aa→R3) (fun _ _=>none) (fun _ ih=>Tb E (goB E noB ih 1000000)) L
def VG (E:Env) (b:FuncId→Bool→QSt→R3) (n:Nat) (f:FuncId) (args:List AV) (h:Aa):R3:=
 match Bb E f args .normal with
 |some fr=>I1 (goB E b (cfN E 40) n f false) {fr,cs:=[],h}
 |none=>none
def Hn (E:Env) (b:FuncId→Bool→QSt→R3) (N:Nat) (e:Orc):Bool:=
 match VG E b N e.f e.args {blk:=e.part,nx:=e.nx,log:=[]} with
 |some (ok,v,g)=>(ok==e.ok)&&Bs v e.v&&MN e.out g.blk&&Nat.beq g.nx e.nx'&&UR e.nx e.wr g.log
 |none=>false
def Dj (E:Env) (N:Nat) (e:Orc):Bool:=Hn E noB N e
end
def QSt.as:QSt→AS
 |.o l all td tmps h X=>X.as tmps (.ops all l::td) .run h
 |.c r td tmps h X=>X.as tmps (.code r::td) .run h
 |.k td tmps h X=>X.as tmps td .run h
 |.g s=>s
section
variable [U:Facts]
inductive Cd (E:Env):AS→AS→Prop
 |refl (s:AS):Cd E s s
 |head {s s1 s2:AS} (h:A4 E s=.next s1) (hn:s.h.nx≤s1.h.nx) (k:Cd E s1 s2):Cd E s s2
theorem Cd.one {E:Env} {s l:AS} (h:A4 E s=.next l) (r:s.h.nx≤l.h.nx):Cd E s l:=.head h r (.refl l)
def Via (E:Env) (b:FuncId) (ih:QSt→R3) (s:AS) (r:R3):Prop:=∀x,r=some x→(∃st,Cd E s st.as∧ih st=some x)∨(∃a,Cd E s a∧A4 E a=.done true x.2.1 x.2.2∧x.1=true∧a.fr.fn=b∧a.fr.round=none∧a.h.nx≤x.2.2.nx)
theorem Via.none {E:Env} {l:FuncId} {ih:QSt→R3} {s:AS}:Via E l ih s none:=fun x h=>by cases h
theorem Via.ih {E:Env} {l:FuncId} {ih:QSt→R3} {s:AS} (st:QSt) (h:Cd E s st.as):Via E l ih s (ih st):=fun x r=>.inl ⟨st,h,r⟩
theorem O0 (t:T AV) (x:Operand):evF t x=Af t x:=by
 cases x with
 |tmp i=>simp only [evF,jm,Af];cases t.get i<;>rfl
 |const v=>rfl
 |global g=>rfl
 |func g=>rfl
theorem IH (t:T AV):∀l:List Operand,HS t l=l.map (Af t)
 |[]=>rfl
 |x::r=>by simp [HS,IH t r,O0]
theorem A9 (t:T AV):evF t=Af t:=funext (O0 t)
theorem P7 (h:Aa) (l:List AV):h.nx≤(Bh h l).nx:=by simp [Bh,Aa.new]
theorem Sn {E:Env} {t:TypeId} {x v:AV} {h h':Aa} (a:Js E t x v h=some h'):IX E t x v h=some h':=by
 cases x<;>first | (cases a;done)|skip
 exact a
theorem MO {n:String} {args a:List AV} {h h':Aa} {g:FuncId} (e:Ib n args h=.enter g a h'):False:=by
 unfold Ib at e
 repeat' (first | (cases e;done)|split at e)
theorem Kr {E:Env} {f g:FuncId} {args a:List AV} {h h':Aa} (e:IJ E f args h=.enter g a h'):h'=h:=by
 unfold IJ at e
 repeat' (first | (cases e;done)|split at e)
 all_goals first | (cases e;rfl)|exact (MO e).elim
theorem Oe {E:Env} {tmps:T AV} {c:Call} {h h':Aa} {g:FuncId} {a:List AV} (e:Dn E tmps c h=.enter g a h'):h'=h:=by
 unfold Dn at e;simp only at e;split at e
 ·unfold Fp BM C6 Ej at e
  repeat' (first | (cases e;done)|split at e)
 ·unfold BS at e
  repeat' (first | (cases e;done)|exact Kr e|split at e)
 ·split at e
  ·unfold BS at e
   repeat' (first | (cases e;done)|exact Kr e|split at e)
  ·cases e
theorem PS {E:Env} {o:Oper} {rest:List Oper} {all:Array Oper} {k:List AI} {tmps a:T AV} {h h':Aa} {X:CX} {v:AV} (b:Be all o tmps=some true) (c:aop E tmps h o.op=.val v h') (d:El X.nt tmps o.dst v=some a) :
  A4 E (X.as tmps (.ops all (o::rest)::k) .run h)=.next (X.as a (.ops all rest::k) .run h'):=by
 simp only [A4,CX.as,b,c,Bx,A3,d]
theorem CG {E:Env} {i:FuncId} {ih:QSt→R3} {o:Oper} {rest:List Oper} {all:Array Oper} {k:List AI} {tmps:T AV} {h h':Aa} {X:CX} {v:AV} (c:Be all o tmps=some true) (e:aop E tmps h o.op=.val v h') (f:h.nx≤h'.nx) :
  Via E i ih (X.as tmps (.ops all (o::rest)::k) .run h) (onK E ih rest all k o.dst tmps X v h'):=by
 unfold onK;cases g:o.dst with
 |none=>
  have a:El X.nt tmps o.dst v=some tmps:=by rw [g];rfl
  exact Via.ih (.o rest all k tmps h' X) (.one (PS c e a) f)
 |some d=>
  cases b:Nat.blt d X.nt with
  |false=>simp only;rw [b];exact Via.none
  |true=>
   have a:El X.nt tmps o.dst v=some (tmps.set d v):=by rw [g];simp only [El,b]
   simp only;rw [b];exact Via.ih (.o rest all k (tmps.set d v) h' X) (.one (PS c e a) f)
theorem A6 {E:Env} {a:FuncId} {ih:QSt→R3} {o:Oper} {rest:List Oper} {all:Array Oper} {k:List AI} {tmps:T AV} {h:Aa} {X:CX} :
  Via E a ih (X.as tmps (.ops all (o::rest)::k) .run h) (DC E ih o rest all k tmps h X):=Via.ih (.g _) (Cd.refl (X.as tmps (.ops all (o::rest)::k) .run h))
section
variable {E:Env} {f0:FuncId} {ih:QSt→R3} {o:Oper} {rest:List Oper} {all:Array Oper} {k:List AI} {tmps:T AV} {h:Aa} {X:CX} (hw:Be all o tmps=some true)
include hw
theorem Cx {r:Option AV} (a:∀v,r=some v→aop E tmps h o.op=.val v h):Via E f0 ih (X.as tmps (.ops all (o::rest)::k) .run h) (KA E ih o rest all k o.dst tmps h X r):=by
 unfold KA;cases r with
 |none=>exact A6
 |some v=>exact CG hw (a v rfl) (Nat.le_refl _)
theorem JJ {r:Option (AV×Aa)} (a:∀v h',r=some (v,h')→aop E tmps h o.op=.val v h'):Via E f0 ih (X.as tmps (.ops all (o::rest)::k) .run h) (QK E ih o rest all k o.dst tmps h X r):=by
 unfold QK;simp only [KG];cases r with
 |none=>exact A6
 |some p=>
  obtain ⟨v,h'⟩:=p;simp only;cases b:Nat.ble h.nx h'.nx with
  |false=>exact Via.none
  |true=>exact CG hw (a v h' rfl) (Nat.le_of_ble_eq_true b)
theorem UQ {r:Option Aa} (a:∀h',r=some h'→aop E tmps h o.op=.val .undef h'):Via E f0 ih (X.as tmps (.ops all (o::rest)::k) .run h) (Wg E ih o rest all k o.dst tmps h X r):=by
 unfold Wg;simp only [KG];cases r with
 |none=>exact A6
 |some h'=>
  simp only;cases b:Nat.ble h.nx h'.nx with
  |false=>exact Via.none
  |true=>exact CG hw (a h' rfl) (Nat.le_of_ble_eq_true b)
theorem Sx {g:FuncId} {args:List AV} (d:aop E tmps h o.op=.enter g args h):Via E f0 ih (X.as tmps (.ops all (o::rest)::k) .run h) (RT E ih o rest all k tmps X g args h):=by
 unfold RT;split
 ·exact A6
 ·split
  ·rename_i fn a;split
   ·rename_i b e;rw [JF];refine Via.ih (.c b [] (.ofList args) h _) (.one ?_ (Nat.le_refl _));simp only [A4,CX.as,hw,d,Bx,Bb,a,e,QSt.as]
   ·exact A6
  ·exact Via.none
theorem Lg {r:Res} (a:aop E tmps h o.op=r) (b:∀g args h',r=.enter g args h'→h'=h):Via E f0 ih (X.as tmps (.ops all (o::rest)::k) .run h) (VJ E ih o rest all k o.dst tmps h X r):=by
 unfold VJ;simp only [KG];cases r with
 |val v h'=>
  simp only;cases c:Nat.ble h.nx h'.nx with
  |false=>exact Via.none
  |true=>exact CG hw a (Nat.le_of_ble_eq_true c)
 |enter g args h'=>
  have:=b g args h' rfl;subst this;exact Sx hw a
 |_=>exact A6
end
section
variable {E:Env} {f0:FuncId} {ih:QSt→R3} {o:Oper} {rest:List Oper} {all:Array Oper} {k:List AI} {tmps:T AV} {h:Aa} {X:CX} (hw:Be all o tmps=some true)
include hw
theorem TZ:Via E f0 ih (X.as tmps (.ops all (o::rest)::k) .run h) (opF o.op E ih o rest all k o.dst tmps h X):=by
 have le:=Nat.le_refl h.nx;generalize j:o.op=w;cases w with
 |move x=>exact CG (v:=evF tmps x) hw (by rw [j,A9];rfl) le
 |assign x=>exact CG (v:=evF tmps x) hw (by rw [j,A9];rfl) le
 |pick c a b=>
  show Via E f0 ih _ (Wy c a b E ih o rest all k o.dst tmps h X);unfold Wy;rw [A9];split
  ·rename_i n;exact CG hw (by rw [j];simp only [aop,n]) le
  ·rename_i n;exact CG hw (by rw [j];simp only [aop,n]) le
  ·exact A6
 |alloc t=>
  show Via E f0 ih _ (Ri t E ih o rest all k o.dst tmps h X);unfold Ri;simp only [KG];cases B:E.zero t with
  |none=>exact A6
  |some z=>exact CG hw (by rw [j];simp only [aop,B]) (P7 h z.cells)
 |load t a=>exact Cx hw (fun v l=>by rw [j];rw [A9] at l;simp only [aop,l,BM])
 |store t a x=>exact UQ hw (fun h' l=>by rw [j];rw [A9] at l;simp only [aop,Sn l,Ej])
 |build t C=>exact Cx hw (fun v l=>by rw [j];rw [A9] at l;simp only [aop,l,BM])
 |buildSlice t len C=>exact JJ hw (fun v h' l=>by rw [j];rw [A9] at l;simp only [aop,l,C6])
 |nilCheck x=>
  show Via E f0 ih _ (cC x E ih o rest all k o.dst tmps h X);unfold cC;rw [A9];split
  ·rename_i n;exact CG hw (by rw [j];simp only [aop,n]) le
  ·exact A6
 |binOp w t x y u=>exact Cx hw (fun v l=>by rw [j];rw [A9] at l;simp only [aop,l,BM])
 |unOp w t x=>exact Cx hw (fun v l=>by rw [j];rw [A9] at l;simp only [aop,l,BM])
 |convert s d x=>exact JJ hw (fun v h' l=>by rw [j];rw [A9] at l;simp only [aop,l,C6])
 |makeInterface t x=>
  show Via E f0 ih _ (af t x E ih o rest all k o.dst tmps h X);unfold af;rw [A9];split
  ·exact A6
  ·rename_i d D F;exact CG hw (by rw [j];simp only [aop,F]) le
  ·exact A6
 |makeFunc fn first captured=>
  show Via E f0 ih _ (bB fn first captured E ih o rest all k o.dst tmps h X);unfold bB;rw [A9];split
  ·exact A6
  ·exact CG hw (by rw [j];simp only [aop]) le
 |slice t x lo hi G=>
  show Via E f0 ih _ (RB t x lo hi G E ih o rest all k o.dst tmps h X);have p:P2 tmps=A5 tmps:=by funext q;cases q<;>simp [P2,A5,O0]
  unfold RB;rw [A9,p];split
  ·exact A6
  ·exact JJ hw (fun v h' l=>by rw [j];simp only [aop,l,C6])
 |fieldAddr t x f=>exact Cx hw (fun v l=>by rw [j];rw [A9] at l;simp only [aop,l,BM])
 |field t x f=>exact Cx hw (fun v l=>by rw [j];rw [A9] at l;simp only [aop,l,BM])
 |indexAddr t x i=>exact Cx hw (fun v l=>by rw [j];rw [A9] at l;simp only [aop,l,BM])
 |index t x i=>exact Cx hw (fun v l=>by rw [j];rw [A9] at l;simp only [aop,l,BM])
 |lookup t m i ok=>exact Cx hw (fun v l=>by rw [j];rw [A9] at l;simp only [aop,l,BM])
 |extract t i=>
  show Via E f0 ih _ (Mp t i E ih o rest all k o.dst tmps h X);unfold Mp;rw [A9];split
  ·rename_i I n;exact Cx hw (fun v l=>by rw [j];simp only [aop,n,l,BM])
  ·exact A6
 |call c=>
  have A:∀r,Dn E tmps c h=r→aop E tmps h o.op=r:=fun r e=>by rw [j];exact e
  have p:∀r,Dn E tmps c h=r→∀g args h',r=.enter g args h'→h'=h:=fun r e g args h' q=>Oe (e.trans q)
  show Via E f0 ih _ (XL c E ih o rest all k o.dst tmps h X);unfold XL;cases n:c.callee with
  |value f=>
   show Via E f0 ih _ (ao f c E ih o rest all k o.dst tmps h X);unfold ao;rw [A9];split
   ·rename_i fn first captured H;have e:Dn E tmps c h=BS E fn captured (first++HS tmps c.args.toList) h:=by simp only [Dn,n,H,IH]
    exact Lg hw (A _ e) (p _ e)
   ·exact A6
  |invoke r name=>
   have e:Dn E tmps c h=BS E (.method name) [] (evF tmps r::HS tmps c.args.toList) h:=by simp only [Dn,n,IH,O0]
   exact Lg hw (A _ e) (p _ e)
  |builtin b=>
   have e:Dn E tmps c h=Fp E b c.argTypes.toList (HS tmps c.args.toList) h:=by simp only [Dn,n,IH]
   exact Lg hw (A _ e) (p _ e)
 |_=>exact A6
end
theorem Qk {E:Env} {e:FuncId} {ih:QSt→R3} {s:AS} {dst:Option Tmp} {rest:List Oper} {all:Array Oper} {k:List AI} {tmps:T AV} {h:Aa} {X:CX} {v:AV} (b:∀c,El X.nt tmps dst v=some c→Cd E s (X.as c (.ops all rest::k) .run h)) :
  Via E e ih s (onK E ih rest all k dst tmps X v h):=by
 unfold onK;cases dst with
 |none=>exact Via.ih (.o rest all k tmps h X) (b tmps rfl)
 |some d=>
  cases a:Nat.blt d X.nt with
  |false=>simp only;rw [a];exact Via.none
  |true=>
   simp only;rw [a];exact Via.ih (.o rest all k (tmps.set d v) h X) (b _ (by simp only [El,a]))
theorem Vk {E:Env} {b:FuncId} {ih:QSt→R3} {l:List Oper} {all:Array Oper} {k:List AI} {tmps:T AV} {h:Aa} {X:CX}:Via E b ih (X.as tmps (.ops all l::k) .run h) (b7 E ih l all k tmps h X):=by
 unfold b7;split
 ·exact Via.ih (.k k tmps h X) (.one (by simp only [A4,CX.as,QSt.as]) (Nat.le_refl _))
 ·rename_i o rest;split
  ·rename_i c;exact TZ (by unfold Be;rw [c])
  ·split
   ·rename_i a;exact TZ a
   ·rename_i a;refine Qk fun e d=>.one ?_ (Nat.le_refl _)
    simp only [A4,CX.as,a,Bx,A3,d]
   ·exact Via.none
theorem Ov {E:Env} {tmps:T AV} {h:Aa} (fr:AF) (b:fr.tmps=tmps):∀l:List ResultVar,UG E tmps h l=BF E fr h l
 |[]=>rfl
 |.tmp t::r=>by simp only [UG,BF,Ov fr b r,b];rfl
 |.cell a t::r=>by simp only [UG,BF,Ov fr b r,b];rfl
theorem Qx {E:Env} {j:FuncId} {ih:QSt→R3} {td:List AI} {tmps:T AV} {h:Aa} {X:CX} {Ex:Unit→R3} (y:X.round=none→A4 E (X.as tmps td .run h)=.next (X.as tmps td .ret h)) (c:Via E j ih (X.as tmps td .run h) (Ex ())) :
  Via E j ih (X.as tmps td .run h) (XW E j ih tmps h X Ex):=by
 unfold XW;split
 ·rename_i hr z;have m:=y hr;split
  ·rename_i fn n;split
   ·rename_i l p;have p:BF E (X.as tmps td .ret h).fr h fn.results.toList=some l:=(Ov (X.as tmps td .ret h).fr rfl _).symm.trans p
    have d:A4 E (X.as tmps td .ret h)=CC (X.as tmps td .ret h).fr X.cs (bD l) h:=by
     have e:A4 E (X.as tmps td .ret h)=D1 E (X.as tmps td .ret h).fr X.cs h:=rfl;rw [e];unfold D1;have q:(X.as tmps td .ret h).fr.defers=[]:=z;have s:(X.as tmps td .ret h).fr.mode=.ret:=rfl;have t:E.fn.get (X.as tmps td .ret h).fr.fn=some fn:=n;rw [q,s,t];simp only [p]
     match l with
     |[]=>rfl
     |[v]=>rfl
     |a::b::r=>rfl
    unfold Zw;split
    ·rename_i f nt tm todo A kd B cs u g;have i:(X.as tmps td .ret h).fr.kind=.normal:=u;rw [g] at d;simp only [CC,i] at d;split
     ·rename_i all o rest k;refine Qk fun C w=>.head m (Nat.le_refl _) (.one ?_ (Nat.le_refl _))
      rw [d];have w:El nt tm o.dst (bD l)=some C:=w;simp only [A3,w];rfl
     ·rename_i D k;refine Via.ih (.k (.endRange D::k) tm h ⟨f,nt,A,kd,B,cs⟩) (.head m (Nat.le_refl _) (.one ?_ (Nat.le_refl _)));rw [d];rfl
     ·exact c
    ·rename_i u g;have i:(X.as tmps td .ret h).fr.kind=.normal:=u;rw [g] at d;simp only [CC,i] at d;split
     ·rename_i F;intro x G;cases G;exact .inr ⟨X.as tmps td .ret h,.one m (Nat.le_refl _),d,rfl,AX F,hr,Nat.le_refl _⟩
     ·exact Via.none
    ·exact c
   ·exact Via.none
  ·exact Via.none
 ·exact c
theorem D5 {E:Env} {a:FuncId} {ih:QSt→R3} {c:Code} {k:List AI} {tmps:T AV} {h:Aa} {X:CX}:Via E a ih (X.as tmps (.code c::k) .run h) (Ln E a ih c k tmps h X):=Via.ih (.g _) (Cd.refl (X.as tmps (.code c::k) .run h))
theorem M6 {E:Env} {d:FuncId} {ih:QSt→R3} {c:Code} {k:List AI} {tmps:T AV} {h:Aa} {X:CX}:Via E d ih (X.as tmps (.code c::k) .run h) (WZ c E d ih k tmps h X):=by
 have le:=Nat.le_refl h.nx;cases c with
 |skip=>exact Via.ih (.k k tmps h X) (.one (by simp only [A4,CX.as,QSt.as]) le)
 |label l=>exact Via.ih (.k k tmps h X) (.one (by simp only [A4,CX.as,QSt.as]) le)
 |region id ops e=>
  cases e with
  |false=>exact Via.ih (.o ops.toList ops k tmps h X) (.one (by simp only [A4,CX.as,QSt.as]) le)
  |true=>exact D5
 |seq a b=>exact Via.ih (.c a (.code b::k) tmps h X) (.one (by simp only [A4,CX.as,QSt.as]) le)
 |cond c x y=>
  show Via E d ih _ (VT c x y E d ih k tmps h X);unfold VT;rw [A9];split
  ·rename_i b g;cases b with
   |true=>exact Via.ih (.c x k tmps h X) (.one (by simp only [A4,CX.as,QSt.as,g]) le)
   |false=>exact Via.ih (.c y k tmps h X) (.one (by simp only [A4,CX.as,QSt.as,g]) le)
  ·exact D5
 |block id b=>exact Via.ih (.c b (.inBlock id::k) tmps h X) (.one (by simp only [A4,CX.as,QSt.as]) le)
 |loop b=>exact Via.ih (.c b (.inLoop b::k) tmps h X) (.one (by simp only [A4,CX.as,QSt.as]) le)
 |scope b=>exact Via.ih (.c b (.inScope b::k) tmps h X) (.one (by simp only [A4,CX.as,QSt.as]) le)
 |rangeFunc f m a b=>exact D5
 |exit id=>
  show Via E d ih _ (W8 id E d ih k tmps h X);unfold W8;cases i:J2 id k with
  |none=>exact D5
  |some j=>exact Via.ih (.k j tmps h X) (.one (by simp only [A4,CX.as,QSt.as,i]) le)
 |goto l=>exact D5
 |ret=>exact Qx (fun hr=>by simp only [A4,CX.as,DH,hr]) D5
 |refuse w=>exact Via.none
theorem cJ {E:Env} {a:FuncId} {ih:QSt→R3} {k:List AI} {tmps:T AV} {h:Aa} {X:CX}:Via E a ih (X.as tmps k .run h) (kF E a ih k tmps h X):=by
 have le:=Nat.le_refl h.nx;unfold kF;split
 ·exact Qx (fun hr=>by simp only [A4,CX.as,DH,hr]) (Via.ih (.g _) (Cd.refl (X.as tmps [] .run h)))
 ·exact M6
 ·rename_i id k;exact Via.ih (.k k tmps h X) (.one (by simp only [A4,CX.as,QSt.as]) le)
 ·rename_i id k;exact Via.ih (.k k tmps h X) (.one (by simp only [A4,CX.as,QSt.as]) le)
 ·rename_i b k;exact Via.ih (.c b (.inLoop b::k) tmps h X) (.one (by simp only [A4,CX.as,QSt.as]) le)
 ·rename_i all l k;exact Via.ih (.o l all k tmps h X) (.refl (X.as tmps (.ops all l::k) .run h))
 ·exact Via.ih (.g _) (Cd.refl (X.as tmps k .run h))
theorem Cd.mono {E:Env} {s l:AS} (h:Cd E s l):s.h.nx≤l.h.nx:=by
 induction h with
 |refl s=>exact Nat.le_refl _
 |head h r k ih=>exact Nat.le_trans r ih
theorem Jm (ih:QSt→R3) (s:AS):∃st:QSt,st.as=s∧I1 ih s=ih st:=by
 obtain ⟨⟨fn,nt,tmps,todo,defers,mode,kind,round⟩,cs,h⟩:=s;cases mode with
 |run=>exact ⟨.k todo tmps h ⟨fn,nt,defers,kind,round,cs⟩,rfl,by simp only [I1,JF,Nx]⟩
 |ret=>exact ⟨.g ⟨⟨fn,nt,tmps,todo,defers,.ret,kind,round⟩,cs,h⟩,rfl,rfl⟩
 |panic a=>exact ⟨.g ⟨⟨fn,nt,tmps,todo,defers,.panic a,kind,round⟩,cs,h⟩,rfl,rfl⟩
theorem Tl {E:Env} {b:FuncId→Bool→QSt→R3} {d:Ask→Aa→R3} (n:Nat) (a:FuncId) (e:Bool) (st:QSt) (f:∀s,st≠.g s):Via E a (goB E b d n a e) st.as (goB E b d (n+1) a e st):=by
 cases st with
 |o l all td tmps h X=>exact Vk
 |c i td tmps h X=>exact M6
 |k td tmps h X=>exact cJ
 |g s=>exact absurd rfl (f s)
theorem Td {E:Env} {b:FuncId→Bool→QSt→R3} {a:Ask→Aa→R3} (n:Nat) (c:FuncId) (d:Bool) (s:AS):goB E b a (n+1) c d (.g s)=gen E c d (goB E b a n c d) a s:=rfl
end
section
variable [U:Unk]
theorem Ir {E:Env} {b:FuncId→Bool→QSt→R3} {j:Ask→Aa→R3} (l:∀a c st x,b a c st=some x→st.as.h.nx≤x.2.2.nx):∀(n:Nat) (a:FuncId) (c:Bool) (st:QSt) (x:Bool×AV×Aa),goB E b j n a c st=some x→st.as.h.nx≤x.2.2.nx
 |0,a,c,st,x,h=>l a c st x h
 |n+1,a,c,st,x,h=>by
  have d:∀s,I1 (goB E b j n a c) s=some x→s.h.nx≤x.2.2.nx:=by
   intro s q;obtain ⟨f,t,u⟩:=Jm (goB E b j n a c) s;rw [u] at q;rw [←t];exact Ir l n a c f x q
  by_cases r:∃s,st=.g s
  ·obtain ⟨s,rfl⟩:=r;rw [Td] at h;unfold gen at h;show s.h.nx≤_;split at h
   ·split at h
    ·rename_i i;exact Nat.le_trans (Nat.le_of_ble_eq_true i) (d _ h)
    ·cases h
   ·split at h
    ·split at h
     ·rename_i i;exact Nat.le_trans (Nat.le_of_ble_eq_true i) (d _ h)
     ·cases h
    ·split at h
     ·rename_i i;cases h;exact Nat.le_of_ble_eq_true (An (An i).1).1
     ·cases h
    ·rename_i y ops k m;obtain ⟨rfl,_,_⟩:=CI m;split at h
     ·rename_i o;exact Nat.le_trans (Cq _ _ _ _ _ _ _ (HP o)) (d _ h)
     ·rename_i o;exact Nat.le_trans (Cq _ _ _ _ _ _ _ (HP o)) (d _ h)
     ·cases h
    ·split at h
     ·split at h
      ·rename_i i;exact Nat.le_trans (Nat.le_of_ble_eq_true i) (d _ h)
      ·cases h
     ·cases h
  ·rcases Tl n a c st (fun s e=>r ⟨s,e⟩) x h with ⟨f,p,v⟩|⟨z,p,_,_,_,_,w⟩
   ·exact Nat.le_trans p.mono (Ir l n a c f x v)
   ·exact Nat.le_trans p.mono w
def BOK (E:Env) (b:FuncId→Bool→QSt→R3):Prop:=∀(i:FuncId) (j:Bool) (st:QSt) (e:Ren) (c:Frame) (a:List Frame) (w:World) (ok:Bool) (v:AV) (h:Aa),SR e st.as c a w→WF st.as.h→b i j st=some (ok,v,h)→AG e st.as.h.nx h.nx→
  ∀base:List Frame,∃f d k w1 g,Steps E.P (lone c (a++base) w) (lone d base w1)∧d.fn=i∧(j=false→d.roundOf=none)∧IM E.P d w1 ok k g∧VR f v k∧HR f h.blk.get g∧Ext e f st.as.h h w g
section
variable {E:Env} (hE:OK E) (hO:Ah E U.V.fn)
include hE
theorem Cd.ok {s s':AS} (k:Cd E s s') {ρ:Ren} {c:Frame} {r:List Frame} {w:World} (I:SR ρ s c r w) (l:AG ρ s.h.nx s'.h.nx) (base:List Frame) :
  ∃σ c' t w',Steps E.P (lone c (r++base) w) (lone c' (t++base) w')∧SR σ s' c' t w'∧Ext ρ σ s.h s'.h w w':=by
 induction k generalizing ρ c r w with
 |refl s=>exact ⟨ρ,c,r,w,Steps.refl _ _,I,Ext.refl _ _ _⟩
 |head h hn k ih=>
  have hm:=k.mono;obtain ⟨σ,c1,ab,w1,q1,q2,q3⟩:=Gx (base:=base) hE I h (fun b h1 h2=>l b h1 (by omega))
  obtain ⟨τ,c2,J,w2,r1,r2,r3⟩:=ih q2 (q3.free l);exact ⟨τ,c2,J,w2,Steps.trans (Steps.one q1) r1,r2,q3.trans r3 l⟩
include hO
theorem RE {b:FuncId→Bool→QSt→R3} {o:Ask→Aa→R3} (N:∀B A st x,b B A st=some x→st.as.h.nx≤x.2.2.nx) (T:BOK E b) (W:Db E o):∀(n:Nat) (B:FuncId) (A:Bool) (st:QSt) (I:Ren) (c:Frame) (r:List Frame) (w:World) (ok:Bool) (v:AV) (h:Aa),SR I st.as c r w→WF st.as.h→goB E b o n B A st=some (ok,v,h)→AG I st.as.h.nx h.nx→
  ∀base:List Frame,∃i o F w1 j,Steps E.P (lone c (r++base) w) (lone o base w1)∧o.fn=B∧(A=false→o.roundOf=none)∧IM E.P o w1 ok F j∧VR i v F∧HR i h.blk.get j∧Ext I i st.as.h h w j:=by
 intro n
 induction n with
 |zero=>exact T
 |succ n ih=>
  intro B A st I c r w ok v h m hwf l a base
  have O:∀(s t:AS) (i:Ren) (u:Frame) (d:List Frame) (w1:World),s=st.as→Steps E.P (lone c (r++base) w) (lone u (d++base) w1)→SR i t u d w1→Ext I i s.h t.h w w1→I1 (goB E b o n B A) t=some (ok,v,h)→
    ∃i o F w1 j,Steps E.P (lone c (r++base) w) (lone o base w1)∧o.fn=B∧(A=false→o.roundOf=none)∧IM E.P o w1 ok F j∧VR i v F∧HR i h.blk.get j∧Ext I i s.h h w j:=by
   intro s t i u d w1 es G K X h4;subst es;obtain ⟨C,Y,Z⟩:=Jm (goB E b o n B A) t;subst Y;rw [Z] at h4;obtain ⟨τ,o,F,w2,j,y,p,z,J,Q,L,q7⟩:=ih B A C i u d w1 ok v h K (X.wf hwf) h4 (X.free a) base;exact ⟨τ,o,F,w2,j,Steps.trans G y,p,z,J,Q,L,X.trans q7 a⟩
  have lt:∀t,I1 (goB E b o n B A) t=some (ok,v,h)→t.h.nx≤h.nx:=by
   intro t M;obtain ⟨C,Y,Z⟩:=Jm (goB E b o n B A) t;rw [Z] at M;rw [←Y];exact Ir N n B A C _ M
  have done:∀(s:AS) (i:Ren) (u:Frame) (d:List Frame) (w1:World) (ok:Bool) (v:AV) (h:Aa),A4 E s=.done ok v h→SR i s u d w1→s.fr.fn=B→(A=true∨s.fr.round=none)→
    d=[]∧∃F j,u.fn=B∧(A=false→u.roundOf=none)∧IM E.P u w1 ok F j∧VR i v F∧HR i h.blk.get j∧Ext i i s.h h w1 j:=by
   intro s i u d w1 ok v h D M aa ab;obtain ⟨e,x,j,y,p,z,J⟩:=HJ hE M D;refine ⟨e,x,j,M.fr.fn.trans aa,fun ac=>?_,J,y,p,z⟩
   rcases ab with q|q
   ·rw [ac] at q;cases q
   ·have:=M.fr.round;rw [q] at this;exact this.none_inv
  by_cases hg:∃s,st=.g s
  ·obtain ⟨s,rfl⟩:=hg;rw [Td] at l;unfold gen at l;have m:SR I s c r w:=m;have hwf:WF s.h:=hwf;have a:AG I s.h.nx h.nx:=a;split at l
   ·rename_i t R;split at l
    ·have f:=lt t l;obtain ⟨i,H,d,j,y,p,z⟩:=KY hE hO m hwf R (fun b G K=>a b G (by omega)) base
     exact O s t i H d j rfl y p z l
    ·cases l
   ·split at l
    ·rename_i t D;split at l
     ·have f:=lt t l;obtain ⟨i,H,d,j,y,p,z⟩:=Gx (base:=base) hE m D (fun b G K=>a b G (by omega))
      exact O s t i H d j rfl (Steps.one y) p z l
     ·cases l
    ·rename_i ad F h' D;split at l
     ·rename_i T;simp only [Option.some.injEq,Prod.mk.injEq] at l;obtain ⟨rfl,rfl,rfl⟩:=l;obtain ⟨b1,b2⟩:=An T
      obtain ⟨rfl,x,j,y,p,z,J,Q,L⟩:=done s I c r w _ _ _ D m (Ay (An b1).2) (by
       cases A with
       |true=>exact .inl rfl
       |false=>simp only [Bool.false_or,Option.isNone_iff_eq_none] at b2;exact .inr b2)
      exact ⟨I,c,x,w,j,Steps.refl _ _,y,p,z,J,Q,L⟩
     ·cases l
    ·rename_i s2 ops k D;obtain ⟨rfl,N,id,ht⟩:=CI D;split at l
     ·rename_i tmps G hd;have f:=lt _ l;obtain ⟨i,u,j,y,p,z⟩:=FN hE W m hwf N ht (HP hd) (fun b a1 a2=>a b a1 (Nat.lt_of_lt_of_le a2 f)) base
      exact O _ _ i u r j rfl y p z l
     ·rename_i v1 tmps G hd;have f:=lt _ l;obtain ⟨i,u,j,y,p,z⟩:=FN hE W m hwf N ht (HP hd) (fun b a1 a2=>a b a1 (Nat.lt_of_lt_of_le a2 f)) base
      exact O _ _ i u r j rfl y p z l
     ·cases l
    ·split at l
     ·rename_i t hl;split at l
      ·have f:=lt t l;obtain ⟨i,H,d,j,y,p,z⟩:=Qz hE hO W m hwf hl (fun b G K=>a b G (by omega)) base
       exact O s t i H d j rfl y p z l
      ·cases l
     ·cases l
  ·rcases Tl n B A st (fun s e=>hg ⟨s,e⟩) _ l with ⟨C,y,p⟩|⟨s1,y,p,z,J,Q,L⟩
   ·have f:=Ir N n B A C _ p;obtain ⟨i,u,d,w1,r1,r2,S⟩:=y.ok hE m (fun b G K=>a b G (by have:C.as.h.nx≤h.nx:=f;omega)) base
    obtain ⟨τ,o,F,w2,j,t1,t2,t3,t4,t5,t6,t7⟩:=ih B A C i u d w1 ok v h r2 (S.wf hwf) p (S.free a) base;exact ⟨τ,o,F,w2,j,Steps.trans r1 t1,t2,t3,t4,t5,t6,S.trans t7 a⟩
   ·have z:ok=true:=z;subst z;have L:s1.h.nx≤h.nx:=L;obtain ⟨i,u,d,w1,r1,r2,S⟩:=y.ok hE m (fun b G K=>a b G (by omega)) base
    obtain ⟨rfl,x,j,t1,t2,t3,t4,t5,t6⟩:=done s1 i u d w1 _ _ _ p r2 J (.inr Q);exact ⟨i,u,x,w1,j,r1,t1,t2,t3,t4,t5,S.trans t6 a⟩
theorem V5:∀L,Db E (cfN E L):=by
 intro L
 induction L with
 |zero=>exact ⟨fun _ _ _ _ _ _ _ _ _ _ _ _ h=>(by cases h),fun _ _ _ _ _ _ _ _ _ _ h=>(by cases h)⟩
 |succ L ih=>
  have s:∀(fr:AF) (g d:Aa) (ok:Bool) (v:AV) (e:Ren) (i:Frame) (w:World),FrR e fr i→HR e g.blk.get w→WF g→I1 (goB E noB (cfN E L) 1000000 fr.fn true) {fr,cs:=[],h:=g}=some (ok,v,d)→AG e g.nx d.nx→
    ∀(c0:Frame) (base:List Frame),∃j m k,BH E.P (lone i (c0::base) w) c0 base ok m k∧VR j v m∧HR j d.blk.get k∧Ext e j g d w k:=by
   intro fr g d ok v e i w c hr hwf b a c0 base;obtain ⟨o,n,x⟩:=Jm (goB E noB (cfN E L) 1000000 fr.fn true) {fr,cs:=[],h:=g};rw [x] at b;obtain ⟨j,y,m,w1,k,z,D,F,A,B,C,t⟩:=RE hE hO (fun _ _ _ _ h=>by cases h) (fun _ _ _ _ _ _ _ _ _ _ _ _ h=>by cases h) ih 1000000 fr.fn true o e i [] w ok v d (by rw [n];exact ⟨c,.nil,hr⟩) (by rw [n];exact hwf) b (by rw [n];exact a) (c0::base)
   rw [n] at t;refine ⟨j,m,k,?_,B,C,t⟩;have:=Steps.trans z (Steps.one (A.back c0 base));cases ok<;>exact this
  show Db E (Tb E (goB E noB (cfN E L) 1000000));refine ⟨?_,?_⟩
  ·intro G args p g d ok v e w u hr hwf b a;simp only [Tb] at b;split at b
   ·rename_i r f;cases b;exact Ei hE hO f u hr hwf a
   ·split at b
    ·rename_i fr c;exact s fr g d ok v e _ w (B2 hE c u) hr hwf b a
    ·cases b
  ·intro l args g d ok v e w hr hwf b a;simp only [Tb] at b;split at b
   ·rename_i fr c;exact ⟨fr,c,fun i q=>s fr g d ok v e i w q hr hwf b a⟩
   ·cases b
end
end
theorem Orc.validB {E:Env} (hE:∀[U:Unk],U.K=(Env.of E.P).kinds→OK E) {G:Nat→D→D} (hO:Ah E G) {b:[Facts]→FuncId→Bool→QSt→R3} (hm:∀[F:Facts] f0 rd st x,b f0 rd st=some x→st.as.h.nx≤x.2.2.nx) (hb:∀[U:Unk],U.K=(Env.of E.P).kinds→U.V.fn=G→BOK E b) {N:Nat} {e:Orc} (h:∀[F:Facts],Hn E b N e=true):e.Valid E.P G:=by
 intro U hK hG ρ w J ha hr hwf r c0 base;have hE:=hE hK;have ab:=hb hK hG;subst hG;have t:=h (F:=U.toFacts);unfold Hn at t;split at t
 ·rename_i ok v g l;simp only [Bool.and_eq_true,beq_iff_eq] at t;obtain ⟨⟨⟨⟨h1,h2⟩,h3⟩,h4⟩,h5⟩:=t;have e4:=Nat.eq_of_beq_eq_true h4;unfold VG at l;split at l
  ·rename_i fr al;obtain ⟨an,I,s2⟩:=Jm (goB E b (cfN E 40) N e.f false) {fr,cs:=[],h:={blk:=e.part,nx:=e.nx,log:=[]}};rw [s2] at l;obtain ⟨σ,cf,v',w1,w',q1,q2,q3,q4,q5,q6,q7⟩:=RE hE hO hm ab (V5 hE hO 40) N e.f false an ρ _ [] w ok v g (by rw [I];exact ⟨B2 hE al ha,.nil,hr⟩) (by rw [I];exact hwf) l (by rw [I];show AG ρ e.nx g.nx;rw [e4];exact r) (c0::base)
   rw [I] at q7;refine ⟨σ,v',w',g,?_,Dr _ _ h2▸q5,q6,q7,C3 h3,e4,K2 h5⟩;rw [←h1];have:=Steps.trans q1 (Steps.one (q4.back c0 base));cases ok<;>exact this
  ·cases l
 ·cases t
theorem Orc.validG {E:Env} (hE:∀[U:Unk],U.K=(Env.of E.P).kinds→OK E) {G:Nat→D→D} (hO:Ah E G) {N:Nat} {e:Orc} (h:∀[F:Facts],Dj E N e=true):e.Valid E.P G:=
 Orc.validB hE hO (b:=noB) (fun _ _ _ _ h=>by cases h) (fun _ _ _ _ _ _ _ _ _ _ _ _ _ _ h=>by cases h) h
end Go.AE
namespace Go.AE
variable [Gl:AH]
variable [U:Unk]
def U2 (x:Func):Bool:=!(x.name == "runtime.NumGoroutine")&&(x.body.isSome||(!(x.name == "maps.clone") && !(x.name == "internal/bytealg.IndexByteString") && !(x.name == "internal/bytealg.CountString"))||(Extern.allNextRows.lookup x.origin).isNone)
theorem Us:Extern.allNextRows.lookup "maps.clone" = none:=by kernel_rfl
theorem Vq:Extern.allGenericRows.lookup "maps.clone" = none:=by kernel_rfl
theorem RF:Extern.allTypedRows.lookup "maps.clone" = none:=by kernel_rfl
theorem Xa:Extern.allRows.lookup "maps.clone" = some Extern.MapsClone.clone:=by kernel_rfl
theorem YC:Extern.allNextRows.lookup "internal/bytealg.IndexByteString" = none:=by kernel_rfl
theorem bz:Extern.allGenericRows.lookup "internal/bytealg.IndexByteString" = none:=by kernel_rfl
theorem Wp:Extern.allTypedRows.lookup "internal/bytealg.IndexByteString" = none:=by kernel_rfl
theorem cp:Extern.allRows.lookup "internal/bytealg.IndexByteString" = some Extern.BytealgIndexByte.indexByte:=by kernel_rfl
theorem Zk:Extern.allNextRows.lookup "internal/bytealg.CountString" = none:=by kernel_rfl
theorem cB:Extern.allGenericRows.lookup "internal/bytealg.CountString" = none:=by kernel_rfl
theorem XK:Extern.allTypedRows.lookup "internal/bytealg.CountString" = none:=by kernel_rfl
theorem aS:Extern.allRows.lookup "internal/bytealg.CountString" = some Extern.BytealgCount.count:=by kernel_rfl
omit U in
theorem EP {x:Func} {n:String} (hn:x.name=n) (h1:Extern.allNextRows.lookup n=none) (h2:Extern.allNextRows.lookup x.origin=none):Extern.findNext x=none:=by
 show ((Extern.allNextRows.lookup x.name).map (· x.params x.resultTypes) <|> (Extern.allNextRows.lookup x.origin).map (· x.params x.resultTypes))=none
 rw [hn,h1,h2];rfl
omit U in
theorem JK {x:Func} {n:String} {g:Array Value→Sem Value} (hn:x.name=n) (h1:Extern.allGenericRows.lookup n=none) (h2:Extern.allTypedRows.lookup n=none) (h3:Extern.allRows.lookup n=some g):Extern.find x=some g:=by
 show (((Extern.allGenericRows.lookup x.name).map (· x.targs x.params x.resultTypes) <|> (Extern.allTypedRows.lookup x.name).map (· x.params x.resultTypes) <|> Extern.allRows.lookup x.name) <|> ((Extern.allGenericRows.lookup x.origin).map (· x.targs x.params x.resultTypes) <|> (Extern.allTypedRows.lookup x.origin).map (· x.params x.resultTypes) <|> Extern.allRows.lookup x.origin))=some g
 rw [hn,h1,h2,h3];rfl
omit U in
theorem Iw:∀(l:List Orc) (f:Nat) (x:List Orc),(U9 l).get f=some x→∀e∈x,e∈l
 |[],f,x,h=>by rw [U9,T.get_nil] at h;cases h
 |a::l,f,x,h=>by
  unfold U9 ZF at h;intro e he;cases hq:(U9 l).get a.f with
  |none=>
   rw [hq] at h;simp only [T.get_set] at h;split at h
   ·cases h;simp only [List.mem_singleton] at he;subst he;exact List.mem_cons_self
   ·exact List.mem_cons_of_mem _ (Iw l f x h e he)
  |some y=>
   rw [hq] at h;simp only [T.get_set] at h;split at h
   ·cases h;rcases List.mem_cons.1 he with q|q
    ·rw [q];exact List.mem_cons_self
    ·exact List.mem_cons_of_mem _ (Iw l a.f y hq e q)
   ·exact List.mem_cons_of_mem _ (Iw l f x h e he)
theorem OK.of {P:Program} {l:List Orc} {m:List Sm} (hm:P.follows .mixedOrders=true) (hc:P.funcs.toList.all U2=true) (hk:U.K=(Env.of P).kinds):OK (Env.ofS P l m):=by
 have I:∀f x,(Env.ofS P l m).fn.get f=some x→P.funcs[f]?=some x:=by
  intro f x h;rw [Env.ofS,T.get_ofList] at h;simpa using h
 have r:∀f x,(Env.ofS P l m).fn.get f=some x→U2 x=true:=by
  intro f x h;have:=I f x h
  exact List.all_eq_true.1 hc x (by
   have h2:P.funcs.toList[f]?=some x:=by simpa using this
   exact List.mem_of_getElem? h2)
 refine ⟨fun t i h=>?_,I,fun f x h=>?_,fun f x h J hn=>?_,fun f x h J hn=>?_,fun f x h J hn=>?_,hm,hk,rfl,rfl,fun f x h=>Iw l f x h⟩
 ·rw [Env.ofS,T.get_ofList] at h;have h2:P.types[t]?=some i:=by simpa using h
  have ab:t<P.types.size:=(Array.getElem?_eq_some_iff.1 h2).1;show P.info? t=some i;simp only [Tables.info?,if_pos ab];exact h2
 ·have:=r f x h;simp only [U2,Bool.and_eq_true,Bool.not_eq_true'] at this;exact this.1
 ·have q:=r f x h;have ho:Extern.allNextRows.lookup x.origin=none:=by simpa [U2,J,hn] using q
  exact ⟨EP hn Us ho,JK hn Vq RF Xa⟩
 ·have q:=r f x h;have ho:Extern.allNextRows.lookup x.origin=none:=by simpa [U2,J,hn] using q
  exact ⟨EP hn YC ho,JK hn bz Wp cp⟩
 ·have q:=r f x h;have ho:Extern.allNextRows.lookup x.origin=none:=by simpa [U2,J,hn] using q
  exact ⟨EP hn Zk ho,JK hn cB XK aS⟩
theorem Ah.none {P:Program} {F:Nat→D→D}:Ah (Env.ofO P []) F:=⟨fun e he=>(by cases he),fun e he=>(by cases he)⟩
theorem Ah.add {P:Program} {l:List Orc} {m:List Sm} {e:Orc} {N:Nat} (hE:∀[U:Unk],U.K=(Env.of P).kinds→OK (Env.ofS P l m)) {G:Nat→D→D} (hO:Ah (Env.ofS P l m) G) (h:∀[F:Facts],R9 (Env.ofS P l m) N e=true):Ah (Env.ofS P (e::l) m) G:=by
 refine ⟨fun x r=>?_,hO.sms⟩
 rcases List.mem_cons.1 r with rfl|r
 ·exact Orc.valid (E:=Env.ofS P l m) hE hO h
 ·exact hO.orc x r
theorem Ah.cons {P:Program} {l:List Orc} {m:List Sm} {e:Orc} {G:Nat→D→D} (h:e.Valid P G) (hO:Ah (Env.ofS P l m) G):Ah (Env.ofS P (e::l) m) G:=
 ⟨fun x r=>(List.mem_cons.1 r).elim (fun q=>q▸h) (fun q=>hO.orc x q),hO.sms⟩
theorem Ah.val {P:Program} {l:List Orc} {e:Orc} {N:Nat} (hE:∀[U:Unk],U.K=(Env.of P).kinds→OK (Env.ofS P l [])) {G:Nat→D→D} (hO:Ah (Env.ofS P l []) G) (h:∀[F:Facts],Dj (Env.ofS P l []) N e=true):e.Valid P G:=
 Orc.validG (E:=Env.ofS P l []) hE hO h
end Go.AE
namespace Go.AE
variable [Gl:AH]
abbrev iN (n:Nat):AV:=.int .i64 (.ofNat n)
abbrev pN (b:Nat):AV:=.ptr b 0
abbrev ceL (n:Nat) (a:List (List AV)):Ag:=.cells n (T.ofList a.flatten)
structure Cor where
 f:FuncId
 nt:Nat
 td:List AI
 tmps:T AV
 part:T Ag
 nx:Nat
 ok:Bool
 v:AV
 out:T Ag
 nx':Nat
 wr:List Nat
def Cor.heap (K:Cor):Aa:={blk:=K.part,nx:=K.nx,log:=[]}
def Cor.cx (K:Cor):CX:=⟨K.f,K.nt,[],.normal,none,[]⟩
def Cor.st (K:Cor):QSt:=.k K.td.tail K.tmps K.heap K.cx
def Yn:List AI→List AI→Bool
 |[],[]=>true
 |a::r,b::s=>VN a b&&Yn r s
 |_,_=>false
def R1 (K:Cor) (X:CX):Bool:=Nat.beq X.fn K.f&&Nat.beq X.nt K.nt&&X.defers.isEmpty&&X.round.isNone&&X.cs.isEmpty&&(match X.kind with|.normal=>true|_=>false)
def Cor.base (K:Cor):FuncId→Bool→QSt→R3:=fun f l st=>match st with
 |.k td tmps h X=>match !l&&Nat.beq f K.f&&R1 K X&&Nat.beq h.nx K.nx&&Nat.ble K.nx K.nx'&&Yn td K.td.tail&&HW K.tmps tmps&&MN K.part h.blk with
  |true=>some (K.ok,K.v,AU h {blk:=K.out,nx:=K.nx',log:=K.wr})
  |false=>none
 |_=>none
section
variable [U:Facts]
def HE (E:Env) (b:FuncId→Bool→QSt→R3) (N:Nat) (K:Cor):Bool:=
 match goB E b (cfN E 40) N K.f false K.st with
 |some (ok,v,g)=>(ok==K.ok)&&Bs v K.v&&MN K.out g.blk&&Nat.beq g.nx K.nx'&&UR K.nx K.wr g.log
 |none=>false
end
def Cor.Valid (P:Program) (F:Nat→D→D) (K:Cor):Prop:=
 ∀[U:Unk],U.K=(Env.of P).kinds→U.V.fn=F→∀(r:Ren) (c:Frame) (w:World),SR r K.st.as c [] w→WF K.heap→AG r K.nx K.nx'→
  ∀base:List Frame,∃t l J w1 I g,Steps P (lone c base w) (lone l base w1)∧l.fn=K.f∧l.roundOf=none∧IM P l w1 K.ok J I∧VR t K.v J∧HR t g.blk.get I∧
   Ext r t K.heap g w I∧(∀b x,K.out.get b=some x→g.blk.get b=some x)∧g.nx=K.nx'∧(∀b∈g.log,b<K.nx→b∈K.wr)
theorem TF:∀{a b:List AI},Yn a b=true→a=b
 |[],[],_=>rfl
 |a::r,b::s,h=>by
  simp only [Yn,Bool.and_eq_true] at h;rw [T1 h.1,TF h.2]
 |[],_::_,h=>by cases h
 |_::_,[],h=>by cases h
theorem UT {K:Cor} {X:CX} (h:R1 K X=true):X=K.cx:=by
 unfold R1 at h;simp only [Bool.and_eq_true] at h;obtain ⟨⟨⟨⟨⟨b,c⟩,d⟩,e⟩,g⟩,a⟩:=h;obtain ⟨fn,nt,i,kind,round,cs⟩:=X;have j:fn=K.f:=Nat.eq_of_beq_eq_true b;have k:nt=K.nt:=Nat.eq_of_beq_eq_true c;have l:i=[]:=by simpa using d
 have m:round=none:=by simpa using e
 have n:cs=[]:=by simpa using g
 have o:kind=.normal:=by
  simp only at a;split at a
  ·rfl
  ·cases a
 subst j k l m n o;rfl
theorem Cor.base_mono (K:Cor):∀l r st x,K.base l r st=some x→st.as.h.nx≤x.2.2.nx:=by
 intro l r st x h;unfold Cor.base at h;split at h
 ·rename_i td tmps I X;split at h
  ·rename_i t;cases h;simp only [Bool.and_eq_true] at t;obtain ⟨⟨⟨⟨⟨_,J⟩,h5⟩,_⟩,_⟩,_⟩:=t;have e4:=Nat.eq_of_beq_eq_true J;have e5:=Nat.le_of_ble_eq_true h5;show I.nx≤K.nx';omega
  ·cases h
 ·cases h
theorem Cor.base_ok {E:Env} {K:Cor} {F:Nat→D→D} (hv:K.Valid E.P F) [U:Unk] (hK:U.K=(Env.of E.P).kinds) (hF:U.V.fn=F):BOK E K.base:=by
 intro f0 rd st ρ c ab w ok v h t hwf r I base;unfold Cor.base at r;split at r
 ·rename_i td tmps J X;split at r
  ·rename_i hb;cases r;simp only [Bool.and_eq_true,Bool.not_eq_true'] at hb;obtain ⟨⟨⟨⟨⟨⟨⟨h1,h2⟩,h3⟩,h4⟩,h5⟩,h6⟩,h7⟩,h8⟩:=hb;have e2:f0=K.f:=Nat.eq_of_beq_eq_true h2;have e3:=UT h3;have e4:J.nx=K.nx:=Nat.eq_of_beq_eq_true h4;have e6:=TF h6;subst e3 e6
   have al:ab=[]:=by
    have:=t.cs;generalize hq:((QSt.k K.td tmps J K.cx).as).cs=q at this;have hq:[]=q:=hq;subst hq;cases this;rfl
   subst al;have hwf:WF J:=hwf
   have an:FrR ρ K.st.as.fr c:=by
    have q:=t.fr;exact ⟨q.fn,⟨q.tm.size,fun i x r=>q.tm.get i x (Fh h7 i x r)⟩,q.todo,q.defers,q.mode,q.kind,q.round⟩
   have hr:HR ρ J.blk.get w:=t.h
   have ar:WF K.heap:=fun b hb=>by
    show K.part.get b=none;cases hp:K.part.get b with
    |none=>rfl
    |some x=>
     have q:=C3 h8 b x hp;rw [hwf b (by rw [e4];exact hb)] at q
     cases q
   have l:AG ρ J.nx K.nx':=I;obtain ⟨σ,cf,v',w1,w',g,q1,q2,q3,q4,q5,q6,q7,q8,q9,av⟩:=hv hK hF ρ c w ⟨an,.nil,hr.weaken (fun b x _ r=>C3 h8 b x r)⟩ ar (by rw [←e4];exact l) base
   have q7:Ext ρ σ {blk:=K.part,nx:=J.nx,log:=[]} g w w':=by rw [e4];exact q7
   obtain ⟨m1,m2⟩:=LQ hr hwf (C3 h8) l q6 q7 q8 q9 (by rw [e4];exact av)
   exact ⟨σ,cf,v',w1,w',q1,q2.trans e2.symm,fun _=>q3,q4,q5,m1,m2⟩
  ·cases r
 ·cases r
theorem Cor.valid {P:Program} {l:List Orc} {K:Cor} {N:Nat} {G:Nat→D→D} {b:FuncId→Bool→QSt→R3} (hE:∀[U:Unk],U.K=(Env.of P).kinds→OK (Env.ofS P l [])) (hO:Ah (Env.ofS P l []) G)
  (hm:∀f0 rd st x,b f0 rd st=some x→st.as.h.nx≤x.2.2.nx) (hb:∀[U:Unk],U.K=(Env.of P).kinds→U.V.fn=G→BOK (Env.ofS P l []) b) (h:∀[F:Facts],HE (Env.ofS P l []) b N K=true):K.Valid P G:=by
 intro U hK hG ρ c w J hwf r base;have hE:=hE hK;have ab:=hb hK hG;subst hG;have I:=h (F:=U.toFacts);unfold HE at I;split at I
 ·rename_i ok v g t;simp only [Bool.and_eq_true,beq_iff_eq] at I;obtain ⟨⟨⟨⟨h1,h2⟩,h3⟩,h4⟩,h5⟩:=I;have e4:=Nat.eq_of_beq_eq_true h4;obtain ⟨σ,cf,v',w1,w',q1,q2,q3,q4,q5,q6,q7⟩:=RE hE hO hm ab (V5 hE hO 40) N K.f false K.st ρ c [] w ok v g J hwf t (by show AG ρ K.nx g.nx;rw [e4];exact r) base
  exact ⟨σ,cf,v',w1,w',g,q1,q2,q3 rfl,h1▸q4,Dr _ _ h2▸q5,q6,q7,C3 h3,e4,K2 h5⟩
 ·cases I
theorem Cor.last {P:Program} {l:List Orc} {K:Cor} {N:Nat} {G:Nat→D→D} (hE:∀[U:Unk],U.K=(Env.of P).kinds→OK (Env.ofS P l [])) (hO:Ah (Env.ofS P l []) G) (h:∀[F:Facts],HE (Env.ofS P l []) noB N K=true):K.Valid P G:=
 Cor.valid hE hO (b:=noB) (fun _ _ _ _ h=>by cases h) (fun _ _ _ _ _ _ _ _ _ _ _ _ _ _ h=>by cases h) h
theorem Cor.next {P:Program} {l:List Orc} {K r:Cor} {N:Nat} {G:Nat→D→D} (hE:∀[U:Unk],U.K=(Env.of P).kinds→OK (Env.ofS P l [])) (hO:Ah (Env.ofS P l []) G) (t:r.Valid P G) (h:∀[F:Facts],HE (Env.ofS P l []) r.base N K=true):K.Valid P G:=
 Cor.valid hE hO r.base_mono (fun hK I=>Cor.base_ok (E:=Env.ofS P l []) t hK I) h
theorem Orc.first {P:Program} {l:List Orc} {e:Orc} {r:Cor} {N:Nat} {G:Nat→D→D} (hE:∀[U:Unk],U.K=(Env.of P).kinds→OK (Env.ofS P l [])) (hO:Ah (Env.ofS P l []) G) (t:r.Valid P G) (h:∀[F:Facts],Hn (Env.ofS P l []) r.base N e=true):e.Valid P G:=
 Orc.validB (E:=Env.ofS P l []) hE hO r.base_mono (fun hK I=>Cor.base_ok (E:=Env.ofS P l []) t hK I) h
end Go.AE

