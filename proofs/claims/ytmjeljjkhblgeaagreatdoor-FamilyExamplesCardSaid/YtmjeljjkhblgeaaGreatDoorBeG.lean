/- What is proved here: an evaluator of the model's steps that the kernel can run, and that whatever it answers is what the model does (part 7 of 8: AeLoop, AeRun4, AeQuick, AeFast, AeOK, AeTop). Conditions: those that each theorem states; they hold of no one program. -/
import Derived.Test.YtmjeljjkhblgeaaGreatDoorBeF
import Derived.Eval
import Derived.KernelRfl
import Derived.Carry
import Derived.Handed
set_option linter.unusedVariables false
set_option linter.unusedSectionVars false
set_option linter.unusedSimpArgs false
namespace Go.AE
variable [Gl:Au]
section
variable [U:Vals]
theorem blT {a b:Nat} (h:Nat.blt a b=true):a<b:=Nat.le_of_ble_eq_true h
theorem T.allA_get {α:Type} {p:α→Bool}:∀{t:T α},t.allA p=true→∀i x,t.get i=some x→p x=true
 |.nil,_,i,x,hx=>by rw [T.get_nil] at hx;cases hx
 |.node v l r,h,i,x,hx=>by
  simp only [T.allA,Bool.and_eq_true] at h;obtain ⟨h1,h2,h3⟩:=h;by_cases e:i=0
  ·rw [T.get_zero _ _ _ e] at hx;subst hx;exact h1
  ·by_cases o:i%2=1
   ·rw [T.get_odd _ _ _ o] at hx;exact T.allA_get h2 _ x hx
   ·rw [T.get_even _ _ _ (by omega) e] at hx;exact T.allA_get h3 _ x hx
theorem CE {n:Nat}:∀{l:List AV},D8 n l=true→∀(i:Nat) (a:AV),l[i]?=some a→Fw n a=true
 |[],_,i,a,h=>by simp at h
 |x::l,h,i,a,ha=>by
  simp only [D8,Bool.and_eq_true] at h;cases i with
  |zero=>simp only [List.getElem?_cons_zero,Option.some.injEq] at ha;subst ha;exact h.1
  |succ i=>exact CE h.2 i a (by simpa using ha)
def Ren.cut (τ:Ren) (nx N:Nat):Ren:=⟨fun b=>if nx≤b∧b<N then none else τ b,τ.imm⟩
theorem Ren.cut_lt {τ:Ren} {nx N b:Nat} (h:b<nx):(τ.cut nx N) b=τ b:=if_neg (by omega)
theorem Ren.cut_some {τ:Ren} {nx N b:Nat} {x:Bf} (h:(τ.cut nx N) b=some x):τ b=some x:=by
 unfold Ren.cut at h;simp only at h;split at h
 ·cases h
 ·exact h
theorem Ren.le_cut {σ τ:Ren} {nx N:Nat} (h:σ.le τ) (hf:Ax σ nx N):σ.le (τ.cut nx N):=by
 refine ⟨fun b x hb=>?_,h.imm⟩
 unfold Ren.cut;simp only;split
 ·rename_i q;rw [hf b q.1 q.2] at hb;cases hb
 ·exact h.m b x hb
theorem Ren.cut_free (τ:Ren) (nx N:Nat):Ax (τ.cut nx N) nx N:=fun b h1 h2=>if_pos ⟨h1,h2⟩
theorem FnR.cut {τ:Ren} {nx N:Nat} {f g:Fn} (h:FnR τ f g) (k:Zr nx f=true):FnR (τ.cut nx N) f g:=by
 cases f<;>simp only [FnR] at h ⊢<;>first|exact h|skip
 obtain ⟨x,h1,h2⟩:=h;exact ⟨x,(Ren.cut_lt (blT k)).trans h1,h2⟩
theorem VR.cut {τ:Ren} {nx N:Nat} {a:AV} {v:Value} (h:VR τ a v) (hk:Fw nx a=true):VR (τ.cut nx N) a v:=by
 have at':∀{b:Nat} {x:Bf},τ b=some x→Nat.blt b nx=true→(τ.cut nx N) b=some x:=fun h k=>(Ren.cut_lt (blT k)).trans h
 induction h with
 |top v=>exact .top v
 |bool b=>exact .bool b
 |int k n=>exact .int k n
 |str s=>exact .str s
 |ptr0=>exact .ptr0
 |ptr b off base h=>exact .ptr b off base (at' h hk)
 |slice0=>exact .slice0
 |slice b off n es cap base h hc hz=>exact .slice b off n es cap base (at' h hk) hc hz
 |sliceEnd b off es a=>exact .sliceEnd b off es a
 |map0=>exact .map0
 |map b base h=>exact .map b base (at' h hk)
 |func fn fn' f c f' c' h h1 h2 h3 h4 ih2 ih4=>
  simp only [Fw,Bool.and_eq_true] at hk;exact .func fn fn' f c f' c' (h.cut hk.1) h1 (fun i a v ha hv=>ih2 i a v ha hv (CE hk.2.1 i a ha)) h3 (fun i a v ha hv=>ih4 i a v ha hv (CE hk.2.2 i a ha))
 |nilFunc=>exact .nilFunc
 |iface t a v h ih=>exact .iface t a v (ih hk)
 |nilIface=>exact .nilIface
 |agg l l' h1 h2 ih=>exact .agg l l' h1 (fun i a v ha hv=>ih i a v ha hv (CE hk i a ha))
 |tuple l l' h1 h2 ih=>exact .tuple l l' h1 (fun i a v ha hv=>ih i a v ha hv (CE hk i a ha))
 |sb pos e=>exact .sb pos e
 |si k e=>exact .si k e
 |ss x=>exact .ss x
 |dat e x a n c h=>exact .dat e x a n c h
 |dptr e x i off b o n cap ks h hk' h0 hi ho=>exact .dptr e x i off b o n cap ks h hk' h0 hi ho
 |asl b es n nl cap base h h0 hc hz hn=>exact .asl b es n nl cap base (at' h hk) h0 hc hz hn
 |aslEnd b es n nl a h0 hn=>exact .aslEnd b es n nl a h0 hn
 |eslc nl a hn=>exact .eslc nl a hn
 |aptr b es i off base h h0=>exact .aptr b es i off base (at' h hk) h0
 |nmap b nl base h hn=>exact .nmap b nl base (at' h hk) hn
 |nmap0 b nl hn=>exact .nmap0 b nl hn
 |stamp b base h=>exact .stamp b base (at' h hk)
 |glob g off=>exact .glob g off
theorem VL.cut {τ:Ren} {nx N:Nat} {l:List AV} {l':List Value} (h:VL τ l l') (k:D8 nx l=true):VL (τ.cut nx N) l l':=
 ⟨h.1,fun i a v ha hv=>(h.2 i a v ha hv).cut (CE k i a ha)⟩
theorem TR.cut {τ:Ren} {nx N nt:Nat} {t:T AV} {a:Array Value} (h:TR τ nt t a) (k:t.allA (Fw nx)=true):TR (τ.cut nx N) nt t a:=
 ⟨h.size,fun i x hx=>(h.get i x hx).cut (T.allA_get k i x hx)⟩
theorem ER.cut {τ:Ren} {nx N:Nat}:∀{l:List Ak} {l':List MapEntry},ER τ l l'→Vp nx l=true→ER (τ.cut nx N) l l'
 |[],[],_,_=>trivial
 |_::_,_::_,⟨h1,h2,h3,h4⟩,k=>by
  simp only [Vp,Bool.and_eq_true] at k;exact ⟨h1.cut k.1,h2.cut k.2.1,h3,h4.cut k.2.2⟩
 |[],_::_,h,_=>h.elim
 |_::_,[],h,_=>h.elim
theorem DL.cut {τ:Ren} {nx N:Nat}:∀{l:List AD} {l':List Deferred},DL τ l l'→UC nx l=true→DL (τ.cut nx N) l l'
 |[],[],_,_=>trivial
 |d::_,_::_,⟨h1,h2⟩,k=>by
  simp only [UC,Bool.and_eq_true] at k;refine ⟨?_,h2.cut k.2.2.2⟩;unfold DR at *;cases hf:d.fn with
  |none=>
   rw [hf] at h1 k;obtain ⟨base,h3,h4⟩:=h1;exact ⟨base,(Ren.cut_lt (blT k.1)).trans h3,h4⟩
  |some fn=>
   rw [hf] at h1 k;obtain ⟨fn',c',a',h3,h4,h5,h6⟩:=h1;exact ⟨fn',c',a',h3.cut k.1,h4.cut k.2.1,h5.cut k.2.2.1,h6⟩
 |[],_::_,h,_=>h.elim
 |_::_,[],h,_=>h.elim
theorem BR.cut {τ:Ren} {nx N:Nat} {x:Ac} {base:Bf} {o:Option Obj} (h:BR τ x base o) (k:QF nx x=true):BR (τ.cut nx N) x base o:=by
 cases x with
 |cells n c=>
  obtain ⟨cur,e,fz,h1,h2,h3,h4,h5⟩:=h;exact ⟨cur,e,fz,h1,h2,h3,h4,fun i a hi ha=>let ⟨v,hv,hr⟩:=h5 i a hi ha;⟨v,hv,hr.cut (T.allA_get k i a ha)⟩⟩
 |arr e x=>exact h
 |map es clock=>obtain ⟨es',h1,h2⟩:=h;exact ⟨es',h1,h2.cut k⟩
 |dmap kt vt x=>exact h
 |dmapS kt vt x n b=>obtain ⟨kks,vks,es',c,h1,h2,h3,h4,h5,bs,h6,h7⟩:=h;exact ⟨kks,vks,es',c,h1,h2,h3,h4,h5,bs,(Ren.cut_lt (blT k)).trans h6,h7⟩
 |loop st pending fn nt tmps params assign body d=>
  simp only [QF,Bool.and_eq_true] at k;obtain ⟨tm,bd,h1,h2,h3⟩:=h;exact ⟨tm,bd,(Ren.cut_lt (blT k.1)).trans h1,h2.cut k.2,h3⟩
 |deferred ds=>cases ds with
  |none=>exact h
  |some l=>obtain ⟨l',h1,h2⟩:=h;exact ⟨l',h1.cut k,h2⟩
 |mapIter m since seen last=>cases m with
  |none=>exact h
  |some b=>obtain ⟨h0,bm,h1,h2⟩:=h;exact ⟨h0,bm,(Ren.cut_lt (blT k)).trans h1,h2⟩
 |strIter l b pos=>exact h
theorem HR.cut {τ:Ren} {nx N:Nat} {g:Nat→Option Ac} {w:World} (h:HR τ g w) (k:∀b x,g b=some x→QF nx x=true):HR (τ.cut nx N) g w:=
 ⟨fun b base hb=>h.lt b base (Ren.cut_some hb),fun b base x hb hx=>(h.blk b base x (Ren.cut_some hb) hx).cut (k b x hx),
  fun b b' base base' hne hb hb' h1 h2=>h.apart b b' base base' hne (Ren.cut_some hb) (Ren.cut_some hb') h1 h2,h.imm,fun k' arr b base hk hb hl=>h.off k' arr b base hk (Ren.cut_some hb) hl,h.glob⟩
structure Ex0 (ρ σ:Ren) (h h':Aa) (w w':World):Prop where
 le:ρ.le σ
 nx:h.nx≤h'.nx
 new:∀b base,σ b=some base→ρ b=some base∨(h.nx≤b∧b<h'.nx∧(w.heap.size≤base.cb∨∃b0 base0,ρ b0=some base0∧h.blk.get b0≠none∧base0.cb=base.cb))
 calm:Fq w w'
 kept:∀k,k<w.heap.size→(∀b base,ρ b=some base→h.blk.get b≠none→base.cb≠k)→w'.heap[k]?=w.heap[k]?
 live:∀b,h'.blk.get b≠none→h.blk.get b≠none∨(h.nx≤b∧b<h'.nx)
 imm:∀k arr,σ.imm k=some arr→ρ.imm k=some arr∨w.heap.size≤k∨∃b0 base0,ρ b0=some base0∧h.blk.get b0≠none∧base0.cb=k
theorem Ext.ex {ρ σ:Ren} {h h':Aa} {w w':World} (e:Ext ρ σ h h' w w'):Ex0 ρ σ h h' w w':=⟨e.le,e.nx,e.new,e.calm,e.kept,e.live,e.imm⟩
theorem Ex0.ext {ρ σ:Ren} {h h':Aa} {w w':World} (e:Ex0 ρ σ h h' w w') (l:∃l,h'.log=l++h.log∧∀b,b∉l→(b<h.nx∨h'.nx≤b)→h'.blk.get b=h.blk.get b):Ext ρ σ h h' w w':=⟨e.le,e.nx,e.new,e.calm,e.kept,l,e.live,e.imm⟩
theorem Ex0.full {ρ σ:Ren} {h h':Aa} {w w':World} (e:Ex0 ρ σ h h' w w') (h1:WF h) (h2:WF h') (l:List Nat) :
  Ext ρ σ {h with log:=l} {h' with log:=List.range h'.nx++l} w w':=
 ⟨e.le,e.nx,e.new,e.calm,e.kept,⟨List.range h'.nx,rfl,fun b hb _=>by
  have hn:=e.nx
  have:h'.nx≤b:=by
   rcases Nat.lt_or_ge b h'.nx with q|q
   ·exact absurd (List.mem_range.2 q) hb
   ·exact q
  show h'.blk.get b=h.blk.get b;rw [h2 b this,h1 b (by omega)]⟩,e.live,e.imm⟩
theorem Ex0.trans {ρ σ τ:Ren} {h h1 h2:Aa} {w w1 w2:World} (e:Ex0 ρ σ h h1 w w1) (k:Ex0 σ τ h1 h2 w1 w2) (q:WF h) (q1:WF h1) (q2:WF h2) (f:Ax ρ h.nx h2.nx):Ex0 ρ τ h h2 w w2:=by
 have a:=e.full q q1 [];have b:=k.full q1 q2 (List.range h1.nx++[]);have c:=a.trans b f;exact ⟨c.le,c.nx,c.new,c.calm,c.kept,c.live,c.imm⟩
theorem Ex0.free {ρ σ:Ren} {h h':Aa} {w w':World} (e:Ex0 ρ σ h h' w w') {m:Nat} (f:Ax ρ h.nx m):Ax σ h'.nx m:=by
 intro b hb hm;have:=e.nx;cases hs:σ b with
 |none=>rfl
 |some base=>
  rcases e.new b base hs with h1|⟨_,h2,_⟩
  ·rw [f b (by omega) hm] at h1;cases h1
  ·omega
theorem Ex0.tgt {ρ σ:Ren} {h h1 h2:Aa} {w w':World} (e:Ex0 ρ σ h h1 w w') (hn:h1.nx≤h2.nx) (hl:∀b,h2.blk.get b≠none→h1.blk.get b≠none∨h.blk.get b≠none):Ex0 ρ σ h h2 w w':=by
 refine ⟨e.le,Nat.le_trans e.nx hn,fun b base hb=>?_,e.calm,e.kept,fun b hb=>?_,e.imm⟩
 ·rcases e.new b base hb with q|⟨q1,q2,q3⟩
  ·exact .inl q
  ·exact .inr ⟨q1,by omega,q3⟩
 ·rcases hl b hb with q|q
  ·rcases e.live b q with q|⟨q1,q2⟩
   ·exact .inl q
   ·exact .inr ⟨q1,by omega⟩
  ·exact .inl q
theorem Ex0.back {ρ σ τ:Ren} {h S R:Aa} {w w1 w2:World} {N:Nat} (e1:Ex0 ρ σ h S w w1) (e2:Ex0 ρ τ h R w w2) (hle:σ.le τ) (hf:Ax σ S.nx N) (hn:∀b x,τ b=some x→(σ b=some x∨(S.nx≤b∧b<N))) :
  Ex0 ρ (τ.cut S.nx N) h S w w2:=by
 refine ⟨e1.le.trans (Ren.le_cut hle hf),e1.nx,fun b base hb=>?_,e2.calm,e2.kept,e1.live,e2.imm⟩
 rcases hn b base (Ren.cut_some hb) with q|⟨q1,q2⟩
 ·exact e1.new b base q
 ·unfold Ren.cut at hb;simp only [if_pos (And.intro q1 q2)] at hb;cases hb
omit U in
theorem Fk:∀{a b:T AV},Ig a b=true→∀i x,a.get i=some x→b.get i=some x
 |.nil,_,_,i,x,hx=>by rw [T.get_nil] at hx;cases hx
 |.node v l r,.node v' l' r',h,i,x,hx=>by
  simp only [Ig,Bool.and_eq_true] at h;obtain ⟨h1,h2,h3⟩:=h;by_cases e:i=0
  ·rw [T.get_zero _ _ _ e] at hx ⊢;subst hx;cases v' with
   |none=>cases h1
   |some y=>rw [Dk _ _ h1]
  ·by_cases o:i%2=1
   ·rw [T.get_odd _ _ _ o] at hx ⊢;exact Fk h2 _ x hx
   ·rw [T.get_even _ _ _ (by omega) e] at hx ⊢;exact Fk h3 _ x hx
 |.node v l r,.nil,h,i,x,hx=>by
  simp only [Ig,Bool.and_eq_true] at h;obtain ⟨h1,h2,h3⟩:=h;by_cases e:i=0
  ·rw [T.get_zero _ _ _ e] at hx;subst hx;cases h1
  ·by_cases o:i%2=1
   ·rw [T.get_odd _ _ _ o] at hx;have:=Fk h2 _ x hx;rw [T.get_nil] at this;cases this
   ·rw [T.get_even _ _ _ (by omega) e] at hx;have:=Fk h3 _ x hx;rw [T.get_nil] at this;cases this
omit U in
theorem GB:∀{a b:T AV} {i:Nat} {x:AV},(Dt a b).get i=some x→b.get i=some x
 |.nil,_,i,x,hx=>by simp only [Dt,T.get_nil] at hx;cases hx
 |.node v l r,.nil,i,x,hx=>by simp only [Dt,T.get_nil] at hx;cases hx
 |.node v l r,.node v' l' r',i,x,hx=>by
  simp only [Dt] at hx;by_cases e:i=0
  ·rw [T.get_zero _ _ _ e] at hx ⊢;cases v with
   |none=>cases hx
   |some y=>exact hx
  ·by_cases o:i%2=1
   ·rw [T.get_odd _ _ _ o] at hx ⊢;exact GB hx
   ·rw [T.get_even _ _ _ (by omega) e] at hx ⊢;exact GB hx
omit U in
theorem Ln:∀{l:List Tmp} {t:T AV} {i:Nat} {x:AV},(Qr l t).get i=some x→t.get i=some x
 |[],t,i,x,h=>h
 |d::r,t,i,x,h=>by
  have:=Ln (l:=r) h;rw [T.get_del] at this;split at this
  ·cases this
  ·exact this
omit U in
theorem Vr {a b:AI} (h:Uy a b=true):a=b:=by
 cases a<;>cases b<;>simp only [Uy,Bool.false_eq_true,Bool.and_eq_true] at h
 ·rw [Dp h]
 ·rw [AJ h]
 ·rw [Dp h]
 ·rw [Dp h]
 ·rw [DJ (fun _ _=>HV) h.1,FN (fun _ _=>HV) h.2]
theorem IL.any {ρ σ:Ren}:∀{l m:List AI} {k:List Item},EQ Uy l m=true→IL ρ m k→IL σ l k
 |[],[],k,_,h=>by cases h;exact .nil
 |[],_::_,k,e,_=>by cases e
 |_::_,[],k,e,_=>by cases e
 |a::l,b::m,k,e,h=>by
  simp only [EQ,Bool.and_eq_true] at e;have ab:=Vr e.1;subst ab;have e1:=e.1;cases h with
  |cons h1 h2=>
   refine .cons ?_ (IL.any e.2 h2);cases h1 with
   |code c=>exact .code c
   |inBlock id=>exact .inBlock id
   |inLoop b=>exact .inLoop b
   |inScope b=>exact .inScope b
   |ops all rest idx h=>exact .ops all rest idx h
   |_=>cases e1
  |rest=>cases e1
theorem KX {f:AF} (h:Mv f=true):f.defers=[]∧f.mode=.run∧f.kind=.normal∧f.round=none:=by
 simp only [Mv,Bool.and_eq_true] at h;obtain ⟨h1,h2,h3,h4⟩:=h;refine ⟨List.isEmpty_iff.1 h1,?_,?_,by simpa using h4⟩
 ·cases hm:f.mode<;>rw [hm] at h2<;>first|rfl|cases h2
 ·cases hm:f.kind<;>rw [hm] at h3<;>first|rfl|cases h3
theorem FrR.place {τ σ:Ren} {f g:AF} {c:Frame} (h:FrR τ g c) (e:II f g=true) (hm:∀i x,f.tmps.get i=some x→VR σ x (c.tmps.getD i Go.undef)):FrR σ f c:=by
 simp only [II,Bool.and_eq_true] at e;obtain ⟨e1,e2,e3,e4,e5⟩:=e;obtain ⟨a1,a2,a3,a4⟩:=KX e1;obtain ⟨b1,b2,b3,b4⟩:=KX e2;refine ⟨by rw [h.fn,AJ e3],⟨by rw [h.tm.size,AJ e4],hm⟩,IL.any e5 h.todo,?_,?_,by rw [h.kind,b3,a3],?_⟩
 ·have:=h.defers;rw [b1] at this;rw [a1];generalize c.defers=d at this;cases d with
  |nil=>trivial
  |cons=>exact this.elim
 ·have:=h.mode;rw [b2] at this;rw [a2];generalize c.mode=d at this;cases this;exact .run
 ·have:=h.round;rw [b4] at this;rw [a4];generalize c.roundOf=d at this;cases d with
  |none=>trivial
  |some=>exact this.elim
omit U in
theorem Nf {nx:Nat} {t t':T Ac}:∀{l:List Nat},Qc nx t t' l=true→∀b∈l,b<nx→∀x,t.get b=some x→t'.get b=some x
 |[],_,b,hb,_,_,_=>by cases hb
 |c::l,h,b,hb,hlt,x,hx=>by
  simp only [Qc,Bool.and_eq_true] at h;rcases List.mem_cons.1 hb with rfl|hb
  ·rcases Bool.or_eq_true _ _▸h.1 with q|q
   ·have:=Nat.le_of_ble_eq_true q;omega
   ·rw [hx] at q;simp only at q;cases hy:t'.get b with
    |none=>rw [hy] at q;cases q
    |some y=>rw [hy] at q;rw [JG q]
  ·exact Nf h.2 b hb hlt x hx
theorem Gp {n:Nat}:∀{l:List Ak} {e:Ak},e∈l→e.born≠n→e∈HK n l
 |x::l,e,h,hn=>by
  unfold HK;rcases List.mem_cons.1 h with rfl|h
  ·cases q:Nat.beq e.born n with
   |true=>exact absurd (AJ q) hn
   |false=>exact List.mem_cons_self
  ·cases q:Nat.beq x.born n with
   |true=>exact Gp h hn
   |false=>exact List.mem_cons_of_mem _ (Gp h hn)
theorem FH {run:Ak→Option AS} {S:AS}:∀{l:List Ak} {x:Option (Ak×AS)} {n:Nat},EO run S l=some (x,n)→
  S.h.nx≤n∧∀e∈l,∃R,run e=some R∧R.cs=[]∧II S.fr R.fr=true∧S.h.nx≤R.h.nx∧R.h.nx≤n∧(Jv S R=true∨(x=some (e,R)∧Jv S R=false))
 |[],x,n,h=>by
  simp only [EO,Option.some.injEq,Prod.mk.injEq] at h;exact ⟨by omega,fun e he=>by cases he⟩
 |e::l,x,n,h=>by
  simp only [EO] at h;split at h
  ·rename_i R x0 n0 hR hl;obtain ⟨i1,i2⟩:=FH hl;split at h
   ·rename_i x1 hc hu;simp only [Option.some.injEq,Prod.mk.injEq] at h;obtain ⟨rfl,rfl⟩:=h;simp only [Bool.and_eq_true] at hc;obtain ⟨c1,c2,c3⟩:=hc;refine ⟨by omega,fun y hy=>?_⟩
    rcases List.mem_cons.1 hy with rfl|hy
    ·exact ⟨R,hR,List.isEmpty_iff.1 c1,c2,Nat.le_of_ble_eq_true c3,by omega,.inl hu⟩
    ·obtain ⟨R',a1,a2,a3,a4,a5,a6⟩:=i2 y hy;exact ⟨R',a1,a2,a3,a4,by omega,a6⟩
   ·rename_i hc hu;simp only [Option.some.injEq,Prod.mk.injEq] at h;obtain ⟨rfl,rfl⟩:=h;simp only [Bool.and_eq_true] at hc;obtain ⟨c1,c2,c3⟩:=hc;refine ⟨by omega,fun y hy=>?_⟩
    rcases List.mem_cons.1 hy with rfl|hy
    ·exact ⟨R,hR,List.isEmpty_iff.1 c1,c2,Nat.le_of_ble_eq_true c3,by omega,.inr ⟨rfl,hu⟩⟩
    ·obtain ⟨R',a1,a2,a3,a4,a5,a6⟩:=i2 y hy;refine ⟨R',a1,a2,a3,a4,by omega,.inl ?_⟩
     rcases a6 with q|⟨q,_⟩
     ·exact q
     ·cases q
   ·cases h
  ·cases h
theorem Ix {run:Ak→Option AS} {S:AS}:∀{l:List Ak} {e:Ak} {R:AS} {n:Nat},EO run S l=some (some (e,R),n)→e∈l∧run e=some R∧Jv S R=false
 |[],e,R,n,h=>by simp [EO] at h
 |a::l,e,R,n,h=>by
  simp only [EO] at h;split at h
  ·rename_i R' x0 n0 hR hl;split at h
   ·simp only [Option.some.injEq,Prod.mk.injEq] at h;obtain ⟨rfl,_⟩:=h;obtain ⟨i1,i2,i3⟩:=Ix hl;exact ⟨List.mem_cons_of_mem _ i1,i2,i3⟩
   ·rename_i hc hu;simp only [Option.some.injEq,Prod.mk.injEq] at h;obtain ⟨⟨rfl,rfl⟩,_⟩:=h;exact ⟨List.mem_cons_self,hR,hu⟩
   ·cases h
  ·cases h
theorem MW:∀{es:List Ak} {lo c:Nat},MB lo es c=true→(∀e∈es,lo≤e.born)∧∀e∈es,∀e'∈es,e.born=e'.born→e=e'
 |[],lo,c,_=>⟨fun e h=>(by cases h),fun e h e' h' hb=>(by cases h)⟩
 |a::r,lo,c,h=>by
  simp only [MB,Bool.and_eq_true] at h;obtain ⟨⟨a1,a2⟩,a3⟩:=h;have a1:=Nat.le_of_ble_eq_true a1;obtain ⟨i1,i2⟩:=MW a3;refine ⟨fun e he=>?_,fun e he e' he' hb=>?_⟩
  ·rcases List.mem_cons.1 he with q|q
   ·subst q;exact a1
   ·have:=i1 e q;omega
  ·rcases List.mem_cons.1 he with q|q<;>rcases List.mem_cons.1 he' with q'|q'
   ·rw [q,q']
   ·have:=i1 e' q';rw [q] at hb;omega
   ·have:=i1 e q;rw [q'] at hb;omega
   ·exact i2 e q e' q' hb
theorem Vk {s:AS} {b m clock:Nat} {es:List Ak} (h:bO s=some (b,m,es,clock)):∃since,DD b s.fr=true∧s.h.blk.get b=some (.mapIter (some m) since [] clock)∧s.h.blk.get m=some (.map es clock)∧IT since clock es=true∧MB 0 es clock=true∧m≠b:=by
 unfold bO at h;split at h
 ·rename_i all o r k hm ht;split at h
  ·rename_i it hg ho;split at h
   ·rename_i b0 hev;split at h
    ·rename_i m0 since last hb;split at h
     ·rename_i es0 cl hmm;split at h
      ·rename_i hc;simp only [Option.some.injEq,Prod.mk.injEq] at h;obtain ⟨rfl,rfl,rfl,rfl⟩:=h;simp only [Bool.and_eq_true,Bool.not_eq_true'] at hc;obtain ⟨c1,c2,c3,c4⟩:=hc;have c1:=AJ c1;subst c1;refine ⟨since,?_,hb,hmm,c2,c3,fun e=>?_⟩
       ·simp only [DD,hm,ht,hg,ho,hev,Nat.beq_refl]
       ·subst e;rw [Nat.beq_refl] at c4;cases c4
      ·cases h
     ·cases h
    ·cases h
   ·cases h
  ·cases h
 ·cases h
end
section
variable [U:Unk] {E:Env} (hE:OK E) (hO:Ad E U.V.fn)
theorem Nl {σ τ:Ren} {h h':Aa} {w w':World} (e:Ext σ τ h h' w w') (hf:Ax σ h.nx h'.nx) {k:Nat} {o:Obj} (ho:w.heap[k]?=some o) (hap:∀b x,σ b=some x→h.blk.get b≠none→x.cb≠k) :
  w'.heap[k]?=some o∧∀b x,τ b=some x→h'.blk.get b≠none→x.cb≠k:=by
 have hk:k<w.heap.size:=(Array.getElem?_eq_some_iff.1 ho).1;refine ⟨by rw [e.kept k hk hap];exact ho,fun b x hb hl=>?_⟩
 rcases e.new b x hb with h1|⟨_,_,h3⟩
 ·rcases e.live b hl with h4|⟨h4,h5⟩
  ·exact hap b x h1 h4
  ·rw [hf b h4 h5] at h1;cases h1
 ·rcases h3 with h3|⟨b0,x0,h4,h5,h6⟩
  ·omega
  ·rw [←h6];exact hap b0 x0 h4 h5
include hE in
theorem OU {σ:Ren} {s s':AS} {c:Frame} {ccs bs:List Frame} {w:World} (hsr:SR σ s c ccs w) {b m clock born since:Nat} {seen:Array Nat} {base bm:Bf} (hb:σ b=some base) (h0:base.co=0) (hm:σ m=some bm)
  (ho:w.heap[base.cb]?=some (.mapIter (some bm.cb) since seen clock)) (hs:seen.back?=some born) (hx:GS b m clock born s=some s'):AA E.P bs σ s.h c ccs w w s'∧s'.h=s.h:=by
 unfold GS at hx;split at hx
 ·rename_i all o rest k hmf ht;split at hx
  ·rename_i it hgd hop;split at hx
   ·rename_i b' hev;split at hx
    ·rename_i hbb;have hbb:=AJ hbb;subst hbb;split at hx
     ·rename_i es cl hgm;split at hx
      ·rename_i e2 hcl hbe;split at hx
       ·rename_i fr hfin;cases hx;have hcl:=AJ hcl;subst hcl;have hmode:=hsr.fr.mode;rw [hmf] at hmode
        have hmr:c.mode=.run:=by
         generalize c.mode=x at hmode;cases hmode;rfl
        have htodo:=hsr.fr.todo;rw [ht] at htodo;obtain ⟨i,idx,k',e,hoi,hmap,hk⟩:=htodo.ops_inv;have hw:A1 all o s.fr.tmps=some true:=by unfold A1;rw [hgd]
        have hwt:=Be hsr.fr.tm hw;have hd:c.roundOf=none∨∀cl,o.op≠.defer cl:=.inr (fun cl q=>by rw [hop] at q;cases q)
        have hev':=hsr.fr.evR it;rw [hev] at hev';refine ⟨Ek (s:=execOp c.eval o) (r:=.val (.tuple [e2.key,e2.val]) s.h) hE (by rw [CP hmr e hoi hwt hd]) ?_ hsr.h hsr.fr hsr.cs hmr (by simp only [Bi,hfin]) (fun b h1 h2=>absurd h2 (Nat.not_lt.2 h1)),rfl⟩
        intro _;obtain ⟨es',m1,m2⟩:=hsr.h.blk m bm _ hm hgm;obtain ⟨e',y1,k1,k2⟩:=JR born es es' e2 m2 hbe;have hget:=Ao (w:=w) E.P ho (by simp)
        have hgetm:=Ao (w:=w) E.P m1 (by simp)
        have hv:=VL.cons k1 (VL.cons k2 (VL.nil σ));refine ⟨σ,.tuple #[e'.key,e'.val],w,.inl ?_,.tuple _ [e'.key,e'.val] hv.1 hv.2,hsr.h,Ext.refl _ _ _⟩
        have hiv:c.eval it=.pointer (some ⟨base.cb,0,none⟩):=by
         generalize c.eval it=iv at hev' ⊢;generalize hq:AV.ptr b' 0=q at hev';cases hev'<;>first|cases hq|skip
         rename_i y hy;rw [hb] at hy;cases hy;rw [h0]
        simp [execOp,hop,hiv,Instr.entry,hget,hs,hgetm,y1]
       ·cases hx
      ·cases hx
     ·cases hx
    ·cases hx
   ·cases hx
  ·cases hx
 ·cases hx
theorem OQ {s s':AS} {b m clock born:Nat} (hx:GS b m clock born s=some s'):s'.h=s.h:=by
 unfold GS at hx
 repeat' (first | (cases hx;done)|split at hx)
 all_goals (cases hx;rfl)
theorem By {callF:Ask→Aa→Option (Bool×AV×Aa)} {b m clock born:Nat}:∀(f:Nat) (s s':AS),D9 E callF b m clock born f s=some s'→s.h.nx≤s'.h.nx
 |0,s,s',h=>by cases h
 |f+1,s,s',h=>by
  simp only [D9] at h;split at h
  ·cases h;exact Nat.le_refl _
  ·split at h
   ·rename_i s1 he;have:=By f _ _ h;rw [OQ he] at this;exact this
   ·split at h
    ·split at h
     ·rename_i hb;exact Nat.le_trans (Nat.le_of_ble_eq_true hb) (By f _ _ h)
     ·cases h
    ·split at h
     ·split at h
      ·rename_i hb;exact Nat.le_trans (Nat.le_of_ble_eq_true hb) (By f _ _ h)
      ·cases h
     ·rename_i s2 ops k hst;obtain ⟨rfl,_,_⟩:=Ce hst;split at h
      ·rename_i hd;exact Nat.le_trans (BY _ _ _ _ _ _ _ hd) (By f _ _ h)
      ·cases h
     ·cases h
include hE hO in
theorem Rf {callF:Ask→Aa→Option (Bool×AV×Aa)} (hF:Dv E callF) {b m clock born since:Nat} {seen:Array Nat} {base bm:Bf} (h0:base.co=0) (hs:seen.back?=some born) :
  ∀(f:Nat) (s s':AS) (σ:Ren) (c:Frame) (ccs:List Frame) (w:World),SR σ s c ccs w→WF s.h→D9 E callF b m clock born f s=some s'→Ax σ s.h.nx s'.h.nx→σ b=some base→σ m=some bm→
   w.heap[base.cb]?=some (.mapIter (some bm.cb) since seen clock)→(∀b' x,σ b'=some x→s.h.blk.get b'≠none→x.cb≠base.cb)→
   ∀bs:List Frame,∃τ c' ccs' w',Steps E.P (lone c (ccs++bs) w) (lone c' (ccs'++bs) w')∧SR τ s' c' ccs' w'∧Ext σ τ s.h s'.h w w':=by
 intro f
 induction f with
 |zero=>intro s s' σ c ccs w _ _ h;cases h
 |succ f ih=>
  intro s s' σ c ccs w hsr hwf h hfree hb hm ho hap bs
  have go:∀(s1:AS) (τ:Ren) (c1:Frame) (ccs1:List Frame) (w1:World),Steps E.P (lone c (ccs++bs) w) (lone c1 (ccs1++bs) w1)→SR τ s1 c1 ccs1 w1→Ext σ τ s.h s1.h w w1→D9 E callF b m clock born f s1=some s'→
    ∃τ c' ccs' w',Steps E.P (lone c (ccs++bs) w) (lone c' (ccs'++bs) w')∧SR τ s' c' ccs' w'∧Ext σ τ s.h s'.h w w':=by
   intro s1 τ c1 ccs1 w1 q1 q2 q3 q4;have hmono:=By f _ _ q4;have hf1:Ax σ s.h.nx s1.h.nx:=fun b h1 h2=>hfree b h1 (by omega)
   obtain ⟨p1,p2⟩:=Nl q3 hf1 ho hap;obtain ⟨υ,c',ccs',w',r1,r2,r3⟩:=ih s1 s' τ c1 ccs1 w1 q2 (q3.wf hwf) q4 (q3.free hfree) (q3.le.m _ _ hb) (q3.le.m _ _ hm) p1 p2 bs;exact ⟨υ,c',ccs',w',Steps.trans q1 r1,r2,q3.trans r3 hfree⟩
  simp only [D9] at h;split at h
  ·cases h;exact ⟨σ,c,ccs,w,Steps.refl _ _,hsr,Ext.refl _ _ _⟩
  ·split at h
   ·rename_i s1 he;obtain ⟨⟨τ,c1,ccs1,w1,q1,q2,q3⟩,q4⟩:=OU hE (bs:=bs) hsr hb h0 hm ho hs he;exact go s1 τ c1 ccs1 w1 (Steps.one q1) q2 q3 h
   ·split at h
    ·rename_i s1 htop;split at h
     ·have hmono:=By f _ _ h;obtain ⟨τ,c1,ccs1,w1,q1,q2,q3⟩:=Ji hE hO hsr hwf htop (fun b h1 h2=>hfree b h1 (by omega)) bs
      exact go s1 τ c1 ccs1 w1 q1 q2 q3 h
     ·cases h
    ·split at h
     ·rename_i s1 hst;split at h
      ·have hmono:=By f _ _ h;obtain ⟨τ,c1,ccs1,w1,q1,q2,q3⟩:=Ff (base:=bs) hE hsr hst (fun b h1 h2=>hfree b h1 (by omega))
       exact go s1 τ c1 ccs1 w1 (Steps.one q1) q2 q3 h
      ·cases h
     ·rename_i s2 ops k hst;obtain ⟨rfl,hmr,id,ht⟩:=Ce hst;split at h
      ·rename_i tmps h1 hd;have hmono:=By f _ _ h;obtain ⟨τ,c1,w1,q1,q2,q3⟩:=EM hE hF hsr hwf hmr ht hd (fun b a1 a2=>hfree b a1 (Nat.lt_of_lt_of_le a2 hmono)) bs
       exact go _ τ c1 ccs w1 q1 q2 q3 h
      ·cases h
     ·cases h
theorem HR.revive {σ:Ren} {t:T Ac} {w:World} (hr:HR σ t.get w) {b:Nat} {base:Bf} {x:Ac} (hb:σ b=some base) (hd:t.get b=none) (hbr:BR σ x base w.heap[base.cb]?)
  (ap:∀b' y,σ b'=some y→t.get b'≠none→y.cb≠base.cb) (im:∀k arr,σ.imm k=some arr→base.cb≠k):HR σ (t.set b x).get w:=by
 refine ⟨hr.lt,fun c y z hc hz=>?_,fun c c' y y' hne hc hc' h1 h2=>?_,hr.imm,fun k arr c y hk hc hl=>?_,hr.glob⟩
 ·rw [T.get_set] at hz;split at hz
  ·rename_i e;subst e;cases hz;rw [hb] at hc;cases hc;exact hbr
  ·exact hr.blk c y z hc hz
 ·rw [T.get_set] at h1 h2;split at h1
  ·rename_i e;subst e;rw [hb] at hc;cases hc;rw [if_neg hne] at h2;exact fun q=>ap c' y' hc' h2 q.symm
  ·split at h2
   ·rename_i e;subst e;rw [hb] at hc';cases hc';exact ap c y hc h1
   ·exact hr.apart c c' y y' hne hc hc' h1 h2
 ·rw [T.get_set] at hl;split at hl
  ·rename_i e;subst e;rw [hb] at hc;cases hc;exact im k arr hk
  ·exact hr.off k arr c y hk hc hl
theorem C0 {b:Nat}:∀{l:List Nat},Hw b l=true↔b∈l
 |[]=>by simp [Hw]
 |a::r=>by
  unfold Hw;cases q:Nat.beq a b with
  |true=>simp [AJ q]
  |false=>
   have:=NI q;simp only [C0,List.mem_cons];constructor
   ·exact .inr
   ·rintro (h|h)
    ·exact absurd h.symm this
    ·exact h
theorem BG {L:List Nat}:∀{es:List Ak} {e:Ak},e∈Bb L es↔e∈es∧e.born∉L
 |[],e=>by simp [Bb]
 |x::r,e=>by
  unfold Bb;cases q:Hw x.born L with
  |true=>
   simp only [BG,List.mem_cons];have hx:=C0.1 q;constructor
   ·rintro ⟨h1,h2⟩;exact ⟨.inr h1,h2⟩
   ·rintro ⟨h1|h1,h2⟩
    ·subst h1;exact absurd hx h2
    ·exact ⟨h1,h2⟩
  |false=>
   have hx:x.born∉L:=fun h=>by rw [C0.2 h] at q;cases q
   simp only [List.mem_cons,BG];constructor
   ·rintro (h|h)
    ·subst h;exact ⟨.inl rfl,hx⟩
    ·exact ⟨.inr h.1,h.2⟩
   ·rintro ⟨h1|h1,h2⟩
    ·exact .inl h1
    ·exact .inr ⟨h1,h2⟩
theorem Nz {L M:List Nat} (hs:∀x∈L,x∈M):∀{es:List Ak},(Bb M es).length≤(Bb L es).length
 |[]=>Nat.le_refl _
 |x::r=>by
  unfold Bb;have:=Nz hs (es:=r);cases q:Hw x.born L with
  |true=>rw [C0.2 (hs _ (C0.1 q))];exact this
  |false=>cases Hw x.born M<;>simp only [List.length_cons]<;>omega
theorem GW {L:List Nat}:∀{es:List Ak} {e:Ak},e∈Bb L es→(Bb (L++[e.born]) es).length<(Bb L es).length
 |[],e,h=>by simp [Bb] at h
 |x::r,e,h=>by
  have hle:=Nz (L:=L) (M:=L++[e.born]) (fun y hy=>List.mem_append_left _ hy) (es:=r)
  unfold Bb at h ⊢;cases q:Hw x.born L with
  |true=>
   rw [q] at h;rw [C0.2 (List.mem_append_left _ (C0.1 q))];exact GW h
  |false=>
   rw [q] at h;cases q2:Hw x.born (L++[e.born]) with
   |true=>simp only [List.length_cons];omega
   |false=>
    rcases List.mem_cons.1 h with rfl|h
    ·rw [C0.2 (by simp)] at q2;cases q2
    ·have:=GW h;simp only [List.length_cons];omega
theorem Lw {b:Nat} {f:AF} (h:DD b f=true):∃all o r k it,f.mode=.run∧f.todo=.ops all (o::r)::k∧o.guard=none∧o.op=.next it false∧Ah f.tmps it=.ptr b 0:=by
 unfold DD at h
 repeat' (first | (cases h;done)|split at h)
 rename_i all o r k hm ht _ _ it hg ho _ b' he;have:=AJ h;subst this;exact ⟨all,o,r,k,it,hm,ht,hg,ho,he⟩
include hE in
theorem UP {σ:Ren} {S:AS} {c:Frame} {ccs bs:List Frame} {w:World} {b m since clock:Nat} {L:List Nat} {es:List Ak} {base bm:Bf} (hfr:FrR σ S.fr c) (hcs:FrL σ S.cs ccs) (hr:HR σ S.h.blk.get w) (hb:σ b=some base) (hm:σ m=some bm) (h0:base.co=0)
  (ho:w.heap[base.cb]?=some (.mapIter (some bm.cb) since L.toArray clock)) (hap:∀b' x,σ b'=some x→S.h.blk.get b'≠none→x.cb≠base.cb) (him:∀k arr,σ.imm k=some arr→base.cb≠k)
  (hd:S.h.blk.get b=none) (hgm:S.h.blk.get m=some (.map es clock)) (hold:IT since clock es=true) (hat:DD b S.fr=true) :
  (Bb L es=[]∧∀fr',AP S.fr (.tuple [.bool false])=some fr'→AA E.P bs σ {S.h with blk:=S.h.blk.set b (.mapIter (some m) since L clock)} c ccs w w {S with fr:=fr',h:={S.h with blk:=S.h.blk.set b (.mapIter (some m) since L clock)}})∨
  (∃e∈Bb L es,∀fr',AP S.fr (.tuple [.bool true,e.key,e.val])=some fr'→AA E.P bs σ {S.h with blk:=S.h.blk.set b (.mapIter (some m) since L clock)} c ccs w w
   {S with fr:=fr',h:=Aa.put {S.h with blk:=S.h.blk.set b (.mapIter (some m) since L clock)} b (.mapIter (some m) since (L++[e.born]) clock)}):=by
 generalize hL:({S.h with blk:=S.h.blk.set b (.mapIter (some m) since L clock)}:Aa)=hh
 have hrL:HR σ hh.blk.get w:=by
  rw [←hL];exact hr.revive hb hd (by rw [ho];exact ⟨h0,bm,hm,rfl⟩) hap him
 have hmb:m≠b:=by intro e;subst e;rw [hd] at hgm;cases hgm
 have gb:hh.blk.get b=some (.mapIter (some m) since L clock):=by rw [←hL];simp [T.get_set]
 have gm:hh.blk.get m=some (.map es clock):=by
  rw [←hL];show (S.h.blk.set b _).get m=_;rw [T.get_set,if_neg (fun e=>hmb e.symm)];exact hgm
 obtain ⟨all,o,r,k,it,hmf,ht,hgd,hop,hev⟩:=Lw hat;have hmode:=hfr.mode;rw [hmf] at hmode
 have hmr:c.mode=.run:=by
  generalize c.mode=x at hmode;cases hmode;rfl
 have htodo:=hfr.todo;rw [ht] at htodo;obtain ⟨i,idx,k',e,hoi,hmap,hk⟩:=htodo.ops_inv;have hwt:=Be hfr.tm (show A1 all o S.fr.tmps=some true by unfold A1;rw [hgd])
 have hdf:c.roundOf=none∨∀cl,o.op≠.defer cl:=.inr (fun cl q=>by rw [hop] at q;cases q)
 have hvi:=hfr.evR it;rw [hev] at hvi
 have fin:∀(a:AV) (h':Aa),AB E σ hh h' w (Instr.next (c.eval it) false o.type) a→h'.nx=hh.nx→∀fr',AP S.fr a=some fr'→AA E.P bs σ hh c ccs w w {S with fr:=fr',h:=h'}:=by
  intro a h' hl hnx fr' hf;refine Ek (s:=execOp c.eval o) (r:=.val a h') hE (by rw [CP hmr e hoi hwt hdf]) ?_ hrL hfr hcs hmr (by simp only [Bi,hf]) (fun b h1 h2=>by simp only at h2;omega)
  intro _;obtain ⟨τ,v,w',q1,q2,q3,q4⟩:=hl;exact ⟨τ,v,w',.inl (by simp [execOp,hop,q1]),q2,q3,q4⟩
 cases hq:Bb L es with
 |nil=>
  refine .inl ⟨rfl,fin _ hh (Ju (E:=E) hrL hvi ?_) rfl⟩;simp only [NW,gb,gm,hold,hq]
 |cons e1 l=>
  refine .inr ?_;cases l with
  |nil=>
   refine ⟨e1,List.mem_cons_self,fin _ _ (Ju (E:=E) (a:=.tuple [.bool true,e1.key,e1.val]) (h':=hh.put b (.mapIter (some m) since (L++[e1.born]) clock)) hrL hvi ?_) rfl⟩;simp only [NW,gb,gm,hold,hq,Lg]
  |cons e2 l=>
   obtain ⟨p,hp,hl⟩:=Jq (E:=E) (ty:=o.type) (l:=(e1::e2::l).map (Lg b m since clock L hh)) hrL hvi (by simp only [Jk,gb,gm,hold,hq])
   obtain ⟨e3,he,rfl⟩:=List.mem_map.1 hp;exact ⟨e3,he,fin _ _ hl rfl⟩
structure RO (S:AS) (ρ:Ren) (h:Aa) (w0:World) (b m since clock N:Nat) (base bm:Bf) (σ:Ren) (L:List Nat) (c:Frame) (ccs:List Frame) (w:World):Prop where
 fr:FrR σ S.fr c
 cs:FrL σ S.cs ccs
 hr:HR σ S.h.blk.get w
 rb:σ b=some base
 rm:σ m=some bm
 ob:w.heap[base.cb]?=some (.mapIter (some bm.cb) since L.toArray clock)
 ap:∀b' x,σ b'=some x→S.h.blk.get b'≠none→x.cb≠base.cb
 im:∀k arr,σ.imm k=some arr→base.cb≠k
 ex:Ex0 ρ σ h S.h w0 w
 free:Ax σ S.h.nx N
structure Q7 (S:AS) (ρ:Ren) (h:Aa) (b m since clock N:Nat) (es:List Ak) (base:Bf):Prop where
 h0:base.co=0
 hwf:WF h
 swf:WF S.h
 dead:S.h.blk.get b=none
 live:h.blk.get b≠none
 gm:S.h.blk.get m=some (.map es clock)
 old:IT since clock es=true
 at':DD b S.fr=true
 lt:QT S=true
 nxN:S.h.nx≤N
 free:Ax ρ h.nx N
structure dQ (S R:AS) (ρ:Ren) (h:Aa) (w0:World) (b m since clock N born:Nat) (base bm:Bf) (σ:Ren) (L:List Nat) (c:Frame) (ccs:List Frame) (w:World) (σ1 τ:Ren) (c2:Frame) (ccs1:List Frame) (w2:World):Prop where
 fr:FrR τ R.fr c2
 cs:FrL σ1 S.cs ccs1
 hr:HR τ R.h.blk.get w2
 rb:σ1 b=some base
 rm:σ1 m=some bm
 ob:w2.heap[base.cb]?=some (.mapIter (some bm.cb) since (L++[born]).toArray clock)
 ap:∀b' x,τ b'=some x→R.h.blk.get b'≠none→x.cb≠base.cb
 im:∀k arr,τ.imm k=some arr→base.cb≠k
 ex1:∃w1,Ex0 ρ σ1 h S.h w0 w1
 ex2:Ex0 ρ τ h R.h w0 w2
 le:σ1.le τ
 free1:Ax σ1 S.h.nx N
 free2:Ax τ R.h.nx N
 log:∀b',b'∉R.h.log→(b'<S.h.nx∨R.h.nx≤b')→R.h.blk.get b'=S.h.blk.get b'
 new:∀b' x,τ b'=some x→σ1 b'=some x∨(S.h.nx≤b'∧b'<R.h.nx)
 rwf:WF R.h
 dead:R.h.blk.get b=none
include hE hO in
theorem Nh {callF:Ask→Aa→Option (Bool×AV×Aa)} (hF:Dv E callF) {F b m since clock N:Nat} {es:List Ak} {base bm:Bf} {S:AS} {ρ:Ren} {h:Aa} {w0:World} (fx:Q7 S ρ h b m since clock N es base) {σ:Ren} {L:List Nat} {c:Frame} {ccs:List Frame} {w:World}
  (iv:RO S ρ h w0 b m since clock N base bm σ L c ccs w) (hq:∀e∈Bb L es,∃R,Ey E callF F b m clock S e=some R∧R.cs=[]∧S.h.nx≤R.h.nx∧R.h.nx≤N) (bs:List Frame) :
  (Bb L es=[]∧∀fr',AP S.fr (.tuple [.bool false])=some fr'→∃σ' c' ccs' w',Steps E.P (lone c (ccs++bs) w) (lone c' (ccs'++bs) w')∧FrR σ' fr' c'∧FrL σ' S.cs ccs'∧HR σ' S.h.blk.get w'∧Ex0 ρ σ' h S.h w0 w')∨
  (∃e∈Bb L es,∀R,Ey E callF F b m clock S e=some R→∃σ1 τ c2 ccs1 w2,Steps E.P (lone c (ccs++bs) w) (lone c2 (ccs1++bs) w2)∧dQ S R ρ h w0 b m since clock N e.born base bm σ L c ccs w σ1 τ c2 ccs1 w2):=by
 generalize hL:({S.h with blk:=S.h.blk.set b (.mapIter (some m) since L clock)}:Aa)=hh
 have hnx:hh.nx=S.h.nx:=by rw [←hL]
 have gbs:∀b',b'≠b→hh.blk.get b'=S.h.blk.get b':=by
  intro b' hne;rw [←hL];show (S.h.blk.set b _).get b'=_;rw [T.get_set,if_neg (fun e=>hne e.symm)]
 have hbn:b<S.h.nx:=by
  rcases Nat.lt_or_ge b S.h.nx with q|q
  ·exact q
  ·exfalso
   rcases Nat.lt_or_ge b h.nx with q2|q2
   ·have:=iv.ex.nx;omega
   ·exact fx.live (fx.hwf b q2)
 have hwfh:WF hh:=by
  intro b' hb';rw [hnx] at hb';rw [gbs b' (by omega)]
  exact fx.swf b' hb'
 have e1:Ex0 ρ σ h hh w0 w:=iv.ex.tgt (Nat.le_of_eq hnx.symm) (fun b' hb'=>by
  by_cases e:b'=b
  ·subst e;exact .inr fx.live
  ·rw [gbs b' e] at hb';exact .inl hb')
 have drop:∀b',S.h.blk.get b'=none∨S.h.blk.get b'=hh.blk.get b':=by
  intro b';by_cases e:b'=b
  ·subst e;exact .inl fx.dead
  ·exact .inr (gbs b' e).symm
 have hbl:base.cb<w.heap.size:=iv.hr.lt b base iv.rb;have walk:=UP (bs:=bs) hE iv.fr iv.cs iv.hr iv.rb iv.rm fx.h0 iv.ob iv.ap iv.im fx.dead fx.gm fx.old fx.at';rw [hL] at walk;rcases walk with ⟨hq0,hfin⟩|⟨e,he,hfin⟩
 ·refine .inl ⟨hq0,fun fr' hf=>?_⟩
  obtain ⟨σ',c',ccs',w',q1,q2,q3⟩:=hfin fr' hf;refine ⟨σ',c',ccs',w',Steps.one q1,q2.fr,q2.cs,q2.h.restrict drop,?_⟩
  exact (e1.trans q3.ex fx.hwf hwfh hwfh (fun b' h1 h2=>fx.free b' h1 (by have:=fx.nxN;simp only [hnx] at h2;omega))).tgt (Nat.le_of_eq hnx) (fun b' hb'=>by
   rcases drop b' with q|q
   ·exact absurd q hb'
   ·rw [q] at hb';exact .inl hb')
 ·refine .inr ⟨e,he,fun R hR=>?_⟩
  obtain ⟨R',hR',hRcs,hRn,hRN⟩:=hq e he;rw [hR] at hR';cases hR';unfold Ey at hR;split at hR
  ·rename_i fr' hf;obtain ⟨σ1,c1,ccs1,w1,q1,q2,q3⟩:=hfin fr' hf
   have putn:∀b',b'≠b→(hh.put b (.mapIter (some m) since (L++[e.born]) clock)).blk.get b'=S.h.blk.get b':=by
    intro b' hne;show (hh.blk.set b _).get b'=_;rw [T.get_set,if_neg (fun e=>hne e.symm)]
    exact gbs b' hne
   have drop1:∀b',S.h.blk.get b'=none∨S.h.blk.get b'=(hh.put b (.mapIter (some m) since (L++[e.born]) clock)).blk.get b':=by
    intro b';by_cases e:b'=b
    ·subst e;exact .inl fx.dead
    ·exact .inr (putn b' e).symm
   have hr1:HR σ1 S.h.blk.get w1:=q2.h.restrict drop1;have rb1:=q3.le.m _ _ iv.rb;have rm1:=q3.le.m _ _ iv.rm
   have ob1:w1.heap[base.cb]?=some (.mapIter (some bm.cb) since (L++[e.born]).toArray clock):=by
    have:=q2.h.blk b base (.mapIter (some m) since (L++[e.born]) clock) rb1 (by show (hh.blk.set b _).get b=_;rw [T.get_set,if_pos rfl])
    obtain ⟨_,bm',h1,h2⟩:=this;rw [rm1] at h1;cases h1;exact h2
   have wfp:WF (hh.put b (.mapIter (some m) since (L++[e.born]) clock)):=by
    intro b' hb';have hb':hh.nx≤b':=hb';rw [putn b' (by omega)]
    exact fx.swf b' (by omega)
   have new1:∀b' x,σ1 b'=some x→σ b'=some x:=by
    intro b' x hx;rcases q3.new b' x hx with q|⟨h1,h2,_⟩
    ·exact q
    ·have h2:b'<hh.nx:=h2;omega
   have ap1:∀b' x,σ1 b'=some x→S.h.blk.get b'≠none→x.cb≠base.cb:=fun b' x hx hl=>iv.ap b' x (new1 b' x hx) hl
   have hsz:w.heap.size≤w1.heap.size:=q3.calm.size
   have im1:∀k arr,σ1.imm k=some arr→base.cb≠k:=by
    intro k arr hk;have:=q2.h.off k arr b base hk rb1 (by show (hh.blk.set b _).get b≠none;rw [T.get_set,if_pos rfl];simp)
    exact this
   have ex1:Ex0 ρ σ1 h S.h w0 w1:=by
    refine (e1.trans q3.ex fx.hwf hwfh wfp (fun b' h1 h2=>fx.free b' h1 (by have:=fx.nxN;have h2:b'<hh.nx:=h2;omega))).tgt (Nat.le_of_eq hnx) (fun b' hb'=>?_)
    rcases drop1 b' with q|q
    ·exact absurd q hb'
    ·rw [q] at hb';exact .inl hb'
   have free1:Ax σ1 S.h.nx N:=fun b' h1 h2=>by
    cases hx:σ1 b' with
    |none=>rfl
    |some x=>have:=new1 b' x hx;rw [iv.free b' h1 h2] at this;cases this
   have back:(L++[e.born]).toArray.back?=some e.born:=by simp
   obtain ⟨τ,c2,ccs2,w2,p1,p2,p3⟩:=Rf hE hO hF fx.h0 back F {fr:=fr',cs:=[],h:={S.h with log:=[]}} R σ1 c1 [] w1 ⟨q2.fr,.nil,hr1⟩ fx.swf hR (fun b' h1 h2=>free1 b' h1 (by omega)) rb1 rm1 ob1 ap1 (ccs1++bs)
   have hc2:ccs2=[]:=by
    have:=p2.cs;rw [hRcs] at this;cases this;rfl
   subst hc2;obtain ⟨o2,a2⟩:=Nl p3 (fun b' h1 h2=>free1 b' h1 (by omega)) ob1 ap1
   have rwf:WF R.h:=p3.wf fx.swf;have p3e:Ex0 σ1 τ S.h R.h w1 w2:=⟨p3.le,p3.nx,p3.new,p3.calm,p3.kept,p3.live,p3.imm⟩;refine ⟨σ1,τ,c2,ccs1,w2,Steps.trans (Steps.one q1) (by simpa using p1),⟨p2.fr,q2.cs,p2.h,rb1,rm1,o2,a2,?_,⟨w1,ex1⟩,ex1.trans p3e fx.hwf fx.swf rwf (fun b' h1 h2=>fx.free b' h1 (by omega)),p3.le,free1,p3e.free free1,?_,?_,rwf,?_⟩⟩
   ·intro k arr hk;rcases p3.imm k arr hk with q|q|⟨b0,x0,h1,h2,h3⟩
    ·exact im1 k arr q
    ·have:=(Array.getElem?_eq_some_iff.1 ob1).1;omega
    ·rw [←h3];exact fun q=>ap1 b0 x0 h1 h2 q.symm
   ·obtain ⟨l,hl,hl'⟩:=p3.log;intro b' hb' hr';have hl:R.h.log=l++[]:=hl;rw [List.append_nil] at hl;exact hl' b' (by rw [←hl];exact hb') hr'
   ·intro b' x hx;rcases p3.new b' x hx with q|⟨h1,h2,_⟩
    ·exact .inl q
    ·exact .inr ⟨h1,h2⟩
   ·cases hx:R.h.blk.get b with
    |none=>rfl
    |some y=>
     rcases p3.live b (by rw [hx];simp) with q|⟨q1,_⟩
     ·exact absurd fx.dead q
     ·have q1:S.h.nx≤b:=q1;omega
  ·cases hR
theorem Og {b m since clock N born:Nat} {es:List Ak} {base bm:Bf} {S R:AS} {ρ:Ren} {h:Aa} {w0:World} (fx:Q7 S ρ h b m since clock N es base) {σ:Ren} {L:List Nat} {c:Frame} {ccs:List Frame} {w:World} {σ1 τ:Ren} {c2:Frame} {ccs1:List Frame} {w2:World}
  (q:dQ S R ρ h w0 b m since clock N born base bm σ L c ccs w σ1 τ c2 ccs1 w2) (hs:II S.fr R.fr=true) (hu:Jv S R=true) (hN:R.h.nx≤N):RO S ρ h w0 b m since clock N base bm (τ.cut S.h.nx N) (L++[born]) c2 ccs1 w2:=by
 have hlt:=fx.lt;simp only [QT,Bool.and_eq_true] at hlt;simp only [Jv,Bool.and_eq_true] at hu
 have same:∀b' x,S.h.blk.get b'=some x→R.h.blk.get b'=some x:=by
  intro b' x hx
  have hb':b'<S.h.nx:=by
   rcases Nat.lt_or_ge b' S.h.nx with q|q
   ·exact q
   ·rw [fx.swf b' q] at hx;cases hx
  by_cases hm:b'∈R.h.log
  ·exact Nf hu.2 b' hm hb' x hx
  ·rw [q.log b' hm (.inl hb')];exact hx
 have hle:=Ren.le_cut q.le q.free1;obtain ⟨w1,e1⟩:=q.ex1
 refine ⟨q.fr.place hs (fun i x hx=>(q.fr.tm.get i x (Fk hu.1 i x hx)).cut (T.allA_get hlt.1 i x hx)),q.cs.mono hle,(q.hr.weaken (fun b' x _ hx=>same b' x hx)).cut (fun b' x hx=>T.allA_get hlt.2 b' x hx),hle.m _ _ q.rb,hle.m _ _ q.rm,q.ob,
  fun b' x hx hl=>q.ap b' x (Ren.cut_some hx) ?_,q.im,e1.back q.ex2 q.le q.free1 (fun b' x hx=>(q.new b' x hx).imp id (fun ⟨h1,h2⟩=>⟨h1,by omega⟩)),Ren.cut_free _ _ _⟩
 cases hy:S.h.blk.get b' with
 |none=>exact absurd hy hl
 |some y=>rw [same b' y hy];simp
def VV (E:Env) (S:AS) (ρ:Ren) (h:Aa) (w0:World) (bs:List Frame) (c:Frame) (ccs:List Frame) (w:World) (fr':AF):Prop:=
 ∃σ' c' ccs' w',Steps E.P (lone c (ccs++bs) w) (lone c' (ccs'++bs) w')∧FrR σ' fr' c'∧FrL σ' S.cs ccs'∧HR σ' S.h.blk.get w'∧Ex0 ρ σ' h S.h w0 w'
include hE hO in
theorem NM {callF:Ask→Aa→Option (Bool×AV×Aa)} (hF:Dv E callF) {F b m since clock N:Nat} {es:List Ak} {base bm:Bf} {S:AS} {ρ:Ren} {h:Aa} {w0:World} (fx:Q7 S ρ h b m since clock N es base) {L0:List Nat}
  (hq:∀e∈Bb L0 es,∃R,Ey E callF F b m clock S e=some R∧R.cs=[]∧II S.fr R.fr=true∧S.h.nx≤R.h.nx∧R.h.nx≤N∧Jv S R=true) {fr':AF} (hf:AP S.fr (.tuple [.bool false])=some fr') (bs:List Frame) :
  ∀(n:Nat) (L:List Nat) (σ:Ren) (c:Frame) (ccs:List Frame) (w:World),(Bb L es).length<n→(∀x∈L0,x∈L)→RO S ρ h w0 b m since clock N base bm σ L c ccs w→VV E S ρ h w0 bs c ccs w fr':=by
 intro n
 induction n with
 |zero=>intro L σ c ccs w hn;omega
 |succ n ih=>
  intro L σ c ccs w hn hL iv
  have hin:∀e∈Bb L es,e∈Bb L0 es:=fun e he=>by
   have:=BG.1 he;exact BG.2 ⟨this.1,fun q=>this.2 (hL _ q)⟩
  rcases Nh hE hO hF (F:=F) fx iv (fun e he=>by obtain ⟨R,a1,a2,a3,a4,a5,a6⟩:=hq e (hin e he);exact ⟨R,a1,a2,a4,a5⟩) bs with ⟨_,q⟩|⟨e,he,q⟩
  ·exact q fr' hf
  ·obtain ⟨R,a1,a2,a3,a4,a5,a6⟩:=hq e (hin e he);obtain ⟨σ1,τ,c2,ccs1,w2,p1,p2⟩:=q R a1;have iv2:=Og fx p2 a3 a6 a5;obtain ⟨σ',c',ccs',w',r1,r2⟩:=ih (L++[e.born]) _ c2 ccs1 w2 (by have:=GW he;omega) (fun x hx=>List.mem_append_left _ (hL x hx)) iv2
   exact ⟨σ',c',ccs',w',Steps.trans p1 r1,r2⟩
include hE hO in
theorem TS {callF:Ask→Aa→Option (Bool×AV×Aa)} (hF:Dv E callF) {F b m since clock N:Nat} {es:List Ak} {base bm:Bf} {S R:AS} {ρ:Ren} {h:Aa} {w0:World} (fx:Q7 S ρ h b m since clock N es base) {e0:Ak} (he0:e0∈es) (hR0:Ey E callF F b m clock S e0=some R) (hun:Jv S R=false) (hinj:∀e∈es,e.born=e0.born→e=e0)
  (hq:∀e∈es,∃R',Ey E callF F b m clock S e=some R'∧R'.cs=[]∧II S.fr R'.fr=true∧S.h.nx≤R'.h.nx∧R'.h.nx≤N∧(Jv S R'=true∨(some (e0,R)=some (e,R')∧Jv S R'=false)))
  {S1:AS} (hS1:S1={fr:={S.fr with tmps:=Dt S.fr.tmps R.fr.tmps},cs:=S.cs,h:={R.h with log:=R.h.log++S.h.log}}) (hat:DD b S1.fr=true) (hlt:QT S1=true) (hml:Gq m R.h.log=false)
  (hq1:∀e∈HK e0.born es,∃R',Ey E callF F b m clock S1 e=some R'∧R'.cs=[]∧II S1.fr R'.fr=true∧S1.h.nx≤R'.h.nx∧R'.h.nx≤N∧Jv S1 R'=true) {fr':AF} (hf:AP S1.fr (.tuple [.bool false])=some fr') (bs:List Frame) :
  ∀(n:Nat) (L:List Nat) (σ:Ren) (c:Frame) (ccs:List Frame) (w:World),(Bb L es).length<n→e0.born∉L→RO S ρ h w0 b m since clock N base bm σ L c ccs w→
   VV E S1 ρ h w0 bs c ccs w fr'∧(∀b',b'∉R.h.log→(b'<S.h.nx∨R.h.nx≤b')→R.h.blk.get b'=S.h.blk.get b'):=by
 intro n
 induction n with
 |zero=>intro L σ c ccs w hn;omega
 |succ n ih=>
  intro L σ c ccs w hn hL iv;rcases Nh hE hO hF (F:=F) fx iv (fun e he=>by obtain ⟨R,a1,a2,a3,a4,a5,a6⟩:=hq e (BG.1 he).1;exact ⟨R,a1,a2,a4,a5⟩) bs with ⟨q0,_⟩|⟨e,he,q⟩
  ·have:=BG.2 ⟨he0,hL⟩;rw [q0] at this;cases this
  ·obtain ⟨R',a1,a2,a3,a4,a5,a6⟩:=hq e (BG.1 he).1;obtain ⟨σ1,τ,c2,ccs1,w2,p1,p2⟩:=q R' a1;rcases a6 with a6|⟨a6,a7⟩
   ·have hne:e0.born∉L++[e.born]:=by
     intro q;rcases List.mem_append.1 q with q|q
     ·exact hL q
     ·simp only [List.mem_singleton] at q;have e1:=hinj e (BG.1 he).1 q.symm;subst e1;rw [hR0] at a1;cases a1;rw [hun] at a6;cases a6
    have iv2:=Og fx p2 a3 a6 a5;obtain ⟨⟨σ',c',ccs',w',r1,r2⟩,r3⟩:=ih (L++[e.born]) _ c2 ccs1 w2 (by have:=GW he;omega) hne iv2
    exact ⟨⟨σ',c',ccs',w',Steps.trans p1 r1,r2⟩,r3⟩
   ·simp only [Option.some.injEq,Prod.mk.injEq] at a6;obtain ⟨rfl,rfl⟩:=a6
    have hmn:m∉R.h.log:=by
     intro q
     have:∀l:List Nat,m∈l→Gq m l=true:=by
      intro l
      induction l with
      |nil=>intro h;cases h
      |cons a l ih=>intro h;unfold Gq;rcases List.mem_cons.1 h with rfl|h<;>simp [*]
     rw [this _ q] at hml;cases hml
    have hmlt:m<S.h.nx:=by
     rcases Nat.lt_or_ge m S.h.nx with q|q
     ·exact q
     ·have:=fx.gm;rw [fx.swf m q] at this;cases this
    have fx1:Q7 S1 ρ h b m since clock N es base:=by
     subst hS1;exact ⟨fx.h0,fx.hwf,p2.rwf,p2.dead,fx.live,by show R.h.blk.get m=_;rw [p2.log m hmn (.inl hmlt)];exact fx.gm,fx.old,hat,hlt,a5,fx.free⟩
    have iv1:RO S1 ρ h w0 b m since clock N base bm τ (L++[e0.born]) c2 ccs1 w2:=by
     subst hS1;exact ⟨p2.fr.place (f:={S.fr with tmps:=Dt S.fr.tmps R.fr.tmps}) a3 (fun i x hx=>p2.fr.tm.get i x (GB hx)),p2.cs.mono p2.le,p2.hr,p2.le.m _ _ p2.rb,p2.le.m _ _ p2.rm,p2.ob,p2.ap,p2.im,p2.ex2.tgt (Nat.le_refl _) (fun b' hb'=>.inl hb'),p2.free2⟩
    obtain ⟨σ',c',ccs',w',r1,r2⟩:=NM hE hO hF fx1 (L0:=L++[e0.born]) (fun e he=>hq1 e (by
     have:=BG.1 he;exact Gp this.1 (fun q=>this.2 (by rw [q];simp)))) hf bs ((Bb (L++[e0.born]) es).length+1) (L++[e0.born]) τ c2 ccs1 w2 (by omega) (fun x hx=>hx) iv1
    exact ⟨⟨σ',c',ccs',w',Steps.trans p1 r1,r2⟩,p2.log⟩
include hE hO in
theorem N0 {callF:Ask→Aa→Option (Bool×AV×Aa)} (hF:Dv E callF) {F:Nat} {ρ:Ren} {s s':AS} {c:Frame} {ccs:List Frame} {w:World} (hsr:SR ρ s c ccs w) (hwf:WF s.h) (hx:QE E callF F s=some s') (hfree:Ax ρ s.h.nx s'.h.nx) (bs:List Frame) :
  ∃σ c' ccs' w',Steps E.P (lone c (ccs++bs) w) (lone c' (ccs'++bs) w')∧SR σ s' c' ccs' w'∧Ext ρ σ s.h s'.h w w':=by
 unfold QE at hx;split at hx
 ·cases hx
 rename_i b m es clock hit;obtain ⟨since,hat0,hgb,hgm,hold,hinc,hmb⟩:=Vk hit;obtain ⟨all,o,r,k,it,hmf,ht,hgd,hop,hev⟩:=Lw hat0;have hvi:=hsr.fr.evR it;rw [hev] at hvi
 obtain ⟨base,hb⟩:∃base,ρ b=some base:=by
  generalize c.eval it=cv at hvi;generalize hq:AV.ptr b 0=q at hvi;cases hvi<;>first | (cases hq;done)|skip
  cases hq;exact ⟨_,‹_›⟩
 obtain ⟨h0,bm,hm,ho⟩:=hsr.h.blk b base _ hb hgb;generalize hS:({s with fr:={s.fr with tmps:=Qr (Sj s.fr.todo) s.fr.tmps},h:=s.h.strike b}:AS)=S at hx
 have hSn:S.h.nx=s.h.nx:=by rw [←hS];rfl
 have hSb:∀b',S.h.blk.get b'=if b=b' then none else s.h.blk.get b':=fun b'=>by rw [←hS];exact T.get_del _ _ _
 have hScs:S.cs=s.cs:=by rw [←hS]
 have hSlog:S.h.log=b::s.h.log:=by rw [←hS];rfl
 have swf:WF S.h:=fun b' hb'=>by
  rw [hSb];split
  ·rfl
  ·exact hwf b' (by omega)
 have iv0:∀N,Ax ρ s.h.nx N→RO S ρ s.h w b m since clock N base bm ρ [] c ccs w:=by
  intro N hN;refine ⟨?_,by rw [hScs];exact hsr.cs,hsr.h.restrict (fun b'=>?_),hb,hm,ho,fun b' x hx hl=>?_,fun k arr hk=>hsr.h.off k arr b base hk hb (by rw [hgb];simp),?_,by rw [hSn];exact hN⟩
  ·rw [←hS];exact ⟨hsr.fr.fn,⟨hsr.fr.tm.size,fun i x hx=>hsr.fr.tm.get i x (Ln hx)⟩,hsr.fr.todo,hsr.fr.defers,hsr.fr.mode,hsr.fr.kind,hsr.fr.round⟩
  ·rw [hSb];split
   ·exact .inl rfl
   ·exact .inr rfl
  ·rw [hSb] at hl;split at hl
   ·exact absurd rfl hl
   ·rename_i hne;exact hsr.h.apart b' b x base (fun e=>hne e.symm) hx hb hl (by rw [hgb];simp)
  ·exact (Ext.refl ρ s.h w).ex.tgt (Nat.le_of_eq hSn.symm) (fun b' hl=>by
    rw [hSb] at hl;split at hl
    ·exact absurd rfl hl
    ·exact .inl hl)
 have fxOf:∀N,S.h.nx≤N→Ax ρ s.h.nx N→DD b S.fr=true→QT S=true→Q7 S ρ s.h b m since clock N es base:=by
  intro N h1 h2 h3 h4;exact ⟨h0,hwf,swf,by rw [hSb,if_pos rfl],by rw [hgb];simp,by rw [hSb,if_neg (fun e=>hmb e.symm)];exact hgm,hold,h3,h4,h1,h2⟩
 unfold VW at hx;split at hx
 ·
  rename_i n hat hgo;rw [Bool.and_eq_true] at hat;obtain ⟨g1,g2⟩:=FH hgo;unfold Jf at hx;split at hx
  ·rename_i fr' hf;cases hx;have fx:=fxOf n g1 hfree hat.1 hat.2
   obtain ⟨σ,c',ccs',w',r1,r2,r3,r4,r5⟩:=NM hE hO hF fx (L0:=[]) (fun e he=>by
    obtain ⟨R,a1,a2,a3,a4,a5,a6⟩:=g2 e (BG.1 he).1;refine ⟨R,a1,a2,a3,a4,a5,?_⟩;rcases a6 with q|⟨q,_⟩
    ·exact q
    ·cases q) hf bs _ [] ρ c ccs w (Nat.lt_succ_self _) (fun x hx=>hx) (iv0 n hfree)
   refine ⟨σ,c',ccs',w',r1,⟨r2,r3,r4⟩,(r5.tgt (h2:={S.h with nx:=n}) g1 (fun b' hb'=>.inl hb')).ext ⟨[b],hSlog,fun b' hb' _=>?_⟩⟩
   simp only [List.mem_singleton] at hb';show S.h.blk.get b'=_;rw [hSb,if_neg (fun e=>hb' e.symm)]
  ·cases hx
 ·
  rename_i e R n hat hgo;rw [Bool.and_eq_true] at hat;obtain ⟨g1,g2⟩:=FH hgo;obtain ⟨s1,s2,s3⟩:=Ix hgo;generalize hS1:({fr:={S.fr with tmps:=Dt S.fr.tmps R.fr.tmps},cs:=S.cs,h:={R.h with log:=R.h.log++S.h.log}}:AS)=S1 at hx
  have hS1':S1={fr:={S.fr with tmps:=Dt S.fr.tmps R.fr.tmps},cs:=S.cs,h:={R.h with log:=R.h.log++S.h.log}}:=hS1.symm
  unfold Tp at hx;split at hx
  ·rename_i n1 hat1 hgo1;simp only [Bool.and_eq_true,Bool.not_eq_true'] at hat1;obtain ⟨k1,k2⟩:=FH hgo1;unfold Jf at hx;split at hx
   ·rename_i fr' hf;cases hx;have fx:=fxOf (max n n1) (by omega) hfree hat.1 hat.2
    obtain ⟨R2,a1,_,_,_,a5,_⟩:=g2 e s1;rw [s2] at a1;cases a1
    obtain ⟨⟨σ,c',ccs',w',r1,r2,r3,r4,r5⟩,r6⟩:=TS hE hO hF fx s1 s2 s3 (fun e' he' hb'=>(MW hinc).2 e' he' e s1 hb') (fun e' he'=>by
     obtain ⟨R',a1,a2,a3,a4,a5,a6⟩:=g2 e' he';exact ⟨R',a1,a2,a3,a4,by omega,a6⟩) hS1' hat1.1 hat1.2.1 hat1.2.2 (fun e' he'=>by
     obtain ⟨R',a1,a2,a3,a4,a5,a6⟩:=k2 e' he';refine ⟨R',a1,a2,a3,a4,by omega,?_⟩
     rcases a6 with q|⟨q,_⟩
     ·exact q
     ·cases q) hf bs _ [] ρ c ccs w (Nat.lt_succ_self _) (by simp) (iv0 _ hfree)
    refine ⟨σ,c',ccs',w',r1,⟨r2,r3,r4⟩,(r5.tgt (h2:={S1.h with nx:=max n n1}) (by rw [show S1.h.nx=R.h.nx by rw [hS1']];exact Nat.le_trans a5 (Nat.le_max_left n n1)) (fun b' hb'=>.inl hb')).ext ⟨R.h.log++[b],?_,fun b' hb' hr'=>?_⟩⟩
    ·rw [hS1'];show R.h.log++S.h.log=_;rw [hSlog];simp
    ·simp only [List.mem_append,List.mem_singleton,not_or] at hb'
     have:S1.h.blk.get b'=S.h.blk.get b':=by
      rw [hS1'];refine r6 b' hb'.1 ?_;rcases hr' with q|q
      ·left;omega
      ·right;have q:max n n1≤b':=q;omega
     show S1.h.blk.get b'=_;rw [this,hSb,if_neg (fun e=>hb'.2 e.symm)]
   ·cases hx
  ·cases hx
 ·cases hx
end
end Go.AE
namespace Go.AE
variable [Gl:Au]
variable [U:Unk]
section
variable {E:Env} (hE:OK E) (hO:Ad E U.V.fn)
include hE hO
theorem Ss:∀(f:Nat) (f0:FuncId) (rd:Bool) (s:AS) (ρ:Ren) (c:Frame) (ccs:List Frame) (w:World) (ok:Bool) (v:AV) (h:Aa),SR ρ s c ccs w→WF s.h→EP E f f0 rd s=some (ok,v,h)→Ax ρ s.h.nx h.nx→
  ∀base:List Frame,∃σ cf v' w1 w',Steps E.P (lone c (ccs++base) w) (lone cf base w1)∧cf.fn=f0∧(rd=false→cf.roundOf=none)∧IU E.P cf w1 ok v' w'∧VR σ v v'∧HR σ h.blk.get w'∧Ext ρ σ s.h h w w':=by
 intro f
 induction f with
 |zero=>intro f0 rd s ρ c ccs w ok v h hsr hwf hx;cases hx
 |succ f ih=>
  intro f0 rd s ρ c ccs w ok v h hsr hwf hx hfree base
  have go:∀(s':AS) (σ:Ren) (c':Frame) (ccs':List Frame) (w1:World),Steps E.P (lone c (ccs++base) w) (lone c' (ccs'++base) w1)→SR σ s' c' ccs' w1→Ext ρ σ s.h s'.h w w1→EP E f f0 rd s'=some (ok,v,h)→
    ∃σ cf v' w1 w',Steps E.P (lone c (ccs++base) w) (lone cf base w1)∧cf.fn=f0∧(rd=false→cf.roundOf=none)∧IU E.P cf w1 ok v' w'∧VR σ v v'∧HR σ h.blk.get w'∧Ext ρ σ s.h h w w':=by
   intro s' σ c' ccs' w1 h1 h2 h3 h4;obtain ⟨τ,cf,v',w2,w',q1,q2,q3,q4,q5,q6,q7⟩:=ih f0 rd s' σ c' ccs' w1 ok v h h2 (h3.wf hwf) h4 (h3.free hfree) base;exact ⟨τ,cf,v',w2,w',Steps.trans h1 q1,q2,q3,q4,q5,q6,h3.trans q7 hfree⟩
  have hC:∀(fr:AF) (g g':Aa) (ok:Bool) (v:AV) (ρ:Ren) (cf:Frame) (w:World),FrR ρ fr cf→HR ρ g.blk.get w→WF g→EP E f fr.fn true {fr,cs:=[],h:=g}=some (ok,v,g')→Ax ρ g.nx g'.nx→
    ∀(c0:Frame) (base:List Frame),∃σ v' w',BK E.P (lone cf (c0::base) w) c0 base ok v' w'∧VR σ v v'∧HR σ g'.blk.get w'∧Ext ρ σ g g' w w':=by
   intro fr g g' ok v ρ cf w hfr hr hwf hx hfree c0 base;obtain ⟨σ,cf',v',w1,w',q1,q2,q3,q4,q5,q6,q7⟩:=ih fr.fn true {fr,cs:=[],h:=g} ρ cf [] w ok v g' ⟨hfr,.nil,hr⟩ hwf hx hfree (c0::base);refine ⟨σ,v',w',?_,q5,q6,q7⟩;have:=Steps.trans q1 (Steps.one (q4.back c0 base));cases ok<;>exact this
  have hF:Dv E (Ki E (EP E f)):=by
   refine ⟨?_,?_⟩
   ·intro f' args args' g g' ok v ρ w ha hr hwf hx hfree;simp only [Ki] at hx;split at hx
    ·rename_i r hfind;cases hx;exact Dz hE hO hfind ha hr hwf hfree
    ·split at hx
     ·rename_i fr hfr;exact hC fr g g' ok v ρ _ w (Cp hE hfr ha) hr hwf hx hfree
     ·cases hx
   ·intro l args g g' ok v ρ w hr hwf hx hfree;simp only [Ki] at hx;split at hx
    ·rename_i fr hfr;exact ⟨fr,hfr,fun cf hcf=>hC fr g g' ok v ρ cf w hcf hr hwf hx hfree⟩
    ·cases hx
  simp only [EP] at hx;split at hx
  ·rename_i s' htop;split at hx
   ·rename_i hb;have hmono:=BE f f0 rd s' ok v h hx;obtain ⟨σ,cf',ccs',w',q1,q2,q3⟩:=Ji hE hO hsr hwf htop (fun b h1 h2=>hfree b h1 (by omega)) base
    exact go s' σ cf' ccs' w' q1 q2 q3 hx
   ·cases hx
  split at hx
  ·rename_i s' hst;split at hx
   ·rename_i hb;have hmono:=BE f f0 rd s' ok v h hx;obtain ⟨σ,cf',ccs',w',q1,q2,q3⟩:=Ff (base:=base) hE hsr hst (fun b h1 h2=>hfree b h1 (by omega))
    exact go s' σ cf' ccs' w' (Steps.one q1) q2 q3 hx
   ·cases hx
  ·rename_i ok' v' h' hst;split at hx
   ·rename_i hb;simp only [Option.some.injEq,Prod.mk.injEq] at hx;obtain ⟨rfl,rfl,rfl⟩:=hx;obtain ⟨rfl,x,w',q1,q2,q3,q4⟩:=GA hE hsr hst;obtain ⟨b1,b2⟩:=Am hb;have hfn:=Aq (Am b1).2;refine ⟨ρ,c,x,w,w',Steps.refl _ _,hsr.fr.fn.trans hfn,fun hrd=>?_,q4,q1,q2,q3⟩
    subst hrd;have hround:=hsr.fr.round;simp only [Bool.false_or,Option.isNone_iff_eq_none] at b2;rw [b2] at hround;exact hround.none_inv
   ·cases hx
  ·rename_i s2 ops k hst;obtain ⟨rfl,hm,id,ht⟩:=Ce hst;split at hx
   ·rename_i tmps h1 hd;have hmono:=BE f f0 rd _ ok v h hx;obtain ⟨σ,c',w',q1,q2,q3⟩:=EM hE hF hsr hwf hm ht hd (fun b a1 a2=>hfree b a1 (Nat.lt_of_lt_of_le a2 hmono)) base
    exact go _ σ c' ccs w' q1 q2 q3 hx
   ·rename_i v1 tmps h1 hd;have hmono:=BE f f0 rd _ ok v h hx;obtain ⟨σ,c',w',q1,q2,q3⟩:=EM hE hF hsr hwf hm ht hd (fun b a1 a2=>hfree b a1 (Nat.lt_of_lt_of_le a2 hmono)) base
    exact go _ σ c' ccs w' q1 q2 q3 hx
   ·cases hx
  ·split at hx
   ·rename_i s' hl;split at hx
    ·rename_i hb;have hmono:=BE f f0 rd s' ok v h hx;obtain ⟨σ,cf',ccs',w',q1,q2,q3⟩:=N0 hE hO hF hsr hwf hl (fun b h1 h2=>hfree b h1 (by omega)) base
     exact go s' σ cf' ccs' w' q1 q2 q3 hx
    ·cases hx
   split at hx
   ·rename_i al hal;obtain ⟨j1,j2,j3,j4⟩:=NX hx;obtain ⟨s',hmem,hnx,σ,cf',ccs',w',q1,q2,q3⟩:=Uu hE hsr hal base;obtain ⟨h',hr',hn'⟩:=j4 _ (List.mem_map.2 ⟨s',hmem,rfl⟩);have hfree':Ax ρ s.h.nx h'.nx:=by rw [hn'];exact hfree
    obtain ⟨τ,cf,v',w2,w3,t1,t2,t3,t4,t5,t6,t7⟩:=ih f0 rd s' σ cf' ccs' w' ok v h' q2 (q3.wf hwf) hr' (q3.free hfree') base;have e:=q3.trans t7 hfree';refine ⟨τ,cf,v',w2,w3,Steps.trans (Steps.one q1) t1,t2,t3,t4,t5,t6.restrict (fun b=>.inl (by rw [j1];exact T.get_nil _)),⟨e.le,j3,fun b bs hb=>by rw [←hn'];exact e.new b bs hb,e.calm,e.kept,⟨_,j2,fun b hb hlt=>?_⟩,fun b hb=>absurd (by rw [j1];exact T.get_nil _) hb,e.imm⟩⟩
    rw [j1,T.get_nil];refine Eq.symm ?_;by_cases hbn:b<s.h.nx
    ·exact JU s.h s.h.nx b hbn hb
    ·exact hwf b (by omega)
   ·cases hx
end
theorem Orc.valid {E:Env} (hE:∀[U:Unk],U.K=(Env.of E.P).kinds→OK E) {G:Nat→D→D} (hO:Ad E G) {N:Nat} {e:Orc} (h:∀[F:Facts],Ph E N e=true):e.Valid E.P G:=by
 intro U hK hG ρ w args' ha hr hwf hfree c0 base;have hE:=hE hK;subst hG;have hx:=h (F:=U.toFacts);unfold Ph at hx;split at hx
 ·rename_i ok v g hcall;simp only [Bool.and_eq_true,beq_iff_eq] at hx;obtain ⟨⟨⟨⟨h1,h2⟩,h3⟩,h4⟩,h5⟩:=hx;have e4:=Nat.eq_of_beq_eq_true h4;unfold V5 at hcall;split at hcall
  ·rename_i fr hfr;obtain ⟨σ,cf,v',w1,w',q1,q2,q3,q4,q5,q6,q7⟩:=Ss hE hO N e.f false _ ρ _ [] w ok v g ⟨Cp hE hfr ha,.nil,hr⟩ hwf hcall (by show Ax ρ e.nx g.nx;rw [e4];exact hfree) (c0::base)
   refine ⟨σ,v',w',g,?_,Dk _ _ h2▸q5,q6,q7,ET h3,e4,MV h5⟩;rw [←h1];have:=Steps.trans q1 (Steps.one (q4.back c0 base));cases ok<;>exact this
  ·cases hcall
 ·cases hx
end Go.AE
namespace Go.AE
variable [Gl:Au]
structure PR where
 o:Oper
 looks:List Tmp
 mask:Nat
 free:List Nat
def eM (ms:List Nat):List Edge→Option Nat
 |[]=>some 0
 |e::r=>match eM ms r with
  |none=>none
  |some m=>match Region.binds .any e with
   |false=>some m
   |true=>match ms[e.on]? with
    |some x=>some (m ||| x ||| 2^e.on)
    |none=>none
def JS (m n:Nat):List Nat:=(List.range n).filter fun p=>!Nat.beq (m/2^(n-1-p)%2) 1
def V6 (all:Array Oper) (x y:Oper):Bool:=!Rs (A2 all y) x.dst && !Rs (A2 all x) y.dst && !Td x.dst y.dst
def V2 (all:Array Oper) (done:List Oper) (o:Oper) (l:List Nat):Bool:=l.all fun p=>match done[p]? with
 |some x=>V6 all x o
 |none=>false
def J6 (all:Array Oper):List Oper→List Nat→List Oper→Option (List PR)
 |[],_,_=>some []
 |o::rest,ms,done=>match eM ms o.after.toList with
  |none=>none
  |some m=>match V2 all done o (JS m done.length) with
   |false=>none
   |true=>match J6 all rest (ms++[m]) (o::done) with
    |none=>none
    |some l=>some (⟨o,A2 all o,m,JS m done.length⟩::l)
def Q0 (x y:Rc):Bool:=Gw x.wr y.fp&&Gw y.wr x.fp&&HT x.wr y.wr&&SA x.lo x.hi y.wr
def aZ (x y:Rc):Bool:=List.casesOn (motive:=fun _=>Bool) x.wr (List.casesOn (motive:=fun _=>Bool) y.wr true (fun _ _=>Q0 x y)) (fun _ _=>Q0 x y)
def ji (p:Nat):List Rc→Option Rc:=Nat.rec (motive:=fun _=>List Rc→Option Rc) (fun l=>List.casesOn (motive:=fun _=>Option Rc) l none (fun x _=>some x)) (fun _ ih l=>List.casesOn (motive:=fun _=>Option Rc) l none (fun _ r=>ih r)) p
def EE (y:Rc) (recs:List Rc):List Nat→Bool
 |[]=>true
 |p::r=>match ji p recs with
  |some x=>match aZ x y with
   |true=>EE y recs r
   |false=>false
  |none=>false
def mZ (n:Nat) (k:Nat→Aa):Aa:=Nat.casesOn (motive:=fun _=>Aa) n (k 0) (fun m=>k (Nat.succ m))
def LU (h g:Aa):Aa:=mZ g.nx fun n=>{blk:=GF (Fo h.blk g.blk (Bo h.nx g.log)) g.blk h.nx (n-h.nx),nx:=n,log:=Bo h.nx g.log++h.log}
def Mk (h g:Aa):Aa:=List.casesOn (motive:=fun _=>Aa) g.log (Bool.casesOn (motive:=fun _=>Aa) (Nat.beq g.nx h.nx) (LU h g) h) (fun _ _=>LU h g)
theorem RJ (h g:Aa):LU h g=AK h g:=by
 unfold LU AK mZ;cases g.nx<;>rfl
theorem Q6 (h g:Aa):Mk h g=AK h g:=by
 unfold Mk;rw [RJ];cases hl:g.log with
 |cons a r=>rfl
 |nil=>
  show (Bool.casesOn (motive:=fun _=>Aa) (Nat.beq g.nx h.nx) (AK h g) h:Aa)=AK h g
  cases hb:Nat.beq g.nx h.nx with
  |false=>rfl
  |true=>
   have he:g.nx=h.nx:=Nat.eq_of_beq_eq_true hb;show h=AK h g;unfold AK;rw [hl,he,Nat.sub_self];cases h;rfl
section
variable [U:Facts]
abbrev DrR:=Option (Option AV×T AV×Aa)
def Nq (E:Env) (callF:Ask→Aa→Option (Bool×AV×Aa)) (all:Array Oper) (nt:Nat) (F:Nat):List PR→List Rc→T AV→Aa→DrR:=
 Nat.rec (motive:=fun _=>List PR→List Rc→T AV→Aa→DrR) (fun _ _ _ _=>none) (fun _ ih l recs tmps h=>
  List.casesOn (motive:=fun _=>DrR) l (some (none,tmps,h)) (fun p rest=>
   Option.casesOn (motive:=fun _=>DrR) (CD E callF all p.o (AL tmps p.looks) h) none (fun d=>
    Bool.casesOn (motive:=fun _=>DrR) (Nat.ble h.nx d.g.nx) none (Bool.casesOn (motive:=fun _=>DrR) d.ok none
     (Bool.casesOn (motive:=fun _=>DrR) (EE {wr:=Bo h.nx d.g.log,fp:=d.fp,lo:=h.nx,hi:=d.g.nx,dst:=p.o.dst,looks:=p.looks,mask:=p.mask} recs p.free) none
      (Option.casesOn (motive:=fun _=>DrR) (DB nt tmps p.o.dst d.v) none (fun tmps'=>ih rest ({wr:=Bo h.nx d.g.log,fp:=d.fp,lo:=h.nx,hi:=d.g.nx,dst:=p.o.dst,looks:=p.looks,mask:=p.mask}::recs) tmps' (Mk h d.g)))))))) F
def St (E:Env) (callF:Ask→Aa→Option (Bool×AV×Aa)) (all:Array Oper) (nt:Nat) (tmps:T AV) (h:Aa):DrR:=
 Option.casesOn (motive:=fun _=>DrR) (Option.casesOn (motive:=fun _=>DrR) (J6 all all.toList [] []) none (fun pl=>Nq E callF all nt 100000 pl [] tmps h)) (Br E callF all nt all.toList [] tmps h) some
end
theorem ky (recs:List Rc):∀l:List Edge,eM (recs.map Rc.mask) l=Bs recs l:=by
 intro l
 induction l with
 |nil=>rfl
 |cons e r ih=>
  unfold eM Bs;rw [ih];cases Bs recs r with
  |none=>rfl
  |some m=>
   simp only;cases Region.binds .any e with
   |false=>rfl
   |true=>
    simp only [List.getElem?_map];cases recs[e.on]?<;>rfl
theorem UF:∀(p:Nat) (l:List Rc),ji p l=l[p]?:=by
 intro p
 induction p with
 |zero=>intro l;cases l<;>rfl
 |succ p ih=>intro l;cases l with
  |nil=>rfl
  |cons x r=>exact ih r
theorem UN {x y:Rc} (h:aZ x y=true):Q0 x y=true:=by
 unfold aZ at h;cases hx:x.wr with
 |cons a r=>rw [hx] at h;exact h
 |nil=>
  cases hy:y.wr with
  |cons a r=>rw [hx,hy] at h;exact h
  |nil=>
   unfold Q0;rw [hx,hy];cases x.fp<;>cases y.fp<;>rfl
theorem OX {y:Rc} {recs:List Rc}:∀{l:List Nat},EE y recs l=true→∀p∈l,∃x,recs[p]?=some x∧Q0 x y=true:=by
 intro l
 induction l with
 |nil=>intro _ p hp;cases hp
 |cons q r ih=>
  intro h p hp;unfold EE at h;split at h
  ·rename_i x hx;split at h
   ·rename_i hd;rcases List.mem_cons.1 hp with rfl|hp
    ·exact ⟨x,by rw [←UF];exact hx,UN hd⟩
    ·exact ih h p hp
   ·cases h
  ·cases h
theorem NJ {y:Rc}:∀(l:List Rc) (i:Nat),(∀j x,l[j]?=some x→(Nat.beq (y.mask/2^(i+j)%2) 1||x.apart y)=true)→Cz y l i=true:=by
 intro l
 induction l with
 |nil=>intro i _;rfl
 |cons x r ih=>
  intro i h;unfold Cz;have h0:=h 0 x rfl;rw [Nat.add_zero] at h0;rw [h0];exact ih (i+1) (fun j z hz=>by have:=h (j+1) z hz;rwa [show i+(j+1)=i+1+j from by omega] at this)
inductive RL2 (all:Array Oper):List Rc→List Oper→Prop
 |nil:RL2 all [] []
 |cons {x:Rc} {o:Oper} {l:List Rc} {l':List Oper} (hd:x.dst=o.dst) (hl:x.looks=A2 all o) (k:RL2 all l l'):RL2 all (x::l) (o::l')
theorem RL2.len {all:Array Oper} {l:List Rc} {l':List Oper} (h:RL2 all l l'):l.length=l'.length:=by
 induction h with
 |nil=>rfl
 |cons _ _ _ ih=>simp [ih]
theorem RL2.get {all:Array Oper} {l:List Rc} {l':List Oper} (h:RL2 all l l'):∀{p:Nat} {x:Rc},l[p]?=some x→∃o,l'[p]?=some o∧x.dst=o.dst∧x.looks=A2 all o:=by
 induction h with
 |nil=>intro p x hx;simp at hx
 |cons hd hl k ih=>
  intro p x hx;cases p with
  |zero=>simp at hx;subst hx;exact ⟨_,rfl,hd,hl⟩
  |succ p=>exact ih (by simpa using hx)
theorem TW {all:Array Oper} {recs:List Rc} {done:List Oper} {o:Oper} {y:Rc} {m:Nat} (hr:RL2 all recs done) (hym:y.mask=m) (hyd:y.dst=o.dst) (hyl:y.looks=A2 all o)
  (hs:V2 all done o (JS m done.length)=true) (hp:EE y recs (JS m done.length)=true):Cz y recs.reverse 0=true:=by
 refine NJ _ _ fun j x hx=>?_
 rw [Nat.zero_add,hym]
 have hj:j<recs.length:=by
  have:=(List.getElem?_eq_some_iff.1 hx).1;simpa using this
 have hx':recs[recs.length-1-j]?=some x:=by
  rw [List.getElem?_reverse (by simpa using hj)] at hx
  exact hx
 cases hb:Nat.beq (m/2^j%2) 1 with
 |true=>rfl
 |false=>
  have hmem:recs.length-1-j∈JS m done.length:=by
   unfold JS;rw [List.mem_filter,List.mem_range,←hr.len];refine ⟨by omega,?_⟩
   rw [show recs.length-1-(recs.length-1-j)=j from by omega,hb]
   rfl
  obtain ⟨x1,e1,e2⟩:=OX hp _ hmem;rw [hx'] at e1;cases e1;obtain ⟨o1,f1,f2,f3⟩:=hr.get hx';have hst:=List.all_eq_true.1 hs _ hmem;rw [f1] at hst;simp only [V6] at hst;rw [Bool.false_or];unfold Rc.apart;unfold Q0 at e2;rw [f2,f3,hyd,hyl];simp only [Bool.and_eq_true] at e2 hst ⊢;simp only [e2,hst,and_self]
section
variable [U:Facts]
theorem Pe {E:Env} {callF:Ask→Aa→Option (Bool×AV×Aa)} {all:Array Oper} {nt F:Nat} (p:PR) (rest:List PR) (recs:List Rc) (tmps:T AV) (h:Aa) :
  Nq E callF all nt (F+1) (p::rest) recs tmps h=(match CD E callF all p.o (AL tmps p.looks) h with
   |none=>none
   |some d=>match Nat.ble h.nx d.g.nx with
    |false=>none
    |true=>match d.ok with
     |false=>none
     |true=>match EE {wr:=Bo h.nx d.g.log,fp:=d.fp,lo:=h.nx,hi:=d.g.nx,dst:=p.o.dst,looks:=p.looks,mask:=p.mask} recs p.free with
      |false=>none
      |true=>match DB nt tmps p.o.dst d.v with
       |none=>none
       |some tmps'=>Nq E callF all nt F rest ({wr:=Bo h.nx d.g.log,fp:=d.fp,lo:=h.nx,hi:=d.g.nx,dst:=p.o.dst,looks:=p.looks,mask:=p.mask}::recs) tmps' (Mk h d.g)):=by
 show Option.casesOn (motive:=fun _=>DrR) (CD E callF all p.o (AL tmps p.looks) h) none _=_
 cases CD E callF all p.o (AL tmps p.looks) h with
 |none=>rfl
 |some d=>
  show Bool.casesOn (motive:=fun _=>DrR) (Nat.ble h.nx d.g.nx) none _=_
  simp only;cases Nat.ble h.nx d.g.nx with
  |false=>rfl
  |true=>
   show Bool.casesOn (motive:=fun _=>DrR) d.ok none _=_
   simp only;cases d.ok with
   |false=>rfl
   |true=>
    show Bool.casesOn (motive:=fun _=>DrR) (EE _ recs p.free) none _=_
    simp only;cases EE {wr:=Bo h.nx d.g.log,fp:=d.fp,lo:=h.nx,hi:=d.g.nx,dst:=p.o.dst,looks:=p.looks,mask:=p.mask} recs p.free with
    |false=>rfl
    |true=>
     show Option.casesOn (motive:=fun _=>DrR) (DB nt tmps p.o.dst d.v) none _=_
     simp only;cases DB nt tmps p.o.dst d.v with
     |none=>rfl
     |some tmps'=>rfl
theorem TX {E:Env} {callF:Ask→Aa→Option (Bool×AV×Aa)} {all:Array Oper} {nt:Nat}:∀(l:List Oper) (ms:List Nat) (done:List Oper) (pl:List PR) (F:Nat) (recs:List Rc) (tmps:T AV) (h:Aa) (r:Option AV×T AV×Aa),
  J6 all l ms done=some pl→ms=recs.reverse.map Rc.mask→RL2 all recs done→Nq E callF all nt F pl recs tmps h=some r→Br E callF all nt l recs.reverse tmps h=some r:=by
 intro l
 induction l with
 |nil=>
  intro ms done pl F recs tmps h r hp hm hr hd;cases hp;cases F with
  |zero=>cases hd
  |succ F=>exact hd
 |cons o rest ih=>
  intro ms done pl F recs tmps h r hp hm hr hd;unfold J6 at hp;split at hp
  ·cases hp
  ·rename_i m he;split at hp
   ·cases hp
   ·rename_i hst;split at hp
    ·cases hp
    ·rename_i pl' hpl;cases hp;cases F with
     |zero=>cases hd
     |succ F=>
      rw [hm,ky] at he;unfold Br;rw [he];rw [Pe] at hd;simp only at hd ⊢;cases hop:CD E callF all o (AL tmps (A2 all o)) h with
      |none=>rw [hop] at hd;cases hd
      |some d=>
       rw [hop] at hd;simp only at hd ⊢;cases hn:Nat.ble h.nx d.g.nx with
       |false=>rw [hn] at hd;cases hd
       |true=>
        rw [hn] at hd;simp only at hd;cases hok:d.ok with
        |false=>rw [hok] at hd;cases hd
        |true=>
         rw [hok] at hd;simp only at hd ⊢;cases hap:EE {wr:=Bo h.nx d.g.log,fp:=d.fp,lo:=h.nx,hi:=d.g.nx,dst:=o.dst,looks:=A2 all o,mask:=m} recs (JS m done.length) with
         |false=>rw [hap] at hd;cases hd
         |true=>
          rw [hap] at hd;simp only at hd;rw [TW hr rfl rfl rfl hst hap];simp only;cases hput:DB nt tmps o.dst d.v with
          |none=>rw [hput] at hd;cases hd
          |some tmps'=>
           rw [hput] at hd;simp only [Q6] at hd ⊢;have:=ih _ _ _ _ _ _ _ _ hpl (by simp [hm]) (RL2.cons rfl rfl hr) hd
           simpa using this
theorem GG {E:Env} {callF:Ask→Aa→Option (Bool×AV×Aa)} {all:Array Oper} {nt:Nat} {tmps:T AV} {h:Aa} {r:Option AV×T AV×Aa} (hd:St E callF all nt tmps h=some r):Br E callF all nt all.toList [] tmps h=some r:=by
 unfold St at hd;cases hp:J6 all all.toList [] [] with
 |none=>rw [hp] at hd;exact hd
 |some pl=>
  rw [hp] at hd;simp only at hd;cases hn:Nq E callF all nt 100000 pl [] tmps h with
  |none=>rw [hn] at hd;exact hd
  |some x=>
   rw [hn] at hd;cases hd;exact TX _ _ _ _ _ [] _ _ _ hp rfl .nil hn
end
end Go.AE
namespace Go.AE
variable [Gl:Au]
structure CX where
 fn:FuncId
 nt:Nat
 defers:List AD
 kind:CallKind
 round:Option Nat
 cs:List AF
def CX.as (X:CX) (tmps:T AV) (todo:List AI) (mode:F5) (h:Aa):AS:=⟨⟨X.fn,X.nt,tmps,todo,X.defers,mode,X.kind,X.round⟩,X.cs,h⟩
inductive QSt where
 |o (l:List Oper) (all:Array Oper) (k:List AI) (tmps:T AV) (h:Aa) (X:CX)
 |c (c:Code) (k:List AI) (tmps:T AV) (h:Aa) (X:CX)
 |k (k:List AI) (tmps:T AV) (h:Aa) (X:CX)
 |g (s:AS)
abbrev R3:=Option (Bool×AV×Aa)
def Kh (n:Nat) (k:Nat→R3):R3:=Nat.casesOn (motive:=fun _=>R3) n (k 0) (fun m=>k (Nat.succ m))
theorem HY (n:Nat) (k:Nat→R3):Kh n k=k n:=by cases n<;>rfl
def Oq (h:Aa) (k:Aa→R3):R3:=Aa.casesOn (motive:=fun _=>R3) h (fun b n l=>Kh n (fun n=>k ⟨b,n,l⟩))
theorem Lr (h:Aa) (k:Aa→R3):Oq h k=k h:=by
 obtain ⟨b,n,l⟩:=h;exact HY n (fun n=>k ⟨b,n,l⟩)
section
variable [U:Facts]
def Hn (ih:QSt→R3) (s:AS):R3:=match s with
 |⟨⟨fn,nt,tmps,todo,defers,mode,kind,round⟩,cs,h⟩=>match mode with
  |.run=>Kh fn fun fn=>Kh nt fun nt=>Oq h fun h=>ih (.k todo tmps h ⟨fn,nt,defers,kind,round,cs⟩)
  |m=>ih (.g ⟨⟨fn,nt,tmps,todo,defers,m,kind,round⟩,cs,h⟩)
def gen (E:Env) (f0:FuncId) (rd:Bool) (ih:QSt→R3) (callF:Ask→Aa→R3) (s:AS):R3:=match Oj E s with
   |some s'=>(match Nat.ble s.h.nx s'.h.nx with
     |true=>Hn ih s'
     |false=>none)
   |none=>match AQ E s with
    |.next s'=>match Nat.ble s.h.nx s'.h.nx with
      |true=>Hn ih s'
      |false=>none
    |.done ok v h=>match Nat.ble s.h.nx h.nx&&Nat.beq s.fr.fn f0&&(rd||s.fr.round.isNone) with
      |true=>some (ok,v,h)
      |false=>none
    |.draw s ops k=>
      match St E callF ops s.fr.nt s.fr.tmps s.h with
      |some (none,tmps,h)=>Hn ih {s with fr:={s.fr with tmps,todo:=k},h}
      |some (some v,tmps,h)=>Hn ih {s with fr:={s.fr with tmps,todo:=.dead::k,mode:=.panic [(v,false)]},h}
      |none=>none
    |.bad _=>match QE E callF 100000 s with
      |some s1=>match Nat.ble s.h.nx s1.h.nx with
        |true=>Hn ih s1
        |false=>none
      |none=>none
def YY (v:Value):AV:=match ofValue v with
  |some a=>a
  |none=>.top
def np (i:Tmp) (t:T AV):AV:=Option.casesOn (motive:=fun _=>AV) (T.get t i) .top fun v=>v
def aR (v:Value) (t:T AV):AV:=YY v
def li (g:Nat) (t:T AV):AV:=.glob g 0
def mL (g:FuncId) (t:T AV):AV:=.func (.func g) [] []
def evF (t:T AV) (x:Operand):AV:=Operand.casesOn (motive:=fun _=>T AV→AV) x np aR li mL t
abbrev OT:=Env→(QSt→R3)→Oper→List Oper→Array Oper→List AI→Option Tmp→T AV→Aa→CX→R3
def onK (E:Env) (ih:QSt→R3) (rest:List Oper) (all:Array Oper) (k:List AI) (dst:Option Tmp) (tmps:T AV) (X:CX) (v:AV) (h:Aa):R3:=
 Option.casesOn (motive:=fun _=>R3) dst (ih (.o rest all k tmps h X)) (fun d=>Bool.casesOn (motive:=fun _=>R3) (Nat.blt d X.nt) none (ih (.o rest all k (T.set tmps d v) h X)))
def R7 (E:Env) (ih:QSt→R3) (rest:List Oper) (all:Array Oper) (k:List AI) (dst:Option Tmp) (tmps:T AV) (X:CX) (v:AV) (h:Aa):R3:=Oq h fun h=>onK E ih rest all k dst tmps X v h
theorem I4 (E:Env) (ih:QSt→R3) (rest:List Oper) (all:Array Oper) (k:List AI) (dst:Option Tmp) (tmps:T AV) (X:CX) (v:AV) (h:Aa):R7 E ih rest all k dst tmps X v h=onK E ih rest all k dst tmps X v h:=Lr _ _
def C3 (E:Env) (ih:QSt→R3) (o:Oper) (rest:List Oper) (all:Array Oper) (k:List AI) (tmps:T AV) (h:Aa) (X:CX):R3:=ih (.g (X.as tmps (.ops all (o::rest)::k) .run h))
def IX (E:Env) (ih:QSt→R3) (o:Oper) (rest:List Oper) (all:Array Oper) (k:List AI) (dst:Option Tmp) (tmps:T AV) (h:Aa) (X:CX) (r:Option AV):R3:=
 Option.casesOn (motive:=fun _=>R3) r (C3 E ih o rest all k tmps h X) (fun v=>onK E ih rest all k dst tmps X v h)
def Ob (E:Env) (ih:QSt→R3) (o:Oper) (rest:List Oper) (all:Array Oper) (k:List AI) (dst:Option Tmp) (tmps:T AV) (h:Aa) (X:CX) (r:Option (AV×Aa)):R3:=
 Option.casesOn (motive:=fun _=>R3) r (C3 E ih o rest all k tmps h X) (fun p=>Prod.casesOn (motive:=fun _=>R3) p (fun v h'=>Bool.casesOn (motive:=fun _=>R3) (Nat.ble h.nx h'.nx) none (R7 E ih rest all k dst tmps X v h')))
def SK (E:Env) (ih:QSt→R3) (o:Oper) (rest:List Oper) (all:Array Oper) (k:List AI) (dst:Option Tmp) (tmps:T AV) (h:Aa) (X:CX) (r:Option Aa):R3:=
 Option.casesOn (motive:=fun _=>R3) r (C3 E ih o rest all k tmps h X) (fun h'=>Bool.casesOn (motive:=fun _=>R3) (Nat.ble h.nx h'.nx) none (R7 E ih rest all k dst tmps X AV.undef h'))
def Vv:OT:=fun E ih o rest all k dst tmps h X=>C3 E ih o rest all k tmps h X
def Wa (x:Operand):OT:=fun E ih o rest all k dst tmps h X=>onK E ih rest all k dst tmps X (evF tmps x) h
def tj (op:BinOp) (t:TypeId) (x y:Operand) (_:TypeId):OT:=fun E ih o rest all k dst tmps h X=>IX E ih o rest all k dst tmps h X (ZH E op t x y (evF tmps x) (evF tmps y))
def oUn (op:UnOp) (_:TypeId) (x:Operand):OT:=fun E ih o rest all k dst tmps h X=>IX E ih o rest all k dst tmps h X (unB op (evF tmps x))
def fL (t:TypeId) (a:Operand):OT:=fun E ih o rest all k dst tmps h X=>IX E ih o rest all k dst tmps h X (Qq E t (evF tmps a) h)
def cD (t:TypeId) (x:Operand) (f:Nat):OT:=fun E ih o rest all k dst tmps h X=>IX E ih o rest all k dst tmps h X (L6 E t (evF tmps x) f)
def Pn (t:TypeId) (x:Operand) (f:Nat):OT:=fun E ih o rest all k dst tmps h X=>IX E ih o rest all k dst tmps h X (EB E t (evF tmps x) f)
def OS (t:TypeId) (x i:Operand):OT:=fun E ih o rest all k dst tmps h X=>IX E ih o rest all k dst tmps h X (ES E t (evF tmps x) (evF tmps i))
def aL (t:TypeId) (x i:Operand):OT:=fun E ih o rest all k dst tmps h X=>IX E ih o rest all k dst tmps h X (LS E t (evF tmps x) (evF tmps i))
def aS (t:TypeId) (a x:Operand):OT:=fun E ih o rest all k dst tmps h X=>SK E ih o rest all k dst tmps h X (HL E t (evF tmps a) (evF tmps x) h)
def Kq (t:Operand) (i:Nat):OT:=fun E ih o rest all k dst tmps h X=>match evF tmps t with
 |.tuple vs=>IX E ih o rest all k dst tmps h X vs[i]?
 |_=>C3 E ih o rest all k tmps h X
def OC (t:TypeId):OT:=fun E ih o rest all k dst tmps h X=>Option.casesOn (motive:=fun _=>R3) (E.zero t) (C3 E ih o rest all k tmps h X) (fun z=>R7 E ih rest all k dst tmps X (.ptr h.nx 0) (A4 h z.cells))
def WS (t:TypeId) (ps:Array (Nat×Operand)):OT:=fun E ih o rest all k dst tmps h X=>IX E ih o rest all k dst tmps h X (LO E t (ps.toList.map fun (i,x)=>(i,evF tmps x)))
def Nr (t:TypeId) (len:Nat) (ps:Array (Nat×Operand)):OT:=fun E ih o rest all k dst tmps h X=>Ob E ih o rest all k dst tmps h X (D1 E t len (ps.toList.map fun (i,x)=>(i,evF tmps x)) h)
def bF (x:Operand):OT:=fun E ih o rest all k dst tmps h X=>match evF tmps x with
 |.ptr b off=>onK E ih rest all k dst tmps X (.ptr b off) h
 |_=>C3 E ih o rest all k tmps h X
def WW (t:TypeId) (x:Operand):OT:=fun E ih o rest all k dst tmps h X=>match E.desc t with
  |some (.interface _)=>C3 E ih o rest all k tmps h X
  |some _=>onK E ih rest all k dst tmps X (.iface t (evF tmps x)) h
  |none=>C3 E ih o rest all k tmps h X
def ZX (fn:Fn) (first captured:Array Operand):OT:=fun E ih o rest all k dst tmps h X=>match fn with
 |.yield _=>C3 E ih o rest all k tmps h X
 |fn=>onK E ih rest all k dst tmps X (.func fn (first.toList.map (evF tmps)) (captured.toList.map (evF tmps))) h
def Nx (tmps:T AV):Option Operand→Option AV
 |some o=>some (evF tmps o)
 |none=>none
def OR (t:TypeId) (x:Operand) (lo hi mx:Option Operand):OT:=fun E ih o rest all k dst tmps h X=>match mx,hi with
  |some _,none=>C3 E ih o rest all k tmps h X
  |_,_=>Ob E ih o rest all k dst tmps h X (sliceB E t (evF tmps x) (Nx tmps lo) (Nx tmps hi) (Nx tmps mx) h)
def S6 (c a b:Operand):OT:=fun E ih o rest all k dst tmps h X=>match evF tmps c with
 |.bool true=>onK E ih rest all k dst tmps X (evF tmps a) h
 |.bool false=>onK E ih rest all k dst tmps X (evF tmps b) h
 |_=>C3 E ih o rest all k tmps h X
def dM (s d:TypeId) (x:Operand):OT:=fun E ih o rest all k dst tmps h X=>Ob E ih o rest all k dst tmps h X (PU E s d (evF tmps x) h)
def VA (t:TypeId) (m i:Operand) (ok:Bool):OT:=fun E ih o rest all k dst tmps h X=>IX E ih o rest all k dst tmps h X (Ja E t (evF tmps m) (evF tmps i) ok h)
def O3 (E:Env) (ih:QSt→R3) (o:Oper) (rest:List Oper) (all:Array Oper) (k:List AI) (tmps:T AV) (X:CX) (g:FuncId) (args:List AV) (h:Aa):R3:=match Il E g args h with
  |some _=>C3 E ih o rest all k tmps h X
  |none=>match E.fn.get g with
   |some fn=>match fn.body with
    |some b=>Kh (max fn.ntmps args.length) fun nt=>ih (.c b [] (.ofList args) h ⟨g,nt,[],.normal,none,⟨X.fn,X.nt,tmps,.ops all (o::rest)::k,X.defers,.run,X.kind,X.round⟩::X.cs⟩)
    |none=>C3 E ih o rest all k tmps h X
   |none=>none
def Sg (E:Env) (ih:QSt→R3) (o:Oper) (rest:List Oper) (all:Array Oper) (k:List AI) (dst:Option Tmp) (tmps:T AV) (h:Aa) (X:CX) (r:Res):R3:=match r with
 |.val v h'=>Bool.casesOn (motive:=fun _=>R3) (Nat.ble h.nx h'.nx) none (R7 E ih rest all k dst tmps X v h')
 |.enter g args h'=>O3 E ih o rest all k tmps X g args h'
 |_=>C3 E ih o rest all k tmps h X
def GI (tmps:T AV):List Operand→List AV
 |[]=>[]
 |x::r=>evF tmps x::GI tmps r
def Xn (f:Operand):Call→OT:=fun c E ih o rest all k dst tmps h X=>match evF tmps f with
  |.func fn first captured=>Sg E ih o rest all k dst tmps h X (Bz E fn captured (first++GI tmps c.args.toList) h)
  |_=>C3 E ih o rest all k tmps h X
def yA (r:Operand) (name:String):Call→OT:=fun c E ih o rest all k dst tmps h X=>Sg E ih o rest all k dst tmps h X (Bz E (.method name) [] (evF tmps r::GI tmps c.args.toList) h)
def Xq (b:Builtin):Call→OT:=fun c E ih o rest all k dst tmps h X=>Sg E ih o rest all k dst tmps h X (Eu E b c.argTypes.toList (GI tmps c.args.toList) h)
def T8 (c:Call):OT:=Callee.casesOn (motive:=fun _=>Call→OT) c.callee Xn yA Xq c
def Ld {α:Type} (_:α):OT:=Vv
def IN {α β:Type} (_:α) (_:β):OT:=Vv
def T4 {α β γ:Type} (_:α) (_:β) (_:γ):OT:=Vv
def QJ {α β γ δ:Type} (_:α) (_:β) (_:γ) (_:δ):OT:=Vv
def opF (op:Op):OT:=Op.casesOn (motive:=fun _=>OT) op
 Wa Wa S6 OC IN WS Nr QJ
 fL aS Ld Ld bF tj oUn
 dM IN WW ZX IN IN T4 OR
 Pn cD OS aL VA QJ T4 QJ
 IN IN Ld QJ Kq T8 Ld Ld Ld
 IN T4 IN
def Rb (E:Env) (tmps:T AV) (h:Aa):List ResultVar→Option (List AV)
 |[]=>some []
 |.tmp t::r=>match Rb E tmps h r with
  |some l=>some ((match T.get tmps t with|some v=>v|none=>.top)::l)
  |none=>none
 |.cell a t::r=>match T.get tmps a with
  |some p=>match LG E t p h,Rb E tmps h r with
   |some v,some l=>some (v::l)
   |_,_=>none
  |none=>none
def Z2 (l:List AV):AV:=match l with
 |[v]=>v
 |l=>.tuple l
abbrev KT:=Env→FuncId→(QSt→R3)→List AI→T AV→Aa→CX→R3
def JE (E:Env) (f0:FuncId) (ih:QSt→R3) (c:Code) (k:List AI) (tmps:T AV) (h:Aa) (X:CX):R3:=ih (.g (X.as tmps (.code c::k) .run h))
def VY (E:Env) (f0:FuncId) (ih:QSt→R3) (X:CX) (v:AV) (h:Aa) (DP:Unit→R3):R3:=match X.kind,X.cs with
 |.normal,⟨fn,nt,tmps,todo,defers,.run,kind,round⟩::cs=>match todo with
  |.ops all (o::rest)::k=>onK E ih rest all k o.dst tmps ⟨fn,nt,defers,kind,round,cs⟩ v h
  |.inRange l::k=>ih (.k (.endRange l::k) tmps h ⟨fn,nt,defers,kind,round,cs⟩)
  |_=>DP ()
 |.normal,[]=>match Nat.beq X.fn f0 with
  |true=>some (true,v,h)
  |false=>none
 |_,_=>DP ()
def Un (E:Env) (f0:FuncId) (ih:QSt→R3) (tmps:T AV) (h:Aa) (X:CX) (DP:Unit→R3):R3:=match X.round,X.defers with
 |none,[]=>match E.fn.get X.fn with
  |some fn=>match Rb E tmps h fn.results.toList with
   |some l=>VY E f0 ih X (Z2 l) h DP
   |none=>none
  |none=>none
 |_,_=>DP ()
def VT:KT:=fun E f0 ih k tmps h X=>ih (.k k tmps h X)
def VE (id:Nat) (ops:Array Oper) (draw:Bool):KT:=fun E f0 ih k tmps h X=>Bool.casesOn (motive:=fun _=>R3) draw (ih (.o ops.toList ops k tmps h X)) (JE E f0 ih (.region id ops draw) k tmps h X)
def qK (a b:Code):KT:=fun E f0 ih k tmps h X=>ih (.c a (.code b::k) tmps h X)
def So (c:Operand) (x y:Code):KT:=fun E f0 ih k tmps h X=>match evF tmps c with
 |.bool b=>Bool.casesOn (motive:=fun _=>R3) b (ih (.c y k tmps h X)) (ih (.c x k tmps h X))
 |_=>JE E f0 ih (.cond c x y) k tmps h X
def aj (id:Nat) (b:Code):KT:=fun E f0 ih k tmps h X=>ih (.c b (.inBlock id::k) tmps h X)
def kh (b:Code):KT:=fun E f0 ih k tmps h X=>ih (.c b (.inLoop b::k) tmps h X)
def Yi (b:Code):KT:=fun E f0 ih k tmps h X=>ih (.c b (.inScope b::k) tmps h X)
def Wy (f:Operand) (ps:Array Tmp) (a b:Code):KT:=fun E f0 ih k tmps h X=>JE E f0 ih (.rangeFunc f ps a b) k tmps h X
def TB (id:Nat):KT:=fun E f0 ih k tmps h X=>Option.casesOn (motive:=fun _=>R3) (Im id k) (JE E f0 ih (.exit id) k tmps h X) (fun k'=>ih (.k k' tmps h X))
def aM (_:Nat):KT:=VT
def iW (l:Nat):KT:=fun E f0 ih k tmps h X=>JE E f0 ih (.goto l) k tmps h X
def sO:KT:=fun E f0 ih k tmps h X=>Un E f0 ih tmps h X (fun _=>JE E f0 ih .ret k tmps h X)
def UB (w:String):KT:=fun _ _ _ _ _ _ _=>none
def Tt (c:Code):KT:=Code.casesOn (motive:=fun _=>KT) c VT VE qK So aj kh Wy TB Yi aM iW sO UB
def kF (E:Env) (f0:FuncId) (ih:QSt→R3) (k:List AI) (tmps:T AV) (h:Aa) (X:CX):R3:=match k with
 |[]=>Un E f0 ih tmps h X (fun _=>ih (.g (X.as tmps [] .run h)))
 |.code c::k=>Tt c E f0 ih k tmps h X
 |.inBlock _::k=>ih (.k k tmps h X)
 |.inScope _::k=>ih (.k k tmps h X)
 |.inLoop b::k=>ih (.c b (.inLoop b::k) tmps h X)
 |.ops all l::k=>ih (.o l all k tmps h X)
 |k=>ih (.g (X.as tmps k .run h))
def aQ (E:Env) (ih:QSt→R3) (l:List Oper) (all:Array Oper) (k:List AI) (tmps:T AV) (h:Aa) (X:CX):R3:=match l with
  |[]=>ih (.k k tmps h X)
  |o::rest=>match o.guard with
    |none=>opF o.op E ih o rest all k o.dst tmps h X
    |some _=>match A1 all o tmps with
       |some true=>opF o.op E ih o rest all k o.dst tmps h X
       |some false=>onK E ih rest all k o.dst tmps X AV.undef h
       |none=>none
def Nb (E:Env) (run:FuncId→Bool→QSt→R3) (a:Ask) (h:Aa):R3:=match a with
 |.enter g args=>match Il E g args h with
  |some r=>some r
  |none=>match BO E g args .normal with
   |some fr=>Hn (run fr.fn true) {fr,cs:=[],h}
   |none=>none
 |.round l args=>match Fl l args h with
  |some fr=>Hn (run fr.fn true) {fr,cs:=[],h}
  |none=>none
def goF (E:Env) (n:Nat):FuncId→Bool→QSt→R3:=Nat.rec (motive:=fun _=>FuncId→Bool→QSt→R3) (fun _ _ _=>none) (fun f ih f0 rd s=>
  QSt.casesOn (motive:=fun _=>R3) s
   (fun l all k tmps h X=>aQ E (ih f0 rd) l all k tmps h X)
   (fun c k tmps h X=>Tt c E f0 (ih f0 rd) k tmps h X)
   (fun k tmps h X=>kF E f0 (ih f0 rd) k tmps h X)
   (fun s=>gen E f0 rd (ih f0 rd) (Nb E ih) s)) n
def V3 (E:Env) (n:Nat) (f:FuncId) (args:List AV) (h:Aa):R3:=
 match BO E f args .normal with
 |some fr=>Hn (goF E n f false) {fr,cs:=[],h}
 |none=>none
def Ab (E:Env) (N:Nat) (e:Orc):Bool:=
 match V3 E N e.f e.args {blk:=e.part,nx:=e.nx,log:=[]} with
 |some (ok,v,g)=>(ok==e.ok)&&Bg v e.v&&NK e.out g.blk&&Nat.beq g.nx e.nx'&&Ti e.nx e.wr g.log
 |none=>false
end
def QSt.as:QSt→AS
 |.o l all td tmps h X=>X.as tmps (.ops all l::td) .run h
 |.c cd td tmps h X=>X.as tmps (.code cd::td) .run h
 |.k td tmps h X=>X.as tmps td .run h
 |.g s=>s
section
variable [U:Facts]
inductive BQ (E:Env):AS→AS→Prop
 |refl (s:AS):BQ E s s
 |head {s s1 s2:AS} (h:AQ E s=.next s1) (hn:s.h.nx≤s1.h.nx) (k:BQ E s1 s2):BQ E s s2
theorem BQ.one {E:Env} {s s1:AS} (h:AQ E s=.next s1) (hn:s.h.nx≤s1.h.nx):BQ E s s1:=.head h hn (.refl s1)
def Via (E:Env) (f0:FuncId) (ih:QSt→R3) (s:AS) (r:R3):Prop:=∀x,r=some x→(∃st,BQ E s st.as∧ih st=some x)∨(∃s1,BQ E s s1∧AQ E s1=.done true x.2.1 x.2.2∧x.1=true∧s1.fr.fn=f0∧s1.fr.round=none∧s1.h.nx≤x.2.2.nx)
theorem Via.none {E:Env} {f0:FuncId} {ih:QSt→R3} {s:AS}:Via E f0 ih s none:=fun x h=>by cases h
theorem Via.ih {E:Env} {f0:FuncId} {ih:QSt→R3} {s:AS} (st:QSt) (h:BQ E s st.as):Via E f0 ih s (ih st):=fun x hx=>.inl ⟨st,h,hx⟩
theorem MF (t:T AV) (x:Operand):evF t x=Ah t x:=by
 cases x with
 |tmp i=>simp only [evF,np,Ah];cases t.get i<;>rfl
 |const v=>rfl
 |global g=>rfl
 |func g=>rfl
theorem Hb (t:T AV):∀l:List Operand,GI t l=l.map (Ah t)
 |[]=>rfl
 |x::r=>by simp [GI,Hb t r,MF]
theorem AX (t:T AV):evF t=Ah t:=funext (MF t)
theorem NC (h:Aa) (l:List AV):h.nx≤(A4 h l).nx:=by simp [A4,Aa.new]
theorem Pq {E:Env} {t:TypeId} {x v:AV} {h h':Aa} (hs:HL E t x v h=some h'):Hl E t x v h=some h':=by
 cases x<;>first | (cases hs;done)|skip
 exact hs
theorem KM {n:String} {args args':List AV} {h h':Aa} {g:FuncId} (e:GR n args h=.enter g args' h'):False:=by
 unfold GR at e
 repeat' (first | (cases e;done)|split at e)
theorem IM {E:Env} {f g:FuncId} {args args':List AV} {h h':Aa} (e:Hd E f args h=.enter g args' h'):h'=h:=by
 unfold Hd at e
 repeat' (first | (cases e;done)|split at e)
 all_goals first | (cases e;rfl)|exact (KM e).elim
theorem L3 {E:Env} {tmps:T AV} {c:Call} {h h':Aa} {g:FuncId} {args':List AV} (e:CO E tmps c h=.enter g args' h'):h'=h:=by
 unfold CO at e;simp only at e;split at e
 ·unfold Eu Bv CA DA at e
  repeat' (first | (cases e;done)|split at e)
 ·unfold Bz at e
  repeat' (first | (cases e;done)|exact IM e|split at e)
 ·split at e
  ·unfold Bz at e
   repeat' (first | (cases e;done)|exact IM e|split at e)
  ·cases e
theorem Nn {E:Env} {o:Oper} {rest:List Oper} {all:Array Oper} {k:List AI} {tmps t':T AV} {h h':Aa} {X:CX} {v:AV} (hw:A1 all o tmps=some true) (ha:aop E tmps h o.op=.val v h') (hp:DB X.nt tmps o.dst v=some t') :
  AQ E (X.as tmps (.ops all (o::rest)::k) .run h)=.next (X.as t' (.ops all rest::k) .run h'):=by
 simp only [AQ,CX.as,hw,ha,Bi,AP,hp]
theorem Cb {E:Env} {f0:FuncId} {ih:QSt→R3} {o:Oper} {rest:List Oper} {all:Array Oper} {k:List AI} {tmps:T AV} {h h':Aa} {X:CX} {v:AV} (hw:A1 all o tmps=some true) (ha:aop E tmps h o.op=.val v h') (hn:h.nx≤h'.nx) :
  Via E f0 ih (X.as tmps (.ops all (o::rest)::k) .run h) (onK E ih rest all k o.dst tmps X v h'):=by
 unfold onK;cases hd:o.dst with
 |none=>
  have hp:DB X.nt tmps o.dst v=some tmps:=by rw [hd];rfl
  exact Via.ih (.o rest all k tmps h' X) (.one (Nn hw ha hp) hn)
 |some d=>
  cases hb:Nat.blt d X.nt with
  |false=>simp only;rw [hb];exact Via.none
  |true=>
   have hp:DB X.nt tmps o.dst v=some (tmps.set d v):=by rw [hd];simp only [DB,hb]
   simp only;rw [hb];exact Via.ih (.o rest all k (tmps.set d v) h' X) (.one (Nn hw ha hp) hn)
theorem AT {E:Env} {f0:FuncId} {ih:QSt→R3} {o:Oper} {rest:List Oper} {all:Array Oper} {k:List AI} {tmps:T AV} {h:Aa} {X:CX} :
  Via E f0 ih (X.as tmps (.ops all (o::rest)::k) .run h) (C3 E ih o rest all k tmps h X):=Via.ih (.g _) (BQ.refl (X.as tmps (.ops all (o::rest)::k) .run h))
section
variable {E:Env} {f0:FuncId} {ih:QSt→R3} {o:Oper} {rest:List Oper} {all:Array Oper} {k:List AI} {tmps:T AV} {h:Aa} {X:CX} (hw:A1 all o tmps=some true)
include hw
theorem B5 {r:Option AV} (ha:∀v,r=some v→aop E tmps h o.op=.val v h):Via E f0 ih (X.as tmps (.ops all (o::rest)::k) .run h) (IX E ih o rest all k o.dst tmps h X r):=by
 unfold IX;cases r with
 |none=>exact AT
 |some v=>exact Cb hw (ha v rfl) (Nat.le_refl _)
theorem H2 {r:Option (AV×Aa)} (ha:∀v h',r=some (v,h')→aop E tmps h o.op=.val v h'):Via E f0 ih (X.as tmps (.ops all (o::rest)::k) .run h) (Ob E ih o rest all k o.dst tmps h X r):=by
 unfold Ob;simp only [I4];cases r with
 |none=>exact AT
 |some p=>
  obtain ⟨v,h'⟩:=p;simp only;cases hb:Nat.ble h.nx h'.nx with
  |false=>exact Via.none
  |true=>exact Cb hw (ha v h' rfl) (Nat.le_of_ble_eq_true hb)
theorem Ro {r:Option Aa} (ha:∀h',r=some h'→aop E tmps h o.op=.val .undef h'):Via E f0 ih (X.as tmps (.ops all (o::rest)::k) .run h) (SK E ih o rest all k o.dst tmps h X r):=by
 unfold SK;simp only [I4];cases r with
 |none=>exact AT
 |some h'=>
  simp only;cases hb:Nat.ble h.nx h'.nx with
  |false=>exact Via.none
  |true=>exact Cb hw (ha h' rfl) (Nat.le_of_ble_eq_true hb)
theorem Pz {g:FuncId} {args:List AV} (ha:aop E tmps h o.op=.enter g args h):Via E f0 ih (X.as tmps (.ops all (o::rest)::k) .run h) (O3 E ih o rest all k tmps X g args h):=by
 unfold O3;split
 ·exact AT
 ·split
  ·rename_i fn hfn;split
   ·rename_i b hb;rw [HY];refine Via.ih (.c b [] (.ofList args) h _) (.one ?_ (Nat.le_refl _));simp only [AQ,CX.as,hw,ha,Bi,BO,hfn,hb,QSt.as]
   ·exact AT
  ·exact Via.none
theorem Jy {r:Res} (ha:aop E tmps h o.op=r) (he:∀g args h',r=.enter g args h'→h'=h):Via E f0 ih (X.as tmps (.ops all (o::rest)::k) .run h) (Sg E ih o rest all k o.dst tmps h X r):=by
 unfold Sg;simp only [I4];cases r with
 |val v h'=>
  simp only;cases hb:Nat.ble h.nx h'.nx with
  |false=>exact Via.none
  |true=>exact Cb hw ha (Nat.le_of_ble_eq_true hb)
 |enter g args h'=>
  have:=he g args h' rfl;subst this;exact Pz hw ha
 |_=>exact AT
end
section
variable {E:Env} {f0:FuncId} {ih:QSt→R3} {o:Oper} {rest:List Oper} {all:Array Oper} {k:List AI} {tmps:T AV} {h:Aa} {X:CX} (hw:A1 all o tmps=some true)
include hw
theorem Qx:Via E f0 ih (X.as tmps (.ops all (o::rest)::k) .run h) (opF o.op E ih o rest all k o.dst tmps h X):=by
 have le:=Nat.le_refl h.nx;generalize hop:o.op=op;cases op with
 |move x=>exact Cb (v:=evF tmps x) hw (by rw [hop,AX];rfl) le
 |assign x=>exact Cb (v:=evF tmps x) hw (by rw [hop,AX];rfl) le
 |pick c a b=>
  show Via E f0 ih _ (S6 c a b E ih o rest all k o.dst tmps h X);unfold S6;rw [AX];split
  ·rename_i hc;exact Cb hw (by rw [hop];simp only [aop,hc]) le
  ·rename_i hc;exact Cb hw (by rw [hop];simp only [aop,hc]) le
  ·exact AT
 |alloc t=>
  show Via E f0 ih _ (OC t E ih o rest all k o.dst tmps h X);unfold OC;simp only [I4];cases hz:E.zero t with
  |none=>exact AT
  |some z=>exact Cb hw (by rw [hop];simp only [aop,hz]) (NC h z.cells)
 |load t a=>exact B5 hw (fun v hv=>by rw [hop];rw [AX] at hv;simp only [aop,hv,Bv])
 |store t a x=>exact Ro hw (fun h' hv=>by rw [hop];rw [AX] at hv;simp only [aop,Pq hv,DA])
 |build t ps=>exact B5 hw (fun v hv=>by rw [hop];rw [AX] at hv;simp only [aop,hv,Bv])
 |buildSlice t len ps=>exact H2 hw (fun v h' hv=>by rw [hop];rw [AX] at hv;simp only [aop,hv,CA])
 |nilCheck x=>
  show Via E f0 ih _ (bF x E ih o rest all k o.dst tmps h X);unfold bF;rw [AX];split
  ·rename_i hc;exact Cb hw (by rw [hop];simp only [aop,hc]) le
  ·exact AT
 |binOp op t x y u=>exact B5 hw (fun v hv=>by rw [hop];rw [AX] at hv;simp only [aop,hv,Bv])
 |unOp op t x=>exact B5 hw (fun v hv=>by rw [hop];rw [AX] at hv;simp only [aop,hv,Bv])
 |convert s d x=>exact H2 hw (fun v h' hv=>by rw [hop];rw [AX] at hv;simp only [aop,hv,CA])
 |makeInterface t x=>
  show Via E f0 ih _ (WW t x E ih o rest all k o.dst tmps h X);unfold WW;rw [AX];split
  ·exact AT
  ·rename_i d hne hd;exact Cb hw (by rw [hop];simp only [aop,hd]) le
  ·exact AT
 |makeFunc fn first captured=>
  show Via E f0 ih _ (ZX fn first captured E ih o rest all k o.dst tmps h X);unfold ZX;rw [AX];split
  ·exact AT
  ·exact Cb hw (by rw [hop];simp only [aop]) le
 |slice t x lo hi mx=>
  show Via E f0 ih _ (OR t x lo hi mx E ih o rest all k o.dst tmps h X);have he:Nx tmps=AR tmps:=by funext q;cases q<;>simp [Nx,AR,MF]
  unfold OR;rw [AX,he];split
  ·exact AT
  ·exact H2 hw (fun v h' hv=>by rw [hop];simp only [aop,hv,CA])
 |fieldAddr t x f=>exact B5 hw (fun v hv=>by rw [hop];rw [AX] at hv;simp only [aop,hv,Bv])
 |field t x f=>exact B5 hw (fun v hv=>by rw [hop];rw [AX] at hv;simp only [aop,hv,Bv])
 |indexAddr t x i=>exact B5 hw (fun v hv=>by rw [hop];rw [AX] at hv;simp only [aop,hv,Bv])
 |index t x i=>exact B5 hw (fun v hv=>by rw [hop];rw [AX] at hv;simp only [aop,hv,Bv])
 |lookup t m i ok=>exact B5 hw (fun v hv=>by rw [hop];rw [AX] at hv;simp only [aop,hv,Bv])
 |extract t i=>
  show Via E f0 ih _ (Kq t i E ih o rest all k o.dst tmps h X);unfold Kq;rw [AX];split
  ·rename_i vs hc;exact B5 hw (fun v hv=>by rw [hop];simp only [aop,hc,hv,Bv])
  ·exact AT
 |call c=>
  have ha:∀r,CO E tmps c h=r→aop E tmps h o.op=r:=fun r e=>by rw [hop];exact e
  have he:∀r,CO E tmps c h=r→∀g args h',r=.enter g args h'→h'=h:=fun r e g args h' q=>L3 (e.trans q)
  show Via E f0 ih _ (T8 c E ih o rest all k o.dst tmps h X);unfold T8;cases hc:c.callee with
  |value f=>
   show Via E f0 ih _ (Xn f c E ih o rest all k o.dst tmps h X);unfold Xn;rw [AX];split
   ·rename_i fn first captured hf;have e:CO E tmps c h=Bz E fn captured (first++GI tmps c.args.toList) h:=by simp only [CO,hc,hf,Hb]
    exact Jy hw (ha _ e) (he _ e)
   ·exact AT
  |invoke r name=>
   have e:CO E tmps c h=Bz E (.method name) [] (evF tmps r::GI tmps c.args.toList) h:=by simp only [CO,hc,Hb,MF]
   exact Jy hw (ha _ e) (he _ e)
  |builtin b=>
   have e:CO E tmps c h=Eu E b c.argTypes.toList (GI tmps c.args.toList) h:=by simp only [CO,hc,Hb]
   exact Jy hw (ha _ e) (he _ e)
 |_=>exact AT
end
theorem NO {E:Env} {f0:FuncId} {ih:QSt→R3} {s:AS} {dst:Option Tmp} {rest:List Oper} {all:Array Oper} {k:List AI} {tmps:T AV} {h:Aa} {X:CX} {v:AV} (hs:∀t',DB X.nt tmps dst v=some t'→BQ E s (X.as t' (.ops all rest::k) .run h)) :
  Via E f0 ih s (onK E ih rest all k dst tmps X v h):=by
 unfold onK;cases dst with
 |none=>exact Via.ih (.o rest all k tmps h X) (hs tmps rfl)
 |some d=>
  cases hb:Nat.blt d X.nt with
  |false=>simp only;rw [hb];exact Via.none
  |true=>
   simp only;rw [hb];exact Via.ih (.o rest all k (tmps.set d v) h X) (hs _ (by simp only [DB,hb]))
theorem RQ {E:Env} {f0:FuncId} {ih:QSt→R3} {l:List Oper} {all:Array Oper} {k:List AI} {tmps:T AV} {h:Aa} {X:CX}:Via E f0 ih (X.as tmps (.ops all l::k) .run h) (aQ E ih l all k tmps h X):=by
 unfold aQ;split
 ·exact Via.ih (.k k tmps h X) (.one (by simp only [AQ,CX.as,QSt.as]) (Nat.le_refl _))
 ·rename_i o rest;split
  ·rename_i hg;exact Qx (by unfold A1;rw [hg])
  ·split
   ·rename_i hw;exact Qx hw
   ·rename_i hw;refine NO fun t' hp=>.one ?_ (Nat.le_refl _)
    simp only [AQ,CX.as,hw,Bi,AP,hp]
   ·exact Via.none
theorem Mf {E:Env} {tmps:T AV} {h:Aa} (fr:AF) (hf:fr.tmps=tmps):∀l:List ResultVar,Rb E tmps h l=Bp E fr h l
 |[]=>rfl
 |.tmp t::r=>by simp only [Rb,Bp,Mf fr hf r,hf];rfl
 |.cell a t::r=>by simp only [Rb,Bp,Mf fr hf r,hf];rfl
theorem NY {E:Env} {f0:FuncId} {ih:QSt→R3} {td:List AI} {tmps:T AV} {h:Aa} {X:CX} {DP:Unit→R3} (hs:X.round=none→AQ E (X.as tmps td .run h)=.next (X.as tmps td .ret h)) (hsl:Via E f0 ih (X.as tmps td .run h) (DP ())) :
  Via E f0 ih (X.as tmps td .run h) (Un E f0 ih tmps h X DP):=by
 unfold Un;split
 ·rename_i hr hd;have h1:=hs hr;split
  ·rename_i fn hfn;split
   ·rename_i l hl;have hl:Bp E (X.as tmps td .ret h).fr h fn.results.toList=some l:=(Mf (X.as tmps td .ret h).fr rfl _).symm.trans hl
    have h2:AQ E (X.as tmps td .ret h)=B8 (X.as tmps td .ret h).fr X.cs (Z2 l) h:=by
     have e:AQ E (X.as tmps td .ret h)=Dl E (X.as tmps td .ret h).fr X.cs h:=rfl;rw [e];unfold Dl;have hd':(X.as tmps td .ret h).fr.defers=[]:=hd;have hm':(X.as tmps td .ret h).fr.mode=.ret:=rfl;have hf':E.fn.get (X.as tmps td .ret h).fr.fn=some fn:=hfn;rw [hd',hm',hf'];simp only [hl]
     match l with
     |[]=>rfl
     |[v]=>rfl
     |a::b::r=>rfl
    unfold VY;split
    ·rename_i f nt tm todo df kd rd cs hk hcs;have hkk:(X.as tmps td .ret h).fr.kind=.normal:=hk;rw [hcs] at h2;simp only [B8,hkk] at h2;split
     ·rename_i all o rest k;refine NO fun t' hp=>.head h1 (Nat.le_refl _) (.one ?_ (Nat.le_refl _))
      rw [h2];have hp:DB nt tm o.dst (Z2 l)=some t':=hp;simp only [AP,hp];rfl
     ·rename_i lp k;refine Via.ih (.k (.endRange lp::k) tm h ⟨f,nt,df,kd,rd,cs⟩) (.head h1 (Nat.le_refl _) (.one ?_ (Nat.le_refl _)));rw [h2];rfl
     ·exact hsl
    ·rename_i hk hcs;have hkk:(X.as tmps td .ret h).fr.kind=.normal:=hk;rw [hcs] at h2;simp only [B8,hkk] at h2;split
     ·rename_i hb;intro x hx;cases hx;exact .inr ⟨X.as tmps td .ret h,.one h1 (Nat.le_refl _),h2,rfl,AJ hb,hr,Nat.le_refl _⟩
     ·exact Via.none
    ·exact hsl
   ·exact Via.none
  ·exact Via.none
 ·exact hsl
theorem Do {E:Env} {f0:FuncId} {ih:QSt→R3} {c:Code} {k:List AI} {tmps:T AV} {h:Aa} {X:CX}:Via E f0 ih (X.as tmps (.code c::k) .run h) (JE E f0 ih c k tmps h X):=Via.ih (.g _) (BQ.refl (X.as tmps (.code c::k) .run h))
theorem K2 {E:Env} {f0:FuncId} {ih:QSt→R3} {c:Code} {k:List AI} {tmps:T AV} {h:Aa} {X:CX}:Via E f0 ih (X.as tmps (.code c::k) .run h) (Tt c E f0 ih k tmps h X):=by
 have le:=Nat.le_refl h.nx;cases c with
 |skip=>exact Via.ih (.k k tmps h X) (.one (by simp only [AQ,CX.as,QSt.as]) le)
 |label l=>exact Via.ih (.k k tmps h X) (.one (by simp only [AQ,CX.as,QSt.as]) le)
 |region id ops draw=>
  cases draw with
  |false=>exact Via.ih (.o ops.toList ops k tmps h X) (.one (by simp only [AQ,CX.as,QSt.as]) le)
  |true=>exact Do
 |seq a b=>exact Via.ih (.c a (.code b::k) tmps h X) (.one (by simp only [AQ,CX.as,QSt.as]) le)
 |cond c x y=>
  show Via E f0 ih _ (So c x y E f0 ih k tmps h X);unfold So;rw [AX];split
  ·rename_i b hc;cases b with
   |true=>exact Via.ih (.c x k tmps h X) (.one (by simp only [AQ,CX.as,QSt.as,hc]) le)
   |false=>exact Via.ih (.c y k tmps h X) (.one (by simp only [AQ,CX.as,QSt.as,hc]) le)
  ·exact Do
 |block id b=>exact Via.ih (.c b (.inBlock id::k) tmps h X) (.one (by simp only [AQ,CX.as,QSt.as]) le)
 |loop b=>exact Via.ih (.c b (.inLoop b::k) tmps h X) (.one (by simp only [AQ,CX.as,QSt.as]) le)
 |scope b=>exact Via.ih (.c b (.inScope b::k) tmps h X) (.one (by simp only [AQ,CX.as,QSt.as]) le)
 |rangeFunc f ps a b=>exact Do
 |exit id=>
  show Via E f0 ih _ (TB id E f0 ih k tmps h X);unfold TB;cases hx:Im id k with
  |none=>exact Do
  |some k'=>exact Via.ih (.k k' tmps h X) (.one (by simp only [AQ,CX.as,QSt.as,hx]) le)
 |goto l=>exact Do
 |ret=>exact NY (fun hr=>by simp only [AQ,CX.as,C6,hr]) Do
 |refuse w=>exact Via.none
theorem b9 {E:Env} {f0:FuncId} {ih:QSt→R3} {k:List AI} {tmps:T AV} {h:Aa} {X:CX}:Via E f0 ih (X.as tmps k .run h) (kF E f0 ih k tmps h X):=by
 have le:=Nat.le_refl h.nx;unfold kF;split
 ·exact NY (fun hr=>by simp only [AQ,CX.as,C6,hr]) (Via.ih (.g _) (BQ.refl (X.as tmps [] .run h)))
 ·exact K2
 ·rename_i id k;exact Via.ih (.k k tmps h X) (.one (by simp only [AQ,CX.as,QSt.as]) le)
 ·rename_i id k;exact Via.ih (.k k tmps h X) (.one (by simp only [AQ,CX.as,QSt.as]) le)
 ·rename_i b k;exact Via.ih (.c b (.inLoop b::k) tmps h X) (.one (by simp only [AQ,CX.as,QSt.as]) le)
 ·rename_i all l k;exact Via.ih (.o l all k tmps h X) (.refl (X.as tmps (.ops all l::k) .run h))
 ·exact Via.ih (.g _) (BQ.refl (X.as tmps k .run h))
theorem BQ.mono {E:Env} {s s':AS} (h:BQ E s s'):s.h.nx≤s'.h.nx:=by
 induction h with
 |refl s=>exact Nat.le_refl _
 |head h hn k ih=>exact Nat.le_trans hn ih
theorem HF (ih:QSt→R3) (s:AS):∃st:QSt,st.as=s∧Hn ih s=ih st:=by
 obtain ⟨⟨fn,nt,tmps,todo,defers,mode,kind,round⟩,cs,h⟩:=s;cases mode with
 |run=>exact ⟨.k todo tmps h ⟨fn,nt,defers,kind,round,cs⟩,rfl,by simp only [Hn,HY,Lr]⟩
 |ret=>exact ⟨.g ⟨⟨fn,nt,tmps,todo,defers,.ret,kind,round⟩,cs,h⟩,rfl,rfl⟩
 |panic ch=>exact ⟨.g ⟨⟨fn,nt,tmps,todo,defers,.panic ch,kind,round⟩,cs,h⟩,rfl,rfl⟩
theorem QD {E:Env} (n:Nat) (f0:FuncId) (rd:Bool) (st:QSt) (hg:∀s,st≠.g s):Via E f0 (goF E n f0 rd) st.as (goF E (n+1) f0 rd st):=by
 cases st with
 |o l all td tmps h X=>exact RQ
 |c cd td tmps h X=>exact K2
 |k td tmps h X=>exact b9
 |g s=>exact absurd rfl (hg s)
theorem Qe {E:Env} (n:Nat) (f0:FuncId) (rd:Bool) (s:AS):goF E (n+1) f0 rd (.g s)=gen E f0 rd (goF E n f0 rd) (Nb E (goF E n)) s:=rfl
end
section
variable [U:Unk]
theorem GL {E:Env}:∀(n:Nat) (f0:FuncId) (rd:Bool) (st:QSt) (x:Bool×AV×Aa),goF E n f0 rd st=some x→st.as.h.nx≤x.2.2.nx
 |0,f0,rd,st,x,h=>by cases h
 |n+1,f0,rd,st,x,h=>by
  have onS:∀s,Hn (goF E n f0 rd) s=some x→s.h.nx≤x.2.2.nx:=by
   intro s hs;obtain ⟨st',e1,e2⟩:=HF (goF E n f0 rd) s;rw [e2] at hs;rw [←e1];exact GL n f0 rd st' x hs
  by_cases hg:∃s,st=.g s
  ·obtain ⟨s,rfl⟩:=hg;rw [Qe] at h;unfold gen at h;show s.h.nx≤_;split at h
   ·split at h
    ·rename_i hb;exact Nat.le_trans (Nat.le_of_ble_eq_true hb) (onS _ h)
    ·cases h
   ·split at h
    ·split at h
     ·rename_i hb;exact Nat.le_trans (Nat.le_of_ble_eq_true hb) (onS _ h)
     ·cases h
    ·split at h
     ·rename_i hb;cases h;exact Nat.le_of_ble_eq_true (Am (Am hb).1).1
     ·cases h
    ·rename_i s2 ops k hst;obtain ⟨rfl,_,_⟩:=Ce hst;split at h
     ·rename_i hd;exact Nat.le_trans (BY _ _ _ _ _ _ _ (GG hd)) (onS _ h)
     ·rename_i hd;exact Nat.le_trans (BY _ _ _ _ _ _ _ (GG hd)) (onS _ h)
     ·cases h
    ·split at h
     ·split at h
      ·rename_i hb;exact Nat.le_trans (Nat.le_of_ble_eq_true hb) (onS _ h)
      ·cases h
     ·cases h
  ·rcases QD n f0 rd st (fun s e=>hg ⟨s,e⟩) x h with ⟨st',q1,q2⟩|⟨s1,q1,_,_,_,_,q6⟩
   ·exact Nat.le_trans q1.mono (GL n f0 rd st' x q2)
   ·exact Nat.le_trans q1.mono q6
section
variable {E:Env} (hE:OK E) (hO:Ad E U.V.fn)
include hE
theorem BQ.ok {s s':AS} (k:BQ E s s') {ρ:Ren} {c:Frame} {ccs:List Frame} {w:World} (hsr:SR ρ s c ccs w) (hfree:Ax ρ s.h.nx s'.h.nx) (base:List Frame) :
  ∃σ c' ccs' w',Steps E.P (lone c (ccs++base) w) (lone c' (ccs'++base) w')∧SR σ s' c' ccs' w'∧Ext ρ σ s.h s'.h w w':=by
 induction k generalizing ρ c ccs w with
 |refl s=>exact ⟨ρ,c,ccs,w,Steps.refl _ _,hsr,Ext.refl _ _ _⟩
 |head h hn k ih=>
  have hm:=k.mono;obtain ⟨σ,c1,ccs1,w1,q1,q2,q3⟩:=Ff (base:=base) hE hsr h (fun b h1 h2=>hfree b h1 (by omega))
  obtain ⟨τ,c2,ccs2,w2,r1,r2,r3⟩:=ih q2 (q3.free hfree);exact ⟨τ,c2,ccs2,w2,Steps.trans (Steps.one q1) r1,r2,q3.trans r3 hfree⟩
include hO
theorem ci:∀(n:Nat) (f0:FuncId) (rd:Bool) (st:QSt) (ρ:Ren) (c:Frame) (ccs:List Frame) (w:World) (ok:Bool) (v:AV) (h:Aa),SR ρ st.as c ccs w→WF st.as.h→goF E n f0 rd st=some (ok,v,h)→Ax ρ st.as.h.nx h.nx→
  ∀base:List Frame,∃σ cf v' w1 w',Steps E.P (lone c (ccs++base) w) (lone cf base w1)∧cf.fn=f0∧(rd=false→cf.roundOf=none)∧IU E.P cf w1 ok v' w'∧VR σ v v'∧HR σ h.blk.get w'∧Ext ρ σ st.as.h h w w':=by
 intro n
 induction n with
 |zero=>intro f0 rd st ρ c ccs w ok v h hsr hwf hx;cases hx
 |succ n ih=>
  intro f0 rd st ρ c ccs w ok v h hsr hwf hx hfree base
  have go:∀(s s':AS) (σ:Ren) (c':Frame) (ccs':List Frame) (w1:World),s=st.as→Steps E.P (lone c (ccs++base) w) (lone c' (ccs'++base) w1)→SR σ s' c' ccs' w1→Ext ρ σ s.h s'.h w w1→Hn (goF E n f0 rd) s'=some (ok,v,h)→
    ∃σ cf v' w1 w',Steps E.P (lone c (ccs++base) w) (lone cf base w1)∧cf.fn=f0∧(rd=false→cf.roundOf=none)∧IU E.P cf w1 ok v' w'∧VR σ v v'∧HR σ h.blk.get w'∧Ext ρ σ s.h h w w':=by
   intro s s' σ c' ccs' w1 es h1 h2 h3 h4;subst es;obtain ⟨st',e1,e2⟩:=HF (goF E n f0 rd) s';subst e1;rw [e2] at h4;obtain ⟨τ,cf,v',w2,w',q1,q2,q3,q4,q5,q6,q7⟩:=ih f0 rd st' σ c' ccs' w1 ok v h h2 (h3.wf hwf) h4 (h3.free hfree) base;exact ⟨τ,cf,v',w2,w',Steps.trans h1 q1,q2,q3,q4,q5,q6,h3.trans q7 hfree⟩
  have lt:∀s',Hn (goF E n f0 rd) s'=some (ok,v,h)→s'.h.nx≤h.nx:=by
   intro s' hs;obtain ⟨st',e1,e2⟩:=HF (goF E n f0 rd) s';rw [e2] at hs;rw [←e1];exact GL n f0 rd st' _ hs
  have hC:∀(fr:AF) (g g':Aa) (ok:Bool) (v:AV) (ρ:Ren) (cf:Frame) (w:World),FrR ρ fr cf→HR ρ g.blk.get w→WF g→Hn (goF E n fr.fn true) {fr,cs:=[],h:=g}=some (ok,v,g')→Ax ρ g.nx g'.nx→
    ∀(c0:Frame) (base:List Frame),∃σ v' w',BK E.P (lone cf (c0::base) w) c0 base ok v' w'∧VR σ v v'∧HR σ g'.blk.get w'∧Ext ρ σ g g' w w':=by
   intro fr g g' ok v ρ cf w hfr hr hwf hx hfree c0 base;obtain ⟨st',e1,e2⟩:=HF (goF E n fr.fn true) {fr,cs:=[],h:=g};rw [e2] at hx;obtain ⟨σ,cf',v',w1,w',q1,q2,q3,q4,q5,q6,q7⟩:=ih fr.fn true st' ρ cf [] w ok v g' (by rw [e1];exact ⟨hfr,.nil,hr⟩) (by rw [e1];exact hwf) hx (by rw [e1];exact hfree) (c0::base)
   rw [e1] at q7;refine ⟨σ,v',w',?_,q5,q6,q7⟩;have:=Steps.trans q1 (Steps.one (q4.back c0 base));cases ok<;>exact this
  have hF:Dv E (Nb E (goF E n)):=by
   refine ⟨?_,?_⟩
   ·intro f' args args' g g' ok v ρ w ha hr hwf hx hfree;simp only [Nb] at hx;split at hx
    ·rename_i r hfind;cases hx;exact Dz hE hO hfind ha hr hwf hfree
    ·split at hx
     ·rename_i fr hfr;exact hC fr g g' ok v ρ _ w (Cp hE hfr ha) hr hwf hx hfree
     ·cases hx
   ·intro l args g g' ok v ρ w hr hwf hx hfree;simp only [Nb] at hx;split at hx
    ·rename_i fr hfr;exact ⟨fr,hfr,fun cf hcf=>hC fr g g' ok v ρ cf w hcf hr hwf hx hfree⟩
    ·cases hx
  have done:∀(s:AS) (σ:Ren) (c':Frame) (ccs':List Frame) (w1:World) (ok:Bool) (v:AV) (h:Aa),AQ E s=.done ok v h→SR σ s c' ccs' w1→s.fr.fn=f0→(rd=true∨s.fr.round=none)→
    ccs'=[]∧∃v' w',c'.fn=f0∧(rd=false→c'.roundOf=none)∧IU E.P c' w1 ok v' w'∧VR σ v v'∧HR σ h.blk.get w'∧Ext σ σ s.h h w1 w':=by
   intro s σ c' ccs' w1 ok v h hst hs hfn hro;obtain ⟨e,x,w',q1,q2,q3,q4⟩:=GA hE hs hst;refine ⟨e,x,w',hs.fr.fn.trans hfn,fun hrd=>?_,q4,q1,q2,q3⟩
   rcases hro with q|q
   ·rw [hrd] at q;cases q
   ·have:=hs.fr.round;rw [q] at this;exact this.none_inv
  by_cases hg:∃s,st=.g s
  ·obtain ⟨s,rfl⟩:=hg;rw [Qe] at hx;unfold gen at hx;have hsr:SR ρ s c ccs w:=hsr;have hwf:WF s.h:=hwf;have hfree:Ax ρ s.h.nx h.nx:=hfree;split at hx
   ·rename_i s' htop;split at hx
    ·have hmono:=lt s' hx;obtain ⟨σ,cf',ccs',w',q1,q2,q3⟩:=Ji hE hO hsr hwf htop (fun b h1 h2=>hfree b h1 (by omega)) base
     exact go s s' σ cf' ccs' w' rfl q1 q2 q3 hx
    ·cases hx
   ·split at hx
    ·rename_i s' hst;split at hx
     ·have hmono:=lt s' hx;obtain ⟨σ,cf',ccs',w',q1,q2,q3⟩:=Ff (base:=base) hE hsr hst (fun b h1 h2=>hfree b h1 (by omega))
      exact go s s' σ cf' ccs' w' rfl (Steps.one q1) q2 q3 hx
     ·cases hx
    ·rename_i ok' v' h' hst;split at hx
     ·rename_i hb;simp only [Option.some.injEq,Prod.mk.injEq] at hx;obtain ⟨rfl,rfl,rfl⟩:=hx;obtain ⟨b1,b2⟩:=Am hb
      obtain ⟨rfl,x,w',q1,q2,q3,q4,q5,q6⟩:=done s ρ c ccs w _ _ _ hst hsr (Aq (Am b1).2) (by
       cases rd with
       |true=>exact .inl rfl
       |false=>simp only [Bool.false_or,Option.isNone_iff_eq_none] at b2;exact .inr b2)
      exact ⟨ρ,c,x,w,w',Steps.refl _ _,q1,q2,q3,q4,q5,q6⟩
     ·cases hx
    ·rename_i s2 ops k hst;obtain ⟨rfl,hm,id,ht⟩:=Ce hst;split at hx
     ·rename_i tmps h1 hd;have hmono:=lt _ hx;obtain ⟨σ,c',w',q1,q2,q3⟩:=EM hE hF hsr hwf hm ht (GG hd) (fun b a1 a2=>hfree b a1 (Nat.lt_of_lt_of_le a2 hmono)) base
      exact go _ _ σ c' ccs w' rfl q1 q2 q3 hx
     ·rename_i v1 tmps h1 hd;have hmono:=lt _ hx;obtain ⟨σ,c',w',q1,q2,q3⟩:=EM hE hF hsr hwf hm ht (GG hd) (fun b a1 a2=>hfree b a1 (Nat.lt_of_lt_of_le a2 hmono)) base
      exact go _ _ σ c' ccs w' rfl q1 q2 q3 hx
     ·cases hx
    ·split at hx
     ·rename_i s' hl;split at hx
      ·have hmono:=lt s' hx;obtain ⟨σ,cf',ccs',w',q1,q2,q3⟩:=N0 hE hO hF hsr hwf hl (fun b h1 h2=>hfree b h1 (by omega)) base
       exact go s s' σ cf' ccs' w' rfl q1 q2 q3 hx
      ·cases hx
     ·cases hx
  ·rcases QD n f0 rd st (fun s e=>hg ⟨s,e⟩) _ hx with ⟨st',q1,q2⟩|⟨s1,q1,q2,q3,q4,q5,q6⟩
   ·have hmono:=GL n f0 rd st' _ q2;obtain ⟨σ,c',ccs',w1,r1,r2,r3⟩:=q1.ok hE hsr (fun b h1 h2=>hfree b h1 (by have:st'.as.h.nx≤h.nx:=hmono;omega)) base
    obtain ⟨τ,cf,v',w2,w',t1,t2,t3,t4,t5,t6,t7⟩:=ih f0 rd st' σ c' ccs' w1 ok v h r2 (r3.wf hwf) q2 (r3.free hfree) base;exact ⟨τ,cf,v',w2,w',Steps.trans r1 t1,t2,t3,t4,t5,t6,r3.trans t7 hfree⟩
   ·have q3:ok=true:=q3;subst q3;have q6:s1.h.nx≤h.nx:=q6;obtain ⟨σ,c',ccs',w1,r1,r2,r3⟩:=q1.ok hE hsr (fun b h1 h2=>hfree b h1 (by omega)) base
    obtain ⟨rfl,x,w',t1,t2,t3,t4,t5,t6⟩:=done s1 σ c' ccs' w1 _ _ _ q2 r2 q4 (.inr q5);exact ⟨σ,c',x,w1,w',r1,t1,t2,t3,t4,t5,r3.trans t6 hfree⟩
end
end
theorem Orc.validG {E:Env} (hE:∀[U:Unk],U.K=(Env.of E.P).kinds→OK E) {G:Nat→D→D} (hO:Ad E G) {N:Nat} {e:Orc} (h:∀[F:Facts],Ab E N e=true):e.Valid E.P G:=by
 intro U hK hG ρ w args' ha hr hwf hfree c0 base;have hE:=hE hK;subst hG;have hx:=h (F:=U.toFacts);unfold Ab at hx;split at hx
 ·rename_i ok v g hcall;simp only [Bool.and_eq_true,beq_iff_eq] at hx;obtain ⟨⟨⟨⟨h1,h2⟩,h3⟩,h4⟩,h5⟩:=hx;have e4:=Nat.eq_of_beq_eq_true h4;unfold V3 at hcall;split at hcall
  ·rename_i fr hfr;obtain ⟨st',s1,s2⟩:=HF (goF E N e.f false) {fr,cs:=[],h:={blk:=e.part,nx:=e.nx,log:=[]}};rw [s2] at hcall;obtain ⟨σ,cf,v',w1,w',q1,q2,q3,q4,q5,q6,q7⟩:=ci hE hO N e.f false st' ρ _ [] w ok v g (by rw [s1];exact ⟨Cp hE hfr ha,.nil,hr⟩) (by rw [s1];exact hwf) hcall (by rw [s1];show Ax ρ e.nx g.nx;rw [e4];exact hfree) (c0::base)
   rw [s1] at q7;refine ⟨σ,v',w',g,?_,Dk _ _ h2▸q5,q6,q7,ET h3,e4,MV h5⟩;rw [←h1];have:=Steps.trans q1 (Steps.one (q4.back c0 base));cases ok<;>exact this
  ·cases hcall
 ·cases hx
end Go.AE
namespace Go.AE
variable [Gl:Au]
variable [U:Unk]
def Ry (x:Func):Bool:=!(x.name == "runtime.NumGoroutine")&&(x.body.isSome||(!(x.name == "maps.clone") && !(x.name == "internal/bytealg.IndexByteString") && !(x.name == "internal/bytealg.CountString"))||(Extern.allNextRows.lookup x.origin).isNone)
theorem QV:Extern.allNextRows.lookup "maps.clone" = none:=by kernel_rfl
theorem RW:Extern.allGenericRows.lookup "maps.clone" = none:=by kernel_rfl
theorem OV:Extern.allTypedRows.lookup "maps.clone" = none:=by kernel_rfl
theorem TD:Extern.allRows.lookup "maps.clone" = some Extern.MapsClone.clone:=by kernel_rfl
theorem U2:Extern.allNextRows.lookup "internal/bytealg.IndexByteString" = none:=by kernel_rfl
theorem ZQ:Extern.allGenericRows.lookup "internal/bytealg.IndexByteString" = none:=by kernel_rfl
theorem SS:Extern.allTypedRows.lookup "internal/bytealg.IndexByteString" = none:=by kernel_rfl
theorem bg:Extern.allRows.lookup "internal/bytealg.IndexByteString" = some Extern.BytealgIndexByte.indexByte:=by kernel_rfl
theorem VQ:Extern.allNextRows.lookup "internal/bytealg.CountString" = none:=by kernel_rfl
theorem bD:Extern.allGenericRows.lookup "internal/bytealg.CountString" = none:=by kernel_rfl
theorem T7:Extern.allTypedRows.lookup "internal/bytealg.CountString" = none:=by kernel_rfl
theorem YF:Extern.allRows.lookup "internal/bytealg.CountString" = some Extern.BytealgCount.count:=by kernel_rfl
omit U in
theorem D4 {x:Func} {n:String} (hn:x.name=n) (h1:Extern.allNextRows.lookup n=none) (h2:Extern.allNextRows.lookup x.origin=none):Extern.findNext x=none:=by
 show ((Extern.allNextRows.lookup x.name).map (· x.params x.resultTypes) <|> (Extern.allNextRows.lookup x.origin).map (· x.params x.resultTypes))=none
 rw [hn,h1,h2];rfl
omit U in
theorem H3 {x:Func} {n:String} {g:Array Value→Sem Value} (hn:x.name=n) (h1:Extern.allGenericRows.lookup n=none) (h2:Extern.allTypedRows.lookup n=none) (h3:Extern.allRows.lookup n=some g):Extern.find x=some g:=by
 show (((Extern.allGenericRows.lookup x.name).map (· x.targs x.params x.resultTypes) <|> (Extern.allTypedRows.lookup x.name).map (· x.params x.resultTypes) <|> Extern.allRows.lookup x.name) <|> ((Extern.allGenericRows.lookup x.origin).map (· x.targs x.params x.resultTypes) <|> (Extern.allTypedRows.lookup x.origin).map (· x.params x.resultTypes) <|> Extern.allRows.lookup x.origin))=some g
 rw [hn,h1,h2,h3];rfl
omit U in
theorem G3:∀(l:List Orc) (f:Nat) (x:List Orc),(RH l).get f=some x→∀e∈x,e∈l
 |[],f,x,h=>by rw [RH,T.get_nil] at h;cases h
 |a::l,f,x,h=>by
  unfold RH V1 at h;intro e he;cases hq:(RH l).get a.f with
  |none=>
   rw [hq] at h;simp only [T.get_set] at h;split at h
   ·cases h;simp only [List.mem_singleton] at he;subst he;exact List.mem_cons_self
   ·exact List.mem_cons_of_mem _ (G3 l f x h e he)
  |some y=>
   rw [hq] at h;simp only [T.get_set] at h;split at h
   ·cases h;rcases List.mem_cons.1 he with q|q
    ·rw [q];exact List.mem_cons_self
    ·exact List.mem_cons_of_mem _ (G3 l a.f y hq e q)
   ·exact List.mem_cons_of_mem _ (G3 l f x h e he)
theorem OK.of {P:Program} {l:List Orc} {m:List Sm} (hm:P.follows .mixedOrders=true) (hc:P.funcs.toList.all Ry=true) (hk:U.K=(Env.of P).kinds):OK (Env.ofS P l m):=by
 have hfn:∀f x,(Env.ofS P l m).fn.get f=some x→P.funcs[f]?=some x:=by
  intro f x h;rw [Env.ofS,T.get_ofList] at h;simpa using h
 have hall:∀f x,(Env.ofS P l m).fn.get f=some x→Ry x=true:=by
  intro f x h;have:=hfn f x h
  exact List.all_eq_true.1 hc x (by
   have h2:P.funcs.toList[f]?=some x:=by simpa using this
   exact List.mem_of_getElem? h2)
 refine ⟨fun t i h=>?_,hfn,fun f x h=>?_,fun f x h hb hn=>?_,fun f x h hb hn=>?_,fun f x h hb hn=>?_,hm,hk,rfl,rfl,fun f x h=>G3 l f x h⟩
 ·rw [Env.ofS,T.get_ofList] at h;have h2:P.types[t]?=some i:=by simpa using h
  have hlt:t<P.types.size:=(Array.getElem?_eq_some_iff.1 h2).1;show P.info? t=some i;simp only [Tables.info?,if_pos hlt];exact h2
 ·have:=hall f x h;simp only [Ry,Bool.and_eq_true,Bool.not_eq_true'] at this;exact this.1
 ·have q:=hall f x h;have ho:Extern.allNextRows.lookup x.origin=none:=by simpa [Ry,hb,hn] using q
  exact ⟨D4 hn QV ho,H3 hn RW OV TD⟩
 ·have q:=hall f x h;have ho:Extern.allNextRows.lookup x.origin=none:=by simpa [Ry,hb,hn] using q
  exact ⟨D4 hn U2 ho,H3 hn ZQ SS bg⟩
 ·have q:=hall f x h;have ho:Extern.allNextRows.lookup x.origin=none:=by simpa [Ry,hb,hn] using q
  exact ⟨D4 hn VQ ho,H3 hn bD T7 YF⟩
theorem Ad.none {P:Program} {F:Nat→D→D}:Ad (Env.ofO P []) F:=⟨fun e he=>(by cases he),fun e he=>(by cases he)⟩
theorem Ad.add {P:Program} {l:List Orc} {m:List Sm} {e:Orc} {N:Nat} (hE:∀[U:Unk],U.K=(Env.of P).kinds→OK (Env.ofS P l m)) {G:Nat→D→D} (hO:Ad (Env.ofS P l m) G) (h:∀[F:Facts],Ph (Env.ofS P l m) N e=true):Ad (Env.ofS P (e::l) m) G:=by
 refine ⟨fun x hx=>?_,hO.sms⟩
 rcases List.mem_cons.1 hx with rfl|hx
 ·exact Orc.valid (E:=Env.ofS P l m) hE hO h
 ·exact hO.orc x hx
theorem Ad.cons {P:Program} {l:List Orc} {m:List Sm} {e:Orc} {G:Nat→D→D} (h:e.Valid P G) (hO:Ad (Env.ofS P l m) G):Ad (Env.ofS P (e::l) m) G:=
 ⟨fun x hx=>(List.mem_cons.1 hx).elim (fun q=>q▸h) (fun q=>hO.orc x q),hO.sms⟩
theorem Ad.val {P:Program} {l:List Orc} {e:Orc} {N:Nat} (hE:∀[U:Unk],U.K=(Env.of P).kinds→OK (Env.ofS P l [])) {G:Nat→D→D} (hO:Ad (Env.ofS P l []) G) (h:∀[F:Facts],Ab (Env.ofS P l []) N e=true):e.Valid P G:=
 Orc.validG (E:=Env.ofS P l []) hE hO h
end Go.AE
namespace Go.AE
variable [Gl:Au]
open Go.RowKit
def Vg [Facts] (j:Nat):Kd→AV
 |.int k=>mkI k (.var j)
 |.bool=>mkB true (.var j)
 |.str=>.ss (.var j)
 |.slice e=>.dat e (.var j)
def HB [Facts]:Nat→List Kd→List AV
 |_,[]=>[]
 |j,k::ks=>Vg j k::HB (j+1) ks
def H1:TypeDesc→Bool
 |.struct _=>true
 |_=>false
def EL [Facts] (E:Env):Nat→List TypeId→Option (List AV)
 |_,[]=>some []
 |j,t::ts=>match E.desc t,E.kinds0 t with
  |some d,some ks=>match EL E (j+ks.length) ts with
   |some r=>match H1 d with
    |true=>some (.agg (HB j ks)::r)
    |false=>match HB j ks with
     |[a]=>some (a::r)
     |_=>none
   |none=>none
  |_,_=>none
def A8 (E:Env):List TypeId→Option (List Kd)
 |[]=>some []
 |t::ts=>match E.kinds0 t,A8 E ts with
  |some ks,some l=>some (ks++l)
  |_,_=>none
def BT:Nat→List Kd→List (SB×Bool)
 |_,[]=>[]
 |j,.int k::r=>match decide (k=.i64) with
  |true=>BT (j+1) r
  |false=>(.lss (.var j) (.c k.min),false)::(.lss (.c k.max) (.var j),false)::BT (j+1) r
 |j,_::r=>BT (j+1) r
def inL (e:TypeId):List TypeId→Bool
 |[]=>false
 |f::r=>Nat.beq e f||inL e r
def ND (L:List TypeId):Kd→Bool
 |.slice e=>inL e L
 |_=>true
def FL (E:Env) (L:List TypeId):List TypeId→Bool
 |[]=>true
 |e::r=>match E.kinds0 e with
  |some ks=>!ks.isEmpty&&ks.all (ND L)&&FL E L r
  |none=>false
inductive DT where
 |leaf
 |split (e:SB) (t f:DT)
def CC (fn:Nat→D→D) (ds:List D):Val:={d:=fun j=>ds.getD j default,fn}
@[reducible] def RZ (P:Program):Unk:={facts:=[],V:=CC (fun _ d=>d) [],K:=(Env.of P).kinds,R:=[],hR:=fun _ _ _ _ _ h=>by (cases h),ok:=by simp}
def DVL (K:TypeId→Option (List Kd)) (M:Nat→Option (Array Value)):List Kd→List Value→List D→Prop
 |[],[],[]=>True
 |k::ks,v::vs,d::ds=>DV K M k v d∧DVL K M ks vs ds
 |_,_,_=>False
theorem DVL.len {K:TypeId→Option (List Kd)} {M:Nat→Option (Array Value)}:∀{ks:List Kd} {vs:List Value} {ds:List D},DVL K M ks vs ds→ks.length=vs.length∧ks.length=ds.length
 |[],[],[],_=>⟨rfl,rfl⟩
 |_::_,_::_,_::_,h=>by have:=DVL.len h.2;simp [this.1.symm,this.2.symm]
def Can:List Kd→List D→Prop
 |.int _::ks,d::ds=>(∃n,d=.int n)∧Can ks ds
 |.bool::ks,d::ds=>(∃n,d=.bool n)∧Can ks ds
 |.str::ks,d::ds=>(∃n,d=.str n)∧Can ks ds
 |.slice _::ks,_::ds=>Can ks ds
 |_,_=>True
def G8 (K:TypeId→Option (List Kd)):Nat→Kd→D→Prop
 |_,.int _,d=>∃n,d=.int n
 |_,.bool,d=>∃b,d=.bool b
 |_,.str,d=>∃s,d=.str s
 |0,.slice _,_=>True
 |m+1,.slice e,d=>∃nl rows,d=.slc nl rows∧(nl=true→rows=[])∧∀ks,K e=some ks→∀r∈rows,∃cs,r=.row cs∧cs.length=ks.length∧∀(j:Nat) kd,ks[j]?=some kd→G8 K m kd (cs.getD j default)
def LZ (K:TypeId→Option (List Kd)) (m:Nat) (ks:List Kd) (xs:List D):Prop:=∀(j:Nat) kd,ks[j]?=some kd→G8 K m kd (xs.getD j default)
def leB (o:Option Nat) (n:Nat):Prop:=∀b,o=some b→n≤b
def ShK (K:TypeId→Option (List Kd)) (o:Option Nat):Nat→Kd→D→Prop
 |_,.int _,_=>True
 |_,.bool,_=>True
 |_,.str,d=>leB o d.toStr.data.toList.length
 |0,.slice _,_=>True
 |m+1,.slice e,d=>leB o d.rows.length∧∀ks,K e=some ks→∀i,i<d.rows.length→∀(j:Nat) kd,ks[j]?=some kd→ShK K o m kd ((d.rows.getD i default).cells.getD j default)
def ShL (K:TypeId→Option (List Kd)) (o:Option Nat) (m:Nat) (ks:List Kd) (xs:List D):Prop:=∀(j:Nat) kd,ks[j]?=some kd→ShK K o m kd (xs.getD j default)
mutual
def A7 {H:Type} (o:Option Nat):DataW H→Prop
 |.lit (.string bytes)=>leB o bytes.length
 |.lit _=>True
 |.nil=>True
 |.ptr _=>True
 |.slice elems _=>leB o elems.length∧Bm o elems
 |.agg parts=>Bm o parts
 |.iface _ _=>True
 |.map _=>True
 |.held _=>True
def Bm {H:Type} (o:Option Nat):List (DataW H)→Prop
 |[]=>True
 |d::r=>A7 o d∧Bm o r
end
mutual
theorem A7.none {H:Type}:∀d:DataW H,A7 none d
 |.lit (.string _)=>by rw [A7];intro b hb;cases hb
 |.lit (.bool _)=>by simp [A7]
 |.lit (.int _ _)=>by simp [A7]
 |.lit (.float _ _)=>by simp [A7]
 |.lit .nil=>by simp [A7]
 |.nil=>by simp [A7]
 |.ptr _=>by simp [A7]
 |.slice elems _=>by rw [A7];exact ⟨fun b hb=>(by cases hb),Bm.none elems⟩
 |.agg parts=>by rw [A7];exact Bm.none parts
 |.iface _ _=>by simp [A7]
 |.map _=>by simp [A7]
 |.held _=>by simp [A7]
theorem Bm.none {H:Type}:∀l:List (DataW H),Bm none l
 |[]=>by simp [Bm]
 |d::r=>by rw [Bm];exact ⟨A7.none d,Bm.none r⟩
end
theorem Bm.get {H:Type} {o:Option Nat}:∀{l:List (DataW H)} {i:Nat} {d:DataW H},Bm o l→l[i]?=some d→A7 o d
 |x::l,0,d,h,hi=>by
  simp only [List.getElem?_cons_zero,Option.some.injEq] at hi;subst hi;rw [Bm] at h;exact h.1
 |x::l,i+1,d,h,hi=>by
  rw [Bm] at h;exact h.2.get (by simpa using hi)
 |[],i,d,h,hi=>by simp at hi
theorem DV.canK {K:TypeId→Option (List Kd)} {M:Nat→Option (Array Value)} {o:Option Nat}:∀(m:Nat) (kd:Kd) (v:Value) (d:D),DV K M kd v d→∃d',DV K M kd v d'∧G8 K m kd d'∧(ShK K o m kd d→ShK K o m kd d')
 |m,.int k,v,d,h=>by
  cases h with
  |int _ n _ hr q=>exact ⟨.int n,.int k n _ hr rfl,by cases m<;>exact ⟨n,rfl⟩,fun _=>by cases m<;>trivial⟩
 |m,.bool,v,d,h=>by
  cases h with
  |bool b _ q=>exact ⟨.bool b,.bool b _ rfl,by cases m<;>exact ⟨b,rfl⟩,fun _=>by cases m<;>trivial⟩
 |m,.str,v,d,h=>by
  cases h with
  |str b _ q=>exact ⟨.str b,.str b _ rfl,by cases m<;>exact ⟨b,rfl⟩,fun hs=>by cases m<;>(simp only [ShK] at hs ⊢;rw [q] at hs;exact hs)⟩
 |0,.slice e,v,d,h=>⟨d,h,trivial,fun h=>h⟩
 |m+1,.slice e,v,d,h=>by
  cases h with
  |nil _ _ h1 h2=>exact ⟨.slc true [],.nil e _ rfl rfl,⟨true,[],rfl,fun _=>rfl,fun _ _ r hr=>by cases hr⟩,fun _=>⟨fun b _=>Nat.zero_le b,fun ks _ i hi=>absurd hi (Nat.not_lt_zero i)⟩⟩
  |empty _ a cap _ h1 h2=>exact ⟨.slc false [],.empty e a cap _ rfl rfl,⟨false,[],rfl,fun _=>rfl,fun _ _ r hr=>by cases hr⟩,fun _=>⟨fun b _=>Nat.zero_le b,fun ks _ i hi=>absurd hi (Nat.not_lt_zero i)⟩⟩
  |slc _ b off n cap _ ks arr hk ha hn hc h1 hin hrow hv=>
   classical
   have key:∀i j,∃x,∀kd,i<n→ks[j]?=some kd→DV K M kd (arr.getD (off+i*ks.length+j) Go.undef) x∧G8 K m kd x∧(ShK K o m kd ((d.rows.getD i default).cells.getD j default)→ShK K o m kd x):=by
    intro i j;cases hj:ks[j]? with
    |none=>exact ⟨default,fun kd _ h=>by cases h⟩
    |some kd=>
     by_cases hi:i<n
     ·obtain ⟨x,q1,q2⟩:=DV.canK m kd _ _ (hv i j kd hi hj);exact ⟨x,fun kd' _ h=>by cases h;exact ⟨q1,q2⟩⟩
     ·exact ⟨default,fun kd _ h=>absurd ‹i<n› hi⟩
   let f:Nat→Nat→D:=fun i j=>Classical.choose (key i j)
   have hf:∀i j kd,i<n→ks[j]?=some kd→DV K M kd (arr.getD (off+i*ks.length+j) Go.undef) (f i j)∧G8 K m kd (f i j)∧(ShK K o m kd ((d.rows.getD i default).cells.getD j default)→ShK K o m kd (f i j)):=fun i j=>Classical.choose_spec (key i j)
   have hr:∀i,i<n→((List.range n).map fun i=>D.row ((List.range ks.length).map (f i))).getD i default=.row ((List.range ks.length).map (f i)):=by
    intro i hi;simp [List.getD_eq_getElem?_getD,hi]
   have hcell:∀i j,j<ks.length→((List.range ks.length).map (f i)).getD j default=f i j:=by
    intro i j hj;simp [List.getD_eq_getElem?_getD,hj]
   have hjl:∀{j:Nat} {kd:Kd},ks[j]?=some kd→j<ks.length:=fun h=>(List.getElem?_eq_some_iff.1 h).1
   refine ⟨.slc false ((List.range n).map fun i=>.row ((List.range ks.length).map (f i))),.slc e b off n cap _ ks arr hk ha (by show (List.map _ _).length=n;simp) hc rfl hin (fun i hi=>?_) (fun i j kd hi hj=>?_),⟨false,_,rfl,(fun h=>by cases h),fun ks' hk' r hr'=>?_⟩,fun hs=>⟨?_,fun ks' hk' i hi j kd hj=>?_⟩⟩
   ·show (((List.range n).map fun i=>D.row ((List.range ks.length).map (f i))).getD i default).cells.length=_
    rw [hr i hi];simp [D.cells]
   ·show DV K M kd _ ((((List.range n).map fun i=>D.row ((List.range ks.length).map (f i))).getD i default).cells.getD j default)
    rw [hr i hi];show DV K M kd _ (((List.range ks.length).map (f i)).getD j default);rw [hcell i j (hjl hj)];exact (hf i j kd hi hj).1
   ·rw [hk] at hk';cases hk';obtain ⟨i,hi,e⟩:=List.mem_map.1 hr';refine ⟨_,e.symm,by simp,fun j kd hj=>?_⟩
    rw [hcell i j (hjl hj)];exact (hf i j kd (List.mem_range.1 hi) hj).2.1
   ·have e:(D.slc false ((List.range n).map fun i=>D.row ((List.range ks.length).map (f i)))).rows.length=d.rows.length:=by rw [hn];simp [D.rows]
    rw [e];exact hs.1
   ·rw [hk] at hk';cases hk'
    have hi':i<n:=by
     have:i<((List.range n).map fun i=>D.row ((List.range ks.length).map (f i))).length:=hi
     simpa using this
    show ShK K o m kd ((((List.range n).map fun i=>D.row ((List.range ks.length).map (f i))).getD i default).cells.getD j default)
    rw [hr i hi'];show ShK K o m kd (((List.range ks.length).map (f i)).getD j default);rw [hcell i j (hjl hj)];exact (hf i j kd hi' hj).2.2 (hs.2 ks hk i (by rw [hn];exact hi') j kd hj)
theorem DVL.can {K:TypeId→Option (List Kd)} {M:Nat→Option (Array Value)} {o:Option Nat}:∀{ks:List Kd} {cs:List Value} {xs:List D},DVL K M ks cs xs→ShL K o 9 ks xs→∃ys,DVL K M ks cs ys∧(Can ks ys∧LZ K 9 ks ys)∧ShL K o 9 ks ys
 |[],[],[],h,_=>⟨[],h,⟨trivial,fun j kd h=>by simp at h⟩,fun j kd h=>by simp at h⟩
 |k::ks,v::vs,d::ds,h,hs=>by
  obtain ⟨ys,h1,⟨h2,h3⟩,h4⟩:=DVL.can (o:=o) h.2 (fun j kd hj=>by simpa using hs (j+1) kd (by simpa using hj))
  obtain ⟨d',q1,q2,q3⟩:=DV.canK (o:=o) 9 k v d h.1;refine ⟨d'::ys,⟨q1,h1⟩,⟨?_,fun j kd hj=>?_⟩,fun j kd hj=>?_⟩
  rotate_left 2
  ·cases j with
   |zero=>simp only [List.getElem?_cons_zero,Option.some.injEq] at hj;subst hj;exact q3 (hs 0 k rfl)
   |succ j=>simpa using h4 j kd (by simpa using hj)
  ·cases k with
   |int k=>exact ⟨q2,h2⟩
   |bool=>exact ⟨q2,h2⟩
   |str=>exact ⟨q2,h2⟩
   |slice e=>exact h2
  ·cases j with
   |zero=>simp only [List.getElem?_cons_zero,Option.some.injEq] at hj;subst hj;exact q2
   |succ j=>simpa using h3 j kd (by simpa using hj)
theorem ShL.append {K:TypeId→Option (List Kd)} {o:Option Nat} {m:Nat} {ks ks':List Kd} {xs xs':List D} (hl:ks.length=xs.length) (h:ShL K o m ks xs) (h':ShL K o m ks' xs'):ShL K o m (ks++ks') (xs++xs'):=by
 intro j kd hj;rcases Nat.lt_or_ge j ks.length with c|c
 ·rw [List.getElem?_append_left c] at hj;have:=h j kd hj;simpa [List.getD_eq_getElem?_getD,List.getElem?_append_left (show j<xs.length by omega)] using this
 ·rw [List.getElem?_append_right c] at hj;have:=h' (j-ks.length) kd hj;simpa [List.getD_eq_getElem?_getD,List.getElem?_append_right (show xs.length≤j by omega),←hl] using this
theorem LZ.append {K:TypeId→Option (List Kd)} {m:Nat} {ks ks':List Kd} {xs xs':List D} (hl:ks.length=xs.length) (h:LZ K m ks xs) (h':LZ K m ks' xs'):LZ K m (ks++ks') (xs++xs'):=by
 intro j kd hj;rcases Nat.lt_or_ge j ks.length with c|c
 ·rw [List.getElem?_append_left c] at hj;have:=h j kd hj;simpa [List.getD_eq_getElem?_getD,List.getElem?_append_left (show j<xs.length by omega)] using this
 ·rw [List.getElem?_append_right c] at hj;have:=h' (j-ks.length) kd hj;simpa [List.getD_eq_getElem?_getD,List.getElem?_append_right (show xs.length≤j by omega),←hl] using this
theorem Can.append {K:TypeId→Option (List Kd)} {M:Nat→Option (Array Value)}:∀{ks ks':List Kd} {cs:List Value} {xs xs':List D},DVL K M ks cs xs→Can ks xs→Can ks' xs'→Can (ks++ks') (xs++xs')
 |[],_,[],[],_,_,_,h'=>h'
 |.int _::_,_,_::_,_::_,_,hd,h,h'=>⟨h.1,Can.append hd.2 h.2 h'⟩
 |.bool::_,_,_::_,_::_,_,hd,h,h'=>⟨h.1,Can.append hd.2 h.2 h'⟩
 |.str::_,_,_::_,_::_,_,hd,h,h'=>⟨h.1,Can.append hd.2 h.2 h'⟩
 |.slice _::ks,ks',_::cs,_::xs,xs',hd,h,h'=>Can.append (ks:=ks) (ks':=ks') (cs:=cs) (xs:=xs) (xs':=xs') hd.2 h h'
theorem DVL.append {K:TypeId→Option (List Kd)} {M:Nat→Option (Array Value)}:∀{ks ks':List Kd} {vs vs':List Value} {ds ds':List D},DVL K M ks vs ds→DVL K M ks' vs' ds'→DVL K M (ks++ks') (vs++vs') (ds++ds')
 |[],_,[],_,[],_,_,h=>h
 |_::_,_,_::_,_,_::_,_,h,h'=>⟨h.1,DVL.append h.2 h'⟩
theorem DVL.get {K:TypeId→Option (List Kd)} {M:Nat→Option (Array Value)}:∀{ks:List Kd} {vs:List Value} {ds:List D},DVL K M ks vs ds→∀{j:Nat} {k:Kd} {d:D},ks[j]?=some k→ds[j]?=some d→∃v,vs[j]?=some v∧DV K M k v d
 |[],[],[],_,j,k,d,h,_=>by simp at h
 |_::_,_::_,_::_,h,0,k,d,h1,h2=>by
  simp only [List.getElem?_cons_zero,Option.some.injEq] at h1 h2;subst h1;subst h2;exact ⟨_,rfl,h.1⟩
 |_::_,_::_,_::_,h,j+1,k,d,h1,h2=>by
  simp only [List.getElem?_cons_succ] at h1 h2 ⊢;exact DVL.get h.2 h1 h2
theorem Iz [U:Unk] (ρ:Ren):∀(ks:List Kd) (vs:List Value) (ds:List D) (j:Nat),(∀i,i<ds.length→U.V.d (j+i)=ds.getD i default)→DVL U.K ρ.imm ks vs ds→VL ρ (HB j ks) vs
 |[],[],[],_,_,_=>VL.nil ρ
 |k::ks,v::vs,d::ds,j,hi,h=>by
  have h0:U.V.d j=d:=by have:=hi 0 (by simp);simpa using this
  refine VL.cons ?_ (Iz ρ ks vs ds (j+1) (fun i hl=>by have:=hi (i+1) (by simp;omega);rw [show j+1+i=j+(i+1) by omega,this];simp) h.2)
  have hk:=h.1;have he:Af U.V (.var j)=d:=h0;rw [←he] at hk;generalize hq:Af U.V (.var j)=d' at hk;cases hk with
  |int k n _ hr h3=>
   have:=B3 ρ k (.var j);have e:Ag U.V (.var j)=n:=by unfold Ag;rw [hq];exact h3
   rw [e] at this;exact this
  |bool b _ h3=>
   have:=Fh ρ true (.var j);have e:(Ai U.V (.var j)==true)=b:=by unfold Ai;rw [hq,h3];cases b<;>rfl
   rw [e] at this;exact this
  |str s _ h3=>
   have:=VR.ss (ρ:=ρ) (.var j);have e:AG U.V (.var j)=s:=by unfold AG;rw [hq];exact h3
   rw [e] at this;exact this
  |nil e _ h1 h2=>exact .dat e (.var j) _ _ _ (by rw [hq];exact .nil e _ h1 h2)
  |empty e a cap _ h1 h2=>exact .dat e (.var j) _ _ _ (by rw [hq];exact .empty e a cap _ h1 h2)
  |slc e b off n cap _ ks arr hk ha hn hc h1 hin hrow hv=>exact .dat e (.var j) _ _ _ (by rw [hq];exact .slc e b off n cap _ ks arr hk ha hn hc h1 hin hrow hv)
theorem F8 [U:Unk] {K:TypeId→Option (List Kd)} {M:Nat→Option (Array Value)} {V:Val}:∀(ks:List Kd) (vs:List Value) (ds:List D) (j:Nat),(∀i,i<ds.length→V.d (j+i)=ds.getD i default)→DVL K M ks vs ds→∀e b,(e,b)∈BT j ks→Ai V e=b
 |[],[],[],_,_,_,e,b,hm=>by simp [BT] at hm
 |k::ks,v::vs,d::ds,j,hi,h,e,b,hm=>by
  have h0:V.d j=d:=by have:=hi 0 (by simp);simpa using this
  have ih:=F8 ks vs ds (j+1) (fun i hl=>by have:=hi (i+1) (by simp;omega);rw [show j+1+i=j+(i+1) by omega,this];simp) h.2 e b
  have hk:=h.1;cases hk with
  |int k n _ hr h3=>
   have e0:(Af V (.var j)).toInt=n:=by simp only [Af,h0];exact h3
   simp only [BT] at hm;split at hm
   ·exact ih hm
   ·rename_i hk;have hb:=hr.resolve_left (by simpa using hk)
    simp only [List.mem_cons,Prod.mk.injEq] at hm;rcases hm with ⟨rfl,rfl⟩|⟨rfl,rfl⟩|hm
    ·rw [Ap,decide_eq_false_iff_not];simp only [Ag];rw [e0];show ¬_<_;have:=hb.1;have:=hb.2;simp only [Af,D.toInt];omega
    ·rw [Ap,decide_eq_false_iff_not];simp only [Ag];rw [e0];show ¬_<_;have:=hb.1;have:=hb.2;simp only [Af,D.toInt];omega
    ·exact ih hm
  |bool=>exact ih hm
  |str=>exact ih hm
  |nil=>exact ih hm
  |empty=>exact ih hm
  |slc=>exact ih hm
def DC (w:World) (k:Nat):Option (Array Value):=match w.heap[k]? with
 |some (.cells c _ _)=>some c
 |_=>none
theorem Lm {w:World} {a:Addr} {v:Value} (h:w.cell? a=some v):∃arr,DC w a.block=some arr∧a.spot=none∧arr[a.off]?=some v:=by
 unfold World.cell? at h;unfold DC;split at h
 ·rename_i c _ _ hc;rw [hc];split at h
  ·cases h
  ·rename_i hs;refine ⟨c,rfl,?_,h⟩;cases hq:a.spot with
   |none=>rfl
   |some x=>rw [hq] at hs;simp at hs
 ·cases h
theorem Jt {w:World} {base n:Nat} {a:Addr} {cs:List Value} (h:w.cells? base a n=some cs) (hn:0<n):∃arr,DC w a.block=some arr∧a.spot=none∧cs.length=n∧∀j,j<n→arr[a.off+j]?=cs[j]?:=by
 unfold World.cells? at h;split at h
 ·have hl:cs.length=n:=by simpa using mapM_some_length h
  have hg:∀j,j<n→w.cell? (a.add j)=cs[j]?:=fun j hj=>mapM_some_get h j j (by simp [hj])
  have h0:=hg 0 hn;have e0:a.add 0=a:=by simp [Addr.add]
  rw [e0] at h0;have hc0:cs[0]?=some cs[0]:=by simp
  rw [hc0] at h0;obtain ⟨arr,q1,q2,q3⟩:=Lm h0;refine ⟨arr,q1,q2,hl,fun j hj=>?_⟩
  have hj':=hg j hj;have hcj:cs[j]?=some cs[j]:=by simp [hl,hj]
  rw [hcj] at hj' ⊢;obtain ⟨arr',p1,p2,p3⟩:=Lm hj';by_cases hz:j=0
  ·subst hz;rw [e0] at p1 p3;rw [q1] at p1;cases p1;exact p3
  ·simp only [Addr.add,if_neg hz] at p1 p3;rw [q1] at p1;cases p1;exact p3
 ·cases h
theorem Io {P:Nat→D→Prop}:∀(n:Nat),(∀i,i<n→∃d,P i d)→∃l:List D,l.length=n∧∀i,i<n→∃d,l[i]?=some d∧P i d
 |0,_=>⟨[],rfl,fun i hi=>by omega⟩
 |n+1,h=>by
  obtain ⟨l,h1,h2⟩:=Io n (fun i hi=>h i (by omega))
  obtain ⟨d,hd⟩:=h n (by omega)
  refine ⟨l++[d],by simp [h1],fun i hi=>?_⟩
  by_cases e:i<n
  ·obtain ⟨x,q1,q2⟩:=h2 i e;exact ⟨x,by rw [List.getElem?_append_left (by omega)];exact q1,q2⟩
  ·have:i=n:=by omega
   subst this;exact ⟨d,by rw [List.getElem?_append_right (by omega),h1];simp,hd⟩
theorem Kc {sz:TypeId→Nat→Bool} {r1 r2:TypeId→Option (List Kd)} (h:∀t ks,r1 t=some ks→r2 t=some ks):∀(fs:List Field) (off:Nat) (ks:List Kd),DS sz r1 fs off=some ks→DS sz r2 fs off=some ks
 |[],_,_,q=>q
 |f::r,off,ks,q=>by
  simp only [DS] at q ⊢;split at q
  ·rename_i l1 e1 e2;rw [h _ _ e2];split at q
   ·rename_i l2 e3 e4;simp only [e1,e3,Kc h r _ _ e4];exact q
   ·cases q
  ·cases q
theorem LF {desc:TypeId→Option TypeDesc} {sz:TypeId→Nat→Bool}:∀(n:Nat) (t:TypeId) (ks:List Kd),C9 false desc sz n t=some ks→C9 true desc sz n t=some ks
 |0,_,_,h=>h
 |n+1,t,ks,h=>by
  have key:∀l,HU false sz (C9 false desc sz n) (desc t)=some l→HU true sz (C9 true desc sz n) (desc t)=some l:=by
   intro l q;cases hd:desc t with
   |none=>rw [hd] at q;exact q
   |some d=>
    rw [hd] at q;cases d<;>first|exact q|skip
    ·simp [HU] at q
    ·exact Kc (LF n) _ _ _ q
  simp only [C9] at h ⊢;split at h
  ·rename_i l hl;rw [key l hl];exact h
  ·cases h
theorem RK {E:Env} {t:TypeId} {ks:List Kd} (h:E.kinds0 t=some ks):E.kinds t=some ks:=LF 20 t ks h
theorem SG {E:Env} {L:List TypeId}:∀{l:List TypeId} {e:TypeId},FL E L l=true→inL e l=true→∃ks,E.kinds0 e=some ks∧ks≠[]∧ks.all (ND L)=true
 |[],e,_,h=>by simp [inL] at h
 |f::r,e,hc,h=>by
  simp only [FL] at hc;split at hc
  ·rename_i ks hk;simp only [Bool.and_eq_true,Bool.not_eq_true',List.isEmpty_eq_false_iff] at hc;simp only [inL,Bool.or_eq_true] at h;rcases h with h|h
   ·rw [Aq h];exact ⟨ks,hk,hc.1.1,hc.1.2⟩
   ·exact SG hc.2 h
  ·cases hc
section
variable {E:Env} {L:List TypeId} {H:Type} {enc:TypeId×Value→H} {w:World} {base:Nat} {sp:Nat→Bool} {held:Bool}
theorem Gr [U:Unk] (hE:OK E) {t:TypeId} {n:Nat} (h:E.szIs t n=true):E.P.cellsOf t=n:=by
 unfold Env.szIs at h;cases hi:E.ty.get t with
 |none=>rw [hi] at h;cases h
 |some i=>rw [hi] at h;simp [Program.cellsOf,hE.ty t i hi,Aq h]
theorem Ps [U:Unk] (hE:OK E) {rec_:TypeId→Option (List Kd)} {o:Option Nat} {m:Nat} {cs:List Value} (hrec:∀t ks cs x,rec_ t=some ks→ks.all (ND L)=true→DataW.trod enc E.P w base sp held m t cs=some x→A7 o x.1→∃ds,DVL E.kinds (DC w) ks cs ds∧∀q,ShL E.kinds o q ks ds) :
  ∀(fs:List Field) (off:Nat) (ks:List Kd),DS E.szIs rec_ fs off=some ks→ks.all (ND L)=true→(∀f∈fs,∃x,DataW.trod enc E.P w base sp held m f.type ((cs.drop f.offset).take (E.P.cellsOf f.type))=some x∧A7 o x.1)→∃ds,DVL E.kinds (DC w) ks ((cs.drop off).take ks.length) ds∧∀q,ShL E.kinds o q ks ds:=by
 intro fs
 induction fs with
 |nil=>intro off ks h _ _;simp [DS] at h;subst h;exact ⟨[],by simp [DVL],fun q j kd h=>by simp at h⟩
 |cons f r ih=>
  intro off ks h hin hx;simp only [DS] at h;split at h
  ·rename_i k1 ho hk;split at h
   ·rename_i l hs hl;cases h;rw [List.all_append,Bool.and_eq_true] at hin;obtain ⟨x,hx1,hx2⟩:=hx f (by simp)
    have hoff:=Aq ho;have hsz:=Gr hE hs;obtain ⟨d1,q1,s1⟩:=hrec _ _ _ _ hk hin.1 hx1 hx2;rw [hsz,hoff] at q1;obtain ⟨d2,q2,s2⟩:=ih _ _ hl hin.2 (fun f hf=>hx f (by simp [hf]))
    have e:(cs.drop off).take (k1++l).length=(cs.drop off).take k1.length++(cs.drop (off+k1.length)).take l.length:=by
     rw [List.length_append,List.take_add,List.drop_drop]
    rw [e];exact ⟨d1++d2,q1.append q2,fun q=>(s1 q).append q1.len.2 (s2 q)⟩
   ·cases h
  ·cases h
theorem TN [U:Unk] (hE:OK E) (hL:FL E L L=true) {o:Option Nat}:∀(m n:Nat) (t:TypeId) (ks:List Kd) (cs:List Value) (x:DataW H×List MemPlace),C9 false E.desc E.szIs n t=some ks→ks.all (ND L)=true→DataW.trod enc E.P w base sp held m t cs=some x→A7 o x.1→∃ds,DVL E.kinds (DC w) ks cs ds∧∀q,ShL E.kinds o q ks ds:=by
  intro m
  have one:∀{kd:Kd} {d:D},(∀q,ShK E.kinds o q kd d)→∀q,ShL E.kinds o q [kd] [d]:=by
    intro kd d h q j kd' hj;cases j with
    |zero=>simp only [List.getElem?_cons_zero,Option.some.injEq] at hj;subst hj;exact h q
    |succ j=>simp at hj
  induction m using Nat.strongRecOn with
  |_ m ih=>
    intro n t ks cs x h0 hin hx hsw;obtain ⟨hsz,n',rfl,h⟩:=kinds_size h0;clear h0;cases hd:E.desc t with
    |none=>rw [hd] at h;cases h
    |some d=>
      have hu:=hE.und hd;rw [hd] at h;cases m with
      |zero=>simp [DataW.trod] at hx
      |succ m=>
      cases d<;>first | (cases h;done)|skip
      case bool=>
        cases h;unfold DataW.trod at hx;rw [hu] at hx;split at hx<;>simp_all
        exact ⟨[.bool _],⟨.bool _ _ rfl,trivial⟩,one fun q=>by cases q<;>trivial⟩
      case int k=>
        cases h;unfold DataW.trod at hx;rw [hu] at hx
        have go:∀{k':IntKind} {n:Int},(k'=k∧(Lit.int k n).wf=true)→∃ds,DVL E.kinds (DC w) [.int k] [.int k' n] ds∧∀q,ShL E.kinds o q [.int k] ds:=by
          rintro k' n ⟨rfl,hw⟩
          have hb:k'.min≤n∧n≤k'.max:=by simpa [Lit.wf] using hw
          exact ⟨[.int n],⟨.int _ _ _ (.inr hb) rfl,trivial⟩,one fun q=>by cases q<;>trivial⟩
        split at hx<;>first | (cases hx;done)|skip
        all_goals
          first
            | (split at hx
               · rename_i hq;simp_all
               · cases hx)
            |simp_all
      case string=>
        cases h;unfold DataW.trod at hx;rw [hu] at hx;split at hx<;>first | (simp at hx;done)|skip
        all_goals first
          | (rename_i hh;cases hh;done)
          | (rename_i hh _;cases hh;done)
          |skip
        all_goals
          rename_i s _;split at hx
          · simp only [Option.some.injEq] at hx
            subst hx;exact ⟨[.str s],⟨.str _ _ rfl,trivial⟩,one fun q=>by cases q<;>(simp only [A7] at hsw;exact hsw)⟩
          · cases hx
      case slice e=>
        cases h;simp only [List.all_cons,List.all_nil,Bool.and_true,ND] at hin;obtain ⟨ke,hke0,hne,hall⟩:=SG hL hin;have hke:=RK hke0;rcases DataW.trod_slice hu hx with ⟨rfl,_⟩|⟨a,len,cap,elems,rest,q,hq,rfl,hxe,hb,hl,hc,hlen,hel,_,_⟩
        · exact ⟨[.slc true []],⟨.nil e _ rfl rfl,trivial⟩,one fun q=>by cases q<;>first|trivial|exact ⟨fun b _=>Nat.zero_le b,fun _ _ i hi=>absurd hi (Nat.not_lt_zero i)⟩⟩
        · by_cases h0:len=0
          · subst h0
            exact ⟨[.slc false []],⟨.empty e a cap _ rfl rfl,trivial⟩,one fun q=>by cases q<;>first|trivial|exact ⟨fun b _=>Nat.zero_le b,fun _ _ i hi=>absurd hi (Nat.not_lt_zero i)⟩⟩
          · have hes:E.P.cellsOf e=ke.length:=Gr hE (kinds_size hke).1
            have hpos:0<ke.length:=by cases ke with|nil=>exact absurd rfl hne|cons=>simp
            rw [hes] at hel
            obtain ⟨rows,r1,r2⟩:=Io (P:=fun i d=>∃ds cells,d=.row ds∧w.cells? base (a.add (i*ke.length)) ke.length=some cells∧DVL E.kinds (DC w) ke cells ds∧∀q,ShL E.kinds o q ke ds) len (by
              intro i hi;have:=hel i hi;have he:elems[i]?=some elems[i]:=by simp [hlen,hi]
              rw [he] at this;simp only [Option.bind_eq_some_iff] at this;obtain ⟨cells,c1,c2⟩:=this
              have hse:A7 o (elems[i]).1:=by
                rw [hxe] at hsw;simp only [A7] at hsw;exact hsw.2.get (i:=i) (by simp [hlen,hi])
              obtain ⟨ds,hds,hds2⟩:=ih q (by omega) 20 e ke cells _ hke0 hall c2 hse
              exact ⟨.row ds,ds,cells,rfl,c1,hds,hds2⟩)
            obtain ⟨_,_,ds0,cells0,_,c0,_⟩:=r2 0 (by omega)
            have ea:a.add (0*ke.length)=a:=by simp [Addr.add]
            rw [ea] at c0;obtain ⟨arr,s1,s2,_,s4⟩:=Jt c0 hpos;have spot:a=⟨a.block,a.off,none⟩:=by cases a;simp at s2;simp [s2]
            have key:∀i,i<len→∃ds cells,rows[i]?=some (.row ds)∧(DVL E.kinds (DC w) ke cells ds∧∀q,ShL E.kinds o q ke ds)∧∀j,j<ke.length→arr[a.off+i*ke.length+j]?=cells[j]?:=by
              intro i hi;obtain ⟨d,g1,ds,cells,g2,g3,g4,g5⟩:=r2 i hi;subst g2;refine ⟨ds,cells,g1,⟨g4,g5⟩,?_⟩;obtain ⟨arr',t1,t2,_,t4⟩:=Jt g3 hpos;by_cases hz:i*ke.length=0
              · rw [hz] at t1 t4 ⊢
                have e0:a.add 0=a:=by simp [Addr.add]
                rw [e0] at t1 t4;rw [s1] at t1;cases t1;simpa using t4
              · simp only [Addr.add,if_neg hz] at t1 t4
                rw [s1] at t1;cases t1;exact t4
            refine ⟨[.slc false rows],⟨?_,trivial⟩,one fun q=>by
              cases q with
              |zero=>trivial
              |succ q=>
                refine ⟨by
                  rw [hxe] at hsw;simp only [A7] at hsw;have e:(D.slc false rows).rows.length=elems.length:=by rw [hlen];exact r1
                  rw [e];exact (show (elems.map (·.1)).length=elems.length from List.length_map _)▸hsw.1,fun ks' hk' i hi j kd hj=>?_⟩
                have hk2:ks'=ke:=Option.some.inj (hk'.symm.trans hke);subst hk2;have hi':i<len:=by have:i<rows.length:=hi;omega
                obtain ⟨ds,cells,g1,⟨_,g2⟩,_⟩:=key i hi';have er:(D.rows (.slc false rows)).getD i default=.row ds:=by simp [D.rows,List.getD_eq_getElem?_getD,g1]
                rw [er];exact g2 q j kd hj⟩
            rw [spot];refine .slc e a.block a.off len cap (.slc false rows) ke arr hke s1 r1 hl rfl ?_ (fun i hi=>?_) ?_
            · obtain ⟨ds,cells,_,⟨g2,_⟩,g3⟩:=key (len-1) (by omega)
              have:=g3 (ke.length-1) (by omega)
              have hcl:=g2.len.1;have hc1:cells[ke.length-1]?=some (cells[ke.length-1]'(by omega)):=by simp
              rw [hc1] at this;have hlt:=(Array.getElem?_eq_some_iff.1 this).1
              have:len*ke.length=(len-1)*ke.length+ke.length:=by
                rw [←Nat.succ_mul];congr 1;omega
              omega
            · obtain ⟨ds,cells,g1,⟨g2,_⟩,_⟩:=key i hi
              have er:(D.rows (.slc false rows)).getD i default=.row ds:=by simp [D.rows,List.getD_eq_getElem?_getD,g1]
              rw [er];exact g2.len.2.symm
            · intro i j kd hi hj
              obtain ⟨ds,cells,g1,⟨g2,_⟩,g3⟩:=key i hi;have er:(D.rows (.slc false rows)).getD i default=.row ds:=by simp [D.rows,List.getD_eq_getElem?_getD,g1]
              rw [er];have hjl:j<ke.length:=(List.getElem?_eq_some_iff.1 hj).1
              have hjd:ds[j]?=some ((D.cells (.row ds)).getD j default):=by
                have:j<ds.length:=by rw [←g2.len.2];exact hjl
                simp [D.cells,List.getD_eq_getElem?_getD,this]
              obtain ⟨v,v1,v2⟩:=g2.get hj hjd;have:=g3 j hjl;rw [v1] at this;have ev:arr.getD (a.off+i*ke.length+j) Go.undef=v:=by simp [Array.getD_eq_getD_getElem?,this]
              rw [ev];exact v2
      case struct fs=>
        simp only [HU] at h;obtain ⟨xs,q,e1,e2,e3,e4,e5⟩:=DataW.trod_struct hu hx;rw [e2] at hsw;simp only [A7] at hsw
        obtain ⟨ds,this,this2⟩:=Ps hE (L:=L) (o:=o) (m:=q) (cs:=cs) (fun t ks cs x a b c d=>ih q (by omega) n' t ks cs x a b c d) fs.toList 0 ks h hin (fun f hf=>by
          obtain ⟨i,hi,rfl⟩:=List.getElem_of_mem hf;have hi':i<fs.size:=by simpa using hi
          have h5:=e5 i fs[i] (by simp [hi'])
          have hxi:i<xs.length:=by omega
          exact ⟨xs[i],by simpa [hxi] using h5,hsw.get (i:=i) (by simp [hxi])⟩)
        have hlen:cs.length=ks.length:=by rw [e3,Gr hE hsz]
        rw [List.drop_zero,←hlen,List.take_length] at this;exact ⟨ds,this,this2⟩
theorem Vt [U:Unk] (hE:OK E) (hL:FL E L L=true) {o:Option Nat}:∀(ts:List TypeId) (vs:List Value) (ds:List (DataW H)) (ps:List MemPlace) (ks:List Kd),DataW.TrodAll enc E.P w base sp held ts vs ds ps→
  (∀(j:Nat) t v,ts[j]?=some t→vs[j]?=some v→∃r b0,Value.okWide E.P w r b0 t v)→A8 E ts=some ks→ks.all (ND L)=true→Bm o ds→
  ∃(cs:List Value) (xs:List D),DVL E.kinds (DC w) ks cs xs∧((Can ks xs∧LZ E.kinds 9 ks xs)∧ShL E.kinds o 9 ks xs)∧∀(U:Unk) (j:Nat) (args:List AV) (ρ:Ren),U.K=E.kinds→ρ.imm=DC w→(∀i,i<xs.length→U.V.d (j+i)=xs.getD i default)→EL E j ts=some args→VL ρ args vs:=by
 intro ts
 induction ts with
 |nil=>
  intro vs ds ps ks hA hval hk _ _;cases vs with
  |nil=>
   simp [A8] at hk;subst hk;exact ⟨[],[],trivial,⟨⟨trivial,fun j kd h=>by simp at h⟩,fun j kd h=>by simp at h⟩,fun U j args ρ _ _ _ ha=>by simp [EL] at ha;subst ha;exact VL.nil ρ⟩
  |cons=>cases ds<;>simp [DataW.TrodAll] at hA
 |cons t ts ih=>
  intro vs ds ps ks hA hval hk hin hsw;cases vs with
  |nil=>cases ds<;>simp [DataW.TrodAll] at hA
  |cons v vs=>
   cases ds with
   |nil=>simp [DataW.TrodAll] at hA
   |cons d ds=>
    obtain ⟨p,q,⟨fuel,hx⟩,hA2,_⟩:=hA;simp only [A8] at hk;split at hk
    ·rename_i k1 l h1 hl;cases hk;rw [List.all_append,Bool.and_eq_true] at hin;obtain ⟨cs,xs,q1,qc,q2⟩:=ih vs ds q l hA2 (fun j t v ht hv=>hval (j+1) t v (by simpa using ht) (by simpa using hv)) hl hin.2 hsw.2
     obtain ⟨x0,hkl0,hsh0⟩:=TN hE hL (o:=o) fuel 20 t k1 _ _ h1 hin.1 hx hsw.1;obtain ⟨x1,hkl,hc1,hsh1⟩:=hkl0.can (hsh0 9);refine ⟨v.cells.toList++cs,x1++xs,hkl.append q1,⟨⟨Can.append hkl hc1.1 qc.1.1,hc1.2.append hkl.len.2 qc.1.2⟩,hsh1.append hkl.len.2 qc.2⟩,?_⟩;intro U' j args ρ hK hM hall ha;obtain ⟨r,b0,hok⟩:=hval 0 t v rfl rfl;have hx1:k1.length=x1.length:=hkl.len.2;simp only [EL] at ha;split at ha
     ·rename_i d0 k1' hd h1';rw [h1] at h1';cases h1';have hu:=OK.und (U:=U) hE hd;clear ih;split at ha
      ·rename_i rr hrr
       have tail:=q2 U' (j+k1.length) rr ρ hK hM (fun i hi=>by
        have:=hall (x1.length+i) (by simp only [List.length_append];omega)
        rw [show j+k1.length+i=j+(x1.length+i) by omega,this]
        simp [List.getD_eq_getElem?_getD,List.getElem?_append_right]) hrr
       have head:=Iz (U:=U') ρ k1 v.cells.toList x1 j (fun i hi=>by
        have:=hall i (by simp only [List.length_append];omega)
        rw [this];simp [List.getD_eq_getElem?_getD,List.getElem?_append_left hi]) (by rw [hK,hM];exact hkl)
       split at ha
       ·rename_i hs;cases ha;refine VL.cons ?_ tail;cases d0<;>simp [H1] at hs
        unfold Value.okWide at hok;rw [hu] at hok;obtain ⟨cs',rfl,_⟩:=hok;exact .agg _ cs'.toList head.1 head.2
       ·rename_i hs;split at ha
        ·rename_i a hsym;cases ha;refine VL.cons ?_ tail;rw [hsym] at head
         have hv1:v.cells.toList=[v]:=by
          cases v<;>first|rfl|skip
          rename_i cs'
          exfalso
          unfold Value.okWide at hok;rw [hu] at hok;obtain ⟨_,_,_,h1⟩:=kinds_size h1;rw [hd] at h1;cases d0<;>simp [H1] at hs<;>first | (cases h1;done)|skip
          all_goals simp [Cell.okWide,Cell.ok,hu] at hok
         rw [hv1] at head;obtain ⟨v',r',e1,e2,_⟩:=head.cons_inv;cases e1;exact e2
        ·cases ha
      ·cases ha
     ·cases ha
    ·cases hk
theorem E4.none (h:Gl.tab=.nil) (M:Nat→Option (Array Value)):E4 M:=fun g l hg=>by rw [h,T.get_nil] at hg;cases hg
theorem SC [U:Unk] (w:World) (hgl:E4 (DC w)):HR ⟨fun _=>none,DC w⟩ (T.nil:T Ac).get w:=by
 refine ⟨fun b base h=>(by cases h),fun b base x h=>(by cases h),fun b b' base base' _ h=>(by cases h),fun k arr h=>?_,fun k arr b base _ h=>(by cases h),hgl⟩
 simp only [DC] at h;split at h
 ·rename_i c e fz hc;cases h;exact ⟨e,fz,hc⟩
 ·cases h
end
theorem IH {H:Type} {enc:TypeId×Value→H} {P:Program} {w:World} {base:Nat} {sp:Nat→Bool} {held:Bool}:∀{ts:List TypeId} {vs:List Value} {ds:List (DataW H)} {ps:List MemPlace},DataW.TrodAll enc P w base sp held ts vs ds ps→ds.length=ts.length
 |[],[],[],_,_=>rfl
 |_::_,_::_,_::_,_,⟨_,_,_,h,_⟩=>by simp [IH h]
 |[],_::_,_,_,h=>by simp [DataW.TrodAll] at h
 |[],[],_::_,_,h=>by simp [DataW.TrodAll] at h
 |_::_,[],_,_,h=>by simp [DataW.TrodAll] at h
 |_::_,_::_,[],_,h=>by simp [DataW.TrodAll] at h
theorem Gc {H:Type} {enc:TypeId×Value→H} {P:Program} (hl:laidOutB P=true) {W W':World} (hb:Below W.heap.size W W'):∀{ts:List TypeId} {vs:List Value} {ds:List (DataW H)} {ps:List MemPlace},
  (∀t∈ts,P.readableRec t=true∧t<P.types.size)→DataW.TrodAll enc P W 0 (fun _=>true) true ts vs ds ps→(∀x∈ps,x.block<W.heap.size)→DataW.TrodAll enc P W' 0 (fun b=>decide (b<W.heap.size)) true ts vs ds ps
 |[],[],[],_,_,h,_=>h
 |t::ts,v::vs,d::ds,ps,hr,⟨p,q,h1,h2,he⟩,hlt=>by
  subst he;exact ⟨p,q,Below.trod hl (hr t (by simp)).1 (hr t (by simp)).2 h1 hb (fun x hx=>hlt x (by simp [hx])),Gc hl hb (fun t ht=>hr t (by simp [ht])) h2 (fun x hx=>hlt x (by simp [hx])),rfl⟩
 |[],_::_,_,_,_,h,_=>by simp [DataW.TrodAll] at h
 |[],[],_::_,_,_,h,_=>by simp [DataW.TrodAll] at h
 |_::_,[],_,_,_,h,_=>by simp [DataW.TrodAll] at h
 |_::_,_::_,[],_,_,h,_=>by simp [DataW.TrodAll] at h
end Go.AE

