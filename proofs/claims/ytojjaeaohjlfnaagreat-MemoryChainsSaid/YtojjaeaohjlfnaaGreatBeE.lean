/- What is proved here: an evaluator of the model's steps that the kernel can run, and that whatever it answers is what the model does (part 5 of 7: AeDraw7, AeDraw8, AeRun1, AeRun2, AeNorm, AeCode, AePat1, AePat2, AePat3, AeSum, AeRng, AeEval, AeTail, AeRun3). Conditions: those that each theorem states; they hold of no one program. -/
import Derived.Test.YtojjaeaohjlfnaaGreatBeD
import Derived.Orders
set_option linter.unusedVariables false
set_option linter.unusedSectionVars false
set_option linter.unusedSimpArgs false
namespace Go.AE
variable [Gl:AC]
variable [U:Unk]
theorem Ky {j:Nat}:∀{rest:List Oper} {recs:List Rc},(∀i x,i<j→recs[i]?=some x→x.mask.testBit j=false)→j<recs.length→Fw recs j rest=true→∀o∈rest,∃e∈o.after.toList,Region.binds .any e=true∧j≤e.on
 |[],recs,_,_,_,o,n=>by cases n
 |o::rest,recs,m,q,h,x,c=>by
  simp only [Fw] at h;cases d:BM recs o.after.toList with
  |none=>rw [d] at h;cases h
  |some mask=>
   rw [d] at h;simp only [Xu] at h;cases f:mask.testBit j with
   |false=>rw [f] at h;cases h
   |true=>
    rw [f] at h;rcases gk.1 c with rfl|c
    ·obtain ⟨e,p,g,y,b,a⟩:=((DP d).2 j).1 f;refine ⟨e,p,g,?_⟩;rcases gg e.on j with k|l
     ·rcases a with a|a
      ·rw [m e.on y k b] at a;cases a
      ·omega
     ·exact l
    ·refine Ky (recs:=recs++[{wr:=[],fp:=none,lo:=0,hi:=0,dst:=none,looks:=[],mask}]) (fun i y hi b=>?_) (by simp;omega) h x c
     rw [R2 (by omega)] at b
     exact m i y hi b
theorem Uk {E:Env} {b:Ask→Aa→Option (Bool×AV×Aa)} {all:Array Oper} {o:Oper} {t:T AV} {h:Aa} {d:Did} (a:Dj E b all o t h=some d) (c:d.ok=false):d.fp=none:=by
 unfold Dj at a;split at a
 ·cases a
 ·cases a;cases c
 ·split at a
  ·simp only at a;split at a
   ·cases a;cases c
   ·cases a
  ·split at a
   ·split at a
    ·cases a;rfl
    ·cases a
   ·split at a
    ·cases a;rfl
    ·cases a
   ·cases a;rfl
   ·cases a
section
variable {E:Env} {callF:Ask→Aa→Option (Bool×AV×Aa)} {all:Array Oper} {nt:Nat} {H:Nat→Aa} {Tm:Nat→T AV} {R:Nat→Rc} {Dd:Nat→Did} {n M:Nat}
 {ρ0 ρ σ:Ren} {w0 w w':World} {tm:Array Value} {D:Nat→Bool} (X:Cc E callF all nt H Tm R Dd n)
include X
omit X in
theorem Ace (ht:TR ρ0 nt (Tm 0) tm) (hr:HR ρ0 (H 0).blk.get w0) (hfree:AX ρ0 (H 0).nx M) (hD:∀i,D i=false):Inv nt H Tm R n M ρ0 w0 D ρ0 tm w0:=by
 have hno:∀i,D i≠true:=fun i h=>by rw [hD i] at h;cases h
 refine ⟨fun j h=>absurd h (hno j),fun j h=>absurd h (hno j),ht.size,fun t x hx=>ht.get t x ?_,hr.weaken fun b x hb hx=>?_,fun b h1 h2 hb=>absurd (hfree b h1 h2) hb,Ren.le_refl _,G8.refl _,fun b base h=>.inl h,fun k hk hno=>rfl,fun k arr h=>.inl h⟩
 ·rw [LG (j:=0) (Aec _) fun i _ _ h=>absurd h (hno i)] at hx;exact hx
 ·rw [LA (j:=0) (Aec _) fun i _ _ h=>absurd h (hno i)] at hx;exact hx
theorem Cc.logs:∀{j:Nat},j≤n→∃l,(H j).log=l++(H 0).log∧∀b,b∉l→(b<(H 0).nx∨(H j).nx≤b)→(H j).blk.get b=(H 0).blk.get b
 |0,_=>⟨[],rfl,fun _ _ _=>rfl⟩
 |j+1,I=>by
  obtain ⟨l,h1,h2⟩:=Cc.logs (j:=j) (by omega)
  obtain ⟨o,_,g⟩:=X.good j (by omega)
  have J:=X.mono (i:=0) (j:=j) (by omega) (by omega)
  have hl:=X.lo (show j<n by omega)
  have hh:=X.hi (show j<n by omega)
  have r:=X.le (show j<n by omega)
  refine ⟨(R j).wr++l,?_,fun b hb ho=>?_⟩
  ·rw [g.heap,g.wr,Aeo,←h1];rfl
  ·simp only [ue,not_or] at hb;rw [X.stay (by omega) hb.1 (by omega),h2 b hb.2 (by omega)]
theorem Cc.final (I:Inv nt H Tm R n M ρ0 w0 D ρ tm w) (hD:∀i,i<n→D i=true):TR ρ nt (Tm n) tm∧HR ρ (H n).blk.get w∧Ext ρ0 ρ (H 0) (H n) w0 w:=by
 have hno:∀i,i<n→D i≠false:=fun i hi h=>by rw [hD i hi] at h;cases h
 refine ⟨⟨I.size,fun t x hx=>I.tmp t x ?_⟩,I.heap.weaken fun b x hb hx=>?_,⟨I.le,X.mono (Aec _) (IqQ _),I.new,I.calm,I.kept,X.logs (IqQ _),fun b hb=>?_,I.imm⟩⟩
 ·rw [X.tn_text (IqQ _) fun i hi h=>absurd h (hno i hi)];exact hx
 ·rw [X.cn_text (IqQ _) fun i hi h=>absurd h (hno i hi)];exact hx
 ·rcases gg b (H 0).nx with h|h
  ·exact .inl (X.live h (IqQ _) hb)
  ·refine .inr ⟨h,?_⟩;rcases gg b (H n).nx with h'|h'
   ·exact h'
   ·exact absurd (X.wfAt (IqQ _) b h') hb
omit X in
theorem Sk {j:Nat} {o:Oper} (t:Tx E callF all H Tm R Dd j o) {e:Edge} (he:e∈o.after.toList) (hb:Region.binds .any e=true):e.on<j:=by
 obtain ⟨x,hx⟩:=(DP t.mask).1 e he hb;have:=(Id.1 hx).1;simpa using this
omit X in
theorem VB {j:Nat} {o:Oper} (t:Tx E callF all H Tm R Dd j o) (hcl:∀j,D j=true→∀i,(R j).mask.testBit i=true→D i=true)
  (hon:∀e∈o.after.toList,Region.binds .any e=true→D e.on=true) {i:Nat} (hi:(R j).mask.testBit i=true):D i=true:=by
 obtain ⟨e,he,hb,x,hx,h⟩:=((DP t.mask).2 i).1 hi;have hlt:=Sk t he hb;rw [sd,Aej hlt] at hx;simp only [pl,C2] at hx;subst hx;rcases h with h|h
 ·exact hcl e.on (hon e he hb) i h
 ·rw [h];exact hon e he hb
end
end Go.AE
namespace Go.AE
variable [Gl:AC]
variable [U:Unk]
theorem Ou:∀{l:List Bool} {i:Nat},l[i]?=some false→(l.set i true).count true=l.count true+1
 |[],i,h=>by cases h
 |b::l,0,h=>by
  simp only [No,C2] at h;subst h;simp
 |b::l,i+1,h=>by
  have:=Ou (l:=l) (i:=i) (by simpa using h)
  simp only [List.set_cons_succ,List.count_cons,this];omega
theorem YK {a:Array Bool} {i:Nat} (hi:i<a.size):(fun j=>(a.setIfInBounds i true).getD j false)=ins (fun j=>a.getD j false) i:=by
 funext j
 simp only [ins,L1];by_cases e:j=i
 ·subst e;simp [hi]
 ·rw [if_neg e,pv (Ne.symm e)]
section
variable {E:Env} (hE:OK E) {callF:Ask→Aa→Option (Bool×AV×Aa)} (hF:FL E callF) {all:Array Oper} {nt:Nat} {H:Nat→Aa} {Tm:Nat→T AV} {R:Nat→Rc} {Dd:Nat→Did} {n M:Nat}
 {ρ0:Ren} {w0:World} {k:List Item} {cs:List Frame} (X:Cc E callF all nt H Tm R Dd n)
include hE hF X
theorem Cc.sched (hM:(H n).nx≤M) (b5:AX ρ0 (H 0).nx M) (eb:n≤all.size)
  (bs:n<all.size→∃o,all[n]?=some o∧Bad E callF all H Tm R Dd n o (all.toList.drop (n+1))) :
  ∀(al t:Nat) (J:Array Bool) (ρ:Ren) (w:World) (c:Frame),c.mode=.run→c.todo=.inRegion all (Region.linearise.go .any all al t J [])::k→J.size=all.size→
   all.size≤al+J.toList.count true→Inv nt H Tm R n M ρ0 w0 (fun i=>J.getD i false) ρ c.tmps w→
   ∃rest σ bd w' D',Inv nt H Tm R n M ρ0 w0 D' σ bd w'∧(∀i,i<n→D' i=true)∧Steps E.P (lone c cs w) (lone {c with tmps:=bd,todo:=.inRegion all rest::k} cs w')∧
    (n=all.size→rest=[])∧(n<all.size→∃r,rest=n::r):=by
 have dp:∀j,j<all.size→j≤n→∃o,all[j]?=some o∧Tx E callF all H Tm R Dd j o:=by
  intro j hj ec;rcases gg j n with h|h
  ·obtain ⟨o,h1,h2⟩:=X.good j h;exact ⟨o,h1,h2.tx⟩
  ·have:j=n:=by omega
   subst this;obtain ⟨o,h1,h2⟩:=bs hj;exact ⟨o,h1,h2.tx⟩
 have b1:∀(J:Array Bool) (ρ:Ren) (w:World) (c:Frame),J.size=all.size→c.todo=.inRegion all []::k→Inv nt H Tm R n M ρ0 w0 (fun i=>J.getD i false) ρ c.tmps w→(∀i,i<all.size→J.getD i false=true)→
   ∃rest σ bd w' D',Inv nt H Tm R n M ρ0 w0 D' σ bd w'∧(∀i,i<n→D' i=true)∧Steps E.P (lone c cs w) (lone {c with tmps:=bd,todo:=.inRegion all rest::k} cs w')∧
    (n=all.size→rest=[])∧(n<all.size→∃r,rest=n::r):=by
  intro J ρ w c bm ht I b2;refine ⟨[],ρ,c.tmps,w,_,I,fun i hi=>b2 i (by omega),?_,fun _=>rfl,fun h=>?_⟩
  ·rw [←ht];exact Steps.refl _ _
  ·exact absurd (I.sub n (b2 n h)) (Nat.lt_irrefl _)
 intro al
 induction al with
 |zero=>
  intro t J ρ w c hm ht bm b9 I;refine b1 J ρ w c bm (by simpa [Region.linearise.go] using ht) I fun i hi=>?_
  have cc:J.toList.count true=J.toList.length:=by
   have:=List.count_le_length (a:=true) (l:=J.toList);have e:J.toList.length=J.size:=Array.length_toList;omega
  have:=(List.count_eq_length.1 cc) (J[i]'(by omega)) (by simp)
  rw [L1];simp [bm,hi,←this]
 |succ al ih=>
  intro t J ρ w c hm ht bm b9 I
  have cd:Region.linearise.go .any all (al+1) t J []=(match (Region.ready .any all J)[t%(Region.ready .any all J).length]? with
   |some i=>Region.linearise.go .any all al (t/(Region.ready .any all J).length) (J.setIfInBounds i true) [i]
   |none=>[].reverse):=rfl
  cases hi:(Region.ready .any all J)[t%(Region.ready .any all J).length]? with
  |none=>
   have cf:Region.ready .any all J=[]:=by
    cases hr:Region.ready .any all J with
    |nil=>rfl
    |cons x xs=>
     rw [hr] at hi;have b6:t%(x::xs).length<(x::xs).length:=Nat.mod_lt _ (by simp)
     simp at hi;simp at b6;omega
   rw [cd,hi] at ht;refine b1 J ρ w c bm ht I fun i=>?_
   induction i using Nat.strongRecOn with
   |ind i ch=>
    intro bn;cases ck:J.getD i false with
    |true=>rfl
    |false=>
     exfalso
     have an:i≤n:=by
      rcases gg n i with h|h
      ·exact absurd (I.sub n (ch n h (by omega))) (Nat.lt_irrefl _)
      ·exact h
     obtain ⟨o,ho,tx⟩:=dp i bn an
     have:i∈Region.ready .any all J:=by
      unfold Region.ready;rw [List.mem_filter];refine ⟨by simpa using bn,?_⟩
      have h1:J.getD i true=false:=by
       rw [L1] at ck ⊢;have:i<J.size:=by omega
       simpa [this] using ck
      simp only [h1,ho,pl,Aen,Bool.not_false,Bool.true_and];rw [Array.all_eq_true_iff_forall_mem];intro e he;cases hb:Region.binds .any e with
      |false=>rfl
      |true=>
       have b6:=Sk tx (by simpa using he) hb
       simp [ch e.on b6 (by omega)]
     rw [cf] at this;cases this
  |some i=>
   have bv:i∈Region.ready .any all J:=rc hi;rw [cd,hi] at ht;simp only at ht;rw [linearise_go_acc,List.reverse_singleton,List.singleton_append] at ht;unfold Region.ready at bv;rw [List.mem_filter] at bv;obtain ⟨bn,b0⟩:=bv;simp only [List.mem_range] at bn;simp only [F4,Aed] at b0;obtain ⟨cm,ar⟩:=b0
   have be:J.getD i false=false:=by
    rw [L1] at cm ⊢;have:i<J.size:=by omega
    simpa [this] using cm
   have b7:∀o,all[i]?=some o→∀e∈o.after.toList,Region.binds .any e=true→J.getD e.on false=true:=by
    intro o ho e he hb;rw [ho] at ar;simp only [pl,Aen] at ar;rw [Array.all_eq_true_iff_forall_mem] at ar;have:=ar e (by simpa using he)
    simpa [hb] using this
   rcases Nat.lt_trichotomy i n with an|an|an
   ·obtain ⟨o,ho,g⟩:=X.good i an;have av:∀q,(R i).mask.testBit q=true→(fun i=>J.getD i false) q=true:=fun q hq=>VB (D:=fun i=>J.getD i false) g.tx I.closed (b7 o ho) hq
    have hD:(fun i=>J.getD i false) i=false:=be
    have cv:=X.tagree I an hD av;rw [g.looks] at cv;have ed:=X.lo an;have ds:=X.hi an;have ee:=X.mono (i:=0) (j:=i) (by omega) (by omega)
    have ef:=X.mono (i:=i+1) (j:=n) (by omega) (by omega)
    rw [g.hi] at ds
    have du:AX ρ (H i).nx (Dd i).g.nx:=by
     intro b h1 h2;cases hb:ρ b with
     |none=>rfl
     |some base=>
      obtain ⟨j',b8,dv⟩:=I.free b (by omega) (by omega) (by rw [hb];exact F0 _)
      have:=X.disj an (I.sub j' b8) ⟨by omega,by rw [g.hi];exact h2⟩ dv
      subst this;rw [be] at b8;cases b8
    obtain ⟨σ,v',w',q1,q2,q3,q4⟩:=OR hE hF (cs:=cs) g.tx.did (X.wfAt (by omega)) hm ht ho cv (I.heap.weaken fun b x hb hx=>X.agree I hM an hD av hb hx) du
    have I':=X.step I hM b5 an hD av q2 q3 q4;rw [←YK (by omega)] at I'
    rw [g.ok] at q1
    have dd:c.finish v'={c with tmps:=Jc c.tmps (R i).dst v',todo:=.inRegion all (Region.linearise.go .any all al (t/(Region.ready .any all J).length) (J.setIfInBounds i true) [])::k}:=by
     simp only [Frame.finish,ht,ho,Option.bind_some,Jc,g.dst];cases o.dst<;>rfl
    simp only [BJ] at q1;rw [dd] at q1
    obtain ⟨rest,τ,bd,w2,D',r1,r2,r3,r4,r5⟩:=ih _ (J.setIfInBounds i true) σ w' {c with tmps:=Jc c.tmps (R i).dst v',todo:=.inRegion all (Region.linearise.go .any all al (t/(Region.ready .any all J).length) (J.setIfInBounds i true) [])::k} hm rfl (by simp [bm]) (by
     rw [Array.toList_setIfInBounds,Ou]
     ·omega
     ·have:i<J.size:=by omega
      rw [L1] at be;simpa [this] using be) I'
    exact ⟨rest,τ,bd,w2,D',r1,r2,Steps.trans q1 r3,r4,r5⟩
   ·subst an;obtain ⟨o,ho,b⟩:=bs bn;refine ⟨i::Region.linearise.go .any all al (t/(Region.ready .any all J).length) (J.setIfInBounds i true) [],ρ,c.tmps,w,_,I,fun q hq=>?_,?_,fun h=>by omega,fun _=>⟨_,rfl⟩⟩
    ·refine VB (D:=fun i=>J.getD i false) b.tx I.closed (b7 o ho) ?_
     have:(R i).mask=2^i-1:=by have:=b.all;omega
     rw [this,Nat.testBit_two_pow_sub_one];simpa using hq
    ·rw [←ht];exact Steps.refl _ _
   ·exfalso
    obtain ⟨o,ho,b⟩:=bs (by omega)
    obtain ⟨recs,a1,a2,a3⟩:=b.after;have ea:all[i]?=some all[i]:=by simp [bn]
    have:=Ky (recs:=recs++[{wr:=[],fp:=none,lo:=0,hi:=0,dst:=none,looks:=[],mask:=(R n).mask}]) (fun q x hq hx=>?_) (by simp [a1]) a3 all[i] ?_
    ·obtain ⟨e,he,hb,eg⟩:=this;have:=b7 _ ea e he hb;have:=I.sub e.on this;omega
    ·rw [R2 (by omega),a2,sd,Aej hq] at hx
     simp only [pl,C2] at hx;subst hx;cases df:(R q).mask.testBit n with
     |false=>rfl
     |true=>have:=X.bits hq df;omega
    ·rw [List.mem_iff_getElem?];refine ⟨i-(n+1),?_⟩;rw [l0];rw [show n+1+(i-(n+1))=i by omega]
     simp
end
end Go.AE
namespace Go.AE
variable [Gl:AC]
variable [U:Unk]
theorem Gi {f:AF} {cs:List AF} {v b:AV} {h c:Aa} {ok:Bool} (a:CF f cs v h=.done ok b c):cs=[]∧f.kind=.normal∧ok=true∧b=v∧c=h:=by
 unfold CF at a;split at a
 ·split at a
  ·split at a<;>cases a
  ·split at a<;>cases a
  ·cases a
 ·split at a
  ·rename_i d;cases a;exact ⟨rfl,d,rfl,rfl,rfl⟩
  ·cases a
theorem FqQ {f:AF} {cs:List AF} {v:AV} {h:Aa} {s:AS} {ops:Array Oper} {k:List AI}:CF f cs v h≠.draw s ops k:=by
 intro a;unfold CF at a;split at a
 ·split at a
  ·split at a<;>cases a
  ·split at a<;>cases a
  ·cases a
 ·split at a<;>cases a
theorem EW {E:Env} {f:AF} {cs:List AF} {r:Res}:(∃s,BU E f cs r=.next s)∨∃y,BU E f cs r=.bad y:=by
 cases r<;>simp only [BU]<;>repeat' (first|exact .inl ⟨_,rfl⟩|exact .inr ⟨_,rfl⟩|split)
theorem IW {E:Env} {s:AS} {f:Operand} {c:List Tmp} {a b:Code} {k:List AI}:(∃d,Hx E s f c a b k=.next d)∨∃y,Hx E s f c a b k=.bad y:=by
 unfold Hx
 repeat' (first|exact .inl ⟨_,rfl⟩|exact .inr ⟨_,rfl⟩|split)
theorem EY {f:AF} {cs:List AF} {h:Aa} {j:Option Code} {s:AS} {ops:Array Oper} {k:List AI}:DU f cs h j≠.draw s ops k:=by
 intro a;unfold DU at a;split at a
 ·split at a<;>cases a
 ·split at a
  ·exact FqQ a
  ·cases a
theorem OY {E:Env} {f:AF} {cs:List AF} {h:Aa} {s:AS} {ops:Array Oper} {k:List AI}:Eb E f cs h≠.draw s ops k:=by
 intro a;unfold Eb at a;split at a
 ·split at a
  ·split at a<;>cases a
  ·split at a
   ·split at a<;>cases a
   ·cases a
 ·split at a
  ·cases a
  ·split at a
   ·split at a<;>cases a
   ·split at a
    ·split at a<;>cases a
    ·cases a
  ·split at a
   ·split at a
    ·exact FqQ a
    ·exact FqQ a
    ·cases a
   ·cases a
theorem Et {E:Env} {s b:AS} {ops:Array Oper} {k:List AI} (a:A8 E s=.draw b ops k):b=s∧s.fr.mode=.run∧∃id,s.fr.todo=.code (.region id ops true)::k:=by
 unfold A8 at a;simp only at a;split at a
 ·rename_i d;split at a
  ·exact absurd a EY
  ·cases a
  ·cases a
  ·cases a
  ·cases a
  ·split at a
   ·rcases EW (E:=E) (f:=s.fr) (cs:=s.cs) (r:=aop E s.fr.tmps s.h _) with ⟨y,h⟩|⟨y,h⟩<;>(rw [h] at a;cases a)
   ·rcases EW (E:=E) (f:=s.fr) (cs:=s.cs) (r:=.val .undef s.h) with ⟨y,h⟩|⟨y,h⟩<;>(rw [h] at a;cases a)
   ·cases a
  ·cases a
  ·cases a
  ·cases a
  ·split at a
   ·split at a<;>cases a
   ·cases a
  ·split at a
   ·split at a<;>cases a
   ·cases a
  ·rename_i c k2 e;split at a
   ·exact absurd a EY
   ·cases a
   ·cases a
   ·cases a
   ·split at a
    ·cases a
    ·cases a
    ·split at a
     ·split at a<;>cases a
     ·cases a
    ·cases a
   ·cases a
   ·cases a
   ·cases a
   ·split at a
    ·cases a
    ·split at a
     ·cases a
     ·exact absurd a EY
   ·split at a
    ·cases a
    ·split at a
     ·cases a
     ·exact absurd a EY
   ·rcases IW (E:=E) (s:=s) with ⟨y,h⟩|⟨y,h⟩<;>(rw [h] at a;cases a)
   ·split at a
    ·cases a
    ·cases a;exact ⟨rfl,d,_,e⟩
   ·cases a
 ·exact absurd a OY
end Go.AE
namespace Go.AE
variable [Gl:AC]
variable [U:Unk]
def wM (ok:Bool) (v:Value):Ending:=match ok with
 |true=>.returned v
 |false=>.panicked [{v:=v,recovered:=false}]
def lg (c0:Frame) (ok:Bool) (v:Value):Frame:=match ok with
 |true=>c0.finish v
 |false=>c0.raise [{v:=v,recovered:=false}]
structure Jf (P:Program) (cf:Frame) (w:World) (ok:Bool) (v':Value) (w':World):Prop where
 back:∀(c0:Frame) (base:List Frame),step P (lone cf (c0::base) w)=.next (lone (lg c0 ok v') base w')
 leaves:cf.roundOf=none→w'=w∧cf.leaving P w (wM ok v')
section
variable {E:Env} (hE:OK E) {ρ:Ren} {h h2:Aa} {w:World} {c:Frame} {f:AF} {cs:List AF} {ccs base:List Frame} {s s':AS} {ok:Bool} {v:AV}
theorem FrL.nil_inv {ρ:Ren} {l:List Frame} (h:FrL ρ [] l):l=[]:=by cases h;rfl
theorem EL (p:HR ρ h.blk.get w) (n:FrR ρ f c) (q:c.mode=.run) {a:Option Code}
  (r:(c.todo=[]∧a=none)∨(∃k,c.todo=.code .ret::k∧a=some .ret)∨(∃id k,c.todo=.code (.exit id)::k∧exitTo id k=none∧a=some (.exit id))∨(∃l k,c.todo=.code (.goto l)::k∧gotoIn l k=none∧a=some (.goto l)))
  (g:DU f cs h a=.done ok v h2):cs=[]∧∃o i,VR ρ v o∧HR ρ h2.blk.get i∧Ext ρ ρ h h2 w i∧Jf E.P c w ok o i:=by
 have e:=n.round;unfold DU at g;split at g
 ·split at g<;>cases g
 ·rename_i l m;rw [m] at e;obtain ⟨b,t,j⟩:=e.some_inv;split at g
  ·rename_i st pending fn nt tmps params assign body d u;obtain ⟨i,x,y,z⟩:=KA (E:=E) p t u a;obtain ⟨rfl,A,rfl,rfl,rfl⟩:=Gi g;refine ⟨rfl,_,i,.bool _,y,z,⟨fun c0 base=>Ru q j (n.kind.trans A) r x,fun h=>by rw [j] at h;cases h⟩⟩
  ·cases g
include hE
theorem PU (u:HR ρ h.blk.get w) (k:FrR ρ f c) (L:c.mode≠.run) (d:Eb E f cs h=.done ok v h2):cs=[]∧∃m z,VR ρ v m∧HR ρ h2.blk.get z∧Ext ρ ρ h h2 w z∧Jf E.P c w ok m z:=by
 have g:=k.defers;unfold Eb at d;split at d
 ·split at d
  ·split at d<;>cases d
  ·split at d
   ·split at d<;>cases d
   ·cases d
 ·rename_i A;rw [A] at g
  have i:c.defers=[]:=by
   cases i:c.defers with
   |nil=>rfl
   |cons M J=>rw [i] at g;exact g.elim
  have b:=k.mode;split at d
  ·cases d
  ·rename_i B p;rw [p] at b;split at d
   ·split at d<;>cases d
   ·split at d
    ·split at d
     ·rename_i fn q;cases d;generalize j:c.mode=N at b;cases b with
      |panic _ C y=>
       cases C with
       |nil=>exact y.elim
       |cons e r=>
        obtain ⟨G,h2,H,K⟩:=y;cases r with
        |cons _ _=>exact K.elim
        |nil=>
         obtain ⟨I,O,Q⟩:=e;simp only at G h2 H;subst h2;subst H;have n:c.leaving E.P w (.panicked [{v:=I,recovered:=false}]):=⟨j,i,fn,by rw [k.fn];exact hE.fn _ _ q⟩
         exact ⟨rfl,I,w,G,u,Ext.refl _ _ _,⟨fun c0 base=>step_leave_panicked n,fun _=>⟨rfl,n⟩⟩⟩
     ·cases d
    ·cases d
  ·rename_i p;rw [p] at b
   have j:c.mode=.returning:=by
    generalize c.mode=x at b;cases b;rfl
   split at d
   ·rename_i fn q;have o:E.P.funcs[c.fn]?=some fn:=by rw [k.fn];exact hE.fn _ _ q
    split at d
    ·rename_i v t;obtain ⟨m,p1,p2,p3⟩:=FX hE u k t;obtain ⟨rfl,D,rfl,rfl,rfl⟩:=Gi d;have n:c.leaving E.P w (.returned m):=⟨j,i,k.kind.trans D,fn,o,p1⟩;exact ⟨rfl,m,w,p2 _ rfl,u,Ext.refl _ _ _,⟨fun c0 base=>step_leave_returned n,fun _=>⟨rfl,n⟩⟩⟩
    ·rename_i l F t;obtain ⟨m,p1,p2,p3⟩:=FX hE u k t;obtain ⟨rfl,D,rfl,rfl,rfl⟩:=Gi d;have n:c.leaving E.P w (.returned m):=⟨j,i,k.kind.trans D,fn,o,p1⟩;exact ⟨rfl,m,w,p3 fun a e=>F a (by rw [e]),u,Ext.refl _ _ _,⟨fun c0 base=>step_leave_returned n,fun _=>⟨rfl,n⟩⟩⟩
    ·cases d
   ·cases d
theorem Ir (d:SR ρ s c ccs w) (b:A8 E s=.done ok v h2):ccs=[]∧∃n j,VR ρ v n∧HR ρ h2.blk.get j∧Ext ρ ρ s.h h2 w j∧Jf E.P c w ok n j:=by
 have g:=d.fr.mode;have e:=d.fr.todo
 suffices z:s.cs=[]∧∃n j,VR ρ v n∧HR ρ h2.blk.get j∧Ext ρ ρ s.h h2 w j∧Jf E.P c w ok n j by
  obtain ⟨A,h2⟩:=z;have o:=d.cs;rw [A] at o;exact ⟨o.nil_inv,h2⟩
 unfold A8 at b;simp only at b;split at b
 ·rename_i l;rw [l] at g
  have p:c.mode=.run:=by
   generalize c.mode=x at g;cases g;rfl
  split at b
  ·rename_i q;rw [q] at e;generalize i:c.todo=td at e;cases e;exact EL d.h d.fr p (.inl ⟨i,rfl⟩) b
  ·cases b
  ·cases b
  ·cases b
  ·cases b
  ·split at b
   ·rcases EW (E:=E) (f:=s.fr) (cs:=s.cs) (r:=aop E s.fr.tmps s.h _) with ⟨y,h⟩|⟨y,h⟩<;>(rw [h] at b;cases b)
   ·rcases EW (E:=E) (f:=s.fr) (cs:=s.cs) (r:=.val .undef s.h) with ⟨y,h⟩|⟨y,h⟩<;>(rw [h] at b;cases b)
   ·cases b
  ·cases b
  ·cases b
  ·cases b
  ·split at b
   ·split at b<;>cases b
   ·cases b
  ·split at b
   ·split at b<;>cases b
   ·cases b
  ·rename_i B k q;rw [q] at e;generalize i:c.todo=td at e;cases e with|cons a u=>
   cases a;split at b
   ·exact EL d.h d.fr p (.inr (.inl ⟨_,i,rfl⟩)) b
   ·cases b
   ·cases b
   ·cases b
   ·split at b
    ·cases b
    ·cases b
    ·split at b
     ·split at b<;>cases b
     ·cases b
    ·cases b
   ·cases b
   ·cases b
   ·cases b
   ·split at b
    ·cases b
    ·rename_i t;split at b
     ·cases b
     ·rename_i m;exact EL d.h d.fr p (.inr (.inr (.inl ⟨_,_,i,(Mo u).2 t m,rfl⟩))) b
   ·split at b
    ·cases b
    ·rename_i t;split at b
     ·cases b
     ·rename_i m;exact EL d.h d.fr p (.inr (.inr (.inr ⟨_,_,i,(Mp u).2 t m,rfl⟩))) b
   ·rcases IW (E:=E) (s:=s) with ⟨y,h⟩|⟨y,h⟩<;>(rw [h] at b;cases b)
   ·split at b<;>cases b
   ·cases b
 ·rename_i l;exact PU hE d.h d.fr (HJ.not_run g l) b
end
end Go.AE
namespace Go.AE
variable [Gl:AC]
@[reducible] def Adh:Unk:={facts:=[],V:=⟨fun _=>default,fun _ d=>d⟩,K:=fun _=>none,R:=[],hR:=fun _ _ _ _ _ h=>(by cases h),ok:=by simp}
def Hd:SE→SE
 |.nilIs y _=>Hd y
 |.nilL=>.c 0
 |.emptyL=>.c 0
 |.upd a _ _ _=>Hd a
 |.cat a b=>match Hd a with
  |.c n=>match n==0 with
   |true=>Hd b
   |false=>.lenL (.cat a b)
  |_=>.lenL (.cat a b)
 |.snoc a r=>match Hd a with
  |.c n=>.c (n+1)
  |_=>.lenL (.snoc a r)
 |x=>.lenL x
def JP:SE→SE
 |.nilIs _ b=>b
 |.nilL=>.bc true
 |.emptyL=>.bc false
 |.snoc _ _=>.bc false
 |.rep _ _=>.bc false
 |.upd a _ _ _=>JP a
 |x=>.isNil x
def Yp:SE→SE→SE
 |.bc true,b=>b
 |.bc false,_=>.bc false
 |_,.bc false=>.bc false
 |a,.bc true=>a
 |a,b=>.and a b
def SE.isB:SE→Bool
 |.bc _=>true
 |.lss _ _=>true
 |.eql _ _=>true
 |.eqS _ _ _=>true
 |.eqSS _ _=>true
 |.isNil _=>true
 |.neg _=>true
 |.and _ _=>true
 |_=>false
def vF:SE→SE
 |.bc b=>.bc (!b)
 |x=>.neg x
def hJ:SE→SE→SE
 |.c n,.c m=>.bc (n==m)
 |a,b=>match a.same b with
  |true=>.bc true
  |false=>.eql a b
def gU:SE→SE→SE
 |.c n,.c m=>.bc (decide (n<m))
 |a,b=>.lss a b
def SE.norm:SE→SE
 |.lenL a=>Hd a.norm
 |.isNil a=>match (JP a.norm).isB with
  |true=>JP a.norm
  |false=>.isNil a.norm
 |.and a b=>match (Yp a.norm b.norm).isB with
  |true=>Yp a.norm b.norm
  |false=>.and a.norm b.norm
 |.neg a=>vF a.norm
 |.nilIs a b=>.nilIs a.norm b.norm
 |.eql a b=>hJ a.norm b.norm
 |.lss a b=>gU a.norm b.norm
 |.arith l k a b=>.arith l k a.norm b.norm
 |.cell a i j=>.cell a.norm i.norm j
 |.snoc a r=>.snoc a.norm r.norm
 |.rcons x r=>.rcons x.norm r.norm
 |.upd a i j x=>.upd a.norm i.norm j x.norm
 |.sel a j=>.sel a.norm j
 |.app g a=>.app g a.norm
 |.cat a b=>.cat a.norm b.norm
 |.rmv a i=>.rmv a.norm i.norm
 |.mIdx ks a k=>.mIdx ks a.norm k.norm
 |e=>e
theorem YG (V:Val):∀x:SE,Ab V (Hd x)=.int ((Ab V x).rows.length:Nat):=by
 intro x
 induction x
 case nilIs y b ih _=>simp only [Hd,ih,Ab,D.rows]
 case upd a i j x ih _ _=>simp only [Hd,ih,Ab,D.rows,List.length_modify]
 case cat a b c d=>
  simp only [Hd];split
  ·rename_i n h;split
   ·rename_i f;have f:=eq_of_beq f;subst f;rw [h] at c
    have g:(Ab V a).rows.length=0:=by
     simp only [Ab,D.int.injEq] at c;omega
    rw [d];have e:(Ab V (.cat a b)).rows=(Ab V a).rows++(Ab V b).rows:=rfl;rw [e,la,g,pc]
   ·rfl
  ·rfl
 case snoc a r ih _=>
  simp only [Hd];split
  ·rename_i n h;rw [h] at ih;simp only [Ab,D.int.injEq,D.rows,la,List.length_singleton] at ih ⊢;omega
  ·rfl
 all_goals rfl
theorem W5 (V:Val):∀x:SE,(JP x).isB=true→Ab V (JP x)=.bool (Ab V x).isNil:=by
 intro x
 induction x<;>intro c<;>first|rfl|skip
 case upd a i j x ih _ _=>exact ih c
 case nilIs y b _ _=>
  simp only [JP] at c ⊢;cases b<;>first|rfl | (simp [SE.isB] at c;done)|skip
theorem Pa (V:Val) {x:SE} (h:x.isB=true):Ab V x=.bool (Ab V x).toBool:=by
 cases x<;>first|rfl | (simp [SE.isB] at h;done)
theorem dS (V:Val) (a b:SE) (h:(Yp a b).isB=true):Ab V (Yp a b)=Ab V (.and a b):=by
 unfold Yp at h ⊢;split
 ·simp only at h;rw [Pa V h];simp only [Ab,D.toBool,Bool.true_and]
 ·simp only [Ab,D.toBool,Bool.false_and]
 ·simp only [Ab,D.toBool,Bool.and_false]
 ·simp only at h;rw [Pa V h];simp only [Ab,D.toBool,Bool.and_true]
 ·rfl
theorem cz (V:Val) (a b:SE):Ab V (hJ a b)=Ab V (.eql a b):=by
 unfold hJ;split
 ·rfl
 ·split
  ·rename_i h;rw [SE.same_ok (U:=Adh) h];simp only [Ab,beq_self_eq_true]
  ·rfl
theorem cN (V:Val) (a b:SE):Ab V (gU a b)=Ab V (.lss a b):=by
 unfold gU;split<;>rfl
theorem Cv (V:Val):∀e:SE,Ab V e.norm=Ab V e:=by
 intro e
 induction e
 case lenL a ih=>simp only [SE.norm,YG,ih];rfl
 case isNil a ih=>
  simp only [SE.norm];split
  ·rename_i h;rw [W5 V _ h,ih];rfl
  ·simp only [Ab,ih]
 case and a b c d=>
  simp only [SE.norm];split
  ·rename_i h;rw [dS V _ _ h];simp only [Ab,c,d]
  ·simp only [Ab,c,d]
 case neg a ih=>
  simp only [SE.norm];unfold vF;split
  ·rename_i b h;rw [h] at ih;simp only [Ab] at ih ⊢;rw [←ih];rfl
  ·simp only [Ab,ih]
 case eql a b c d=>simp only [SE.norm,cz,Ab,c,d]
 case lss a b c d=>simp only [SE.norm,cN,Ab,c,d]
 all_goals simp_all only [SE.norm,Ab]
end Go.AE
namespace Go.AE
variable [Gl:AC]
def eqD {c:Type} [DecidableEq c] (a b:c):Bool:=decide (a=b)
theorem Cw {c:Type} [DecidableEq c] {a b:c} (h:eqD a b=true):a=b:=of_decide_eq_true h
theorem Bh {i j:Nat} (h:Nat.beq i j=true):i=j:=L2 h
def PY:Value→Value→Bool
 |.bool a,.bool b=>eqD a b
 |.int k a,.int c b=>eqD k c&&eqD a b
 |.string a,.string b=>eqD a.data.toList b.data.toList
 |.pointer none,.pointer none=>true
 |.slice none a b,.slice none d e=>Nat.beq a d&&Nat.beq b e
 |.map none,.map none=>true
 |.nilFunc,.nilFunc=>true
 |.nilIface,.nilIface=>true
 |_,_=>false
theorem TA {a b:Value} (h:PY a b=true):a=b:=by
 unfold PY at h;split at h<;>first|rfl | (cases h;done)|skip
 ·rw [Cw h]
 ·simp only [F4] at h;rw [Cw h.1,Cw h.2]
 ·rename_i a b;have:=Cw h
  have e:a=b:=by
   cases a;cases b;simp only [ByteArray.mk.injEq];exact Array.ext' this
  rw [e]
 ·simp only [F4] at h;rw [Bh h.1,Bh h.2]
def AG:Operand→Operand→Bool
 |.tmp a,.tmp b=>Nat.beq a b
 |.const a,.const b=>PY a b
 |.global a,.global b=>Nat.beq a b
 |.func a,.func b=>Nat.beq a b
 |_,_=>false
theorem Ar {a b:Operand} (h:AG a b=true):a=b:=by
 unfold AG at h;split at h<;>first | (cases h;done)|skip
 ·rw [Bh h]
 ·rw [TA h]
 ·rw [Bh h]
 ·rw [Bh h]
def Ko {c:Type} (d:c→c→Bool):List c→List c→Bool
 |[],[]=>true
 |a::l,b::m=>d a b&&Ko d l m
 |_,_=>false
theorem Hu {c:Type} {d:c→c→Bool} (e:∀a b,d a b=true→a=b):∀{l m:List c},Ko d l m=true→l=m
 |[],[],_=>rfl
 |a::l,b::m,h=>by
  simp only [Ko,F4] at h;rw [e a b h.1,Hu e h.2]
 |[],_::_,h=>by cases h
 |_::_,[],h=>by cases h
def KX {c:Type} (d:c→c→Bool) (a b:Array c):Bool:=Ko d a.toList b.toList
theorem EB {c:Type} {d:c→c→Bool} (e:∀a b,d a b=true→a=b) {a b:Array c} (h:KX d a b=true):a=b:=Array.ext' (Hu e h)
def Vn (a b:Array Operand):Bool:=KX AG a b
theorem Mv {a b:Array Operand} (h:Vn a b=true):a=b:=EB (fun _ _=>Ar) h
def j2 (a b:Array (Nat×Operand)):Bool:=KX (fun x y=>Nat.beq x.1 y.1&&AG x.2 y.2) a b
theorem VP {a b:Array (Nat×Operand)} (h:j2 a b=true):a=b:=EB (fun x y h=>by
 simp only [F4] at h;exact Prod.ext (Bh h.1) (Ar h.2)) h
def Sq {c:Type} (d:c→c→Bool):Option c→Option c→Bool
 |none,none=>true
 |some a,some b=>d a b
 |_,_=>false
theorem Jx {c:Type} {d:c→c→Bool} (e:∀a b,d a b=true→a=b) {a b:Option c} (h:Sq d a b=true):a=b:=by
 cases a<;>cases b<;>first|rfl | (cases h;done)|skip
 rw [e _ _ h]
def Y8 (a b:Option Operand):Bool:=Sq AG a b
theorem Ln {a b:Option Operand} (h:Y8 a b=true):a=b:=Jx (fun _ _=>Ar) h
def Zd:Fn→Fn→Bool
 |.func f,.func g=>Nat.beq f g
 |.method n,.method m=>eqD n m
 |_,_=>false
theorem ZT {a b:Fn} (h:Zd a b=true):a=b:=by
 unfold Zd at h;split at h<;>first | (cases h;done)|skip
 ·rw [Bh h]
 ·rw [Cw h]
def Ml:Callee→Callee→Bool
 |.value f,.value g=>AG f g
 |.invoke r n,.invoke a c=>AG r a&&eqD n c
 |.builtin b,.builtin d=>eqD b d
 |_,_=>false
theorem Sr {a b:Callee} (h:Ml a b=true):a=b:=by
 unfold Ml at h;split at h<;>first | (cases h;done)|skip
 ·rw [Ar h]
 ·simp only [F4] at h;rw [Ar h.1,Cw h.2]
 ·rw [Cw h]
def PT (a b:Call):Bool:=Ml a.callee b.callee&&Vn a.args b.args&&KX Nat.beq a.argTypes b.argTypes
theorem Ot {a b:Call} (h:PT a b=true):a=b:=by
 cases a;cases b;simp only [PT,F4] at h;simp only [Call.mk.injEq];exact ⟨Sr h.1.1,Mv h.1.2,EB (fun _ _=>Bh) h.2⟩
def lA:Op→Op→Bool
 |.move x0,.move a=>AG x0 a
 |.assign x0,.assign a=>AG x0 a
 |.pick x0 x1 x2,.pick a y1 y2=>AG x0 a&&AG x1 y1&&AG x2 y2
 |.alloc x0,.alloc a=>Nat.beq x0 a
 |.box x0 x1,.box a y1=>Nat.beq x0 a&&AG x1 y1
 |.build x0 x1,.build a y1=>Nat.beq x0 a&&j2 x1 y1
 |.buildSlice x0 x1 x2,.buildSlice a y1 y2=>Nat.beq x0 a&&Nat.beq x1 y1&&j2 x2 y2
 |.insert x0 x1 x2 x3,.insert a y1 y2 y3=>Nat.beq x0 a&&AG x1 y1&&AG x2 y2&&AG x3 y3
 |.load x0 x1,.load a y1=>Nat.beq x0 a&&AG x1 y1
 |.store x0 x1 x2,.store a y1 y2=>Nat.beq x0 a&&AG x1 y1&&AG x2 y2
 |.ready x0,.ready a=>Nat.beq x0 a
 |.waits x0,.waits a=>Nat.beq x0 a
 |.nilCheck x0,.nilCheck a=>AG x0 a
 |.binOp x0 x1 x2 x3 x4,.binOp a y1 y2 y3 y4=>eqD x0 a&&Nat.beq x1 y1&&AG x2 y2&&AG x3 y3&&Nat.beq x4 y4
 |.unOp x0 x1 x2,.unOp a y1 y2=>eqD x0 a&&Nat.beq x1 y1&&AG x2 y2
 |.convert x0 x1 x2,.convert a y1 y2=>Nat.beq x0 a&&Nat.beq x1 y1&&AG x2 y2
 |.sliceToArrayPointer x0 x1,.sliceToArrayPointer a y1=>Nat.beq x0 a&&AG x1 y1
 |.makeInterface x0 x1,.makeInterface a y1=>Nat.beq x0 a&&AG x1 y1
 |.makeFunc x0 x1 x2,.makeFunc a y1 y2=>Zd x0 a&&Vn x1 y1&&Vn x2 y2
 |.makeMap x0 x1,.makeMap a y1=>Nat.beq x0 a&&Y8 x1 y1
 |.makeSlice x0 x1 x2,.makeSlice a y1 y2=>Nat.beq x0 a&&AG x1 y1&&AG x2 y2
 |.slice x0 x1 x2 x3 x4,.slice a y1 y2 y3 y4=>Nat.beq x0 a&&AG x1 y1&&Y8 x2 y2&&Y8 x3 y3&&Y8 x4 y4
 |.fieldAddr x0 x1 x2,.fieldAddr a y1 y2=>Nat.beq x0 a&&AG x1 y1&&Nat.beq x2 y2
 |.field x0 x1 x2,.field a y1 y2=>Nat.beq x0 a&&AG x1 y1&&Nat.beq x2 y2
 |.indexAddr x0 x1 x2,.indexAddr a y1 y2=>Nat.beq x0 a&&AG x1 y1&&AG x2 y2
 |.index x0 x1 x2,.index a y1 y2=>Nat.beq x0 a&&AG x1 y1&&AG x2 y2
 |.lookup x0 x1 x2 x3,.lookup a y1 y2 y3=>Nat.beq x0 a&&AG x1 y1&&AG x2 y2&&eqD x3 y3
 |.mapUpdate x0 x1 x2 x3,.mapUpdate a y1 y2 y3=>Nat.beq x0 a&&AG x1 y1&&AG x2 y2&&AG x3 y3
 |.mapEntry x0 x1 x2,.mapEntry a y1 y2=>Nat.beq x0 a&&AG x1 y1&&AG x2 y2
 |.entryStore x0 x1 x2 x3,.entryStore a y1 y2 y3=>Nat.beq x0 a&&AG x1 y1&&AG x2 y2&&AG x3 y3
 |.range x0 x1,.range a y1=>Nat.beq x0 a&&AG x1 y1
 |.next x0 x1,.next a y1=>AG x0 a&&eqD x1 y1
 |.entry x0,.entry a=>AG x0 a
 |.typeAssert x0 x1 x2 x3,.typeAssert a y1 y2 y3=>AG x0 a&&Nat.beq x1 y1&&Nat.beq x2 y2&&eqD x3 y3
 |.extract x0 x1,.extract a y1=>AG x0 a&&Nat.beq x1 y1
 |.call x0,.call a=>PT x0 a
 |.defer x0,.defer a=>PT x0 a
 |.panic x0,.panic a=>AG x0 a
 |_,_=>false
set_option maxHeartbeats 4000000 in
theorem dY:∀{a b:Op},lA a b=true→a=b:=by
 intro a b h;cases a<;>cases b<;>simp only [lA,ei,F4] at h
 case move.move=>have c:=h;rw [Ar c]
 case assign.assign=>have c:=h;rw [Ar c]
 case pick.pick=>obtain ⟨⟨c,d⟩,e⟩:=h;rw [Ar c,Ar d,Ar e]
 case alloc.alloc=>have c:=h;rw [Bh c]
 case box.box=>obtain ⟨c,d⟩:=h;rw [Bh c,Ar d]
 case build.build=>obtain ⟨c,d⟩:=h;rw [Bh c,VP d]
 case buildSlice.buildSlice=>obtain ⟨⟨c,d⟩,e⟩:=h;rw [Bh c,Bh d,VP e]
 case insert.insert=>obtain ⟨⟨⟨c,d⟩,e⟩,f⟩:=h;rw [Bh c,Ar d,Ar e,Ar f]
 case load.load=>obtain ⟨c,d⟩:=h;rw [Bh c,Ar d]
 case store.store=>obtain ⟨⟨c,d⟩,e⟩:=h;rw [Bh c,Ar d,Ar e]
 case ready.ready=>have c:=h;rw [Bh c]
 case waits.waits=>have c:=h;rw [Bh c]
 case nilCheck.nilCheck=>have c:=h;rw [Ar c]
 case binOp.binOp=>obtain ⟨⟨⟨⟨c,d⟩,e⟩,f⟩,g⟩:=h;rw [Cw c,Bh d,Ar e,Ar f,Bh g]
 case unOp.unOp=>obtain ⟨⟨c,d⟩,e⟩:=h;rw [Cw c,Bh d,Ar e]
 case convert.convert=>obtain ⟨⟨c,d⟩,e⟩:=h;rw [Bh c,Bh d,Ar e]
 case sliceToArrayPointer.sliceToArrayPointer=>obtain ⟨c,d⟩:=h;rw [Bh c,Ar d]
 case makeInterface.makeInterface=>obtain ⟨c,d⟩:=h;rw [Bh c,Ar d]
 case makeFunc.makeFunc=>obtain ⟨⟨c,d⟩,e⟩:=h;rw [ZT c,Mv d,Mv e]
 case makeMap.makeMap=>obtain ⟨c,d⟩:=h;rw [Bh c,Ln d]
 case makeSlice.makeSlice=>obtain ⟨⟨c,d⟩,e⟩:=h;rw [Bh c,Ar d,Ar e]
 case slice.slice=>obtain ⟨⟨⟨⟨c,d⟩,e⟩,f⟩,g⟩:=h;rw [Bh c,Ar d,Ln e,Ln f,Ln g]
 case fieldAddr.fieldAddr=>obtain ⟨⟨c,d⟩,e⟩:=h;rw [Bh c,Ar d,Bh e]
 case field.field=>obtain ⟨⟨c,d⟩,e⟩:=h;rw [Bh c,Ar d,Bh e]
 case indexAddr.indexAddr=>obtain ⟨⟨c,d⟩,e⟩:=h;rw [Bh c,Ar d,Ar e]
 case index.index=>obtain ⟨⟨c,d⟩,e⟩:=h;rw [Bh c,Ar d,Ar e]
 case lookup.lookup=>obtain ⟨⟨⟨c,d⟩,e⟩,f⟩:=h;rw [Bh c,Ar d,Ar e,Cw f]
 case mapUpdate.mapUpdate=>obtain ⟨⟨⟨c,d⟩,e⟩,f⟩:=h;rw [Bh c,Ar d,Ar e,Ar f]
 case mapEntry.mapEntry=>obtain ⟨⟨c,d⟩,e⟩:=h;rw [Bh c,Ar d,Ar e]
 case entryStore.entryStore=>obtain ⟨⟨⟨c,d⟩,e⟩,f⟩:=h;rw [Bh c,Ar d,Ar e,Ar f]
 case range.range=>obtain ⟨c,d⟩:=h;rw [Bh c,Ar d]
 case next.next=>obtain ⟨c,d⟩:=h;rw [Ar c,Cw d]
 case entry.entry=>have c:=h;rw [Ar c]
 case typeAssert.typeAssert=>obtain ⟨⟨⟨c,d⟩,e⟩,f⟩:=h;rw [Ar c,Bh d,Bh e,Cw f]
 case extract.extract=>obtain ⟨c,d⟩:=h;rw [Ar c,Bh d]
 case call.call=>have c:=h;rw [Ot c]
 case defer.defer=>have c:=h;rw [Ot c]
 case panic.panic=>have c:=h;rw [Ar c]
def T6 (a b:Edge):Bool:=Nat.beq a.on b.on&&eqD a.ground b.ground
theorem Wp {a b:Edge} (h:T6 a b=true):a=b:=by
 cases a;cases b;simp only [T6,F4] at h;simp only [Edge.mk.injEq];exact ⟨Bh h.1,Cw h.2⟩
def MF (a b:Oper):Bool:=Sq Nat.beq a.dst b.dst&&lA a.op b.op&&Nat.beq a.type b.type&&KX T6 a.after b.after&&Sq (fun x y=>Nat.beq x.1 y.1&&eqD x.2 y.2) a.guard b.guard&&eqD a.pos b.pos
theorem J0 {a b:Oper} (h:MF a b=true):a=b:=by
 cases a;cases b;simp only [MF,F4] at h;obtain ⟨⟨⟨⟨⟨c,d⟩,e⟩,f⟩,g⟩,i⟩:=h;simp only [Oper.mk.injEq];refine ⟨Jx (fun _ _=>Bh) c,dY d,Bh e,Cw i,EB (fun _ _=>Wp) f,Jx (fun x y h=>?_) g⟩
 simp only [F4] at h;exact Prod.ext (Bh h.1) (Cw h.2)
def Cm:Code→Code→Bool
 |.skip,.skip=>true
 |.region i o d,.region g j k=>Nat.beq i g&&eqD d k&&KX MF o j
 |.seq a b,.seq e h=>Cm a e&&Cm b h
 |.cond c a b,.cond l e h=>AG c l&&Cm a e&&Cm b h
 |.block i a,.block g e=>Nat.beq i g&&Cm a e
 |.loop a,.loop e=>Cm a e
 |.rangeFunc f p a b,.rangeFunc m n e h=>AG f m&&KX Nat.beq p n&&Cm a e&&Cm b h
 |.exit i,.exit g=>Nat.beq i g
 |.scope a,.scope e=>Cm a e
 |.label i,.label g=>Nat.beq i g
 |.goto i,.goto g=>Nat.beq i g
 |.ret,.ret=>true
 |_,_=>false
theorem Eg:∀{a b:Code},Cm a b=true→a=b:=by
 intro a
 induction a<;>intro b h<;>cases b<;>simp only [Cm,ei,F4] at h<;>first|rfl|skip
 case region.region=>rw [Bh h.1.1,Cw h.1.2,EB (fun _ _=>J0) h.2]
 case seq.seq c d _ _=>rw [c h.1,d h.2]
 case cond.cond c d _ _ _=>rw [Ar h.1.1,c h.1.2,d h.2]
 case block.block ih _ _=>rw [Bh h.1,ih h.2]
 case loop.loop ih _=>rw [ih h]
 case rangeFunc.rangeFunc c d _ _ _ _=>rw [Ar h.1.1.1,EB (fun _ _=>Bh) h.1.1.2,c h.1.2,d h.2]
 case exit.exit=>rw [Bh h]
 case scope.scope ih _=>rw [ih h]
 case label.label=>rw [Bh h]
 case goto.goto=>rw [Bh h]
end Go.AE
namespace Go.AE
variable [Gl:AC]
def SE.inst (t:List SE):SE→SE
 |.c n=>.c n
 |.var i=>t.getD i (.var i)
 |.lenS a=>.lenS (a.inst t)
 |.lenL a=>.lenL (a.inst t)
 |.arith I k a b=>.arith I k (a.inst t) (b.inst t)
 |.conv k a=>.conv k (a.inst t)
 |.lss a b=>.lss (a.inst t) (b.inst t)
 |.eql a b=>.eql (a.inst t) (b.inst t)
 |.eqS a l b=>.eqS (a.inst t) l b
 |.eqSS a b=>.eqSS (a.inst t) (b.inst t)
 |.isNil a=>.isNil (a.inst t)
 |.bc b=>.bc b
 |.neg a=>.neg (a.inst t)
 |.and a b=>.and (a.inst t) (b.inst t)
 |.nilIs a b=>.nilIs (a.inst t) (b.inst t)
 |.strc l b=>.strc l b
 |.strAt a i=>.strAt (a.inst t) (i.inst t)
 |.strCat a b=>.strCat (a.inst t) (b.inst t)
 |.strSub a lo hi=>.strSub (a.inst t) (lo.inst t) (hi.inst t)
 |.cell a i j=>.cell (a.inst t) (i.inst t) j
 |.sel a j=>.sel (a.inst t) j
 |.nilL=>.nilL
 |.emptyL=>.emptyL
 |.snoc a r=>.snoc (a.inst t) (r.inst t)
 |.upd a i j x=>.upd (a.inst t) (i.inst t) j (x.inst t)
 |.rep n r=>.rep (n.inst t) (r.inst t)
 |.cat a b=>.cat (a.inst t) (b.inst t)
 |.sub a lo hi=>.sub (a.inst t) (lo.inst t) (hi.inst t)
 |.rnil=>.rnil
 |.rcons x r=>.rcons (x.inst t) (r.inst t)
 |.app f x=>.app f (x.inst t)
 |.bytes a=>.bytes (a.inst t)
 |.ofBytes a=>.ofBytes (a.inst t)
 |.mIdx ks a k=>.mIdx ks (a.inst t) (k.inst t)
 |.rmv a i=>.rmv (a.inst t) (i.inst t)
def Val.inst (V:Val) (l:List SE):Val:={d:=fun i=>Ab V (l.getD i (.var i)),fn:=V.fn}
theorem BC (V:Val) (a:List SE):∀e:SE,Ab V (e.inst a)=Ab (V.inst a) e:=by
 intro e
 induction e<;>simp_all only [SE.inst,Ab,Val.inst]<;>rfl
theorem Ki (V:Val) (a:List SE) (e:SE):Ac V (e.inst a)=Ac (V.inst a) e:=by unfold Ac;rw [BC]
theorem Ft (V:Val) (a:List SE) (e:SE):Ah V (e.inst a)=Ah (V.inst a) e:=by unfold Ah;rw [BC]
abbrev Obs:=List (SE×SE)
def Ju (a b:SE):Option Obs:=match a.same b with
 |true=>some []
 |false=>match a.norm.same b.norm with
  |true=>some []
  |false=>some [(a,b)]
def Dh (a b:SE):Option Obs:=match a.same b with
 |true=>some []
 |false=>match a.norm.same b.norm with
  |true=>some []
  |false=>some [(.and a (.bc true),.and b (.bc true))]
def G4 (a b:SE):Option Obs:=match a.same b with
 |true=>some []
 |false=>match a.norm.same b.norm with
  |true=>some []
  |false=>some [(.eql a b,.bc true)]
def Obs.holds (V:Val) (o:Obs):Prop:=∀a b,(a,b)∈o→Ab V a=Ab V b
def Dg (a b:Option Obs):Option Obs:=match a,b with
 |some x,some y=>some (x++y)
 |_,_=>none
def Ds (c:Bool) (o:Option Obs):Option Obs:=match c with
 |true=>o
 |false=>none
def toB (a:List Nat) (b c:Nat):Bool:=match a[b]? with
 |some d=>Nat.beq d c
 |none=>false
def dM (a:List Nat):Fn→Fn→Bool
 |.func f,.func g=>Nat.beq f g
 |.yield l,.yield m=>toB a l m
 |_,_=>false
mutual
def CE (d:List SE) (g:List Nat):AV→AV→Option Obs
 |.top,_=>some []
 |.bool a,.bool b=>Ds (a==b) (some [])
 |.int k a,.int u b=>Ds (decide (k=u)&&a==b) (some [])
 |.str l a,.str w b=>Ds (Nat.beq l w&&Nat.beq a b) (some [])
 |.ptr0,.ptr0=>some []
 |.ptr b o,.ptr h y=>Ds (toB g b h&&Nat.beq o y) (some [])
 |.slice0,.slice0=>some []
 |.slice b o n r,.slice h y z j=>Ds (toB g b h&&Nat.beq o y&&Nat.beq n z&&Nat.beq r j) (some [])
 |.map0,.map0=>some []
 |.map b,.map h=>Ds (toB g b h) (some [])
 |.func fn f c,.func B D E=>Ds (dM g fn B) (Dg (Gm d g f D) (Gm d g c E))
 |.nilFunc,.nilFunc=>some []
 |.iface t v,.iface F G=>Ds (Nat.beq t F) (CE d g v G)
 |.nilIface,.nilIface=>some []
 |.agg l,.agg w=>Gm d g l w
 |.tuple l,.tuple w=>Gm d g l w
 |.sb p e,.sb H s=>match p==H with
  |true=>Dh (e.inst d) s
  |false=>Dh (e.inst d) (.neg s)
 |.sb p e,.bool b=>Dh (e.inst d) (.bc (b==p))
 |.si k e,.si u s=>Ds (decide (k=u)) (G4 (e.inst d) s)
 |.si k e,.int u n=>Ds (decide (k=u)) (G4 (e.inst d) (.c n))
 |.ss x,.ss C=>Ju (x.inst d) C
 |.ss x,.str l b=>Ju (x.inst d) (.strc l b)
 |.dat e x,.dat s C=>Ds (Nat.beq e s) (Ju (x.inst d) C)
 |.dat e x,.slice0=>Ju (x.inst d) .nilL
 |.asl b r n nl,.asl h j z q=>Ds (toB g b h&&Nat.beq r j) (Dg (G4 (n.inst d) z) (Dh (nl.inst d) q))
 |.asl b r n nl,.slice h y z j=>Ds (toB g b h&&Nat.beq y 0&&Nat.beq r j) (Dg (G4 (n.inst d) (.c z)) (Dh (nl.inst d) (.bc false)))
 |.asl b r n nl,.slice0=>Dg (G4 (n.inst d) (.c 0)) (Dh (nl.inst d) (.bc true))
 |.asl b r n nl,.eslc q=>Dg (G4 (n.inst d) (.c 0)) (Dh (nl.inst d) q)
 |.eslc nl,.eslc q=>Dh (nl.inst d) q
 |.eslc nl,.slice0=>Dh (nl.inst d) (.bc true)
 |.aptr b r i off,.aptr h j I A=>Ds (toB g b h&&Nat.beq r j&&Nat.beq off A) (G4 (i.inst d) I)
 |.nmap b nl,.nmap h q=>Ds (toB g b h) (Dh (nl.inst d) q)
 |.nmap b nl,.map h=>Ds (toB g b h) (Dh (nl.inst d) (.bc false))
 |.nmap _ nl,.map0=>Dh (nl.inst d) (.bc true)
 |_,_=>none
termination_by structural a=>a
def Gm (d:List SE) (g:List Nat):List AV→List AV→Option Obs
 |[],[]=>some []
 |a::l,b::m=>Dg (CE d g a b) (Gm d g l m)
 |_,_=>none
termination_by structural l=>l
end
@[reducible] def HB:Unk:={facts:=[],V:=⟨fun _=>default,fun _ d=>d⟩,K:=fun _=>none,R:=[],hR:=fun _ _ _ _ _ h=>(by cases h),ok:=by simp}
theorem Obs.append {V:Val} {a b:Obs} (h:Obs.holds V (a++b)):Obs.holds V a∧Obs.holds V b:=
 ⟨fun x y l=>h x y (by simp [l]),fun x y l=>h x y (by simp [l])⟩
theorem EO {V:Val} {a b:SE} {o:Obs} (h:Ju a b=some o) (d:o.holds V):Ab V a=Ab V b:=by
 unfold Ju at h;split at h
 ·rename_i c;rw [SE.same_ok (U:=HB) c]
 ·split at h
  ·rename_i c;have:=congrArg (Ab V) (SE.same_ok (U:=HB) c)
   rwa [Cv,Cv] at this
  ·cases h;exact d a b (by simp)
theorem Mf {V:Val} {a b:SE} {o:Obs} (h:G4 a b=some o) (d:o.holds V):Ac V a=Ac V b:=by
 unfold G4 at h;split at h
 ·rename_i c;rw [SE.same_ok (U:=HB) c]
 ·split at h
  ·rename_i c;have:=congrArg (Ab V) (SE.same_ok (U:=HB) c);rw [Cv,Cv] at this;unfold Ac;rw [this]
  ·cases h;have:=d (.eql a b) (.bc true) (by simp)
   simp only [Ab,D.bool.injEq] at this;exact eq_of_beq this
theorem Jl {V:Val} {a b:SE} {o:Obs} (h:Dh a b=some o) (d:o.holds V):Ah V a=Ah V b:=by
 unfold Dh at h;split at h
 ·rename_i c;rw [SE.same_ok (U:=HB) c]
 ·split at h
  ·rename_i c;have:=congrArg (Ab V) (SE.same_ok (U:=HB) c);rw [Cv,Cv] at this;unfold Ah;rw [this]
  ·cases h;have:=d (.and a (.bc true)) (.and b (.bc true)) (by simp)
   simp only [Ab,D.bool.injEq,D.toBool,Bool.and_true] at this;exact this
theorem Bw {a b:Option Obs} {o:Obs} (h:Dg a b=some o):∃x y,a=some x∧b=some y∧o=x++y:=by
 unfold Dg at h;split at h
 ·cases h;exact ⟨_,_,rfl,rfl,rfl⟩
 ·cases h
theorem AQ {c:Bool} {a:Option Obs} {o:Obs} (h:Ds c a=some o):c=true∧a=some o:=by
 cases c with
 |true=>exact ⟨rfl,h⟩
 |false=>cases h
def Ren.back (ρ:Ren) (l:List Nat):Ren:=⟨fun b=>(l[b]?).bind ρ.m,ρ.imm⟩
theorem EE {a:List Nat} {b c:Nat} (h:toB a b c=true) (ρ:Ren):(ρ.back a).m b=ρ c:=by
 unfold toB at h;split at h
 ·rename_i d e;rw [Ax h] at e;simp [Ren.back,e]
 ·cases h
section
variable {U W:Unk} {θ:List SE} (hV:W.V=U.V.inst θ) (hK:W.K=U.K) {β:List Nat} {ρ:Ren}
include hV hK
theorem UZ {f g:Fn} {a:Fn} (h:dM β f g=true) (b:FnR ρ g a):FnR (ρ.back β) f a:=by
 cases f<;>cases g<;>simp only [dM,ei] at h
 ·rw [Ax h];exact b
 ·obtain ⟨base,c,d⟩:=b;exact ⟨base,by rw [EE h];exact c,d⟩
mutual
theorem Gk:∀(a b:AV) (o:Obs) (v:Value),CE θ β a b=some o→o.holds U.V→@VR U.toVals ρ b v→@VR W.toVals (ρ.back β) a v
 |.top,_,_,v,_,_,_=>@VR.top W.toVals _ v
 |.bool a,b,o,v,h,g,d=>by
  cases b<;>simp only [CE,reduceCtorEq] at h
  obtain ⟨j,_⟩:=AQ h;cases d;have:=eq_of_beq j;subst this;exact @VR.bool W.toVals _ _
 |.int k a,b,o,v,h,g,d=>by
  cases b<;>simp only [CE,reduceCtorEq] at h
  obtain ⟨j,_⟩:=AQ h;cases d;simp only [F4,ll,beq_iff_eq] at j;obtain ⟨rfl,rfl⟩:=j;exact @VR.int W.toVals _ _ _
 |.str l a,b,o,v,h,g,d=>by
  cases b<;>simp only [CE,reduceCtorEq] at h
  obtain ⟨j,_⟩:=AQ h;obtain ⟨u,B⟩:=Au j;rw [Ax u,Ax B];cases d;exact @VR.str W.toVals _ _
 |.ptr0,b,o,v,h,g,d=>by
  cases b<;>simp only [CE,reduceCtorEq] at h
  cases d;exact @VR.ptr0 W.toVals _
 |.ptr b off,x,o,v,h,g,d=>by
  cases x<;>simp only [CE,reduceCtorEq] at h
  obtain ⟨j,_⟩:=AQ h;obtain ⟨u,B⟩:=Au j;cases d with
  |ptr _ _ base C=>
   rw [Ax B];exact @VR.ptr W.toVals _ _ _ base (by rw [EE u];exact C)
 |.slice0,b,o,v,h,g,d=>by
  cases b<;>simp only [CE,reduceCtorEq] at h
  cases d;exact @VR.slice0 W.toVals _
 |.slice b off n J,x,o,v,h,g,d=>by
  cases x<;>simp only [CE,reduceCtorEq] at h
  obtain ⟨j,_⟩:=AQ h;obtain ⟨u,B⟩:=Au j;obtain ⟨G,N⟩:=Au u;obtain ⟨L,M⟩:=Au G;rw [Ax B,Ax N,Ax M];cases d with
  |slice _ _ _ _ H base C O P=>exact @VR.slice W.toVals _ _ _ _ _ H base (by rw [EE L];exact C) O P
  |sliceEnd _ _ _ a=>exact @VR.sliceEnd W.toVals _ _ _ _ a
 |.map0,b,o,v,h,g,d=>by
  cases b<;>simp only [CE,reduceCtorEq] at h
  cases d;exact @VR.map0 W.toVals _
 |.map b,x,o,v,h,g,d=>by
  cases x<;>simp only [CE,reduceCtorEq] at h
  obtain ⟨j,_⟩:=AQ h;cases d with
  |map _ base C=>exact @VR.map W.toVals _ _ base (by rw [EE j];exact C)
 |.func fn f c,x,o,v,h,g,d=>by
  cases x<;>simp only [CE,reduceCtorEq] at h
  obtain ⟨j,u⟩:=AQ h;obtain ⟨o1,o2,B,G,rfl⟩:=Bw u;obtain ⟨w,y⟩:=Obs.append g;cases d with
  |func _ aa _ _ f' c' Q R r3 r4 r5=>
   have q1:=DI f _ o1 f' B w ⟨R,r3⟩;have q2:=DI c _ o2 c' G y ⟨r4,r5⟩;exact @VR.func W.toVals _ fn aa f c f' c' (UZ hV hK j Q) q1.1 q1.2 q2.1 q2.2
 |.nilFunc,b,o,v,h,g,d=>by
  cases b<;>simp only [CE,reduceCtorEq] at h
  cases d;exact @VR.nilFunc W.toVals _
 |.iface t a,x,o,v,h,g,d=>by
  cases x<;>simp only [CE,reduceCtorEq] at h
  obtain ⟨j,u⟩:=AQ h;rw [Ax j];cases d with
  |iface _ _ v' ab=>exact @VR.iface W.toVals _ _ a v' (Gk a _ o v' u g ab)
 |.nilIface,b,o,v,h,g,d=>by
  cases b<;>simp only [CE,reduceCtorEq] at h
  cases d;exact @VR.nilIface W.toVals _
 |.agg l,x,o,v,h,g,d=>by
  cases x<;>simp only [CE,reduceCtorEq] at h
  cases d with
  |agg _ S Q R=>
   have q:=DI l _ o S h g ⟨Q,R⟩;exact @VR.agg W.toVals _ l S q.1 q.2
 |.tuple l,x,o,v,h,g,d=>by
  cases x<;>simp only [CE,reduceCtorEq] at h
  cases d with
  |tuple _ S Q R=>
   have q:=DI l _ o S h g ⟨Q,R⟩;exact @VR.tuple W.toVals _ l S q.1 q.2
 |.sb p e,x,o,v,h,g,d=>by
  have key:∀{z:SE},Dh (e.inst θ) z=some o→Ah W.V e=Ah U.V z:=by
   intro z D;rw [hV,←Ft];exact Jl D g
  cases x<;>simp only [CE,reduceCtorEq] at h
  ·have:=key h;cases d;rename_i b;have q:=@VR.sb W.toVals (ρ.back β) p e;rw [this] at q;have A:((Ah U.V (.bc (b==p)))==p)=b:=by show ((b==p)==p)=b;cases b<;>cases p<;>rfl
   rw [A] at q;exact q
  ·split at h
   ·rename_i j;have:=key h;cases d;have T:=eq_of_beq j;subst T;rw [←this];exact @VR.sb W.toVals _ p e
   ·rename_i p' z _ j;have:=key h;cases d;have q:=@VR.sb W.toVals (ρ.back β) p e;rw [this] at q
    have A:(Ah U.V (.neg z)==p)=(Ah U.V z==p'):=by
     show ((!(Ah U.V z))==p)=_;cases p<;>cases p'<;>cases Ah U.V z<;>first|rfl | (simp at j)
    rw [A] at q;exact q
 |.si k e,x,o,v,h,g,d=>by
  have key:∀{z:SE},G4 (e.inst θ) z=some o→Ac W.V e=Ac U.V z:=by
   intro z D;rw [hV,←Ki];exact Mf D g
  cases x<;>simp only [CE,reduceCtorEq] at h
  ·obtain ⟨j,u⟩:=AQ h;have:=key u;cases d;have T:=of_decide_eq_true j;subst T;have q:=@VR.si W.toVals (ρ.back β) k e;rw [this,B0] at q;exact q
  ·obtain ⟨j,u⟩:=AQ h;have:=key u;cases d;have T:=of_decide_eq_true j;subst T;rw [←this];exact @VR.si W.toVals _ k e
 |.ss e,x,o,v,h,g,d=>by
  have key:∀{z:SE},Ju (e.inst θ) z=some o→AT W.V e=AT U.V z:=by
   intro z D;unfold AT;rw [hV,←BC,EO D g]
  cases x<;>simp only [CE,reduceCtorEq] at h
  ·have:=key h;cases d;rename_i s;have q:=@VR.ss W.toVals (ρ.back β) e;rw [this] at q
   have A:AT U.V (.strc s.data.toList.length (AB s.data.toList))=s:=by
    show (⟨(C9 _ _).toArray⟩:ByteArray)=s;rw [D4 (U:=U)]
   rw [A] at q;exact q
  ·have:=key h;cases d;rw [←this];exact @VR.ss W.toVals _ e
 |.dat t e,x,o,v,h,g,d=>by
  have key:∀{z:SE},Ju (e.inst θ) z=some o→Ab W.V e=Ab U.V z:=by
   intro z D;rw [hV,←BC,EO D g]
  cases x<;>simp only [CE,reduceCtorEq] at h
  ·have:=key h;cases d;exact @VR.dat W.toVals _ t e _ _ _ (by rw [this];exact .nil t _ rfl rfl)
  ·obtain ⟨j,u⟩:=AQ h;have:=key u;rw [Ax j];cases d with
   |dat _ _ a n c hd=>exact @VR.dat W.toVals _ _ e a n c (by rw [this,hK];exact hd)
 |.dptr _ _ _ _,x,o,v,h,g,d=>by cases x<;>simp only [CE,reduceCtorEq] at h
 |.asl b J n nl,x,o,v,h,g,d=>by
  have E:∀{a b:SE} {o:Obs},G4 (a.inst θ) b=some o→o.holds U.V→Ac W.V a=Ac U.V b:=by
   intro a b o D g;rw [hV,←Ki];exact Mf D g
  have F:∀{a b:SE} {o:Obs},Dh (a.inst θ) b=some o→o.holds U.V→Ah W.V a=Ah U.V b:=by
   intro a b o D g;rw [hV,←Ft];exact Jl D g
  cases x<;>simp only [CE,reduceCtorEq] at h
  ·
   obtain ⟨o1,o2,B,G,rfl⟩:=Bw h;obtain ⟨w,y⟩:=Obs.append g;have k1:=E B w;have k2:=F G y;cases d;exact @VR.aslEnd W.toVals _ b J n nl none (by rw [k1];rfl) (by rw [k2];rfl)
  ·
   rename_i b' o' n' X;obtain ⟨j,u⟩:=AQ h;obtain ⟨N,L⟩:=Au j;obtain ⟨M,h8⟩:=Au N;obtain ⟨o1,o2,B,G,rfl⟩:=Bw u;obtain ⟨w,y⟩:=Obs.append g;have k1:=E B w;have k2:=F G y;have A:Ac W.V n=n':=by rw [k1];rfl
   have Y:Ah W.V nl=false:=by rw [k2];rfl
   have e3:=Ax h8;have Z:=Ax L;subst e3;subst Z;cases d with
   |slice _ _ _ _ H base C O P=>
    have q:=@VR.asl W.toVals (ρ.back β) b J n nl H base (by rw [EE M];exact C) (by rw [A];exact Int.natCast_nonneg _) (by rw [A];simpa using O) (by simpa using P) Y
    rw [A] at q;simpa using q
   |sliceEnd _ _ _ a=>exact @VR.aslEnd W.toVals _ b J n nl (some a) (by rw [A];rfl) (by rw [Y];rfl)
  ·
   rename_i b' X n' ac;obtain ⟨j,u⟩:=AQ h;obtain ⟨M,L⟩:=Au j;obtain ⟨o1,o2,B,G,rfl⟩:=Bw u;obtain ⟨w,y⟩:=Obs.append g;have k1:=E B w;have k2:=F G y;have A:Ac W.V n=Ac U.V n':=k1;have Y:Ah W.V nl=Ah U.V ac:=k2;have Z:=Ax L;subst Z;cases d with
   |asl _ _ _ _ H base C h0 O P I=>
    rw [←A];exact @VR.asl W.toVals _ b J n nl H base (by rw [EE M];exact C) (by rw [A];exact h0) (by rw [A];exact O) P (by rw [Y];exact I)
   |aslEnd _ _ _ _ a h0 I=>exact @VR.aslEnd W.toVals _ b J n nl a (by rw [A];exact h0) (by rw [Y];exact I)
  ·
   obtain ⟨o1,o2,B,G,rfl⟩:=Bw h;obtain ⟨w,y⟩:=Obs.append g;have k1:=E B w;have k2:=F G y;cases d with
   |eslc _ a I=>exact @VR.aslEnd W.toVals _ b J n nl a (by rw [k1];rfl) (by rw [I];exact k2.symm)
 |.eslc nl,x,o,v,h,g,d=>by
  have key:∀{b:SE},Dh (nl.inst θ) b=some o→Ah W.V nl=Ah U.V b:=by
   intro b D;rw [hV,←Ft];exact Jl D g
  cases x<;>simp only [CE,reduceCtorEq] at h
  ·have:=key h;cases d;exact @VR.eslc W.toVals _ nl none (by rw [this];rfl)
  ·have:=key h;cases d with
   |eslc _ a I=>exact @VR.eslc W.toVals _ nl a (by rw [I,this])
 |.aptr b J i off,x,o,v,h,g,d=>by
  cases x<;>simp only [CE,reduceCtorEq] at h
  rename_i b' X i' ad;obtain ⟨j,u⟩:=AQ h;obtain ⟨N,L⟩:=Au j;obtain ⟨M,h8⟩:=Au N;have A:Ac W.V i=Ac U.V i':=by rw [hV,←Ki];exact Mf u g
  have e3:=Ax h8;have Z:=Ax L;subst e3;subst Z;cases d with
  |aptr _ _ _ _ base C h0=>
   have:=@VR.aptr W.toVals (ρ.back β) b J i off base (by rw [EE M];exact C) (by rw [A];exact h0)
   rw [A] at this;exact this
 |.nmap b nl,x,o,v,h,g,d=>by
  have key:∀{b:SE},Dh (nl.inst θ) b=some o→Ah W.V nl=Ah U.V b:=by
   intro b D;rw [hV,←Ft];exact Jl D g
  cases x<;>simp only [CE,reduceCtorEq] at h
  ·have:=key h;cases d;exact @VR.nmap0 W.toVals _ b nl (by rw [this];rfl)
  ·obtain ⟨j,u⟩:=AQ h;have:=key u;cases d with
   |map _ base C=>exact @VR.nmap W.toVals _ b nl base (by rw [EE j];exact C) (by rw [this];rfl)
  ·obtain ⟨j,u⟩:=AQ h;have:=key u;cases d with
   |nmap _ _ base C I=>exact @VR.nmap W.toVals _ b nl base (by rw [EE j];exact C) (by rw [this];exact I)
   |nmap0 _ _ I=>exact @VR.nmap0 W.toVals _ b nl (by rw [this];exact I)
theorem DI:∀(a b:List AV) (o:Obs) (vs:List Value),Gm θ β a b=some o→o.holds U.V→@VL U.toVals ρ b vs→@VL W.toVals (ρ.back β) a vs
 |[],b,o,vs,h,g,d=>by
  cases b with
  |nil=>have:=VL.nil_inv (U:=U.toVals) d;subst this;exact VL.nil (U:=W.toVals) _
  |cons=>cases h
 |a::l,b,o,vs,h,g,d=>by
  cases b with
  |nil=>cases h
  |cons b m=>
   simp only [Gm] at h;obtain ⟨o1,o2,j,u,rfl⟩:=Bw h;obtain ⟨w,y⟩:=Obs.append g;obtain ⟨v,r,rfl,q1,q2⟩:=VL.cons_inv (U:=U.toVals) d;exact VL.cons (U:=W.toVals) (Gk a b o1 v j w q1) (DI l m o2 r u y q2)
end
end
end Go.AE
namespace Go.AE
variable [Gl:AC]
def zP (c:List SE) (d:List Nat):Option AV→Option AV→Option Obs
 |none,_=>some []
 |some a,some b=>CE c d a b
 |some _,none=>none
def leT (a:List SE) (b:List Nat):T AV→T AV→Option Obs
 |.nil,_=>some []
 |.node v l r,.node c d e=>Dg (zP a b v c) (Dg (leT a b l d) (leT a b r e))
 |.node _ _ _,.nil=>none
def dU (c:List SE) (d:List Nat):List AA→List AA→Option Obs
 |[],[]=>some []
 |a::l,b::m=>Ds (Nat.beq a.born b.born) (Dg (CE c d a.key b.key) (Dg (CE c d a.val b.val) (dU c d l m)))
 |_,_=>none
def og:LoopState→LoopState→Bool
 |.ready,.ready=>true
 |.busy,.busy=>true
 |.done,.done=>true
 |.exhausted,.exhausted=>true
 |_,_=>false
theorem dE {a b:LoopState} (h:og a b=true):a=b:=by cases a<;>cases b<;>first|rfl | (cases h;done)
def Q6 [Facts] (E:Env) (h:List SE) (q:List Nat):Am→Am→Option Obs
 |.cells n c,.cells F G=>Ds (Nat.beq n F) (leT h q c G)
 |.arr e x,.arr t r=>Ds (Nat.beq e t) (Ju (x.inst h) r)
 |.arr e x,.cells n c=>match E.kinds e with
  |some ks=>match Nat.beq (n/ks.length*ks.length) n,c.range 0 n with
   |true,some l=>match DX ks (n/ks.length) .emptyL l with
    |some y=>Ju (x.inst h) y
    |none=>none
   |_,_=>none
  |none=>none
 |.hole e x i j a,.hole t r H I J=>Ds (Nat.beq e t&&Nat.beq j I) (Dg (Ju (x.inst h) r) (Dg (Ju (i.inst h) H) (CE h q a J)))
 |.map s k,.map u w=>Ds (Nat.beq k w) (dU h q s u)
 |.dmap k v x,.dmap w K r=>Ds (Nat.beq k w&&Nat.beq v K) (Ju (x.inst h) r)
 |.dmap k v x,.map s m=>match E.kinds k,E.kinds v with
  |some z,some A=>match Nf z A .emptyL s with
   |some y=>Ds (Zm 0 s m) (Ju (x.inst h) y)
   |none=>none
  |_,_=>none
 |.deferred none,.deferred none=>some []
 |.deferred (some []),.deferred (some [])=>some []
 |.loop st pending fn nt tmps params assign body d,.loop B b C D o f g p L=>
  Ds (og st B&&Sq Cm pending b&&Nat.beq fn C&&Nat.beq nt D&&Ko Nat.beq params f&&toB q d L) (Ds (Cm assign g&&Cm body p) (leT h q tmps o))
 |_,_=>none
def kc [Facts] (E:Env) (a:List SE) (b:List Nat):Option Am→Option Am→Option Obs
 |none,_=>some []
 |some x,some y=>Q6 E a b x y
 |some _,none=>none
def EA [Facts] (E:Env) (a:List SE) (c:List Nat) (h:Aa):List (Option Am)→List Nat→Option Obs
 |[],[]=>some []
 |o::r,b::d=>Dg (kc E a c o (h.blk.get b)) (EA E a c h r d)
 |_,_=>none
def Fe:List Nat→Bool
 |[]=>true
 |b::r=>!Mj b r&&Fe r
def Ce:List (Option Am)→Nat→T Am→T Am
 |[],_,t=>t
 |some x::r,i,t=>Ce r (i+1) (t.set i x)
 |none::r,i,t=>Ce r (i+1) t
def Bb (l:List (Option Am)):T Am:=Ce l 0 .nil
theorem Mt:∀(l:List (Option Am)) (i:Nat) (t:T Am) (j:Nat),(∀q,i≤q→t.get q=none)→(Ce l i t).get j=if i≤j then (l[j-i]?).join else t.get j:=by
 intro l
 induction l with
 |nil=>
  intro i t j b;simp only [Ce];by_cases h:i≤j
  ·rw [if_pos h,b j h];rfl
  ·rw [if_neg h]
 |cons o r ih=>
  intro i t j b
  have key:∀a,(∀q,i+1≤q→a.get q=none)→a.get i=o→(∀q,q<i→a.get q=t.get q)→(Ce r (i+1) a).get j=if i≤j then ((o::r)[j-i]?).join else t.get j:=by
   intro a d e f;rw [ih (i+1) a j d];by_cases c1:i+1≤j
   ·rw [if_pos c1,if_pos (by omega),show j-i=(j-(i+1))+1 by omega,eq]
   ·rw [if_neg c1];by_cases c2:i=j
    ·subst c2;rw [if_pos (IqQ _),e];simp
    ·rw [if_neg (by omega),f j (by omega)]
  cases o with
  |some x=>
   simp only [Ce];refine key _ (fun q c=>?_) ?_ (fun q c=>?_)
   ·rw [T.get_set,if_neg (by omega),b q (by omega)]
   ·rw [T.get_set,if_pos rfl]
   ·rw [T.get_set,if_neg (by omega)]
  |none=>
   simp only [Ce];exact key _ (fun q c=>b q (by omega)) (b i (IqQ _)) (fun q c=>rfl)
theorem Cp (l:List (Option Am)) (j:Nat):(Bb l).get j=(l[j]?).join:=by
 rw [Bb,Mt _ _ _ _ (fun q _=>T.get_nil _),if_pos (Aec _)];simp
theorem GQ {b:Nat}:∀{l:List Nat},b∈l→Mj b l=true
 |c::r,h=>by
  simp only [Mj,vy];rcases gk.1 h with rfl|h
  ·exact .inl (Fr b)
  ·exact .inr (GQ h)
def E8 (b:Nat):List (Option Am)→List Nat→Bool
 |some _::r,c::a=>Nat.beq b c||E8 b r a
 |none::r,_::a=>E8 b r a
 |_,_=>false
def FW:List (Option Am)→List Nat→Bool
 |some _::r,b::a=>!E8 b r a&&FW r a
 |none::r,_::a=>FW r a
 |_,_=>true
theorem Hm {b:Nat}:∀{l:List (Option Am)} {e:List Nat},E8 b l e=false→∀{j:Nat} {x:Am},l[j]?=some (some x)→e[j]?=some b→False
 |[],_,_,j,x,d,_=>by simp at d
 |_::_,[],_,j,x,_,a=>by simp at a
 |some y::r,c::e,h,j,x,d,a=>by
  simp only [E8,Bool.or_eq_false_iff] at h;cases j with
  |zero=>simp only [No,C2] at a;subst a;rw [Nat.beq_refl] at h;exact absurd h.1 (by simp)
  |succ j=>exact Hm h.2 (by simpa using d) (by simpa using a)
 |none::r,c::e,h,j,x,d,a=>by
  simp only [E8] at h;cases j with
  |zero=>simp at d
  |succ j=>exact Hm h (by simpa using d) (by simpa using a)
theorem J1:∀{l:List (Option Am)} {f:List Nat},FW l f=true→∀{i j b:Nat} {x y:Am},l[i]?=some (some x)→l[j]?=some (some y)→f[i]?=some b→f[j]?=some b→i=j
 |[],_,_,i,j,b,x,y,d,_,_,_=>by simp at d
 |_::_,[],_,i,j,b,x,y,_,_,a,_=>by simp at a
 |none::r,c::f,h,i,j,b,x,y,d,g,a,e=>by
  simp only [FW] at h;cases i with
  |zero=>simp at d
  |succ i=>
   cases j with
   |zero=>simp at g
   |succ j=>exact congrArg (· + 1) (J1 h (i:=i) (j:=j) (b:=b) (x:=x) (y:=y) (by simpa using d) (by simpa using g) (by simpa using a) (by simpa using e))
 |some z::r,c::f,h,i,j,b,x,y,d,g,a,e=>by
  simp only [FW,F4,Aed] at h;cases i with
  |zero=>
   simp only [No,C2] at a;subst a;cases j with
   |zero=>rfl
   |succ j=>exact (Hm h.1 (by simpa using g) (by simpa using e)).elim
  |succ i=>
   cases j with
   |zero=>
    simp only [No,C2] at e;subst e;exact (Hm h.1 (by simpa using d) (by simpa using a)).elim
   |succ j=>exact congrArg (· + 1) (J1 h.2 (i:=i) (j:=j) (b:=b) (x:=x) (y:=y) (by simpa using d) (by simpa using g) (by simpa using a) (by simpa using e))
theorem Oe:∀{l:List Nat},Fe l=true→∀{i j b:Nat},l[i]?=some b→l[j]?=some b→i=j
 |[],_,i,j,b,h,_=>by simp at h
 |c::r,h,i,j,b,hi,a=>by
  simp only [Fe,F4,Aed] at h;cases i with
  |zero=>
   simp only [No,C2] at hi;subst hi;cases j with
   |zero=>rfl
   |succ j=>
    simp only [eq] at a;rw [GQ (rc a)] at h;cases h.1
  |succ i=>
   simp only [eq] at hi;cases j with
   |zero=>
    simp only [No,C2] at a;subst a;rw [GQ (rc hi)] at h;cases h.1
   |succ j=>
    simp only [eq] at a;rw [Oe h.2 hi a]
section
variable {U W:Unk} {θ:List SE} (hV:W.V=U.V.inst θ) (hK:W.K=U.K) {β:List Nat} {ρ:Ren} {E:Env}
include hV hK
theorem dr {a b:Option AV} {o:Obs} (h:zP θ β a b=some o) (c:o.holds U.V) {x:AV} (d:a=some x):∃y,b=some y∧∀v,@VR U.toVals ρ y v→@VR W.toVals (ρ.back β) x v:=by
 subst d;cases b with
 |none=>cases h
 |some y=>exact ⟨y,rfl,fun v e=>Gk hV hK x y o v h c e⟩
theorem Mi:∀(p a:T AV) (o:Obs),leT θ β p a=some o→o.holds U.V→∀i x,p.get i=some x→∃y,a.get i=some y∧∀v,@VR U.toVals ρ y v→@VR W.toVals (ρ.back β) x v
 |.nil,a,o,h,c,i,x,b=>by simp [T.get_nil] at b
 |.node v l r,.nil,o,h,c,i,x,b=>by cases h
 |.node v l r,.node t j k,o,h,c,i,x,b=>by
  simp only [leT] at h;obtain ⟨o1,o2,m,n,rfl⟩:=Bw h;obtain ⟨o3,o4,q,s,rfl⟩:=Bw n;obtain ⟨d,e⟩:=Obs.append c;obtain ⟨f,g⟩:=Obs.append e;simp only [T.get_eq,T.get0] at b ⊢;split at b
  ·exact dr hV hK m d b
  ·split at b
   ·simp only [←T.get_eq] at b ⊢;exact Mi l j o3 q f _ x b
   ·simp only [←T.get_eq] at b ⊢;exact Mi r k o4 s g _ x b
theorem U1:∀(p a:List AA) (o:Obs) (c:List MapEntry),dU θ β p a=some o→o.holds U.V→@ER U.toVals ρ a c→@ER W.toVals (ρ.back β) p c
 |[],[],o,c,h,k,d=>by cases c<;>simp_all [ER]
 |a::l,b::m,o,c,h,k,d=>by
  simp only [dU] at h;obtain ⟨n,h⟩:=AQ h;obtain ⟨o1,o2,q,s,rfl⟩:=Bw h;obtain ⟨o3,o4,t,u,rfl⟩:=Bw s;obtain ⟨f,g⟩:=Obs.append k;obtain ⟨i,j⟩:=Obs.append g;cases c with
  |nil=>simp [ER] at d
  |cons e r=>
   obtain ⟨v,w,x,y⟩:=d;exact ⟨Gk hV hK _ _ _ _ q f v,Gk hV hK _ _ _ _ t i w,by rw [x,Ax n],U1 l m o4 r u j y⟩
 |[],_::_,o,c,h,_,_=>by cases h
 |_::_,[],o,c,h,_,_=>by cases h
theorem Yi (hE:@OK _ U E) {x y:Am} {o:Obs} {base:Cr} {ob:Option Obj} (h:@Q6 U.toFacts E θ β x y=some o) (A:o.holds U.V) (B:@BR U.toVals ρ y base ob):@BR W.toVals (ρ.back β) x base ob:=by
 unfold Q6 at h;split at h
 ·
  rename_i n c n' c';obtain ⟨b,z⟩:=AQ h;rw [Ax b];obtain ⟨d,e,F,r,g,b3,b4,C⟩:=B;refine ⟨d,e,F,r,g,b3,b4,fun i a hi P=>?_⟩
  obtain ⟨y,G,I⟩:=Mi hV hK (ρ:=ρ) c c' o z A i a P;obtain ⟨v,R,S⟩:=C i y hi G;exact ⟨v,R,I v S⟩
 ·
  rename_i e x e' J;obtain ⟨b,z⟩:=AQ h;rw [Ax b];obtain ⟨ks,d,L,F,r,g,b3,b4,C⟩:=B;have w:Ab W.V x=Ab U.V J:=by rw [hV,←BC,EO z A]
  exact ⟨ks,d,L,F,by rw [hK];exact r,g,b3,b4,by rw [w,hK];exact C⟩
 ·
  rename_i e x n c;split at h
  ·rename_i ks X;split at h
   ·rename_i l hn hl;split at h
    ·rename_i y Y;obtain ⟨d,L,F,r,g,b3,b4,C⟩:=B;have H:U.K e=some ks:=by rw [OK.kd (U:=U) hE,←OK.ke (U:=U) hE];exact X
     have w:Ab W.V x=Ab U.V y:=by rw [hV,←BC,EO h A]
     obtain ⟨l1,l2⟩:=T.range_spec c _ _ _ hl
     have Z:@VL U.toVals ρ l ((d.toList.drop base.co).take n):=by
      refine ⟨by simp [l1];omega,fun i a v P Q=>?_⟩
      have hi:i<n:=by have:=(Id.1 P).1;omega
      have:=l2 i hi;rw [pc,P] at this;obtain ⟨v',R,S⟩:=C i a hi this;rw [pi,if_pos hi,l0,lv,R] at Q;cases Q;exact S
     obtain ⟨rs,r1,r2,r3⟩:=@Fo _ U ρ ks _ _ _ _ _ Y Z;have er:(Ab U.V y).rows=rs:=by rw [r2];rfl
     have D:((d.toList.drop base.co).take n).length=n:=by simp;omega
     refine ⟨ks,d,L,F,by rw [hK];exact H,r,g,b4,?_⟩
     rw [w,er,hK]
     exact r3.at (by rw [D,g];exact b3) (fun q hq=>by
      rw [D] at hq;rw [pi,if_pos hq,l0,lv])
    ·cases h
   ·cases h
  ·cases h
 ·
  rename_i e x i j a e' J i' j' a';obtain ⟨b,z⟩:=AQ h;obtain ⟨c1,c2⟩:=Au b;rw [Ax c1,Ax c2];obtain ⟨o1,o2,p1,p2,rfl⟩:=Bw z;obtain ⟨o3,o4,p3,p4,rfl⟩:=Bw p2;have G:o1.holds U.V:=fun p q M=>A p q (List.mem_append_left _ M)
  have q3:o3.holds U.V:=fun p q M=>A p q (Aem _ (List.mem_append_left _ M))
  have q4:o4.holds U.V:=fun p q M=>A p q (Aem _ (Aem _ M))
  have w:Ab W.V x=Ab U.V J:=by rw [hV,←BC,EO p1 G]
  have N:Ac W.V i=Ac U.V i':=by unfold Ac;rw [hV,←BC,EO p3 q3]
  obtain ⟨ks,d,L,F,u,v,r,g,b3,b4,C,b6,b7,b8,b9⟩:=B;exact ⟨ks,d,L,F,u,v,by rw [hK];exact r,g,b3,b4,by rw [w,N,hK];exact C,by rw [w,N];exact b6,b7,by rw [N];exact b8,Gk hV hK _ _ _ _ p4 q4 b9⟩
 ·
  obtain ⟨b,z⟩:=AQ h;rw [Ax b];obtain ⟨m,r,g⟩:=B;exact ⟨m,r,U1 hV hK _ _ _ _ z A g⟩
 ·
  rename_i k v x k' v' J;obtain ⟨b,z⟩:=AQ h;obtain ⟨c1,c2⟩:=Au b;rw [Ax c1,Ax c2];obtain ⟨s,t,m,f,r,g,b3,b4,C⟩:=B;have w:Ab W.V x=Ab U.V J:=by rw [hV,←BC,EO z A]
  exact ⟨s,t,m,f,by rw [hK];exact r,by rw [hK];exact g,b3,by rw [w,hK];exact b4,C⟩
 ·
  rename_i k v x es f;split at h
  ·rename_i s t X Q;split at h
   ·rename_i y Y;obtain ⟨O,h⟩:=AQ h;obtain ⟨m,r,g⟩:=B;have H:U.K k=some s:=by rw [OK.kd (U:=U) hE,←OK.ke (U:=U) hE];exact X
    have aa:U.K v=some t:=by rw [OK.kd (U:=U) hE,←OK.ke (U:=U) hE];exact Q
    have w:Ab W.V x=Ab U.V y:=by rw [hV,←BC,EO h A]
    have q:Bp U.K ρ.imm s t ([]++m) (Ab U.V y).rows:=@M4 _ U ρ s t _ _ _ _ [] Y g trivial;rw [List.nil_append] at q;exact ⟨s,t,m,f,by rw [hK];exact H,by rw [hK];exact aa,r,by rw [w,hK];exact q,(@PI _ U.toVals ρ es m 0 f O g).2⟩
   ·cases h
  ·cases h
 ·exact B
 ·obtain ⟨l',G,I⟩:=B;cases l' with
  |nil=>exact ⟨[],trivial,I⟩
  |cons=>exact G.elim
 ·
  obtain ⟨b,z⟩:=AQ h;obtain ⟨h3,h4⟩:=AQ z;obtain ⟨b,c6⟩:=Au b;obtain ⟨b,c5⟩:=Au b;obtain ⟨b,c4⟩:=Au b;obtain ⟨b,c3⟩:=Au b;obtain ⟨c1,c2⟩:=Au b;obtain ⟨c7,c8⟩:=Au h3;have w:=dE c1;have N:=Jx (fun _ _=>Eg) c2
  have e3:=Ax c3;have e4:=Ax c4;have e5:=Hu (fun _ _=>Bh) c5
  have e7:=Eg c7;have e8:=Eg c8;subst w;subst N;subst e3;subst e4;subst e5;subst e7;subst e8;obtain ⟨tm,bd,G,I,q3⟩:=B;refine ⟨tm,bd,by rw [EE c6];exact G,@TR.mk W.toVals (ρ.back β) _ _ _ (@TR.size U.toVals ρ _ _ _ I) (fun i x hx=>?_),q3⟩
  obtain ⟨y,r1,r2⟩:=Mi hV hK (ρ:=ρ) _ _ o h4 A i x hx;exact r2 _ (@TR.get U.toVals ρ _ _ _ I i y r1)
 ·cases h
theorem Dk {h:Aa}:∀(l:List (Option Am)) (d:List Nat) (o:Obs),@EA U.toFacts E θ β h l d=some o→o.holds U.V→l.length=d.length∧∀(i:Nat) x,l[i]?=some (some x)→∃b y k,d[i]?=some b∧h.blk.get b=some y∧@Q6 U.toFacts E θ β x y=some k∧k.holds U.V
 |[],[],o,h,m=>⟨rfl,fun i x c=>by simp at c⟩
 |a::l,b::d,o,h,m=>by
  simp only [EA] at h;obtain ⟨o1,o2,e,n,rfl⟩:=Bw h;obtain ⟨f,g⟩:=Obs.append m;obtain ⟨p,q⟩:=Dk l d o2 n g;refine ⟨by simp [p],fun i x c=>?_⟩
  cases i with
  |zero=>
   simp only [No,C2] at c;subst c;cases j:(_:Aa).blk.get b with
   |none=>rw [j] at e;cases e
   |some y=>rw [j] at e;exact ⟨b,y,o1,rfl,j,e,f⟩
  |succ i=>
   simp only [eq] at c ⊢;exact q i x c
 |[],_::_,o,h,_=>by cases h
 |_::_,[],o,h,_=>by cases h
theorem HR.toPatL (hE:@OK _ U E) {h:Aa} {w:World} {l:List (Option Am)} {o:Obs} (hr:@HR _ U.toVals ρ h.blk.get w) (hl:@EA U.toFacts E θ β h l β=some o) (ho:o.holds U.V) (hn:FW l β=true):@HR _ W.toVals (ρ.back β) (Bb l).get w:=by
 obtain ⟨q1,q2⟩:=Dk hV hK l β o hl ho
 have at_:∀b base,(ρ.back β).m b=some base→∃c,β[b]?=some c∧ρ c=some base:=by
  intro b base r;simp only [Ren.back] at r;cases hc:β[b]? with
  |none=>rw [hc] at r;cases r
  |some c=>rw [hc] at r;exact ⟨c,rfl,r⟩
 have live:∀b,(Bb l).get b≠none→∃x c y o',(Bb l).get b=some x∧β[b]?=some c∧h.blk.get c=some y∧@Q6 U.toFacts E θ β x y=some o'∧o'.holds U.V:=by
  intro b r;rw [Cp] at r ⊢;cases I:l[b]? with
  |none=>rw [I] at r;exact absurd rfl r
  |some ox=>
   cases ox with
   |none=>rw [I] at r;exact absurd rfl r
   |some x=>
    obtain ⟨c,y,o',a1,a2,a3,a4⟩:=q2 b x I;exact ⟨x,c,y,o',rfl,a1,a2,a3,a4⟩
 refine ⟨fun b base r=>?_,fun b base x r I=>?_,fun b b' base base' ar r av h1 h2=>?_,fun k arr hk=>HR.imm (U:=U.toVals) (ρ:=ρ) hr k arr hk,fun k arr b base hk r hl=>?_,HR.glob (U:=U.toVals) (ρ:=ρ) hr⟩
 ·obtain ⟨c,c1,c2⟩:=at_ b base r;exact HR.lt (U:=U.toVals) hr c base c2
 ·obtain ⟨x',c,y,o',e1,J,e3,e4,e5⟩:=live b (by rw [I];exact F0 _)
  rw [I] at e1;cases e1;obtain ⟨c',c1,c2⟩:=at_ b base r;rw [J] at c1;cases c1;exact Yi hV hK hE e4 e5 (HR.blk (U:=U.toVals) hr c base y c2 e3)
 ·obtain ⟨c,c1,c2⟩:=at_ b base r;obtain ⟨c',al,bd⟩:=at_ b' base' av;obtain ⟨_,d,y,_,_,J,e3,_,_⟩:=live b h1;obtain ⟨_,d',y',_,_,an,be,_,_⟩:=live b' h2;rw [c1] at J;cases J;rw [al] at an;cases an;refine HR.apart (U:=U.toVals) hr c c' base base' (fun e=>?_) c2 bd (by rw [e3];exact F0 _) (by rw [be];exact F0 _)
  subst e
  have t:∀b,(Bb l).get b≠none→∃x,l[b]?=some (some x):=by
   intro b r;rw [Cp] at r;cases I:l[b]? with
   |none=>rw [I] at r;exact absurd rfl r
   |some ox=>
    cases ox with
    |none=>rw [I] at r;exact absurd rfl r
    |some x=>exact ⟨x,rfl⟩
  obtain ⟨x1,l1⟩:=t b h1;obtain ⟨x2,l2⟩:=t b' h2;exact ar (J1 hn l1 l2 c1 al)
 ·obtain ⟨c,c1,c2⟩:=at_ b base r;obtain ⟨_,d,y,_,_,J,e3,_,_⟩:=live b hl;rw [c1] at J;cases J;exact HR.off (U:=U.toVals) hr k arr c base hk c2 (by rw [e3];exact F0 _)
omit hV hK in
theorem XO {l:List (Option Am)} {bs:List Nat} (h:Fe bs=true):FW l bs=true:=by
 induction l generalizing bs with
 |nil=>rfl
 |cons o r ih=>
  cases bs with
  |nil=>cases o<;>rfl
  |cons b bs=>
   simp only [Fe,F4,Aed] at h;cases o with
   |none=>exact ih h.2
   |some x=>
    simp only [FW,F4,Aed];refine ⟨?_,ih h.2⟩;cases hq:E8 b r bs with
    |false=>rfl
    |true=>
     exfalso
     have:∀(r:List (Option Am)) (bs:List Nat),E8 b r bs=true→Mj b bs=true:=by
      intro r
      induction r with
      |nil=>intro bs h;cases bs<;>cases h
      |cons o r ih2=>
       intro bs h;cases bs with
       |nil=>cases o<;>cases h
       |cons c bs=>
        cases o with
        |none=>simp only [E8] at h;simp [Mj,ih2 bs h]
        |some x=>
         simp only [E8,vy] at h;simp only [Mj,vy];exact h.imp id (ih2 bs)
     rw [this r bs hq] at h;exact absurd h.1 (by simp)
theorem HR.toPat (hE:@OK _ U E) {h:Aa} {w:World} {l:List (Option Am)} {o:Obs} (t:@HR _ U.toVals ρ h.blk.get w) (I:@EA U.toFacts E θ β h l β=some o) (J:o.holds U.V) (hn:Fe β=true):@HR _ W.toVals (ρ.back β) (Bb l).get w:=
 HR.toPatL hV hK hE t I J (XO hn)
end
end Go.AE
namespace Go.AE
variable [Gl:AC]
def Up (a:List Nat):Fn→Fn
 |.yield l=>.yield (a.getD l 0)
 |f=>f
mutual
def AV.inst [Facts] (r:List SE) (I:List Nat):AV→AV
 |.top=>.top
 |.bool b=>.bool b
 |.int k n=>.int k n
 |.str l b=>.str l b
 |.ptr0=>.ptr0
 |.ptr b o=>.ptr (I.getD b 0) o
 |.slice0=>.slice0
 |.slice b o n es=>.slice (I.getD b 0) o n es
 |.map0=>.map0
 |.map b=>.map (I.getD b 0)
 |.func fn f c=>.func (Up I fn) (AV.instL r I f) (AV.instL r I c)
 |.nilFunc=>.nilFunc
 |.iface t v=>.iface t (AV.inst r I v)
 |.nilIface=>.nilIface
 |.agg l=>.agg (AV.instL r I l)
 |.tuple l=>.tuple (AV.instL r I l)
 |.sb p e=>mkB p (e.inst r)
 |.si k e=>mkI k (e.inst r)
 |.ss x=>.ss (x.inst r)
 |.dat e x=>.dat e (x.inst r)
 |.dptr e x i off=>.dptr e (x.inst r) (i.inst r) off
 |.asl b es n nl=>.asl (I.getD b 0) es (n.inst r) (nl.inst r)
 |.eslc nl=>.eslc (nl.inst r)
 |.aptr b es i off=>.aptr (I.getD b 0) es (i.inst r) off
 |.nmap b nl=>.nmap (I.getD b 0) (nl.inst r)
 |.stamp b=>.stamp (I.getD b 0)
 |.glob g off=>.glob g off
 |.fsl b o n es=>.fsl (I.getD b 0) o n es
termination_by structural a=>a
def AV.instL [Facts] (r:List SE) (I:List Nat):List AV→List AV
 |[]=>[]
 |a::l=>AV.inst r I a::AV.instL r I l
termination_by structural l=>l
end
def T.mapA {t I:Type} (f:t→I):T t→T I
 |.nil=>.nil
 |.node v l r=>.node (match v with|some x=>some (f x)|none=>none) (l.mapA f) (r.mapA f)
def Uy [Facts] (a:List SE) (b:List Nat):List AA→List AA
 |[]=>[]
 |e::r=>{key:=e.key.inst a b,val:=e.val.inst a b,born:=e.born}::Uy a b r
def Am.inst [Facts] (l:List SE) (r:List Nat):Am→Option Am
 |.cells n c=>some (.cells n (c.mapA (AV.inst l r)))
 |.arr e x=>some (.arr e (x.inst l))
 |.hole e x i j a=>some (.hole e (x.inst l) (i.inst l) j (a.inst l r))
 |.map t k=>some (.map (Uy l r t) k)
 |.dmap k v x=>some (.dmap k v (x.inst l))
 |.deferred none=>some (.deferred none)
 |.deferred (some [])=>some (.deferred (some []))
 |.loop st pending fn nt tmps params assign body d=>some (.loop st pending fn nt (tmps.mapA (AV.inst l r)) params assign body (r.getD d 0))
 |_=>none
theorem T.get_mapA {I J:Type} (f:I→J):∀(t:T I) (i:Nat),(t.mapA f).get i=(t.get i).map f
 |.nil,i=>by rw [T.mapA,T.get_nil,T.get_nil];rfl
 |.node v l r,i=>by
  simp only [T.mapA,T.get_eq,T.get0];split
  ·cases v<;>rfl
  ·split
   ·simp only [←T.get_eq];exact T.get_mapA f l _
   ·simp only [←T.get_eq];exact T.get_mapA f r _
section
variable {U W:Unk} {θ:List SE} (hV:W.V=U.V.inst θ) (hK:W.K=U.K) {β:List Nat} {σ τ:Ren}
 (hβ:∀b base,σ b=some base→τ (β.getD b 0)=some base) (hM:∀k a,σ.imm k=some a→τ.imm k=some a)
include hV hK hβ hM
omit hK in
theorem BX {e:SE}:Ab U.V (e.inst θ)=Ab W.V e:=by rw [BC,hV]
theorem W7 {f g:Fn} (h:FnR σ f g):FnR τ (Up β f) g:=by
 cases f<;>simp only [FnR,Up] at h ⊢<;>first|exact h|skip
 obtain ⟨base,c,d⟩:=h;exact ⟨base,hβ _ _ c,d⟩
mutual
theorem EU:∀(a:AV) (v:Value),@VR W.toVals σ a v→@VR U.toVals τ (@AV.inst U.toFacts θ β a) v
 |.top,v,h=>@VR.top U.toVals _ v
 |.bool b,v,h=>by cases h;exact @VR.bool U.toVals _ _
 |.int k n,v,h=>by cases h;exact @VR.int U.toVals _ _ _
 |.str l b,v,h=>by cases h;exact @VR.str U.toVals _ _
 |.ptr0,v,h=>by cases h;exact @VR.ptr0 U.toVals _
 |.ptr b o,v,h=>by
  cases h with
  |ptr _ _ base j=>exact @VR.ptr U.toVals _ _ o base (hβ _ _ j)
 |.slice0,v,h=>by cases h;exact @VR.slice0 U.toVals _
 |.slice b o n s,v,h=>by
  cases h with
  |slice _ _ _ _ m base j G z=>exact @VR.slice U.toVals _ _ o n s m base (hβ _ _ j) G z
  |sliceEnd _ _ _ a=>exact @VR.sliceEnd U.toVals _ _ o s a
 |.map0,v,h=>by cases h;exact @VR.map0 U.toVals _
 |.map b,v,h=>by
  cases h with
  |map _ base j=>exact @VR.map U.toVals _ _ base (hβ _ _ j)
 |.func fn f c,v,h=>by
  cases h with
  |func _ H _ _ J L A B N O P=>
   have D:=Ha f J ⟨B,N⟩;have E:=Ha c L ⟨O,P⟩;exact @VR.func U.toVals _ _ H _ _ J L (W7 hV hK hβ hM A) D.1 D.2 E.1 E.2
 |.nilFunc,v,h=>by cases h;exact @VR.nilFunc U.toVals _
 |.iface t a,v,h=>by
  cases h with
  |iface _ _ M Q=>exact @VR.iface U.toVals _ t _ M (EU a M Q)
 |.nilIface,v,h=>by cases h;exact @VR.nilIface U.toVals _
 |.agg l,v,h=>by
  cases h with
  |agg _ C A B=>
   have q:=Ha l C ⟨A,B⟩;exact @VR.agg U.toVals _ _ C q.1 q.2
 |.tuple l,v,h=>by
  cases h with
  |tuple _ C A B=>
   have q:=Ha l C ⟨A,B⟩;exact @VR.tuple U.toVals _ _ C q.1 q.2
 |.sb p e,v,h=>by
  cases h;have:=@GV _ U τ p (e.inst θ);have d:Ah U.V (e.inst θ)=Ah W.V e:=by unfold Ah;rw [BX hV hβ hM]
  rw [d] at this;exact this
 |.si k e,v,h=>by
  cases h;have:=@Cb _ U τ k (e.inst θ);have d:Ac U.V (e.inst θ)=Ac W.V e:=by unfold Ac;rw [BX hV hβ hM]
  rw [d] at this;exact this
 |.ss x,v,h=>by
  cases h;have d:AT U.V (x.inst θ)=AT W.V x:=by unfold AT;rw [BX hV hβ hM]
  have:=@VR.ss U.toVals τ (x.inst θ);rw [d] at this;exact this
 |.dat e x,v,h=>by
  cases h with
  |dat _ _ a n c I=>exact @VR.dat U.toVals τ e _ a n c (by rw [BX hV hβ hM,←hK];exact I.mono hM)
 |.dptr e x i off,v,h=>by
  cases h with
  |dptr _ _ _ _ b o n m ks I R w hi S=>
   have d:Ac U.V (i.inst θ)=Ac W.V i:=by unfold Ac;rw [BX hV hβ hM]
   have:=@VR.dptr U.toVals τ e (x.inst θ) (i.inst θ) off b o n m ks (by rw [BX hV hβ hM,←hK];exact I.mono hM) (by rw [←hK];exact R) (by rw [d];exact w) (by rw [d];exact hi) S
   rw [d] at this;exact this
 |.asl b s n nl,v,h=>by
  have d:Ac U.V (n.inst θ)=Ac W.V n:=by unfold Ac;rw [BX hV hβ hM]
  have y:Ah U.V (nl.inst θ)=Ah W.V nl:=by unfold Ah;rw [BX hV hβ hM]
  cases h with
  |asl _ _ _ _ m base j w G z u=>
   have:=@VR.asl U.toVals τ _ s (n.inst θ) (nl.inst θ) m base (hβ _ _ j) (by rw [d];exact w) (by rw [d];exact G) z (by rw [y];exact u)
   rw [d] at this;exact this
  |aslEnd _ _ _ _ a w u=>exact @VR.aslEnd U.toVals τ _ s _ _ a (by rw [d];exact w) (by rw [y];exact u)
 |.eslc nl,v,h=>by
  have y:Ah U.V (nl.inst θ)=Ah W.V nl:=by unfold Ah;rw [BX hV hβ hM]
  cases h with
  |eslc _ a u=>exact @VR.eslc U.toVals τ _ a (by rw [y];exact u)
 |.aptr b s i off,v,h=>by
  have d:Ac U.V (i.inst θ)=Ac W.V i:=by unfold Ac;rw [BX hV hβ hM]
  cases h with
  |aptr _ _ _ _ base j w=>
   have:=@VR.aptr U.toVals τ _ s (i.inst θ) off base (hβ _ _ j) (by rw [d];exact w)
   rw [d] at this;exact this
 |.nmap b nl,v,h=>by
  have y:Ah U.V (nl.inst θ)=Ah W.V nl:=by unfold Ah;rw [BX hV hβ hM]
  cases h with
  |nmap _ _ base j u=>exact @VR.nmap U.toVals τ _ _ base (hβ _ _ j) (by rw [y];exact u)
  |nmap0 _ _ u=>exact @VR.nmap0 U.toVals τ _ _ (by rw [y];exact u)
 |.stamp b,v,h=>by
  cases h with
  |stamp _ base j=>exact @VR.stamp U.toVals τ _ base (hβ _ _ j)
 |.glob g off,v,h=>by cases h;exact @VR.glob U.toVals _ _ _
 |.fsl b o n s,v,h=>by
  cases h with
  |fsl _ _ _ _ base j z=>exact @VR.fsl U.toVals τ _ o n s base (hβ _ _ j) z
theorem Ha:∀(l:List AV) (F:List Value),@VL W.toVals σ l F→@VL U.toVals τ (@AV.instL U.toFacts θ β l) F
 |[],F,h=>by have:=VL.nil_inv (U:=W.toVals) h;subst this;exact VL.nil (U:=U.toVals) _
 |a::l,F,h=>by
  obtain ⟨v,r,rfl,D,E⟩:=VL.cons_inv (U:=W.toVals) h;exact VL.cons (U:=U.toVals) (EU a v D) (Ha l r E)
end
theorem NV:∀(l:List AA) (c:List MapEntry),@ER W.toVals σ l c→@ER U.toVals τ (@Uy U.toFacts θ β l) c
 |[],[],_=>trivial
 |a::l,e::r,h=>⟨EU hV hK hβ hM _ _ h.1,EU hV hK hβ hM _ _ h.2.1,h.2.2.1,NV l r h.2.2.2⟩
theorem Ti {x y:Am} {base:Cr} {C:Option Obj} (h:@Am.inst U.toFacts θ β x=some y) (l:@BR W.toVals σ x base C):@BR U.toVals τ y base C:=by
 unfold Am.inst at h;split at h
 ·cases h;obtain ⟨c,e,o,d,f,b3,b4,m⟩:=l;refine ⟨c,e,o,d,f,b3,b4,fun i a hi p=>?_⟩
  rw [T.get_mapA] at p;cases g:(_:T AV).get i with
  |none=>rw [g] at p;cases p
  |some a0=>
   rw [g] at p;cases p;obtain ⟨v,D,E⟩:=m i a0 hi g;exact ⟨v,D,EU hV hK hβ hM _ _ E⟩
 ·cases h;obtain ⟨ks,c,r,o,d,f,b3,b4,m⟩:=l;exact ⟨ks,c,r,o,by rw [←hK];exact d,f,b3,b4,by rw [BX hV hβ hM,←hK];exact m.mono hM⟩
 ·rename_i e x i j a;cases h;obtain ⟨ks,c,r,o,u,v,d,f,b3,b4,m,F,G,H,I⟩:=l;have ex:Ab U.V (x.inst θ)=Ab W.V x:=by rw [BX hV hβ hM]
  have s:Ac U.V (i.inst θ)=Ac W.V i:=by unfold Ac;rw [BX hV hβ hM]
  exact ⟨ks,c,r,o,u,v,by rw [←hK];exact d,f,b3,b4,by rw [ex,s,←hK];exact m.mono hM,by rw [ex,s];exact F,G,by rw [s];exact H,EU hV hK hβ hM _ _ I⟩
 ·cases h;obtain ⟨J,d,f⟩:=l;exact ⟨J,d,NV hV hK hβ hM _ _ f⟩
 ·cases h;obtain ⟨t,w,z,n,d,f,b3,b4,m⟩:=l;exact ⟨t,w,z,n,by rw [←hK];exact d,by rw [←hK];exact f,b3,by rw [BX hV hβ hM,←hK];exact b4.mono hM,m⟩
 ·cases h;exact l
 ·cases h;obtain ⟨L,A,q⟩:=l;cases L with
  |nil=>exact ⟨[],trivial,q⟩
  |cons=>exact A.elim
 ·cases h;obtain ⟨tm,M,A,q,N⟩:=l;refine ⟨tm,M,hβ _ _ A,@TR.mk U.toVals τ _ _ _ (@TR.size W.toVals σ _ _ _ q) (fun i x g=>?_),N⟩
  rw [T.get_mapA] at g;cases B:(_:T AV).get i with
  |none=>rw [B] at g;cases g
  |some a0=>
   rw [B] at g;cases g;exact EU hV hK hβ hM _ _ (@TR.get W.toVals σ _ _ _ q i a0 B)
 ·cases h
end
end Go.AE
namespace Go.AE
variable [Gl:AC]
structure Bd where
 v:T SE
 b:T Nat
 deriving Inhabited
def Bd.var (m:Bd) (e x:SE):Bd:=match e with
 |.var i=>match m.v.get i with
  |none=>{v:=m.v.set i x,b:=m.b}
  |some _=>m
 |_=>m
def Bd.blk (m:Bd) (b c:Nat):Bd:=match m.b.get b with
 |none=>{v:=m.v,b:=m.b.set b c}
 |some _=>m
mutual
def E5:AV→AV→Bd→Bd
 |.ptr b _,.ptr c _,m=>m.blk b c
 |.slice b _ _ _,.slice c _ _ _,m=>m.blk b c
 |.map b,.map c,m=>m.blk b c
 |.func (.yield l) f c,.func (.yield h) j o,m=>EC c o (EC f j (m.blk l h))
 |.func _ f c,.func _ j o,m=>EC c o (EC f j m)
 |.iface _ v,.iface _ r,m=>E5 v r m
 |.agg l,.agg h,m=>EC l h m
 |.tuple l,.tuple h,m=>EC l h m
 |.sb p e,.sb s g,m=>m.var e (match p==s with|true=>g|false=>.neg g)
 |.sb p e,.bool b,m=>m.var e (.bc (b==p))
 |.si _ e,.si _ g,m=>m.var e g
 |.si _ e,.int _ n,m=>m.var e (.c n)
 |.ss e,.ss g,m=>m.var e g
 |.ss e,.str l b,m=>m.var e (.strc l b)
 |.dat _ x,.dat _ t,m=>m.var x t
 |.dat _ x,.slice0,m=>m.var x .nilL
 |.asl b _ n nl,.asl c _ q d,m=>((m.blk b c).var n q).var nl d
 |.asl b _ n nl,.slice c _ q _,m=>((m.blk b c).var n (.c q)).var nl (.bc false)
 |.asl _ _ n nl,.slice0,m=>(m.var n (.c 0)).var nl (.bc true)
 |.asl _ _ n nl,.eslc d,m=>(m.var n (.c 0)).var nl d
 |.eslc nl,.eslc d,m=>m.var nl d
 |.eslc nl,.slice0,m=>m.var nl (.bc true)
 |.aptr b _ i _,.aptr c _ u _,m=>(m.blk b c).var i u
 |.nmap b nl,.nmap c d,m=>(m.blk b c).var nl d
 |.nmap b nl,.map c,m=>(m.blk b c).var nl (.bc false)
 |.nmap _ nl,.map0,m=>m.var nl (.bc true)
 |_,_,m=>m
termination_by structural a=>a
def EC:List AV→List AV→Bd→Bd
 |a::l,b::k,m=>EC l k (E5 a b m)
 |_,_,m=>m
termination_by structural l=>l
end
def Q2:T AV→T AV→Bd→Bd
 |.node v l r,.node c d e,m=>Q2 r e (Q2 l d (match v,c with
  |some a,some b=>E5 a b m
  |_,_=>m))
 |_,_,m=>m
def ZP:List AA→List AA→Bd→Bd
 |e::r,a::b,m=>ZP r b (E5 e.val a.val m)
 |_,_,m=>m
def U4 [Facts] (E:Env):Am→Am→Bd→Bd
 |.cells _ c,.cells _ o,m=>Q2 c o m
 |.loop _ _ _ _ t _ _ _ d,.loop _ _ _ _ p _ _ _ q,m=>Q2 t p (m.blk d q)
 |.arr _ x,.arr _ b,m=>m.var x b
 |.dmap _ _ x,.dmap _ _ b,m=>m.var x b
 |.map f _,.map g _,m=>ZP f g m
 |.hole _ x i _ a,.hole _ b r _ s,m=>E5 a s ((m.var x b).var i r)
 |.dmap k v x,.map f _,m=>match E.kinds k,E.kinds v with
  |some h,some j=>match Nf h j .emptyL f with
   |some y=>m.var x y
   |none=>m
  |_,_=>m
 |.arr e x,.cells n c,m=>match E.kinds e with
  |some ks=>match c.range 0 n with
   |some l=>match DX ks (n/ks.length) .emptyL l with
    |some y=>m.var x y
    |none=>m
   |none=>m
  |none=>m
 |_,_,m=>m
def Nd [Facts] (E:Env) (h:Aa):List (Option Am)→Nat→Bd→Bd
 |[],_,m=>m
 |none::r,i,m=>Nd E h r (i+1) m
 |some x::r,i,m=>match m.b.get i with
  |some c=>match h.blk.get c with
   |some y=>Nd E h r (i+1) (U4 E x y m)
   |none=>Nd E h r (i+1) m
  |none=>Nd E h r (i+1) m
def HD [Facts] (E:Env) (l:List (Option Am)) (h:Aa) (m:Bd):Bd:=match l with
 |[]=>m
 |[_]=>m
 |_=>Nd E h l 0 (Nd E h l 0 (Nd E h l 0 m))
def AN [Facts] (E:Env):List (Option Am)→Nat→Bd→Aa→Bd×Aa
 |[],_,m,h=>(m,h)
 |none::r,i,m,h=>match m.b.get i with
  |some _=>AN E r (i+1) m h
  |none=>AN E r (i+1) (m.blk i h.nx) {h with nx:=h.nx+1}
 |some x::r,i,m,h=>match m.b.get i with
  |some c=>match h.blk.get c with
   |some y=>AN E r (i+1) (U4 E x y m) h
   |none=>AN E r (i+1) m h
  |none=>match x with
   |.arr e y=>AN E r (i+1) ((m.blk i h.nx).var y .nilL) (h.new (.arr e .nilL))
   |.dmap k v y=>AN E r (i+1) ((m.blk i h.nx).var y .emptyL) (h.new (.dmap k v .emptyL))
   |_=>AN E r (i+1) m h
def Iy (t:T SE):Nat→Nat→List SE
 |_,0=>[]
 |i,n+1=>(match t.get i with|some x=>x|none=>.c 0)::Iy t (i+1) n
def Ja (t:T Nat):Nat→Nat→List Nat
 |_,0=>[]
 |i,n+1=>(match t.get i with|some x=>x|none=>0)::Ja t (i+1) n
def NO (n:Nat):List Nat→Bool
 |[]=>true
 |b::r=>Nat.blt b n&&NO n r
def Dl (nx:Nat):Nat→List Nat
 |0=>[]
 |m+1=>nx::Dl (nx+1) m
def I1 [U:Facts] (a:List SE):List (SB×Bool)→Bool
 |[]=>true
 | (e,b)::r=>(match AO U.facts (e.inst a) with
  |some c=>c==b
  |none=>false)&&I1 a r
def D7 [Facts] (a:List SE) (c:List Nat):List (Option Am)→List Nat→T Am→Option (T Am)
 |[],[],t=>some t
 |none::r,b::d,t=>D7 a c r d (t.del b)
 |some x::r,b::d,t=>match x.inst a c with
  |some y=>D7 a c r d (t.set b y)
  |none=>none
 |_,_,_=>none
def Qj:Option Obs→Bool
 |some []=>true
 |_=>false
def V3 [Facts]:Obs→Bool
 |[]=>true
 | (a,.bc true)::r=>a.isB&&Nl a&&V3 r
 |_=>false
def JV [Facts]:Option Obs→Bool
 |some o=>V3 o
 |none=>false
theorem Zn {U:Unk}:∀{o:Obs},@V3 U.toFacts o=true→o.holds U.V:=by
 intro o
 induction o with
 |nil=>intro _ a b d;cases d
 |cons p r ih=>
  intro h;unfold V3 at h;split at h
  ·rename_i c;cases c
  ·rename_i x g c;cases c;simp only [F4] at h;intro a b d;rcases gk.1 d with q|q
   ·cases q;have e:=h.1.2;unfold Nl at e;split at e
    ·rename_i f;have:=Av U.ok f;rw [Pa U.V h.1.1];show D.bool (Ah U.V x)=_;rw [this];rfl
    ·cases e
   ·exact ih h.2 a b q
  ·cases h
theorem Ol {U:Unk} {o:Option Obs} (h:@JV U.toFacts o=true):∃l,o=some l∧l.holds U.V:=by
 unfold JV at h;split at h
 ·exact ⟨_,rfl,Zn h⟩
 ·cases h
def WE (a new:T Am):List Nat→List Nat
 |[]=>[]
 |b::r=>match eqO Vu (a.get b) (new.get b) with
  |true=>WE a new r
  |false=>b::WE a new r
theorem PW {a new:T Am}:∀{l:List Nat} {b:Nat},b∈l→b∉WE a new l→new.get b=a.get b
 |c::r,b,h,d=>by
  simp only [WE] at d;split at d
  ·rename_i e;rcases gk.1 h with q|q
   ·subst q;exact (XW (fun _ _=>QZ) e).symm
   ·exact PW q d
  ·rcases gk.1 h with q|q
   ·subst q;exact absurd (by simp) d
   ·exact PW q (fun c=>d (by simp [c]))
def Td [Facts] (E:Env) (s:Sm) (b:List SE) (a:List Nat) (args:List AV) (h:Aa):Option (AV×Aa):=
 match JV (Gm b a s.args args)&&JV (EA E b a h s.pre a)&&Fe a&&NO h.nx a&&I1 b s.facts&&Nat.ble s.pre.length s.post.length with
 |true=>
  match D7 b (a++Dl h.nx (s.post.length-s.pre.length)) s.post (a++Dl h.nx (s.post.length-s.pre.length)) h.blk with
  |some t=>some (s.res.inst b (a++Dl h.nx (s.post.length-s.pre.length)),{blk:=t,nx:=h.nx+(s.post.length-s.pre.length),log:=WE h.blk t a++h.log})
  |none=>none
 |false=>none
def oB:AV→Kd
 |.dat e _=>.slice e
 |_=>.bool
def QJ [Facts] (E:Env) (p a:AV) (h:Aa):AV×Aa:=
 match p,a with
 |.agg c,.agg d=>match HA E (c.map oB) d h with
  | (b,e)=>(.agg b,e)
 |p,a=>Kl E (oB p) a h
def Rl [Facts] (E:Env):List AV→List AV→Aa→List AV×Aa
 |p::b,a::l,h=>match QJ E p a h with
  | (c,d)=>match Rl E b l d with
   | (e,f)=>(c::e,f)
 |_,l,h=>(l,h)
def DF [Facts] (E:Env):List (Option Am)→Nat→T Nat→Aa→Aa
 |[],_,_,h=>h
 |some (.arr e _)::r,i,b,h=>match b.get i,E.kinds e with
  |some c,some ks=>match Fg ks with
   |true=>match h.blk.get c with
    |some (.cells _ _)=>DF E r (i+1) b (H6 E e c h)
    |some (.hole _ _ _ _ _)=>DF E r (i+1) b (Kh E c h)
    |_=>DF E r (i+1) b h
   |false=>DF E r (i+1) b h
  |_,_=>DF E r (i+1) b h
 |some (.cells n a)::r,i,b,h=>match b.get i,a.range 0 n with
  |some c,some l=>match Fg (Oj l) with
   |true=>DF E r (i+1) b (Em E (Oj l) c h)
   |false=>DF E r (i+1) b h
  |_,_=>DF E r (i+1) b h
 |_::r,i,b,h=>DF E r (i+1) b h
def Q9 [Facts] (E:Env) (s:Sm) (args:List AV) (h:Aa):List AV×Aa:=match Rl E s.args args h with
 | (args,h)=>(args,DF E s.pre 0 (HD E s.pre h (EC s.args args ⟨.nil,.nil⟩)).b h)
def S6:AV→Bool
 |.bool _=>true
 |.int _ _=>true
 |.str _ _=>true
 |.sb _ _=>true
 |.si _ _=>true
 |.ss _=>true
 |_=>false
def PS:AV→Bool
 |.tuple l=>l.all S6
 |a=>S6 a
def fO (s:Sm) (h:Aa) (r:AV×Aa):AV×Aa:=match s.pre,s.post,PS r.1 with
 |[],[],true=>(r.1,h)
 |_,_,_=>r
def XU [Facts] (E:Env) (s:Sm) (args:List AV) (a:Aa):Option (AV×Aa):=
 match Q9 E s args a with
 | (args,h)=>match AN E s.pre 0 (HD E s.pre h (EC s.args args ⟨.nil,.nil⟩)) h with
  | (m,c)=>match Td E s (Iy m.v 0 s.nv) (Ja m.b 0 s.pre.length) args c with
   |some r=>some (fO s a r)
   |none=>none
def Mu [Facts] (E:Env):List Sm→FuncId→List AV→Aa→Option (Bool×AV×Aa)
 |[],_,_,_=>none
 |s::r,f,args,h=>match Nat.beq s.f f with
  |true=>match XU E s args h with
   |some (v,g)=>some (s.ok,v,g)
   |none=>Mu E r f args h
  |false=>Mu E r f args h
def Sm.Valid (P:Program) (F:Nat→D→D) (s:Sm):Prop:=
 ∀[U:Unk],U.K=(Env.of P).kinds→U.V.fn=F→(∀e b,(e,b)∈s.facts→Ah U.V e=b)→∀(r:Ren) (w:World) (l:List Value),VL r s.args l→HR r (Bb s.pre).get w→(∀b,s.pre.length≤b→r b=none)→
  ∀(c0:Frame) (base:List Frame),∃t J I,BJ P (lone (Frame.enter P s.f l.toArray .normal) (c0::base) w) c0 base s.ok J I∧VR t s.res J∧HR t (Bb s.post).get I∧
   Ext r t {blk:=Bb s.pre,nx:=s.pre.length,log:=[]} {blk:=Bb s.post,nx:=s.post.length,log:=List.range s.pre.length} w I
theorem NR {o:Option Obs} (h:Qj o=true):o=some []:=by
 unfold Qj at h;split at h
 ·rfl
 ·cases h
theorem L6:∀(m nx i:Nat),(Dl nx m)[i]?=if i<m then some (nx+i) else none
 |0,nx,i=>by simp [Dl]
 |m+1,nx,i=>by
  cases i with
  |zero=>simp [Dl]
  |succ i=>
   simp only [Dl,eq,L6 m (nx+1) i];by_cases c:i<m
   ·rw [if_pos c,if_pos (by omega)];congr 1;omega
   ·rw [if_neg c,if_neg (by omega)]
theorem MB {n:Nat}:∀{l:List Nat},NO n l=true→∀b∈l,b<n
 |[],_,b,a=>by cases a
 |c::r,h,b,a=>by
  simp only [NO,F4] at h;rcases gk.1 a with rfl|a
  ·simpa [Nat.blt_eq] using h.1
  ·exact MB h.2 b a
theorem B3 {U:Unk} {f:List SE}:∀{l:List (SB×Bool)},@I1 U.toFacts f l=true→∀e b,(e,b)∈l→Ah (U.V.inst f) e=b
 |[],_,e,b,h=>by cases h
 | (x,c)::r,h,e,b,g=>by
  simp only [I1,F4] at h;rcases gk.1 g with q|q
  ·cases q;have a:=h.1;split at a
   ·rename_i d i;have:=@Av _ U U.V _ U.ok _ _ i;rw [Ft] at this;rw [this];exact eq_of_beq a
   ·cases a
  ·exact B3 h.2 e b q
theorem Th [Facts] {q:List SE} {s:List Nat}:∀(l:List (Option Am)) (d:List Nat) (t f:T Am),D7 q s l d t=some f→(∀(i j b:Nat),d[i]?=some b→d[j]?=some b→i=j)→
  (∀c,c∉d→f.get c=t.get c)∧∀(i c:Nat),d[i]?=some c→(l[i]?=some none∧f.get c=none)∨∃(x y:Am),l[i]?=some (some x)∧x.inst q s=some y∧f.get c=some y:=by
 intro l
 induction l with
 |nil=>
  intro d t f h m;cases d with
  |nil=>simp only [D7,C2] at h;subst h;exact ⟨fun _ _=>rfl,fun i c a=>by simp at a⟩
  |cons=>cases h
 |cons o r ih=>
  intro d t f h m;cases d with
  |nil=>cases o<;>cases h
  |cons b d=>
   have u:b∉d:=by
    intro v;obtain ⟨j,n,e⟩:=ud v;have:=m 0 (j+1) b rfl (by simp [n,e])
    omega
   have g:∀(i j b:Nat),d[i]?=some b→d[j]?=some b→i=j:=fun i j c hi n=>by
    have:=m (i+1) (j+1) c (by simpa using hi) (by simpa using n)
    omega
   cases o with
   |none=>
    simp only [D7] at h;obtain ⟨k,p⟩:=ih d _ f h g;refine ⟨fun c a=>?_,fun i c a=>?_⟩
    ·simp only [gk,not_or] at a;rw [k c a.2,T.get_del,if_neg (fun e=>a.1 e.symm)]
    ·cases i with
     |zero=>
      simp only [No,C2] at a;subst a;exact .inl ⟨rfl,by rw [k _ u,T.get_del,if_pos rfl]⟩
     |succ i=>
      simp only [eq] at a ⊢;exact p i c a
   |some x=>
    simp only [D7] at h;split at h
    ·rename_i y w;obtain ⟨k,p⟩:=ih d _ f h g;refine ⟨fun c a=>?_,fun i c a=>?_⟩
     ·simp only [gk,not_or] at a;rw [k c a.2,T.get_set,if_neg (fun e=>a.1 e.symm)]
     ·cases i with
      |zero=>
       simp only [No,C2] at a;subst a;exact .inr ⟨x,y,rfl,w,by rw [k _ u,T.get_set,if_pos rfl]⟩
      |succ i=>
       simp only [eq] at a ⊢;exact p i c a
    ·cases h
@[reducible] def CD (U:Unk) (F:List (SB×Bool)) (a:List SE) (h:∀e b,(e,b)∈F→Ah (U.V.inst a) e=b):Unk:={facts:=F,V:=U.V.inst a,K:=U.K,R:=[],hR:=fun _ _ _ _ _ h=>(by cases h),ok:=h}
theorem Vf {U:Unk} {E:Env} {FF:List (SB×Bool)} {C:List SE} {r:List Nat} (z:∀e b,(e,b)∈FF→Ah (U.V.inst C) e=b) {pre post:List (Option Am)} {res:AV} {o:Obs} {h:Aa} {t:T Am} {ρ X:Ren} {w w':World} {v':Value} {p A:Nat} (ap:pre.length=p) (aq:post.length=A)
  (ah:EA E C r h pre r=some o) (ai:o.holds U.V) (ar:Fe r=true) (Z:∀b∈r,b<h.nx) (a0:p≤A) (ht:D7 C (r++Dl h.nx (A-p)) post (r++Dl h.nx (A-p)) h.blk=some t)
  (hr:HR ρ h.blk.get w) (as:∀b,h.nx≤b→h.blk.get b=none) (ad:AX ρ h.nx (h.nx+(A-p)))
  (q2:@VR (CD U FF C z).toVals X res v') (q3:@HR _ (CD U FF C z).toVals X (Bb post).get w') (N:Ext (ρ.back r) X {blk:=Bb pre,nx:=pre.length,log:=[]} {blk:=Bb post,nx:=post.length,log:=List.range pre.length} w w') :
  ∃J,VR J (res.inst C (r++Dl h.nx (A-p))) v'∧HR J t.get w'∧Ext ρ J h {blk:=t,nx:=h.nx+(A-p),log:=r++h.log} w w':=by
 have hV:(CD U FF C z).V=U.V.inst C:=rfl;have hK:(CD U FF C z).K=U.K:=rfl;have a5:pre.length=r.length:=(Dk (U:=U) (W:=CD U FF C z) hV hK pre r o ah ai).1;have aj:=(Dk (U:=U) (W:=CD U FF C z) hV hK pre r o ah ai).2
 have P:∀b,pre.length≤b→(ρ.back r).m b=none:=by
  intro b F;have:r[b]?=none:=s0 (by omega)
  simp [Ren.back,this]
 have au:r.length=p:=by omega
 have gb:∀(i:Nat),(r++Dl h.nx (A-p))[i]?=if i<p then r[i]? else if i<A then some (h.nx+(i-p)) else none:=by
  intro i;by_cases c:i<p
  ·rw [if_pos c,R2 (by omega)]
  ·rw [if_neg c,Ts (by omega),L6,au]
   by_cases c2:i<A
   ·rw [if_pos c2,if_pos (by omega)]
   ·rw [if_neg c2,if_neg (by omega)]
 have ae:∀(i j b:Nat),(r++Dl h.nx (A-p))[i]?=some b→(r++Dl h.nx (A-p))[j]?=some b→i=j:=by
  intro i j b hi M;rw [gb] at hi M;by_cases c:i<p
  ·rw [if_pos c] at hi;have:=Z b (rc hi);by_cases d:j<p
   ·rw [if_pos d] at M;exact Oe ar hi M
   ·rw [if_neg d] at M;split at M
    ·cases M;omega
    ·cases M
  ·rw [if_neg c] at hi;split at hi
   ·cases hi;by_cases d:j<p
    ·rw [if_pos d] at M;have:=Z _ (rc M);omega
    ·rw [if_neg d] at M;split at M
     ·simp only [C2] at M;omega
     ·cases M
   ·cases hi
 obtain ⟨t1,t2⟩:=@Th _ U.toFacts C _ _ _ _ _ ht ae
 let J:Ren:=⟨fun c=>if h.nx≤c∧c<h.nx+(A-p) then X (p+(c-h.nx)) else ρ c,X.imm⟩
 have u:∀c,c<h.nx→J c=ρ c:=fun c n=>by show (if _ then _ else _)=_;rw [if_neg (by omega)]
 have Q:∀i,p≤i→i<A→J (h.nx+(i-p))=X i:=fun i h1 h2=>by
  show (if _ then _ else _)=_
  rw [if_pos (by omega)];congr 1;omega
 have ac:=N.le
 have back:∀b base,(ρ.back r).m b=some base→∃c,r[b]?=some c∧ρ c=some base:=by
  intro b base F;simp only [Ren.back] at F;cases n:r[b]? with
  |none=>rw [n] at F;cases F
  |some c=>rw [n] at F;exact ⟨c,rfl,F⟩
 have s:∀b,(Bb pre).get b≠none→∃c y,r[b]?=some c∧h.blk.get c=some y:=by
  intro b F;rw [Cp] at F;cases hx:pre[b]? with
  |none=>rw [hx] at F;exact absurd rfl F
  |some ox=>
   cases ox with
   |none=>rw [hx] at F;exact absurd rfl F
   |some x=>
    obtain ⟨c,y,o',a1,a2,a3,a4⟩:=aj b x hx;exact ⟨c,y,a1,a2⟩
 have af:ρ.le J:=by
  refine ⟨fun c base n=>?_,fun k a L=>ac.imm k a L⟩
  show (if _ then _ else _)=_
  rw [if_neg ?_]
  ·exact n
  ·intro ak;rw [ad c ak.1 ak.2] at n;cases n
 have al:∀b base,X b=some base→J ((r++Dl h.nx (A-p)).getD b 0)=some base:=by
  intro b g F;rcases N.new b g F with hq|⟨a1,a2,_⟩
  ·obtain ⟨c,c1,c2⟩:=back b g hq;have am:b<p:=by have:=(Id.1 c1).1;omega
   have e:(r++Dl h.nx (A-p)).getD b 0=c:=by rw [F2,gb,if_pos am,c1];rfl
   rw [e,u c (Z c (rc c1))];exact c2
  ·simp only [ap,aq] at a1 a2;have e:(r++Dl h.nx (A-p)).getD b 0=h.nx+(b-p):=by rw [F2,gb,if_neg (by omega),if_pos a2];rfl
   rw [e,Q b a1 a2];exact F
 have kinds:∀c y,t.get c=some y→(∃i x,(r++Dl h.nx (A-p))[i]?=some c∧(Bb post).get i=some x∧@Am.inst U.toFacts C (r++Dl h.nx (A-p)) x=some y)∨(c∉r∧c<h.nx∧h.blk.get c=some y):=by
  intro c y G;by_cases hm:c∈r++Dl h.nx (A-p)
  ·obtain ⟨i,hi,e⟩:=ud hm;have an:(r++Dl h.nx (A-p))[i]?=some c:=Id.2 ⟨hi,e⟩;rcases t2 i c an with ⟨_,q⟩|⟨x,y',a1,a2,a3⟩
   ·rw [q] at G;cases G
   ·rw [a3] at G;cases G;exact .inl ⟨i,x,an,by rw [Cp,a1];rfl,a2⟩
  ·rw [t1 c hm] at G;refine .inr ⟨fun e=>hm (List.mem_append_left _ e),?_,G⟩
   rcases gg c h.nx with q|q
   ·exact q
   ·rw [as c q] at G;cases G
 have v:∀i c g,(r++Dl h.nx (A-p))[i]?=some c→J c=some g→X i=some g:=by
  intro i c g hi n;rw [gb] at hi;by_cases d:i<p
  ·rw [if_pos d] at hi;rw [u c (Z c (rc hi))] at n;exact ac.m i g (by show (r[i]?).bind ρ.m=some g;rw [hi];exact n)
  ·rw [if_neg d] at hi;split at hi
   ·rename_i d2;cases hi;rw [Q i (by omega) d2] at n;exact n
   ·cases hi
 have H:∀D f c g y,(ρ.back r).m D=some f→(Bb pre).get D≠none→c∉r→ρ c=some g→h.blk.get c=some y→f.cb≠g.cb:=by
  intro D f c g y h1 h2 h3 h4 h5;obtain ⟨c1,O,R⟩:=back D f h1;obtain ⟨c2,y2,Y,e4⟩:=s D h2;rw [O] at Y;cases Y;exact hr.apart c1 c f g (fun e=>h3 (e▸rc O)) R h4 (by rw [e4];exact F0 _) (by rw [h5];exact F0 _)
 have mixed:∀i c g I B y' x,(r++Dl h.nx (A-p))[i]?=some c→(Bb post).get i=some x→J c=some g→I∉r→I<h.nx→h.blk.get I=some y'→J I=some B→g.cb≠B.cb:=by
  intro i c g I B y' x hi hx n h3 h4 h5 h6;rw [u I h4] at h6;have av:=v i c g hi n;rcases N.new i g av with hq|⟨a1,a2,a3|⟨D,f,O,R,Y⟩⟩
  ·rcases N.live i (by show (Bb post).get i≠none;rw [hx];exact F0 _) with l|⟨l1,l2⟩
   ·exact H i g I B y' hq l h3 h6 h5
   ·simp only at l1;rw [P i l1] at hq;cases hq
  ·have:=hr.lt I B h6;omega
  ·rw [←Y];exact H D f I B y' O R h3 h6 h5
 refine ⟨J,EU (U:=U) (W:=CD U FF C z) hV hK al (fun k a L=>L) res v' q2,⟨?_,?_,?_,?_,?_,hr.glob.mono af.imm⟩,⟨af,by show h.nx≤h.nx+_;omega,?_,N.calm,?_,⟨r,rfl,?_⟩,?_,?_⟩⟩
 ·intro c g n;by_cases d:h.nx≤c∧c<h.nx+(A-p)
  ·have:J c=X (p+(c-h.nx)):=by show (if _ then _ else _)=_;rw [if_pos d]
   rw [this] at n;exact HR.lt (U:=(CD U FF C z).toVals) q3 _ g n
  ·have:J c=ρ c:=by show (if _ then _ else _)=_;rw [if_neg d]
   rw [this] at n;have:=hr.lt c g n;have:=N.calm.size;omega
 ·intro c g y n G;rcases kinds c y G with ⟨i,x,a1,a2,a3⟩|⟨a1,a2,a3⟩
  ·exact Ti (U:=U) (W:=CD U FF C z) hV hK al (fun k a L=>L) a3 (HR.blk (U:=(CD U FF C z).toVals) q3 i g x (v i c g a1 n) a2)
  ·rw [u c a2] at n;have L:=N.kept g.cb (hr.lt c g n) (fun D f aw ax=>H D f c g y aw ax a1 n a3)
   rw [L];exact (hr.blk c g y n a3).mono af
 ·intro c I g B ao n S h1 h2;cases G:t.get c with
  |none=>exact absurd G h1
  |some y=>
   cases ag:t.get I with
   |none=>exact absurd ag h2
   |some y'=>
    rcases kinds c y G with ⟨i,x,a1,a2,a3⟩|⟨a1,a2,a3⟩
    ·rcases kinds I y' ag with ⟨i',x',b1,b2,b3⟩|⟨b1,b2,b3⟩
     ·exact HR.apart (U:=(CD U FF C z).toVals) q3 i i' g B (fun e=>by subst e;rw [a1] at b1;cases b1;exact ao rfl) (v i c g a1 n) (v i' I B b1 S) (by rw [a2];exact F0 _) (by rw [b2];exact F0 _)
     ·exact mixed i c g I B y' x a1 a2 n b1 b2 b3 S
    ·rcases kinds I y' ag with ⟨i',x',b1,b2,b3⟩|⟨b1,b2,b3⟩
     ·exact (mixed i' I B c g y x' b1 b2 S a1 a2 a3 n).symm
     ·rw [u c a2] at n;rw [u I b2] at S;exact hr.apart c I g B ao n S (by rw [a3];exact F0 _) (by rw [b3];exact F0 _)
 ·intro k arr L;exact HR.imm (U:=(CD U FF C z).toVals) q3 k arr L
 ·intro k arr c g L n hl;cases G:t.get c with
  |none=>exact absurd G hl
  |some y=>
   rcases kinds c y G with ⟨i,x,a1,a2,a3⟩|⟨a1,a2,a3⟩
   ·exact HR.off (U:=(CD U FF C z).toVals) q3 k arr i g L (v i c g a1 n) (by rw [a2];exact F0 _)
   ·rw [u c a2] at n;have ay:h.blk.get c≠none:=by rw [a3];exact F0 _
    rcases N.imm k arr L with e|e|⟨D,f,O,R,Y⟩
    ·exact hr.off k arr c g e n ay
    ·have:=hr.lt c g n;omega
    ·rw [←Y];exact (H D f c g y O R a1 n a3).symm
 ·intro c g n;by_cases d:h.nx≤c∧c<h.nx+(A-p)
  ·have e:J c=X (p+(c-h.nx)):=by show (if _ then _ else _)=_;rw [if_pos d]
   rw [e] at n;refine .inr ⟨d.1,d.2,?_⟩;rcases N.new _ g n with hq|⟨_,_,a3|⟨D,f,O,R,Y⟩⟩
   ·rw [P _ (by omega)] at hq;cases hq
   ·exact .inl a3
   ·obtain ⟨c1,x1,x2⟩:=back D f O;obtain ⟨c2,y2,x3,x4⟩:=s D R;rw [x1] at x3;cases x3;exact .inr ⟨c1,f,x2,by rw [x4];exact F0 _,Y⟩
  ·have e:J c=ρ c:=by show (if _ then _ else _)=_;rw [if_neg d]
   rw [e] at n;exact .inl n
 ·intro k L az;refine N.kept k L (fun D f O R=>?_)
  obtain ⟨c1,x1,x2⟩:=back D f O;obtain ⟨c2,y2,x3,x4⟩:=s D R;rw [x1] at x3;cases x3;exact az c1 f x2 (by rw [x4];exact F0 _)
 ·intro b F aa;refine t1 b (fun hm=>?_)
  rcases ue.1 hm with q|q
  ·exact F q
  ·obtain ⟨i,hi,e⟩:=ud q;have ab:(Dl h.nx (A-p))[i]?=some b:=by simp [hi,e]
   rw [L6] at ab;split at ab
   ·cases ab;simp only at aa;omega
   ·cases ab
 ·intro b F;show h.blk.get b≠none∨(h.nx≤b∧b<h.nx+(A-p));cases G:t.get b with
  |none=>exact absurd G F
  |some y=>
   rcases kinds b y G with ⟨i,x,a1,a2,a3⟩|⟨a1,a2,a3⟩
   ·rw [gb] at a1;by_cases d:i<p
    ·rw [if_pos d] at a1;rcases N.live i (by show (Bb post).get i≠none;rw [a2];exact F0 _) with l|⟨l1,_⟩
     ·obtain ⟨c2,y2,x3,x4⟩:=s i l;rw [a1] at x3;cases x3;exact .inl (by rw [x4];exact F0 _)
     ·simp only at l1;omega
    ·rw [if_neg d] at a1;split at a1
     ·cases a1;exact .inr (by omega)
     ·cases a1
   ·exact .inl (by rw [a3];exact F0 _)
 ·intro k arr L;rcases N.imm k arr L with e|e|⟨D,f,O,R,Y⟩
  ·exact .inl e
  ·exact .inr (.inl e)
  ·obtain ⟨c1,x1,x2⟩:=back D f O;obtain ⟨c2,y2,x3,x4⟩:=s D R;rw [x1] at x3;cases x3;exact .inr (.inr ⟨c1,f,x2,by rw [x4];exact F0 _,Y⟩)
theorem Wb {U:Unk} {E:Env} (hE:OK E) {F:Nat→D→D} (M:U.V.fn=F) {s:Sm} (N:s.Valid E.P F) {j:List SE} {g:List Nat} {args:List AV} {a:List Value} {h h':Aa} {v:AV} {u:Ren} {w:World}
  (k:Td E s j g args h=some (v,h')) (O:VL u args a) (A:HR u h.blk.get w) (C:∀b,h.nx≤b→h.blk.get b=none) (n:AX u h.nx h'.nx) (c0:Frame) (base:List Frame) :
  ∃x B y,BJ E.P (lone (Frame.enter E.P s.f a.toArray .normal) (c0::base) w) c0 base s.ok B y∧VR x v B∧HR x h'.blk.get y∧Ext u x h h' w y:=by
 unfold Td at k;split at k
 ·rename_i i;split at k
  ·rename_i t Q;simp only [C2,hS] at k;obtain ⟨rfl,rfl⟩:=k;obtain ⟨i,d⟩:=Au i;obtain ⟨i,c⟩:=Au i;obtain ⟨i,o⟩:=Au i;obtain ⟨i,z⟩:=Au i;obtain ⟨p,e⟩:=Au i;obtain ⟨l1,p,G⟩:=Ol p;obtain ⟨l2,e,q⟩:=Ol e;have d:=C8 d;have o:=MB o;have hV:(CD U s.facts j (B3 c)).V=U.V.inst j:=rfl;have hK:(CD U s.facts j (B3 c)).K=U.K:=rfl;have R:s.pre.length=g.length:=(Dk (U:=U) (W:=CD U s.facts j (B3 c)) hV hK s.pre g _ e q).1;have p1:=DI (U:=U) (W:=CD U s.facts j (B3 c)) hV hK s.args args _ a p G O;have p2:=HR.toPat (U:=U) (W:=CD U s.facts j (B3 c)) hV hK hE A e q z
   have r:∀b,s.pre.length≤b→(u.back g).m b=none:=by
    intro b I;have:g[b]?=none:=s0 (by omega)
    simp [Ren.back,this]
   obtain ⟨σ,B,y,S,T,X,Y⟩:=N (U:=CD U s.facts j (B3 c)) hE.kd M (B3 c) (u.back g) w a p1 p2 r c0 base;obtain ⟨x,Z,r2,J⟩:=Vf (U:=U) (E:=E) (FF:=s.facts) (B3 c) rfl rfl e q z o d Q A C n T X Y;refine ⟨x,B,y,S,Z,r2,{J with log:=⟨WE h.blk t g,rfl,fun b I A=>?_⟩}⟩
   by_cases L:b∈g
   ·exact PW L I
   ·obtain ⟨l,H,e2⟩:=J.log;have H:g++h.log=l++h.log:=H;have:=List.append_cancel_right H;subst this;exact e2 b L A
  ·cases k
 ·cases k
theorem Bu [Facts] {E:Env}:∀(l:List (Option Am)) (i:Nat) (m:Bd) (h:Aa),h.nx≤(AN E l i m h).2.nx
 |[],_,_,_=>IqQ _
 |none::r,i,m,h=>by
  simp only [AN];split
  ·exact Bu r (i+1) m h
  ·exact l8 (Nat.le_succ _) (Bu (E:=E) r (i+1) (m.blk i h.nx) {h with nx:=h.nx+1})
 |some x::r,i,m,h=>by
  simp only [AN];split
  ·split
   ·exact Bu r (i+1) _ h
   ·exact Bu r (i+1) _ h
  ·split
   ·rename_i e y;have:=Bu (E:=E) r (i+1) ((m.blk i h.nx).var y .nilL) (h.new (.arr e .nilL));exact l8 (Nat.le_succ _) this
   ·rename_i k v y;have:=Bu (E:=E) r (i+1) ((m.blk i h.nx).var y .emptyL) (h.new (.dmap k v .emptyL));exact l8 (Nat.le_succ _) this
   ·exact Bu r (i+1) _ h
theorem Bs {U:Unk} {E:Env} {ρ:Ren} {w:World}:∀(l:List (Option Am)) (i:Nat) (m:Bd) (h:Aa),HR ρ h.blk.get w→WF h→AX ρ h.nx (AN E l i m h).2.nx→
  HR ρ (AN E l i m h).2.blk.get w∧Ext ρ ρ h (AN E l i m h).2 w w∧WF (AN E l i m h).2
 |[],_,_,h,c,a,_=>⟨c,Ext.refl _ _ _,a⟩
 |none::r,i,m,h,c,a,b=>by
  simp only [AN] at b ⊢;split at b
  ·exact Bs r (i+1) m h c a b
  ·have o:=Bu (E:=E) r (i+1) (m.blk i h.nx) {h with nx:=h.nx+1}
   have j:Ext ρ ρ h {h with nx:=h.nx+1} w w:=⟨Ren.le_refl ρ,Nat.le_succ _,fun _ _ e=>.inl e,G8.refl w,fun _ _ _=>rfl,⟨[],rfl,fun _ _ _=>rfl⟩,fun _ e=>.inl e,fun _ _ e=>.inl e⟩
   obtain ⟨d,f,g⟩:=Bs r (i+1) (m.blk i h.nx) {h with nx:=h.nx+1} c (j.wf a) (j.free b)
   exact ⟨d,j.trans f b,g⟩
 |some x::r,i,m,h,c,a,b=>by
  simp only [AN] at b ⊢;split at b
  ·split at b
   ·exact Bs r (i+1) _ h c a b
   ·exact Bs r (i+1) _ h c a b
  ·split at b
   ·rename_i e y;have o:=Bu (E:=E) r (i+1) ((m.blk i h.nx).var y .nilL) (h.new (.arr e .nilL));have n:(h.new (.arr e .nilL)).nx=h.nx+1:=rfl;obtain ⟨p1,p2⟩:=HR.phantom c (b h.nx (IqQ _) (by omega)) (.arr e .nilL)
    obtain ⟨d,f,g⟩:=Bs r (i+1) _ _ p1 (p2.wf a) (p2.free b);exact ⟨d,p2.trans f b,g⟩
   ·rename_i k v y;have o:=Bu (E:=E) r (i+1) ((m.blk i h.nx).var y .emptyL) (h.new (.dmap k v .emptyL));have n:(h.new (.dmap k v .emptyL)).nx=h.nx+1:=rfl;obtain ⟨p1,p2⟩:=HR.phantom c (b h.nx (IqQ _) (by omega)) (.dmap k v .emptyL)
    obtain ⟨d,f,g⟩:=Bs r (i+1) _ _ p1 (p2.wf a) (p2.free b);exact ⟨d,p2.trans f b,g⟩
   ·exact Bs r (i+1) _ h c a b
theorem Re {U:Unk} {E:Env} (hE:OK E) {w:World} {p a f:AV} {v:Value} {d:Ren} {h h':Aa} (g:HR d h.blk.get w) (i:VR d a v) (b:QJ E p a h=(f,h')) :
  h'.nx=h.nx∧∃c:Ren,VR c f v∧HR c h'.blk.get w∧Ext d c h h' w w:=by
 unfold QJ at b;split at b
 ·rename_i s t;split at b;rename_i e u k;cases b;cases i with
  |agg _ l m n=>
   obtain ⟨o,c,j,q,r⟩:=LD hE g ⟨m,n⟩ k;exact ⟨o,c,.agg e l j.1 j.2,q,r⟩
 ·exact ⟨PN b,JI hE g i b⟩
theorem P6 {U:Unk} {E:Env} (hE:OK E) {w:World}:∀{q l e:List AV} {f:List Value} {d:Ren} {h h':Aa},HR d h.blk.get w→VL d l f→Rl E q l h=(e,h')→
  h'.nx=h.nx∧∃j:Ren,VL j e f∧HR j h'.blk.get w∧Ext d j h h' w w
 |[],l,e,f,d,h,h',g,i,c=>by
  cases l<;>(simp only [Rl] at c;cases c;exact ⟨rfl,d,i,g,Ext.refl _ _ _⟩)
 |k::ks,[],e,f,d,h,h',g,i,c=>by
  simp only [Rl] at c;cases c;exact ⟨rfl,d,i,g,Ext.refl _ _ _⟩
 |k::ks,a::l,e,f,d,h,h',g,i,c=>by
  obtain ⟨v,r,rfl,s,t⟩:=i.cons_inv;simp only [Rl] at c;generalize m:QJ E k a h=p1 at c;obtain ⟨a1,u⟩:=p1;simp only at c;generalize n:Rl E ks l u=p2 at c;obtain ⟨G,H⟩:=p2;simp only at c;cases c;obtain ⟨x,j,y,z,o⟩:=Re hE g s m;obtain ⟨A,B,C,D,p⟩:=P6 hE z (t.mono o.le) n;refine ⟨by omega,B,VL.cons (y.mono p.le) C,D,o.trans p (fun b I F=>by omega)⟩
theorem Bm {U:Unk} {E:Env} (hE:OK E) {w:World}:∀(l:List (Option Am)) (i:Nat) (b:T Nat) (h:Aa) (a:Ren),HR a h.blk.get w→(DF E l i b h).nx=h.nx∧∃g:Ren,HR g (DF E l i b h).blk.get w∧Ext a g h (DF E l i b h) w w
 |[],_,_,h,a,f=>⟨rfl,a,f,Ext.refl _ _ _⟩
 |some (.arr e x)::r,i,b,h,a,f=>by
  have next:=Bm hE r (i+1) b h a f;simp only [DF];split
  ·rename_i c ks q y;split
   ·split
    ·obtain ⟨s,g,j,k⟩:=OU (e:=e) (b:=c) hE f;obtain ⟨t,m,o,p⟩:=Bm hE r (i+1) b (H6 E e c h) g j;exact ⟨by omega,m,o,k.trans p (fun d u v=>by omega)⟩
    ·obtain ⟨s,g,j,k⟩:=W8 (b:=c) hE f;obtain ⟨t,m,o,p⟩:=Bm hE r (i+1) b (Kh E c h) g j;exact ⟨by omega,m,o,k.trans p (fun d u v=>by omega)⟩
    ·exact next
   ·exact next
  ·exact next
 |none::r,i,b,h,a,f=>Bm hE r (i+1) b h a f
 |some (.cells n z)::r,i,b,h,a,f=>by
  have next:=Bm hE r (i+1) b h a f;simp only [DF];split
  ·rename_i c l q A;split
   ·obtain ⟨s,g,j,k⟩:=KU (ks:=Oj l) (b:=c) hE f;obtain ⟨t,m,o,p⟩:=Bm hE r (i+1) b (Em E (Oj l) c h) g j;exact ⟨by omega,m,o,k.trans p (fun d u v=>by omega)⟩
   ·exact next
  ·exact next
 |some (.map _ _)::r,i,b,h,a,f=>Bm hE r (i+1) b h a f
 |some (.hole _ _ _ _ _)::r,i,b,h,a,f=>Bm hE r (i+1) b h a f
 |some (.dmap _ _ _)::r,i,b,h,a,f=>Bm hE r (i+1) b h a f
 |some (.dmapS _ _ _ _ _)::r,i,b,h,a,f=>Bm hE r (i+1) b h a f
 |some (.loop _ _ _ _ _ _ _ _ _)::r,i,b,h,a,f=>Bm hE r (i+1) b h a f
 |some (.deferred _)::r,i,b,h,a,f=>Bm hE r (i+1) b h a f
 |some (.mapIter _ _ _ _)::r,i,b,h,a,f=>Bm hE r (i+1) b h a f
 |some (.strIter _ _ _)::r,i,b,h,a,f=>Bm hE r (i+1) b h a f
theorem ac {U:Unk} {E:Env} (hE:OK E) {w:World} {s:Sm} {l c:List AV} {f:List Value} {d:Ren} {h h':Aa} (j:HR d h.blk.get w) (k:VL d l f) (e:Q9 E s l h=(c,h')) :
  h'.nx=h.nx∧∃a:Ren,VL a c f∧HR a h'.blk.get w∧Ext d a h h' w w:=by
 unfold Q9 at e;split at e;rename_i args g m;cases e;obtain ⟨u,a,n,o,p⟩:=P6 hE j k m;obtain ⟨v,q,r,i⟩:=Bm hE s.pre 0 (HD E s.pre g (EC s.args c ⟨.nil,.nil⟩)).b g a o;exact ⟨by omega,q,n.mono i.le,r,p.trans i (fun b x t=>by omega)⟩
theorem LU {U:Unk} {a:AV} {v:Value} {c d:Ren} (h:S6 a=true) (f:VR c a v):VR d a v:=by
 cases f with
 |bool b=>exact .bool b
 |int k n=>exact .int k n
 |str s=>exact .str s
 |sb p e=>exact .sb p e
 |si k e=>exact .si k e
 |ss x=>exact .ss x
 |_=>cases h
theorem UI {U:Unk} {a:AV} {v:Value} {d e:Ren} (h:PS a=true) (b:VR d a v):VR e a v:=by
 unfold PS at h;split at h
 ·rename_i l;cases b with
  |tuple _ f g j=>exact .tuple l f g fun i a v c b=>LU (List.all_eq_true.mp h a (rc c)) (j i a v c b)
 ·exact LU h b
theorem HR.still {U:Unk} {ρ:Ren} {g:Nat→Option Am} {w t:World} (l:HR ρ g w) (J:w.heap.size≤t.heap.size) (I:∀k,k<w.heap.size→t.heap[k]?=w.heap[k]?):HR ρ g t:=by
 refine ⟨fun b base r=>Nat.lt_of_lt_of_le (l.lt b base r) J,fun b base x r hx=>?_,l.apart,fun k arr hi=>?_,l.off,l.glob⟩
 ·rw [I _ (l.lt b base r)];exact l.blk b base x r hx
 ·rw [I _ (l.immLt hi)];exact l.imm k arr hi
theorem bo {U:Unk} {E:Env} (hE:OK E) {F:Nat→D→D} (H:U.V.fn=F) {s:Sm} (I:s.Valid E.P F) {l:List SE} {z:List Nat} {args:List AV} {a:List Value} {h m h':Aa} {v:AV} {p c:Ren} {w:World}
  (d:Td E s l z args h=some (v,h')) (p1:s.pre=[]) (p2:s.post=[]) (p3:PS v=true) (q:z=[]) (J:VL p args a) (K:HR p h.blk.get w) (r:HR c m.blk.get w) (c0:Frame) (base:List Frame) :
  ∃n o j,BJ E.P (lone (Frame.enter E.P s.f a.toArray .normal) (c0::base) w) c0 base s.ok o j∧VR n v o∧HR n m.blk.get j∧Ext c n m m w j:=by
 subst q
 have i:∃g,Td E s l [] args {h with blk:=.nil}=some (v,g)∧g.nx=h.nx:=by
  unfold Td at d ⊢;rw [p1,p2] at d ⊢;split at d
  ·rename_i L;have t:(JV (Gm l [] s.args args)&&JV (EA E l [] {h with blk:=.nil} [] [])&&Fe []&&NO h.nx []&&I1 l s.facts&&Nat.ble ([]:List (Option Am)).length ([]:List (Option Am)).length)=true:=L
   rw [t];split at d
   ·simp only [C2,hS] at d;obtain ⟨rfl,rfl⟩:=d;exact ⟨_,rfl,rfl⟩
   ·cases d
  ·cases d
 obtain ⟨g,i,M⟩:=i;have u:∀b,({h with blk:=T.nil}:Aa).blk.get b=none:=fun b=>by exact T.get_nil b
 have x:HR p ({h with blk:=T.nil}:Aa).blk.get w:=K.restrict fun b=>.inl (u b)
 obtain ⟨n,o,j,N,O,_,A⟩:=Wb hE H I i J x (fun b _=>u b) (fun b Q B=>by rw [M] at B;exact absurd B (Nat.not_lt.2 Q)) c0 base
 have C:∀k,k<w.heap.size→j.heap[k]?=w.heap[k]?:=fun k y=>A.kept k y fun b base _ R=>absurd (u b) R
 have G:=A.calm;exact ⟨c,o,j,N,UI p3 O,r.still G.size C,⟨Ren.le_refl c,IqQ _,fun _ _ e=>.inl e,G,fun k y _=>C k y,⟨[],rfl,fun _ _ _=>rfl⟩,fun _ e=>.inl e,fun _ _ e=>.inl e⟩⟩
theorem Jd {U:Unk} {E:Env} (hE:OK E) {F:Nat→D→D} (y:U.V.fn=F) {f:FuncId} {args:List AV} {j:List Value} {h g:Aa} {ok:Bool} {v:AV} {z:Ren} {w:World}:∀{l:List Sm},(∀s∈l,s.Valid E.P F)→Mu E l f args h=some (ok,v,g)→VL z args j→HR z h.blk.get w→WF h→AX z h.nx g.nx→
  ∀(c0:Frame) (base:List Frame),∃C A u,BJ E.P (lone (Frame.enter E.P f j.toArray .normal) (c0::base) w) c0 base ok A u∧VR C v A∧HR C g.blk.get u∧Ext z C h g w u
 |[],_,k,_,_,_,_=>by simp [Mu] at k
 |s::r,hO,k,G,B,p,c=>by
  simp only [Mu] at k;split at k
  ·rename_i R;have S:=Ax R;subst S;split at k
   ·rename_i xv xg a;simp only [C2,hS] at k;obtain ⟨rfl,rfl,rfl⟩:=k;unfold XU at a;split at a;rename_i d n q;split at a;rename_i m t H;have q:Q9 E s args h=(d,n):=q;obtain ⟨T,I,z1,z2,z3⟩:=ac hE B G q;have x:WF n:=z3.wf p;have J:(AN E s.pre 0 (HD E s.pre n (EC s.args d ⟨.nil,.nil⟩)) n).2=t:=by rw [H]
    split at a;rotate_left
    ·cases a
    rename_i W o;obtain ⟨v0,N⟩:=W;have a:=Option.some.inj a;unfold fO at a;split at a
    ·rename_i p1 p2 p3;simp only [hS] at a;obtain ⟨rfl,rfl⟩:=a;intro c0 base;have K:t=n:=by rw [←J,p1];rfl
     subst K;exact bo hE y (hO s (by simp)) (args:=d) (h:=t) o p1 p2 p3 (by rw [p1];rfl) z1 z2 B c0 base
    simp only [hS] at a;obtain ⟨rfl,rfl⟩:=a;have a:=o
    have X:t.nx≤N.nx:=by
     unfold Td at a;split at a
     ·split at a
      ·simp only [C2,hS] at a;obtain ⟨_,rfl⟩:=a;show t.nx≤t.nx+_;omega
      ·cases a
     ·cases a
    have i:AX I n.nx N.nx:=z3.free c;obtain ⟨O,L,Q⟩:=Bs (E:=E) s.pre 0 (HD E s.pre n (EC s.args d ⟨.nil,.nil⟩)) n z2 x (fun b Y Z=>i b Y (by rw [J] at Z;omega))
    rw [J] at O L Q;intro c0 base;obtain ⟨τ,A,u,r1,r2,r3,r4⟩:=Wb hE y (hO s (by simp)) a z1 O Q (L.free i) c0 base
    exact ⟨τ,A,u,r1,r2,r3,z3.trans (L.trans r4 i) c⟩
   ·exact Jd hE y (fun e M=>hO e (by simp [M])) k G B p c
  ·exact Jd hE y (fun e M=>hO e (by simp [M])) k G B p c
end Go.AE
namespace Go.AE
variable [Gl:AC]
def Ed [Facts] (E:Env) (s:AS) (f:Operand) (params:List Tmp) (assign body:Code) (k:List AI):Option (FuncId×List AV×Aa×AF):=
 match UV s.fr s.h with
 |some (d,a,mark)=>match Ak s.fr.tmps f with
  |.func fn first captured=>match B9 E fn captured (first++[.func (.yield a.nx) [] []]) (a.new (.loop .ready none s.fr.fn s.fr.nt s.fr.tmps params assign body d)) with
   |.enter g args _=>some (g,args,a.new (.loop .ready none s.fr.fn s.fr.nt s.fr.tmps params assign body d),{s.fr with todo:=.inRange a.nx::k,defers:=mark++s.fr.defers})
   |_=>none
  |_=>none
 |none=>none
variable [U:Unk]
section
variable {E:Env} (hE:OK E) {ρ:Ren} {w:World} {c:Frame} {ccs:List Frame} {s:AS}
include hE
theorem Uv {base:List Frame} {d:Frame} {w0:World} {h h':Aa} {sm:Sem Next} {g:FuncId} {args:List AV} {f:AF}
  (i:(stepG E.P true {frame:=d,callers:=ccs++base,status:=.running,dying:=none} w0).bare=(stepG.apply E.P true c (ccs++base) none sm w).bare)
  (l:FH E ρ h w sm (.enter g args h')) (m:FrR ρ f c):∃b:List Value,VL ρ args b∧step E.P (lone d (ccs++base) w0)=.next (lone (Frame.enter E.P g b.toArray .normal) (c::(ccs++base)) w):=by
 obtain ⟨rfl,b,n,e⟩:=l;refine ⟨b,n,step_lone_go ?_⟩;rw [i];have j:=m.todo;simp only [stepG.apply,Sem.runT_eq,e,if_true,GStep.bare_after,GStep.bare_go];generalize c.todo=td at j;generalize f.todo=p at j;cases j with
 |nil=>rfl
 |cons a _=>cases a<;>rfl
 |rest=>
  generalize o:U.R=r;cases r with
  |nil=>rfl
  |cons x k=>cases x<;>first|rfl|exact absurd o (U.hR _ _ _ _ _)
theorem IA (z:SR ρ s c ccs w) (Z:c.mode=.run) {fo:Operand} {params:Array Tmp} {assign body:Code} {k:List AI} {K:List Item} (hk:IL ρ k K) (ht:c.todo=.code (.rangeFunc fo params assign body)::K)
  {g:FuncId} {args:List AV} {L:Aa} {C:AF} (v:Ed E s fo params.toList assign body k=some (g,args,L,C)) (i:AX ρ s.h.nx L.nx) (base:List Frame) :
  ∃u O e w1,step E.P (lone c (ccs++base) w)=.next (lone (Frame.enter E.P g e.toArray .normal) (O::(ccs++base)) w1)∧VL u args e∧FrR u C O∧HR u L.blk.get w1∧Ext ρ u s.h L w w1:=by
 unfold Ed at v;split at v
 ·rename_i d p mark A;split at v
  ·rename_i fn first captured Q;split at v
   ·rename_i g2 R aa S;cases v;have D:(p.new (.loop .ready none s.fr.fn s.fr.nt s.fr.tmps params.toList assign body d)).nx=p.nx+1:=rfl;obtain ⟨u,w1,M,j,t,q2,q3,q4,N⟩:=SJ (E:=E) z.h z.fr A (fun b p h2=>i b p (by simp only [D];omega))
    have B:=z.fr.mono N.le;have o:u p.nx=none:=(N.free i) p.nx (IqQ _) (by simp only [D];omega)
    have q:=Ren.le_upd o ⟨w1.heap.size,0,0⟩;obtain ⟨p1,p2⟩:=q4.new o (.loop .ready none s.fr.fn s.fr.nt s.fr.tmps params.toList assign body d)
     (.loop {state:=.ready,pending:=none,fn:=c.fn,tmps:=c.tmps,params:=params,assign:=assign,body:=body,defers:=M.cb}) 0
     ⟨c.tmps,M,q.m _ _ q2,B.tm.mono q,by rw [B.fn]⟩
     {w1 with heap:=w1.heap.push (.loop {state:=.ready,pending:=none,fn:=c.fn,tmps:=c.tmps,params:=params,assign:=assign,body:=body,defers:=M.cb})} rfl rfl rfl rfl
    have X:(u.upd p.nx ⟨w1.heap.size,0,0⟩) p.nx=some ⟨w1.heap.size,0,0⟩:=by simp [Ren.upd]
    have F:(Instr.enterLoop c.fn c.tmps params assign body c.roundOf).run E.P w=.ok (w1.heap.size,j) {w1 with heap:=w1.heap.push (.loop {state:=.ready,pending:=none,fn:=c.fn,tmps:=c.tmps,params:=params,assign:=assign,body:=body,defers:=M.cb})}:=by
     cases G:c.roundOf with
     |some l=>
      rw [G] at t;simp only [L9,F9,LE] at t;simp only [Instr.enterLoop,F9,LE,Aee,E1];cases Y:(Instr.getLoop l).run E.P w with
      |ok a w2=>
       rw [Y] at t;simp only [E1,Result.ok.injEq,hS] at t ⊢;obtain ⟨⟨H,I⟩,T⟩:=t;rw [H,I,T];exact ⟨⟨rfl,rfl⟩,rfl⟩
      |halt x w2=>rw [Y] at t;cases t
     |none=>
      rw [G] at t;simp only [L9,F9,LE,Aee,E1,Result.ok.injEq,hS] at t;obtain ⟨⟨H,I⟩,T⟩:=t;simp only [Instr.enterLoop,F9,LE,Aee,E1];rw [←H,←I,←T]
    have n:=B.mono q;have V:=n.evR fo;rw [Q] at V;generalize W:c.eval fo=cv at V;cases V with
    |func _ ab _ _ f' O r1 r2 r3 r4 r5=>
     have ha:VL (u.upd p.nx ⟨w1.heap.size,0,0⟩) (first++[.func (.yield p.nx) [] []]) (f'++[.func (.yield w1.heap.size) #[] #[]]):=
      VL.append ⟨r2,r3⟩ (VL.cons (.func _ _ [] [] [] [] ⟨_,X,rfl⟩ rfl (by simp) rfl (by simp)) (VL.nil _))
     have r:=Ei hE p1 r1 ⟨r4,r5⟩ ha;rw [S] at r
     have y:FrR (u.upd p.nx ⟨w1.heap.size,0,0⟩) {s.fr with todo:=.inRange p.nx::k,defers:=mark++s.fr.defers} {c with todo:=.inRangeFunc w1.heap.size::K,defers:=j++c.defers}:=
      ⟨n.fn,n.tm,.cons (.inRange _ _ X) ((hk.mono N.le).mono q),(q3.mono q).append n.defers,n.mode,n.kind,n.round⟩
     obtain ⟨e,H,I⟩:=Uv hE (base:=base) (c:={c with todo:=.inRangeFunc w1.heap.size::K,defers:=j++c.defers})
      (f:={s.fr with todo:=.inRange p.nx::k,defers:=mark++s.fr.defers}) (KZ Z ht F) (r.congr (by
       have J:c.eval (.const (.func (.yield w1.heap.size) #[] #[]))=.func (.yield w1.heap.size) #[] #[]:=rfl;simp [resolve,W,J,Deferred.ofValue])) y
     exact ⟨_,_,e,_,I,H,y,p1,N.trans p2 i⟩
   ·cases v
  ·cases v
 ·cases v
end
end Go.AE
namespace Go.AE
variable [Gl:AC]
def NP:List Orc→FuncId→List AV→Aa→Option (Bool×AV×Aa)
 |[],_,_,_=>none
 |e::r,f,args,h=>match Nat.beq e.f f&&(Nat.beq e.nx h.nx||(Nat.beq (e.nx%4096) 0&&Nat.ble h.nx e.nx))&&HK e.args args&&Nu e.part h.blk with
  |true=>some (e.ok,e.v,AY {h with nx:=e.nx} {blk:=e.out,nx:=e.nx',log:=e.wr})
  |false=>NP r f args h
def aN [U:Facts]:AV→AV
 |.ss x=>match R4 x U.facts with
  |some (l,b)=>.str l b
  |none=>.ss x
 |a=>a
def ssA:AV→Bool
 |.ss _=>true
 |_=>false
def KC [Facts] (E:Env) (f:FuncId) (args:List AV) (h:Aa):Option (Bool×AV×Aa):=
 match E.ox.get f with
 |some l=>(match NP l f args h with
  |some r=>some r
  |none=>match (match args.any ssA with
   |true=>NP l f (args.map aN) h
   |false=>none) with
   |some r=>some r
   |none=>match Mu E E.sms f args h with
    |some r=>some r
    |none=>none)
 |none=>match Mu E E.sms f args h with
  |some r=>some r
  |none=>none
def US (h:Aa):AV→AV
 |.slice b 0 n a=>match h.blk.get b with
  |some (.arr _ _)=>.asl b a (.c n) (.bc false)
  |_=>.slice b 0 n a
 |x=>x
def vo (h:Aa):AV→Bool
 |.slice b 0 _ _=>match h.blk.get b with
  |some (.arr _ _)=>true
  |_=>false
 |_=>false
def T.anyA {t:Type} (f:t→Bool):T t→Bool
 |.nil=>false
 |.node v l r=>(match v with|some x=>f x|none=>false)||l.anyA f||r.anyA f
def Wn (h:Aa) (fr:AF):AF:=match fr.tmps.anyA (vo h) with
 |true=>{fr with tmps:=fr.tmps.mapA (US h)}
 |false=>fr
def ZM [Facts] (E:Env) (s:AS) (all:Array Oper) (o:Oper) (r:List Oper):Option AS:=
 match o.op,r,o.dst with
 |.slice t x (some lo) none none,o2::_,some d=>match o2.op with
  |.call c=>match c.callee,c.argTypes.toList,c.args.toList with
   |.builtin .clear,[t1],[.tmp i]=>match Ak s.fr.tmps x,toI (Ak s.fr.tmps lo) with
    |.asl b f n nl,some (_,l)=>match E.desc t,E.desc t1,s.h.blk.get b with
     |some (.slice e),some (.slice j),some (.arr k y)=>match E.zero e,E.kinds e with
      |some z,some ks=>match Nat.beq d i&&(Nat.beq e j&&(Nat.beq e k&&(Nat.beq z.cells.length f&&(Nat.beq f ks.length&&(Ez z.cells&&(E.szIs e f&&(Fc n y&&inB l n n))))))) with
       |true=>match BL all o s.fr.tmps,B1 s.fr .top with
        |some true,some a=>match BL all o2 a.tmps,B1 a .top with
         |some true,some g=>some {s with fr:=g,h:=s.h.put b (.arr e (.sub y (.c 0) l))}
         |_,_=>none
        |_,_=>none
       |false=>none
      |_,_=>none
     |_,_,_=>none
    |_,_=>none
   |_,_,_=>none
  |_=>none
 |_,_,_=>none
def ZQ [Facts] (t:T AV):List Tmp→Option (Tmp×AV)
 |[]=>none
 |i::r=>match t.get i with
  |some (.nmap b nl)=>match ZL (.nmap b nl) with
   |.nmap _ _=>ZQ t r
   |v=>some (i,v)
  |_=>ZQ t r
def Abe [Facts] (s:AS):Option AS:=match s.fr.todo with
 |.ops all (o::_)::_=>match ZQ s.fr.tmps (Bk all o) with
  |some (i,v)=>some {s with fr:={s.fr with tmps:=s.fr.tmps.set i v}}
  |none=>none
 |_=>none
def Zq [Facts] (E:Env) (s:AS):Option AS:=
  match E.orc.isEmpty&&E.sms.isEmpty with
  |true=>none
  |false=>match s.fr.mode with
    |.run=>match s.fr.todo with
      |.ops all (o::r)::_=>match ZM E s all o r with
       |some c=>some c
       |none=>match M6 o.op with
        |false=>match BL all o s.fr.tmps with
          |some true=>match aop E s.fr.tmps s.h o.op with
            |.enter g args _=>match KC E g args s.h with
              |some (true,v,h)=>match B1 s.fr v with
                |some fr=>some {s with fr:=Wn h fr,h}
                |none=>none
              |some (false,v,h)=>some {s with fr:=Wn h {s.fr with mode:=.panic [(v,false)]},h}
              |none=>none
            |_=>none
          |_=>none
        |true=>none
      |.code (.rangeFunc f params assign body)::k=>match Ed E s f params.toList assign body k with
        |some (g,args,b,a)=>match KC E g args b with
          |some (true,v,h)=>match Nat.ble b.nx h.nx,B1 a v with
            |true,some fr=>some {s with fr:=Wn h fr,h}
            |_,_=>none
          |some (false,v,h)=>match Nat.ble b.nx h.nx with
            |true=>some {s with fr:=Wn h {a with mode:=.panic [(v,false)]},h}
            |false=>none
          |none=>none
        |none=>none
      |_=>none
    |_=>none
def Wl [Facts] (E:Env) (s:AS):Option AS:=match Abe s with
 |some a=>some a
 |none=>Zq E s
def eU [U:Facts] (E:Env) (s:AS):Option (List AS):=none
def fj (s:AS) (l:List (Option (Bool×AV×Aa))):Option (Bool×AV×Aa):=none
def Kw:T AV→T AV→Bool
 |.nil,_=>true
 |.node v l r,.node a b c=>(match v with
   |none=>true
   |some x=>(match a with
    |some y=>By x y
    |none=>false))&&(Kw l b&&Kw r c)
 |.node v l r,.nil=>v.isNone&&(Kw l .nil&&Kw r .nil)
def hY:AI→AI→Bool
 |.code c,.code b=>Cm c b
 |.inBlock i,.inBlock d=>Nat.beq i d
 |.inLoop c,.inLoop b=>Cm c b
 |.inScope c,.inScope b=>Cm c b
 |.ops a l,.ops e f=>KX MF a e&&Ko MF l f
 |_,_=>false
def Z2 [Facts] (E:Env) (a:Ask→Aa→Option (Bool×AV×Aa)) (F:Nat) (s:AS):Option AS:=none
def MW [Facts] (E:Env) (run:FuncId→Bool→AS→Option (Bool×AV×Aa)) (a:Ask) (h:Aa):Option (Bool×AV×Aa):=match a with
 |.enter g args=>match KC E g args h with
  |some r=>some r
  |none=>match Bf E g args .normal with
   |some fr=>run fr.fn true {fr,cs:=[],h}
   |none=>none
 |.round l args=>match G1 l args h with
  |some fr=>run fr.fn true {fr,cs:=[],h}
  |none=>none
def Ge [Facts] (E:Env):Nat→FuncId→Bool→AS→Option (Bool×AV×Aa)
  |0,_,_,_=>none
  |f+1,b,c,s=>match Wl E s with
   |some a=>(match Nat.ble s.h.nx a.h.nx with
     |true=>Ge E f b c a
     |false=>none)
   |none=>match A8 E s with
    |.next a=>match Nat.ble s.h.nx a.h.nx with
      |true=>Ge E f b c a
      |false=>none
    |.done ok v h=>match Nat.ble s.h.nx h.nx&&Nat.beq s.fr.fn b&&(c||s.fr.round.isNone) with
      |true=>some (ok,v,h)
      |false=>none
    |.draw s ops k=>
      match BY E (MW E (Ge E f)) ops s.fr.nt ops.toList [] s.fr.tmps s.h with
      |some (none,tmps,h)=>Ge E f b c {s with fr:={s.fr with tmps,todo:=k},h}
      |some (some v,tmps,h)=>Ge E f b c {s with fr:={s.fr with tmps,todo:=.dead::k,mode:=.panic [(v,false)]},h}
      |none=>none
    |.bad _=>match Z2 E (MW E (Ge E f)) f s with
      |some a=>(match Nat.ble s.h.nx a.h.nx with
        |true=>Ge E f b c a
        |false=>none)
      |none=>match eU E s with
        |some l=>fj s (l.map fun a=>Ge E f b c a)
        |none=>none
def ff [Facts] (E:Env) (n:Nat) (f:FuncId) (args:List AV) (h:Aa):Option (Bool×AV×Aa):=
 match Bf E f args .normal with
 |some fr=>Ge E n f false {fr,cs:=[],h}
 |none=>none
def T5 [Facts] (E:Env) (N:Nat) (e:Orc):Bool:=
 match ff E N e.f e.args {blk:=e.part,nx:=e.nx,log:=[]} with
 |some (ok,v,g)=>(ok==e.ok)&&By v e.v&&Nu e.out g.blk&&Nat.beq g.nx e.nx'&&W1 e.nx e.wr g.log
 |none=>false
end Go.AE
namespace Go.AE
variable [Gl:AC]
section
variable [U:Unk] {E:Env} (hE:OK E) {ρ:Ren} {h:Aa} {w:World}
include hE
theorem dT (J:HR ρ h.blk.get w) {t t1 ty e:TypeId} {ks:List Kd} {z:AV} {b g:Nat} {n nl y l:SE} {xv r:Value} {kd:IntKind} (hd:E.desc t=some (.slice e)) (Z:E.desc t1=some (.slice e)) (hz:E.zero e=some z) (hk:E.kinds e=some ks)
  (al:z.cells.length=g) (aa:g=ks.length) (ab:Ez z.cells=true) (hx:VR ρ (.asl b g n nl) xv) (M:h.blk.get b=some (.arr e y)) (hs:E.szIs e g=true) (hn:Fc n y=true) (ac:r=.int kd (Ac U.V l)) (ae:inB l n n=true) :
  ∃v B,(Instr.sliceAt t xv (some r) none none).run E.P w=.ok v w∧(Builtin.clear_ #[t1] ty #[v]).run E.P w=.ok (.tuple #[]) B∧HR ρ (h.put b (.arr e (.sub y (.c 0) l))).blk.get B∧Ext ρ ρ h (h.put b (.arr e (.sub y (.c 0) l))) w B:=by
 obtain ⟨b0,b1,b2⟩:=Kb ae;have C:=Ku hn;have hu:=hE.run_und hd (w:=w);have x:=hE.run_und Z (w:=w);have e0:Ac U.V (.c 0)=0:=rfl
 have A:(Ab U.V (.sub y (.c 0) l)).rows.length=(Ac U.V l).toNat:=by
  rw [Er,e0];rw [Aq] at C;simp;omega
 have key:∀i,i<(Ac U.V l).toNat→(Ab U.V (.sub y (.c 0) l)).rows.getD i default=(Ab U.V y).rows.getD i default:=by
  intro i hi;rw [Er,e0,LZ (by simpa using hi)]
  congr 1
  simp
 have rows:∀{a:List Kd} {co:Nat} {f d:Array Value},Br U.K ρ.imm a f co (Ab U.V y).rows→d.size=f.size→(∀j,j<co+(Ac U.V l).toNat*a.length→d.getD j Go.undef=f.getD j Go.undef)→Br U.K ρ.imm a d co (Ab U.V (.sub y (.c 0) l)).rows:=by
  intro a co f d hR af O;rw [Aq] at C;have ag:(Ac U.V l).toNat≤(Ab U.V y).rows.length:=by omega
  refine ⟨?_,fun i hi=>?_,fun i j kd hi Q=>?_⟩
  ·rw [A,af];have:=hR.1;have:=iv a.length ag;omega
  ·rw [A] at hi;rw [key i hi];exact hR.2.1 i (by omega)
  ·rw [A] at hi;rw [key i hi,O]
   ·exact hR.2.2 i j kd (by omega) Q
   ·have am:j<a.length:=(Id.1 Q).1;have:(i+1)*a.length≤(Ac U.V l).toNat*a.length:=iv _ (by omega)
    rw [q0,Nat.one_mul] at this;omega
 have still:HR ρ (h.put b (.arr e (.sub y (.c 0) l))).blk.get w∧Ext ρ ρ h (h.put b (.arr e (.sub y (.c 0) l))) w w:=by
  refine J.swap (by rw [M];exact F0 _) _ fun base s=>?_
  obtain ⟨a,f,R,S,T,q2,W,X,q5⟩:=J.blk b base _ s M;exact ⟨a,f,R,S,T,q2,W,X,rows q5 rfl fun _ _=>rfl⟩
 have p1:(some r=none∧l=.c 0)∨∃k,some r=some (.int k (Ac U.V l)):=.inr ⟨kd,by rw [ac]⟩
 cases hx with
 |aslEnd _ _ _ _ ad Y qn=>
  have ah:Ac U.V l=0:=by omega
  have q:=Hy (P:=E.P) (w:=w) (b:=true) (len:=0) (cap:=0) (u:=n) (du:=n) (hi':=none) (dl:=.c 0) p1 (.inl ⟨rfl,rfl⟩) rfl (by rw [Y];rfl) b0 b1 (by rw [Y];exact Aeg _) (IqQ _)
  rw [ah,Y] at q;refine ⟨.slice ad 0 0,w,?_,?_,still.1,still.2⟩
  ·simp [Instr.sliceAt,Instr.slice,hu,q,hE.run_szIs hs]
  ·cases ad<;>simp [Builtin.clear_,x]
 |asl _ _ _ _ cap base s Y qc qz qn=>
  have q:=Hy (P:=E.P) (w:=w) (b:=true) (len:=(Ac U.V n).toNat) (cap:=cap) (u:=n) (du:=n) (hi':=none) (dl:=.c 0) p1 (.inl ⟨rfl,rfl⟩) rfl (by omega) b0 b1 (by omega) qc
  generalize hL:(Ac U.V l).toNat=L at *;generalize hN:(Ac U.V n).toNat=N at *;have an:L≤N:=by omega
  have o:(Instr.sliceAt t (.slice (some ⟨base.cb,base.co,none⟩) N cap) (some r) none none).run E.P w=.ok (.slice (if cap=L then some ⟨base.cb,base.co,none⟩ else some ⟨base.cb,base.co+L*g,none⟩) (N-L) (cap-L)) w:=by
   simp [Instr.sliceAt,Instr.slice,hu,q,hE.run_szIs hs,BZ]
  by_cases O:N-L=0
  ·rw [O] at o;refine ⟨_,w,o,?_,still.1,still.2⟩;split<;>simp [Builtin.clear_,x]
  ·have D:cap≠L:=by omega
   rw [if_neg D] at o;obtain ⟨a,f,R,S,T,q2,W,X,q5⟩:=J.blk b base _ s M;have F:U.K e=some ks:=by rw [hE.kd,←hE.ke];exact hk
   rw [F] at T;cases T;obtain ⟨p,z1,z2⟩:=hE.run_zero ρ hz w;have zc:=(AZ ρ z2).cells (Cf z2);have ai:p.cells.size=g:=by have:=zc.1;simp at this;omega
   have G:∀v∈(Builtin.zeroCells p.cells (N-L)).toList,v.oneCell'=true:=by
    intro v hv;have hm:=HZ ab zc;rw [Builtin.zeroCells] at hv;simp only [Array.toList_map,Array.toList_range,List.mem_map,List.mem_range] at hv;obtain ⟨i,hi,rfl⟩:=hv
    have H:0<p.cells.size:=by
     rcases Nat.eq_zero_or_pos p.cells.size with c|c
     ·rw [c] at hi;simp at hi
     ·exact c
    have aj:i%p.cells.size<p.cells.size:=Nat.mod_lt _ H;have:p.cells[i%p.cells.size]! = p.cells[i%p.cells.size]:=by simp [aj]
    rw [this];exact hm _ (by simp)
   have I:(Builtin.zeroCells p.cells (N-L)).toList.length=(N-L)*g:=by
    rw [Builtin.zeroCells,ai];simp
   have ak:base.co+L*g+(N-L)*g≤f.size:=by
    have e1:L*g+(N-L)*g=N*g:=by rw [←q0];congr 1;omega
    have e2:N*g≤cap*g:=iv _ (by omega)
    omega
   obtain ⟨B,d,r1,r2,r3,r4,r5,r6,r7,r8,r9⟩:=BN E.P base.cb (base.co+L*g) R S (Builtin.zeroCells p.cells (N-L)).toList 0 w f q2 (by rw [I];omega) (by rw [W];exact X) G
   refine ⟨_,B,o,?_,?_⟩
   ·obtain ⟨m,hm⟩:=Nat.exists_eq_succ_of_ne_zero O;rw [hm] at r1 ⊢;simp [Builtin.clear_,x,z1,r1]
   ·refine J.put s (by rw [M];simp) _ B ?_ r5 r6 r7 r8 r9
    refine ⟨ks,d,R,S,F,r2,by rw [r3,W],X,rows q5 r3 fun j Q=>?_⟩
    rw [L1,L1,r4 j,if_neg (by rw [←aa] at Q;omega)]
end
end Go.AE
namespace Go.AE
variable [Gl:AC]
variable [U:Unk]
theorem Db {E:Env} {e:Ask→Aa→Option (Bool×AV×Aa)} {all:Array Oper} {nt:Nat}:∀(l:List Oper) (c:List Rc) (tmps:T AV) (h:Aa) (r:Option AV) (b:T AV) (h':Aa),
  BY E e all nt l c tmps h=some (r,b,h')→h.nx≤h'.nx
 |[],c,tmps,h,r,b,h',a=>by
  simp only [BY,C2,hS] at a;obtain ⟨_,_,rfl⟩:=a;exact IqQ _
 |o::rest,c,tmps,h,r,b,h',a=>by
  simp only [BY] at a;split at a
  ·cases a
  ·split at a
   ·cases a
   ·rename_i d _;split at a
    ·cases a
    ·rename_i f j;have i:h.nx≤d.g.nx:=hP f;split at a
     ·cases a
     ·split at a
      ·cases a
      ·have:=Db rest _ _ _ _ _ _ a;exact l8 i this
    ·rename_i f j;have i:h.nx≤d.g.nx:=hP f;split at a
     ·simp only [C2,hS] at a;obtain ⟨_,_,rfl⟩:=a;exact i
     ·cases a
theorem B5 {E:Env}:∀(f:Nat) (b:FuncId) (c:Bool) (s:AS) (ok:Bool) (v:AV) (h:Aa),Ge E f b c s=some (ok,v,h)→s.h.nx≤h.nx
 |0,b,c,s,ok,v,h,a=>by cases a
 |f+1,b,c,s,ok,v,h,a=>by
  simp only [Ge] at a;split at a
  ·split at a
   ·rename_i d;exact l8 (hP d) (B5 f b c _ ok v h a)
   ·cases a
  split at a
  ·split at a
   ·rename_i d;exact l8 (hP d) (B5 f b c _ ok v h a)
   ·cases a
  ·split at a
   ·rename_i d;simp only [C2,hS] at a;obtain ⟨_,_,rfl⟩:=a;exact hP (Au (Au d).1).1
   ·cases a
  ·rename_i i ops k e;obtain ⟨rfl,_,_⟩:=Et e;split at a
   ·rename_i g;exact l8 (Db _ _ _ _ _ _ _ g) (B5 f b c _ ok v h a)
   ·rename_i g;exact l8 (Db _ _ _ _ _ _ _ g) (B5 f b c _ ok v h a)
   ·cases a
  ·split at a
   ·split at a
    ·rename_i d;exact l8 (hP d) (B5 f b c _ ok v h a)
    ·cases a
   ·split at a
    ·unfold fj at a;cases a
    ·cases a
section
variable {E:Env} (hE:OK E) {callF:Ask→Aa→Option (Bool×AV×Aa)} {ρ:Ren} {h:Aa} {w:World} {c:Frame} {ccs base:List Frame} {s:AS}
def lI (s:AS) (r:Option AV) (tmps:T AV) (k:List AI) (h:Aa):AS:=
 match r with
 |none=>{s with fr:={s.fr with tmps,todo:=k},h}
 |some v=>{s with fr:={s.fr with tmps,todo:=.dead::k,mode:=.panic [(v,false)]},h}
theorem TJ {m:Ren} {h g:Aa} {w n:World} (d:WF h) (f:h.nx≤g.nx) (u:HR m g.blk.get n) (i:Ext ρ m (part h none) g w n):HR m (AY h g).blk.get n∧Ext ρ m h (AY h g) w n:=by
 obtain ⟨l,o,p⟩:=i.log;have j:g.log=l:=by rw [o];exact Aek l
 refine ⟨u.weaken fun b x _ a=>?_,⟨i.le,f,i.new,i.calm,i.kept,⟨BF h.nx g.log,rfl,fun b r v=>CO f r v⟩,fun b r=>G5 d f r,i.imm⟩⟩
 by_cases t:b<h.nx
 ·by_cases k:b∈BF h.nx g.log
  ·rcases Hl k with q|⟨_,q⟩
   ·rw [q] at a;cases a
   ·rw [←q];exact a
  ·rw [CO f k (.inl t)] at a;rw [p b (fun e=>k (Cu.2 ⟨by rw [j];exact e,t⟩)) (.inl t)]
   exact a
 ·by_cases k:b<g.nx
  ·rw [Ib d f (by omega) k] at a;exact a
  ·rw [Hs d f b (by show g.nx≤b;omega)] at a;cases a
include hE
theorem Ht (hF:FL E callF) (e:SR ρ s c ccs w) (ab:WF s.h) (hm:s.fr.mode=.run) {id:Nat} {ops:Array Oper} {k:List AI} (ht:s.fr.todo=.code (.region id ops true)::k) {r:Option AV} {tmps:T AV}
  (hd:BY E callF ops s.fr.nt ops.toList [] s.fr.tmps s.h=some (r,tmps,h)) (f:AX ρ s.h.nx h.nx) (base:List Frame) :
  ∃K c' w',Steps E.P (lone c (ccs++base) w) (lone c' (ccs++base) w')∧SR K (lI s r tmps k h) c' ccs w'∧
   Ext ρ K s.h h w w':=by
 have l:=e.fr.mode;rw [hm] at l
 have z:c.mode=.run:=by
  generalize c.mode=x at l;cases l;rfl
 have m:=e.fr.todo;rw [ht] at m;generalize ac:c.todo=td at m;cases m with|cons a hk=>
 rename_i M;cases a;obtain ⟨H,O,R,Q,n,q1,S,q3,q4,V,W⟩:=I3 _ _ _ _ _ _ _ hd;simp only [Aeb,pc] at S q3 q4 V W;have X:Cc E callF ops s.fr.nt H O R Q n:=⟨fun j hj=>by obtain ⟨o,D,h2⟩:=q4 j hj;exact ⟨o,by simpa using D,h2⟩,by rw [S];exact ab⟩
 have p:AX ρ (H 0).nx h.nx:=by rw [S];exact f
 have ad:n≤ops.size:=by
  cases A:r with
  |none=>have:=(V A).1;simp at this;omega
  |some v=>
   obtain ⟨o,D,_⟩:=W v A;have:=(Id.1 D).1;simp at this;omega
 have hM:(H n).nx≤h.nx:=by
  cases A:r with
  |none=>rw [(V A).2.2];exact IqQ _
  |some v=>
   obtain ⟨o,D,b,e1,e2,N⟩:=W v A;rw [N];exact b.tx.nx
 have Y:n<ops.size→∃o,ops[n]?=some o∧Bad E callF ops H O R Q n o (ops.toList.drop (n+1)):=by
  intro hn;cases A:r with
  |none=>have:=(V A).1;simp at this;omega
  |some v=>
   obtain ⟨o,D,b,_⟩:=W v A;exact ⟨o,by simpa using D,b⟩
 have B:=br (P:=E.P) (cs:=ccs++base) (w:=w) z ac;rw [hE.mixed] at B;have F:∀t,Region.schedule true ops t=Region.linearise.go .any ops ops.size t (Array.replicate ops.size false) []:=fun t=>rfl
 rw [F] at B;generalize ae:w.tape w.drawn (.order c.fn id)=t at B
 have af:∀i,(Array.replicate ops.size false).getD i false=false:=by
  intro i;rw [L1,Array.getElem?_replicate];split<;>rfl
 have Z:TR ρ s.fr.nt (O 0) c.tmps:=by rw [q3];exact e.fr.tm
 have ag:HR ρ (H 0).blk.get {w with drawn:=w.drawn+1}:=by rw [S];exact e.h.same rfl
 have I0:Inv s.fr.nt H O R n h.nx ρ {w with drawn:=w.drawn+1} (fun i=>(Array.replicate ops.size false).getD i false) ρ c.tmps {w with drawn:=w.drawn+1}:=Ace Z ag p af
 obtain ⟨rest,K,C,w1,D',r1,r2,r3,r4,r5⟩:=X.sched hE hF (cs:=ccs++base) (k:=M) hM p ad Y ops.size t (Array.replicate ops.size false) ρ {w with drawn:=w.drawn+1}
  {c with todo:=.inRegion ops (Region.linearise.go .any ops ops.size t (Array.replicate ops.size false) [])::M} z rfl (by simp) (by omega) I0
 obtain ⟨f1,f2,f3⟩:=X.final r1 r2;rw [S] at f3;have d:Ext ρ K s.h (H n) w w1:=f3.drawn rfl rfl rfl rfl;have u:=e.fr.mono d.le;cases A:r with
 |none=>
  obtain ⟨e1,e2,N⟩:=V A;have hn:n=ops.size:=by simpa using e1
  rw [r4 hn] at r3;subst e2;subst N;refine ⟨K,{c with tmps:=C,todo:=M},w1,Steps.head B (Steps.trans r3 (Steps.one (JE z rfl))),⟨⟨u.fn,f1,hk.mono d.le,u.defers,u.mode,u.kind,u.round⟩,e.cs.mono d.le,f2⟩,d⟩
 |some v=>
  obtain ⟨o,D,b,e1,e2,N⟩:=W v A
  have hn:n<ops.size:=by
   have:=(Id.1 D).1;simpa using this
  obtain ⟨rr,ah⟩:=r5 hn;rw [ah] at r3;have aa:=Uk b.tx.did b.ok;have L:HR K (part (H n) (Q n).fp).blk.get w1:=by rw [aa];exact f2
  have G:TR K s.fr.nt (A1 (O n) (Bk ops o)) C:=⟨f1.size,fun t x hx=>by
   obtain ⟨_,y,hy,rfl⟩:=DA _ _ _ _ hx;exact O2 (f1.get t y hy)⟩
  have ai:h.nx=(Q n).g.nx:=by rw [N];rfl
  have I:AX K (H n).nx (Q n).g.nx:=by rw [←ai];exact d.free f
  obtain ⟨τ,v',w2,p1,p2,p3,p4⟩:=OR hE hF (cs:=ccs++base) (c:={c with tmps:=C,todo:=.inRegion ops (n::rr)::M}) b.tx.did (X.wfAt (IqQ _)) z rfl (by simpa using D) G L I
  rw [b.ok] at p1;rw [aa] at p4;obtain ⟨m1,m2⟩:=TJ (X.wfAt (IqQ _)) b.tx.nx p3 p4;rw [←N] at m1 m2;have q:=u.mono m2.le;subst e1;subst e2
  have J:({c with tmps:=C,todo:=.inRegion ops (n::rr)::M}:Frame).raise [{v:=v',recovered:=false}]={c with tmps:=C,todo:=.inRegion ops (n::rr)::M,mode:=.panicking [{v:=v',recovered:=false}]}:=by
   simp [Frame.raise,z]
  simp only [BJ] at p1;rw [J] at p1;exact ⟨τ,_,w2,Steps.head B (Steps.trans r3 p1),⟨⟨q.fn,f1.mono m2.le,.cons (.dead _ _) ((hk.mono d.le).mono m2.le),q.defers,.panic _ _ ⟨p2,rfl,rfl,trivial⟩,q.kind,q.round⟩,(e.cs.mono d.le).mono m2.le,m1⟩,d.trans m2 f⟩
end
end Go.AE

