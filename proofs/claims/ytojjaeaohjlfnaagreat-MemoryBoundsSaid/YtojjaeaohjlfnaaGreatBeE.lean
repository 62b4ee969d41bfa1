/- What is proved here: an evaluator of the model's steps that the kernel can run, and that whatever it answers is what the model does (part 5 of 7: AeDraw7, AeDraw8, AeRun1, AeRun2, AeNorm, AeCode, AePat1, AePat2, AePat3, AeSum, AeRng, AeEval, AeTail, AeRun3). Conditions: those that each theorem states; they hold of no one program. -/
import Derived.Test.YtojjaeaohjlfnaaGreatBeD
import Derived.Orders
set_option linter.unusedVariables false
set_option linter.unusedSectionVars false
set_option linter.unusedSimpArgs false
namespace Go.AE
variable [Gl:AG]
variable [U:Unk]
theorem KL{j:Nat}:∀{rest:List Oper}{recs:List Rc},(∀i x,i<j→recs[i]?=some x→x.mask.testBit j=false)→j<recs.length→Fz recs j rest=true→∀o∈rest,∃e∈o.after.toList,Region.binds .any e=true∧j≤e.on
 |[],recs,_,_,_,o,n=>by cases n
 |o::rest,recs,m,q,h,x,c=>by
  simp only[Fz]at h;cases d:BL recs o.after.toList with
  |none=>rw[d]at h;cases h
  |some mask=>
   rw[d]at h;simp only[X2]at h;cases f:mask.testBit j with
   |false=>rw[f]at h;cases h
   |true=>
    rw[f]at h;rcases i0.1 c with rfl|c
    ·obtain⟨e,p,g,y,b,a⟩:=((DP d).2 j).1 f;refine⟨e,p,g,?_⟩;rcases hH e.on j with k|l
     ·rcases a with a|a
      ·rw[m e.on y k b]at a;cases a
      ·omega
     ·exact l
    ·refine KL (recs:=recs++[{wr:=[],fp:=none,lo:=0,hi:=0,dst:=none,looks:=[],mask}]) (fun i y hi b=>?_) (by simp;omega) h x c
     rw[hP (by omega)]at b
     exact m i y hi b
theorem UB{E:Env}{b:Ask→Aa→Option (Bool×AV×Aa)}{all:Array Oper}{o:Oper}{t:T AV}{h:Aa}{d:Did}(a:Dj E b all o t h=some d)(c:d.ok=false):d.fp=none:=by
 unfold Dj at a;split at a
 ·cases a
 ·cases a;cases c
 ·split at a
  ·simp only at a;split at a
   ·cases a;cases c
   ·cases a
  ·split at a
   ·split at a
    ·cases a;rfl
    ·cases a
   ·split at a
    ·cases a;rfl
    ·cases a
   ·cases a;rfl
   ·cases a
section
variable {E:Env}{callF:Ask→Aa→Option (Bool×AV×Aa)}{all:Array Oper}{nt:Nat}{H:Nat→Aa}{Tm:Nat→T AV}{R:Nat→Rc}{Dd:Nat→Did}{n M:Nat}
 {ρ0 ρ σ:Ren}{w0 w w':World}{tm:Array Value}{D:Nat→Bool}(X:Ch E callF all nt H Tm R Dd n)
include X
omit X in
theorem Acg(ht:TR ρ0 nt (Tm 0) tm)(hr:HR ρ0 (H 0).blk.get w0)(hfree:AW ρ0 (H 0).nx M)(hD:∀i,D i=false):Inv nt H Tm R n M ρ0 w0 D ρ0 tm w0:=by
 have hno:∀i,D i≠true:=fun i h=>by rw[hD i]at h;cases h
 refine⟨fun j h=>absurd h (hno j),fun j h=>absurd h (hno j),ht.size,fun t x hx=>ht.get t x ?_,hr.weaken fun b x hb hx=>?_,fun b h1 h2 hb=>absurd (hfree b h1 h2) hb,Ren.le_refl _,G8.refl _,fun b base h=>.inl h,fun k hk hno=>rfl,fun k arr h=>.inl h⟩
 ·rw[LW (j:=0) (Aex _) fun i _ _ h=>absurd h (hno i)]at hx;exact hx
 ·rw[LN (j:=0) (Aex _) fun i _ _ h=>absurd h (hno i)]at hx;exact hx
theorem Ch.logs:∀{j:Nat},j≤n→∃l,(H j).log=l++(H 0).log∧∀b,b∉l→(b<(H 0).nx∨(H j).nx≤b)→(H j).blk.get b=(H 0).blk.get b
 |0,_=>⟨[],rfl,fun _ _ _=>rfl⟩
 |j+1,I=>by
  obtain⟨l,h1,h2⟩:=Ch.logs (j:=j) (by omega)
  obtain⟨o,_,g⟩:=X.good j (by omega)
  have J:=X.mono (i:=0) (j:=j) (by omega) (by omega)
  have hl:=X.lo (show j<n by omega)
  have hh:=X.hi (show j<n by omega)
  have r:=X.le (show j<n by omega)
  refine⟨(R j).wr++l,?_,fun b hb ho=>?_⟩
  ·rw[g.heap,g.wr,List.append_assoc,←h1];rfl
  ·simp only[Aes,not_or]at hb;rw[X.stay (by omega) hb.1 (by omega),h2 b hb.2 (by omega)]
theorem Ch.final(I:Inv nt H Tm R n M ρ0 w0 D ρ tm w)(hD:∀i,i<n→D i=true):TR ρ nt (Tm n) tm∧HR ρ (H n).blk.get w∧Ext ρ0 ρ (H 0) (H n) w0 w:=by
 have hno:∀i,i<n→D i≠false:=fun i hi h=>by rw[hD i hi]at h;cases h
 refine⟨⟨I.size,fun t x hx=>I.tmp t x ?_⟩,I.heap.weaken fun b x hb hx=>?_,⟨I.le,X.mono (Aex _) (R2 _),I.new,I.calm,I.kept,X.logs (R2 _),fun b hb=>?_,I.imm⟩⟩
 ·rw[X.tn_text (R2 _) fun i hi h=>absurd h (hno i hi)];exact hx
 ·rw[X.cn_text (R2 _) fun i hi h=>absurd h (hno i hi)];exact hx
 ·rcases hH b (H 0).nx with h|h
  ·exact .inl (X.live h (R2 _) hb)
  ·refine .inr ⟨h,?_⟩;rcases hH b (H n).nx with h'|h'
   ·exact h'
   ·exact absurd (X.wfAt (R2 _) b h') hb
omit X in
theorem St{j:Nat}{o:Oper}(t:Tx E callF all H Tm R Dd j o){e:Edge}(he:e∈o.after.toList)(hb:Region.binds .any e=true):e.on<j:=by
 obtain⟨x,hx⟩:=(DP t.mask).1 e he hb;have:=(L2.1 hx).1;simpa using this
omit X in
theorem V6{j:Nat}{o:Oper}(t:Tx E callF all H Tm R Dd j o)(hcl:∀j,D j=true→∀i,(R j).mask.testBit i=true→D i=true)
 (hon:∀e∈o.after.toList,Region.binds .any e=true→D e.on=true){i:Nat}(hi:(R j).mask.testBit i=true):D i=true:=by
 obtain⟨e,he,hb,x,hx,h⟩:=((DP t.mask).2 i).1 hi;have hlt:=St t he hb;rw[Aeo,Afb hlt]at hx;simp only[vx,C2]at hx;subst hx;rcases h with h|h
 ·exact hcl e.on (hon e he hb) i h
 ·rw[h];exact hon e he hb
end
end Go.AE
namespace Go.AE
variable [Gl:AG]
variable [U:Unk]
theorem OL:∀{l:List Bool}{i:Nat},l[i]?=some false→(l.set i true).count true=l.count true+1
 |[],i,h=>by cases h
 |b::l,0,h=>by
  simp only[gy,C2]at h;subst h;simp
 |b::l,i+1,h=>by
  have:=OL (l:=l) (i:=i) (by simpa using h)
  simp only[List.set_cons_succ,List.count_cons,this];omega
theorem Zb{a:Array Bool}{i:Nat}(hi:i<a.size):(fun j=>(a.setIfInBounds i true).getD j false)=ins (fun j=>a.getD j false) i:=by
 funext j
 simp only[ins,gg];by_cases e:j=i
 ·subst e;simp[hi]
 ·rw[if_neg e,vy (Ne.symm e)]
section
variable {E:Env}(hE:OK E){callF:Ask→Aa→Option (Bool×AV×Aa)}(hF:FN E callF){all:Array Oper}{nt:Nat}{H:Nat→Aa}{Tm:Nat→T AV}{R:Nat→Rc}{Dd:Nat→Did}{n M:Nat}
 {ρ0:Ren}{w0:World}{k:List Item}{cs:List Frame}(X:Ch E callF all nt H Tm R Dd n)
include hE hF X
theorem Ch.sched(hM:(H n).nx≤M)(b5:AW ρ0 (H 0).nx M)(ec:n≤all.size)
 (bs:n<all.size→∃o,all[n]?=some o∧Bad E callF all H Tm R Dd n o (all.toList.drop (n+1))) :
  ∀(al t:Nat)(J:Array Bool)(ρ:Ren)(w:World)(c:Frame),c.mode=.run→c.todo=.inRegion all (Region.linearise.go .any all al t J [])::k→J.size=all.size→
   all.size≤al+J.toList.count true→Inv nt H Tm R n M ρ0 w0 (fun i=>J.getD i false) ρ c.tmps w→
   ∃rest σ bd w' D',Inv nt H Tm R n M ρ0 w0 D' σ bd w'∧(∀i,i<n→D' i=true)∧Steps E.P (lone c cs w) (lone {c with tmps:=bd,todo:=.inRegion all rest::k} cs w')∧
    (n=all.size→rest=[])∧(n<all.size→∃r,rest=n::r):=by
 have dp:∀j,j<all.size→j≤n→∃o,all[j]?=some o∧Tx E callF all H Tm R Dd j o:=by
  intro j hj ed;rcases hH j n with h|h
  ·obtain⟨o,h1,h2⟩:=X.good j h;exact⟨o,h1,h2.tx⟩
  ·have:j=n:=by omega
   subst this;obtain⟨o,h1,h2⟩:=bs hj;exact⟨o,h1,h2.tx⟩
 have b1:∀(J:Array Bool)(ρ:Ren)(w:World)(c:Frame),J.size=all.size→c.todo=.inRegion all []::k→Inv nt H Tm R n M ρ0 w0 (fun i=>J.getD i false) ρ c.tmps w→(∀i,i<all.size→J.getD i false=true)→
   ∃rest σ bd w' D',Inv nt H Tm R n M ρ0 w0 D' σ bd w'∧(∀i,i<n→D' i=true)∧Steps E.P (lone c cs w) (lone {c with tmps:=bd,todo:=.inRegion all rest::k} cs w')∧
    (n=all.size→rest=[])∧(n<all.size→∃r,rest=n::r):=by
  intro J ρ w c bm ht I b2;refine⟨[],ρ,c.tmps,w,_,I,fun i hi=>b2 i (by omega),?_,fun _=>rfl,fun h=>?_⟩
  ·rw[←ht];exact Steps.refl _ _
  ·exact absurd (I.sub n (b2 n h)) (Nat.lt_irrefl _)
 intro al
 induction al with
 |zero=>
  intro t J ρ w c hm ht bm b9 I;refine b1 J ρ w c bm (by simpa[Region.linearise.go]using ht) I fun i hi=>?_
  have cc:J.toList.count true=J.toList.length:=by
   have:=List.count_le_length (a:=true) (l:=J.toList);have e:J.toList.length=J.size:=Array.length_toList;omega
  have:=(List.count_eq_length.1 cc) (J[i]'(by omega)) (by simp)
  rw[gg];simp[bm,hi,←this]
 |succ al ih=>
  intro t J ρ w c hm ht bm b9 I
  have cd:Region.linearise.go .any all (al+1) t J []=(match (Region.ready .any all J)[t%(Region.ready .any all J).length]? with
   |some i=>Region.linearise.go .any all al (t/(Region.ready .any all J).length) (J.setIfInBounds i true) [i]
   |none=>[].reverse):=rfl
  cases hi:(Region.ready .any all J)[t%(Region.ready .any all J).length]? with
  |none=>
   have cf:Region.ready .any all J=[]:=by
    cases hr:Region.ready .any all J with
    |nil=>rfl
    |cons x xs=>
     rw[hr]at hi;have b6:t%(x::xs).length<(x::xs).length:=Nat.mod_lt _ (by simp)
     simp at hi;simp at b6;omega
   rw[cd,hi]at ht;refine b1 J ρ w c bm ht I fun i=>?_
   induction i using Nat.strongRecOn with
   |ind i ch=>
    intro bn;cases ck:J.getD i false with
    |true=>rfl
    |false=>
     exfalso
     have an:i≤n:=by
      rcases hH n i with h|h
      ·exact absurd (I.sub n (ch n h (by omega))) (Nat.lt_irrefl _)
      ·exact h
     obtain⟨o,ho,tx⟩:=dp i bn an
     have:i∈Region.ready .any all J:=by
      unfold Region.ready;rw[List.mem_filter];refine⟨by simpa using bn,?_⟩
      have h1:J.getD i true=false:=by
       rw[gg]at ck ⊢;have:i<J.size:=by omega
       simpa[this]using ck
      simp only[h1,ho,vx,Afd,Bool.not_false,Aff];rw[Array.all_eq_true_iff_forall_mem];intro e he;cases hb:Region.binds .any e with
      |false=>rfl
      |true=>
       have b6:=St tx (by simpa using he) hb
       simp[ch e.on b6 (by omega)]
     rw[cf]at this;cases this
  |some i=>
   have bv:i∈Region.ready .any all J:=tl hi;rw[cd,hi]at ht;simp only at ht;rw[linearise_go_acc,List.reverse_singleton,List.singleton_append]at ht;unfold Region.ready at bv;rw[List.mem_filter]at bv;obtain⟨bn,b0⟩:=bv;simp only[List.mem_range]at bn;simp only[F9,Ae4]at b0;obtain⟨cm,ar⟩:=b0
   have be:J.getD i false=false:=by
    rw[gg]at cm ⊢;have:i<J.size:=by omega
    simpa[this]using cm
   have b7:∀o,all[i]?=some o→∀e∈o.after.toList,Region.binds .any e=true→J.getD e.on false=true:=by
    intro o ho e he hb;rw[ho]at ar;simp only[vx,Afd]at ar;rw[Array.all_eq_true_iff_forall_mem]at ar;have:=ar e (by simpa using he)
    simpa[hb]using this
   rcases Nat.lt_trichotomy i n with an|an|an
   ·obtain⟨o,ho,g⟩:=X.good i an;have av:∀q,(R i).mask.testBit q=true→(fun i=>J.getD i false) q=true:=fun q hq=>V6 (D:=fun i=>J.getD i false) g.tx I.closed (b7 o ho) hq
    have hD:(fun i=>J.getD i false) i=false:=be
    have cv:=X.tagree I an hD av;rw[g.looks]at cv;have ee:=X.lo an;have ds:=X.hi an;have ef:=X.mono (i:=0) (j:=i) (by omega) (by omega)
    have eg:=X.mono (i:=i+1) (j:=n) (by omega) (by omega)
    rw[g.hi]at ds
    have du:AW ρ (H i).nx (Dd i).g.nx:=by
     intro b h1 h2;cases hb:ρ b with
     |none=>rfl
     |some base=>
      obtain⟨j',b8,ea⟩:=I.free b (by omega) (by omega) (by rw[hb];exact F2 _)
      have:=X.disj an (I.sub j' b8) ⟨by omega,by rw[g.hi];exact h2⟩ ea
      subst this;rw[be]at b8;cases b8
    obtain⟨σ,v',w',q1,q2,q3,q4⟩:=O6 hE hF (cs:=cs) g.tx.did (X.wfAt (by omega)) hm ht ho cv (I.heap.weaken fun b x hb hx=>X.agree I hM an hD av hb hx) du
    have I':=X.step I hM b5 an hD av q2 q3 q4;rw[←Zb (by omega)]at I'
    rw[g.ok]at q1
    have dd:c.finish v'={c with tmps:=Jl c.tmps (R i).dst v',todo:=.inRegion all (Region.linearise.go .any all al (t/(Region.ready .any all J).length) (J.setIfInBounds i true) [])::k}:=by
     simp only[Frame.finish,ht,ho,Option.bind_some,Jl,g.dst];cases o.dst<;>rfl
    simp only[BI]at q1;rw[dd]at q1
    obtain⟨rest,τ,bd,w2,D',r1,r2,r3,r4,r5⟩:=ih _ (J.setIfInBounds i true) σ w' {c with tmps:=Jl c.tmps (R i).dst v',todo:=.inRegion all (Region.linearise.go .any all al (t/(Region.ready .any all J).length) (J.setIfInBounds i true) [])::k} hm rfl (by simp[bm]) (by
     rw[Array.toList_setIfInBounds,OL]
     ·omega
     ·have:i<J.size:=by omega
      rw[gg]at be;simpa[this]using be) I'
    exact⟨rest,τ,bd,w2,D',r1,r2,Steps.trans q1 r3,r4,r5⟩
   ·subst an;obtain⟨o,ho,b⟩:=bs bn;refine⟨i::Region.linearise.go .any all al (t/(Region.ready .any all J).length) (J.setIfInBounds i true) [],ρ,c.tmps,w,_,I,fun q hq=>?_,?_,fun h=>by omega,fun _=>⟨_,rfl⟩⟩
    ·refine V6 (D:=fun i=>J.getD i false) b.tx I.closed (b7 o ho) ?_
     have:(R i).mask=2^i-1:=by have:=b.all;omega
     rw[this,Nat.testBit_two_pow_sub_one];simpa using hq
    ·rw[←ht];exact Steps.refl _ _
   ·exfalso
    obtain⟨o,ho,b⟩:=bs (by omega)
    obtain⟨recs,a1,a2,a3⟩:=b.after;have eb:all[i]?=some all[i]:=by simp[bn]
    have:=KL (recs:=recs++[{wr:=[],fp:=none,lo:=0,hi:=0,dst:=none,looks:=[],mask:=(R n).mask}]) (fun q x hq hx=>?_) (by simp[a1]) a3 all[i] ?_
    ·obtain⟨e,he,hb,ei⟩:=this;have:=b7 _ eb e he hb;have:=I.sub e.on this;omega
    ·rw[hP (by omega),a2,Aeo,Afb hq]at hx
     simp only[vx,C2]at hx;subst hx;cases df:(R q).mask.testBit n with
     |false=>rfl
     |true=>have:=X.bits hq df;omega
    ·rw[List.mem_iff_getElem?];refine⟨i-(n+1),?_⟩;rw[q0];rw[show n+1+(i-(n+1))=i by omega]
     simp
end
end Go.AE
namespace Go.AE
variable [Gl:AG]
variable [U:Unk]
theorem Gk{f:AF}{cs:List AF}{v b:AV}{h c:Aa}{ok:Bool}(a:CI f cs v h=.done ok b c):cs=[]∧f.kind=.normal∧ok=true∧b=v∧c=h:=by
 unfold CI at a;split at a
 ·split at a
  ·split at a<;>cases a
  ·split at a<;>cases a
  ·cases a
 ·split at a
  ·rename_i d;cases a;exact⟨rfl,d,rfl,rfl,rfl⟩
  ·cases a
theorem FW{f:AF}{cs:List AF}{v:AV}{h:Aa}{s:AS}{ops:Array Oper}{k:List AI}:CI f cs v h≠.draw s ops k:=by
 intro a;unfold CI at a;split at a
 ·split at a
  ·split at a<;>cases a
  ·split at a<;>cases a
  ·cases a
 ·split at a<;>cases a
theorem E1{E:Env}{f:AF}{cs:List AF}{r:Res}:(∃s,BS E f cs r=.next s)∨∃y,BS E f cs r=.bad y:=by
 cases r<;>simp only[BS]<;>repeat' (first|exact .inl ⟨_,rfl⟩|exact .inr ⟨_,rfl⟩|split)
theorem I4{E:Env}{s:AS}{f:Operand}{c:List Tmp}{a b:Code}{k:List AI}:(∃d,Hx E s f c a b k=.next d)∨∃y,Hx E s f c a b k=.bad y:=by
 unfold Hx
 repeat' (first|exact .inl ⟨_,rfl⟩|exact .inr ⟨_,rfl⟩|split)
theorem E2{f:AF}{cs:List AF}{h:Aa}{j:Option Code}{s:AS}{ops:Array Oper}{k:List AI}:DS f cs h j≠.draw s ops k:=by
 intro a;unfold DS at a;split at a
 ·split at a<;>cases a
 ·split at a
  ·exact FW a
  ·cases a
theorem Ph{E:Env}{f:AF}{cs:List AF}{h:Aa}{s:AS}{ops:Array Oper}{k:List AI}:Eb E f cs h≠.draw s ops k:=by
 intro a;unfold Eb at a;split at a
 ·split at a
  ·split at a<;>cases a
  ·split at a
   ·split at a<;>cases a
   ·cases a
 ·split at a
  ·cases a
  ·split at a
   ·split at a<;>cases a
   ·split at a
    ·split at a<;>cases a
    ·cases a
  ·split at a
   ·split at a
    ·exact FW a
    ·exact FW a
    ·cases a
   ·cases a
theorem Es{E:Env}{s b:AS}{ops:Array Oper}{k:List AI}(a:A6 E s=.draw b ops k):b=s∧s.fr.mode=.run∧∃id,s.fr.todo=.code (.region id ops true)::k:=by
 unfold A6 at a;simp only at a;split at a
 ·rename_i d;split at a
  ·exact absurd a E2
  ·cases a
  ·cases a
  ·cases a
  ·cases a
  ·split at a
   ·rcases E1 (E:=E) (f:=s.fr) (cs:=s.cs) (r:=aop E s.fr.tmps s.h _)with⟨y,h⟩|⟨y,h⟩<;>(rw[h]at a;cases a)
   ·rcases E1 (E:=E) (f:=s.fr) (cs:=s.cs) (r:=.val .undef s.h)with⟨y,h⟩|⟨y,h⟩<;>(rw[h]at a;cases a)
   ·cases a
  ·cases a
  ·cases a
  ·cases a
  ·split at a
   ·split at a<;>cases a
   ·cases a
  ·split at a
   ·split at a<;>cases a
   ·cases a
  ·rename_i c k2 e;split at a
   ·exact absurd a E2
   ·cases a
   ·cases a
   ·cases a
   ·split at a
    ·cases a
    ·cases a
    ·split at a
     ·split at a<;>cases a
     ·cases a
    ·cases a
   ·cases a
   ·cases a
   ·cases a
   ·split at a
    ·cases a
    ·split at a
     ·cases a
     ·exact absurd a E2
   ·split at a
    ·cases a
    ·split at a
     ·cases a
     ·exact absurd a E2
   ·rcases I4 (E:=E) (s:=s)with⟨y,h⟩|⟨y,h⟩<;>(rw[h]at a;cases a)
   ·split at a
    ·cases a
    ·cases a;exact⟨rfl,d,_,e⟩
   ·cases a
 ·exact absurd a Ph
end Go.AE
namespace Go.AE
variable [Gl:AG]
variable [U:Unk]
def wD(ok:Bool)(v:Value):Ending:=match ok with
 |true=>.returned v
 |false=>.panicked [{v:=v,recovered:=false}]
def kU(c0:Frame)(ok:Bool)(v:Value):Frame:=match ok with
 |true=>c0.finish v
 |false=>c0.raise [{v:=v,recovered:=false}]
structure Jo(P:Program)(cf:Frame)(w:World)(ok:Bool)(v':Value)(w':World):Prop where
 back:∀(c0:Frame)(base:List Frame),step P (lone cf (c0::base) w)=.next (lone (kU c0 ok v') base w')
 leaves:cf.roundOf=none→w'=w∧cf.leaving P w (wD ok v')
section
variable {E:Env}(hE:OK E){ρ:Ren}{h h2:Aa}{w:World}{c:Frame}{f:AF}{cs:List AF}{ccs base:List Frame}{s s':AS}{ok:Bool}{v:AV}
theorem FrL.nil_inv{ρ:Ren}{l:List Frame}(h:FrL ρ [] l):l=[]:=by cases h;rfl
theorem EO(p:HR ρ h.blk.get w)(n:FrR ρ f c)(q:c.mode=.run){a:Option Code}
 (r:(c.todo=[]∧a=none)∨(∃k,c.todo=.code .ret::k∧a=some .ret)∨(∃id k,c.todo=.code (.exit id)::k∧exitTo id k=none∧a=some (.exit id))∨(∃l k,c.todo=.code (.goto l)::k∧gotoIn l k=none∧a=some (.goto l)))
 (g:DS f cs h a=.done ok v h2):cs=[]∧∃o i,VR ρ v o∧HR ρ h2.blk.get i∧Ext ρ ρ h h2 w i∧Jo E.P c w ok o i:=by
 have e:=n.round;unfold DS at g;split at g
 ·split at g<;>cases g
 ·rename_i l m;rw[m]at e;obtain⟨b,t,j⟩:=e.some_inv;split at g
  ·rename_i st pending fn nt tmps params assign body d u;obtain⟨i,x,y,z⟩:=KN (E:=E) p t u a;obtain⟨rfl,A,rfl,rfl,rfl⟩:=Gk g;refine⟨rfl,_,i,.bool _,y,z,⟨fun c0 base=>RJ q j (n.kind.trans A) r x,fun h=>by rw[j]at h;cases h⟩⟩
  ·cases g
include hE
theorem P7(u:HR ρ h.blk.get w)(k:FrR ρ f c)(L:c.mode≠.run)(d:Eb E f cs h=.done ok v h2):cs=[]∧∃m z,VR ρ v m∧HR ρ h2.blk.get z∧Ext ρ ρ h h2 w z∧Jo E.P c w ok m z:=by
 have g:=k.defers;unfold Eb at d;split at d
 ·split at d
  ·split at d<;>cases d
  ·split at d
   ·split at d<;>cases d
   ·cases d
 ·rename_i A;rw[A]at g
  have i:c.defers=[]:=by
   cases i:c.defers with
   |nil=>rfl
   |cons M J=>rw[i]at g;exact g.elim
  have b:=k.mode;split at d
  ·cases d
  ·rename_i B p;rw[p]at b;split at d
   ·split at d<;>cases d
   ·split at d
    ·split at d
     ·rename_i fn q;cases d;generalize j:c.mode=N at b;cases b with
      |panic _ C y=>
       cases C with
       |nil=>exact y.elim
       |cons e r=>
        obtain⟨G,h2,H,K⟩:=y;cases r with
        |cons _ _=>exact K.elim
        |nil=>
         obtain⟨I,O,Q⟩:=e;simp only at G h2 H;subst h2;subst H;have n:c.leaving E.P w (.panicked [{v:=I,recovered:=false}]):=⟨j,i,fn,by rw[k.fn];exact hE.fn _ _ q⟩
         exact⟨rfl,I,w,G,u,Ext.refl _ _ _,⟨fun c0 base=>step_leave_panicked n,fun _=>⟨rfl,n⟩⟩⟩
     ·cases d
    ·cases d
  ·rename_i p;rw[p]at b
   have j:c.mode=.returning:=by
    generalize c.mode=x at b;cases b;rfl
   split at d
   ·rename_i fn q;have o:E.P.funcs[c.fn]?=some fn:=by rw[k.fn];exact hE.fn _ _ q
    split at d
    ·rename_i v t;obtain⟨m,p1,p2,p3⟩:=Ga hE u k t;obtain⟨rfl,D,rfl,rfl,rfl⟩:=Gk d;have n:c.leaving E.P w (.returned m):=⟨j,i,k.kind.trans D,fn,o,p1⟩;exact⟨rfl,m,w,p2 _ rfl,u,Ext.refl _ _ _,⟨fun c0 base=>step_leave_returned n,fun _=>⟨rfl,n⟩⟩⟩
    ·rename_i l F t;obtain⟨m,p1,p2,p3⟩:=Ga hE u k t;obtain⟨rfl,D,rfl,rfl,rfl⟩:=Gk d;have n:c.leaving E.P w (.returned m):=⟨j,i,k.kind.trans D,fn,o,p1⟩;exact⟨rfl,m,w,p3 fun a e=>F a (by rw[e]),u,Ext.refl _ _ _,⟨fun c0 base=>step_leave_returned n,fun _=>⟨rfl,n⟩⟩⟩
    ·cases d
   ·cases d
theorem Ix(d:SR ρ s c ccs w)(b:A6 E s=.done ok v h2):ccs=[]∧∃n j,VR ρ v n∧HR ρ h2.blk.get j∧Ext ρ ρ s.h h2 w j∧Jo E.P c w ok n j:=by
 have g:=d.fr.mode;have e:=d.fr.todo
 suffices z:s.cs=[]∧∃n j,VR ρ v n∧HR ρ h2.blk.get j∧Ext ρ ρ s.h h2 w j∧Jo E.P c w ok n j by
  obtain⟨A,h2⟩:=z;have o:=d.cs;rw[A]at o;exact⟨o.nil_inv,h2⟩
 unfold A6 at b;simp only at b;split at b
 ·rename_i l;rw[l]at g
  have p:c.mode=.run:=by
   generalize c.mode=x at g;cases g;rfl
  split at b
  ·rename_i q;rw[q]at e;generalize i:c.todo=td at e;cases e;exact EO d.h d.fr p (.inl ⟨i,rfl⟩) b
  ·cases b
  ·cases b
  ·cases b
  ·cases b
  ·split at b
   ·rcases E1 (E:=E) (f:=s.fr) (cs:=s.cs) (r:=aop E s.fr.tmps s.h _)with⟨y,h⟩|⟨y,h⟩<;>(rw[h]at b;cases b)
   ·rcases E1 (E:=E) (f:=s.fr) (cs:=s.cs) (r:=.val .undef s.h)with⟨y,h⟩|⟨y,h⟩<;>(rw[h]at b;cases b)
   ·cases b
  ·cases b
  ·cases b
  ·cases b
  ·split at b
   ·split at b<;>cases b
   ·cases b
  ·split at b
   ·split at b<;>cases b
   ·cases b
  ·rename_i B k q;rw[q]at e;generalize i:c.todo=td at e;cases e with|cons a u=>
   cases a;split at b
   ·exact EO d.h d.fr p (.inr (.inl ⟨_,i,rfl⟩)) b
   ·cases b
   ·cases b
   ·cases b
   ·split at b
    ·cases b
    ·cases b
    ·split at b
     ·split at b<;>cases b
     ·cases b
    ·cases b
   ·cases b
   ·cases b
   ·cases b
   ·split at b
    ·cases b
    ·rename_i t;split at b
     ·cases b
     ·rename_i m;exact EO d.h d.fr p (.inr (.inr (.inl ⟨_,_,i,(MB u).2 t m,rfl⟩))) b
   ·split at b
    ·cases b
    ·rename_i t;split at b
     ·cases b
     ·rename_i m;exact EO d.h d.fr p (.inr (.inr (.inr ⟨_,_,i,(MC u).2 t m,rfl⟩))) b
   ·rcases I4 (E:=E) (s:=s)with⟨y,h⟩|⟨y,h⟩<;>(rw[h]at b;cases b)
   ·split at b<;>cases b
   ·cases b
 ·rename_i l;exact P7 hE d.h d.fr (HM.not_run g l) b
end
end Go.AE
namespace Go.AE
variable [Gl:AG]
@[reducible] def Adp:Unk:={facts:=[],V:=⟨fun _=>default,fun _ d=>d⟩,K:=fun _=>none,R:=[],hR:=fun _ _ _ _ _ h=>(by cases h),ok:=by simp}
def He:SE→SE
 |.nilIs y _=>He y
 |.nilL=>.c 0
 |.emptyL=>.c 0
 |.upd a _ _ _=>He a
 |.cat a b=>match He a with
  |.c n=>match n==0 with
   |true=>He b
   |false=>.lenL (.cat a b)
  |_=>.lenL (.cat a b)
 |.snoc a r=>match He a with
  |.c n=>.c (n+1)
  |_=>.lenL (.snoc a r)
 |x=>.lenL x
def J1:SE→SE
 |.nilIs _ b=>b
 |.nilL=>.bc true
 |.emptyL=>.bc false
 |.snoc _ _=>.bc false
 |.rep _ _=>.bc false
 |.upd a _ _ _=>J1 a
 |x=>.isNil x
def YP:SE→SE→SE
 |.bc true,b=>b
 |.bc false,_=>.bc false
 |_,.bc false=>.bc false
 |a,.bc true=>a
 |a,b=>.and a b
def SE.isB:SE→Bool
 |.bc _=>true
 |.lss _ _=>true
 |.eql _ _=>true
 |.eqS _ _ _=>true
 |.eqSS _ _=>true
 |.isNil _=>true
 |.neg _=>true
 |.and _ _=>true
 |_=>false
def vC:SE→SE
 |.bc b=>.bc (!b)
 |x=>.neg x
def ii:SE→SE→SE
 |.c n,.c m=>.bc (n==m)
 |a,b=>match a.same b with
  |true=>.bc true
  |false=>.eql a b
def hU:SE→SE→SE
 |.c n,.c m=>.bc (decide (n<m))
 |a,b=>.lss a b
def SE.norm:SE→SE
 |.lenL a=>He a.norm
 |.isNil a=>match (J1 a.norm).isB with
  |true=>J1 a.norm
  |false=>.isNil a.norm
 |.and a b=>match (YP a.norm b.norm).isB with
  |true=>YP a.norm b.norm
  |false=>.and a.norm b.norm
 |.neg a=>vC a.norm
 |.nilIs a b=>.nilIs a.norm b.norm
 |.eql a b=>ii a.norm b.norm
 |.lss a b=>hU a.norm b.norm
 |.arith l k a b=>.arith l k a.norm b.norm
 |.cell a i j=>.cell a.norm i.norm j
 |.snoc a r=>.snoc a.norm r.norm
 |.rcons x r=>.rcons x.norm r.norm
 |.upd a i j x=>.upd a.norm i.norm j x.norm
 |.sel a j=>.sel a.norm j
 |.app g a=>.app g a.norm
 |.cat a b=>.cat a.norm b.norm
 |.rmv a i=>.rmv a.norm i.norm
 |.mIdx ks a k=>.mIdx ks a.norm k.norm
 |e=>e
theorem Y6(V:Val):∀x:SE,Ab V (He x)=.int ((Ab V x).rows.length:Nat):=by
 intro x
 induction x
 case nilIs y b ih _=>simp only[He,ih,Ab,D.rows]
 case upd a i j x ih _ _=>simp only[He,ih,Ab,D.rows,List.length_modify]
 case cat a b c d=>
  simp only[He];split
  ·rename_i n h;split
   ·rename_i f;have f:=eq_of_beq f;subst f;rw[h]at c
    have g:(Ab V a).rows.length=0:=by
     simp only[Ab,D.int.injEq]at c;omega
    rw[d];have e:(Ab V (.cat a b)).rows=(Ab V a).rows++(Ab V b).rows:=rfl;rw[e,pc,g,s0]
   ·rfl
  ·rfl
 case snoc a r ih _=>
  simp only[He];split
  ·rename_i n h;rw[h]at ih;simp only[Ab,D.int.injEq,D.rows,pc,List.length_singleton]at ih ⊢;omega
  ·rfl
 all_goals rfl
theorem XF(V:Val):∀x:SE,(J1 x).isB=true→Ab V (J1 x)=.bool (Ab V x).isNil:=by
 intro x
 induction x<;>intro c<;>first|rfl|skip
 case upd a i j x ih _ _=>exact ih c
 case nilIs y b _ _=>
  simp only[J1]at c ⊢;cases b<;>first|rfl | (simp[SE.isB]at c;done)|skip
theorem Ps(V:Val){x:SE}(h:x.isB=true):Ab V x=.bool (Ab V x).toBool:=by
 cases x<;>first|rfl | (simp[SE.isB]at h;done)
theorem eo(V:Val)(a b:SE)(h:(YP a b).isB=true):Ab V (YP a b)=Ab V (.and a b):=by
 unfold YP at h ⊢;split
 ·simp only at h;rw[Ps V h];simp only[Ab,D.toBool,Aff]
 ·simp only[Ab,D.toBool,Bool.false_and]
 ·simp only[Ab,D.toBool,Bool.and_false]
 ·simp only at h;rw[Ps V h];simp only[Ab,D.toBool,Bool.and_true]
 ·rfl
theorem cV(V:Val)(a b:SE):Ab V (ii a b)=Ab V (.eql a b):=by
 unfold ii;split
 ·rfl
 ·split
  ·rename_i h;rw[SE.same_ok (U:=Adp) h];simp only[Ab,beq_self_eq_true]
  ·rfl
theorem di(V:Val)(a b:SE):Ab V (hU a b)=Ab V (.lss a b):=by
 unfold hU;split<;>rfl
theorem Cz(V:Val):∀e:SE,Ab V e.norm=Ab V e:=by
 intro e
 induction e
 case lenL a ih=>simp only[SE.norm,Y6,ih];rfl
 case isNil a ih=>
  simp only[SE.norm];split
  ·rename_i h;rw[XF V _ h,ih];rfl
  ·simp only[Ab,ih]
 case and a b c d=>
  simp only[SE.norm];split
  ·rename_i h;rw[eo V _ _ h];simp only[Ab,c,d]
  ·simp only[Ab,c,d]
 case neg a ih=>
  simp only[SE.norm];unfold vC;split
  ·rename_i b h;rw[h]at ih;simp only[Ab]at ih ⊢;rw[←ih];rfl
  ·simp only[Ab,ih]
 case eql a b c d=>simp only[SE.norm,cV,Ab,c,d]
 case lss a b c d=>simp only[SE.norm,di,Ab,c,d]
 all_goals simp_all only[SE.norm,Ab]
end Go.AE
namespace Go.AE
variable [Gl:AG]
def eqD{c:Type}[DecidableEq c](a b:c):Bool:=decide (a=b)
theorem CA{c:Type}[DecidableEq c]{a b:c}(h:eqD a b=true):a=b:=of_decide_eq_true h
theorem Bf{i j:Nat}(h:Nat.beq i j=true):i=j:=gk h
def Qb:Value→Value→Bool
 |.bool a,.bool b=>eqD a b
 |.int k a,.int c b=>eqD k c&&eqD a b
 |.string a,.string b=>eqD a.data.toList b.data.toList
 |.pointer none,.pointer none=>true
 |.slice none a b,.slice none d e=>Nat.beq a d&&Nat.beq b e
 |.map none,.map none=>true
 |.nilFunc,.nilFunc=>true
 |.nilIface,.nilIface=>true
 |_,_=>false
theorem TW{a b:Value}(h:Qb a b=true):a=b:=by
 unfold Qb at h;split at h<;>first|rfl | (cases h;done)|skip
 ·rw[CA h]
 ·simp only[F9]at h;rw[CA h.1,CA h.2]
 ·rename_i a b;have:=CA h
  have e:a=b:=by
   cases a;cases b;simp only[ByteArray.mk.injEq];exact Array.ext' this
  rw[e]
 ·simp only[F9]at h;rw[Bf h.1,Bf h.2]
def AH:Operand→Operand→Bool
 |.tmp a,.tmp b=>Nat.beq a b
 |.const a,.const b=>Qb a b
 |.global a,.global b=>Nat.beq a b
 |.func a,.func b=>Nat.beq a b
 |_,_=>false
theorem Au{a b:Operand}(h:AH a b=true):a=b:=by
 unfold AH at h;split at h<;>first | (cases h;done)|skip
 ·rw[Bf h]
 ·rw[TW h]
 ·rw[Bf h]
 ·rw[Bf h]
def KA{c:Type}(d:c→c→Bool):List c→List c→Bool
 |[],[]=>true
 |a::l,b::m=>d a b&&KA d l m
 |_,_=>false
theorem Hu{c:Type}{d:c→c→Bool}(e:∀a b,d a b=true→a=b):∀{l m:List c},KA d l m=true→l=m
 |[],[],_=>rfl
 |a::l,b::m,h=>by
  simp only[KA,F9]at h;rw[e a b h.1,Hu e h.2]
 |[],_::_,h=>by cases h
 |_::_,[],h=>by cases h
def Lb{c:Type}(d:c→c→Bool)(a b:Array c):Bool:=KA d a.toList b.toList
theorem ED{c:Type}{d:c→c→Bool}(e:∀a b,d a b=true→a=b){a b:Array c}(h:Lb d a b=true):a=b:=Array.ext' (Hu e h)
def VS(a b:Array Operand):Bool:=Lb AH a b
theorem MH{a b:Array Operand}(h:VS a b=true):a=b:=ED (fun _ _=>Au) h
def j3(a b:Array (Nat×Operand)):Bool:=Lb (fun x y=>Nat.beq x.1 y.1&&AH x.2 y.2) a b
theorem Ws{a b:Array (Nat×Operand)}(h:j3 a b=true):a=b:=ED (fun x y h=>by
 simp only[F9]at h;exact Prod.ext (Bf h.1) (Au h.2)) h
def Sz{c:Type}(d:c→c→Bool):Option c→Option c→Bool
 |none,none=>true
 |some a,some b=>d a b
 |_,_=>false
theorem JK{c:Type}{d:c→c→Bool}(e:∀a b,d a b=true→a=b){a b:Option c}(h:Sz d a b=true):a=b:=by
 cases a<;>cases b<;>first|rfl | (cases h;done)|skip
 rw[e _ _ h]
def ZB(a b:Option Operand):Bool:=Sz AH a b
theorem Ly{a b:Option Operand}(h:ZB a b=true):a=b:=JK (fun _ _=>Au) h
def ZG:Fn→Fn→Bool
 |.func f,.func g=>Nat.beq f g
 |.method n,.method m=>eqD n m
 |_,_=>false
theorem ay{a b:Fn}(h:ZG a b=true):a=b:=by
 unfold ZG at h;split at h<;>first | (cases h;done)|skip
 ·rw[Bf h]
 ·rw[CA h]
def Mx:Callee→Callee→Bool
 |.value f,.value g=>AH f g
 |.invoke r n,.invoke a c=>AH r a&&eqD n c
 |.builtin b,.builtin d=>eqD b d
 |_,_=>false
theorem SA{a b:Callee}(h:Mx a b=true):a=b:=by
 unfold Mx at h;split at h<;>first | (cases h;done)|skip
 ·rw[Au h]
 ·simp only[F9]at h;rw[Au h.1,CA h.2]
 ·rw[CA h]
def P6(a b:Call):Bool:=Mx a.callee b.callee&&VS a.args b.args&&Lb Nat.beq a.argTypes b.argTypes
theorem OJ{a b:Call}(h:P6 a b=true):a=b:=by
 cases a;cases b;simp only[P6,F9]at h;simp only[Call.mk.injEq];exact⟨SA h.1.1,MH h.1.2,ED (fun _ _=>Bf) h.2⟩
def lm:Op→Op→Bool
 |.move x0,.move a=>AH x0 a
 |.assign x0,.assign a=>AH x0 a
 |.pick x0 x1 x2,.pick a y1 y2=>AH x0 a&&AH x1 y1&&AH x2 y2
 |.alloc x0,.alloc a=>Nat.beq x0 a
 |.box x0 x1,.box a y1=>Nat.beq x0 a&&AH x1 y1
 |.build x0 x1,.build a y1=>Nat.beq x0 a&&j3 x1 y1
 |.buildSlice x0 x1 x2,.buildSlice a y1 y2=>Nat.beq x0 a&&Nat.beq x1 y1&&j3 x2 y2
 |.insert x0 x1 x2 x3,.insert a y1 y2 y3=>Nat.beq x0 a&&AH x1 y1&&AH x2 y2&&AH x3 y3
 |.load x0 x1,.load a y1=>Nat.beq x0 a&&AH x1 y1
 |.store x0 x1 x2,.store a y1 y2=>Nat.beq x0 a&&AH x1 y1&&AH x2 y2
 |.ready x0,.ready a=>Nat.beq x0 a
 |.waits x0,.waits a=>Nat.beq x0 a
 |.nilCheck x0,.nilCheck a=>AH x0 a
 |.binOp x0 x1 x2 x3 x4,.binOp a y1 y2 y3 y4=>eqD x0 a&&Nat.beq x1 y1&&AH x2 y2&&AH x3 y3&&Nat.beq x4 y4
 |.unOp x0 x1 x2,.unOp a y1 y2=>eqD x0 a&&Nat.beq x1 y1&&AH x2 y2
 |.convert x0 x1 x2,.convert a y1 y2=>Nat.beq x0 a&&Nat.beq x1 y1&&AH x2 y2
 |.sliceToArrayPointer x0 x1,.sliceToArrayPointer a y1=>Nat.beq x0 a&&AH x1 y1
 |.makeInterface x0 x1,.makeInterface a y1=>Nat.beq x0 a&&AH x1 y1
 |.makeFunc x0 x1 x2,.makeFunc a y1 y2=>ZG x0 a&&VS x1 y1&&VS x2 y2
 |.makeMap x0 x1,.makeMap a y1=>Nat.beq x0 a&&ZB x1 y1
 |.makeSlice x0 x1 x2,.makeSlice a y1 y2=>Nat.beq x0 a&&AH x1 y1&&AH x2 y2
 |.slice x0 x1 x2 x3 x4,.slice a y1 y2 y3 y4=>Nat.beq x0 a&&AH x1 y1&&ZB x2 y2&&ZB x3 y3&&ZB x4 y4
 |.fieldAddr x0 x1 x2,.fieldAddr a y1 y2=>Nat.beq x0 a&&AH x1 y1&&Nat.beq x2 y2
 |.field x0 x1 x2,.field a y1 y2=>Nat.beq x0 a&&AH x1 y1&&Nat.beq x2 y2
 |.indexAddr x0 x1 x2,.indexAddr a y1 y2=>Nat.beq x0 a&&AH x1 y1&&AH x2 y2
 |.index x0 x1 x2,.index a y1 y2=>Nat.beq x0 a&&AH x1 y1&&AH x2 y2
 |.lookup x0 x1 x2 x3,.lookup a y1 y2 y3=>Nat.beq x0 a&&AH x1 y1&&AH x2 y2&&eqD x3 y3
 |.mapUpdate x0 x1 x2 x3,.mapUpdate a y1 y2 y3=>Nat.beq x0 a&&AH x1 y1&&AH x2 y2&&AH x3 y3
 |.mapEntry x0 x1 x2,.mapEntry a y1 y2=>Nat.beq x0 a&&AH x1 y1&&AH x2 y2
 |.entryStore x0 x1 x2 x3,.entryStore a y1 y2 y3=>Nat.beq x0 a&&AH x1 y1&&AH x2 y2&&AH x3 y3
 |.range x0 x1,.range a y1=>Nat.beq x0 a&&AH x1 y1
 |.next x0 x1,.next a y1=>AH x0 a&&eqD x1 y1
 |.entry x0,.entry a=>AH x0 a
 |.typeAssert x0 x1 x2 x3,.typeAssert a y1 y2 y3=>AH x0 a&&Nat.beq x1 y1&&Nat.beq x2 y2&&eqD x3 y3
 |.extract x0 x1,.extract a y1=>AH x0 a&&Nat.beq x1 y1
 |.call x0,.call a=>P6 x0 a
 |.defer x0,.defer a=>P6 x0 a
 |.panic x0,.panic a=>AH x0 a
 |_,_=>false
set_option maxHeartbeats 4000000 in
theorem eA:∀{a b:Op},lm a b=true→a=b:=by
 intro a b h;cases a<;>cases b<;>simp only[lm,ie,F9]at h
 case move.move=>have c:=h;rw[Au c]
 case assign.assign=>have c:=h;rw[Au c]
 case pick.pick=>obtain⟨⟨c,d⟩,e⟩:=h;rw[Au c,Au d,Au e]
 case alloc.alloc=>have c:=h;rw[Bf c]
 case box.box=>obtain⟨c,d⟩:=h;rw[Bf c,Au d]
 case build.build=>obtain⟨c,d⟩:=h;rw[Bf c,Ws d]
 case buildSlice.buildSlice=>obtain⟨⟨c,d⟩,e⟩:=h;rw[Bf c,Bf d,Ws e]
 case insert.insert=>obtain⟨⟨⟨c,d⟩,e⟩,f⟩:=h;rw[Bf c,Au d,Au e,Au f]
 case load.load=>obtain⟨c,d⟩:=h;rw[Bf c,Au d]
 case store.store=>obtain⟨⟨c,d⟩,e⟩:=h;rw[Bf c,Au d,Au e]
 case ready.ready=>have c:=h;rw[Bf c]
 case waits.waits=>have c:=h;rw[Bf c]
 case nilCheck.nilCheck=>have c:=h;rw[Au c]
 case binOp.binOp=>obtain⟨⟨⟨⟨c,d⟩,e⟩,f⟩,g⟩:=h;rw[CA c,Bf d,Au e,Au f,Bf g]
 case unOp.unOp=>obtain⟨⟨c,d⟩,e⟩:=h;rw[CA c,Bf d,Au e]
 case convert.convert=>obtain⟨⟨c,d⟩,e⟩:=h;rw[Bf c,Bf d,Au e]
 case sliceToArrayPointer.sliceToArrayPointer=>obtain⟨c,d⟩:=h;rw[Bf c,Au d]
 case makeInterface.makeInterface=>obtain⟨c,d⟩:=h;rw[Bf c,Au d]
 case makeFunc.makeFunc=>obtain⟨⟨c,d⟩,e⟩:=h;rw[ay c,MH d,MH e]
 case makeMap.makeMap=>obtain⟨c,d⟩:=h;rw[Bf c,Ly d]
 case makeSlice.makeSlice=>obtain⟨⟨c,d⟩,e⟩:=h;rw[Bf c,Au d,Au e]
 case slice.slice=>obtain⟨⟨⟨⟨c,d⟩,e⟩,f⟩,g⟩:=h;rw[Bf c,Au d,Ly e,Ly f,Ly g]
 case fieldAddr.fieldAddr=>obtain⟨⟨c,d⟩,e⟩:=h;rw[Bf c,Au d,Bf e]
 case field.field=>obtain⟨⟨c,d⟩,e⟩:=h;rw[Bf c,Au d,Bf e]
 case indexAddr.indexAddr=>obtain⟨⟨c,d⟩,e⟩:=h;rw[Bf c,Au d,Au e]
 case index.index=>obtain⟨⟨c,d⟩,e⟩:=h;rw[Bf c,Au d,Au e]
 case lookup.lookup=>obtain⟨⟨⟨c,d⟩,e⟩,f⟩:=h;rw[Bf c,Au d,Au e,CA f]
 case mapUpdate.mapUpdate=>obtain⟨⟨⟨c,d⟩,e⟩,f⟩:=h;rw[Bf c,Au d,Au e,Au f]
 case mapEntry.mapEntry=>obtain⟨⟨c,d⟩,e⟩:=h;rw[Bf c,Au d,Au e]
 case entryStore.entryStore=>obtain⟨⟨⟨c,d⟩,e⟩,f⟩:=h;rw[Bf c,Au d,Au e,Au f]
 case range.range=>obtain⟨c,d⟩:=h;rw[Bf c,Au d]
 case next.next=>obtain⟨c,d⟩:=h;rw[Au c,CA d]
 case entry.entry=>have c:=h;rw[Au c]
 case typeAssert.typeAssert=>obtain⟨⟨⟨c,d⟩,e⟩,f⟩:=h;rw[Au c,Bf d,Bf e,CA f]
 case extract.extract=>obtain⟨c,d⟩:=h;rw[Au c,Bf d]
 case call.call=>have c:=h;rw[OJ c]
 case defer.defer=>have c:=h;rw[OJ c]
 case panic.panic=>have c:=h;rw[Au c]
def Uo(a b:Edge):Bool:=Nat.beq a.on b.on&&eqD a.ground b.ground
theorem W3{a b:Edge}(h:Uo a b=true):a=b:=by
 cases a;cases b;simp only[Uo,F9]at h;simp only[Edge.mk.injEq];exact⟨Bf h.1,CA h.2⟩
def MQ(a b:Oper):Bool:=Sz Nat.beq a.dst b.dst&&lm a.op b.op&&Nat.beq a.type b.type&&Lb Uo a.after b.after&&Sz (fun x y=>Nat.beq x.1 y.1&&eqD x.2 y.2) a.guard b.guard&&eqD a.pos b.pos
theorem Ke{a b:Oper}(h:MQ a b=true):a=b:=by
 cases a;cases b;simp only[MQ,F9]at h;obtain⟨⟨⟨⟨⟨c,d⟩,e⟩,f⟩,g⟩,i⟩:=h;simp only[Oper.mk.injEq];refine⟨JK (fun _ _=>Bf) c,eA d,Bf e,CA i,ED (fun _ _=>W3) f,JK (fun x y h=>?_) g⟩
 simp only[F9]at h;exact Prod.ext (Bf h.1) (CA h.2)
def Cq:Code→Code→Bool
 |.skip,.skip=>true
 |.region i o d,.region g j k=>Nat.beq i g&&eqD d k&&Lb MQ o j
 |.seq a b,.seq e h=>Cq a e&&Cq b h
 |.cond c a b,.cond l e h=>AH c l&&Cq a e&&Cq b h
 |.block i a,.block g e=>Nat.beq i g&&Cq a e
 |.loop a,.loop e=>Cq a e
 |.rangeFunc f p a b,.rangeFunc m n e h=>AH f m&&Lb Nat.beq p n&&Cq a e&&Cq b h
 |.exit i,.exit g=>Nat.beq i g
 |.scope a,.scope e=>Cq a e
 |.label i,.label g=>Nat.beq i g
 |.goto i,.goto g=>Nat.beq i g
 |.ret,.ret=>true
 |_,_=>false
theorem Eg:∀{a b:Code},Cq a b=true→a=b:=by
 intro a
 induction a<;>intro b h<;>cases b<;>simp only[Cq,ie,F9]at h<;>first|rfl|skip
 case region.region=>rw[Bf h.1.1,CA h.1.2,ED (fun _ _=>Ke) h.2]
 case seq.seq c d _ _=>rw[c h.1,d h.2]
 case cond.cond c d _ _ _=>rw[Au h.1.1,c h.1.2,d h.2]
 case block.block ih _ _=>rw[Bf h.1,ih h.2]
 case loop.loop ih _=>rw[ih h]
 case rangeFunc.rangeFunc c d _ _ _ _=>rw[Au h.1.1.1,ED (fun _ _=>Bf) h.1.1.2,c h.1.2,d h.2]
 case exit.exit=>rw[Bf h]
 case scope.scope ih _=>rw[ih h]
 case label.label=>rw[Bf h]
 case goto.goto=>rw[Bf h]
end Go.AE
namespace Go.AE
variable [Gl:AG]
def SE.inst(t:List SE):SE→SE
 |.c n=>.c n
 |.var i=>t.getD i (.var i)
 |.lenS a=>.lenS (a.inst t)
 |.lenL a=>.lenL (a.inst t)
 |.arith I k a b=>.arith I k (a.inst t) (b.inst t)
 |.conv k a=>.conv k (a.inst t)
 |.lss a b=>.lss (a.inst t) (b.inst t)
 |.eql a b=>.eql (a.inst t) (b.inst t)
 |.eqS a l b=>.eqS (a.inst t) l b
 |.eqSS a b=>.eqSS (a.inst t) (b.inst t)
 |.isNil a=>.isNil (a.inst t)
 |.bc b=>.bc b
 |.neg a=>.neg (a.inst t)
 |.and a b=>.and (a.inst t) (b.inst t)
 |.nilIs a b=>.nilIs (a.inst t) (b.inst t)
 |.strc l b=>.strc l b
 |.strAt a i=>.strAt (a.inst t) (i.inst t)
 |.strCat a b=>.strCat (a.inst t) (b.inst t)
 |.strSub a lo hi=>.strSub (a.inst t) (lo.inst t) (hi.inst t)
 |.cell a i j=>.cell (a.inst t) (i.inst t) j
 |.sel a j=>.sel (a.inst t) j
 |.nilL=>.nilL
 |.emptyL=>.emptyL
 |.snoc a r=>.snoc (a.inst t) (r.inst t)
 |.upd a i j x=>.upd (a.inst t) (i.inst t) j (x.inst t)
 |.rep n r=>.rep (n.inst t) (r.inst t)
 |.cat a b=>.cat (a.inst t) (b.inst t)
 |.sub a lo hi=>.sub (a.inst t) (lo.inst t) (hi.inst t)
 |.rnil=>.rnil
 |.rcons x r=>.rcons (x.inst t) (r.inst t)
 |.app f x=>.app f (x.inst t)
 |.bytes a=>.bytes (a.inst t)
 |.ofBytes a=>.ofBytes (a.inst t)
 |.mIdx ks a k=>.mIdx ks (a.inst t) (k.inst t)
 |.rmv a i=>.rmv (a.inst t) (i.inst t)
def Val.inst(V:Val)(l:List SE):Val:={d:=fun i=>Ab V (l.getD i (.var i)),fn:=V.fn}
theorem BA(V:Val)(a:List SE):∀e:SE,Ab V (e.inst a)=Ab (V.inst a) e:=by
 intro e
 induction e<;>simp_all only[SE.inst,Ab,Val.inst]<;>rfl
theorem Ku(V:Val)(a:List SE)(e:SE):Ad V (e.inst a)=Ad (V.inst a) e:=by unfold Ad;rw[BA]
theorem Fx(V:Val)(a:List SE)(e:SE):Ah V (e.inst a)=Ah (V.inst a) e:=by unfold Ah;rw[BA]
abbrev Obs:=List (SE×SE)
def JI(a b:SE):Option Obs:=match a.same b with
 |true=>some []
 |false=>match a.norm.same b.norm with
  |true=>some []
  |false=>some [(a,b)]
def Dh(a b:SE):Option Obs:=match a.same b with
 |true=>some []
 |false=>match a.norm.same b.norm with
  |true=>some []
  |false=>some [(.and a (.bc true),.and b (.bc true))]
def G2(a b:SE):Option Obs:=match a.same b with
 |true=>some []
 |false=>match a.norm.same b.norm with
  |true=>some []
  |false=>some [(.eql a b,.bc true)]
def Obs.holds(V:Val)(o:Obs):Prop:=∀a b,(a,b)∈o→Ab V a=Ab V b
def Dg(a b:Option Obs):Option Obs:=match a,b with
 |some x,some y=>some (x++y)
 |_,_=>none
def Ds(c:Bool)(o:Option Obs):Option Obs:=match c with
 |true=>o
 |false=>none
def toB(a:List Nat)(b c:Nat):Bool:=match a[b]? with
 |some d=>Nat.beq d c
 |none=>false
def dY(a:List Nat):Fn→Fn→Bool
 |.func f,.func g=>Nat.beq f g
 |.yield l,.yield m=>toB a l m
 |_,_=>false
mutual
def CH(d:List SE)(g:List Nat):AV→AV→Option Obs
 |.top,_=>some []
 |.bool a,.bool b=>Ds (a==b) (some [])
 |.int k a,.int u b=>Ds (decide (k=u)&&a==b) (some [])
 |.str l a,.str w b=>Ds (Nat.beq l w&&Nat.beq a b) (some [])
 |.ptr0,.ptr0=>some []
 |.ptr b o,.ptr h y=>Ds (toB g b h&&Nat.beq o y) (some [])
 |.slice0,.slice0=>some []
 |.slice b o n r,.slice h y z j=>Ds (toB g b h&&Nat.beq o y&&Nat.beq n z&&Nat.beq r j) (some [])
 |.map0,.map0=>some []
 |.map b,.map h=>Ds (toB g b h) (some [])
 |.func fn f c,.func B D E=>Ds (dY g fn B) (Dg (Gp d g f D) (Gp d g c E))
 |.nilFunc,.nilFunc=>some []
 |.iface t v,.iface F G=>Ds (Nat.beq t F) (CH d g v G)
 |.nilIface,.nilIface=>some []
 |.agg l,.agg w=>Gp d g l w
 |.tuple l,.tuple w=>Gp d g l w
 |.sb p e,.sb H s=>match p==H with
  |true=>Dh (e.inst d) s
  |false=>Dh (e.inst d) (.neg s)
 |.sb p e,.bool b=>Dh (e.inst d) (.bc (b==p))
 |.si k e,.si u s=>Ds (decide (k=u)) (G2 (e.inst d) s)
 |.si k e,.int u n=>Ds (decide (k=u)) (G2 (e.inst d) (.c n))
 |.ss x,.ss C=>JI (x.inst d) C
 |.ss x,.str l b=>JI (x.inst d) (.strc l b)
 |.dat e x,.dat s C=>Ds (Nat.beq e s) (JI (x.inst d) C)
 |.dat e x,.slice0=>JI (x.inst d) .nilL
 |.asl b r n nl,.asl h j z q=>Ds (toB g b h&&Nat.beq r j) (Dg (G2 (n.inst d) z) (Dh (nl.inst d) q))
 |.asl b r n nl,.slice h y z j=>Ds (toB g b h&&Nat.beq y 0&&Nat.beq r j) (Dg (G2 (n.inst d) (.c z)) (Dh (nl.inst d) (.bc false)))
 |.asl b r n nl,.slice0=>Dg (G2 (n.inst d) (.c 0)) (Dh (nl.inst d) (.bc true))
 |.asl b r n nl,.eslc q=>Dg (G2 (n.inst d) (.c 0)) (Dh (nl.inst d) q)
 |.eslc nl,.eslc q=>Dh (nl.inst d) q
 |.eslc nl,.slice0=>Dh (nl.inst d) (.bc true)
 |.aptr b r i off,.aptr h j I A=>Ds (toB g b h&&Nat.beq r j&&Nat.beq off A) (G2 (i.inst d) I)
 |.nmap b nl,.nmap h q=>Ds (toB g b h) (Dh (nl.inst d) q)
 |.nmap b nl,.map h=>Ds (toB g b h) (Dh (nl.inst d) (.bc false))
 |.nmap _ nl,.map0=>Dh (nl.inst d) (.bc true)
 |_,_=>none
termination_by structural a=>a
def Gp(d:List SE)(g:List Nat):List AV→List AV→Option Obs
 |[],[]=>some []
 |a::l,b::m=>Dg (CH d g a b) (Gp d g l m)
 |_,_=>none
termination_by structural l=>l
end
@[reducible] def HD:Unk:={facts:=[],V:=⟨fun _=>default,fun _ d=>d⟩,K:=fun _=>none,R:=[],hR:=fun _ _ _ _ _ h=>(by cases h),ok:=by simp}
theorem Obs.append{V:Val}{a b:Obs}(h:Obs.holds V (a++b)):Obs.holds V a∧Obs.holds V b:=
 ⟨fun x y l=>h x y (by simp[l]),fun x y l=>h x y (by simp[l])⟩
theorem ET{V:Val}{a b:SE}{o:Obs}(h:JI a b=some o)(d:o.holds V):Ab V a=Ab V b:=by
 unfold JI at h;split at h
 ·rename_i c;rw[SE.same_ok (U:=HD) c]
 ·split at h
  ·rename_i c;have:=congrArg (Ab V) (SE.same_ok (U:=HD) c)
   rwa [Cz,Cz]at this
  ·cases h;exact d a b (by simp)
theorem Mt{V:Val}{a b:SE}{o:Obs}(h:G2 a b=some o)(d:o.holds V):Ad V a=Ad V b:=by
 unfold G2 at h;split at h
 ·rename_i c;rw[SE.same_ok (U:=HD) c]
 ·split at h
  ·rename_i c;have:=congrArg (Ab V) (SE.same_ok (U:=HD) c);rw[Cz,Cz]at this;unfold Ad;rw[this]
  ·cases h;have:=d (.eql a b) (.bc true) (by simp)
   simp only[Ab,D.bool.injEq]at this;exact eq_of_beq this
theorem Jv{V:Val}{a b:SE}{o:Obs}(h:Dh a b=some o)(d:o.holds V):Ah V a=Ah V b:=by
 unfold Dh at h;split at h
 ·rename_i c;rw[SE.same_ok (U:=HD) c]
 ·split at h
  ·rename_i c;have:=congrArg (Ab V) (SE.same_ok (U:=HD) c);rw[Cz,Cz]at this;unfold Ah;rw[this]
  ·cases h;have:=d (.and a (.bc true)) (.and b (.bc true)) (by simp)
   simp only[Ab,D.bool.injEq,D.toBool,Bool.and_true]at this;exact this
theorem Bv{a b:Option Obs}{o:Obs}(h:Dg a b=some o):∃x y,a=some x∧b=some y∧o=x++y:=by
 unfold Dg at h;split at h
 ·cases h;exact⟨_,_,rfl,rfl,rfl⟩
 ·cases h
theorem AP{c:Bool}{a:Option Obs}{o:Obs}(h:Ds c a=some o):c=true∧a=some o:=by
 cases c with
 |true=>exact⟨rfl,h⟩
 |false=>cases h
def Ren.back(ρ:Ren)(l:List Nat):Ren:=⟨fun b=>(l[b]?).bind ρ.m,ρ.imm⟩
theorem EH{a:List Nat}{b c:Nat}(h:toB a b c=true)(ρ:Ren):(ρ.back a).m b=ρ c:=by
 unfold toB at h;split at h
 ·rename_i d e;rw[Ay h]at e;simp[Ren.back,e]
 ·cases h
section
variable {U W:Unk}{θ:List SE}(hV:W.V=U.V.inst θ)(hK:W.K=U.K){β:List Nat}{ρ:Ren}
include hV hK
theorem Vi{f g:Fn}{a:Fn}(h:dY β f g=true)(b:FnR ρ g a):FnR (ρ.back β) f a:=by
 cases f<;>cases g<;>simp only[dY,ie]at h
 ·rw[Ay h];exact b
 ·obtain⟨base,c,d⟩:=b;exact⟨base,by rw[EH h];exact c,d⟩
mutual
theorem Gn:∀(a b:AV)(o:Obs)(v:Value),CH θ β a b=some o→o.holds U.V→@VR U.toVals ρ b v→@VR W.toVals (ρ.back β) a v
 |.top,_,_,v,_,_,_=>@VR.top W.toVals _ v
 |.bool a,b,o,v,h,d,hv=>by
  cases b<;>simp only[CH,reduceCtorEq]at h
  obtain⟨g,_⟩:=AP h;cases hv;have:=eq_of_beq g;subst this;exact @VR.bool W.toVals _ _
 |.int k a,b,o,v,h,d,hv=>by
  cases b<;>simp only[CH,reduceCtorEq]at h
  obtain⟨g,_⟩:=AP h;cases hv;simp only[F9,l0,beq_iff_eq]at g;obtain⟨rfl,rfl⟩:=g;exact @VR.int W.toVals _ _ _
 |.str l a,b,o,v,h,d,hv=>by
  cases b<;>simp only[CH,reduceCtorEq]at h
  obtain⟨g,_⟩:=AP h;obtain⟨j,A⟩:=Av g;rw[Ay j,Ay A];cases hv;exact @VR.str W.toVals _ _
 |.ptr0,b,o,v,h,d,hv=>by
  cases b<;>simp only[CH,reduceCtorEq]at h
  cases hv;exact @VR.ptr0 W.toVals _
 |.ptr b off,x,o,v,h,d,hv=>by
  cases x<;>simp only[CH,reduceCtorEq]at h
  obtain⟨g,_⟩:=AP h;obtain⟨j,A⟩:=Av g;cases hv with
  |ptr _ _ base B=>
   rw[Ay A];exact @VR.ptr W.toVals _ _ _ base (by rw[EH j];exact B)
 |.slice0,b,o,v,h,d,hv=>by
  cases b<;>simp only[CH,reduceCtorEq]at h
  cases hv;exact @VR.slice0 W.toVals _
 |.slice b off n I,x,o,v,h,d,hv=>by
  cases x<;>simp only[CH,reduceCtorEq]at h
  obtain⟨g,_⟩:=AP h;obtain⟨j,A⟩:=Av g;obtain⟨F,M⟩:=Av j;obtain⟨J,L⟩:=Av F;rw[Ay A,Ay M,Ay L];cases hv with
  |slice _ _ _ _ G base B N O=>exact @VR.slice W.toVals _ _ _ _ _ G base (by rw[EH J];exact B) N O
  |sliceEnd _ _ _ a=>exact @VR.sliceEnd W.toVals _ _ _ _ a
 |.map0,b,o,v,h,d,hv=>by
  cases b<;>simp only[CH,reduceCtorEq]at h
  cases hv;exact @VR.map0 W.toVals _
 |.map b,x,o,v,h,d,hv=>by
  cases x<;>simp only[CH,reduceCtorEq]at h
  obtain⟨g,_⟩:=AP h;cases hv with
  |map _ base B=>exact @VR.map W.toVals _ _ base (by rw[EH g];exact B)
 |.func fn f c,x,o,v,h,d,hv=>by
  cases x<;>simp only[CH,reduceCtorEq]at h
  obtain⟨g,j⟩:=AP h;obtain⟨o1,o2,A,F,rfl⟩:=Bv j;obtain⟨u,w⟩:=Obs.append d;cases hv with
  |func _ aa _ _ f' c' P Q r3 r4 r5=>
   have q1:=DI f _ o1 f' A u ⟨Q,r3⟩;have q2:=DI c _ o2 c' F w ⟨r4,r5⟩;exact @VR.func W.toVals _ fn aa f c f' c' (Vi hV hK g P) q1.1 q1.2 q2.1 q2.2
 |.nilFunc,b,o,v,h,d,hv=>by
  cases b<;>simp only[CH,reduceCtorEq]at h
  cases hv;exact @VR.nilFunc W.toVals _
 |.iface t a,x,o,v,h,d,hv=>by
  cases x<;>simp only[CH,reduceCtorEq]at h
  obtain⟨g,j⟩:=AP h;rw[Ay g];cases hv with
  |iface _ _ v' ab=>exact @VR.iface W.toVals _ _ a v' (Gn a _ o v' j d ab)
 |.nilIface,b,o,v,h,d,hv=>by
  cases b<;>simp only[CH,reduceCtorEq]at h
  cases hv;exact @VR.nilIface W.toVals _
 |.agg l,x,o,v,h,d,hv=>by
  cases x<;>simp only[CH,reduceCtorEq]at h
  cases hv with
  |agg _ R P Q=>
   have q:=DI l _ o R h d ⟨P,Q⟩;exact @VR.agg W.toVals _ l R q.1 q.2
 |.tuple l,x,o,v,h,d,hv=>by
  cases x<;>simp only[CH,reduceCtorEq]at h
  cases hv with
  |tuple _ R P Q=>
   have q:=DI l _ o R h d ⟨P,Q⟩;exact @VR.tuple W.toVals _ l R q.1 q.2
 |.sb p e,x,o,v,h,d,hv=>by
  have key:∀{y:SE},Dh (e.inst θ) y=some o→Ah W.V e=Ah U.V y:=by
   intro y C;rw[hV,←Fx];exact Jv C d
  cases x<;>simp only[CH,reduceCtorEq]at h
  ·have:=key h;cases hv;rename_i b;have q:=@VR.sb W.toVals (ρ.back β) p e;rw[this]at q;have z:((Ah U.V (.bc (b==p)))==p)=b:=by show((b==p)==p)=b;cases b<;>cases p<;>rfl
   rw[z]at q;exact q
  ·split at h
   ·rename_i g;have:=key h;cases hv;have S:=eq_of_beq g;subst S;rw[←this];exact @VR.sb W.toVals _ p e
   ·rename_i p' y _ g;have:=key h;cases hv;have q:=@VR.sb W.toVals (ρ.back β) p e;rw[this]at q
    have z:(Ah U.V (.neg y)==p)=(Ah U.V y==p'):=by
     show((!(Ah U.V y))==p)=_;cases p<;>cases p'<;>cases Ah U.V y<;>first|rfl | (simp at g)
    rw[z]at q;exact q
 |.si k e,x,o,v,h,d,hv=>by
  have key:∀{y:SE},G2 (e.inst θ) y=some o→Ad W.V e=Ad U.V y:=by
   intro y C;rw[hV,←Ku];exact Mt C d
  cases x<;>simp only[CH,reduceCtorEq]at h
  ·obtain⟨g,j⟩:=AP h;have:=key j;cases hv;have S:=of_decide_eq_true g;subst S;have q:=@VR.si W.toVals (ρ.back β) k e;rw[this,BE]at q;exact q
  ·obtain⟨g,j⟩:=AP h;have:=key j;cases hv;have S:=of_decide_eq_true g;subst S;rw[←this];exact @VR.si W.toVals _ k e
 |.ss e,x,o,v,h,d,hv=>by
  have key:∀{y:SE},JI (e.inst θ) y=some o→AR W.V e=AR U.V y:=by
   intro y C;unfold AR;rw[hV,←BA,ET C d]
  cases x<;>simp only[CH,reduceCtorEq]at h
  ·have:=key h;cases hv;rename_i s;have q:=@VR.ss W.toVals (ρ.back β) e;rw[this]at q
   have z:AR U.V (.strc s.data.toList.length (AC s.data.toList))=s:=by
    show(⟨(C9 _ _).toArray⟩:ByteArray)=s;rw[D4 (U:=U)]
   rw[z]at q;exact q
  ·have:=key h;cases hv;rw[←this];exact @VR.ss W.toVals _ e
 |.dat t e,x,o,v,h,d,hv=>by
  have key:∀{y:SE},JI (e.inst θ) y=some o→Ab W.V e=Ab U.V y:=by
   intro y C;rw[hV,←BA,ET C d]
  cases x<;>simp only[CH,reduceCtorEq]at h
  ·have:=key h;cases hv;exact @VR.dat W.toVals _ t e _ _ _ (by rw[this];exact .nil t _ rfl rfl)
  ·obtain⟨g,j⟩:=AP h;have:=key j;rw[Ay g];cases hv with
   |dat _ _ a n c hd=>exact @VR.dat W.toVals _ _ e a n c (by rw[this,hK];exact hd)
 |.dptr _ _ _ _,x,o,v,h,d,hv=>by cases x<;>simp only[CH,reduceCtorEq]at h
 |.asl b I n nl,x,o,v,h,d,hv=>by
  have D:∀{a b:SE}{o:Obs},G2 (a.inst θ) b=some o→o.holds U.V→Ad W.V a=Ad U.V b:=by
   intro a b o C d;rw[hV,←Ku];exact Mt C d
  have E:∀{a b:SE}{o:Obs},Dh (a.inst θ) b=some o→o.holds U.V→Ah W.V a=Ah U.V b:=by
   intro a b o C d;rw[hV,←Fx];exact Jv C d
  cases x<;>simp only[CH,reduceCtorEq]at h
  ·
   obtain⟨o1,o2,A,F,rfl⟩:=Bv h;obtain⟨u,w⟩:=Obs.append d;have k1:=D A u;have k2:=E F w;cases hv;exact @VR.aslEnd W.toVals _ b I n nl none (by rw[k1];rfl) (by rw[k2];rfl)
  ·
   rename_i b' o' n' T;obtain⟨g,j⟩:=AP h;obtain⟨M,J⟩:=Av g;obtain⟨L,h8⟩:=Av M;obtain⟨o1,o2,A,F,rfl⟩:=Bv j;obtain⟨u,w⟩:=Obs.append d;have k1:=D A u;have k2:=E F w;have z:Ad W.V n=n':=by rw[k1];rfl
   have X:Ah W.V nl=false:=by rw[k2];rfl
   have e3:=Ay h8;have Y:=Ay J;subst e3;subst Y;cases hv with
   |slice _ _ _ _ G base B N O=>
    have q:=@VR.asl W.toVals (ρ.back β) b I n nl G base (by rw[EH L];exact B) (by rw[z];exact Int.natCast_nonneg _) (by rw[z];simpa using N) (by simpa using O) X
    rw[z]at q;simpa using q
   |sliceEnd _ _ _ a=>exact @VR.aslEnd W.toVals _ b I n nl (some a) (by rw[z];rfl) (by rw[X];rfl)
  ·
   rename_i b' T n' ac;obtain⟨g,j⟩:=AP h;obtain⟨L,J⟩:=Av g;obtain⟨o1,o2,A,F,rfl⟩:=Bv j;obtain⟨u,w⟩:=Obs.append d;have k1:=D A u;have k2:=E F w;have z:Ad W.V n=Ad U.V n':=k1;have X:Ah W.V nl=Ah U.V ac:=k2;have Y:=Ay J;subst Y;cases hv with
   |asl _ _ _ _ G base B Z N O H=>
    rw[←z];exact @VR.asl W.toVals _ b I n nl G base (by rw[EH L];exact B) (by rw[z];exact Z) (by rw[z];exact N) O (by rw[X];exact H)
   |aslEnd _ _ _ _ a Z H=>exact @VR.aslEnd W.toVals _ b I n nl a (by rw[z];exact Z) (by rw[X];exact H)
  ·
   obtain⟨o1,o2,A,F,rfl⟩:=Bv h;obtain⟨u,w⟩:=Obs.append d;have k1:=D A u;have k2:=E F w;cases hv with
   |eslc _ a H=>exact @VR.aslEnd W.toVals _ b I n nl a (by rw[k1];rfl) (by rw[H];exact k2.symm)
 |.eslc nl,x,o,v,h,d,hv=>by
  have key:∀{b:SE},Dh (nl.inst θ) b=some o→Ah W.V nl=Ah U.V b:=by
   intro b C;rw[hV,←Fx];exact Jv C d
  cases x<;>simp only[CH,reduceCtorEq]at h
  ·have:=key h;cases hv;exact @VR.eslc W.toVals _ nl none (by rw[this];rfl)
  ·have:=key h;cases hv with
   |eslc _ a H=>exact @VR.eslc W.toVals _ nl a (by rw[H,this])
 |.aptr b I i off,x,o,v,h,d,hv=>by
  cases x<;>simp only[CH,reduceCtorEq]at h
  rename_i b' T i' ad;obtain⟨g,j⟩:=AP h;obtain⟨M,J⟩:=Av g;obtain⟨L,h8⟩:=Av M;have z:Ad W.V i=Ad U.V i':=by rw[hV,←Ku];exact Mt j d
  have e3:=Ay h8;have Y:=Ay J;subst e3;subst Y;cases hv with
  |aptr _ _ _ _ base B Z=>
   have:=@VR.aptr W.toVals (ρ.back β) b I i off base (by rw[EH L];exact B) (by rw[z];exact Z)
   rw[z]at this;exact this
 |.nmap b nl,x,o,v,h,d,hv=>by
  have key:∀{b:SE},Dh (nl.inst θ) b=some o→Ah W.V nl=Ah U.V b:=by
   intro b C;rw[hV,←Fx];exact Jv C d
  cases x<;>simp only[CH,reduceCtorEq]at h
  ·have:=key h;cases hv;exact @VR.nmap0 W.toVals _ b nl (by rw[this];rfl)
  ·obtain⟨g,j⟩:=AP h;have:=key j;cases hv with
   |map _ base B=>exact @VR.nmap W.toVals _ b nl base (by rw[EH g];exact B) (by rw[this];rfl)
  ·obtain⟨g,j⟩:=AP h;have:=key j;cases hv with
   |nmap _ _ base B H=>exact @VR.nmap W.toVals _ b nl base (by rw[EH g];exact B) (by rw[this];exact H)
   |nmap0 _ _ H=>exact @VR.nmap0 W.toVals _ b nl (by rw[this];exact H)
theorem DI:∀(a b:List AV)(o:Obs)(vs:List Value),Gp θ β a b=some o→o.holds U.V→@VL U.toVals ρ b vs→@VL W.toVals (ρ.back β) a vs
 |[],b,o,vs,h,d,hv=>by
  cases b with
  |nil=>have:=VL.nil_inv (U:=U.toVals) hv;subst this;exact VL.nil (U:=W.toVals) _
  |cons=>cases h
 |a::l,b,o,vs,h,d,hv=>by
  cases b with
  |nil=>cases h
  |cons b m=>
   simp only[Gp]at h;obtain⟨o1,o2,g,j,rfl⟩:=Bv h;obtain⟨u,w⟩:=Obs.append d;obtain⟨v,r,rfl,q1,q2⟩:=VL.cons_inv (U:=U.toVals) hv;exact VL.cons (U:=W.toVals) (Gn a b o1 v g u q1) (DI l m o2 r j w q2)
end
end
end Go.AE
namespace Go.AE
variable [Gl:AG]
def zH(c:List SE)(d:List Nat):Option AV→Option AV→Option Obs
 |none,_=>some []
 |some a,some b=>CH c d a b
 |some _,none=>none
def leT(a:List SE)(b:List Nat):T AV→T AV→Option Obs
 |.nil,_=>some []
 |.node v l r,.node c d e=>Dg (zH a b v c) (Dg (leT a b l d) (leT a b r e))
 |.node _ _ _,.nil=>none
def eu(c:List SE)(d:List Nat):List AA→List AA→Option Obs
 |[],[]=>some []
 |a::l,b::m=>Ds (Nat.beq a.born b.born) (Dg (CH c d a.key b.key) (Dg (CH c d a.val b.val) (eu c d l m)))
 |_,_=>none
def nN:LoopState→LoopState→Bool
 |.ready,.ready=>true
 |.busy,.busy=>true
 |.done,.done=>true
 |.exhausted,.exhausted=>true
 |_,_=>false
theorem dT{a b:LoopState}(h:nN a b=true):a=b:=by cases a<;>cases b<;>first|rfl | (cases h;done)
def Rk[Facts](E:Env)(h:List SE)(q:List Nat):An→An→Option Obs
 |.cells n c,.cells F G=>Ds (Nat.beq n F) (leT h q c G)
 |.arr e x,.arr t r=>Ds (Nat.beq e t) (JI (x.inst h) r)
 |.arr e x,.cells n c=>match E.kinds e with
  |some ks=>match Nat.beq (n/ks.length*ks.length) n,c.range 0 n with
   |true,some l=>match DX ks (n/ks.length) .emptyL l with
    |some y=>JI (x.inst h) y
    |none=>none
   |_,_=>none
  |none=>none
 |.hole e x i j a,.hole t r H I J=>Ds (Nat.beq e t&&Nat.beq j I) (Dg (JI (x.inst h) r) (Dg (JI (i.inst h) H) (CH h q a J)))
 |.map s k,.map u w=>Ds (Nat.beq k w) (eu h q s u)
 |.dmap k v x,.dmap w K r=>Ds (Nat.beq k w&&Nat.beq v K) (JI (x.inst h) r)
 |.dmap k v x,.map s m=>match E.kinds k,E.kinds v with
  |some z,some A=>match Np z A .emptyL s with
   |some y=>Ds (ZQ 0 s m) (JI (x.inst h) y)
   |none=>none
  |_,_=>none
 |.deferred none,.deferred none=>some []
 |.deferred (some []),.deferred (some [])=>some []
 |.loop st pending fn nt tmps params assign body d,.loop B b C D o f g p L=>
  Ds (nN st B&&Sz Cq pending b&&Nat.beq fn C&&Nat.beq nt D&&KA Nat.beq params f&&toB q d L) (Ds (Cq assign g&&Cq body p) (leT h q tmps o))
 |_,_=>none
def j9[Facts](E:Env)(a:List SE)(b:List Nat):Option An→Option An→Option Obs
 |none,_=>some []
 |some x,some y=>Rk E a b x y
 |some _,none=>none
def EB[Facts](E:Env)(a:List SE)(c:List Nat)(h:Aa):List (Option An)→List Nat→Option Obs
 |[],[]=>some []
 |o::r,b::d=>Dg (j9 E a c o (h.blk.get b)) (EB E a c h r d)
 |_,_=>none
def Fg:List Nat→Bool
 |[]=>true
 |b::r=>!Mw b r&&Fg r
def Cj:List (Option An)→Nat→T An→T An
 |[],_,t=>t
 |some x::r,i,t=>Cj r (i+1) (t.set i x)
 |none::r,i,t=>Cj r (i+1) t
def A8(l:List (Option An)):T An:=Cj l 0 .nil
theorem MF:∀(l:List (Option An)) (i:Nat) (t:T An) (j:Nat),(∀q,i≤q→t.get q=none)→(Cj l i t).get j=if i≤j then (l[j-i]?).join else t.get j:=by
 intro l
 induction l with
 |nil=>
  intro i t j b;simp only[Cj];by_cases h:i≤j
  ·rw[if_pos h,b j h];rfl
  ·rw[if_neg h]
 |cons o r ih=>
  intro i t j b
  have key:∀a,(∀q,i+1≤q→a.get q=none)→a.get i=o→(∀q,q<i→a.get q=t.get q)→(Cj r (i+1) a).get j=if i≤j then ((o::r)[j-i]?).join else t.get j:=by
   intro a d e f;rw[ih (i+1) a j d];by_cases c1:i+1≤j
   ·rw[if_pos c1,if_pos (by omega),show j-i=(j-(i+1))+1 by omega,iv]
   ·rw[if_neg c1];by_cases c2:i=j
    ·subst c2;rw[if_pos (R2 _),e];simp
    ·rw[if_neg (by omega),f j (by omega)]
  cases o with
  |some x=>
   simp only[Cj];refine key _ (fun q c=>?_) ?_ (fun q c=>?_)
   ·rw[T.get_set,if_neg (by omega),b q (by omega)]
   ·rw[T.get_set,if_pos rfl]
   ·rw[T.get_set,if_neg (by omega)]
  |none=>
   simp only[Cj];exact key _ (fun q c=>b q (by omega)) (b i (R2 _)) (fun q c=>rfl)
theorem Cs(l:List (Option An))(j:Nat):(A8 l).get j=(l[j]?).join:=by
 rw[A8,MF _ _ _ _ (fun q _=>T.get_nil _),if_pos (Aex _)];simp
theorem GO{b:Nat}:∀{l:List Nat},b∈l→Mw b l=true
 |c::r,h=>by
  simp only[Mw,Aew];rcases i0.1 h with rfl|h
  ·exact .inl (Fw b)
  ·exact .inr (GO h)
def Fb(b:Nat):List (Option An)→List Nat→Bool
 |some _::r,c::a=>Nat.beq b c||Fb b r a
 |none::r,_::a=>Fb b r a
 |_,_=>false
def FZ:List (Option An)→List Nat→Bool
 |some _::r,b::a=>!Fb b r a&&FZ r a
 |none::r,_::a=>FZ r a
 |_,_=>true
theorem Hm{b:Nat}:∀{l:List (Option An)} {e:List Nat},Fb b l e=false→∀{j:Nat}{x:An},l[j]?=some (some x)→e[j]?=some b→False
 |[],_,_,j,x,d,_=>by simp at d
 |_::_,[],_,j,x,_,a=>by simp at a
 |some y::r,c::e,h,j,x,d,a=>by
  simp only[Fb,Bool.or_eq_false_iff]at h;cases j with
  |zero=>simp only[gy,C2]at a;subst a;rw[Nat.beq_refl]at h;exact absurd h.1 (by simp)
  |succ j=>exact Hm h.2 (by simpa using d) (by simpa using a)
 |none::r,c::e,h,j,x,d,a=>by
  simp only[Fb]at h;cases j with
  |zero=>simp at d
  |succ j=>exact Hm h (by simpa using d) (by simpa using a)
theorem Kf:∀{l:List (Option An)} {f:List Nat},FZ l f=true→∀{i j b:Nat}{x y:An},l[i]?=some (some x)→l[j]?=some (some y)→f[i]?=some b→f[j]?=some b→i=j
 |[],_,_,i,j,b,x,y,d,_,_,_=>by simp at d
 |_::_,[],_,i,j,b,x,y,_,_,a,_=>by simp at a
 |none::r,c::f,h,i,j,b,x,y,d,g,a,e=>by
  simp only[FZ]at h;cases i with
  |zero=>simp at d
  |succ i=>
   cases j with
   |zero=>simp at g
   |succ j=>exact congrArg (· + 1) (Kf h (i:=i) (j:=j) (b:=b) (x:=x) (y:=y) (by simpa using d) (by simpa using g) (by simpa using a) (by simpa using e))
 |some z::r,c::f,h,i,j,b,x,y,d,g,a,e=>by
  simp only[FZ,F9,Ae4]at h;cases i with
  |zero=>
   simp only[gy,C2]at a;subst a;cases j with
   |zero=>rfl
   |succ j=>exact(Hm h.1 (by simpa using g) (by simpa using e)).elim
  |succ i=>
   cases j with
   |zero=>
    simp only[gy,C2]at e;subst e;exact(Hm h.1 (by simpa using d) (by simpa using a)).elim
   |succ j=>exact congrArg (· + 1) (Kf h.2 (i:=i) (j:=j) (b:=b) (x:=x) (y:=y) (by simpa using d) (by simpa using g) (by simpa using a) (by simpa using e))
theorem Ox:∀{l:List Nat},Fg l=true→∀{i j b:Nat},l[i]?=some b→l[j]?=some b→i=j
 |[],_,i,j,b,h,_=>by simp at h
 |c::r,h,i,j,b,hi,a=>by
  simp only[Fg,F9,Ae4]at h;cases i with
  |zero=>
   simp only[gy,C2]at hi;subst hi;cases j with
   |zero=>rfl
   |succ j=>
    simp only[iv]at a;rw[GO (tl a)]at h;cases h.1
  |succ i=>
   simp only[iv]at hi;cases j with
   |zero=>
    simp only[gy,C2]at a;subst a;rw[GO (tl hi)]at h;cases h.1
   |succ j=>
    simp only[iv]at a;rw[Ox h.2 hi a]
section
variable {U W:Unk}{θ:List SE}(hV:W.V=U.V.inst θ)(hK:W.K=U.K){β:List Nat}{ρ:Ren}{E:Env}
include hV hK
theorem dL{a b:Option AV}{o:Obs}(h:zH θ β a b=some o)(c:o.holds U.V){x:AV}(d:a=some x):∃y,b=some y∧∀v,@VR U.toVals ρ y v→@VR W.toVals (ρ.back β) x v:=by
 subst d;cases b with
 |none=>cases h
 |some y=>exact⟨y,rfl,fun v hv=>Gn hV hK x y o v h c hv⟩
theorem Mv:∀(p a:T AV)(o:Obs),leT θ β p a=some o→o.holds U.V→∀i x,p.get i=some x→∃y,a.get i=some y∧∀v,@VR U.toVals ρ y v→@VR W.toVals (ρ.back β) x v
 |.nil,a,o,h,c,i,x,b=>by simp[T.get_nil]at b
 |.node v l r,.nil,o,h,c,i,x,b=>by cases h
 |.node v l r,.node t j k,o,h,c,i,x,b=>by
  simp only[leT]at h;obtain⟨o1,o2,m,n,rfl⟩:=Bv h;obtain⟨o3,o4,q,s,rfl⟩:=Bv n;obtain⟨d,e⟩:=Obs.append c;obtain⟨f,g⟩:=Obs.append e;simp only[T.get_eq,T.get0]at b ⊢;split at b
  ·exact dL hV hK m d b
  ·split at b
   ·simp only[←T.get_eq]at b ⊢;exact Mv l j o3 q f _ x b
   ·simp only[←T.get_eq]at b ⊢;exact Mv r k o4 s g _ x b
theorem Vm:∀(p a:List AA)(o:Obs)(c:List MapEntry),eu θ β p a=some o→o.holds U.V→@ER U.toVals ρ a c→@ER W.toVals (ρ.back β) p c
 |[],[],o,c,h,k,d=>by cases c<;>simp_all[ER]
 |a::l,b::m,o,c,h,k,d=>by
  simp only[eu]at h;obtain⟨n,h⟩:=AP h;obtain⟨o1,o2,q,s,rfl⟩:=Bv h;obtain⟨o3,o4,t,u,rfl⟩:=Bv s;obtain⟨f,g⟩:=Obs.append k;obtain⟨i,j⟩:=Obs.append g;cases c with
  |nil=>simp[ER]at d
  |cons e r=>
   obtain⟨v,w,x,y⟩:=d;exact⟨Gn hV hK _ _ _ _ q f v,Gn hV hK _ _ _ _ t i w,by rw[x,Ay n],Vm l m o4 r u j y⟩
 |[],_::_,o,c,h,_,_=>by cases h
 |_::_,[],o,c,h,_,_=>by cases h
theorem YJ(hE:@OK _ U E){x y:An}{o:Obs}{base:Cu}{ob:Option Obj}(h:@Rk U.toFacts E θ β x y=some o)(A:o.holds U.V)(B:@BR U.toVals ρ y base ob):@BR W.toVals (ρ.back β) x base ob:=by
 unfold Rk at h;split at h
 ·
  rename_i n c n' c';obtain⟨b,z⟩:=AP h;rw[Ay b];obtain⟨d,e,F,r,g,b3,b4,C⟩:=B;refine⟨d,e,F,r,g,b3,b4,fun i a hi P=>?_⟩
  obtain⟨y,G,I⟩:=Mv hV hK (ρ:=ρ) c c' o z A i a P;obtain⟨v,Q,R⟩:=C i y hi G;exact⟨v,Q,I v R⟩
 ·
  rename_i e x e' J;obtain⟨b,z⟩:=AP h;rw[Ay b];obtain⟨ks,d,L,F,r,g,b3,b4,C⟩:=B;have w:Ab W.V x=Ab U.V J:=by rw[hV,←BA,ET z A]
  exact⟨ks,d,L,F,by rw[hK];exact r,g,b3,b4,by rw[w,hK];exact C⟩
 ·
  rename_i e x n c;split at h
  ·rename_i ks S;split at h
   ·rename_i l hn hl;split at h
    ·rename_i y X;obtain⟨d,L,F,r,g,b3,b4,C⟩:=B;have H:U.K e=some ks:=by rw[OK.kd (U:=U) hE,←OK.ke (U:=U) hE];exact S
     have w:Ab W.V x=Ab U.V y:=by rw[hV,←BA,ET h A]
     obtain⟨l1,l2⟩:=T.range_spec c _ _ _ hl
     have Y:@VL U.toVals ρ l ((d.toList.drop base.co).take n):=by
      refine⟨by simp[l1];omega,fun i a v P hv=>?_⟩
      have hi:i<n:=by have:=(L2.1 P).1;omega
      have:=l2 i hi;rw[s0,P]at this;obtain⟨v',Q,R⟩:=C i a hi this;rw[vv,if_pos hi,q0,oj,Q]at hv;cases hv;exact R
     obtain⟨rs,r1,Z,r3⟩:=@Fs _ U ρ ks _ _ _ _ _ X Y;have er:(Ab U.V y).rows=rs:=by rw[Z];rfl
     have D:((d.toList.drop base.co).take n).length=n:=by simp;omega
     refine⟨ks,d,L,F,by rw[hK];exact H,r,g,b4,?_⟩
     rw[w,er,hK]
     exact r3.at (by rw[D,g];exact b3) (fun q hq=>by
      rw[D]at hq;rw[vv,if_pos hq,q0,oj])
    ·cases h
   ·cases h
  ·cases h
 ·
  rename_i e x i j a e' J i' j' a';obtain⟨b,z⟩:=AP h;obtain⟨c1,c2⟩:=Av b;rw[Ay c1,Ay c2];obtain⟨o1,o2,p1,p2,rfl⟩:=Bv z;obtain⟨o3,o4,p3,p4,rfl⟩:=Bv p2;have G:o1.holds U.V:=fun p q M=>A p q (List.mem_append_left _ M)
  have q3:o3.holds U.V:=fun p q M=>A p q (Afc _ (List.mem_append_left _ M))
  have q4:o4.holds U.V:=fun p q M=>A p q (Afc _ (Afc _ M))
  have w:Ab W.V x=Ab U.V J:=by rw[hV,←BA,ET p1 G]
  have N:Ad W.V i=Ad U.V i':=by unfold Ad;rw[hV,←BA,ET p3 q3]
  obtain⟨ks,d,L,F,u,v,r,g,b3,b4,C,b6,b7,b8,b9⟩:=B;exact⟨ks,d,L,F,u,v,by rw[hK];exact r,g,b3,b4,by rw[w,N,hK];exact C,by rw[w,N];exact b6,b7,by rw[N];exact b8,Gn hV hK _ _ _ _ p4 q4 b9⟩
 ·
  obtain⟨b,z⟩:=AP h;rw[Ay b];obtain⟨m,r,g⟩:=B;exact⟨m,r,Vm hV hK _ _ _ _ z A g⟩
 ·
  rename_i k v x k' v' J;obtain⟨b,z⟩:=AP h;obtain⟨c1,c2⟩:=Av b;rw[Ay c1,Ay c2];obtain⟨s,t,m,f,r,g,b3,b4,C⟩:=B;have w:Ab W.V x=Ab U.V J:=by rw[hV,←BA,ET z A]
  exact⟨s,t,m,f,by rw[hK];exact r,by rw[hK];exact g,b3,by rw[w,hK];exact b4,C⟩
 ·
  rename_i k v x es f;split at h
  ·rename_i s t S hv;split at h
   ·rename_i y X;obtain⟨O,h⟩:=AP h;obtain⟨m,r,g⟩:=B;have H:U.K k=some s:=by rw[OK.kd (U:=U) hE,←OK.ke (U:=U) hE];exact S
    have aa:U.K v=some t:=by rw[OK.kd (U:=U) hE,←OK.ke (U:=U) hE];exact hv
    have w:Ab W.V x=Ab U.V y:=by rw[hV,←BA,ET h A]
    have q:Bo U.K ρ.imm s t ([]++m) (Ab U.V y).rows:=@Nf _ U ρ s t _ _ _ _ [] X g trivial;rw[List.nil_append]at q;exact⟨s,t,m,f,by rw[hK];exact H,by rw[hK];exact aa,r,by rw[w,hK];exact q,(@PX _ U.toVals ρ es m 0 f O g).2⟩
   ·cases h
  ·cases h
 ·exact B
 ·obtain⟨l',G,I⟩:=B;cases l' with
  |nil=>exact⟨[],trivial,I⟩
  |cons=>exact G.elim
 ·
  obtain⟨b,z⟩:=AP h;obtain⟨h3,h4⟩:=AP z;obtain⟨b,c6⟩:=Av b;obtain⟨b,c5⟩:=Av b;obtain⟨b,c4⟩:=Av b;obtain⟨b,c3⟩:=Av b;obtain⟨c1,c2⟩:=Av b;obtain⟨c7,c8⟩:=Av h3;have w:=dT c1;have N:=JK (fun _ _=>Eg) c2
  have e3:=Ay c3;have e4:=Ay c4;have e5:=Hu (fun _ _=>Bf) c5
  have e7:=Eg c7;have e8:=Eg c8;subst w;subst N;subst e3;subst e4;subst e5;subst e7;subst e8;obtain⟨tm,bd,G,I,q3⟩:=B;refine⟨tm,bd,by rw[EH c6];exact G,@TR.mk W.toVals (ρ.back β) _ _ _ (@TR.size U.toVals ρ _ _ _ I) (fun i x hx=>?_),q3⟩
  obtain⟨y,r1,Z⟩:=Mv hV hK (ρ:=ρ) _ _ o h4 A i x hx;exact Z _ (@TR.get U.toVals ρ _ _ _ I i y r1)
 ·cases h
theorem Dk{h:Aa}:∀(l:List (Option An)) (d:List Nat) (o:Obs),@EB U.toFacts E θ β h l d=some o→o.holds U.V→l.length=d.length∧∀(i:Nat) x,l[i]?=some (some x)→∃b y k,d[i]?=some b∧h.blk.get b=some y∧@Rk U.toFacts E θ β x y=some k∧k.holds U.V
 |[],[],o,h,m=>⟨rfl,fun i x c=>by simp at c⟩
 |a::l,b::d,o,h,m=>by
  simp only[EB]at h;obtain⟨o1,o2,e,n,rfl⟩:=Bv h;obtain⟨f,g⟩:=Obs.append m;obtain⟨p,q⟩:=Dk l d o2 n g;refine⟨by simp[p],fun i x c=>?_⟩
  cases i with
  |zero=>
   simp only[gy,C2]at c;subst c;cases j:(_:Aa).blk.get b with
   |none=>rw[j]at e;cases e
   |some y=>rw[j]at e;exact⟨b,y,o1,rfl,j,e,f⟩
  |succ i=>
   simp only[iv]at c ⊢;exact q i x c
 |[],_::_,o,h,_=>by cases h
 |_::_,[],o,h,_=>by cases h
theorem HR.toPatL(hE:@OK _ U E){h:Aa}{w:World}{l:List (Option An)}{o:Obs}(hr:@HR _ U.toVals ρ h.blk.get w)(hl:@EB U.toFacts E θ β h l β=some o)(ho:o.holds U.V)(hn:FZ l β=true):@HR _ W.toVals (ρ.back β) (A8 l).get w:=by
 obtain⟨q1,q2⟩:=Dk hV hK l β o hl ho
 have at_:∀b base,(ρ.back β).m b=some base→∃c,β[b]?=some c∧ρ c=some base:=by
  intro b base r;simp only[Ren.back]at r;cases hc:β[b]? with
  |none=>rw[hc]at r;cases r
  |some c=>rw[hc]at r;exact⟨c,rfl,r⟩
 have live:∀b,(A8 l).get b≠none→∃x c y o',(A8 l).get b=some x∧β[b]?=some c∧h.blk.get c=some y∧@Rk U.toFacts E θ β x y=some o'∧o'.holds U.V:=by
  intro b r;rw[Cs]at r ⊢;cases I:l[b]? with
  |none=>rw[I]at r;exact absurd rfl r
  |some ox=>
   cases ox with
   |none=>rw[I]at r;exact absurd rfl r
   |some x=>
    obtain⟨c,y,o',a1,a2,a3,a4⟩:=q2 b x I;exact⟨x,c,y,o',rfl,a1,a2,a3,a4⟩
 refine⟨fun b base r=>?_,fun b base x r I=>?_,fun b b' base base' ar r av h1 h2=>?_,fun k arr hk=>HR.imm (U:=U.toVals) (ρ:=ρ) hr k arr hk,fun k arr b base hk r hl=>?_,HR.glob (U:=U.toVals) (ρ:=ρ) hr⟩
 ·obtain⟨c,c1,c2⟩:=at_ b base r;exact HR.lt (U:=U.toVals) hr c base c2
 ·obtain⟨x',c,y,o',e1,J,e3,e4,e5⟩:=live b (by rw[I];exact F2 _)
  rw[I]at e1;cases e1;obtain⟨c',c1,c2⟩:=at_ b base r;rw[J]at c1;cases c1;exact YJ hV hK hE e4 e5 (HR.blk (U:=U.toVals) hr c base y c2 e3)
 ·obtain⟨c,c1,c2⟩:=at_ b base r;obtain⟨c',al,bd⟩:=at_ b' base' av;obtain⟨_,d,y,_,_,J,e3,_,_⟩:=live b h1;obtain⟨_,d',y',_,_,an,be,_,_⟩:=live b' h2;rw[c1]at J;cases J;rw[al]at an;cases an;refine HR.apart (U:=U.toVals) hr c c' base base' (fun e=>?_) c2 bd (by rw[e3];exact F2 _) (by rw[be];exact F2 _)
  subst e
  have t:∀b,(A8 l).get b≠none→∃x,l[b]?=some (some x):=by
   intro b r;rw[Cs]at r;cases I:l[b]? with
   |none=>rw[I]at r;exact absurd rfl r
   |some ox=>
    cases ox with
    |none=>rw[I]at r;exact absurd rfl r
    |some x=>exact⟨x,rfl⟩
  obtain⟨x1,l1⟩:=t b h1;obtain⟨x2,l2⟩:=t b' h2;exact ar (Kf hn l1 l2 c1 al)
 ·obtain⟨c,c1,c2⟩:=at_ b base r;obtain⟨_,d,y,_,_,J,e3,_,_⟩:=live b hl;rw[c1]at J;cases J;exact HR.off (U:=U.toVals) hr k arr c base hk c2 (by rw[e3];exact F2 _)
omit hV hK in
theorem Yk{l:List (Option An)}{bs:List Nat}(h:Fg bs=true):FZ l bs=true:=by
 induction l generalizing bs with
 |nil=>rfl
 |cons o r ih=>
  cases bs with
  |nil=>cases o<;>rfl
  |cons b bs=>
   simp only[Fg,F9,Ae4]at h;cases o with
   |none=>exact ih h.2
   |some x=>
    simp only[FZ,F9,Ae4];refine⟨?_,ih h.2⟩;cases hq:Fb b r bs with
    |false=>rfl
    |true=>
     exfalso
     have:∀(r:List (Option An)) (bs:List Nat),Fb b r bs=true→Mw b bs=true:=by
      intro r
      induction r with
      |nil=>intro bs h;cases bs<;>cases h
      |cons o r ih2=>
       intro bs h;cases bs with
       |nil=>cases o<;>cases h
       |cons c bs=>
        cases o with
        |none=>simp only[Fb]at h;simp[Mw,ih2 bs h]
        |some x=>
         simp only[Fb,Aew]at h;simp only[Mw,Aew];exact h.imp id (ih2 bs)
     rw[this r bs hq]at h;exact absurd h.1 (by simp)
theorem HR.toPat(hE:@OK _ U E){h:Aa}{w:World}{l:List (Option An)}{o:Obs}(t:@HR _ U.toVals ρ h.blk.get w)(I:@EB U.toFacts E θ β h l β=some o)(J:o.holds U.V)(hn:Fg β=true):@HR _ W.toVals (ρ.back β) (A8 l).get w:=
 HR.toPatL hV hK hE t I J (Yk hn)
end
end Go.AE
namespace Go.AE
variable [Gl:AG]
def UH(a:List Nat):Fn→Fn
 |.yield l=>.yield (a.getD l 0)
 |f=>f
mutual
def AV.inst[Facts](r:List SE)(I:List Nat):AV→AV
 |.top=>.top
 |.bool b=>.bool b
 |.int k n=>.int k n
 |.str l b=>.str l b
 |.ptr0=>.ptr0
 |.ptr b o=>.ptr (I.getD b 0) o
 |.slice0=>.slice0
 |.slice b o n es=>.slice (I.getD b 0) o n es
 |.map0=>.map0
 |.map b=>.map (I.getD b 0)
 |.func fn f c=>.func (UH I fn) (AV.instL r I f) (AV.instL r I c)
 |.nilFunc=>.nilFunc
 |.iface t v=>.iface t (AV.inst r I v)
 |.nilIface=>.nilIface
 |.agg l=>.agg (AV.instL r I l)
 |.tuple l=>.tuple (AV.instL r I l)
 |.sb p e=>mkB p (e.inst r)
 |.si k e=>mkI k (e.inst r)
 |.ss x=>.ss (x.inst r)
 |.dat e x=>.dat e (x.inst r)
 |.dptr e x i off=>.dptr e (x.inst r) (i.inst r) off
 |.asl b es n nl=>.asl (I.getD b 0) es (n.inst r) (nl.inst r)
 |.eslc nl=>.eslc (nl.inst r)
 |.aptr b es i off=>.aptr (I.getD b 0) es (i.inst r) off
 |.nmap b nl=>.nmap (I.getD b 0) (nl.inst r)
 |.stamp b=>.stamp (I.getD b 0)
 |.glob g off=>.glob g off
 |.fsl b o n es=>.fsl (I.getD b 0) o n es
termination_by structural a=>a
def AV.instL[Facts](r:List SE)(I:List Nat):List AV→List AV
 |[]=>[]
 |a::l=>AV.inst r I a::AV.instL r I l
termination_by structural l=>l
end
def T.mapA{t I:Type}(f:t→I):T t→T I
 |.nil=>.nil
 |.node v l r=>.node (match v with|some x=>some (f x)|none=>none) (l.mapA f) (r.mapA f)
def UQ[Facts](a:List SE)(b:List Nat):List AA→List AA
 |[]=>[]
 |e::r=>{key:=e.key.inst a b,val:=e.val.inst a b,born:=e.born}::UQ a b r
def An.inst[Facts](l:List SE)(r:List Nat):An→Option An
 |.cells n c=>some (.cells n (c.mapA (AV.inst l r)))
 |.arr e x=>some (.arr e (x.inst l))
 |.hole e x i j a=>some (.hole e (x.inst l) (i.inst l) j (a.inst l r))
 |.map t k=>some (.map (UQ l r t) k)
 |.dmap k v x=>some (.dmap k v (x.inst l))
 |.deferred none=>some (.deferred none)
 |.deferred (some [])=>some (.deferred (some []))
 |.loop st pending fn nt tmps params assign body d=>some (.loop st pending fn nt (tmps.mapA (AV.inst l r)) params assign body (r.getD d 0))
 |_=>none
theorem T.get_mapA{I J:Type}(f:I→J):∀(t:T I)(i:Nat),(t.mapA f).get i=(t.get i).map f
 |.nil,i=>by rw[T.mapA,T.get_nil,T.get_nil];rfl
 |.node v l r,i=>by
  simp only[T.mapA,T.get_eq,T.get0];split
  ·cases v<;>rfl
  ·split
   ·simp only[←T.get_eq];exact T.get_mapA f l _
   ·simp only[←T.get_eq];exact T.get_mapA f r _
section
variable {U W:Unk}{θ:List SE}(hV:W.V=U.V.inst θ)(hK:W.K=U.K){β:List Nat}{σ τ:Ren}
 (hβ:∀b base,σ b=some base→τ (β.getD b 0)=some base)(hM:∀k a,σ.imm k=some a→τ.imm k=some a)
include hV hK hβ hM
omit hK in
theorem B0{e:SE}:Ab U.V (e.inst θ)=Ab W.V e:=by rw[BA,hV]
theorem XI{f g:Fn}(h:FnR σ f g):FnR τ (UH β f) g:=by
 cases f<;>simp only[FnR,UH]at h ⊢<;>first|exact h|skip
 obtain⟨base,c,d⟩:=h;exact⟨base,hβ _ _ c,d⟩
mutual
theorem EY:∀(a:AV)(v:Value),@VR W.toVals σ a v→@VR U.toVals τ (@AV.inst U.toFacts θ β a) v
 |.top,v,h=>@VR.top U.toVals _ v
 |.bool b,v,h=>by cases h;exact @VR.bool U.toVals _ _
 |.int k n,v,h=>by cases h;exact @VR.int U.toVals _ _ _
 |.str l b,v,h=>by cases h;exact @VR.str U.toVals _ _
 |.ptr0,v,h=>by cases h;exact @VR.ptr0 U.toVals _
 |.ptr b o,v,h=>by
  cases h with
  |ptr _ _ base j=>exact @VR.ptr U.toVals _ _ o base (hβ _ _ j)
 |.slice0,v,h=>by cases h;exact @VR.slice0 U.toVals _
 |.slice b o n s,v,h=>by
  cases h with
  |slice _ _ _ _ m base j G z=>exact @VR.slice U.toVals _ _ o n s m base (hβ _ _ j) G z
  |sliceEnd _ _ _ a=>exact @VR.sliceEnd U.toVals _ _ o s a
 |.map0,v,h=>by cases h;exact @VR.map0 U.toVals _
 |.map b,v,h=>by
  cases h with
  |map _ base j=>exact @VR.map U.toVals _ _ base (hβ _ _ j)
 |.func fn f c,v,h=>by
  cases h with
  |func _ H _ _ J L A B N O P=>
   have D:=G9 f J ⟨B,N⟩;have E:=G9 c L ⟨O,P⟩;exact @VR.func U.toVals _ _ H _ _ J L (XI hV hK hβ hM A) D.1 D.2 E.1 E.2
 |.nilFunc,v,h=>by cases h;exact @VR.nilFunc U.toVals _
 |.iface t a,v,h=>by
  cases h with
  |iface _ _ M hv=>exact @VR.iface U.toVals _ t _ M (EY a M hv)
 |.nilIface,v,h=>by cases h;exact @VR.nilIface U.toVals _
 |.agg l,v,h=>by
  cases h with
  |agg _ C A B=>
   have q:=G9 l C ⟨A,B⟩;exact @VR.agg U.toVals _ _ C q.1 q.2
 |.tuple l,v,h=>by
  cases h with
  |tuple _ C A B=>
   have q:=G9 l C ⟨A,B⟩;exact @VR.tuple U.toVals _ _ C q.1 q.2
 |.sb p e,v,h=>by
  cases h;have:=@GU _ U τ p (e.inst θ);have d:Ah U.V (e.inst θ)=Ah W.V e:=by unfold Ah;rw[B0 hV hβ hM]
  rw[d]at this;exact this
 |.si k e,v,h=>by
  cases h;have:=@Cg _ U τ k (e.inst θ);have d:Ad U.V (e.inst θ)=Ad W.V e:=by unfold Ad;rw[B0 hV hβ hM]
  rw[d]at this;exact this
 |.ss x,v,h=>by
  cases h;have d:AR U.V (x.inst θ)=AR W.V x:=by unfold AR;rw[B0 hV hβ hM]
  have:=@VR.ss U.toVals τ (x.inst θ);rw[d]at this;exact this
 |.dat e x,v,h=>by
  cases h with
  |dat _ _ a n c I=>exact @VR.dat U.toVals τ e _ a n c (by rw[B0 hV hβ hM,←hK];exact I.mono hM)
 |.dptr e x i off,v,h=>by
  cases h with
  |dptr _ _ _ _ b o n m ks I Q w hi R=>
   have d:Ad U.V (i.inst θ)=Ad W.V i:=by unfold Ad;rw[B0 hV hβ hM]
   have:=@VR.dptr U.toVals τ e (x.inst θ) (i.inst θ) off b o n m ks (by rw[B0 hV hβ hM,←hK];exact I.mono hM) (by rw[←hK];exact Q) (by rw[d];exact w) (by rw[d];exact hi) R
   rw[d]at this;exact this
 |.asl b s n nl,v,h=>by
  have d:Ad U.V (n.inst θ)=Ad W.V n:=by unfold Ad;rw[B0 hV hβ hM]
  have y:Ah U.V (nl.inst θ)=Ah W.V nl:=by unfold Ah;rw[B0 hV hβ hM]
  cases h with
  |asl _ _ _ _ m base j w G z u=>
   have:=@VR.asl U.toVals τ _ s (n.inst θ) (nl.inst θ) m base (hβ _ _ j) (by rw[d];exact w) (by rw[d];exact G) z (by rw[y];exact u)
   rw[d]at this;exact this
  |aslEnd _ _ _ _ a w u=>exact @VR.aslEnd U.toVals τ _ s _ _ a (by rw[d];exact w) (by rw[y];exact u)
 |.eslc nl,v,h=>by
  have y:Ah U.V (nl.inst θ)=Ah W.V nl:=by unfold Ah;rw[B0 hV hβ hM]
  cases h with
  |eslc _ a u=>exact @VR.eslc U.toVals τ _ a (by rw[y];exact u)
 |.aptr b s i off,v,h=>by
  have d:Ad U.V (i.inst θ)=Ad W.V i:=by unfold Ad;rw[B0 hV hβ hM]
  cases h with
  |aptr _ _ _ _ base j w=>
   have:=@VR.aptr U.toVals τ _ s (i.inst θ) off base (hβ _ _ j) (by rw[d];exact w)
   rw[d]at this;exact this
 |.nmap b nl,v,h=>by
  have y:Ah U.V (nl.inst θ)=Ah W.V nl:=by unfold Ah;rw[B0 hV hβ hM]
  cases h with
  |nmap _ _ base j u=>exact @VR.nmap U.toVals τ _ _ base (hβ _ _ j) (by rw[y];exact u)
  |nmap0 _ _ u=>exact @VR.nmap0 U.toVals τ _ _ (by rw[y];exact u)
 |.stamp b,v,h=>by
  cases h with
  |stamp _ base j=>exact @VR.stamp U.toVals τ _ base (hβ _ _ j)
 |.glob g off,v,h=>by cases h;exact @VR.glob U.toVals _ _ _
 |.fsl b o n s,v,h=>by
  cases h with
  |fsl _ _ _ _ base j z=>exact @VR.fsl U.toVals τ _ o n s base (hβ _ _ j) z
theorem G9:∀(l:List AV)(F:List Value),@VL W.toVals σ l F→@VL U.toVals τ (@AV.instL U.toFacts θ β l) F
 |[],F,h=>by have:=VL.nil_inv (U:=W.toVals) h;subst this;exact VL.nil (U:=U.toVals) _
 |a::l,F,h=>by
  obtain⟨v,r,rfl,D,E⟩:=VL.cons_inv (U:=W.toVals) h;exact VL.cons (U:=U.toVals) (EY a v D) (G9 l r E)
end
theorem Ob:∀(l:List AA)(c:List MapEntry),@ER W.toVals σ l c→@ER U.toVals τ (@UQ U.toFacts θ β l) c
 |[],[],_=>trivial
 |a::l,e::r,h=>⟨EY hV hK hβ hM _ _ h.1,EY hV hK hβ hM _ _ h.2.1,h.2.2.1,Ob l r h.2.2.2⟩
theorem TH{x y:An}{base:Cu}{C:Option Obj}(h:@An.inst U.toFacts θ β x=some y)(l:@BR W.toVals σ x base C):@BR U.toVals τ y base C:=by
 unfold An.inst at h;split at h
 ·cases h;obtain⟨c,e,o,d,f,b3,b4,m⟩:=l;refine⟨c,e,o,d,f,b3,b4,fun i a hi p=>?_⟩
  rw[T.get_mapA]at p;cases g:(_:T AV).get i with
  |none=>rw[g]at p;cases p
  |some a0=>
   rw[g]at p;cases p;obtain⟨v,D,E⟩:=m i a0 hi g;exact⟨v,D,EY hV hK hβ hM _ _ E⟩
 ·cases h;obtain⟨ks,c,r,o,d,f,b3,b4,m⟩:=l;exact⟨ks,c,r,o,by rw[←hK];exact d,f,b3,b4,by rw[B0 hV hβ hM,←hK];exact m.mono hM⟩
 ·rename_i e x i j a;cases h;obtain⟨ks,c,r,o,u,v,d,f,b3,b4,m,F,G,H,I⟩:=l;have ex:Ab U.V (x.inst θ)=Ab W.V x:=by rw[B0 hV hβ hM]
  have s:Ad U.V (i.inst θ)=Ad W.V i:=by unfold Ad;rw[B0 hV hβ hM]
  exact⟨ks,c,r,o,u,v,by rw[←hK];exact d,f,b3,b4,by rw[ex,s,←hK];exact m.mono hM,by rw[ex,s];exact F,G,by rw[s];exact H,EY hV hK hβ hM _ _ I⟩
 ·cases h;obtain⟨J,d,f⟩:=l;exact⟨J,d,Ob hV hK hβ hM _ _ f⟩
 ·cases h;obtain⟨t,w,z,n,d,f,b3,b4,m⟩:=l;exact⟨t,w,z,n,by rw[←hK];exact d,by rw[←hK];exact f,b3,by rw[B0 hV hβ hM,←hK];exact b4.mono hM,m⟩
 ·cases h;exact l
 ·cases h;obtain⟨L,A,q⟩:=l;cases L with
  |nil=>exact⟨[],trivial,q⟩
  |cons=>exact A.elim
 ·cases h;obtain⟨tm,M,A,q,N⟩:=l;refine⟨tm,M,hβ _ _ A,@TR.mk U.toVals τ _ _ _ (@TR.size W.toVals σ _ _ _ q) (fun i x g=>?_),N⟩
  rw[T.get_mapA]at g;cases B:(_:T AV).get i with
  |none=>rw[B]at g;cases g
  |some a0=>
   rw[B]at g;cases g;exact EY hV hK hβ hM _ _ (@TR.get W.toVals σ _ _ _ q i a0 B)
 ·cases h
end
end Go.AE
namespace Go.AE
variable [Gl:AG]
structure Bd where
 v:T SE
 b:T Nat
 deriving Inhabited
def Bd.var(m:Bd)(e x:SE):Bd:=match e with
 |.var i=>match m.v.get i with
  |none=>{v:=m.v.set i x,b:=m.b}
  |some _=>m
 |_=>m
def Bd.blk(m:Bd)(b c:Nat):Bd:=match m.b.get b with
 |none=>{v:=m.v,b:=m.b.set b c}
 |some _=>m
mutual
def E7:AV→AV→Bd→Bd
 |.ptr b _,.ptr c _,m=>m.blk b c
 |.slice b _ _ _,.slice c _ _ _,m=>m.blk b c
 |.map b,.map c,m=>m.blk b c
 |.func (.yield l) f c,.func (.yield h) j o,m=>EE c o (EE f j (m.blk l h))
 |.func _ f c,.func _ j o,m=>EE c o (EE f j m)
 |.iface _ v,.iface _ r,m=>E7 v r m
 |.agg l,.agg h,m=>EE l h m
 |.tuple l,.tuple h,m=>EE l h m
 |.sb p e,.sb s g,m=>m.var e (match p==s with|true=>g|false=>.neg g)
 |.sb p e,.bool b,m=>m.var e (.bc (b==p))
 |.si _ e,.si _ g,m=>m.var e g
 |.si _ e,.int _ n,m=>m.var e (.c n)
 |.ss e,.ss g,m=>m.var e g
 |.ss e,.str l b,m=>m.var e (.strc l b)
 |.dat _ x,.dat _ t,m=>m.var x t
 |.dat _ x,.slice0,m=>m.var x .nilL
 |.asl b _ n nl,.asl c _ q d,m=>((m.blk b c).var n q).var nl d
 |.asl b _ n nl,.slice c _ q _,m=>((m.blk b c).var n (.c q)).var nl (.bc false)
 |.asl _ _ n nl,.slice0,m=>(m.var n (.c 0)).var nl (.bc true)
 |.asl _ _ n nl,.eslc d,m=>(m.var n (.c 0)).var nl d
 |.eslc nl,.eslc d,m=>m.var nl d
 |.eslc nl,.slice0,m=>m.var nl (.bc true)
 |.aptr b _ i _,.aptr c _ u _,m=>(m.blk b c).var i u
 |.nmap b nl,.nmap c d,m=>(m.blk b c).var nl d
 |.nmap b nl,.map c,m=>(m.blk b c).var nl (.bc false)
 |.nmap _ nl,.map0,m=>m.var nl (.bc true)
 |_,_,m=>m
termination_by structural a=>a
def EE:List AV→List AV→Bd→Bd
 |a::l,b::k,m=>EE l k (E7 a b m)
 |_,_,m=>m
termination_by structural l=>l
end
def Rh:T AV→T AV→Bd→Bd
 |.node v l r,.node c d e,m=>Rh r e (Rh l d (match v,c with
  |some a,some b=>E7 a b m
  |_,_=>m))
 |_,_,m=>m
def ao:List AA→List AA→Bd→Bd
 |e::r,a::b,m=>ao r b (E7 e.val a.val m)
 |_,_,m=>m
def Vq[Facts](E:Env):An→An→Bd→Bd
 |.cells _ c,.cells _ o,m=>Rh c o m
 |.loop _ _ _ _ t _ _ _ d,.loop _ _ _ _ p _ _ _ q,m=>Rh t p (m.blk d q)
 |.arr _ x,.arr _ b,m=>m.var x b
 |.dmap _ _ x,.dmap _ _ b,m=>m.var x b
 |.map f _,.map g _,m=>ao f g m
 |.hole _ x i _ a,.hole _ b r _ s,m=>E7 a s ((m.var x b).var i r)
 |.dmap k v x,.map f _,m=>match E.kinds k,E.kinds v with
  |some h,some j=>match Np h j .emptyL f with
   |some y=>m.var x y
   |none=>m
  |_,_=>m
 |.arr e x,.cells n c,m=>match E.kinds e with
  |some ks=>match c.range 0 n with
   |some l=>match DX ks (n/ks.length) .emptyL l with
    |some y=>m.var x y
    |none=>m
   |none=>m
  |none=>m
 |_,_,m=>m
def Nn[Facts](E:Env)(h:Aa):List (Option An)→Nat→Bd→Bd
 |[],_,m=>m
 |none::r,i,m=>Nn E h r (i+1) m
 |some x::r,i,m=>match m.b.get i with
  |some c=>match h.blk.get c with
   |some y=>Nn E h r (i+1) (Vq E x y m)
   |none=>Nn E h r (i+1) m
  |none=>Nn E h r (i+1) m
def HF[Facts](E:Env)(l:List (Option An))(h:Aa)(m:Bd):Bd:=match l with
 |[]=>m
 |[_]=>m
 |_=>Nn E h l 0 (Nn E h l 0 (Nn E h l 0 m))
def AL[Facts](E:Env):List (Option An)→Nat→Bd→Aa→Bd×Aa
 |[],_,m,h=>(m,h)
 |none::r,i,m,h=>match m.b.get i with
  |some _=>AL E r (i+1) m h
  |none=>AL E r (i+1) (m.blk i h.nx) {h with nx:=h.nx+1}
 |some x::r,i,m,h=>match m.b.get i with
  |some c=>match h.blk.get c with
   |some y=>AL E r (i+1) (Vq E x y m) h
   |none=>AL E r (i+1) m h
  |none=>match x with
   |.arr e y=>AL E r (i+1) ((m.blk i h.nx).var y .nilL) (h.new (.arr e .nilL))
   |.dmap k v y=>AL E r (i+1) ((m.blk i h.nx).var y .emptyL) (h.new (.dmap k v .emptyL))
   |_=>AL E r (i+1) m h
def IG(t:T SE):Nat→Nat→List SE
 |_,0=>[]
 |i,n+1=>(match t.get i with|some x=>x|none=>.c 0)::IG t (i+1) n
def Jj(t:T Nat):Nat→Nat→List Nat
 |_,0=>[]
 |i,n+1=>(match t.get i with|some x=>x|none=>0)::Jj t (i+1) n
def N5(n:Nat):List Nat→Bool
 |[]=>true
 |b::r=>Nat.blt b n&&N5 n r
def Dl(nx:Nat):Nat→List Nat
 |0=>[]
 |m+1=>nx::Dl (nx+1) m
def Ja[U:Facts](a:List SE):List (SB×Bool)→Bool
 |[]=>true
 | (e,b)::r=>(match AN U.facts (e.inst a)with
  |some c=>c==b
  |none=>false)&&Ja a r
def D6[Facts](a:List SE)(c:List Nat):List (Option An)→List Nat→T An→Option (T An)
 |[],[],t=>some t
 |none::r,b::d,t=>D6 a c r d (t.del b)
 |some x::r,b::d,t=>match x.inst a c with
  |some y=>D6 a c r d (t.set b y)
  |none=>none
 |_,_,_=>none
def Qy:Option Obs→Bool
 |some []=>true
 |_=>false
def WD[Facts]:Obs→Bool
 |[]=>true
 | (a,.bc true)::r=>a.isB&&Mi a&&WD r
 |_=>false
def J9[Facts]:Option Obs→Bool
 |some o=>WD o
 |none=>false
theorem ZR{U:Unk}:∀{o:Obs},@WD U.toFacts o=true→o.holds U.V:=by
 intro o
 induction o with
 |nil=>intro _ a b d;cases d
 |cons p r ih=>
  intro h;unfold WD at h;split at h
  ·rename_i c;cases c
  ·rename_i x g c;cases c;simp only[F9]at h;intro a b d;rcases i0.1 d with q|q
   ·cases q;have e:=h.1.2;unfold Mi at e;split at e
    ·rename_i f;have:=Aw U.ok f;rw[Ps U.V h.1.1];show D.bool (Ah U.V x)=_;rw[this];rfl
    ·cases e
   ·exact ih h.2 a b q
  ·cases h
theorem OD{U:Unk}{o:Option Obs}(h:@J9 U.toFacts o=true):∃l,o=some l∧l.holds U.V:=by
 unfold J9 at h;split at h
 ·exact⟨_,rfl,ZR h⟩
 ·cases h
def Xh(a new:T An):List Nat→List Nat
 |[]=>[]
 |b::r=>match eqO VZ (a.get b) (new.get b)with
  |true=>Xh a new r
  |false=>b::Xh a new r
theorem P9{a new:T An}:∀{l:List Nat}{b:Nat},b∈l→b∉Xh a new l→new.get b=a.get b
 |c::r,b,h,d=>by
  simp only[Xh]at d;split at d
  ·rename_i e;rcases i0.1 h with q|q
   ·subst q;exact(Yq (fun _ _=>Ra) e).symm
   ·exact P9 q d
  ·rcases i0.1 h with q|q
   ·subst q;exact absurd (by simp) d
   ·exact P9 q (fun c=>d (by simp[c]))
def TA[Facts](E:Env)(s:Sm)(b:List SE)(a:List Nat)(args:List AV)(h:Aa):Option (AV×Aa):=
 match J9 (Gp b a s.args args)&&J9 (EB E b a h s.pre a)&&Fg a&&N5 h.nx a&&Ja b s.facts&&Nat.ble s.pre.length s.post.length with
 |true=>
  match D6 b (a++Dl h.nx (s.post.length-s.pre.length)) s.post (a++Dl h.nx (s.post.length-s.pre.length)) h.blk with
  |some t=>some (s.res.inst b (a++Dl h.nx (s.post.length-s.pre.length)),{blk:=t,nx:=h.nx+(s.post.length-s.pre.length),log:=Xh h.blk t a++h.log})
  |none=>none
 |false=>none
def n8:AV→Kd
 |.dat e _=>.slice e
 |_=>.bool
def QU[Facts](E:Env)(p a:AV)(h:Aa):AV×Aa:=
 match p,a with
 |.agg c,.agg d=>match HC E (c.map n8) d h with
  | (b,e)=>(.agg b,e)
 |p,a=>Ky E (n8 p) a h
def Rz[Facts](E:Env):List AV→List AV→Aa→List AV×Aa
 |p::b,a::l,h=>match QU E p a h with
  | (c,d)=>match Rz E b l d with
   | (e,f)=>(c::e,f)
 |_,l,h=>(l,h)
def DF[Facts](E:Env):List (Option An)→Nat→T Nat→Aa→Aa
 |[],_,_,h=>h
 |some (.arr e _)::r,i,b,h=>match b.get i,E.kinds e with
  |some c,some ks=>match Fi ks with
   |true=>match h.blk.get c with
    |some (.cells _ _)=>DF E r (i+1) b (Ic E e c h)
    |some (.hole _ _ _ _ _)=>DF E r (i+1) b (Kt E c h)
    |_=>DF E r (i+1) b h
   |false=>DF E r (i+1) b h
  |_,_=>DF E r (i+1) b h
 |some (.cells n a)::r,i,b,h=>match b.get i,a.range 0 n with
  |some c,some l=>match Fi (OC l)with
   |true=>DF E r (i+1) b (En E (OC l) c h)
   |false=>DF E r (i+1) b h
  |_,_=>DF E r (i+1) b h
 |_::r,i,b,h=>DF E r (i+1) b h
def Rn[Facts](E:Env)(s:Sm)(args:List AV)(h:Aa):List AV×Aa:=match Rz E s.args args h with
 | (args,h)=>(args,DF E s.pre 0 (HF E s.pre h (EE s.args args ⟨.nil,.nil⟩)).b h)
def Tq:AV→Bool
 |.bool _=>true
 |.int _ _=>true
 |.str _ _=>true
 |.sb _ _=>true
 |.si _ _=>true
 |.ss _=>true
 |_=>false
def Pf:AV→Bool
 |.agg l=>l.all Tq
 |a=>Tq a
def P5:AV→Bool
 |.tuple l=>l.all Pf
 |a=>Pf a
def gd(s:Sm)(h:Aa)(r:AV×Aa):AV×Aa:=match s.pre,s.post,P5 r.1 with
 |[],[],true=>(r.1,h)
 |_,_,_=>r
def Yo[Facts](E:Env)(s:Sm)(args:List AV)(a:Aa):Option (AV×Aa):=
 match Rn E s args a with
 | (args,h)=>match AL E s.pre 0 (HF E s.pre h (EE s.args args ⟨.nil,.nil⟩)) h with
  | (m,c)=>match TA E s (IG m.v 0 s.nv) (Jj m.b 0 s.pre.length) args c with
   |some r=>some (gd s a r)
   |none=>none
def MG[Facts](E:Env):List Sm→FuncId→List AV→Aa→Option (Bool×AV×Aa)
 |[],_,_,_=>none
 |s::r,f,args,h=>match Nat.beq s.f f with
  |true=>match Yo E s args h with
   |some (v,g)=>some (s.ok,v,g)
   |none=>MG E r f args h
  |false=>MG E r f args h
def Sm.Valid(P:Program)(F:Nat→D→D)(s:Sm):Prop:=
 ∀[U:Unk],U.K=(Env.of P).kinds→U.V.fn=F→(∀e b,(e,b)∈s.facts→Ah U.V e=b)→∀(r:Ren)(w:World)(l:List Value),VL r s.args l→HR r (A8 s.pre).get w→(∀b,s.pre.length≤b→r b=none)→
  ∀(c0:Frame)(base:List Frame),∃t J I,BI P (lone (Frame.enter P s.f l.toArray .normal) (c0::base) w) c0 base s.ok J I∧VR t s.res J∧HR t (A8 s.post).get I∧
   Ext r t {blk:=A8 s.pre,nx:=s.pre.length,log:=[]} {blk:=A8 s.post,nx:=s.post.length,log:=List.range s.pre.length} w I
theorem N9{o:Option Obs}(h:Qy o=true):o=some []:=by
 unfold Qy at h;split at h
 ·rfl
 ·cases h
theorem Mk:∀(m nx i:Nat),(Dl nx m)[i]?=if i<m then some (nx+i)else none
 |0,nx,i=>by simp[Dl]
 |m+1,nx,i=>by
  cases i with
  |zero=>simp[Dl]
  |succ i=>
   simp only[Dl,iv,Mk m (nx+1) i];by_cases c:i<m
   ·rw[if_pos c,if_pos (by omega)];congr 1;omega
   ·rw[if_neg c,if_neg (by omega)]
theorem ML{n:Nat}:∀{l:List Nat},N5 n l=true→∀b∈l,b<n
 |[],_,b,a=>by cases a
 |c::r,h,b,a=>by
  simp only[N5,F9]at h;rcases i0.1 a with rfl|a
  ·simpa[Nat.blt_eq]using h.1
  ·exact ML h.2 b a
theorem B6{U:Unk}{f:List SE}:∀{l:List (SB×Bool)},@Ja U.toFacts f l=true→∀e b,(e,b)∈l→Ah (U.V.inst f) e=b
 |[],_,e,b,h=>by cases h
 | (x,c)::r,h,e,b,g=>by
  simp only[Ja,F9]at h;rcases i0.1 g with q|q
  ·cases q;have a:=h.1;split at a
   ·rename_i d i;have:=@Aw _ U U.V _ U.ok _ _ i;rw[Fx]at this;rw[this];exact eq_of_beq a
   ·cases a
  ·exact B6 h.2 e b q
theorem TG[Facts]{q:List SE}{s:List Nat}:∀(l:List (Option An)) (d:List Nat) (t f:T An),D6 q s l d t=some f→(∀(i j b:Nat),d[i]?=some b→d[j]?=some b→i=j)→
  (∀c,c∉d→f.get c=t.get c)∧∀(i c:Nat),d[i]?=some c→(l[i]?=some none∧f.get c=none)∨∃(x y:An),l[i]?=some (some x)∧x.inst q s=some y∧f.get c=some y:=by
 intro l
 induction l with
 |nil=>
  intro d t f h m;cases d with
  |nil=>simp only[D6,C2]at h;subst h;exact⟨fun _ _=>rfl,fun i c a=>by simp at a⟩
  |cons=>cases h
 |cons o r ih=>
  intro d t f h m;cases d with
  |nil=>cases o<;>cases h
  |cons b d=>
   have u:b∉d:=by
    intro v;obtain⟨j,n,e⟩:=sd v;have:=m 0 (j+1) b rfl (by simp[n,e])
    omega
   have g:∀(i j b:Nat),d[i]?=some b→d[j]?=some b→i=j:=fun i j c hi n=>by
    have:=m (i+1) (j+1) c (by simpa using hi) (by simpa using n)
    omega
   cases o with
   |none=>
    simp only[D6]at h;obtain⟨k,p⟩:=ih d _ f h g;refine⟨fun c a=>?_,fun i c a=>?_⟩
    ·simp only[i0,not_or]at a;rw[k c a.2,T.get_del,if_neg (fun e=>a.1 e.symm)]
    ·cases i with
     |zero=>
      simp only[gy,C2]at a;subst a;exact .inl ⟨rfl,by rw[k _ u,T.get_del,if_pos rfl]⟩
     |succ i=>
      simp only[iv]at a ⊢;exact p i c a
   |some x=>
    simp only[D6]at h;split at h
    ·rename_i y w;obtain⟨k,p⟩:=ih d _ f h g;refine⟨fun c a=>?_,fun i c a=>?_⟩
     ·simp only[i0,not_or]at a;rw[k c a.2,T.get_set,if_neg (fun e=>a.1 e.symm)]
     ·cases i with
      |zero=>
       simp only[gy,C2]at a;subst a;exact .inr ⟨x,y,rfl,w,by rw[k _ u,T.get_set,if_pos rfl]⟩
      |succ i=>
       simp only[iv]at a ⊢;exact p i c a
    ·cases h
@[reducible] def CG(U:Unk)(F:List (SB×Bool))(a:List SE)(h:∀e b,(e,b)∈F→Ah (U.V.inst a) e=b):Unk:={facts:=F,V:=U.V.inst a,K:=U.K,R:=[],hR:=fun _ _ _ _ _ h=>(by cases h),ok:=h}
theorem VH{U:Unk}{E:Env}{FF:List (SB×Bool)}{C:List SE}{r:List Nat}(z:∀e b,(e,b)∈FF→Ah (U.V.inst C) e=b){pre post:List (Option An)}{res:AV}{o:Obs}{h:Aa}{t:T An}{ρ X:Ren}{w w':World}{v':Value}{p A:Nat}(ap:pre.length=p)(aq:post.length=A)
 (ah:EB E C r h pre r=some o)(ai:o.holds U.V)(ar:Fg r=true)(Z:∀b∈r,b<h.nx)(a0:p≤A)(ht:D6 C (r++Dl h.nx (A-p)) post (r++Dl h.nx (A-p)) h.blk=some t)
 (hr:HR ρ h.blk.get w)(as:∀b,h.nx≤b→h.blk.get b=none)(ad:AW ρ h.nx (h.nx+(A-p)))
 (q2:@VR (CG U FF C z).toVals X res v')(q3:@HR _ (CG U FF C z).toVals X (A8 post).get w')(N:Ext (ρ.back r) X {blk:=A8 pre,nx:=pre.length,log:=[]} {blk:=A8 post,nx:=post.length,log:=List.range pre.length} w w') :
  ∃J,VR J (res.inst C (r++Dl h.nx (A-p))) v'∧HR J t.get w'∧Ext ρ J h {blk:=t,nx:=h.nx+(A-p),log:=r++h.log} w w':=by
 have hV:(CG U FF C z).V=U.V.inst C:=rfl;have hK:(CG U FF C z).K=U.K:=rfl;have a5:pre.length=r.length:=(Dk (U:=U) (W:=CG U FF C z) hV hK pre r o ah ai).1;have aj:=(Dk (U:=U) (W:=CG U FF C z) hV hK pre r o ah ai).2
 have P:∀b,pre.length≤b→(ρ.back r).m b=none:=by
  intro b F;have:r[b]?=none:=Aeq (by omega)
  simp[Ren.back,this]
 have au:r.length=p:=by omega
 have gb:∀(i:Nat),(r++Dl h.nx (A-p))[i]?=if i<p then r[i]? else if i<A then some (h.nx+(i-p))else none:=by
  intro i;by_cases c:i<p
  ·rw[if_pos c,hP (by omega)]
  ·rw[if_neg c,hS (by omega),Mk,au]
   by_cases c2:i<A
   ·rw[if_pos c2,if_pos (by omega)]
   ·rw[if_neg c2,if_neg (by omega)]
 have ae:∀(i j b:Nat),(r++Dl h.nx (A-p))[i]?=some b→(r++Dl h.nx (A-p))[j]?=some b→i=j:=by
  intro i j b hi M;rw[gb]at hi M;by_cases c:i<p
  ·rw[if_pos c]at hi;have:=Z b (tl hi);by_cases d:j<p
   ·rw[if_pos d]at M;exact Ox ar hi M
   ·rw[if_neg d]at M;split at M
    ·cases M;omega
    ·cases M
  ·rw[if_neg c]at hi;split at hi
   ·cases hi;by_cases d:j<p
    ·rw[if_pos d]at M;have:=Z _ (tl M);omega
    ·rw[if_neg d]at M;split at M
     ·simp only[C2]at M;omega
     ·cases M
   ·cases hi
 obtain⟨t1,t2⟩:=@TG _ U.toFacts C _ _ _ _ _ ht ae
 let J:Ren:=⟨fun c=>if h.nx≤c∧c<h.nx+(A-p)then X (p+(c-h.nx))else ρ c,X.imm⟩
 have u:∀c,c<h.nx→J c=ρ c:=fun c n=>by show(if _ then _ else _)=_;rw[if_neg (by omega)]
 have Q:∀i,p≤i→i<A→J (h.nx+(i-p))=X i:=fun i h1 h2=>by
  show(if _ then _ else _)=_
  rw[if_pos (by omega)];congr 1;omega
 have ac:=N.le
 have back:∀b base,(ρ.back r).m b=some base→∃c,r[b]?=some c∧ρ c=some base:=by
  intro b base F;simp only[Ren.back]at F;cases n:r[b]? with
  |none=>rw[n]at F;cases F
  |some c=>rw[n]at F;exact⟨c,rfl,F⟩
 have s:∀b,(A8 pre).get b≠none→∃c y,r[b]?=some c∧h.blk.get c=some y:=by
  intro b F;rw[Cs]at F;cases hx:pre[b]? with
  |none=>rw[hx]at F;exact absurd rfl F
  |some ox=>
   cases ox with
   |none=>rw[hx]at F;exact absurd rfl F
   |some x=>
    obtain⟨c,y,o',a1,a2,a3,a4⟩:=aj b x hx;exact⟨c,y,a1,a2⟩
 have af:ρ.le J:=by
  refine⟨fun c base n=>?_,fun k a L=>ac.imm k a L⟩
  show(if _ then _ else _)=_
  rw[if_neg ?_]
  ·exact n
  ·intro ak;rw[ad c ak.1 ak.2]at n;cases n
 have al:∀b base,X b=some base→J ((r++Dl h.nx (A-p)).getD b 0)=some base:=by
  intro b g F;rcases N.new b g F with hq|⟨a1,a2,_⟩
  ·obtain⟨c,c1,c2⟩:=back b g hq;have am:b<p:=by have:=(L2.1 c1).1;omega
   have e:(r++Dl h.nx (A-p)).getD b 0=c:=by rw[F4,gb,if_pos am,c1];rfl
   rw[e,u c (Z c (tl c1))];exact c2
  ·simp only[ap,aq]at a1 a2;have e:(r++Dl h.nx (A-p)).getD b 0=h.nx+(b-p):=by rw[F4,gb,if_neg (by omega),if_pos a2];rfl
   rw[e,Q b a1 a2];exact F
 have kinds:∀c y,t.get c=some y→(∃i x,(r++Dl h.nx (A-p))[i]?=some c∧(A8 post).get i=some x∧@An.inst U.toFacts C (r++Dl h.nx (A-p)) x=some y)∨(c∉r∧c<h.nx∧h.blk.get c=some y):=by
  intro c y G;by_cases hm:c∈r++Dl h.nx (A-p)
  ·obtain⟨i,hi,e⟩:=sd hm;have an:(r++Dl h.nx (A-p))[i]?=some c:=L2.2 ⟨hi,e⟩;rcases t2 i c an with⟨_,q⟩|⟨x,y',a1,a2,a3⟩
   ·rw[q]at G;cases G
   ·rw[a3]at G;cases G;exact .inl ⟨i,x,an,by rw[Cs,a1];rfl,a2⟩
  ·rw[t1 c hm]at G;refine .inr ⟨fun e=>hm (List.mem_append_left _ e),?_,G⟩
   rcases hH c h.nx with q|q
   ·exact q
   ·rw[as c q]at G;cases G
 have v:∀i c g,(r++Dl h.nx (A-p))[i]?=some c→J c=some g→X i=some g:=by
  intro i c g hi n;rw[gb]at hi;by_cases d:i<p
  ·rw[if_pos d]at hi;rw[u c (Z c (tl hi))]at n;exact ac.m i g (by show(r[i]?).bind ρ.m=some g;rw[hi];exact n)
  ·rw[if_neg d]at hi;split at hi
   ·rename_i d2;cases hi;rw[Q i (by omega) d2]at n;exact n
   ·cases hi
 have H:∀D f c g y,(ρ.back r).m D=some f→(A8 pre).get D≠none→c∉r→ρ c=some g→h.blk.get c=some y→f.cb≠g.cb:=by
  intro D f c g y h1 h2 h3 h4 h5;obtain⟨c1,O,R⟩:=back D f h1;obtain⟨c2,y2,Y,e4⟩:=s D h2;rw[O]at Y;cases Y;exact hr.apart c1 c f g (fun e=>h3 (e▸tl O)) R h4 (by rw[e4];exact F2 _) (by rw[h5];exact F2 _)
 have mixed:∀i c g I B y' x,(r++Dl h.nx (A-p))[i]?=some c→(A8 post).get i=some x→J c=some g→I∉r→I<h.nx→h.blk.get I=some y'→J I=some B→g.cb≠B.cb:=by
  intro i c g I B y' x hi hx n h3 h4 h5 h6;rw[u I h4]at h6;have av:=v i c g hi n;rcases N.new i g av with hq|⟨a1,a2,a3|⟨D,f,O,R,Y⟩⟩
  ·rcases N.live i (by show(A8 post).get i≠none;rw[hx];exact F2 _)with l|⟨l1,l2⟩
   ·exact H i g I B y' hq l h3 h6 h5
   ·simp only at l1;rw[P i l1]at hq;cases hq
  ·have:=hr.lt I B h6;omega
  ·rw[←Y];exact H D f I B y' O R h3 h6 h5
 refine⟨J,EY (U:=U) (W:=CG U FF C z) hV hK al (fun k a L=>L) res v' q2,⟨?_,?_,?_,?_,?_,hr.glob.mono af.imm⟩,⟨af,by show h.nx≤h.nx+_;omega,?_,N.calm,?_,⟨r,rfl,?_⟩,?_,?_⟩⟩
 ·intro c g n;by_cases d:h.nx≤c∧c<h.nx+(A-p)
  ·have:J c=X (p+(c-h.nx)):=by show(if _ then _ else _)=_;rw[if_pos d]
   rw[this]at n;exact HR.lt (U:=(CG U FF C z).toVals) q3 _ g n
  ·have:J c=ρ c:=by show(if _ then _ else _)=_;rw[if_neg d]
   rw[this]at n;have:=hr.lt c g n;have:=N.calm.size;omega
 ·intro c g y n G;rcases kinds c y G with⟨i,x,a1,a2,a3⟩|⟨a1,a2,a3⟩
  ·exact TH (U:=U) (W:=CG U FF C z) hV hK al (fun k a L=>L) a3 (HR.blk (U:=(CG U FF C z).toVals) q3 i g x (v i c g a1 n) a2)
  ·rw[u c a2]at n;have L:=N.kept g.cb (hr.lt c g n) (fun D f aw ax=>H D f c g y aw ax a1 n a3)
   rw[L];exact(hr.blk c g y n a3).mono af
 ·intro c I g B ao n S h1 h2;cases G:t.get c with
  |none=>exact absurd G h1
  |some y=>
   cases ag:t.get I with
   |none=>exact absurd ag h2
   |some y'=>
    rcases kinds c y G with⟨i,x,a1,a2,a3⟩|⟨a1,a2,a3⟩
    ·rcases kinds I y' ag with⟨i',x',b1,b2,b3⟩|⟨b1,b2,b3⟩
     ·exact HR.apart (U:=(CG U FF C z).toVals) q3 i i' g B (fun e=>by subst e;rw[a1]at b1;cases b1;exact ao rfl) (v i c g a1 n) (v i' I B b1 S) (by rw[a2];exact F2 _) (by rw[b2];exact F2 _)
     ·exact mixed i c g I B y' x a1 a2 n b1 b2 b3 S
    ·rcases kinds I y' ag with⟨i',x',b1,b2,b3⟩|⟨b1,b2,b3⟩
     ·exact(mixed i' I B c g y x' b1 b2 S a1 a2 a3 n).symm
     ·rw[u c a2]at n;rw[u I b2]at S;exact hr.apart c I g B ao n S (by rw[a3];exact F2 _) (by rw[b3];exact F2 _)
 ·intro k arr L;exact HR.imm (U:=(CG U FF C z).toVals) q3 k arr L
 ·intro k arr c g L n hl;cases G:t.get c with
  |none=>exact absurd G hl
  |some y=>
   rcases kinds c y G with⟨i,x,a1,a2,a3⟩|⟨a1,a2,a3⟩
   ·exact HR.off (U:=(CG U FF C z).toVals) q3 k arr i g L (v i c g a1 n) (by rw[a2];exact F2 _)
   ·rw[u c a2]at n;have ay:h.blk.get c≠none:=by rw[a3];exact F2 _
    rcases N.imm k arr L with e|e|⟨D,f,O,R,Y⟩
    ·exact hr.off k arr c g e n ay
    ·have:=hr.lt c g n;omega
    ·rw[←Y];exact(H D f c g y O R a1 n a3).symm
 ·intro c g n;by_cases d:h.nx≤c∧c<h.nx+(A-p)
  ·have e:J c=X (p+(c-h.nx)):=by show(if _ then _ else _)=_;rw[if_pos d]
   rw[e]at n;refine .inr ⟨d.1,d.2,?_⟩;rcases N.new _ g n with hq|⟨_,_,a3|⟨D,f,O,R,Y⟩⟩
   ·rw[P _ (by omega)]at hq;cases hq
   ·exact .inl a3
   ·obtain⟨c1,x1,x2⟩:=back D f O;obtain⟨c2,y2,x3,x4⟩:=s D R;rw[x1]at x3;cases x3;exact .inr ⟨c1,f,x2,by rw[x4];exact F2 _,Y⟩
  ·have e:J c=ρ c:=by show(if _ then _ else _)=_;rw[if_neg d]
   rw[e]at n;exact .inl n
 ·intro k L az;refine N.kept k L (fun D f O R=>?_)
  obtain⟨c1,x1,x2⟩:=back D f O;obtain⟨c2,y2,x3,x4⟩:=s D R;rw[x1]at x3;cases x3;exact az c1 f x2 (by rw[x4];exact F2 _)
 ·intro b F aa;refine t1 b (fun hm=>?_)
  rcases Aes.1 hm with q|q
  ·exact F q
  ·obtain⟨i,hi,e⟩:=sd q;have ab:(Dl h.nx (A-p))[i]?=some b:=by simp[hi,e]
   rw[Mk]at ab;split at ab
   ·cases ab;simp only at aa;omega
   ·cases ab
 ·intro b F;show h.blk.get b≠none∨(h.nx≤b∧b<h.nx+(A-p));cases G:t.get b with
  |none=>exact absurd G F
  |some y=>
   rcases kinds b y G with⟨i,x,a1,a2,a3⟩|⟨a1,a2,a3⟩
   ·rw[gb]at a1;by_cases d:i<p
    ·rw[if_pos d]at a1;rcases N.live i (by show(A8 post).get i≠none;rw[a2];exact F2 _)with l|⟨l1,_⟩
     ·obtain⟨c2,y2,x3,x4⟩:=s i l;rw[a1]at x3;cases x3;exact .inl (by rw[x4];exact F2 _)
     ·simp only at l1;omega
    ·rw[if_neg d]at a1;split at a1
     ·cases a1;exact .inr (by omega)
     ·cases a1
   ·exact .inl (by rw[a3];exact F2 _)
 ·intro k arr L;rcases N.imm k arr L with e|e|⟨D,f,O,R,Y⟩
  ·exact .inl e
  ·exact .inr (.inl e)
  ·obtain⟨c1,x1,x2⟩:=back D f O;obtain⟨c2,y2,x3,x4⟩:=s D R;rw[x1]at x3;cases x3;exact .inr (.inr ⟨c1,f,x2,by rw[x4];exact F2 _,Y⟩)
theorem WN{U:Unk}{E:Env}(hE:OK E){F:Nat→D→D}(M:U.V.fn=F){s:Sm}(N:s.Valid E.P F){j:List SE}{g:List Nat}{args:List AV}{a:List Value}{h h':Aa}{v:AV}{u:Ren}{w:World}
 (k:TA E s j g args h=some (v,h'))(O:VL u args a)(A:HR u h.blk.get w)(C:∀b,h.nx≤b→h.blk.get b=none)(n:AW u h.nx h'.nx)(c0:Frame)(base:List Frame) :
  ∃x B y,BI E.P (lone (Frame.enter E.P s.f a.toArray .normal) (c0::base) w) c0 base s.ok B y∧VR x v B∧HR x h'.blk.get y∧Ext u x h h' w y:=by
 unfold TA at k;split at k
 ·rename_i i;split at k
  ·rename_i t Q;simp only[C2,k0]at k;obtain⟨rfl,rfl⟩:=k;obtain⟨i,d⟩:=Av i;obtain⟨i,c⟩:=Av i;obtain⟨i,o⟩:=Av i;obtain⟨i,z⟩:=Av i;obtain⟨p,e⟩:=Av i;obtain⟨l1,p,G⟩:=OD p;obtain⟨l2,e,q⟩:=OD e;have d:=C7 d;have o:=ML o;have hV:(CG U s.facts j (B6 c)).V=U.V.inst j:=rfl;have hK:(CG U s.facts j (B6 c)).K=U.K:=rfl;have R:s.pre.length=g.length:=(Dk (U:=U) (W:=CG U s.facts j (B6 c)) hV hK s.pre g _ e q).1;have p1:=DI (U:=U) (W:=CG U s.facts j (B6 c)) hV hK s.args args _ a p G O;have p2:=HR.toPat (U:=U) (W:=CG U s.facts j (B6 c)) hV hK hE A e q z
   have r:∀b,s.pre.length≤b→(u.back g).m b=none:=by
    intro b I;have:g[b]?=none:=Aeq (by omega)
    simp[Ren.back,this]
   obtain⟨σ,B,y,S,T,X,Y⟩:=N (U:=CG U s.facts j (B6 c)) hE.kd M (B6 c) (u.back g) w a p1 p2 r c0 base;obtain⟨x,Z,r2,J⟩:=VH (U:=U) (E:=E) (FF:=s.facts) (B6 c) rfl rfl e q z o d Q A C n T X Y;refine⟨x,B,y,S,Z,r2,{J with log:=⟨Xh h.blk t g,rfl,fun b I A=>?_⟩}⟩
   by_cases L:b∈g
   ·exact P9 L I
   ·obtain⟨l,H,e2⟩:=J.log;have H:g++h.log=l++h.log:=H;have:=List.append_cancel_right H;subst this;exact e2 b L A
  ·cases k
 ·cases k
theorem Bt[Facts]{E:Env}:∀(l:List (Option An)) (i:Nat) (m:Bd) (h:Aa),h.nx≤(AL E l i m h).2.nx
 |[],_,_,_=>R2 _
 |none::r,i,m,h=>by
  simp only[AL];split
  ·exact Bt r (i+1) m h
  ·exact sf (Nat.le_succ _) (Bt (E:=E) r (i+1) (m.blk i h.nx) {h with nx:=h.nx+1})
 |some x::r,i,m,h=>by
  simp only[AL];split
  ·split
   ·exact Bt r (i+1) _ h
   ·exact Bt r (i+1) _ h
  ·split
   ·rename_i e y;have:=Bt (E:=E) r (i+1) ((m.blk i h.nx).var y .nilL) (h.new (.arr e .nilL));exact sf (Nat.le_succ _) this
   ·rename_i k v y;have:=Bt (E:=E) r (i+1) ((m.blk i h.nx).var y .emptyL) (h.new (.dmap k v .emptyL));exact sf (Nat.le_succ _) this
   ·exact Bt r (i+1) _ h
theorem Br{U:Unk}{E:Env}{ρ:Ren}{w:World}:∀(l:List (Option An)) (i:Nat) (m:Bd) (h:Aa),HR ρ h.blk.get w→WF h→AW ρ h.nx (AL E l i m h).2.nx→
  HR ρ (AL E l i m h).2.blk.get w∧Ext ρ ρ h (AL E l i m h).2 w w∧WF (AL E l i m h).2
 |[],_,_,h,c,a,_=>⟨c,Ext.refl _ _ _,a⟩
 |none::r,i,m,h,c,a,b=>by
  simp only[AL]at b ⊢;split at b
  ·exact Br r (i+1) m h c a b
  ·have o:=Bt (E:=E) r (i+1) (m.blk i h.nx) {h with nx:=h.nx+1}
   have j:Ext ρ ρ h {h with nx:=h.nx+1} w w:=⟨Ren.le_refl ρ,Nat.le_succ _,fun _ _ e=>.inl e,G8.refl w,fun _ _ _=>rfl,⟨[],rfl,fun _ _ _=>rfl⟩,fun _ e=>.inl e,fun _ _ e=>.inl e⟩
   obtain⟨d,f,g⟩:=Br r (i+1) (m.blk i h.nx) {h with nx:=h.nx+1} c (j.wf a) (j.free b)
   exact⟨d,j.trans f b,g⟩
 |some x::r,i,m,h,c,a,b=>by
  simp only[AL]at b ⊢;split at b
  ·split at b
   ·exact Br r (i+1) _ h c a b
   ·exact Br r (i+1) _ h c a b
  ·split at b
   ·rename_i e y;have o:=Bt (E:=E) r (i+1) ((m.blk i h.nx).var y .nilL) (h.new (.arr e .nilL));have n:(h.new (.arr e .nilL)).nx=h.nx+1:=rfl;obtain⟨p1,p2⟩:=HR.phantom c (b h.nx (R2 _) (by omega)) (.arr e .nilL)
    obtain⟨d,f,g⟩:=Br r (i+1) _ _ p1 (p2.wf a) (p2.free b);exact⟨d,p2.trans f b,g⟩
   ·rename_i k v y;have o:=Bt (E:=E) r (i+1) ((m.blk i h.nx).var y .emptyL) (h.new (.dmap k v .emptyL));have n:(h.new (.dmap k v .emptyL)).nx=h.nx+1:=rfl;obtain⟨p1,p2⟩:=HR.phantom c (b h.nx (R2 _) (by omega)) (.dmap k v .emptyL)
    obtain⟨d,f,g⟩:=Br r (i+1) _ _ p1 (p2.wf a) (p2.free b);exact⟨d,p2.trans f b,g⟩
   ·exact Br r (i+1) _ h c a b
theorem Rr{U:Unk}{E:Env}(hE:OK E){w:World}{p a f:AV}{v:Value}{d:Ren}{h h':Aa}(g:HR d h.blk.get w)(i:VR d a v)(b:QU E p a h=(f,h')) :
  h'.nx=h.nx∧∃c:Ren,VR c f v∧HR c h'.blk.get w∧Ext d c h h' w w:=by
 unfold QU at b;split at b
 ·rename_i s t;split at b;rename_i e u k;cases b;cases i with
  |agg _ l m n=>
   obtain⟨o,c,j,q,r⟩:=LU hE g ⟨m,n⟩ k;exact⟨o,c,.agg e l j.1 j.2,q,r⟩
 ·exact⟨P1 b,JU hE g i b⟩
theorem Qi{U:Unk}{E:Env}(hE:OK E){w:World}:∀{p l e:List AV}{f:List Value}{d:Ren}{h h':Aa},HR d h.blk.get w→VL d l f→Rz E p l h=(e,h')→
  h'.nx=h.nx∧∃i:Ren,VL i e f∧HR i h'.blk.get w∧Ext d i h h' w w
 |[],l,e,f,d,h,h',g,hv,c=>by
  cases l<;>(simp only[Rz]at c;cases c;exact⟨rfl,d,hv,g,Ext.refl _ _ _⟩)
 |k::ks,[],e,f,d,h,h',g,hv,c=>by
  simp only[Rz]at c;cases c;exact⟨rfl,d,hv,g,Ext.refl _ _ _⟩
 |k::ks,a::l,e,f,d,h,h',g,hv,c=>by
  obtain⟨v,r,rfl,q,s⟩:=hv.cons_inv;simp only[Rz]at c;generalize j:QU E k a h=p1 at c;obtain⟨a1,t⟩:=p1;simp only at c;generalize m:Rz E ks l t=p2 at c;obtain⟨F,G⟩:=p2;simp only at c;cases c;obtain⟨u,i,x,y,n⟩:=Rr hE g q j;obtain⟨z,A,B,C,o⟩:=Qi hE y (s.mono n.le) m;refine⟨by omega,A,VL.cons (x.mono o.le) B,C,n.trans o (fun b H D=>by omega)⟩
theorem Bl{U:Unk}{E:Env}(hE:OK E){w:World}:∀(l:List (Option An)) (i:Nat) (b:T Nat) (h:Aa) (a:Ren),HR a h.blk.get w→(DF E l i b h).nx=h.nx∧∃g:Ren,HR g (DF E l i b h).blk.get w∧Ext a g h (DF E l i b h) w w
 |[],_,_,h,a,f=>⟨rfl,a,f,Ext.refl _ _ _⟩
 |some (.arr e x)::r,i,b,h,a,f=>by
  have next:=Bl hE r (i+1) b h a f;simp only[DF];split
  ·rename_i c ks q y;split
   ·split
    ·obtain⟨s,g,j,k⟩:=O9 (e:=e) (b:=c) hE f;obtain⟨t,m,o,p⟩:=Bl hE r (i+1) b (Ic E e c h) g j;exact⟨by omega,m,o,k.trans p (fun d u v=>by omega)⟩
    ·obtain⟨s,g,j,k⟩:=XJ (b:=c) hE f;obtain⟨t,m,o,p⟩:=Bl hE r (i+1) b (Kt E c h) g j;exact⟨by omega,m,o,k.trans p (fun d u v=>by omega)⟩
    ·exact next
   ·exact next
  ·exact next
 |none::r,i,b,h,a,f=>Bl hE r (i+1) b h a f
 |some (.cells n z)::r,i,b,h,a,f=>by
  have next:=Bl hE r (i+1) b h a f;simp only[DF];split
  ·rename_i c l q A;split
   ·obtain⟨s,g,j,k⟩:=K9 (ks:=OC l) (b:=c) hE f;obtain⟨t,m,o,p⟩:=Bl hE r (i+1) b (En E (OC l) c h) g j;exact⟨by omega,m,o,k.trans p (fun d u v=>by omega)⟩
   ·exact next
  ·exact next
 |some (.map _ _)::r,i,b,h,a,f=>Bl hE r (i+1) b h a f
 |some (.hole _ _ _ _ _)::r,i,b,h,a,f=>Bl hE r (i+1) b h a f
 |some (.dmap _ _ _)::r,i,b,h,a,f=>Bl hE r (i+1) b h a f
 |some (.dmapS _ _ _ _ _)::r,i,b,h,a,f=>Bl hE r (i+1) b h a f
 |some (.loop _ _ _ _ _ _ _ _ _)::r,i,b,h,a,f=>Bl hE r (i+1) b h a f
 |some (.deferred _)::r,i,b,h,a,f=>Bl hE r (i+1) b h a f
 |some (.mapIter _ _ _ _)::r,i,b,h,a,f=>Bl hE r (i+1) b h a f
 |some (.strIter _ _ _)::r,i,b,h,a,f=>Bl hE r (i+1) b h a f
theorem aU{U:Unk}{E:Env}(hE:OK E){w:World}{s:Sm}{l c:List AV}{f:List Value}{d:Ren}{h h':Aa}(j:HR d h.blk.get w)(hv:VL d l f)(e:Rn E s l h=(c,h')) :
  h'.nx=h.nx∧∃a:Ren,VL a c f∧HR a h'.blk.get w∧Ext d a h h' w w:=by
 unfold Rn at e;split at e;rename_i args g k;cases e;obtain⟨t,a,m,n,o⟩:=Qi hE j hv k;obtain⟨u,p,q,i⟩:=Bl hE s.pre 0 (HF E s.pre g (EE s.args c ⟨.nil,.nil⟩)).b g a n;exact⟨by omega,p,m.mono i.le,q,o.trans i (fun b v r=>by omega)⟩
theorem L9{U:Unk}{a:AV}{v:Value}{c d:Ren}(h:Tq a=true)(hv:VR c a v):VR d a v:=by
 cases hv with
 |bool b=>exact .bool b
 |int k n=>exact .int k n
 |str s=>exact .str s
 |sb p e=>exact .sb p e
 |si k e=>exact .si k e
 |ss x=>exact .ss x
 |_=>cases h
theorem L4{U:Unk}{a:AV}{v:Value}{c d:Ren}(h:Pf a=true)(hv:VR c a v):VR d a v:=by
 unfold Pf at h;split at h
 ·rename_i l;cases hv with
  |agg _ e f g=>exact .agg l e f fun i a v b hv=>L9 (List.all_eq_true.mp h a (tl b)) (g i a v b hv)
 ·exact L9 h hv
theorem U0{U:Unk}{a:AV}{v:Value}{c d:Ren}(h:P5 a=true)(hv:VR c a v):VR d a v:=by
 unfold P5 at h;split at h
 ·rename_i l;cases hv with
  |tuple _ e f g=>exact .tuple l e f fun i a v b hv=>L4 (List.all_eq_true.mp h a (tl b)) (g i a v b hv)
 ·exact L4 h hv
theorem HR.still{U:Unk}{ρ:Ren}{g:Nat→Option An}{w t:World}(l:HR ρ g w)(J:w.heap.size≤t.heap.size)(I:∀k,k<w.heap.size→t.heap[k]?=w.heap[k]?):HR ρ g t:=by
 refine⟨fun b base r=>Nat.lt_of_lt_of_le (l.lt b base r) J,fun b base x r hx=>?_,l.apart,fun k arr hi=>?_,l.off,l.glob⟩
 ·rw[I _ (l.lt b base r)];exact l.blk b base x r hx
 ·rw[I _ (l.immLt hi)];exact l.imm k arr hi
theorem bP{U:Unk}{E:Env}(hE:OK E){F:Nat→D→D}(H:U.V.fn=F){s:Sm}(I:s.Valid E.P F){l:List SE}{z:List Nat}{args:List AV}{a:List Value}{h m h':Aa}{v:AV}{p c:Ren}{w:World}
 (d:TA E s l z args h=some (v,h'))(p1:s.pre=[])(p2:s.post=[])(p3:P5 v=true)(q:z=[])(J:VL p args a)(K:HR p h.blk.get w)(r:HR c m.blk.get w)(c0:Frame)(base:List Frame) :
  ∃n o j,BI E.P (lone (Frame.enter E.P s.f a.toArray .normal) (c0::base) w) c0 base s.ok o j∧VR n v o∧HR n m.blk.get j∧Ext c n m m w j:=by
 subst q
 have i:∃g,TA E s l [] args {h with blk:=.nil}=some (v,g)∧g.nx=h.nx:=by
  unfold TA at d ⊢;rw[p1,p2]at d ⊢;split at d
  ·rename_i L;have t:(J9 (Gp l [] s.args args)&&J9 (EB E l [] {h with blk:=.nil} [] [])&&Fg []&&N5 h.nx []&&Ja l s.facts&&Nat.ble ([]:List (Option An)).length ([]:List (Option An)).length)=true:=L
   rw[t];split at d
   ·simp only[C2,k0]at d;obtain⟨rfl,rfl⟩:=d;exact⟨_,rfl,rfl⟩
   ·cases d
  ·cases d
 obtain⟨g,i,M⟩:=i;have u:∀b,({h with blk:=T.nil}:Aa).blk.get b=none:=fun b=>by exact T.get_nil b
 have x:HR p ({h with blk:=T.nil}:Aa).blk.get w:=K.restrict fun b=>.inl (u b)
 obtain⟨n,o,j,N,O,_,A⟩:=WN hE H I i J x (fun b _=>u b) (fun b Q B=>by rw[M]at B;exact absurd B (Nat.not_lt.2 Q)) c0 base
 have C:∀k,k<w.heap.size→j.heap[k]?=w.heap[k]?:=fun k y=>A.kept k y fun b base _ R=>absurd (u b) R
 have G:=A.calm;exact⟨c,o,j,N,U0 p3 O,r.still G.size C,⟨Ren.le_refl c,R2 _,fun _ _ e=>.inl e,G,fun k y _=>C k y,⟨[],rfl,fun _ _ _=>rfl⟩,fun _ e=>.inl e,fun _ _ e=>.inl e⟩⟩
theorem Jn{U:Unk}{E:Env}(hE:OK E){F:Nat→D→D}(y:U.V.fn=F){f:FuncId}{args:List AV}{j:List Value}{h g:Aa}{ok:Bool}{v:AV}{z:Ren}{w:World}:∀{l:List Sm},(∀s∈l,s.Valid E.P F)→MG E l f args h=some (ok,v,g)→VL z args j→HR z h.blk.get w→WF h→AW z h.nx g.nx→
  ∀(c0:Frame)(base:List Frame),∃C A u,BI E.P (lone (Frame.enter E.P f j.toArray .normal) (c0::base) w) c0 base ok A u∧VR C v A∧HR C g.blk.get u∧Ext z C h g w u
 |[],_,k,_,_,_,_=>by simp[MG]at k
 |s::r,hO,k,G,B,p,c=>by
  simp only[MG]at k;split at k
  ·rename_i R;have S:=Ay R;subst S;split at k
   ·rename_i xv xg a;simp only[C2,k0]at k;obtain⟨rfl,rfl,rfl⟩:=k;unfold Yo at a;split at a;rename_i d n q;split at a;rename_i m t H;have q:Rn E s args h=(d,n):=q;obtain⟨T,I,z1,z2,z3⟩:=aU hE B G q;have x:WF n:=z3.wf p;have J:(AL E s.pre 0 (HF E s.pre n (EE s.args d ⟨.nil,.nil⟩)) n).2=t:=by rw[H]
    split at a;rotate_left
    ·cases a
    rename_i W o;obtain⟨v0,N⟩:=W;have a:=Option.some.inj a;unfold gd at a;split at a
    ·rename_i p1 p2 p3;simp only[k0]at a;obtain⟨rfl,rfl⟩:=a;intro c0 base;have K:t=n:=by rw[←J,p1];rfl
     subst K;exact bP hE y (hO s (by simp)) (args:=d) (h:=t) o p1 p2 p3 (by rw[p1];rfl) z1 z2 B c0 base
    simp only[k0]at a;obtain⟨rfl,rfl⟩:=a;have a:=o
    have X:t.nx≤N.nx:=by
     unfold TA at a;split at a
     ·split at a
      ·simp only[C2,k0]at a;obtain⟨_,rfl⟩:=a;show t.nx≤t.nx+_;omega
      ·cases a
     ·cases a
    have i:AW I n.nx N.nx:=z3.free c;obtain⟨O,L,Q⟩:=Br (E:=E) s.pre 0 (HF E s.pre n (EE s.args d ⟨.nil,.nil⟩)) n z2 x (fun b Y Z=>i b Y (by rw[J]at Z;omega))
    rw[J]at O L Q;intro c0 base;obtain⟨τ,A,u,r1,r2,r3,r4⟩:=WN hE y (hO s (by simp)) a z1 O Q (L.free i) c0 base
    exact⟨τ,A,u,r1,r2,r3,z3.trans (L.trans r4 i) c⟩
   ·exact Jn hE y (fun e M=>hO e (by simp[M])) k G B p c
  ·exact Jn hE y (fun e M=>hO e (by simp[M])) k G B p c
end Go.AE
namespace Go.AE
variable [Gl:AG]
def Ed[Facts](E:Env)(s:AS)(f:Operand)(params:List Tmp)(assign body:Code)(k:List AI):Option (FuncId×List AV×Aa×AF):=
 match Vd s.fr s.h with
 |some (d,a,mark)=>match Aj s.fr.tmps f with
  |.func fn first captured=>match Ce E fn captured (first++[.func (.yield a.nx) [] []]) (a.new (.loop .ready none s.fr.fn s.fr.nt s.fr.tmps params assign body d))with
   |.enter g args _=>some (g,args,a.new (.loop .ready none s.fr.fn s.fr.nt s.fr.tmps params assign body d),{s.fr with todo:=.inRange a.nx::k,defers:=mark++s.fr.defers})
   |_=>none
  |_=>none
 |none=>none
variable [U:Unk]
section
variable {E:Env}(hE:OK E){ρ:Ren}{w:World}{c:Frame}{ccs:List Frame}{s:AS}
include hE
theorem UN{base:List Frame}{d:Frame}{w0:World}{h h':Aa}{sm:Sem Next}{g:FuncId}{args:List AV}{f:AF}
 (i:(stepG E.P true {frame:=d,callers:=ccs++base,status:=.running,dying:=none} w0).bare=(stepG.apply E.P true c (ccs++base) none sm w).bare)
 (l:FI E ρ h w sm (.enter g args h'))(m:FrR ρ f c):∃b:List Value,VL ρ args b∧step E.P (lone d (ccs++base) w0)=.next (lone (Frame.enter E.P g b.toArray .normal) (c::(ccs++base)) w):=by
 obtain⟨rfl,b,n,e⟩:=l;refine⟨b,n,step_lone_go ?_⟩;rw[i];have j:=m.todo;simp only[stepG.apply,Sem.runT_eq,e,if_true,GStep.bare_after,GStep.bare_go];generalize c.todo=td at j;generalize f.todo=p at j;cases j with
 |nil=>rfl
 |cons a _=>cases a<;>rfl
 |rest=>
  generalize o:U.R=r;cases r with
  |nil=>rfl
  |cons x k=>cases x<;>first|rfl|exact absurd o (U.hR _ _ _ _ _)
theorem II(z:SR ρ s c ccs w)(Y:c.mode=.run){fo:Operand}{params:Array Tmp}{assign body:Code}{k:List AI}{K:List Item}(Z:IL ρ k K)(ht:c.todo=.code (.rangeFunc fo params assign body)::K)
 {g:FuncId}{args:List AV}{L:Aa}{C:AF}(v:Ed E s fo params.toList assign body k=some (g,args,L,C))(i:AW ρ s.h.nx L.nx)(base:List Frame) :
  ∃u O e w1,step E.P (lone c (ccs++base) w)=.next (lone (Frame.enter E.P g e.toArray .normal) (O::(ccs++base)) w1)∧VL u args e∧FrR u C O∧HR u L.blk.get w1∧Ext ρ u s.h L w w1:=by
 unfold Ed at v;split at v
 ·rename_i d p mark A;split at v
  ·rename_i fn first captured Q;split at v
   ·rename_i g2 R aa S;cases v;have D:(p.new (.loop .ready none s.fr.fn s.fr.nt s.fr.tmps params.toList assign body d)).nx=p.nx+1:=rfl;obtain⟨u,w1,M,j,t,q2,q3,q4,N⟩:=S1 (E:=E) z.h z.fr A (fun b p h2=>i b p (by simp only[D];omega))
    have B:=z.fr.mono N.le;have o:u p.nx=none:=(N.free i) p.nx (R2 _) (by simp only[D];omega)
    have q:=Ren.le_upd o ⟨w1.heap.size,0,0⟩;obtain⟨p1,p2⟩:=q4.new o (.loop .ready none s.fr.fn s.fr.nt s.fr.tmps params.toList assign body d)
     (.loop {state:=.ready,pending:=none,fn:=c.fn,tmps:=c.tmps,params:=params,assign:=assign,body:=body,defers:=M.cb}) 0
     ⟨c.tmps,M,q.m _ _ q2,B.tm.mono q,by rw[B.fn]⟩
     {w1 with heap:=w1.heap.push (.loop {state:=.ready,pending:=none,fn:=c.fn,tmps:=c.tmps,params:=params,assign:=assign,body:=body,defers:=M.cb})} rfl rfl rfl rfl
    have W:(u.upd p.nx ⟨w1.heap.size,0,0⟩) p.nx=some ⟨w1.heap.size,0,0⟩:=by simp[Ren.upd]
    have F:(Instr.enterLoop c.fn c.tmps params assign body c.roundOf).run E.P w=.ok (w1.heap.size,j) {w1 with heap:=w1.heap.push (.loop {state:=.ready,pending:=none,fn:=c.fn,tmps:=c.tmps,params:=params,assign:=assign,body:=body,defers:=M.cb})}:=by
     cases G:c.roundOf with
     |some l=>
      rw[G]at t;simp only[Mm,L1,Ts]at t;simp only[Instr.enterLoop,L1,Ts,Aez,F0];cases X:(Instr.getLoop l).run E.P w with
      |ok a w2=>
       rw[X]at t;simp only[F0,Result.ok.injEq,k0]at t ⊢;obtain⟨⟨H,I⟩,T⟩:=t;rw[H,I,T];exact⟨⟨rfl,rfl⟩,rfl⟩
      |halt x w2=>rw[X]at t;cases t
     |none=>
      rw[G]at t;simp only[Mm,L1,Ts,Aez,F0,Result.ok.injEq,k0]at t;obtain⟨⟨H,I⟩,T⟩:=t;simp only[Instr.enterLoop,L1,Ts,Aez,F0];rw[←H,←I,←T]
    have n:=B.mono q;have hv:=n.evR fo;rw[Q]at hv;generalize V:c.eval fo=cv at hv;cases hv with
    |func _ ab _ _ f' O r1 r2 r3 r4 r5=>
     have ha:VL (u.upd p.nx ⟨w1.heap.size,0,0⟩) (first++[.func (.yield p.nx) [] []]) (f'++[.func (.yield w1.heap.size) #[] #[]]):=
      VL.append ⟨r2,r3⟩ (VL.cons (.func _ _ [] [] [] [] ⟨_,W,rfl⟩ rfl (by simp) rfl (by simp)) (VL.nil _))
     have r:=Ej hE p1 r1 ⟨r4,r5⟩ ha;rw[S]at r
     have y:FrR (u.upd p.nx ⟨w1.heap.size,0,0⟩) {s.fr with todo:=.inRange p.nx::k,defers:=mark++s.fr.defers} {c with todo:=.inRangeFunc w1.heap.size::K,defers:=j++c.defers}:=
      ⟨n.fn,n.tm,.cons (.inRange _ _ W) ((Z.mono N.le).mono q),(q3.mono q).append n.defers,n.mode,n.kind,n.round⟩
     obtain⟨e,H,I⟩:=UN hE (base:=base) (c:={c with todo:=.inRangeFunc w1.heap.size::K,defers:=j++c.defers})
      (f:={s.fr with todo:=.inRange p.nx::k,defers:=mark++s.fr.defers}) (Ld Y ht F) (r.congr (by
       have J:c.eval (.const (.func (.yield w1.heap.size) #[] #[]))=.func (.yield w1.heap.size) #[] #[]:=rfl;simp[resolve,V,J,Deferred.ofValue])) y
     exact⟨_,_,e,_,I,H,y,p1,N.trans p2 i⟩
   ·cases v
  ·cases v
 ·cases v
end
end Go.AE
namespace Go.AE
variable [Gl:AG]
def N6:List Orc→FuncId→List AV→Aa→Option (Bool×AV×Aa)
 |[],_,_,_=>none
 |e::r,f,args,h=>match Nat.beq e.f f&&(Nat.beq e.nx h.nx||(Nat.beq (e.nx%4096) 0&&Nat.ble h.nx e.nx))&&HN e.args args&&NE e.part h.blk with
  |true=>some (e.ok,e.v,AX {h with nx:=e.nx} {blk:=e.out,nx:=e.nx',log:=e.wr})
  |false=>N6 r f args h
def bG[U:Facts]:AV→AV
 |.ss x=>match Sb x U.facts with
  |some (l,b)=>.str l b
  |none=>.ss x
 |a=>a
def ssA:AV→Bool
 |.ss _=>true
 |_=>false
def KP[Facts](E:Env)(f:FuncId)(args:List AV)(h:Aa):Option (Bool×AV×Aa):=
 match E.ox.get f with
 |some l=>(match N6 l f args h with
  |some r=>some r
  |none=>match (match args.any ssA with
   |true=>N6 l f (args.map bG) h
   |false=>none)with
   |some r=>some r
   |none=>match MG E E.sms f args h with
    |some r=>some r
    |none=>none)
 |none=>match MG E E.sms f args h with
  |some r=>some r
  |none=>none
def U9(h:Aa):AV→AV
 |.slice b 0 n a=>match h.blk.get b with
  |some (.arr _ _)=>.asl b a (.c n) (.bc false)
  |_=>.slice b 0 n a
 |x=>x
def vj(h:Aa):AV→Bool
 |.slice b 0 _ _=>match h.blk.get b with
  |some (.arr _ _)=>true
  |_=>false
 |_=>false
def T.anyA{t:Type}(f:t→Bool):T t→Bool
 |.nil=>false
 |.node v l r=>(match v with|some x=>f x|none=>false)||l.anyA f||r.anyA f
def W1(h:Aa)(fr:AF):AF:=match fr.tmps.anyA (vj h)with
 |true=>{fr with tmps:=fr.tmps.mapA (U9 h)}
 |false=>fr
def ak[Facts](E:Env)(s:AS)(all:Array Oper)(o:Oper)(r:List Oper):Option AS:=
 match o.op,r,o.dst with
 |.slice t x (some lo) none none,o2::_,some d=>match o2.op with
  |.call c=>match c.callee,c.argTypes.toList,c.args.toList with
   |.builtin .clear,[t1],[.tmp i]=>match Aj s.fr.tmps x,toI (Aj s.fr.tmps lo)with
    |.asl b f n nl,some (_,l)=>match E.desc t,E.desc t1,s.h.blk.get b with
     |some (.slice e),some (.slice j),some (.arr k y)=>match E.zero e,E.kinds e with
      |some z,some ks=>match Nat.beq d i&&(Nat.beq e j&&(Nat.beq e k&&(Nat.beq z.cells.length f&&(Nat.beq f ks.length&&(EA z.cells&&(E.szIs e f&&(Ff n y&&inB l n n)))))))with
       |true=>match BK all o s.fr.tmps,B3 s.fr .top with
        |some true,some a=>match BK all o2 a.tmps,B3 a .top with
         |some true,some g=>some {s with fr:=g,h:=s.h.put b (.arr e (.sub y (.c 0) l))}
         |_,_=>none
        |_,_=>none
       |false=>none
      |_,_=>none
     |_,_,_=>none
    |_,_=>none
   |_,_,_=>none
  |_=>none
 |_,_,_=>none
def aq[Facts](t:T AV):List Tmp→Option (Tmp×AV)
 |[]=>none
 |i::r=>match t.get i with
  |some (.nmap b nl)=>match ai (.nmap b nl)with
   |.nmap _ _=>aq t r
   |v=>some (i,v)
  |_=>aq t r
def Abf[Facts](s:AS):Option AS:=match s.fr.todo with
 |.ops all (o::_)::_=>match aq s.fr.tmps (Bj all o)with
  |some (i,v)=>some {s with fr:={s.fr with tmps:=s.fr.tmps.set i v}}
  |none=>none
 |_=>none
def ZU[Facts](E:Env)(s:AS):Option AS:=
  match E.orc.isEmpty&&E.sms.isEmpty with
  |true=>none
  |false=>match s.fr.mode with
    |.run=>match s.fr.todo with
      |.ops all (o::r)::_=>match ak E s all o r with
       |some c=>some c
       |none=>match Nh o.op with
        |false=>match BK all o s.fr.tmps with
          |some true=>match aop E s.fr.tmps s.h o.op with
            |.enter g args _=>match KP E g args s.h with
              |some (true,v,h)=>match B3 s.fr v with
                |some fr=>some {s with fr:=W1 h fr,h}
                |none=>none
              |some (false,v,h)=>some {s with fr:=W1 h {s.fr with mode:=.panic [(v,false)]},h}
              |none=>none
            |_=>none
          |_=>none
        |true=>none
      |.code (.rangeFunc f params assign body)::k=>match Ed E s f params.toList assign body k with
        |some (g,args,b,a)=>match KP E g args b with
          |some (true,v,h)=>match Nat.ble b.nx h.nx,B3 a v with
            |true,some fr=>some {s with fr:=W1 h fr,h}
            |_,_=>none
          |some (false,v,h)=>match Nat.ble b.nx h.nx with
            |true=>some {s with fr:=W1 h {a with mode:=.panic [(v,false)]},h}
            |false=>none
          |none=>none
        |none=>none
      |_=>none
    |_=>none
def WZ[Facts](E:Env)(s:AS):Option AS:=match Abf s with
 |some a=>some a
 |none=>ZU E s
def ff[U:Facts](E:Env)(s:AS):Option (List AS):=none
def fH(s:AS)(l:List (Option (Bool×AV×Aa))):Option (Bool×AV×Aa):=none
def KI:T AV→T AV→Bool
 |.nil,_=>true
 |.node v l r,.node a b c=>(match v with
   |none=>true
   |some x=>(match a with
    |some y=>Bx x y
    |none=>false))&&(KI l b&&KI r c)
 |.node v l r,.nil=>v.isNone&&(KI l .nil&&KI r .nil)
def iq:AI→AI→Bool
 |.code c,.code b=>Cq c b
 |.inBlock i,.inBlock d=>Nat.beq i d
 |.inLoop c,.inLoop b=>Cq c b
 |.inScope c,.inScope b=>Cq c b
 |.ops a l,.ops e f=>Lb MQ a e&&KA MQ l f
 |_,_=>false
def aK[Facts](E:Env)(a:Ask→Aa→Option (Bool×AV×Aa))(F:Nat)(s:AS):Option AS:=none
def M5[Facts](E:Env)(run:FuncId→Bool→AS→Option (Bool×AV×Aa))(a:Ask)(h:Aa):Option (Bool×AV×Aa):=match a with
 |.enter g args=>match KP E g args h with
  |some r=>some r
  |none=>match Bc E g args .normal with
   |some fr=>run fr.fn true {fr,cs:=[],h}
   |none=>none
 |.round l args=>match G0 l args h with
  |some fr=>run fr.fn true {fr,cs:=[],h}
  |none=>none
def Gg[Facts](E:Env):Nat→FuncId→Bool→AS→Option (Bool×AV×Aa)
  |0,_,_,_=>none
  |f+1,b,c,s=>match WZ E s with
   |some a=>(match Nat.ble s.h.nx a.h.nx with
     |true=>Gg E f b c a
     |false=>none)
   |none=>match A6 E s with
    |.next a=>match Nat.ble s.h.nx a.h.nx with
      |true=>Gg E f b c a
      |false=>none
    |.done ok v h=>match Nat.ble s.h.nx h.nx&&Nat.beq s.fr.fn b&&(c||s.fr.round.isNone)with
      |true=>some (ok,v,h)
      |false=>none
    |.draw s ops k=>
      match B1 E (M5 E (Gg E f)) ops s.fr.nt ops.toList [] s.fr.tmps s.h with
      |some (none,tmps,h)=>Gg E f b c {s with fr:={s.fr with tmps,todo:=k},h}
      |some (some v,tmps,h)=>Gg E f b c {s with fr:={s.fr with tmps,todo:=.dead::k,mode:=.panic [(v,false)]},h}
      |none=>none
    |.bad _=>match aK E (M5 E (Gg E f)) f s with
      |some a=>(match Nat.ble s.h.nx a.h.nx with
        |true=>Gg E f b c a
        |false=>none)
      |none=>match ff E s with
        |some l=>fH s (l.map fun a=>Gg E f b c a)
        |none=>none
def fD[Facts](E:Env)(n:Nat)(f:FuncId)(args:List AV)(h:Aa):Option (Bool×AV×Aa):=
 match Bc E f args .normal with
 |some fr=>Gg E n f false {fr,cs:=[],h}
 |none=>none
def Un[Facts](E:Env)(N:Nat)(e:Orc):Bool:=
 match fD E N e.f e.args {blk:=e.part,nx:=e.nx,log:=[]}with
 |some (ok,v,g)=>(ok==e.ok)&&Bx v e.v&&NE e.out g.blk&&Nat.beq g.nx e.nx'&&XB e.nx e.wr g.log
 |none=>false
end Go.AE
namespace Go.AE
variable [Gl:AG]
section
variable [U:Unk]{E:Env}(hE:OK E){ρ:Ren}{h:Aa}{w:World}
include hE
theorem ep(J:HR ρ h.blk.get w){t t1 ty e:TypeId}{ks:List Kd}{z:AV}{b g:Nat}{n nl y l:SE}{xv r:Value}{kd:IntKind}(hd:E.desc t=some (.slice e))(Z:E.desc t1=some (.slice e))(hz:E.zero e=some z)(hk:E.kinds e=some ks)
 (al:z.cells.length=g)(aa:g=ks.length)(ab:EA z.cells=true)(hx:VR ρ (.asl b g n nl) xv)(M:h.blk.get b=some (.arr e y))(hs:E.szIs e g=true)(hn:Ff n y=true)(ac:r=.int kd (Ad U.V l))(ae:inB l n n=true) :
  ∃v B,(Instr.sliceAt t xv (some r) none none).run E.P w=.ok v w∧(Builtin.clear_ #[t1] ty #[v]).run E.P w=.ok (.tuple #[]) B∧HR ρ (h.put b (.arr e (.sub y (.c 0) l))).blk.get B∧Ext ρ ρ h (h.put b (.arr e (.sub y (.c 0) l))) w B:=by
 obtain⟨b0,b1,b2⟩:=Km ae;have C:=KG hn;have hu:=hE.run_und hd (w:=w);have x:=hE.run_und Z (w:=w);have e0:Ad U.V (.c 0)=0:=rfl
 have A:(Ab U.V (.sub y (.c 0) l)).rows.length=(Ad U.V l).toNat:=by
  rw[Ep,e0];rw[Ar]at C;simp;omega
 have key:∀i,i<(Ad U.V l).toNat→(Ab U.V (.sub y (.c 0) l)).rows.getD i default=(Ab U.V y).rows.getD i default:=by
  intro i hi;rw[Ep,e0,Me (by simpa using hi)]
  congr 1
  simp
 have rows:∀{a:List Kd}{co:Nat}{f d:Array Value},Bp U.K ρ.imm a f co (Ab U.V y).rows→d.size=f.size→(∀j,j<co+(Ad U.V l).toNat*a.length→d.getD j Go.undef=f.getD j Go.undef)→Bp U.K ρ.imm a d co (Ab U.V (.sub y (.c 0) l)).rows:=by
  intro a co f d hR af O;rw[Ar]at C;have ag:(Ad U.V l).toNat≤(Ab U.V y).rows.length:=by omega
  refine⟨?_,fun i hi=>?_,fun i j kd hi Q=>?_⟩
  ·rw[A,af];have:=hR.1;have:=ll a.length ag;omega
  ·rw[A]at hi;rw[key i hi];exact hR.2.1 i (by omega)
  ·rw[A]at hi;rw[key i hi,O]
   ·exact hR.2.2 i j kd (by omega) Q
   ·have am:j<a.length:=(L2.1 Q).1;have:(i+1)*a.length≤(Ad U.V l).toNat*a.length:=ll _ (by omega)
    rw[Aen,Nat.one_mul]at this;omega
 have still:HR ρ (h.put b (.arr e (.sub y (.c 0) l))).blk.get w∧Ext ρ ρ h (h.put b (.arr e (.sub y (.c 0) l))) w w:=by
  refine J.swap (by rw[M];exact F2 _) _ fun base s=>?_
  obtain⟨a,f,R,S,T,q2,W,X,q5⟩:=J.blk b base _ s M;exact⟨a,f,R,S,T,q2,W,X,rows q5 rfl fun _ _=>rfl⟩
 have p1:(some r=none∧l=.c 0)∨∃k,some r=some (.int k (Ad U.V l)):=.inr ⟨kd,by rw[ac]⟩
 cases hx with
 |aslEnd _ _ _ _ ad Y qn=>
  have ah:Ad U.V l=0:=by omega
  have q:=Hy (P:=E.P) (w:=w) (b:=true) (len:=0) (cap:=0) (u:=n) (du:=n) (hi':=none) (dl:=.c 0) p1 (.inl ⟨rfl,rfl⟩) rfl (by rw[Y];rfl) b0 b1 (by rw[Y];exact Ae8 _) (R2 _)
  rw[ah,Y]at q;refine⟨.slice ad 0 0,w,?_,?_,still.1,still.2⟩
  ·simp[Instr.sliceAt,Instr.slice,hu,q,hE.run_szIs hs]
  ·cases ad<;>simp[Builtin.clear_,x]
 |asl _ _ _ _ cap base s Y qc qz qn=>
  have q:=Hy (P:=E.P) (w:=w) (b:=true) (len:=(Ad U.V n).toNat) (cap:=cap) (u:=n) (du:=n) (hi':=none) (dl:=.c 0) p1 (.inl ⟨rfl,rfl⟩) rfl (by omega) b0 b1 (by omega) qc
  generalize hL:(Ad U.V l).toNat=L at *;generalize hN:(Ad U.V n).toNat=N at *;have an:L≤N:=by omega
  have o:(Instr.sliceAt t (.slice (some ⟨base.cb,base.co,none⟩) N cap) (some r) none none).run E.P w=.ok (.slice (if cap=L then some ⟨base.cb,base.co,none⟩else some ⟨base.cb,base.co+L*g,none⟩) (N-L) (cap-L)) w:=by
   simp[Instr.sliceAt,Instr.slice,hu,q,hE.run_szIs hs,B2]
  by_cases O:N-L=0
  ·rw[O]at o;refine⟨_,w,o,?_,still.1,still.2⟩;split<;>simp[Builtin.clear_,x]
  ·have D:cap≠L:=by omega
   rw[if_neg D]at o;obtain⟨a,f,R,S,T,q2,W,X,q5⟩:=J.blk b base _ s M;have F:U.K e=some ks:=by rw[hE.kd,←hE.ke];exact hk
   rw[F]at T;cases T;obtain⟨p,z1,z2⟩:=hE.run_zero ρ hz w;have zc:=(AO ρ z2).cells (BW z2);have ai:p.cells.size=g:=by have:=zc.1;simp at this;omega
   have G:∀v∈(Builtin.zeroCells p.cells (N-L)).toList,v.oneCell'=true:=by
    intro v hv;have hm:=Ia ab zc;rw[Builtin.zeroCells]at hv;simp only[Array.toList_map,Array.toList_range,List.mem_map,List.mem_range]at hv;obtain⟨i,hi,rfl⟩:=hv
    have H:0<p.cells.size:=by
     rcases Nat.eq_zero_or_pos p.cells.size with c|c
     ·rw[c]at hi;simp at hi
     ·exact c
    have aj:i%p.cells.size<p.cells.size:=Nat.mod_lt _ H;have:p.cells[i%p.cells.size]! = p.cells[i%p.cells.size]:=by simp[aj]
    rw[this];exact hm _ (by simp)
   have I:(Builtin.zeroCells p.cells (N-L)).toList.length=(N-L)*g:=by
    rw[Builtin.zeroCells,ai];simp
   have ak:base.co+L*g+(N-L)*g≤f.size:=by
    have e1:L*g+(N-L)*g=N*g:=by rw[←Aen];congr 1;omega
    have e2:N*g≤cap*g:=ll _ (by omega)
    omega
   obtain⟨B,d,r1,r2,r3,r4,r5,r6,r7,r8,r9⟩:=BM E.P base.cb (base.co+L*g) R S (Builtin.zeroCells p.cells (N-L)).toList 0 w f q2 (by rw[I];omega) (by rw[W];exact X) G
   refine⟨_,B,o,?_,?_⟩
   ·obtain⟨m,hm⟩:=Nat.exists_eq_succ_of_ne_zero O;rw[hm]at r1 ⊢;simp[Builtin.clear_,x,z1,r1]
   ·refine J.put s (by rw[M];simp) _ B ?_ r5 r6 r7 r8 r9
    refine⟨ks,d,R,S,F,r2,by rw[r3,W],X,rows q5 r3 fun j Q=>?_⟩
    rw[gg,gg,r4 j,if_neg (by rw[←aa]at Q;omega)]
end
end Go.AE
namespace Go.AE
variable [Gl:AG]
variable [U:Unk]
theorem Db{E:Env}{e:Ask→Aa→Option (Bool×AV×Aa)}{all:Array Oper}{nt:Nat}:∀(l:List Oper)(c:List Rc)(tmps:T AV)(h:Aa)(r:Option AV)(b:T AV)(h':Aa),
  B1 E e all nt l c tmps h=some (r,b,h')→h.nx≤h'.nx
 |[],c,tmps,h,r,b,h',a=>by
  simp only[B1,C2,k0]at a;obtain⟨_,_,rfl⟩:=a;exact R2 _
 |o::rest,c,tmps,h,r,b,h',a=>by
  simp only[B1]at a;split at a
  ·cases a
  ·split at a
   ·cases a
   ·rename_i d _;split at a
    ·cases a
    ·rename_i f j;have i:h.nx≤d.g.nx:=kp f;split at a
     ·cases a
     ·split at a
      ·cases a
      ·have:=Db rest _ _ _ _ _ _ a;exact sf i this
    ·rename_i f j;have i:h.nx≤d.g.nx:=kp f;split at a
     ·simp only[C2,k0]at a;obtain⟨_,_,rfl⟩:=a;exact i
     ·cases a
theorem B9{E:Env}:∀(f:Nat)(b:FuncId)(c:Bool)(s:AS)(ok:Bool)(v:AV)(h:Aa),Gg E f b c s=some (ok,v,h)→s.h.nx≤h.nx
 |0,b,c,s,ok,v,h,a=>by cases a
 |f+1,b,c,s,ok,v,h,a=>by
  simp only[Gg]at a;split at a
  ·split at a
   ·rename_i d;exact sf (kp d) (B9 f b c _ ok v h a)
   ·cases a
  split at a
  ·split at a
   ·rename_i d;exact sf (kp d) (B9 f b c _ ok v h a)
   ·cases a
  ·split at a
   ·rename_i d;simp only[C2,k0]at a;obtain⟨_,_,rfl⟩:=a;exact kp (Av (Av d).1).1
   ·cases a
  ·rename_i i ops k e;obtain⟨rfl,_,_⟩:=Es e;split at a
   ·rename_i g;exact sf (Db _ _ _ _ _ _ _ g) (B9 f b c _ ok v h a)
   ·rename_i g;exact sf (Db _ _ _ _ _ _ _ g) (B9 f b c _ ok v h a)
   ·cases a
  ·split at a
   ·split at a
    ·rename_i d;exact sf (kp d) (B9 f b c _ ok v h a)
    ·cases a
   ·split at a
    ·unfold fH at a;cases a
    ·cases a
section
variable {E:Env}(hE:OK E){callF:Ask→Aa→Option (Bool×AV×Aa)}{ρ:Ren}{h:Aa}{w:World}{c:Frame}{ccs base:List Frame}{s:AS}
def lu(s:AS)(r:Option AV)(tmps:T AV)(k:List AI)(h:Aa):AS:=
 match r with
 |none=>{s with fr:={s.fr with tmps,todo:=k},h}
 |some v=>{s with fr:={s.fr with tmps,todo:=.dead::k,mode:=.panic [(v,false)]},h}
theorem T6{m:Ren}{h g:Aa}{w n:World}(d:WF h)(f:h.nx≤g.nx)(u:HR m g.blk.get n)(i:Ext ρ m (part h none) g w n):HR m (AX h g).blk.get n∧Ext ρ m h (AX h g) w n:=by
 obtain⟨l,o,p⟩:=i.log;have j:g.log=l:=by rw[o];exact List.append_nil l
 refine⟨u.weaken fun b x _ a=>?_,⟨i.le,f,i.new,i.calm,i.kept,⟨BF h.nx g.log,rfl,fun b r v=>CR f r v⟩,fun b r=>G5 d f r,i.imm⟩⟩
 by_cases t:b<h.nx
 ·by_cases k:b∈BF h.nx g.log
  ·rcases Hl k with q|⟨_,q⟩
   ·rw[q]at a;cases a
   ·rw[←q];exact a
  ·rw[CR f k (.inl t)]at a;rw[p b (fun e=>k (Cy.2 ⟨by rw[j];exact e,t⟩)) (.inl t)]
   exact a
 ·by_cases k:b<g.nx
  ·rw[Ig d f (by omega) k]at a;exact a
  ·rw[Hs d f b (by show g.nx≤b;omega)]at a;cases a
include hE
theorem Ht(hF:FN E callF)(e:SR ρ s c ccs w)(ab:WF s.h)(hm:s.fr.mode=.run){id:Nat}{ops:Array Oper}{k:List AI}(ht:s.fr.todo=.code (.region id ops true)::k){r:Option AV}{tmps:T AV}
 (hd:B1 E callF ops s.fr.nt ops.toList [] s.fr.tmps s.h=some (r,tmps,h))(f:AW ρ s.h.nx h.nx)(base:List Frame) :
  ∃K c' w',Steps E.P (lone c (ccs++base) w) (lone c' (ccs++base) w')∧SR K (lu s r tmps k h) c' ccs w'∧
   Ext ρ K s.h h w w':=by
 have l:=e.fr.mode;rw[hm]at l
 have z:c.mode=.run:=by
  generalize c.mode=x at l;cases l;rfl
 have m:=e.fr.todo;rw[ht]at m;generalize ac:c.todo=td at m;cases m with|cons a hk=>
 rename_i M;cases a;obtain⟨H,O,R,Q,n,q1,S,q3,q4,V,W⟩:=Jc _ _ _ _ _ _ _ hd;simp only[Ae6,s0]at S q3 q4 V W;have X:Ch E callF ops s.fr.nt H O R Q n:=⟨fun j hj=>by obtain⟨o,D,h2⟩:=q4 j hj;exact⟨o,by simpa using D,h2⟩,by rw[S];exact ab⟩
 have p:AW ρ (H 0).nx h.nx:=by rw[S];exact f
 have ad:n≤ops.size:=by
  cases A:r with
  |none=>have:=(V A).1;simp at this;omega
  |some v=>
   obtain⟨o,D,_⟩:=W v A;have:=(L2.1 D).1;simp at this;omega
 have hM:(H n).nx≤h.nx:=by
  cases A:r with
  |none=>rw[(V A).2.2];exact R2 _
  |some v=>
   obtain⟨o,D,b,e1,e2,N⟩:=W v A;rw[N];exact b.tx.nx
 have Y:n<ops.size→∃o,ops[n]?=some o∧Bad E callF ops H O R Q n o (ops.toList.drop (n+1)):=by
  intro hn;cases A:r with
  |none=>have:=(V A).1;simp at this;omega
  |some v=>
   obtain⟨o,D,b,_⟩:=W v A;exact⟨o,by simpa using D,b⟩
 have B:=bS (P:=E.P) (cs:=ccs++base) (w:=w) z ac;rw[hE.mixed]at B;have F:∀t,Region.schedule true ops t=Region.linearise.go .any ops ops.size t (Array.replicate ops.size false) []:=fun t=>rfl
 rw[F]at B;generalize ae:w.tape w.drawn (.order c.fn id)=t at B
 have af:∀i,(Array.replicate ops.size false).getD i false=false:=by
  intro i;rw[gg,Array.getElem?_replicate];split<;>rfl
 have Z:TR ρ s.fr.nt (O 0) c.tmps:=by rw[q3];exact e.fr.tm
 have ag:HR ρ (H 0).blk.get {w with drawn:=w.drawn+1}:=by rw[S];exact e.h.same rfl
 have I0:Inv s.fr.nt H O R n h.nx ρ {w with drawn:=w.drawn+1} (fun i=>(Array.replicate ops.size false).getD i false) ρ c.tmps {w with drawn:=w.drawn+1}:=Acg Z ag p af
 obtain⟨rest,K,C,w1,D',r1,r2,r3,r4,r5⟩:=X.sched hE hF (cs:=ccs++base) (k:=M) hM p ad Y ops.size t (Array.replicate ops.size false) ρ {w with drawn:=w.drawn+1}
  {c with todo:=.inRegion ops (Region.linearise.go .any ops ops.size t (Array.replicate ops.size false) [])::M} z rfl (by simp) (by omega) I0
 obtain⟨f1,f2,f3⟩:=X.final r1 r2;rw[S]at f3;have d:Ext ρ K s.h (H n) w w1:=f3.drawn rfl rfl rfl rfl;have u:=e.fr.mono d.le;cases A:r with
 |none=>
  obtain⟨e1,e2,N⟩:=V A;have hn:n=ops.size:=by simpa using e1
  rw[r4 hn]at r3;subst e2;subst N;refine⟨K,{c with tmps:=C,todo:=M},w1,Steps.head B (Steps.trans r3 (Steps.one (JQ z rfl))),⟨⟨u.fn,f1,hk.mono d.le,u.defers,u.mode,u.kind,u.round⟩,e.cs.mono d.le,f2⟩,d⟩
 |some v=>
  obtain⟨o,D,b,e1,e2,N⟩:=W v A
  have hn:n<ops.size:=by
   have:=(L2.1 D).1;simpa using this
  obtain⟨rr,ah⟩:=r5 hn;rw[ah]at r3;have aa:=UB b.tx.did b.ok;have L:HR K (part (H n) (Q n).fp).blk.get w1:=by rw[aa];exact f2
  have G:TR K s.fr.nt (A0 (O n) (Bj ops o)) C:=⟨f1.size,fun t x hx=>by
   obtain⟨_,y,hy,rfl⟩:=Dz _ _ _ _ hx;exact Pk (f1.get t y hy)⟩
  have ai:h.nx=(Q n).g.nx:=by rw[N];rfl
  have I:AW K (H n).nx (Q n).g.nx:=by rw[←ai];exact d.free f
  obtain⟨τ,v',w2,p1,p2,p3,p4⟩:=O6 hE hF (cs:=ccs++base) (c:={c with tmps:=C,todo:=.inRegion ops (n::rr)::M}) b.tx.did (X.wfAt (R2 _)) z rfl (by simpa using D) G L I
  rw[b.ok]at p1;rw[aa]at p4;obtain⟨m1,m2⟩:=T6 (X.wfAt (R2 _)) b.tx.nx p3 p4;rw[←N]at m1 m2;have q:=u.mono m2.le;subst e1;subst e2
  have J:({c with tmps:=C,todo:=.inRegion ops (n::rr)::M}:Frame).raise [{v:=v',recovered:=false}]={c with tmps:=C,todo:=.inRegion ops (n::rr)::M,mode:=.panicking [{v:=v',recovered:=false}]}:=by
   simp[Frame.raise,z]
  simp only[BI]at p1;rw[J]at p1;exact⟨τ,_,w2,Steps.head B (Steps.trans r3 p1),⟨⟨q.fn,f1.mono m2.le,.cons (.dead _ _) ((hk.mono d.le).mono m2.le),q.defers,.panic _ _ ⟨p2,rfl,rfl,trivial⟩,q.kind,q.round⟩,(e.cs.mono d.le).mono m2.le,m1⟩,d.trans m2 f⟩
end
end Go.AE

