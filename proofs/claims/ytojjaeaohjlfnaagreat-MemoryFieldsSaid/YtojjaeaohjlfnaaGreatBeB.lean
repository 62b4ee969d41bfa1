/- What is proved here: an evaluator of the model's steps that the kernel can run, and that whatever it answers is what the model does (part 2 of 8: AeOps2, AeStr, AeOps3, AeOps4, AeOps5, AeOps6, AeOps7, AeOps8, AeOps9, AeOps10, AeOps11, AeSym, AeOps12, AeOps13, AeOps14). Conditions: those that each theorem states; they hold of no one program. -/
import Derived.Test.YtojjaeaohjlfnaaGreatBeA
import Derived.Laws.Strings
import Derived.IntWalk
import Derived.Laws.Append
import Derived.Laws.AppendOwn
import Derived.Laws.StructEq
import Derived.ChangeKeysEq
import Derived.Laws.Closers25b
import Derived.Laws.BytesString
set_option linter.unusedVariables false
set_option linter.unusedSectionVars false
set_option linter.unusedSimpArgs false
namespace Go.AE
variable [Gl:AH]
variable [U:Unk]
theorem Cu {i j:Nat} (h:Nat.ble i j=true):i≤j:=Nat.le_of_ble_eq_true h
theorem Ge {i j:Nat} (h:Nat.blt i j=true):i<j:=Nat.le_of_ble_eq_true h
theorem An {a b:Bool} (h:(a&&b)=true):a=true∧b=true:=by simpa using h
theorem orF {a b:Bool} (h:(a||b)=true):a=true∨b=true:=by simpa using h
theorem BT (b o n:Nat):(⟨b,o,none⟩:Addr).add n=⟨b,o+n,none⟩:=by
 unfold Addr.add;split
 ·next h=>subst h;rfl
 ·rfl
section
variable {ρ:Ren} {g:Nat→Option Ag} {w:World}
theorem HR.cell (hr:HR ρ g w) {b n i:Nat} {base:Br} {c:T AV} {a:AV} (r:ρ b=some base) (t:g b=some (.cells n c)) (hi:i<n) (I:c.get i=some a) :
  ∃v,w.cell? ⟨base.cb,base.co+i,none⟩=some v∧VR ρ a v:=by
 obtain ⟨J,e,fz,h1,h2,h3,h4,h5⟩:=hr.blk b base _ r t;obtain ⟨v,hv,l⟩:=h5 i a hi I;exact ⟨v,by simp [World.cell?,h1,hv],l⟩
theorem CZ (P:Program) (b o:Nat):∀(c:List Value) (i:Nat) (a:Array Value),(∀j v,c[j]?=some v→w.cell? ⟨b,o+(i+j),none⟩=some v)→
  (loadCellsFrom ⟨b,o,none⟩ i c.length a).run P w=.ok (a++c.toArray) w:=by
 intro c
 induction c with
 |nil=>intro i a _;simp [loadCellsFrom]
 |cons v r ih=>
  intro i a h;have h0:=h 0 v rfl;simp only [Nat.add_zero] at h0;simp only [List.length_cons,loadCellsFrom,Sem.run_bind,run_load,BT,h0,Result.andThen_ok];rw [ih (i+1) (a.push v) (fun j u d=>by have:=h (j+1) u (by simpa using d);rwa [show i+(j+1)=i+1+j from by omega] at this)]
  simp
theorem HR.loadCells (hr:HR ρ g w) (P:Program) {b n off k:Nat} {base:Br} {c:T AV} {l:List AV} (hb:ρ b=some base) (hg:g b=some (.cells n c)) (hk:off+k≤n) (hl:c.range off k=some l) :
  ∃r:List Value,VL ρ l r∧(loadCells ⟨base.cb,base.co+off,none⟩ k).run P w=.ok r.toArray w∧(∀j v,r[j]?=some v→w.cell? ⟨base.cb,base.co+off+j,none⟩=some v):=by
 obtain ⟨ar,J⟩:=T.range_spec c k off l hl
 have al:∀m,m≤k→∃r:List Value,r.length=m∧∀j,j<m→∃a v,l[j]?=some a∧r[j]?=some v∧VR ρ a v∧w.cell? ⟨base.cb,base.co+off+j,none⟩=some v:=by
  intro m
  induction m with
  |zero=>intro _;exact ⟨[],rfl,fun j h=>absurd h (Nat.not_lt_zero _)⟩
  |succ m ih=>
   intro hm;obtain ⟨r,h1,h2⟩:=ih (by omega)
   have ab:m<l.length:=by omega
   have ha:c.get (off+m)=some l[m]:=by rw [J m (by omega)];simp [ab]
   obtain ⟨v,t,an⟩:=hr.cell hb hg (by omega) ha
   refine ⟨r++[v],by simp [h1],fun j hj=>?_⟩
   by_cases e:j<m
   ·obtain ⟨a,u,q1,q2,q3,q4⟩:=h2 j e;exact ⟨a,u,q1,by rw [List.getElem?_append_left (by omega)];exact q2,q3,q4⟩
   ·have:j=m:=by omega
    subst this;exact ⟨l[j],v,by simp [ab],by rw [List.getElem?_append_right (by omega)];simp [h1],an,by rw [←t];congr 2;omega⟩
 obtain ⟨r,h1,h2⟩:=al k (Nat.le_refl k)
 have I:∀j v,r[j]?=some v→w.cell? ⟨base.cb,base.co+off+j,none⟩=some v:=by
  intro j v t;have hj:j<k:=by have:=(List.getElem?_eq_some_iff.1 t).1;omega
  obtain ⟨a,u,q1,q2,q3,q4⟩:=h2 j hj;rw [q2] at t;cases t;exact q4
 refine ⟨r,⟨by omega,fun i a v ha t=>?_⟩,?_,I⟩
 ·have hi:i<k:=by have:=(List.getElem?_eq_some_iff.1 t).1;omega
  obtain ⟨a',v',q1,q2,q3,_⟩:=h2 i hi;rw [q1] at ha;rw [q2] at t;cases ha;cases t;exact q3
 ·unfold Go.loadCells;have:=CZ (w:=w) P base.cb (base.co+off) r 0 #[] (fun j v t=>by simpa using I j v t)
  rw [h1] at this;simpa using this
theorem Cb (P:Program) (b o:Nat) (e:TypeId) (m:Nat×Nat):∀(l:List Value) (i:Nat) (w:World) (a:Array Value),w.heap[b]?=some (.cells a e m)→o+i+l.length≤a.size→
  (m.1=m.2∨a.size≤m.1)→(∀v∈l,v.oneCell'=true)→
  ∃d c,(storeCells ⟨b,o,none⟩ l i).run P w=.ok () d∧d.heap[b]?=some (.cells c e m)∧c.size=a.size∧(∀j,c[j]?=if o+i≤j∧j<o+i+l.length then l[j-(o+i)]? else a[j]?)∧
   d.heap.size=w.heap.size∧(∀k,k≠b→d.heap[k]?=w.heap[k]?)∧d.os=w.os∧d.tape=w.tape∧d.output=w.output:=by
 intro l
 induction l with
 |nil=>
  intro i w a n y p x;exact ⟨w,a,by simp [storeCells],n,rfl,fun j=>by rw [if_neg (by simp)],rfl,fun _ _=>rfl,rfl,rfl,rfl⟩
 |cons v r ih=>
  intro i w a n y p x;have A:=x v (by simp)
  simp only [List.length_cons] at y;have q:o+i<a.size:=by omega
  have f:w.cell? ⟨b,o+i,none⟩=some a[o+i]:=by simp [World.cell?,n,q]
  have s:w.frozen? ⟨b,o+i,none⟩=false:=by
   simp only [World.frozen?,n];rcases p with p|p
   ·simp;omega
   ·simp;omega
  have L:b<w.heap.size:=(Array.getElem?_eq_some_iff.1 n).1
  have t:(w.setCell ⟨b,o+i,none⟩ v).heap[b]?=some (.cells (a.setIfInBounds (o+i) v) e m):=by
   simp only [World.setCell,Array.getElem?_modify];simp [n]
  obtain ⟨d,c,B,C,D,E,F,G,H,I,J⟩:=ih (i+1) (w.setCell ⟨b,o+i,none⟩ v) (a.setIfInBounds (o+i) v) t (by simp;omega) (by simpa using p) (fun u K=>x u (by simp [K]))
  refine ⟨d,c,?_,C,by simpa using D,?_,?_,?_,?_,?_,?_⟩
  ·simp only [storeCells,Sem.run_bind,BT,run_store _ _ _ _ _ A,f,s];simpa using B
  ·intro j;rw [E j];simp only [List.length_cons];by_cases c1:o+(i+1)≤j∧j<o+(i+1)+r.length
   ·rw [if_pos c1,if_pos (by omega)]
    have:j-(o+i)=(j-(o+(i+1)))+1:=by omega
    rw [this,List.getElem?_cons_succ]
   ·rw [if_neg c1];by_cases c2:j=o+i
    ·subst c2;rw [if_pos (by omega)]
     simp [q]
    ·rw [if_neg (by omega),Array.getElem?_setIfInBounds_ne (fun h=>c2 h.symm)]
  ·rw [F];simp [World.setCell]
  ·intro k z;rw [G k z];simp only [World.setCell,Array.getElem?_modify];rw [if_neg (fun h=>z h.symm)]
  ·rw [H];rfl
  ·rw [I];rfl
  ·rw [J];rfl
theorem VR.one {a:AV} {v:Value} (h:VR ρ a v) (l:a.one=true):v.oneCell'=true:=by
 cases h<;>simp_all [AV.one,Value.oneCell']
theorem Hq:∀{l:List AV} {b:List Value},En l=true→VL ρ l b→∀v∈b,v.oneCell'=true:=by
 intro l
 induction l with
 |nil=>intro b _ h;rw [h.nil_inv];simp
 |cons a r ih=>
  intro b c f;obtain ⟨v,j,rfl,i,hr⟩:=f.cons_inv;simp only [En] at c;cases d:a.one with
  |false=>simp [d] at c
  |true=>
   simp only [d] at c;intro u e;rcases List.mem_cons.1 e with rfl|e
   ·exact i.one d
   ·exact ih c hr u e
end
theorem HR.storeN {ρ:Ren} {h h':Aa} {w:World} (hr:HR ρ h.blk.get w) (P:Program) {b off:Nat} {base:Br} {l:List AV} {l':List Value} (hb:ρ b=some base) (I:VL ρ l l') (r:storeN h b off l=some h') :
  ∃t,(storeCells ⟨base.cb,base.co+off,none⟩ l' 0).run P w=.ok () t∧HR ρ h'.blk.get t∧Ext ρ ρ h h' w t:=by
 unfold AE.storeN at r;cases J:h.blk.get b with
 |none=>simp [J] at r
 |some x=>
  cases x with
  |cells n c=>
   simp only [J] at r;cases hc:(Nat.ble (off+l.length) n&&En l) with
   |false=>simp [hc] at r
   |true=>
    simp only [hc,Option.some.injEq] at r;subst r;obtain ⟨c1,c2⟩:=An hc;have ar:=Cu c1;obtain ⟨al,e,fz,h1,h2,h3,h4,h5⟩:=hr.blk b base _ hb J;obtain ⟨t,ab,q1,q2,q3,q4,q5,q6,q7,q8,q9⟩:=Cb P base.cb (base.co+off) e fz l' 0 w al h1 (by rw [←I.1,h2];omega) (by rw [h2];exact h4) (Hq c2 I)
    refine ⟨t,q1,?_⟩;refine hr.put hb (by rw [J];simp) _ t ?_ q5 q6 q7 q8 q9
    refine ⟨ab,e,fz,q2,by rw [q3,h2],h3,h4,?_⟩
    intro i a hi ha;rw [Fw] at ha;rw [q4 (base.co+i)];simp only [Nat.add_zero];by_cases c:off≤i∧i<off+l.length
    ·rw [if_pos c] at ha;rw [if_pos (by rw [←I.1];omega)]
     obtain ⟨v,hv,an⟩:=I.get ha;exact ⟨v,by rw [←hv];congr 1;omega,an⟩
    ·rw [if_neg c] at ha;rw [if_neg (by rw [←I.1];omega)]
     exact h5 i a hi ha
  |_=>simp [J] at r
theorem HR.newRow {ρ:Ren} {h:Aa} {w:World} (hr:HR ρ h.blk.get w) (t:ρ h.nx=none) (e:TypeId) {n:Nat} {c:T AV} (arr:Array Value) (I:n≤arr.size)
  (J:∀i a,i<n→c.get i=some a→∃v,arr[i]?=some v∧VR ρ a v) :
  ∃l:Ren,l h.nx=some ⟨w.heap.size,0,arr.size⟩∧HR l (h.new (.cells n c)).blk.get {w with heap:=w.heap.push (.cells arr e)}∧
  Ext ρ l h (h.new (.cells n c)) w {w with heap:=w.heap.push (.cells arr e)}:=by
 refine ⟨ρ.upd h.nx ⟨w.heap.size,0,arr.size⟩,Ren.upd_same _ _ _,?_⟩;refine hr.new t _ _ _ ?_ _ rfl rfl rfl rfl;refine ⟨_,_,_,rfl,rfl,by simpa using I,.inl rfl,?_⟩
 intro i a hi ha;obtain ⟨v,hv,r⟩:=J i a hi ha;exact ⟨v,by simpa using hv,r.mono (Ren.le_upd t _)⟩
theorem HR.newList {ρ:Ren} {h:Aa} {w:World} (hr:HR ρ h.blk.get w) (hf:ρ h.nx=none) (e:TypeId) {l:List AV} (arr:Array Value) (I:VL ρ l arr.toList) :
  ∃r:Ren,r h.nx=some ⟨w.heap.size,0,arr.size⟩∧HR r (Bh h l).blk.get {w with heap:=w.heap.push (.cells arr e)}∧
  Ext ρ r h (Bh h l) w {w with heap:=w.heap.push (.cells arr e)}:=by
 refine hr.newRow hf e arr (by have:=I.1;simp at this;omega) ?_
 intro i a hi J;rw [T.get_ofList] at J;obtain ⟨v,hv,t⟩:=I.get J;exact ⟨v,by simpa using hv,t⟩
end Go.AE
namespace Go.AE
variable [Gl:AH]
variable [U:Unk]
theorem Pr:∀(l:List UInt8),AA l<256^l.length
 |[]=>by simp [AA]
 |b::r=>by
  have a:=Pr r;have c:b.toNat<256:=b.toNat_lt;simp only [AA,List.length_cons,Nat.pow_succ];omega
theorem Fr:∀(l m:List UInt8),AA (l++m)=AA l+AA m*256^l.length
 |[],m=>by simp [AA]
 |b::r,m=>by
  have:=Fr r m;simp only [List.cons_append,AA,this,List.length_cons,Nat.pow_succ,Nat.mul_add];rw [Nat.add_assoc,Nat.mul_left_comm,Nat.mul_comm 256 (256^r.length)]
theorem Np:∀(l m:List UInt8),l.length=m.length→AA l=AA m→l=m
 |[],[],_,_=>rfl
 |[],_::_,h,_=>by simp at h
 |_::_,[],h,_=>by simp at h
 |a::l,b::m,h,e=>by
  simp only [AA] at e;have f:a.toNat<256:=a.toNat_lt;have g:b.toNat<256:=b.toNat_lt;have c:a.toNat=b.toNat:=by omega
  have d:AA l=AA m:=by omega
  rw [Np l m (by simpa using h) d,UInt8.toNat_inj.1 c]
theorem Oq (n:Nat):2^(8*n)=256^n:=by rw [Nat.pow_mul]
theorem HH:∀(n:Nat) (l:List UInt8),AA l/256^n=AA (l.drop n)
 |0,l=>by simp
 |n+1,[]=>by simp [AA]
 |n+1,b::r=>by
  have a:b.toNat<256:=b.toNat_lt;simp only [AA,List.drop_succ_cons,Nat.pow_succ];rw [←HH n r,Nat.mul_comm (256^n) 256,←Nat.div_div_eq_div_mul]
  congr 1
  omega
theorem SM:∀(n:Nat) (l:List UInt8),n≤l.length→AA l%256^n=AA (l.take n):=by
 intro n l h;have e:=Fr (l.take n) (l.drop n);rw [List.take_append_drop] at e;have a:(l.take n).length=n:=by simp;omega
 rw [a] at e;rw [e,Nat.add_mul_mod_self_right,Nat.mod_eq_of_lt];have:=Pr (l.take n)
 rwa [a] at this
theorem Nj {l:List UInt8} {n:Nat} (h:n<l.length):AA l/2^(8*n)%256=l[n].toNat:=by
 rw [Oq,HH,List.drop_eq_getElem_cons h];simp only [AA];have:=l[n].toNat_lt;omega
theorem MF {l:List UInt8} {a b:Nat} (c:a≤b) (d:b≤l.length):AA l/2^(8*a)%2^(8*(b-a))=AA ((l.drop a).take (b-a)):=by
 rw [Oq,Oq,HH,SM];simp;omega
theorem D8 (b:UInt8) (r:List UInt8):AA (b::r)%256=b.toNat∧AA (b::r)/256=AA r:=by
 have:=b.toNat_lt;simp only [AA];omega
theorem Ck (s t:ByteArray):strEq s.data.toList.length (AA s.data.toList) t.data.toList.length (AA t.data.toList)=(s.toList==t.toList):=by
 have a:∀u:ByteArray,u.toList=u.data.toList:=fun u=>ByteArray.toList_eq u
 rw [a,a];unfold strEq;rw [Bool.eq_iff_iff];simp only [Bool.and_eq_true,beq_iff_eq];constructor
 ·rintro ⟨b,c⟩
  exact Np _ _ (Ay b) (Ay c)
 ·intro h;rw [h];exact ⟨Fe _,Fe _⟩
theorem Oj:∀(f:Nat) (l m:List UInt8),l.length<f→DY f l.length (AA l) m.length (AA m)=Op.bytesLess l m:=by
 intro f
 induction f with
 |zero=>intro l m h;omega
 |succ f ih=>
  intro l m h;cases m with
  |nil=>cases l<;>simp [DY,Op.bytesLess]
  |cons b m=>
   cases l with
   |nil=>simp [DY,Op.bytesLess]
   |cons a l=>
    obtain ⟨i,j⟩:=D8 a l;obtain ⟨k,n⟩:=D8 b m;simp only [DY,List.length_cons,Op.bytesLess,i,j,k,n];simp only [List.length_cons] at h;by_cases c:a.toNat<b.toNat
    ·have e:Nat.blt a.toNat b.toNat=true:=by simp [Nat.blt];omega
     have g:a<b:=UInt8.lt_iff_toNat_lt.2 c;simp [e,g]
    ·have e:Nat.blt a.toNat b.toNat=false:=by
      cases q:Nat.blt a.toNat b.toNat with
      |false=>rfl
      |true=>exact absurd (Ge q) c
     have g:¬a<b:=fun q=>c (UInt8.lt_iff_toNat_lt.1 q)
     simp only [e,g,decide_false,Bool.false_or];by_cases d:a=b
     ·subst d;rw [Fe];simp [ih l m (by omega)]
     ·have o:Nat.beq a.toNat b.toNat=false:=Ef (fun q=>d (UInt8.toNat_inj.1 q))
      simp [o,d]
end Go.AE
namespace Go.AE
variable [Gl:AH]
variable [U:Unk]
section
variable {E:Env} (hE:OK E) {ρ:Ren} {h:Aa} {w:World}
include hE
theorem QB (hr:HR ρ h.blk.get w) {t:TypeId} {x a:AV} {p:Value} (r:VR ρ x p) (e:NR E t x h=some a) :
  ∃v,(Instr.loadAt t p).run E.P w=.ok v w∧VR ρ a v:=by
 unfold NR at e;cases j:E.desc t with
 |none=>simp [j] at e
 |some d=>
  cases r with
  |ptr b off base q=>
   simp only [j] at e;unfold Instr.loadAt loadVar;simp only [Instr.sureAddr,Sem.run_bind,Sem.run_pure,Result.andThen_ok,hE.run_isAgg j];cases k:GO d with
   |true=>
    simp only [k] at e;cases f:BW h b off (E.size t) with
    |none=>simp [f] at e
    |some l=>
     simp only [f,Option.map_some,Option.some.injEq] at e;subst e;unfold BW at f;cases g:h.blk.get b with
     |none=>simp [g] at f
     |some y=>
      cases y with
      |cells n c=>
       simp only [g] at f;cases i:Nat.ble (off+E.size t) n with
       |false=>simp [i] at f
       |true=>
        simp only [i] at f;obtain ⟨s,m,o,_⟩:=hr.loadCells E.P q g (Cu i) f;simp only [if_true,Sem.run_bind,hE.run_size j,Result.andThen_ok,o,Sem.run_pure];exact ⟨_,rfl,.agg _ _ m.1 m.2⟩
      |_=>simp [g] at f
   |false=>
    simp only [k] at e;cases g:h.blk.get b with
    |none=>simp [g] at e
    |some y=>
     cases y with
     |cells n c=>
      simp only [g] at e;cases i:Nat.blt off n with
      |false=>simp [i] at e
      |true=>
       simp only [i] at e;obtain ⟨v,m,o⟩:=hr.cell q g (Ge i) e;simp only [Bool.false_eq_true,if_false,run_load,m];exact ⟨v,rfl,o⟩
     |_=>simp [g] at e
  |_=>simp [j] at e
theorem UF (hr:HR ρ h.blk.get w) {t:TypeId} {x a:AV} {i v:Value} {h':Aa} (k:VR ρ x i) (l:VR ρ a v) (c:Js E t x a h=some h') :
  ∃d,(Instr.storeAt t i v).run E.P w=.ok () d∧HR ρ h'.blk.get d∧Ext ρ ρ h h' w d:=by
 unfold Js at c;cases k with
 |ptr b off base m=>
  simp only [] at c;cases g:E.szIs t a.cells.length with
  |false=>simp [g] at c
  |true=>
   simp only [g] at c
   have n:a≠.top:=by
    rintro rfl
    unfold storeN at c;cases j:h.blk.get b with
    |none=>simp [j] at c
    |some y=>cases y<;>simp [j,AV.cells,En,AV.one] at c
   have f:=l.cells n;obtain ⟨d,o,p,q⟩:=hr.storeN E.P m f c;refine ⟨d,?_,p,q⟩;unfold Instr.storeAt storeVar;have e:v.cells.size=a.cells.length:=by have:=f.1;simp at this;omega
   simp [Instr.sureAddr,hE.run_szIs g,e,o]
 |_=>simp at c
theorem MJ {t:TypeId} {x a:AV} {f:Nat} {o:Value} (p:VR ρ x o) (c:Hm E t x f=some a) :
  ∃v,(Instr.fieldAt t o f).run E.P w=.ok v w∧VR ρ a v:=by
 unfold Hm at c;cases g:E.desc t with
 |none=>simp [g] at c
 |some d=>
  cases d with
  |struct q=>
   cases p with
   |ptr b off base r=>
    simp only [g] at c;cases k:q.toList[f]? with
    |none=>simp [k] at c
    |some j=>
     simp only [k] at c;have l:q[f]?=some j:=by simpa using k
     cases e:E.size j.type with
     |zero=>simp [e] at c
     |succ n=>
      simp only [e,Option.some.injEq] at c;subst c
      have m:∀w,(sizeOf j.type).run E.P w=.ok (n+1) w:=by
       intro w;unfold Env.size at e;cases hi:E.ty.get j.type with
       |none=>simp [hi] at e
       |some i=>simp only [hi] at e;rw [hE.run_sz hi,e]
      refine ⟨.pointer (some ⟨base.cb,base.co+(off+j.offset),none⟩),?_,.ptr b _ base r⟩;simp [Instr.fieldAt,hE.run_und g,l,Instr.sureAddr,fieldPlace,m,BT,Nat.add_assoc]
   |_=>simp [g] at c
  |_=>cases p<;>simp [g] at c
theorem U8 {t:TypeId} {x a:AV} {f:Nat} {i:Value} (j:VR ρ x i) (b:Oh E t x f=some a) :
  ∃v,(Instr.field t i f).run E.P w=.ok v w∧VR ρ a v:=by
 unfold Oh at b;cases c:E.desc t with
 |none=>simp [c] at b
 |some d=>
  cases d with
  |struct k=>
   cases j with
   |agg l l' m n=>
    simp only [c] at b;cases e:k.toList[f]? with
    |none=>simp [e] at b
    |some o=>
     simp only [e] at b;have g:k[f]?=some o:=by simpa using e
     obtain ⟨v,p,q⟩:=hE.run_part (cs':=l') b ⟨m,n⟩ w;exact ⟨v,by simp [Instr.field,hE.run_und c,g,asAgg,p],q⟩
   |_=>simp [c] at b
  |_=>cases j<;>simp [c] at b
omit hE in
theorem B0 {ρ:Ren} {a:AV} {v:Value} {n:Nat} (hv:VR ρ a v) (h:CS a=some n):∃k,v=.int k (n:Int):=by
 cases hv with
 |int k m=>
  cases m with
  |ofNat m=>simp only [CS,Option.some.injEq] at h;subst h;exact ⟨k,rfl⟩
  |negSucc m=>simp [CS] at h
 |_=>simp [CS] at h
theorem MH {t:TypeId} {x i a:AV} {r s:Value} (o:VR ρ x r) (hi:VR ρ i s) (c:Hv E t x i=some a) :
  ∃v,(Instr.indexAt t r s).run E.P w=.ok v w∧VR ρ a v:=by
 unfold Hv at c;cases g:E.desc t with
 |none=>simp [g] at c
 |some d=>
  cases j:CS i with
  |none=>cases d<;>cases x<;>simp [g,j] at c
  |some n=>
   obtain ⟨k,rfl⟩:=B0 hi j;cases d with
   |slice e=>
    cases o with
    |slice b off len p u base q z A=>
     simp only [g,j] at c;cases f:(Nat.blt n len&&E.szIs e p) with
     |false=>simp [f] at c
     |true=>
      simp only [f,Option.some.injEq] at c;subst c;obtain ⟨c1,c2⟩:=An f;have l:=Ge c1;refine ⟨.pointer (some ⟨base.cb,base.co+(off+n*p),none⟩),?_,.ptr b _ base q⟩;simp [Instr.indexAt,asIntOf,hE.run_und g,hE.run_szIs c2,l,BT,Nat.add_assoc]
    |sliceEnd b off p a=>
     have y:Nat.blt n 0=false:=rfl;simp [g,j,y] at c
    |_=>simp [g,j] at c
   |array len e=>
    cases o with
    |ptr b off base q=>
     simp only [g,j] at c;cases f:(Nat.blt n len&&E.has e) with
     |false=>simp [f] at c
     |true=>
      simp only [f,Option.some.injEq] at c;subst c;obtain ⟨c1,c2⟩:=An f;have l:=Ge c1;refine ⟨.pointer (some ⟨base.cb,base.co+(off+n*E.size e),none⟩),?_,.ptr b _ base q⟩;simp [Instr.indexAt,asIntOf,hE.run_und g,hE.run_has c2,Instr.sureAddr,l,BT,Nat.add_assoc]
    |_=>simp [g,j] at c
   |_=>cases o<;>simp [g,j] at c
theorem UM {t:TypeId} {x i a:AV} {u y:Value} (p:VR ρ x u) (hi:VR ρ i y) (b:RJ E t x i=some a) :
  ∃v,(Instr.index t u y).run E.P w=.ok v w∧VR ρ a v:=by
 unfold RJ at b;cases c:E.desc t with
 |none=>simp [c] at b
 |some d=>
  cases g:CS i with
  |none=>cases d<;>cases x<;>simp [c,g] at b
  |some n=>
   obtain ⟨k,rfl⟩:=B0 hi g;cases d with
   |string=>
    cases p with
    |str s=>
     simp only [c,g] at b;cases q:Nat.blt n s.data.toList.length with
     |false=>simp only [q] at b;cases b
     |true=>
      simp only [q,Option.some.injEq] at b;subst b;have f:=Ge q;have r:n<s.size:=by simpa using f
      have e:s[n]?=some s.data.toList[n]:=by
       rw [getElem?_pos s n r];rfl
      rw [Nj f];refine ⟨.int .u8 (s.data.toList[n].toNat:Nat),?_,.int _ _⟩;simp only [Instr.index,asIntOf,Sem.run_bind,Sem.run_pure,Result.andThen_ok,hE.run_und c];rw [if_pos (by omega),Int.toNat_natCast,e]
      rfl
    |_=>simp [c,g] at b
   |array len e=>
    cases p with
    |agg l z A B=>
     simp only [c,g] at b;cases j:Nat.blt n len with
     |false=>simp [j] at b
     |true=>
      simp only [j] at b;have f:=Ge j;obtain ⟨v,C,D⟩:=hE.run_part (cs':=z) b ⟨A,B⟩ w
      have o:∃d,E.desc e=some d:=by
       unfold Cz at b;cases F:E.desc e with
       |none=>simp [F] at b
       |some d=>exact ⟨d,rfl⟩
      obtain ⟨d,o⟩:=o;refine ⟨v,?_,D⟩;simp [Instr.index,asIntOf,hE.run_und c,f,hE.run_size o,C]
    |_=>simp [c,g] at b
   |_=>cases p<;>simp [c,g] at b
end
end Go.AE
namespace Go.AE
variable [Gl:AH]
variable [U:Unk]
section
variable {E:Env} (hE:OK E) {ρ:Ren} {h:Aa} {w:World}
include hE
omit hE in
theorem IB {len cap:Nat} {lo hi mx:Option AV} {lo' hi' mx':Option Value} {l hh:Nat} (P:Program) (w:World) (isSlice:Bool)
  (hlo:∀a,lo=some a→∃v,lo'=some v∧VR ρ a v) (hlo0:lo=none→lo'=none)
  (hhi:∀a,hi=some a→∃v,hi'=some v∧VR ρ a v) (hhi0:hi=none→hi'=none)
  (hmx:∀a,mx=some a→∃v,mx'=some v∧VR ρ a v) (hmx0:mx=none→mx'=none)
  (hmh:mx≠none→hi≠none) (hc:len≤cap)
  (hb:CD len lo hi mx=some (l,hh)):∃m,(Instr.sliceBounds isSlice len cap lo' hi' mx').run P w=.ok (l,hh,m) w∧l≤hh∧hh≤m∧m≤cap∧hh≤len∧(mx≠none→DP mx len=some m):=by
 unfold CD at hb
 have getb:∀(o:Option AV) (o':Option Value) (d k:Nat),(∀a,o=some a→∃v,o'=some v∧VR ρ a v)→(o=none→o'=none)→DP o d=some k→(o=none∧o'=none∧k=d)∨(o≠none∧∃kd,o'=some (.int kd (k:Int))):=by
  intro o o' d k h1 h2 h3;cases o with
  |none=>simp [DP] at h3;exact .inl ⟨rfl,h2 rfl,h3.symm⟩
  |some a=>
   obtain ⟨v,hv,hvr⟩:=h1 a rfl;simp only [DP] at h3;obtain ⟨kd,rfl⟩:=B0 hvr h3;exact .inr ⟨by simp,kd,hv⟩
 cases hm:DP mx len with
 |none=>simp [hm] at hb
 |some m=>
  simp only [hm] at hb;cases h1:DP hi len with
  |none=>simp [h1] at hb
  |some H=>
   cases h2:DP lo 0 with
   |none=>simp [h1,h2] at hb
   |some L=>
    simp only [h1,h2] at hb;cases hcc:(Nat.ble L H&&Nat.ble H m&&Nat.ble m len) with
    |false=>simp [hcc] at hb
    |true=>
     simp only [hcc,Option.some.injEq,Prod.mk.injEq] at hb;obtain ⟨rfl,rfl⟩:=hb;obtain ⟨c12,c3⟩:=An hcc;obtain ⟨c1,c2⟩:=An c12;have b1:=Cu c1;have b2:=Cu c2;have b3:=Cu c3
     have Ex:∀(kd:IntKind) (x y:Nat) (code:BoundsCode),x≤y→(Instr.sliceBound (.int kd (x:Int)) y code).run P w=.ok x w:=by
      intro kd x y code hxy;simp [Instr.sliceBound,asIntOf,hxy]
     rcases getb mx mx' len m hmx hmx0 hm with ⟨e1,e2,e3⟩|⟨e1,kd1,e2⟩
     ·subst e1;subst e2;subst e3;rcases getb hi hi' m H hhi hhi0 h1 with ⟨f1,f2,f3⟩|⟨f1,kd2,f2⟩
      ·subst f2;rcases getb lo lo' 0 L hlo hlo0 h2 with ⟨g1,g2,g3⟩|⟨g1,kd3,g2⟩
       ·subst g2;subst g3;subst f3;exact ⟨cap,by simp [Instr.sliceBounds],by omega,by omega,by omega,by omega,fun h=>absurd rfl h⟩
       ·subst g2;subst f3;exact ⟨cap,by simp [Instr.sliceBounds,Ex _ _ _ _ b1],by omega,by omega,by omega,by omega,fun h=>absurd rfl h⟩
      ·subst f2;rcases getb lo lo' 0 L hlo hlo0 h2 with ⟨g1,g2,g3⟩|⟨g1,kd3,g2⟩
       ·subst g2;subst g3;exact ⟨cap,by simp [Instr.sliceBounds,Ex _ H cap _ (by omega)],by omega,by omega,by omega,by omega,fun h=>absurd rfl h⟩
       ·subst g2;exact ⟨cap,by simp [Instr.sliceBounds,Ex _ H cap _ (by omega),Ex _ L H _ b1],by omega,by omega,by omega,by omega,fun h=>absurd rfl h⟩
     ·subst e2;rcases getb hi hi' len H hhi hhi0 h1 with ⟨f1,f2,f3⟩|⟨f1,kd2,f2⟩
      ·exact absurd f1 (hmh e1)
      ·subst f2;rcases getb lo lo' 0 L hlo hlo0 h2 with ⟨g1,g2,g3⟩|⟨g1,kd3,g2⟩
       ·subst g2;subst g3;exact ⟨m,by simp [Instr.sliceBounds,Ex _ m cap _ (by omega),Ex _ H m _ b2],by omega,by omega,by omega,by omega,fun _=>rfl⟩
       ·subst g2;exact ⟨m,by simp [Instr.sliceBounds,Ex _ m cap _ (by omega),Ex _ H m _ b2,Ex _ L H _ b1],by omega,by omega,by omega,by omega,fun _=>rfl⟩
omit hE in
theorem FL {len cap:Nat} {lo hi mx:Option AV} {lo' hi' mx':Option Value} {l hh:Nat} (P:Program) (w:World) (isSlice:Bool)
  (hlo:∀a,lo=some a→∃v,lo'=some v∧VR ρ a v) (hlo0:lo=none→lo'=none)
  (hhi:∀a,hi=some a→∃v,hi'=some v∧VR ρ a v) (hhi0:hi=none→hi'=none)
  (hmx:∀a,mx=some a→∃v,mx'=some v∧VR ρ a v) (hmx0:mx=none→mx'=none)
  (hmh:mx≠none→hi≠none) (hc:len≤cap)
  (hb:CD len lo hi mx=some (l,hh)):∃m,(Instr.sliceBounds isSlice len cap lo' hi' mx').run P w=.ok (l,hh,m) w∧l≤hh∧hh≤m∧m≤cap∧hh≤len:=by
 obtain ⟨m,q1,q2,q3,q4,q5,_⟩:=IB P w isSlice hlo hlo0 hhi hhi0 hmx hmx0 hmh hc hb;exact ⟨m,q1,q2,q3,q4,q5⟩
theorem U3 (hr:HR ρ h.blk.get w) {t:TypeId} {x a:AV} {G:Value} {lo hi mx:Option AV} {lo' hi' mx':Option Value} (z:VR ρ x G)
  (hlo:∀a,lo=some a→∃v,lo'=some v∧VR ρ a v) (hlo0:lo=none→lo'=none)
  (hhi:∀a,hi=some a→∃v,hi'=some v∧VR ρ a v) (hhi0:hi=none→hi'=none)
  (hmx:∀a,mx=some a→∃v,mx'=some v∧VR ρ a v) (hmx0:mx=none→mx'=none)
  (hmh:mx≠none→hi≠none)
  (f:QU E t x lo hi mx h=some a):∃v,(Instr.sliceAt t G lo' hi' mx').run E.P w=.ok v w∧VR ρ a v:=by
 unfold QU at f;cases i:E.desc t with
 |none=>simp [i] at f
 |some d=>
  cases d with
  |string=>
   cases z with
   |str s=>
    simp only [i] at f;cases mx with
    |some m=>simp at f
    |none=>
     simp only [] at f;cases hb:CD s.data.toList.length lo hi none with
     |none=>simp only [hb] at f;cases f
     |some p=>
      obtain ⟨L,H⟩:=p;simp only [hb,Option.some.injEq] at f;subst f;obtain ⟨m,q1,q2,q3,q4,q5⟩:=FL E.P w false hlo hlo0 hhi hhi0 hmx hmx0 hmh (Nat.le_refl _) hb;have J:=hmx0 rfl;subst J;have D:s.size=s.data.toList.length:=by simp
      rw [MF q2 q5]
      have z:(s.extract L H).data.toList=(s.data.toList.drop L).take (H-L):=by
       simp [ByteArray.data_extract]
      have A:H-L=((s.data.toList.drop L).take (H-L)).length:=by simp;omega
      refine ⟨.string (s.extract L H),?_,?_⟩
      ·simp only [Instr.sliceAt,Sem.run_bind,hE.run_und i,Result.andThen_ok,Instr.slice];rw [←D] at q1;simp [q1]
      ·have:=VR.str (ρ:=ρ) (s.extract L H);rw [z] at this;rw [←A] at this;exact this
   |_=>simp [i] at f
  |slice e=>
   cases z with
   |slice0=>
    simp only [i] at f;cases hb:CD 0 lo hi mx with
    |none=>simp [hb] at f
    |some p=>
     obtain ⟨L,H⟩:=p;cases g:E.has e with
     |false=>simp [hb,g] at f
     |true=>
      simp only [hb,g,Option.some.injEq] at f;subst f;obtain ⟨m,q1,q2,q3,q4,q5⟩:=FL E.P w true hlo hlo0 hhi hhi0 hmx hmx0 hmh (Nat.le_refl 0) hb;have:L=0∧H=0∧m=0:=by omega
      obtain ⟨rfl,rfl,rfl⟩:=this;exact ⟨.slice none 0 0,by simp [Instr.sliceAt,Instr.slice,hE.run_und i,q1,hE.run_has g],.slice0⟩
   |slice b off len j cap base u hc Q=>
    simp only [i] at f;cases hb:CD len lo hi mx with
    |none=>simp [hb] at f
    |some p=>
     obtain ⟨L,H⟩:=p;simp only [hb] at f;cases g:E.szIs e j with
     |false=>simp [g] at f
     |true=>
      simp only [g] at f;obtain ⟨m,q1,q2,q3,q4,q5,K⟩:=IB E.P w true hlo hlo0 hhi hhi0 hmx hmx0 hmh hc hb;cases q:Qf mx len L H with
      |true=>
       simp only [q,Option.some.injEq] at f;subst f;unfold Qf at q;cases mx with
       |none=>cases q
       |some I=>
        have F:=K (by simp)
        simp only [F] at q;obtain ⟨f1,f2⟩:=An q;have g1:=Ay f1;have g2:=Ge f2;subst g1;refine ⟨.slice (some ⟨base.cb,base.co+(off+L*j),none⟩) (m-L) (m-L),?_,?_⟩
        ·have r:¬m=L:=by omega
         simp [Instr.sliceAt,Instr.slice,hE.run_und i,q1,hE.run_szIs g,r,BT,Nat.add_assoc]
        ·refine .fsl b _ _ j base u ?_;have h1:L*j+(m-L)*j=m*j:=by rw [←Nat.add_mul];congr 1;omega
         have h2:m*j≤cap*j:=Nat.mul_le_mul_right _ q4;omega
      |false=>
      simp only [q,Option.some.injEq] at f;subst f;by_cases r:m=L
      ·have:H=L:=by omega
       subst this;subst r;refine ⟨.slice (some ⟨base.cb,base.co+off,none⟩) 0 0,?_,?_⟩
       ·simp [Instr.sliceAt,Instr.slice,hE.run_und i,q1,hE.run_szIs g]
       ·rw [Nat.sub_self];exact .sliceEnd _ _ _ _
      ·refine ⟨.slice (some ⟨base.cb,base.co+(off+L*j),none⟩) (H-L) (m-L),?_,?_⟩
       ·simp [Instr.sliceAt,Instr.slice,hE.run_und i,q1,hE.run_szIs g,r,BT,Nat.add_assoc]
       ·refine .slice b _ _ j _ base u (by omega) ?_
        have h1:L*j+(m-L)*j=m*j:=by rw [←Nat.add_mul];congr 1;omega
        have h2:m*j≤cap*j:=Nat.mul_le_mul_right _ q4;omega
   |sliceEnd b off j a=>
    simp only [i] at f;cases hb:CD 0 lo hi mx with
    |none=>simp [hb] at f
    |some p=>
     obtain ⟨L,H⟩:=p;simp only [hb] at f;cases g:E.szIs e j with
     |false=>simp [g] at f
     |true=>
      obtain ⟨m,q1,q2,q3,q4,q5⟩:=FL E.P w true hlo hlo0 hhi hhi0 hmx hmx0 hmh (Nat.le_refl 0) hb
      have q:Qf mx 0 L H=false:=by
       unfold Qf;cases mx with
       |none=>rfl
       |some I=>
        simp only;cases DP (some I) 0 with
        |none=>rfl
        |some R=>
         have:Nat.blt L H=false:=by
          cases B:Nat.blt L H with
          |false=>rfl
          |true=>have:=Ge B;omega
         simp [this]
      simp only [g,q,Option.some.injEq] at f;subst f;have:L=0∧H=0∧m=0:=by omega
      obtain ⟨rfl,rfl,rfl⟩:=this;refine ⟨.slice (some a) 0 0,?_,?_⟩
      ·simp [Instr.sliceAt,Instr.slice,hE.run_und i,q1,hE.run_szIs g]
      ·rw [Nat.sub_self];exact .sliceEnd _ _ _ _
   |_=>simp [i] at f
  |array n e=>
   cases z with
   |ptr b off base u=>
    simp only [i] at f;cases hb:CD n lo hi mx with
    |none=>simp [hb] at f
    |some p=>
     obtain ⟨L,H⟩:=p;cases g:E.has e with
     |false=>simp [hb,g] at f
     |true=>
      cases C:h.blk.get b with
      |none=>simp [hb,g,C] at f
      |some y=>
       cases y with
       |cells M c=>
        simp only [hb,g,C] at f;cases B:Nat.ble (off+n*E.size e) M with
        |false=>simp [B] at f
        |true=>
         simp only [B,Option.some.injEq] at f;subst f;have N:=Cu B;obtain ⟨O,e1,S,h1,h2,h3,T,V⟩:=hr.blk b base _ u C;obtain ⟨m,q1,q2,q3,q4,q5⟩:=FL E.P w false hlo hlo0 hhi hhi0 hmx hmx0 hmh (Nat.le_refl n) hb;by_cases r:m=L
         ·have:H=L:=by omega
          subst this;subst r;refine ⟨.slice (some ⟨base.cb,base.co+off,none⟩) 0 0,?_,?_⟩
          ·simp [Instr.sliceAt,Instr.sureAddr,hE.run_und i,q1,hE.run_has g]
          ·rw [Nat.sub_self];exact .sliceEnd _ _ _ _
         ·refine ⟨.slice (some ⟨base.cb,base.co+(off+L*E.size e),none⟩) (H-L) (m-L),?_,?_⟩
          ·simp [Instr.sliceAt,Instr.sureAddr,hE.run_und i,q1,hE.run_has g,r,BT,Nat.add_assoc]
          ·refine .slice b _ _ _ _ base u (by omega) ?_
           have g1:L*E.size e+(m-L)*E.size e=m*E.size e:=by rw [←Nat.add_mul];congr 1;omega
           have g2:m*E.size e≤n*E.size e:=Nat.mul_le_mul_right _ q4;omega
       |_=>simp [hb,g,C] at f
   |_=>simp [i] at f
  |_=>cases z<;>simp [i] at f
end
end Go.AE
namespace Go.AE
variable [Gl:AH]
variable [U:Unk]
def W4 {a:Type} (l:List a) (off:Nat) (r l2:List a):Prop:=l2.length=l.length∧∀j,l2[j]?=if off≤j∧j<off+r.length then r[j-off]? else l[j]?
theorem Fl:∀(l:List AV) (off:Nat) (r:List AV),off+r.length≤l.length→W4 l off r (AT l off r):=by
 intro l
 induction l with
 |nil=>
  intro off r h;have:r=[]:=List.eq_nil_of_length_eq_zero (by simp only [List.length_nil] at h;omega)
  subst this;exact ⟨by simp [AT],fun j=>by simp [AT]⟩
 |cons x l ih=>
  intro off r h;cases r with
  |nil=>exact ⟨by simp [AT],fun j=>by rw [if_neg (by simp)];simp [AT]⟩
  |cons v r=>
   simp only [List.length_cons] at h;cases off with
   |zero=>
    obtain ⟨a,b⟩:=ih 0 r (by omega)
    refine ⟨by simp [AT,a],fun j=>?_⟩
    cases j with
    |zero=>simp [AT]
    |succ j=>
     simp only [AT,List.getElem?_cons_succ,b j,List.length_cons,Nat.zero_add,Nat.zero_le,true_and,Nat.sub_zero];by_cases c:j<r.length
     ·rw [if_pos c,if_pos (by omega)]
     ·rw [if_neg c,if_neg (by omega)]
   |succ off=>
    obtain ⟨a,b⟩:=ih off (v::r) (by simp;omega)
    refine ⟨by simp [AT,a],fun j=>?_⟩
    cases j with
    |zero=>rw [if_neg (by omega)];simp [AT]
    |succ j=>
     simp only [AT,List.getElem?_cons_succ,b j,List.length_cons];by_cases c:off≤j∧j<off+(r.length+1)
     ·rw [if_pos c,if_pos (by omega)];congr 1;omega
     ·rw [if_neg c,if_neg (by omega)]
theorem Q5 (off:Nat):∀(r:List Value) (k:Nat) (cs:Array Value),off+k+r.length≤cs.size→
  W4 cs.toList (off+k) r ((r.zipIdx k).foldl (fun cs (p:Value×Nat)=>cs.setIfInBounds (off+p.2) p.1) cs).toList:=by
 intro r
 induction r with
 |nil=>intro k cs h;exact ⟨rfl,fun j=>by rw [if_neg (by simp)];rfl⟩
 |cons v r ih=>
  intro k cs h;simp only [List.length_cons] at h;simp only [List.zipIdx_cons,List.foldl_cons];obtain ⟨a,b⟩:=ih (k+1) (cs.setIfInBounds (off+k) v) (by simp;omega)
  refine ⟨by rw [a];simp,fun j=>?_⟩
  rw [b j];simp only [List.length_cons];by_cases c1:off+(k+1)≤j∧j<off+(k+1)+r.length
  ·rw [if_pos c1,if_pos (by omega)]
   have:j-(off+k)=(j-(off+(k+1)))+1:=by omega
   rw [this,List.getElem?_cons_succ]
  ·rw [if_neg c1];by_cases c2:j=off+k
   ·subst c2;rw [if_pos (by omega)]
    have:off+k<cs.size:=by omega
    simp [this]
   ·rw [if_neg (by omega)]
    simp only [Array.getElem?_toList];rw [Array.getElem?_setIfInBounds_ne (fun e=>c2 e.symm)]
theorem W4.vl {ρ:Ren} {l r l2:List AV} {l' r' t:List Value} {off:Nat} (h:W4 l off r l2) (h':W4 l' off r' t) (hl:VL ρ l l') (hr:VL ρ r r'):VL ρ l2 t:=by
 refine ⟨by rw [h.1,h'.1,hl.1],fun i a v I J=>?_⟩
 rw [h.2 i] at I;rw [h'.2 i,←hr.1] at J;by_cases c:off≤i∧i<off+r.length
 ·rw [if_pos c] at I J;exact hr.2 _ a v I J
 ·rw [if_neg c] at I J;exact hl.2 _ a v I J
def PL (b:Ren):List (Nat×AV)→List (Nat×Value)→Prop
 |[],[]=>True
 | (i,a)::r,(j,v)::c=>i=j∧VR b a v∧PL b r c
 |_,_=>False
theorem Ij {g:Ren} {place:Nat→Option (Nat×Nat)}:∀{o:List (Nat×AV)} {d:List (Nat×Value)} {cells out:List AV} {b:Array Value},PL g o d→VL g cells b.toList→
  Fj place cells o=some out→∃c,Instr.fill place b d=some c∧VL g out c.toList
 |[],[],cells,out,b,_,f,h=>by
  simp only [Fj,Option.some.injEq] at h;subst h;exact ⟨b,rfl,f⟩
 | (i,a)::r,(j,v)::E,cells,out,b,⟨t,u,w⟩,f,h=>by
  subst t;simp only [Fj] at h;cases k:place i with
  |none=>simp [k] at h
  |some p=>
   obtain ⟨off,size⟩:=p;simp only [k] at h;cases l:(Nat.beq a.cells.length size&&Nat.ble (off+size) cells.length && !a.isTop) with
   |false=>simp [l] at h
   |true=>
    simp only [l] at h;obtain ⟨m,x⟩:=An l;obtain ⟨y,z⟩:=An m;have n:a≠.top:=by rintro rfl;simp [AV.isTop] at x
    have F:=Ay y;have G:=Cu z;have q:=u.cells n;have e:v.cells.size=size:=by have:=q.1;simp at this;omega
    have A:cells.length=b.size:=by simpa using f.1
    have B:=Fl cells off a.cells (by omega)
    have s:=Q5 off v.cells.toList 0 b (by simp;omega)
    simp only [Nat.add_zero] at s;obtain ⟨c,C,D⟩:=Ij w (B.vl s f q) h;refine ⟨c,?_,D⟩;simp only [Instr.fill,k];rw [if_neg (by simp [e];omega),←C]
    congr 1
    rw [←Array.foldl_toList];simp [Array.toList_zipIdx]
theorem IU {place:Nat→Option (Nat×Nat)}:∀{e:List (Nat×AV)} {cells out:List AV},Fj place cells e=some out→out.length=cells.length
 |[],cells,out,h=>by simp only [Fj,Option.some.injEq] at h;subst h;rfl
 | (i,a)::r,cells,out,h=>by
  simp only [Fj] at h;cases d:place i with
  |none=>simp [d] at h
  |some p=>
   obtain ⟨off,size⟩:=p;simp only [d] at h;cases b:(Nat.beq a.cells.length size&&Nat.ble (off+size) cells.length && !a.isTop) with
   |false=>simp [b] at h
   |true=>
    simp only [b] at h;obtain ⟨c,j⟩:=An b;obtain ⟨f,g⟩:=An c;have k:=Ay f;have l:=Cu g;rw [IU h,(Fl cells off a.cells (by omega)).1]
section
variable {E:Env} (hE:OK E) {ρ:Ren} {h:Aa} {w:World}
include hE
omit hE in
theorem Bo {v:Value} {z:AV} (h:ofValue v=some z):z≠.top:=by
 rintro rfl
 cases v with
 |agg c=>simp only [ofValue] at h;cases hc:CR c.toList<;>simp [hc] at h
 |pointer p=>cases p<;>simp [ofValue,AZ] at h
 |slice p l c=>cases p<;>cases l<;>cases c<;>simp [ofValue,AZ] at h
 |map r=>cases r<;>simp [ofValue,AZ] at h
 |_=>simp [ofValue,AZ] at h
theorem Kt (b:List Field) (a:b.all (fun f=>E.has f.type)=true) (w:World) :
  (b.mapM fun f=>do pure (f.offset,←sizeOf f.type):Sem (List (Nat×Nat))).run E.P w=.ok (b.map fun f=>(f.offset,E.size f.type)) w:=by
 induction b with
 |nil=>simp
 |cons f r ih=>
  simp only [List.all_cons,Bool.and_eq_true] at a;simp only [List.mapM_cons,Sem.run_bind,hE.run_has a.1,Result.andThen_ok,Sem.run_pure,ih a.2,List.map_cons]
theorem UK {t:TypeId} {x:List (Nat×AV)} {s:List (Nat×Value)} {a:AV} (C:PL ρ x s) (b:N1 E t x=some a) :
  ∃v,(Instr.build t s.toArray).run E.P w=.ok v w∧VR ρ a v:=by
 unfold N1 at b;cases m:E.zero t with
 |none=>simp [m] at b
 |some z=>
  obtain ⟨G,z1,z2⟩:=hE.run_zero ρ m w;have D:=(AL ρ z2).cells (Bo z2);cases o:E.desc t with
  |none=>simp [m,o] at b
  |some d=>
   cases d with
   |struct q=>
    simp only [m,o] at b;cases j:q.toList.all (fun f=>E.has f.type) with
    |false=>simp only [j] at b;cases b
    |true=>
     simp only [j] at b;cases k:Fj (N8 E q.toList) z.cells x with
     |none=>simp only [k,Option.map_none] at b;cases b
     |some out=>
      simp only [k,Option.map_some,Option.some.injEq] at b;subst b
      have y:N8 E q.toList=(fun i=>((q.toList.map fun f=>(f.offset,E.size f.type)).toArray)[i]?):=by
       funext i
       simp only [N8,List.getElem?_toArray,List.getElem?_map];cases q.toList[i]?<;>rfl
      rw [y] at k;obtain ⟨g,A,u⟩:=Ij C D k;refine ⟨.agg g,?_,?_⟩
      ·have F:=Kt hE q.toList j w;simp only [Instr.build,Sem.run_bind,z1,Result.andThen_ok,hE.run_und o];rw [Array.mapM_eq_mapM_toList];simp only [Sem.run_map,F,Result.andThen_ok];rw [A];rfl
      ·exact .agg out g.toList u.1 u.2
   |array n e=>
    simp only [m,o] at b;cases B:E.has e with
    |false=>simp [B] at b
    |true=>
     simp only [B] at b;cases k:Fj (fun i=>some (i*E.size e,E.size e)) z.cells x with
     |none=>simp [k] at b
     |some out=>
      simp only [k,Option.map_some,Option.some.injEq] at b;subst b;obtain ⟨g,A,u⟩:=Ij C D k;refine ⟨.agg g,?_,.agg out g.toList u.1 u.2⟩;simp [Instr.build,z1,hE.run_und o,hE.run_has B,A]
   |_=>simp [m,o] at b
end
end Go.AE
namespace Go.AE
variable [Gl:AH]
variable [U:Unk]
theorem FH (n:Nat) (h:n≤4611686018427387904):IntKind.i64.wrap (n:Int)=n:=IntWalk.i64_in _ (by omega)
theorem J0 (z:List AV):∀(n i:Nat),i<n*z.length→(Bz z n)[i]?=z[i%z.length]?
 |0,i,h=>by simp at h
 |n+1,i,h=>by
  simp only [Bz];by_cases hi:i<z.length
  ·rw [List.getElem?_append_left hi,Nat.mod_eq_of_lt hi]
  ·rw [List.getElem?_append_right (by omega),J0 z n (i-z.length) (by rw [Nat.add_mul] at h;omega)]
   congr 1
   rw [←Nat.mod_eq_sub_mod (by omega)]
theorem Ce (z:List AV):∀n,(Bz z n).length=n*z.length
 |0=>by simp [Bz]
 |n+1=>by simp only [Bz,List.length_append,Ce z n,Nat.add_mul];omega
theorem Eu {ρ:Ren} {z:List AV} {zero:Array Value} (h:VL ρ z zero.toList) (n:Nat) (b:Array Value) (h0:n*z.length=0∨b=zero) :
  VL ρ (Bz z n) ((Array.range (n*z.length)).map (b[· % b.size]!)).toList:=by
 have j:z.length=zero.size:=by simpa using h.1
 refine ⟨by simp [Ce],fun i a v d c=>?_⟩
 have hi:i<n*z.length:=by
  have:=(List.getElem?_eq_some_iff.1 d).1
  rwa [Ce] at this
 rcases h0 with h0|rfl
 ·omega
 ·have f:0<z.length:=by
   rcases Nat.eq_zero_or_pos z.length with e|e
   ·rw [e] at hi;simp at hi
   ·exact e
  rw [J0 z n i hi] at d;have k:i%z.length<z.length:=Nat.mod_lt _ f;simp only [Array.toList_map,Array.toList_range,List.getElem?_map,List.getElem?_range hi,Option.map_some,Option.some.injEq] at c;subst c;obtain ⟨v,c,g⟩:=h.get d;rw [j] at c
  have:b[i%b.size]! = v:=by
   rw [Array.getElem?_toList] at c;simp [Array.getElem!_eq_getD,Array.getD_eq_getD_getElem?,c]
  rw [this];exact g
section
variable {E:Env} (hE:OK E) {ρ:Ren} {h:Aa} {w:World}
include hE
def AP (E:Env) (ρ:Ren) (h h':Aa) (w:World) (s:Sem Value) (a:AV):Prop:=
 ∃b v c,s.run E.P w=.ok v c∧VR b a v∧HR b h'.blk.get c∧Ext ρ b h h' w c
omit hE in
theorem Az (hr:HR ρ h.blk.get w) {s:Sem Value} {a:AV} (hs:∃v,s.run E.P w=.ok v w∧VR ρ a v):AP E ρ h h w s a:=by
 obtain ⟨v,h1,h2⟩:=hs;exact ⟨ρ,v,w,h1,h2,hr,Ext.refl ρ h w⟩
theorem Vs (hr:HR ρ h.blk.get w) (b:ρ h.nx=none) {t:TypeId} {z:AV} (c:E.zero t=some z) :
  AP E ρ h (Bh h z.cells) w (Instr.alloc t true (.tuple #[])) (.ptr h.nx 0):=by
 obtain ⟨d,z1,z2⟩:=hE.run_zero ρ c w;have e:=(AL ρ z2).cells (Bo z2);obtain ⟨f,g,i,j⟩:=hr.newList b t d.cells e;refine ⟨f,.pointer (some ⟨w.heap.size,0,none⟩),_,?_,.ptr h.nx 0 _ g,i,j⟩;simp only [Instr.alloc,Sem.run_bind,z1,Result.andThen_ok,newVar,newRow,run_newObj,Sem.run_pure]
omit hE in
theorem Z5 (hr:HR ρ h.blk.get w) (hf:ρ h.nx=none) {t:TypeId} {a:AV} {v:Value} (ha:VR ρ a v) (ht:a≠.top) :
  AP E ρ h (Bh h a.cells) w (Instr.box t v) (.ptr h.nx 0):=by
 obtain ⟨σ,s1,q1,q2⟩:=hr.newList hf t v.cells (ha.cells ht);refine ⟨σ,.pointer (some ⟨w.heap.size,0,none⟩),_,?_,.ptr h.nx 0 _ s1,q1,q2⟩;simp only [Instr.box,Sem.run_bind,Result.andThen_ok,newVar,newRow,run_newObj,Sem.run_pure]
theorem Le (hr:HR ρ h.blk.get w) {t:TypeId} {len:Nat} {r:List (Nat×AV)} {n:List (Nat×Value)} {a:AV} {h':Aa} (y:PL ρ r n) (c:EL E t len r h=some (a,h')) (hf:AG ρ h.nx h'.nx) :
  AP E ρ h h' w (Instr.buildSlice t len n.toArray) a:=by
 unfold EL at c;cases o:E.desc t with
 |none=>simp [o] at c
 |some d=>
  cases d with
  |slice e=>
   simp only [o] at c;cases p:Nat.ble (len*E.size e) 16777216 with
   |false=>simp [p] at c
   |true=>
    cases q:E.zero e with
    |none=>simp [p,q] at c
    |some z=>
     simp only [p,q] at c;cases k:Nat.beq z.cells.length (E.size e) with
     |false=>simp [k] at c
     |true=>
      simp only [k] at c;cases g:Fj (fun i=>some (i*E.size e,E.size e)) (Bz z.cells len) r with
      |none=>simp [g] at c
      |some cells=>
       simp only [g,Option.some.injEq,Prod.mk.injEq] at c;obtain ⟨rfl,rfl⟩:=c;have f:=Ay k;have A:=Cu p;obtain ⟨i,v,i1,i2,G⟩:=Gi q;have u:∀w,(sizeOf e).run E.P w=.ok (E.size e) w:=fun w=>by rw [hE.run_sz i1];simp [Env.size,i1]
       obtain ⟨x,z1,z2⟩:=hE.run_zero ρ q w;have B:=(AL ρ z2).cells (Bo z2);have l:ρ h.nx=none:=hf h.nx (Nat.le_refl _) (by simp [Bh,Aa.new])
       have h0:len*z.cells.length=0∨(if len*E.size e=0 then #[] else x.cells)=x.cells:=by
        rw [f];by_cases m:len*E.size e=0
        ·exact .inl m
        ·exact .inr (by rw [if_neg m])
       have b:=Eu B len (if len*E.size e=0 then #[] else x.cells) h0
       rw [f] at b;obtain ⟨j,o1,o2⟩:=Ij y b g;obtain ⟨σ,s1,q1,q2⟩:=hr.newList l e j o2
       have C:j.size=len*E.size e:=by
        have D:=IU g;rw [Ce,f] at D;have F:=o2.1;simp at F;omega
       refine ⟨σ,.slice (some ⟨w.heap.size,0,none⟩) len len,_,?_,?_,q1,q2⟩
       ·simp only [Instr.buildSlice,Sem.run_bind,hE.run_und o,Result.andThen_ok,u];rw [if_neg (by omega)]
        by_cases m:len*E.size e=0
        ·simp only [m,if_true] at o1;simp only [m,if_true,Sem.run_bind,Sem.run_pure,Result.andThen_ok];rw [o1];simp only [newRow,Sem.run_bind,run_newObj,Result.andThen_ok,Sem.run_pure]
        ·rw [if_neg m] at o1;rw [if_neg m];simp only [Sem.run_bind,z1,Sem.run_pure,Result.andThen_ok];rw [o1];simp only [newRow,Sem.run_bind,run_newObj,Result.andThen_ok,Sem.run_pure]
       ·exact VR.slice h.nx 0 len (E.size e) len _ s1 (Nat.le_refl _) (by simp only [Nat.zero_add];omega)
  |_=>simp [o] at c
theorem MU (hr:HR ρ h.blk.get w) {t:TypeId} {l c a:AV} {D F:Value} {h':Aa} (H:VR ρ l D) (x:VR ρ c F) (g:HL E t l c h=some (a,h')) (hf:AG ρ h.nx h'.nx) :
  AP E ρ h h' w (Instr.makeSlice t D F) a:=by
 unfold HL at g;cases p:E.desc t with
 |none=>simp [p] at g
 |some d=>
  cases q:CS l with
  |none=>cases d<;>simp [p,q] at g
  |some n=>
   cases u:CS c with
   |none=>cases d<;>simp [p,q,u] at g
   |some m=>
    obtain ⟨k1,rfl⟩:=B0 H q;obtain ⟨k2,rfl⟩:=B0 x u;cases d with
    |slice e=>
     simp only [p,q,u] at g;cases hi:E.ty.get e with
     |none=>simp [hi] at g
     |some b=>
      simp only [hi] at g;cases y:E.zero e with
      |none=>simp [y] at g
      |some z=>
       simp only [y] at g;cases A:(Nat.beq n m&&Nat.ble n 1048576&&Nat.ble (b.bytes*n) 140737488355328&&Nat.beq z.cells.length b.size) with
       |false=>simp [A] at g
       |true=>
        simp only [A,Option.some.injEq,Prod.mk.injEq] at g;obtain ⟨rfl,rfl⟩:=g;obtain ⟨r,c4⟩:=An A;obtain ⟨c12,c3⟩:=An r;obtain ⟨c1,c2⟩:=An c12;have I:=Ay c1;have K:=Cu c2;have L:=Cu c3;have G:=Ay c4;subst I;obtain ⟨B,z1,z2⟩:=hE.run_zero ρ y w;have J:=(AL ρ z2).cells (Bo z2);have i:ρ h.nx=none:=hf h.nx (Nat.le_refl _) (by simp [Bh,Aa.new])
        have h0:n*z.cells.length=0∨(if n*b.size=0 then #[] else B.cells)=B.cells:=by
         rw [G];by_cases j:n*b.size=0
         ·exact .inl j
         ·exact .inr (by rw [if_neg j])
        have f:=Eu J n (if n*b.size=0 then #[] else B.cells) h0
        rw [G] at f;obtain ⟨σ,s1,q1,q2⟩:=hr.newList i e _ f;have k:=FH n (by omega)
        refine ⟨σ,.slice (some ⟨w.heap.size,0,none⟩) n n,_,?_,?_,q1,q2⟩
        ·simp only [Instr.makeSlice,Sem.run_bind,hE.run_und p,Result.andThen_ok,asInt,asIntOf,Sem.run_pure,hE.run_info hi,k]
         have C:¬((b.bytes:Int)*(n:Int)>2^48):=by
          have:((b.bytes*n:Nat):Int)≤140737488355328:=by omega
          rw [Int.natCast_mul] at this;omega
         have o:(decide ((n:Int)<0)||decide ((b.bytes:Int)*(n:Int)>2^48)||decide ((n:Int)<0)||decide ((n:Int)>(n:Int)))=false:=by
          rw [decide_eq_false C,decide_eq_false (show ¬((n:Int)<0) by omega),decide_eq_false (show ¬((n:Int)>(n:Int)) by omega)]
          rfl
         rw [if_neg (by rw [o];exact Bool.false_ne_true)]
         simp only [Sem.run_bind,run_askRoom,Result.andThen_ok,Int.toNat_natCast,hE.run_sz hi];by_cases j:n*b.size=0
         ·rw [if_pos j];simp only [Sem.run_bind,Sem.run_pure,Result.andThen_ok,newRow,run_newObj,if_pos j]
         ·rw [if_neg j];simp only [Sem.run_bind,z1,Sem.run_pure,Result.andThen_ok,newRow,run_newObj,if_neg j]
        ·exact VR.slice h.nx 0 n b.size n _ s1 (Nat.le_refl _) (by simp)
    |_=>simp [p,q,u] at g
end
end Go.AE
namespace Go.AE
variable [Gl:AH]
variable [U:Unk]
theorem HR.strike {ρ:Ren} {h:Aa} {w:World} (hr:HR ρ h.blk.get w) (b:Nat):HR ρ (h.strike b).blk.get w∧Ext ρ ρ h (h.strike b) w w:=by
 refine ⟨hr.restrict fun c=>?_,⟨Ren.le_refl ρ,Nat.le_refl _,fun _ _ e=>.inl e,GH.refl w,fun _ _ _=>rfl,⟨[b],rfl,?_⟩,?_,fun _ _ e=>.inl e⟩⟩
 ·simp only [Aa.strike,T.get_del];by_cases e:b=c
  ·exact .inl (by rw [if_pos e])
  ·exact .inr (by rw [if_neg e])
 ·intro c l _;simp only [Aa.strike,T.get_del];rw [if_neg (fun e=>l (by simp [e]))]
 ·intro c l;simp only [Aa.strike,T.get_del] at l;by_cases e:b=c
  ·rw [if_pos e] at l;exact absurd rfl l
  ·rw [if_neg e] at l;exact .inl l
theorem HR.move {ρ:Ren} {h:Aa} {w:World} (hr:HR ρ h.blk.get w) {b:Nat} {base base':Br} (hb:ρ b=some base) (hl:h.blk.get b≠none) (hf:ρ h.nx=none) (ab:base'.cb=base.cb) (x:Ag)
  (w':World) (hx:BR (ρ.upd h.nx base') x base' w'.heap[base.cb]?) (ar:w'.heap.size=w.heap.size) (al:∀k,k≠base.cb→w'.heap[k]?=w.heap[k]?) (bm:w'.os=w.os) (ht:w'.tape=w.tape) (ho:w'.output=w.output) :
  HR (ρ.upd h.nx base') ((h.strike b).new x).blk.get w'∧Ext ρ (ρ.upd h.nx base') h ((h.strike b).new x) w w':=by
 have av:=Ren.le_upd hf base';have bs:b≠h.nx:=by rintro rfl;rw [hf] at hb;cases hb
 have t:∀c d,ρ.upd h.nx base' c=some d→(c=h.nx∧d=base')∨(c≠h.nx∧ρ c=some d):=by
  intro c d l;simp only [Ren.upd] at l;by_cases e:c=h.nx
  ·rw [if_pos e] at l;exact .inl ⟨e,by simpa using l.symm⟩
  ·rw [if_neg e] at l;exact .inr ⟨e,l⟩
 have get:∀c,((h.strike b).new x).blk.get c=if h.nx=c then some x else if b=c then none else h.blk.get c:=by
  intro c;simp only [Aa.new,Aa.strike,T.get_set,T.get_del]
 refine ⟨⟨?_,?_,?_,?_,?_,hr.glob⟩,⟨av,Nat.le_succ _,?_,⟨bm,ht,ho,by omega⟩,?_,⟨[b],rfl,?_⟩,?_,fun _ _ e=>.inl e⟩⟩
 ·intro c d l;rcases t c d l with ⟨_,rfl⟩|⟨_,I⟩
  ·rw [ab,ar];exact hr.lt b base hb
  ·rw [ar];exact hr.lt c d I
 ·intro c d y l hy;rw [get] at hy;rcases t c d l with ⟨rfl,rfl⟩|⟨J,I⟩
  ·rw [if_pos rfl] at hy;cases hy;rw [ab];exact hx
  ·rw [if_neg (fun e=>J e.symm)] at hy
   by_cases e:b=c
   ·rw [if_pos e] at hy;cases hy
   ·rw [if_neg e] at hy;rw [al _ (hr.apart c b d base (fun q=>e q.symm) I hb (by rw [hy];simp) hl)]
    exact (hr.blk c d y I hy).mono av
 ·have one:∀c d,c≠h.nx→ρ c=some d→((h.strike b).new x).blk.get c≠none→base'.cb≠d.cb:=by
   intro c d J I r;rw [get,if_neg (fun e=>J e.symm)] at r
   by_cases e:b=c
   ·rw [if_pos e] at r;exact absurd rfl r
   ·rw [if_neg e] at r;rw [ab];exact hr.apart b c base d e hb I hl r
  intro c c' d d' J l bd I r;rcases t c d l with ⟨rfl,rfl⟩|⟨hn,h3⟩
  ·rcases t c' d' bd with ⟨e,_⟩|⟨an,h4⟩
   ·exact absurd e.symm J
   ·exact one c' d' an h4 r
  ·rcases t c' d' bd with ⟨rfl,rfl⟩|⟨an,h4⟩
   ·exact (one c d hn h3 I).symm
   ·rw [get,if_neg (fun e=>hn e.symm)] at I
    rw [get,if_neg (fun e=>an e.symm)] at r
    by_cases e:b=c
    ·rw [if_pos e] at I;exact absurd rfl I
    ·by_cases e':b=c'
     ·rw [if_pos e'] at r;exact absurd rfl r
     ·rw [if_neg e] at I;rw [if_neg e'] at r;exact hr.apart c c' d d' J h3 h4 I r
 ·intro k arr hk;rw [al k (hr.off k arr b base hk hb hl).symm];exact hr.imm k arr hk
 ·intro k arr c d hk l r;rcases t c d l with ⟨rfl,rfl⟩|⟨hn,h3⟩
  ·rw [ab];exact hr.off k arr b base hk hb hl
  ·rw [get,if_neg (fun e=>hn e.symm)] at r
   by_cases e:b=c
   ·rw [if_pos e] at r;exact absurd rfl r
   ·rw [if_neg e] at r;exact hr.off k arr c d hk h3 r
 ·intro c d l;rcases t c d l with ⟨rfl,rfl⟩|⟨_,I⟩
  ·exact .inr ⟨Nat.le_refl _,Nat.lt_succ_self _,.inr ⟨b,base,hb,hl,ab.symm⟩⟩
  ·exact .inl I
 ·intro k hk hn;exact al k (fun e=>hn b base hb hl e.symm)
 ·intro c l bn;rw [get,if_neg (by simp only [Aa.new,Aa.strike] at bn;omega),if_neg (fun e=>l (by simp [e]))]
 ·intro c l;rw [get] at l;by_cases e:h.nx=c
  ·exact .inr ⟨by omega,by simp only [Aa.new,Aa.strike];omega⟩
  ·rw [if_neg e] at l;by_cases e':b=c
   ·rw [if_pos e'] at l;exact absurd rfl l
   ·rw [if_neg e'] at l;exact .inl l
theorem Ext.drawn {ρ t:Ren} {h h':Aa} {w w1 I:World} (e:Ext ρ t h h' w1 I) (l:w1.heap=w.heap) (r:w1.os=w.os) (J:w1.tape=w.tape) (ho:w1.output=w.output):Ext ρ t h h' w I:=
 ⟨e.le,e.nx,l▸e.new,⟨e.calm.os.trans r,e.calm.tape.trans J,e.calm.output.trans ho,l▸e.calm.size⟩,l▸e.kept,e.log,e.live,l▸e.imm⟩
theorem AC (P:Program) (w:World) (b o k:Nat) (a:Array Value) (e:TypeId) (f:Nat×Nat) (g:w.heap[b]?=some (.cells a e f)) (i:o+k≤a.size) :
  (Go.loadCells ⟨b,o,none⟩ k).run P w=.ok ((a.toList.drop o).take k).toArray w:=by
 have h:((a.toList.drop o).take k).length=k:=by simp;omega
 have:=CZ (w:=w) P b o ((a.toList.drop o).take k) 0 #[] (by
  intro j v d;rw [List.getElem?_take] at d;by_cases c:j<k
  ·rw [if_pos c] at d;simp only [List.getElem?_drop,Array.getElem?_toList] at d;simp [World.cell?,g,d]
  ·rw [if_neg c] at d;cases d)
 rw [h] at this;simpa [Go.loadCells] using this
theorem FY:∀(l:List UInt8),bytesOf l.length (AA l)=l.map fun b=>AV.int .u8 (b.toNat:Nat)
 |[]=>rfl
 |b::r=>by
  obtain ⟨a,c⟩:=D8 b r;simp only [List.length_cons,bytesOf,a,c,FY r,List.map_cons]
theorem QC (ρ:Ren) (l:List UInt8):VL ρ (l.map fun b=>AV.int .u8 (b.toNat:Nat)) (l.map fun b=>Value.int .u8 (b.toNat:Nat)):=by
 refine ⟨by simp,fun i a v c d=>?_⟩
 simp only [List.getElem?_map] at c d;cases e:l[i]? with
 |none=>simp [e] at c
 |some b=>
  simp only [e,Option.map_some,Option.some.injEq] at c d;subst c;subst d;exact .int _ _
section
variable {E:Env} (hE:OK E) {ρ:Ren} {h:Aa} {w:World}
theorem Tw (hr:HR ρ h.blk.get w) (P:Program) {i n m:Nat} {x:AV} {u:Value} {l:List AV} (C:VR ρ x u) (e:Gq x=some m) (M:n≤m) (d:Lx h i n x=some l) :
  ∃r:List Value,VL ρ l r∧l.length=n*i∧(Builtin.lenOf u).run P w=.ok m w∧∀g:World,g.heap=w.heap→(Builtin.firstCells i n u).run P g=.ok r.toArray g:=by
 cases C with
 |slice0=>
  simp only [Gq,Option.some.injEq] at e;simp only [Lx,Option.some.injEq] at d;subst d;have:n=0:=by omega
  subst this;exact ⟨[],VL.nil ρ,by simp,by simp [Builtin.lenOf,e.symm],fun g _=>by simp [Builtin.firstCells]⟩
 |slice b off k q D base F N O=>
  simp only [Gq,Option.some.injEq] at e;subst e;simp only [Lx] at d;cases f:Nat.beq i q with
  |false=>simp [f] at d
  |true=>
   simp only [f] at d;have:=Ay f;subst this;unfold BW at d;cases o:h.blk.get b with
   |none=>simp [o] at d
   |some y=>
    cases y with
    |cells z c=>
     simp only [o] at d;cases t:Nat.ble (off+n*i) z with
     |false=>simp [t] at d
     |true=>
      simp only [t] at d;have p:=(T.range_spec c _ _ _ d).1;obtain ⟨r,A,Q,G⟩:=hr.loadCells P F o (Cu t) d;refine ⟨r,A,p,by simp [Builtin.lenOf],fun g B=>?_⟩
      have H:HR ρ h.blk.get g:=hr.same B;have I:r.length=n*i:=by rw [←A.1,p]
      have J:=CZ (w:=g) P base.cb (base.co+off) r 0 #[] (fun j v K=>by
       have:=G j v K;simp only [Nat.zero_add];rw [←this];simp [World.cell?,B])
      simp only [Builtin.firstCells,Go.loadCells];rw [←I,J];simp
    |_=>simp [o] at d
 |sliceEnd b off q a=>
  simp only [Gq,Option.some.injEq] at e;have:n=0:=by omega
  subst this;simp only [Lx] at d;cases f:Nat.beq i q with
  |false=>simp [f] at d
  |true=>
   simp only [f,Nat.zero_mul] at d
   have L:l=[]:=by
    unfold BW at d;cases o:h.blk.get b with
    |none=>simp [o] at d
    |some y=>
     cases y with
     |cells z c=>
      simp only [o] at d;cases t:Nat.ble (off+0) z with
      |false=>simp only [t] at d;cases d
      |true=>simp only [t,T.range,Option.some.injEq] at d;exact d.symm
     |_=>simp [o] at d
   subst L;exact ⟨[],VL.nil ρ,by simp,by simp [Builtin.lenOf,e.symm],fun g _=>by simp [Builtin.firstCells,Go.loadCells,loadCellsFrom]⟩
 |str s=>
  simp only [Gq,Option.some.injEq] at e;simp only [Lx] at d;cases f:Nat.beq i 1 with
  |false=>simp [f] at d
  |true=>
   simp only [f,Option.some.injEq] at d;have:=Ay f;subst this;subst d;rw [FY];refine ⟨(s.data.toList.map fun b=>Value.int .u8 (b.toNat:Nat)).take n,(QC ρ _).take n,by simp at e ⊢;omega,by simp [Builtin.lenOf];simpa using e,fun g _=>?_⟩
   simp only [Builtin.firstCells,Sem.run_pure]
   congr 1
   apply Array.ext';simp [ByteArray.data_extract]
 |_=>simp [Gq] at e
end
end Go.AE
namespace Go.AE
variable [Gl:AH]
variable [U:Unk]
section
variable {P:Program} {w:World}
inductive Vx (P:Program) (w:World) (t' e:TypeId) (inf:TypeInfo) (xv:Value) (m:Nat) (nv:List Value):Prop
 |cells (d:TypeDesc) (hu:P.underlying t'=some d) (hd:(∃e',d=.slice e')∨d=.string) (hl:(Builtin.lenOf xv).run P w=.ok m w)
   (hf:∀w':World,w'.heap=w.heap→(Builtin.firstCells inf.size m xv).run P w'=.ok nv.toArray w')
 |zeros (k k':IntKind) (hu:P.underlying t'=some (.int k)) (hx:xv=.int k' (m:Int)) (hm:m≤1048576) (hb:m*inf.bytes≤140737488355328)
   (z:Value) (hz:inf.zero=some z) (hzs:z.cells.size=inf.size) (hn:nv.toArray=Builtin.zeroCells z.cells m)
theorem CT (t l ty e:TypeId) (b:TypeInfo) (x:P.underlying t=some (.slice e)) (hi:P.info? e=some b) (y:Value) (m:Nat) (nv:List Value) (B:Vx P w l e b y m nv)
  (base:Option Addr) (c f:Nat) (g:c+m≤f) :
  (Builtin.append_ #[t,l] ty #[.slice base c f,y]).run P w =
   ((match base with|some a=>storeCells (a.add (c*b.size)) nv|none=>pure ()).run P w).andThen fun _ C=>.ok (.slice base (c+m) f) C:=by
 cases B with
 |cells d n D E F=>
  have o:=F w rfl;have p:(underlying l).run P w=.ok d w:=by simp [underlying,n]
  have q:(underlying t).run P w=.ok (.slice e) w:=by simp [underlying,x]
  have r:(sizeOf e).run P w=.ok b.size w:=by simp [sizeOf,typeInfo,hi]
  unfold Builtin.append_
  rcases D with ⟨L,rfl⟩|rfl<;>
   simp only [List.getElem?_toArray,List.getElem?_cons_zero,List.getElem?_cons_succ,Sem.run_bind,q,Result.andThen_ok,r,p,Bool.false_eq_true,if_false,E,if_pos g,Bool.not_false,if_true,o,Sem.run_pure]<;>
   cases base<;>simp
 |zeros k M n G N O z H s A=>
  subst G;have I:=FH m (by omega)
  have h0:¬((m:Int)<0):=by omega
  have u:¬((m:Int)*(b.bytes:Int)>2^48):=by
   have:((m*b.bytes:Nat):Int)≤140737488355328:=by omega
   rw [Int.natCast_mul] at this;omega
  have p:(underlying l).run P w=.ok (.int k) w:=by simp [underlying,n]
  have q:(underlying t).run P w=.ok (.slice e) w:=by simp [underlying,x]
  have r:(sizeOf e).run P w=.ok b.size w:=by simp [sizeOf,typeInfo,hi]
  have J:(typeInfo e).run P w=.ok b w:=by simp [typeInfo,hi]
  have K:(zeroValue e).run P w=.ok z w:=by simp [zeroValue,typeInfo,hi,H]
  have i:nv=[]∨m*b.size≠0:=by
   by_cases j:m*b.size=0
   ·left;have:nv.toArray.size=0:=by rw [A];simp [Builtin.zeroCells,s,j]
    simpa using this
   ·exact .inr j
  unfold Builtin.append_;simp only [List.getElem?_toArray,List.getElem?_cons_zero,List.getElem?_cons_succ,Sem.run_bind,q,Result.andThen_ok,r,p,Sem.run_pure,if_true,asInt,asIntOf,I,if_neg h0,J,if_neg u,Int.toNat_natCast,if_pos g,Bool.not_true,Bool.false_eq_true,if_false];by_cases j:m*b.size=0
  ·have v:nv=[]:=by
    rcases i with h|h
    ·exact h
    ·exact absurd j h
   subst v;rw [if_pos j];cases base<;>simp [storeCells]
  ·rw [if_neg j];simp only [Sem.run_bind,K,Result.andThen_ok,Sem.run_pure,←A];cases base<;>simp
theorem DE (t s ty e:TypeId) (c:TypeInfo) (K:P.underlying t=some (.slice e)) (hi:P.info? e=some c) (z:Value) (o:c.zero=some z) (F:Value) (m:Nat) (nv:List Value) (L:Vx P w s e c F m nv)
  (base:Option Addr) (a b:Nat) (i:b<a+m) (M:a+m≤4611686018427387904) (u:(a+m)*c.bytes≤140737488355328) (ov:Array Value)
  (G:∀v:World,v.heap=w.heap→(Builtin.firstCells c.size a (.slice base a b)).run P v=.ok ov v) :
  ∃j,a+m≤j∧(Builtin.append_ #[t,s] ty #[.slice base a b,F]).run P w =
   .ok (.slice (some ⟨w.heap.size,0,none⟩) (a+m) j) {w with drawn:=w.drawn+1,heap:=w.heap.push (.cells (ov++nv.toArray++Builtin.zeroCells z.cells (j-(a+m))) e)}:=by
 refine ⟨grownCap w (a+m) b e,grownCap_ge w _ _ _,?_⟩;have p:¬(a+m≤b):=by omega
 have f:¬(((a+m:Nat):Int)>IntKind.i64.max):=by simp only [IntKind.max,IntKind.signed,IntKind.bits];omega
 have g:¬(Builtin.nextslicecap (a+m) b*c.bytes>2^48):=by have:=growslice_fits i u;omega
 have l:({w with drawn:=w.drawn+1}:World).heap=w.heap:=rfl
 have H:∀w:World,(underlying t).run P w=.ok (.slice e) w:=fun w=>by simp [underlying,K]
 have I:∀w:World,(sizeOf e).run P w=.ok c.size w:=fun w=>by simp [sizeOf,typeInfo,hi]
 have n:∀w:World,(typeInfo e).run P w=.ok c w:=fun w=>by simp [typeInfo,hi]
 have x:∀w:World,(zeroValue e).run P w=.ok z w:=fun w=>by simp [zeroValue,typeInfo,hi,o]
 have q:(choose (.appendCap (a+m) b e)).run P w=.ok (grownCap w (a+m) b e) {w with drawn:=w.drawn+1}:=by simp [Question.forced,grownCap]
 cases L with
 |cells d y N O Q=>
  have A:(underlying s).run P w=.ok d w:=by simp [underlying,y]
  unfold Builtin.append_;rcases N with ⟨T,rfl⟩|rfl
  all_goals
   simp only [List.getElem?_toArray,List.getElem?_cons_zero,List.getElem?_cons_succ,Sem.run_bind,H,Result.andThen_ok,I,A,Bool.false_eq_true,if_false,O,if_neg p,Bool.not_false,if_true,n,Sem.run_pure];rw [if_neg (fun h=>f h.1)]
   simp only [Sem.run_bind,n,Result.andThen_ok];rw [if_neg g];simp only [Sem.run_bind,q,Result.andThen_ok,n,run_askRoom,G _ l,Q _ l,x,newRow,run_newObj,Sem.run_pure]
 |zeros k V y R W X Y r B J=>
  subst R;rw [o] at r;cases r;have S:=FH m (by omega)
  have h0:¬((m:Int)<0):=by omega
  have C:¬((m:Int)*(c.bytes:Int)>2^48):=by
   have:((m*c.bytes:Nat):Int)≤140737488355328:=by omega
   rw [Int.natCast_mul] at this;omega
  have A:(underlying s).run P w=.ok (.int k) w:=by simp [underlying,y]
  unfold Builtin.append_;simp only [List.getElem?_toArray,List.getElem?_cons_zero,List.getElem?_cons_succ,Sem.run_bind,H,Result.andThen_ok,I,A,Sem.run_pure,if_true,asInt,asIntOf,S,if_neg h0,n,if_neg C,Int.toNat_natCast,if_neg p,Bool.not_true,Bool.false_eq_true,if_false];rw [if_neg (fun h=>f h.1)]
  simp only [Sem.run_bind,n,Result.andThen_ok];rw [if_neg g];simp only [Sem.run_bind,q,Result.andThen_ok,n,run_askRoom,G _ l];by_cases D:m*c.size=0
  ·rw [if_pos D]
   have E:nv.toArray = #[]:=by
    rw [J];apply Array.eq_empty_of_size_eq_zero;simp [Builtin.zeroCells,B,D]
   simp only [Sem.run_pure,Result.andThen_ok,Sem.run_bind,x,newRow,run_newObj,E]
  ·rw [if_neg D];simp only [Sem.run_pure,Result.andThen_ok,Sem.run_bind,x,newRow,run_newObj,J]
end
end Go.AE
namespace Go.AE
variable [Gl:AH]
variable [U:Unk]
section
variable {E:Env} (hE:OK E) {ρ:Ren} {h:Aa} {w:World}
include hE
omit hE in
theorem It (hr:HR ρ h.blk.get w) (hf:ρ h.nx=none) (e:TypeId) {news olds:List AV} {nv ov:List Value} (hn:VL ρ news nv) (k sLen m cap es:Nat) (hov:ov.length=k) {c:T AV}
  (hc:∀i a,i<k+news.length→c.get i=some a→(∃v,i<k∧ov[i]?=some v∧VR ρ a v)∨(k≤i∧news[i-k]?=some a))
  (rest:Array Value) (hsz:(sLen+m)*es=k+news.length) (hrest:rest.size=(cap-(sLen+m))*es) (hcap:sLen+m≤cap) :
  ∃σ,HR σ (h.new (.cells (k+news.length) c)).blk.get {w with drawn:=w.drawn+1,heap:=w.heap.push (.cells (ov.toArray++nv.toArray++rest) e)}∧
   Ext ρ σ h (h.new (.cells (k+news.length) c)) w {w with drawn:=w.drawn+1,heap:=w.heap.push (.cells (ov.toArray++nv.toArray++rest) e)}∧
   VR σ (.slice h.nx 0 (sLen+m) es) (.slice (some ⟨w.heap.size,0,none⟩) (sLen+m) cap):=by
 have hnl:=hn.1;have hr1:HR ρ h.blk.get {w with drawn:=w.drawn+1}:=hr.same rfl
 have hasz:(ov.toArray++nv.toArray++rest).size=cap*es:=by
  simp only [Array.size_append,List.size_toArray,hov,←hnl,hrest];have:cap*es=(sLen+m)*es+(cap-(sLen+m))*es:=by rw [←Nat.add_mul];congr 1;omega
  omega
 obtain ⟨σ,s1,q1,q2⟩:=hr1.newRow hf e (n:=k+news.length) (c:=c) (ov.toArray++nv.toArray++rest) (by
  simp only [Array.size_append,List.size_toArray,hov,←hnl];omega) (by
  intro i a hi ha;rcases hc i a hi ha with ⟨v,h1,h2,h3⟩|⟨h1,h2⟩
  ·exact ⟨v,by rw [Array.append_assoc,Array.getElem?_append_left (by simp;omega)];simpa using h2,h3⟩
  ·obtain ⟨v,hv,hvr⟩:=hn.get h2;refine ⟨v,?_,hvr⟩;rw [Array.getElem?_append_left (by simp;omega),Array.getElem?_append_right (by simp;omega)]
   simpa [hov] using hv)
 refine ⟨σ,q1,Ext.drawn q2 rfl rfl rfl rfl,?_⟩;have hv:=VR.slice (ρ:=σ) h.nx 0 (sLen+m) es cap _ s1 hcap (by simp only [Nat.zero_add];omega)
 exact hv
theorem JY (hr:HR ρ h.blk.get w) {t D ty e:TypeId} {d:TypeInfo} (N:E.P.underlying t=some (.slice e)) (hi:E.ty.get e=some d) {z:AV} (hz:E.zero e=some z) (af:z.cells.length=d.size) {s a:AV} {sv F:Value} {m:Nat} {news:List AV} {nv:List Value} {h':Aa}
  (hs:VR ρ s sv) (g:Vx E.P w D e d F m nv) (hn:VL ρ news nv) (hnl:news.length=m*d.size) (ha:Cy d s m news h=some (a,h')) (hf:AG ρ h.nx h'.nx) :
  AP E ρ h h' w (Builtin.append_ #[t,D] ty #[sv,F]) a:=by
 obtain ⟨i',I,i1,i2,i3⟩:=Gi hz;rw [hi] at i1;cases i1;have j:=hE.ty e d hi
 have J:I.cells.size=d.size:=by
  have:=((AL ρ i3).cells (Bo i3)).1;simp at this;omega
 cases hs with
 |slice0=>
  simp only [Cy] at ha;cases hc:(Nat.ble m 4611686018427387904&&Nat.ble (m*d.bytes) 140737488355328) with
  |false=>simp [hc] at ha
  |true=>
   simp only [hc] at ha;obtain ⟨c1,c2⟩:=An hc;have d1:=Cu c1;have d2:=Cu c2;cases m with
   |zero=>
    simp only [Option.some.injEq,Prod.mk.injEq] at ha;obtain ⟨rfl,rfl⟩:=ha;refine Az hr ⟨.slice none 0 0,?_,.slice0⟩;rw [CT t D ty e d N j F 0 nv g none 0 0 (by omega)]
    rfl
   |succ m=>
    simp only [Option.some.injEq,Prod.mk.injEq] at ha;obtain ⟨rfl,rfl⟩:=ha;have f:ρ h.nx=none:=hf h.nx (Nat.le_refl _) (by simp [Bh,Aa.new])
    obtain ⟨cap,k1,k2⟩:=DE t D ty e d N j I i2 F (m+1) nv g none 0 0 (by omega) (by omega) (by simpa using d2) #[] (fun K _=>by simp [Builtin.firstCells])
    obtain ⟨σ,q1,q2,G⟩:=It hr f e (olds:=[]) (ov:=[]) hn 0 0 (m+1) cap d.size rfl (c:=.ofList news) (by
     intro i a hi ha;rw [T.get_ofList] at ha;exact .inr ⟨Nat.zero_le _,by simpa using ha⟩) (Builtin.zeroCells I.cells (cap-(0+(m+1)))) (by simp [hnl]) (by simp [Builtin.zeroCells,J]) k1
    simp only [Nat.zero_add] at q1 q2 G k2;exact ⟨σ,_,_,k2,G,q1,q2⟩
 |slice b off n es cap base Y hcap Z=>
  simp only [Cy] at ha;cases hc:(Nat.beq d.size es&&En news&&Nat.ble (n+m) 4611686018427387904&&Nat.ble ((n+m)*d.bytes) 140737488355328) with
  |false=>simp [hc] at ha
  |true=>
   simp only [hc] at ha;obtain ⟨A,c4⟩:=An hc;obtain ⟨c12,c3⟩:=An A;obtain ⟨c1,c2⟩:=An c12;have d1:=Ay c1;have d3:=Cu c3;have d4:=Cu c4;subst d1;cases m with
   |zero=>
    simp only [Option.some.injEq,Prod.mk.injEq] at ha;obtain ⟨rfl,rfl⟩:=ha
    have S:nv=[]:=by
     have x:=hn.1;rw [hnl] at x;simpa using x.symm
    subst S;refine Az hr ⟨.slice (some ⟨base.cb,base.co+off,none⟩) n cap,?_,.slice b off n d.size cap base Y hcap Z⟩;rw [CT t D ty e d N j F 0 [] g _ n cap (by omega)]
    simp [storeCells]
   |succ m=>
    simp only [] at ha;cases r:h.blk.get b with
    |none=>simp [r] at ha
    |some y=>
     cases y with
     |cells O c=>
      simp only [r] at ha
      have B:∃H,a=.slice h.nx 0 (n+(m+1)) d.size∧h'=(h.strike b).new (.cells (n*d.size+news.length) H)∧off+n*d.size≤O∧
        ∀i a,i<n*d.size+news.length→H.get i=some a→(i<n*d.size∧c.get (off+i)=some a)∨(n*d.size≤i∧news[i-n*d.size]?=some a):=by
       cases W:(Nat.beq off 0&&Nat.beq (n*d.size) O) with
       |true=>
        simp only [W,Option.some.injEq,Prod.mk.injEq] at ha;obtain ⟨rfl,rfl⟩:=ha;obtain ⟨Q,L⟩:=An W;have x:=Ay Q;have e2:=Ay L;subst x;refine ⟨_,rfl,rfl,by omega,?_⟩
        intro i a hi ha;rw [Fw] at ha;by_cases c:n*d.size≤i∧i<n*d.size+news.length
        ·rw [if_pos c] at ha;exact .inr ⟨c.1,ha⟩
        ·rw [if_neg c] at ha;exact .inl ⟨by omega,by simpa using ha⟩
       |false=>
        simp only [W] at ha;cases o:BW h b off (n*d.size) with
        |none=>simp [o] at ha
        |some olds=>
         simp only [o,Option.some.injEq,Prod.mk.injEq] at ha;obtain ⟨rfl,rfl⟩:=ha;unfold BW at o;simp only [r] at o;cases p:Nat.ble (off+n*d.size) O with
         |false=>simp [p] at o
         |true=>
          simp only [p] at o;obtain ⟨l1,l2⟩:=T.range_spec c _ _ _ o;refine ⟨_,rfl,rfl,Cu p,?_⟩;intro i a hi ha;rw [T.get_ofList] at ha;by_cases c:i<n*d.size
          ·rw [List.getElem?_append_left (by omega)] at ha
           exact .inl ⟨c,by rw [l2 i c];exact ha⟩
          ·rw [List.getElem?_append_right (by omega),l1] at ha
           exact .inr ⟨by omega,ha⟩
      clear ha;obtain ⟨H,rfl,rfl,aa,M⟩:=B;have f:ρ h.nx=none:=hf h.nx (Nat.le_refl _) (by simp [Aa.new,Aa.strike])
      obtain ⟨q,x,fz,r1,X,r3,r4,r5⟩:=hr.blk b base _ Y r;have R:nv.length=(m+1)*d.size:=by rw [←hn.1,hnl]
      have ae:n*d.size≤cap*d.size:=Nat.mul_le_mul_right _ hcap;by_cases u:n+(m+1)≤cap
      ·
       have ab:(n+(m+1))*d.size≤cap*d.size:=Nat.mul_le_mul_right _ u;rw [Nat.add_mul] at ab;obtain ⟨K,ac,q1,q2,G,q4,q5,q6,q7,q8,q9⟩:=Cb E.P base.cb (base.co+off+n*d.size) x fz nv 0 w q r1 (by rw [R,X];omega) (by rw [X];exact r4) (Hq c2 hn)
       have hx:BR (ρ.upd h.nx ⟨base.cb,base.co+off,base.csz⟩) (.cells (n*d.size+news.length) H) ⟨base.cb,base.co+off,base.csz⟩ K.heap[base.cb]?:=by
        refine ⟨ac,x,fz,q2,by rw [G,X],?_,r4,?_⟩
        ·show base.co+off+(n*d.size+news.length)≤base.csz;rw [hnl];omega
        ·intro i a hi ha;rw [q4];simp only [Nat.add_zero];rcases M i a hi ha with ⟨Q,L⟩|⟨Q,L⟩
         ·rw [if_neg (by omega)]
          obtain ⟨v,hv,hvr⟩:=r5 (off+i) a (by omega) L
          exact ⟨v,by rw [←hv];congr 1;omega,hvr.mono (Ren.le_upd f _)⟩
         ·rw [if_pos (by rw [R,←hnl];omega)]
          obtain ⟨v,hv,hvr⟩:=hn.get L;exact ⟨v,by rw [←hv];congr 1;omega,hvr.mono (Ren.le_upd f _)⟩
       obtain ⟨p1,p2⟩:=hr.move Y (by rw [r];simp) f (base':=⟨base.cb,base.co+off,base.csz⟩) rfl _ K hx q5 q6 q7 q8 q9
       refine ⟨_,.slice (some ⟨base.cb,base.co+off,none⟩) (n+(m+1)) cap,K,?_,?_,p1,p2⟩
       ·rw [CT t D ty e d N j F (m+1) nv g _ n cap u];simp only [BT];rw [q1];rfl
       ·have:=VR.slice (ρ:=ρ.upd h.nx ⟨base.cb,base.co+off,base.csz⟩) h.nx 0 (n+(m+1)) d.size cap _ (Ren.upd_same _ _ _) u (by simp only [Nat.add_zero];omega)
        simpa using this
      ·
       have hov:=AC E.P
       obtain ⟨l,k1,k2⟩:=DE t D ty e d N j I i2 F (m+1) nv g (some ⟨base.cb,base.co+off,none⟩) n cap (by omega) (by omega) d4 ((q.toList.drop (base.co+off)).take (n*d.size)).toArray (fun K hw=>by
        simp only [Builtin.firstCells];exact AC E.P K base.cb (base.co+off) (n*d.size) q x fz (by rw [hw];exact r1) (by rw [X];omega))
       obtain ⟨p1,p2⟩:=hr.strike b;have C:((q.toList.drop (base.co+off)).take (n*d.size)).length=n*d.size:=by simp;omega
       obtain ⟨σ,q1,q2,G⟩:=It p1 f e (olds:=[]) (ov:=(q.toList.drop (base.co+off)).take (n*d.size)) hn (n*d.size) n (m+1) l d.size C (c:=H) (by
        intro i a hi ha;rcases M i a hi ha with ⟨Q,L⟩|⟨Q,L⟩
        ·obtain ⟨v,hv,hvr⟩:=r5 (off+i) a (by omega) L
         refine .inl ⟨v,Q,?_,hvr⟩;rw [List.getElem?_take,if_pos Q,List.getElem?_drop,Array.getElem?_toList,←hv]
         congr 1;omega
        ·exact .inr ⟨Q,L⟩) (Builtin.zeroCells I.cells (l-(n+(m+1)))) (by rw [hnl,Nat.add_mul]) (by simp [Builtin.zeroCells,J]) k1
       refine ⟨σ,_,_,k2,G,q1,p2.trans q2 ?_⟩;exact hf
     |_=>simp [r] at ha
 |fsl b off n es base Y Z=>
  simp only [Cy] at ha;cases hc:(Nat.beq d.size es&&Nat.ble (n+m) 4611686018427387904&&Nat.ble ((n+m)*d.bytes) 140737488355328) with
  |false=>simp [hc] at ha
  |true=>
   simp only [hc] at ha;obtain ⟨c12,c4⟩:=An hc;obtain ⟨c1,c3⟩:=An c12;have d1:=Ay c1;have d3:=Cu c3;have d4:=Cu c4;subst d1;cases m with
   |zero=>cases ha
   |succ m=>
    simp only [] at ha;cases r:h.blk.get b with
    |none=>simp [r] at ha
    |some y=>
     cases y with
     |cells O c=>
      simp only [r] at ha;cases o:BW h b off (n*d.size) with
      |none=>simp [o] at ha
      |some olds=>
       simp only [o,Option.some.injEq,Prod.mk.injEq] at ha;obtain ⟨rfl,rfl⟩:=ha;unfold BW at o;simp only [r] at o;cases p:Nat.ble (off+n*d.size) O with
       |false=>simp [p] at o
       |true=>
        simp only [p] at o;obtain ⟨l1,l2⟩:=T.range_spec c _ _ _ o;have aa:=Cu p;have f:ρ h.nx=none:=hf h.nx (Nat.le_refl _) (by simp [Aa.new])
        obtain ⟨q,x,fz,r1,X,r3,r4,r5⟩:=hr.blk b base _ Y r
        obtain ⟨l,k1,k2⟩:=DE t D ty e d N j I i2 F (m+1) nv g (some ⟨base.cb,base.co+off,none⟩) n n (by omega) (by omega) d4 ((q.toList.drop (base.co+off)).take (n*d.size)).toArray (fun K hw=>by
         simp only [Builtin.firstCells];exact AC E.P K base.cb (base.co+off) (n*d.size) q x fz (by rw [hw];exact r1) (by rw [X];omega))
        have C:((q.toList.drop (base.co+off)).take (n*d.size)).length=n*d.size:=by simp;omega
        obtain ⟨σ,q1,q2,G⟩:=It hr f e (olds:=[]) (ov:=(q.toList.drop (base.co+off)).take (n*d.size)) hn (n*d.size) n (m+1) l d.size C (c:=.ofList (olds++news)) (by
         intro i a hi ha;rw [T.get_ofList] at ha;by_cases V:i<n*d.size
         ·rw [List.getElem?_append_left (by omega)] at ha
          have h2:c.get (off+i)=some a:=by rw [l2 i V];exact ha
          obtain ⟨v,hv,hvr⟩:=r5 (off+i) a (by omega) h2
          refine .inl ⟨v,V,?_,hvr⟩;rw [List.getElem?_take,if_pos V,List.getElem?_drop,Array.getElem?_toList,←hv]
          congr 1;omega
         ·rw [List.getElem?_append_right (by omega),l1] at ha
          exact .inr ⟨by omega,ha⟩) (Builtin.zeroCells I.cells (l-(n+(m+1)))) (by rw [hnl,Nat.add_mul]) (by simp [Builtin.zeroCells,J]) k1
        exact ⟨σ,_,_,k2,G,q1,q2⟩
     |_=>simp [r] at ha
 |sliceEnd b off es ad=>
  simp only [Cy] at ha;cases hc:(Nat.beq d.size es&&En news&&Nat.ble (0+m) 4611686018427387904&&Nat.ble ((0+m)*d.bytes) 140737488355328) with
  |false=>simp only [hc] at ha;cases ha
  |true=>
   simp only [hc] at ha;obtain ⟨A,c4⟩:=An hc;obtain ⟨c12,c3⟩:=An A;obtain ⟨c1,c2⟩:=An c12;have d1:=Ay c1;have d3:=Cu c3;have d4:=Cu c4;subst d1;cases m with
   |zero=>
    simp only [Option.some.injEq,Prod.mk.injEq] at ha;obtain ⟨rfl,rfl⟩:=ha
    have S:nv=[]:=by
     have x:=hn.1;rw [hnl] at x;simpa using x.symm
    subst S;refine Az hr ⟨.slice (some ad) 0 0,?_,.sliceEnd b off d.size ad⟩;rw [CT t D ty e d N j F 0 [] g _ 0 0 (by omega)]
    simp [storeCells]
   |succ m=>
    simp only [] at ha;cases r:h.blk.get b with
    |none=>simp [r] at ha
    |some y=>
     cases y with
     |cells O c=>
      simp only [r] at ha
      have B:∃H,a=.slice h.nx 0 (0+(m+1)) d.size∧h'=(h.strike b).new (.cells (0*d.size+news.length) H)∧
        ∀i a,i<0+news.length→H.get i=some a→news[i]?=some a:=by
       cases W:(Nat.beq off 0&&Nat.beq (0*d.size) O) with
       |true=>
        simp only [W,Option.some.injEq,Prod.mk.injEq] at ha;obtain ⟨rfl,rfl⟩:=ha;refine ⟨_,rfl,rfl,?_⟩;intro i a hi ha;rw [Fw] at ha;rw [if_pos (by simp only [Nat.zero_mul];omega)] at ha
        simpa using ha
       |false=>
        simp only [W] at ha;cases o:BW h b off (0*d.size) with
        |none=>simp only [o] at ha;cases ha
        |some olds=>
         simp only [o,Option.some.injEq,Prod.mk.injEq] at ha;obtain ⟨rfl,rfl⟩:=ha
         have ho:olds=[]:=by
          unfold BW at o;simp only [r,Nat.zero_mul] at o;cases p:Nat.ble (off+0) O with
          |false=>simp only [p] at o;cases o
          |true=>simp only [p,T.range,Option.some.injEq] at o;exact o.symm
         subst ho;refine ⟨_,rfl,rfl,?_⟩;intro i a hi ha;rw [T.get_ofList] at ha;simpa using ha
      clear ha;obtain ⟨H,rfl,rfl,M⟩:=B;have f:ρ h.nx=none:=hf h.nx (Nat.le_refl _) (by simp [Aa.new,Aa.strike])
      obtain ⟨l,k1,k2⟩:=DE t D ty e d N j I i2 F (m+1) nv g (some ad) 0 0 (by omega) (by omega) d4 #[] (fun K hw=>by simp [Builtin.firstCells,Go.loadCells,loadCellsFrom])
      obtain ⟨p1,p2⟩:=hr.strike b
      obtain ⟨σ,q1,q2,G⟩:=It p1 f e (olds:=[]) (ov:=[]) hn 0 0 (m+1) l d.size rfl (c:=H) (by
       intro i a hi ha;exact .inr ⟨Nat.zero_le _,by simpa using M i a hi ha⟩) (Builtin.zeroCells I.cells (l-(0+(m+1)))) (by simp [hnl]) (by simp [Builtin.zeroCells,J]) k1
      simp only [Nat.zero_mul] at hf ⊢;exact ⟨σ,_,_,k2,G,q1,p2.trans q2 hf⟩
     |_=>simp [r] at ha
 |_=>simp [Cy] at ha
theorem LU (hr:HR ρ h.blk.get w) {t t' ty:TypeId} {s x a:AV} {B C:Value} {h':Aa} (H:VR ρ s B) (I:VR ρ x C) (ha:IN E t t' s x h=some (a,h')) (hf:AG ρ h.nx h'.nx) :
  AP E ρ h h' w (Builtin.append_ #[t,t'] ty #[B,C]) a:=by
 unfold IN at ha;cases r:E.desc t with
 |none=>simp [r] at ha
 |some d=>
  cases d with
  |slice e=>
   simp only [r] at ha;cases hi:E.ty.get e with
   |none=>simp [hi] at ha
   |some g=>
    simp only [hi] at ha;cases u:E.zero e with
    |none=>simp [u] at ha
    |some z=>
     simp only [u] at ha;cases l:Nat.beq z.cells.length g.size with
     |false=>simp [l] at ha
     |true=>
     simp only [l] at ha;have j:=Ay l
     have f:∀(o:TypeDesc),E.desc t'=some o→((∃D,o=.slice D)∨o=.string)→(match Gq x with
       |none=>none
       |some m=>match Lx h g.size m x with
        |none=>none
        |some news=>Cy g s m news h)=some (a,h')→AP E ρ h h' w (Builtin.append_ #[t,t'] ty #[B,C]) a:=by
      intro o b L y;cases F:Gq x with
      |none=>simp [F] at y
      |some m=>
       simp only [F] at y;cases p:Lx h g.size m x with
       |none=>simp [p] at y
       |some news=>
        simp only [p] at y;obtain ⟨S,M,N,O,Q⟩:=Tw hr E.P I F (Nat.le_refl m) p;exact JY hE hr (hE.und r) hi u j H (.cells o (hE.und b) L O Q) M N y hf
     cases b:E.desc t' with
     |none=>simp [b] at ha
     |some o=>
      cases o with
      |int k=>
       simp only [b] at ha;cases hn:CS x with
       |none=>simp [hn] at ha
       |some m=>
        simp only [hn] at ha;cases hc:(Nat.ble m 1048576&&Nat.ble (m*g.bytes) 140737488355328) with
        |false=>simp [hc] at ha
        |true=>
         simp only [hc] at ha;obtain ⟨c1,c2⟩:=An hc;obtain ⟨R,rfl⟩:=B0 I hn;obtain ⟨V,q,i1,i2,J⟩:=Gi u;rw [hi] at i1;cases i1;have K:=(AL ρ J).cells (Bo J);have A:q.cells.size=g.size:=by have:=K.1;simp at this;omega
         have hv:=Eu K m q.cells (.inr rfl)
         have G:((Array.range (m*z.cells.length)).map (q.cells[· % q.cells.size]!)).toList.toArray=Builtin.zeroCells q.cells m:=by
          rw [Array.toArray_toList,Builtin.zeroCells,A,j]
         refine JY hE hr (hE.und r) hi u j H (.zeros k R (hE.und b) rfl (Cu c1) (Cu c2) q i2 A G) hv (by rw [Ce,j]) ha hf
      |slice D=>simp only [b] at ha;exact f _ b (.inl ⟨D,rfl⟩) ha
      |string=>simp only [b] at ha;exact f _ b (.inr rfl) ha
      |_=>simp [b] at ha
  |_=>simp [r] at ha
theorem WA (hr:HR ρ h.blk.get w) {t t' ty:TypeId} {d x a:AV} {F s:Value} {h':Aa} (u:VR ρ d F) (H:VR ρ x s) (ha:Tp E t d x h=some (a,h')) (g:Array TypeId) (y:g[0]?=some t) :
  AP E ρ h h' w (Builtin.copy_ g ty #[F,s]) a:=by
 unfold Tp at ha;cases q:E.desc t with
 |none=>simp [q] at ha
 |some I=>
  cases I with
  |slice e=>
   simp only [q] at ha;cases hi:E.ty.get e with
   |none=>simp [hi] at ha
   |some j=>
    simp only [hi] at ha;cases hn:Gq d with
    |none=>simp [hn] at ha
    |some n=>
     cases z:Gq x with
     |none=>simp [hn,z] at ha
     |some m=>
      simp only [hn,z] at ha;cases A:Lx h j.size (min m n) x with
      |none=>simp [A] at ha
      |some l=>
       simp only [A] at ha;obtain ⟨J,B,G,K,L⟩:=Tw hr E.P H z (Nat.min_le_left _ _) A;have M:=L w rfl
       have f:∀(r:Option Addr) (cap:Nat),(Builtin.copy_ g ty #[.slice r n cap,s]).run E.P w =
         ((match r with|some a=>storeCells a J|none=>pure ()).run E.P w).andThen fun _ C=>.ok (goInt (min m n:Nat)) C:=by
        intro r cap;unfold Builtin.copy_;simp only [y,List.getElem?_toArray,List.getElem?_cons_zero,List.getElem?_cons_succ,Sem.run_bind,hE.run_und q,Result.andThen_ok,K,hE.run_sz hi];have:Nat.min m n=min m n:=rfl;rw [this,M];simp only [Result.andThen_ok];cases r<;>simp
       cases u with
       |slice0=>
        simp only [Gq,Option.some.injEq] at hn;subst hn;simp only [Option.some.injEq,Prod.mk.injEq] at ha;obtain ⟨rfl,rfl⟩:=ha;refine Az hr ⟨goInt (min m 0:Nat),by rw [f none 0];simp,?_⟩
        rw [Nat.min_zero];exact .int _ _
       |slice b off k es cap base N hcap S=>
        simp only [Gq,Option.some.injEq] at hn;subst hn;simp only [] at ha;cases p:Nat.beq j.size es with
        |false=>simp [p] at ha
        |true=>
         simp only [p] at ha;cases l with
         |nil=>
          simp only [Option.some.injEq,Prod.mk.injEq] at ha;obtain ⟨rfl,rfl⟩:=ha;have:=B.nil_inv;subst this;exact Az hr ⟨goInt (min m k:Nat),by rw [f];simp [storeCells],.int _ _⟩
         |cons O Q=>
          simp only [] at ha;cases o:storeN h b off (O::Q) with
          |none=>simp [o] at ha
          |some h2=>
           simp only [o,Option.some.injEq,Prod.mk.injEq] at ha;obtain ⟨rfl,rfl⟩:=ha;obtain ⟨C,q1,q2,R⟩:=hr.storeN E.P N B o;exact ⟨ρ,goInt (min m k:Nat),C,by rw [f];simp only [];rw [q1];rfl,.int _ _,q2,R⟩
       |sliceEnd b off es ad=>
        simp only [Gq,Option.some.injEq] at hn;subst hn;simp only [] at ha;cases p:Nat.beq j.size es with
        |false=>simp [p] at ha
        |true=>
         simp only [p] at ha
         have D:l=[]:=by
          rw [Nat.min_zero,Nat.zero_mul] at G;exact List.eq_nil_of_length_eq_zero G
         subst D;simp only [Option.some.injEq,Prod.mk.injEq] at ha;obtain ⟨rfl,rfl⟩:=ha;have:=B.nil_inv;subst this;exact Az hr ⟨goInt (min m 0:Nat),by rw [f];simp [storeCells],.int _ _⟩
       |_=>simp at ha
  |_=>simp [q] at ha
end
end Go.AE
namespace Go.AE
variable [Gl:AH]
variable [U:Unk]
section
variable {E:Env} (hE:OK E) {ρ:Ren} {w:World}
include hE
theorem Kb {d:Nat} (ih:∀(t:TypeId) (x y:AV) (r:Bool) (p q:Value),aeq E d t x y=some r→VR ρ x p→VR ρ y q→(Op.equalIn d t p q).run E.P w=.ok r w)
  {j k:List AV} {c e:List Value} (s:VL ρ j c) (u:VL ρ k e):∀{l:List Field} {r:Bool},eqFields E (aeq E d) j k l=some r→
  (Op.eqFields d c.toArray e.toArray l).run E.P w=.ok r w
 |[],r,h=>by simp only [eqFields,Option.some.injEq] at h;subst h;simp [Op.eqFields]
 |f::l,r,h=>by
  simp only [eqFields] at h;cases m:(f.name == "_") with
  |true=>simp [m] at h
  |false=>
   simp only [m] at h;have n:f.name≠ "_":=by simpa using m
   cases g:Cz E f.type j f.offset with
   |none=>simp [g] at h
   |some a=>
    cases o:Cz E f.type k f.offset with
    |none=>simp [g,o] at h
    |some b=>
     simp only [g,o] at h;obtain ⟨F,v,z⟩:=hE.run_part g s w;obtain ⟨G,A,B⟩:=hE.run_part o u w;cases i:aeq E d f.type a b with
     |none=>simp [i] at h
     |some C=>
      have D:=ih _ _ _ _ _ _ i z B;simp only [Op.eqFields,ne_eq,n,not_false_eq_true,if_true,Sem.run_bind,v,A,D,Result.andThen_ok];cases C with
      |true=>simp only [i] at h;simp only [Bool.not_true,Bool.false_eq_true,if_false];exact Kb ih s u h
      |false=>simp only [i,Option.some.injEq] at h;subst h;simp
theorem Mz {d:Nat} (ih:∀(t:TypeId) (x y:AV) (r:Bool) (p q:Value),aeq E d t x y=some r→VR ρ x p→VR ρ y q→(Op.equalIn d t p q).run E.P w=.ok r w)
  {l m:List AV} {c f:List Value} (s:VL ρ l c) (u:VL ρ m f) {e:TypeId} {n:Nat}:∀{k i:Nat} {r:Bool},Iz E (aeq E d) e n l m k i=some r→
  (Op.eqItems d e n c.toArray f.toArray (List.range' i k)).run E.P w=.ok r w
 |0,i,r,h=>by simp only [Iz,Option.some.injEq] at h;subst h;simp [Op.eqItems]
 |k+1,i,r,h=>by
  simp only [Iz] at h;cases g:Cz E e l (i*n) with
  |none=>simp [g] at h
  |some a=>
   cases o:Cz E e m (i*n) with
   |none=>simp [g,o] at h
   |some b=>
    simp only [g,o] at h;obtain ⟨F,v,z⟩:=hE.run_part g s w;obtain ⟨G,A,B⟩:=hE.run_part o u w;cases j:aeq E d e a b with
    |none=>simp [j] at h
    |some C=>
     have D:=ih _ _ _ _ _ _ j z B;simp only [List.range'_succ,Op.eqItems,Sem.run_bind,v,A,D,Result.andThen_ok];cases C with
     |true=>simp only [j] at h;simp only [Bool.not_true,Bool.false_eq_true,if_false];exact Mz ih s u h
     |false=>simp only [j,Option.some.injEq] at h;subst h;simp
set_option maxHeartbeats 1000000 in
theorem R6:∀(d:Nat) (t:TypeId) (x y:AV) (r:Bool) (p q:Value),aeq E d t x y=some r→VR ρ x p→VR ρ y q→(Op.equalIn d t p q).run E.P w=.ok r w:=by
 intro d
 induction d with
 |zero=>intro t x y r p q h;simp [aeq] at h
 |succ d ih=>
  intro t x y r p q h f c;simp only [aeq] at h;cases n:E.desc t with
  |none=>rw [n] at h;cases h
  |some I=>
   rw [n] at h;have g:=hE.run_und n w;have fin:∀b:Bool,some b=some r→b=r:=fun b e=>by simpa using e
   cases I with
   |bool=>
    cases f<;>first | (cases h;done)|skip
    cases c<;>first | (cases h;done)|skip
    rw [←fin _ h];simp [Op.equalIn,g]
   |int O=>
    cases f<;>first | (cases h;done)|skip
    cases c<;>first | (cases h;done)|skip
    rename_i k a J b;by_cases H:k=J
    ·subst H;simp only [decide_true,Option.some.injEq] at h;subst h;simp [Op.equalIn,g]
    ·simp [H] at h
   |string=>
    cases f<;>first | (cases h;done)|skip
    cases c<;>first | (cases h;done)|skip
    rename_i s Q;simp only [Option.some.injEq] at h;subst h;rw [Ck];simp only [Op.equalIn,Sem.run_bind,g,Result.andThen_ok,Sem.run_pure];rw [beq_toListBytes]
   |pointer e=>
    cases f<;>first | (cases h;done)|skip
    all_goals
     cases c<;>first | (cases h;done)|skip
    all_goals (rw [←fin _ h];simp [Op.equalIn,g])
   |interface R=>
    cases f<;>first | (cases h;done)|skip
    ·rename_i tx a v K;cases c<;>first | (cases h;done)|skip
     ·rename_i ty b S A;simp only [] at h;cases u:Nat.beq tx ty with
      |false=>
       simp only [u,Option.some.injEq] at h;subst h;have:=Qe u;simp [Op.equalIn,g,this]
      |true=>
       simp only [u] at h;have:=Ay u;subst this;cases hi:E.ty.get tx with
       |none=>simp [hi] at h
       |some i=>
        simp only [hi] at h;cases B:i.comparable with
        |false=>simp [B] at h
        |true=>
         simp only [B] at h;have:=ih _ _ _ _ _ _ h K A;simp [Op.equalIn,g,hE.run_info hi,B,this]
     ·rw [←fin _ h];simp [Op.equalIn,g]
    ·cases c<;>first | (cases h;done)|skip
     all_goals (rw [←fin _ h];simp [Op.equalIn,g])
   |struct L=>
    cases f<;>first | (cases h;done)|skip
    cases c<;>first | (cases h;done)|skip
    rename_i M l a1 a2 N m C D;simp only [] at h;cases F:E.P.stoodInHeld t with
    |true=>simp [F] at h
    |false=>
     simp only [F] at h;have j:=hE.und n;have o:E.P.fieldsOf t=L:=by simp [Program.fieldsOf,j]
     rw [run_equalIn_struct w d t l.toArray m.toArray (by rw [o];exact j) F,o]
     exact Kb hE ih ⟨a1,a2⟩ ⟨C,D⟩ h
   |array len e=>
    cases f<;>first | (cases h;done)|skip
    cases c<;>first | (cases h;done)|skip
    rename_i M l a1 a2 N m C D;simp only [] at h;cases z:E.has e with
    |false=>simp [z] at h
    |true=>
     simp only [z] at h;unfold Env.has at z;cases hi:E.ty.get e with
     |none=>simp [hi] at z
     |some i=>
      have G:E.P.cellsOf e=E.size e:=by simp [Program.cellsOf,hE.ty e i hi,Env.size,hi]
      rw [run_equalIn_array w d l.toArray m.toArray (hE.und n) (hE.ty e i hi),G,List.range_eq_range'];exact Mz hE ih ⟨a1,a2⟩ ⟨C,D⟩ h
   |slice e=>
    cases f<;>first | (cases h;done)|skip
    all_goals
     cases c<;>first | (cases h;done)|skip
    all_goals (rw [←fin _ h];simp [Op.equalIn,g])
   |map k e=>
    cases f<;>first | (cases h;done)|skip
    all_goals
     cases c<;>first | (cases h;done)|skip
    all_goals (rw [←fin _ h];simp [Op.equalIn,g])
   |func T V v=>
    cases f<;>first | (cases h;done)|skip
    all_goals
     cases c<;>first | (cases h;done)|skip
    all_goals (rw [←fin _ h];simp [Op.equalIn,g])
   |_=>cases f<;>first | (cases h;done) | (cases c<;>(cases h;done))
end
end Go.AE
namespace Go.AE
variable [Gl:AH]
variable [U:Unk]
theorem Dm (k:IntKind) (x:Int):(BitVec.ofInt k.bits x).toNat=bits k x:=by
 simp [bits,BitVec.toNat_ofInt]
section
variable {E:Env} (hE:OK E) {ρ:Ren} {h:Aa} {w:World}
theorem Jo {d:BinOp} {k:IntKind} {a b:Int} {r:AV} (t:TypeId) (g:d≠.shl) (f:d≠.shr) (hr:CK d k a b=some r) :
    ∃v,(binOp d t (.int k a) (.int k b)).run E.P w=.ok v w∧VR ρ r v:=by
  cases d<;>simp only [CK] at hr<;>first | (cases hr;done)|exact absurd rfl g|exact absurd rfl f|skip
  case quo=>
    cases c:(b==0) with
    |true=>simp [c] at hr
    |false=>
      simp only [c,Option.some.injEq] at hr;have:b≠0:=by simpa using c
      subst hr;exact ⟨_,by simp [binOp,Op.intDiv,this],.int _ _⟩
  case rem=>
    cases c:(b==0) with
    |true=>simp [c] at hr
    |false=>
      simp only [c,Option.some.injEq] at hr;have:b≠0:=by simpa using c
      subst hr;exact ⟨_,by simp [binOp,Op.intDiv,this],.int _ _⟩
  case and=>
    simp only [Option.some.injEq] at hr;subst hr;refine ⟨_,by simp only [binOp,Op.intBits,ne_eq,not_true_eq_false,if_false,Sem.run_pure];rfl,?_⟩
    rw [BitVec.toNat_and,Dm,Dm];exact .int _ _
  case or=>
    simp only [Option.some.injEq] at hr;subst hr;refine ⟨_,by simp only [binOp,Op.intBits,ne_eq,not_true_eq_false,if_false,Sem.run_pure];rfl,?_⟩
    rw [BitVec.toNat_or,Dm,Dm];exact .int _ _
  case xor=>
    simp only [Option.some.injEq] at hr;subst hr;refine ⟨_,by simp only [binOp,Op.intBits,ne_eq,not_true_eq_false,if_false,Sem.run_pure];rfl,?_⟩
    rw [BitVec.toNat_xor,Dm,Dm];exact .int _ _
  all_goals
    simp only [Option.some.injEq] at hr;subst hr;refine ⟨_,by simp only [binOp,Op.intArith,Op.intCmp,ne_eq,not_true_eq_false,if_false,Sem.run_pure];rfl,?_⟩
    first
      |exact .int _ _
      |exact .bool _
      | (rename_i pos e;have h:=VR.sb (ρ:=ρ) (!pos) e;have i:(!(Ad U.V e==pos))=(Ad U.V e == !pos):=by cases Ad U.V e<;>cases pos<;>rfl
         rw [i];exact h)
theorem JE (d:Nat) (t:TypeId) (x y:AV) (a:x.isSym=true):aeq E d t x y=none:=by
 cases d with
 |zero=>rfl
 |succ d=>
  simp only [aeq];cases E.desc t with
  |none=>rfl
  |some b=>cases x<;>first | (cases a;done) | (cases b<;>rfl)
theorem JM (d:Nat) (t:TypeId) (x y:AV) (a:y.isSym=true):aeq E d t x y=none:=by
 cases d with
 |zero=>rfl
 |succ d=>
  simp only [aeq];cases E.desc t with
  |none=>rfl
  |some b=>cases y<;>first | (cases a;done) | (cases b<;>cases x<;>rfl)
theorem UL {c:BinOp} {k k':IntKind} {a b:Int} {r:AV} (t:TypeId) (e:c=.shl∨c=.shr) (hr:Mr c k a b=some r) :
  ∃v,(binOp c t (.int k a) (.int k' b)).run E.P w=.ok v w∧VR ρ r v:=by
 unfold Mr at hr;by_cases d:b<0
 ·simp [d] at hr
 ·simp only [d,decide_false] at hr;rcases e with rfl|rfl
  ·simp only [Option.some.injEq] at hr;subst hr;exact ⟨_,by simp only [binOp,Op.shift,d,if_false,Sem.run_pure],.int _ _⟩
  ·simp only [Option.some.injEq] at hr;subst hr;exact ⟨_,by simp only [binOp,Op.shift,d,if_false,Sem.run_pure],.int _ _⟩
theorem Nf {d:BinOp} {s a:ByteArray} {r:AV} (t:TypeId) (hr:Oy d s.data.toList.length (AA s.data.toList) a.data.toList.length (AA a.data.toList)=some r) :
  ∃v,(binOp d t (.string s) (.string a)).run E.P w=.ok v w∧VR ρ r v:=by
 have b:=Oj (s.data.toList.length+1) s.data.toList a.data.toList (Nat.lt_succ_self _);have f:=ByteArray.toList_eq s;have g:=ByteArray.toList_eq a;cases d<;>simp only [Oy] at hr<;>first | (cases hr;done)|skip
 case add=>
  cases e:Nat.ble (s.data.toList.length+a.data.toList.length) 4611686018427387904 with
  |false=>simp only [e] at hr;cases hr
  |true=>
   simp only [e,Option.some.injEq] at hr;subst hr;have k:=Cu e;have l:s.size=s.data.toList.length:=by simp
   have i:a.size=a.data.toList.length:=by simp
   refine ⟨.string (s++a),?_,?_⟩
   ·have c:¬(((s.size+a.size:Nat):Int)>IntKind.i64.max):=by
     simp only [IntKind.max,IntKind.signed,IntKind.bits];omega
    simp only [binOp,Op.stringOp];rw [if_neg c];rfl
   ·have j:=VR.str (ρ:=ρ) (s++a);have m:(s++a).data.toList=s.data.toList++a.data.toList:=by simp [ByteArray.data_append]
    rw [m,List.length_append,Fr,←Oq] at j;exact j
 all_goals
  simp only [Option.some.injEq] at hr;subst hr;refine ⟨_,by simp only [binOp,Op.stringOp,Sem.run_pure];rfl,?_⟩
  first
   | (rw [Ck];exact .bool _)
   | (rw [b,Ck,f,g];exact .bool _)
   | (rw [b,f,g];exact .bool _)
theorem aI {a:UnOp} {x r:AV} {b:Value} (c:VR ρ x b) (hr:unA a x=some r):∃v,(Op.unary a b).run E.P w=.ok v w∧VR ρ r v:=by
  cases a<;>cases c<;>simp only [unA] at hr<;>first | (cases hr;done)|skip
  all_goals
    simp only [Option.some.injEq] at hr;subst hr;refine ⟨_,by simp only [Op.unary,Op.intArith,Sem.run_pure];rfl,?_⟩
    first
      |exact .int _ _
      |exact .bool _
      | (rename_i pos e;have h:=VR.sb (ρ:=ρ) (!pos) e;have d:(!(Ad U.V e==pos))=(Ad U.V e == !pos):=by cases Ad U.V e<;>cases pos<;>rfl
         rw [d];exact h)
theorem BU {e:BinOp} {t:TypeId} {x y:Operand} {a b:Value} (f:¬(a=.nilIface∧b=.nilIface)) (g:(∃c,a=.agg c)→(∃d,b=.agg d)→E.P.eqGuardType E.P.depth t=false) :
  (eqGuard e t x y a b).run E.P w=.ok () w:=by
 unfold eqGuard;cases e<;>(try (simp;done))
 all_goals
  cases a<;>cases b<;>first
   | (simp;done)
   | (exact absurd ⟨rfl,rfl⟩ f)
   | (rename_i c d;simp [g ⟨c,rfl⟩ ⟨d,rfl⟩])
theorem NY (d:Nat) (t:TypeId) (y:AV):aeq E d t .top y=none:=by
 cases d with
 |zero=>rfl
 |succ d=>
  simp only [aeq];cases E.desc t with
  |none=>rfl
  |some a=>cases a<;>rfl
theorem MZ (d:Nat) (t:TypeId) (x:AV):aeq E d t x .top=none:=by
 cases d with
 |zero=>rfl
 |succ d=>
  simp only [aeq];cases E.desc t with
  |none=>rfl
  |some a=>cases a<;>cases x<;>rfl
theorem D9 (t:TypeId) (e f:Value) (i:¬∃k a g b,e=.int k a∧f=.int g b) (j:¬∃k a g b,e=.float k a∧f=.float g b) (l:¬∃k a b g c d,e=.complex k a b∧f=.complex g c d) (m:¬∃a b,e=.string a∧f=.string b) :
  binOp .eql t e f=(do pure (.bool (←Op.equal t e f)))∧binOp .neq t e f=(do pure (.bool (!(←Op.equal t e f)))):=by
 cases e<;>cases f<;>first
  |exact ⟨rfl,rfl⟩
  |exact absurd ⟨_,_,_,_,rfl,rfl⟩ i
  |exact absurd ⟨_,_,_,_,rfl,rfl⟩ j
  |exact absurd ⟨_,_,_,_,_,_,rfl,rfl⟩ l
  |exact absurd ⟨_,_,rfl,rfl⟩ m
include hE
theorem WM {t:TypeId} {x y:AV} {j m:Value} {b:Bool} (n:VR ρ x j) (q:VR ρ y m) (f:aeq E 10000 t x y=some b) (hi:¬∃k a k' b,x=.int k a∧y=.int k' b) (r:¬∃l a s b,x=.str l a∧y=.str s b) :
  (binOp .eql t j m).run E.P w=.ok (.bool b) w∧(binOp .neq t j m).run E.P w=.ok (.bool (!b)) w:=by
 have g:x≠.top:=by rintro rfl;rw [NY] at f;cases f
 have o:y≠.top:=by rintro rfl;rw [MZ] at f;cases f
 have p:=R6 (w:=w) hE 10000 t x y b j m f n q
 obtain ⟨u,v⟩:=D9 t j m (by
   rintro ⟨k,a,k',c,rfl,rfl⟩
   cases n with
   |top=>exact g rfl
   |si k e=>rw [JE _ _ _ _ rfl] at f;cases f
   |stamp=>rw [JE _ _ _ _ rfl] at f;cases f
   |int=>cases q with
    |top=>exact o rfl
    |stamp=>rw [JM _ _ _ _ rfl] at f;cases f
    |si k e=>rw [JM _ _ _ _ rfl] at f;cases f
    |int=>exact hi ⟨_,_,_,_,rfl,rfl⟩) (by
   rintro ⟨k,a,k',c,rfl,rfl⟩
   cases n;exact g rfl) (by
   rintro ⟨k,a,z,k',c,d,rfl,rfl⟩
   cases n;exact g rfl) (by
   rintro ⟨a,c,rfl,rfl⟩
   cases n with
   |top=>exact g rfl
   |ss i=>rw [JE _ _ _ _ rfl] at f;cases f
   |str=>cases q with
    |top=>exact o rfl
    |ss i=>rw [JM _ _ _ _ rfl] at f;cases f
    |str=>exact r ⟨_,_,_,_,rfl,rfl⟩)
 rw [u,v];simp only [Op.equal,Op.maxDepth,Sem.run_bind,p,Result.andThen_ok,Sem.run_pure];exact ⟨trivial,trivial⟩
theorem Ub {c:BinOp} {t:TypeId} {ox oy:Operand} {x y r:AV} {o p:Value} (u:VR ρ x o) (z:VR ρ y p) (hr:RQ E c t x y=some r) :
  ∃v,(do eqGuard c t ox oy o p;binOp c t o p:Sem Value).run E.P w=.ok v w∧VR ρ r v:=by
 have d:(¬∃k a k' b,x=.int k a∧y=.int k' b)→(¬∃l a l' b,x=.str l a∧y=.str l' b)→(¬(x=.nilIface∧y=.nilIface))→((∃A,x=.agg A)→(∃H,y=.agg H)→E.P.eqGuardType E.P.depth t=false)→
   (match c with
    |.eql=>(aeq E 10000 t x y).map AV.bool
    |.neq=>(aeq E 10000 t x y).map fun b=>AV.bool (!b)
    |_=>none)=some r→∃v,(do eqGuard c t ox oy o p;binOp c t o p:Sem Value).run E.P w=.ok v w∧VR ρ r v:=by
  intro I J N O q
  have K:∃b,aeq E 10000 t x y=some b:=by
   cases i:aeq E 10000 t x y with
   |some b=>exact ⟨b,rfl⟩
   |none=>cases c<;>simp [i] at q
  obtain ⟨b,i⟩:=K;have B:x≠.top:=by rintro rfl;rw [NY] at i;cases i
  have C:y≠.top:=by rintro rfl;rw [MZ] at i;cases i
  have j:(eqGuard c t ox oy o p).run E.P w=.ok () w:=BU (by
    rintro ⟨rfl,rfl⟩
    cases u with
    |top=>exact B rfl
    |nilIface=>cases z with
     |top=>exact C rfl
     |nilIface=>exact N ⟨rfl,rfl⟩) (by
    rintro ⟨A,rfl⟩ ⟨H,rfl⟩
    cases u with
    |top=>exact absurd rfl B
    |agg=>cases z with
     |top=>exact absurd rfl C
     |agg=>exact O ⟨_,rfl⟩ ⟨_,rfl⟩)
  obtain ⟨m,n⟩:=WM (w:=w) hE u z i I J;rw [i] at q;cases c<;>simp only [Option.map_some,Option.some.injEq] at q<;>first | (cases q;done)|skip
  ·subst q;exact ⟨_,by simp only [Sem.run_bind,j,Result.andThen_ok,m],.bool _⟩
  ·subst q;exact ⟨_,by simp only [Sem.run_bind,j,Result.andThen_ok,n],.bool _⟩
 have D:∀{a b:Value},(¬(a=.nilIface∧b=.nilIface))→(¬∃A,a=.agg A)→(eqGuard c t ox oy a b).run E.P w=.ok () w:=
  fun I J=>BU I (fun h _=>absurd h J)
 cases x with
 |int k a=>
  cases y with
  |int k' b=>
   cases u;cases z;have j:=D (a:=.int k a) (b:=.int k' b) (by simp) (by simp)
   by_cases g:c=.shl∨c=.shr
   ·have f:Mr c k a b=some r:=by rcases g with rfl|rfl<;>simpa [RQ] using hr
    obtain ⟨v,m,n⟩:=UL (E:=E) (w:=w) (ρ:=ρ) (k':=k') t g f;exact ⟨v,by simp only [Sem.run_bind,j,Result.andThen_ok,m],n⟩
   ·have F:c≠.shl:=fun e=>g (.inl e)
    have G:c≠.shr:=fun e=>g (.inr e)
    have f:(match decide (k=k') with|true=>CK c k a b|false=>none)=some r:=by
     cases c<;>first|exact hr|exact absurd rfl F|exact absurd rfl G
    by_cases M:k=k'
    ·subst M;simp only [decide_true] at f;obtain ⟨v,m,n⟩:=Jo (E:=E) (w:=w) (ρ:=ρ) t F G f;exact ⟨v,by simp only [Sem.run_bind,j,Result.andThen_ok,m],n⟩
    ·simp [M] at f
  |_=>exact d (by simp) (by simp) (by simp) (by simp) (by cases c<;>exact hr)
 |str l a=>
  cases y with
  |str l' b=>
   cases u;cases z;rename_i s Q;have j:=D (a:=.string s) (b:=.string Q) (by simp) (by simp)
   simp only [RQ] at hr;obtain ⟨v,m,n⟩:=Nf (E:=E) (w:=w) (ρ:=ρ) t hr;exact ⟨v,by simp only [Sem.run_bind,j,Result.andThen_ok,m],n⟩
  |_=>exact d (by simp) (by simp) (by simp) (by simp) (by cases c<;>exact hr)
 |agg A=>
  cases y with
  |agg H=>
   simp only [RQ] at hr;cases L:E.P.eqGuardType E.P.depth t with
   |true=>simp [L] at hr
   |false=>simp only [L] at hr;exact d (by simp) (by simp) (by simp) (fun _ _=>L) (by cases c<;>exact hr)
  |_=>exact d (by simp) (by simp) (by simp) (by simp) (by cases c<;>exact hr)
 |nilIface=>
  cases y with
  |nilIface=>simp [RQ] at hr
  |_=>exact d (by simp) (by simp) (by simp) (by simp) (by cases c<;>exact hr)
 |_=>exact d (by simp) (by simp) (by simp) (by simp) (by cases c<;>exact hr)
end
end Go.AE
namespace Go.AE
variable [Gl:AH]
theorem SE.same_eq {a b:SE} (h:a.same b=true):a=b:=by
 induction a generalizing b<;>cases b<;>simp only [SE.same,Bool.and_eq_true,decide_eq_true_eq,beq_iff_eq,Bool.false_eq_true,Nat.beq_eq] at h<;>grind
theorem Ze {a b:Fn} (h:aC a b=true):a=b:=by
 cases a<;>cases b<;>simp_all [aC]
mutual
theorem Dr:∀(a b:AV),Bs a b=true→a=b
 |.top,b,h=>by cases b<;>simp_all [Bs]
 |.bool _,b,h=>by cases b<;>simp_all [Bs]
 |.int _ _,b,h=>by cases b<;>simp_all [Bs]
 |.str _ _,b,h=>by cases b<;>simp_all [Bs]
 |.ptr0,b,h=>by cases b<;>simp_all [Bs]
 |.ptr _ _,b,h=>by cases b<;>simp_all [Bs]
 |.slice0,b,h=>by cases b<;>simp_all [Bs]
 |.slice _ _ _ _,b,h=>by cases b<;>simp_all [Bs]
 |.map0,b,h=>by cases b<;>simp_all [Bs]
 |.map _,b,h=>by cases b<;>simp_all [Bs]
 |.func fn f c,b,h=>by
  cases b with
  |func i j o=>
   simp only [Bs,Bool.and_eq_true] at h;rw [Ze h.1.1,E7 f j h.1.2,E7 c o h.2]
  |_=>simp [Bs] at h
 |.nilFunc,b,h=>by cases b<;>simp_all [Bs]
 |.iface t v,b,h=>by
  cases b with
  |iface q r=>
   simp only [Bs,Bool.and_eq_true] at h;rw [Nat.eq_of_beq_eq_true h.1,Dr v r h.2]
  |_=>simp [Bs] at h
 |.nilIface,b,h=>by cases b<;>simp_all [Bs]
 |.agg l,b,h=>by
  cases b with
  |agg g=>
   simp only [Bs] at h;rw [E7 l g h]
  |_=>simp [Bs] at h
 |.tuple l,b,h=>by
  cases b with
  |tuple g=>
   simp only [Bs] at h;rw [E7 l g h]
  |_=>simp [Bs] at h
 |.sb p e,b,h=>by
  cases b with
  |sb y d=>
   simp only [Bs,Bool.and_eq_true] at h;rw [eq_of_beq h.1,SE.same_eq h.2]
  |_=>simp [Bs] at h
 |.si k e,b,h=>by
  cases b with
  |si z d=>
   simp only [Bs,Bool.and_eq_true,decide_eq_true_eq] at h;rw [h.1,SE.same_eq h.2]
  |_=>simp [Bs] at h
 |.ss e,b,h=>by
  cases b with
  |ss d=>
   simp only [Bs] at h;rw [SE.same_eq h]
  |_=>simp [Bs] at h
 |.dat t e,b,h=>by
  cases b with
  |dat q d=>
   simp only [Bs,Bool.and_eq_true] at h;rw [Nat.eq_of_beq_eq_true h.1,SE.same_eq h.2]
  |_=>simp [Bs] at h
 |.dptr _ _ _ _,b,h=>by cases b<;>simp [Bs] at h
 |.asl s A n B,b,h=>by
  cases b with
  |asl u w C x=>
   simp only [Bs,Bool.and_eq_true] at h;rw [Nat.eq_of_beq_eq_true h.1.1.1,Nat.eq_of_beq_eq_true h.1.1.2,SE.same_eq h.1.2,SE.same_eq h.2]
  |_=>simp [Bs] at h
 |.eslc e,b,h=>by
  cases b with
  |eslc d=>
   simp only [Bs] at h;rw [SE.same_eq h]
  |_=>simp [Bs] at h
 |.aptr _ _ _ _,b,h=>by cases b<;>simp [Bs] at h
 |.nmap s e,b,h=>by
  cases b with
  |nmap u d=>
   simp only [Bs,Bool.and_eq_true] at h;rw [Nat.eq_of_beq_eq_true h.1,SE.same_eq h.2]
  |_=>simp [Bs] at h
theorem E7:∀(a b:List AV),Hf a b=true→a=b
 |[],b,h=>by cases b<;>simp_all [Hf]
 |a::l,b,h=>by
  cases b with
  |nil=>simp [Hf] at h
  |cons b m=>
   simp only [Hf,Bool.and_eq_true] at h;rw [Dr a b h.1,E7 l m h.2]
end
theorem VD {c:Type} {d:c→c→Bool} (e:∀a b,d a b=true→a=b) {a b:Option c} (h:eqO d a b=true):a=b:=by
 cases a<;>cases b<;>simp [eqO] at h ⊢
 exact e _ _ h
theorem Sg {c:Type} {e:c→c→Bool} (d:∀a b,e a b=true→a=b):∀(a b:T c),eqT e a b=true→a=b
 |.nil,.nil,_=>rfl
 |.node v l r,.node i f g,h=>by
  simp only [eqT,Bool.and_eq_true] at h;rw [VD d h.1.1,Sg d l f h.1.2,Sg d r g h.2]
 |.nil,.node _ _ _,h=>by simp [eqT] at h
 |.node _ _ _,.nil,h=>by simp [eqT] at h
theorem SV:∀(a b:List Aj),UP a b=true→a=b
 |[],[],_=>rfl
 |a::l,b::m,h=>by
  simp only [UP,Bool.and_eq_true] at h;obtain ⟨⟨⟨c,d⟩,e⟩,f⟩:=h;cases a;cases b;simp only at c d e;rw [Dr _ _ c,Dr _ _ d,Nat.eq_of_beq_eq_true e,SV l m f]
 |[],_::_,h=>by simp [UP] at h
 |_::_,[],h=>by simp [UP] at h
theorem Lp {a b:Ag} (h:PY a b=true):a=b:=by
 cases a<;>cases b<;>simp only [PY,Bool.and_eq_true,Bool.false_eq_true] at h
 ·rw [Nat.eq_of_beq_eq_true h.1,Sg Dr _ _ h.2]
 ·rw [Nat.eq_of_beq_eq_true h.1,SE.same_eq h.2]
 ·rw [Nat.eq_of_beq_eq_true h.1,SV _ _ h.2]
 ·rw [Nat.eq_of_beq_eq_true h.1.1,Nat.eq_of_beq_eq_true h.1.2,SE.same_eq h.2]
variable [U:Unk]
section
variable {V:Val} {a b:SE}
theorem BD {n:Int}:Ac V (.c n)=n:=rfl
theorem Lk {k:IntKind}:Ac V (.conv k a)=k.wrap (Ac V a):=rfl
theorem Dz {c:BinOp} {k:IntKind}:Ac V (.arith c k a b)=match CK c k (Ac V a) (Ac V b) with
  |some (.int _ n)=>n
  |_=>0:=rfl
theorem CJ:Ac V (.lenS a)=((AR V a).data.toList.length:Nat):=rfl
theorem Ai:Ac V (.lenL a)=((Ab V a).rows.length:Nat):=rfl
theorem Av:Ad V (.lss a b)=decide (Ac V a<Ac V b):=rfl
theorem B3:Ad V (.eql a b)=(Ac V a==Ac V b):=rfl
theorem Jw {l c:Nat}:Ad V (.eqS a l c)=strEq (AR V a).data.toList.length (AA (AR V a).data.toList) l c:=rfl
theorem Mi:Ad V (.eqSS a b)=strEq (AR V a).data.toList.length (AA (AR V a).data.toList) (AR V b).data.toList.length (AA (AR V b).data.toList):=rfl
end
theorem SE.same_ok {a b:SE} (h:a.same b=true):a=b:=by
 induction a generalizing b<;>cases b<;>simp only [SE.same,Bool.and_eq_true,decide_eq_true_eq,beq_iff_eq,Bool.false_eq_true,Nat.beq_eq] at h<;>grind
theorem SB.same_ok {a b:SB} (h:a.same b=true):a=b:=SE.same_ok h
def LoB (o:Option Int) (n:Int):Prop:=∀l,o=some l→l≤n
def HiB (o:Option Int) (n:Int):Prop:=∀l,o=some l→n≤l
theorem LoB.max {a b:Option Int} {n:Int} (h:LoB a n) (k:LoB b n):LoB (Qt a b) n:=by
 intro l r;unfold Qt at r;split at r
 ·rename_i a b;have I:=h a rfl;have h2:=k b rfl;cases t:decide (a≤b)<;>rw [t] at r<;>cases r<;>assumption
 ·exact h l r
 ·exact k l r
theorem HiB.min {a b:Option Int} {n:Int} (h:HiB a n) (k:HiB b n):HiB (US a b) n:=by
 intro l r;unfold US at r;split at r
 ·rename_i a b;have I:=h a rfl;have J:=k b rfl;cases t:decide (a≤b)<;>rw [t] at r<;>cases r<;>assumption
 ·exact h l r
 ·exact k l r
theorem LoB.some {a n:Int} (h:a≤n):LoB (some a) n:=fun l r=>by cases r;exact h
theorem HiB.some {a n:Int} (h:n≤a):HiB (some a) n:=fun l r=>by cases r;exact h
theorem LoB.none {n:Int}:LoB none n:=fun l r=>by cases r
theorem HiB.none {n:Int}:HiB none n:=fun l r=>by cases r
theorem Ut {V:Val} {e:SE} {p:SB×Bool} (d:Ad V p.1=p.2):LoB (SG e p) (Ac V e):=by
 intro l c;obtain ⟨x,b⟩:=p
 have g:∀{a:SE} {r:Int},(match a.same e with|true=>some r|false=>none)=some l→a=e∧l=r:=by
  intro a r h;split at h
  ·rename_i i;cases h;exact ⟨SE.same_ok i,rfl⟩
  ·cases h
 unfold SG at c;split at c<;>first | (cases c;done)|skip
 all_goals
  rename_i a m f;obtain ⟨rfl,rfl⟩:=g c;cases f;simp [Av,B3,BD] at d
  first|omega | (have:=of_decide_eq_false d;omega) | (have:=of_decide_eq_true d;omega)
theorem Uz {V:Val} {e:SE} {p:SB×Bool} (d:Ad V p.1=p.2):HiB (Ro e p) (Ac V e):=by
 intro l c;obtain ⟨x,b⟩:=p
 have g:∀{a:SE} {r:Int},(match a.same e with|true=>some r|false=>none)=some l→a=e∧l=r:=by
  intro a r h;split at h
  ·rename_i i;cases h;exact ⟨SE.same_ok i,rfl⟩
  ·cases h
 unfold Ro at c;split at c<;>first | (cases c;done)|skip
 all_goals
  rename_i a m f;obtain ⟨rfl,rfl⟩:=g c;cases f;simp [Av,B3,BD] at d
  first|omega | (have:=of_decide_eq_false d;omega) | (have:=of_decide_eq_true d;omega)
theorem CN {V:Val} {e:SE}:∀{F:List (SB×Bool)},(∀e b,(e,b)∈F→Ad V e=b)→LoB (CF e F) (Ac V e)
 |[],_=>LoB.none
 |p::r,h=>LoB.max (Ut (h p.1 p.2 (by simp))) (CN fun e b a=>h e b (by simp [a]))
theorem CM {V:Val} {e:SE}:∀{F:List (SB×Bool)},(∀e b,(e,b)∈F→Ad V e=b)→HiB (CE e F) (Ac V e)
 |[],_=>HiB.none
 |p::r,h=>HiB.min (Uz (h p.1 p.2 (by simp))) (CM fun e b a=>h e b (by simp [a]))
theorem GC (k:IntKind) (n:Int) (a:k.min≤n) (b:n≤k.max):k.wrap n=n:=by
 cases k<;>simp only [IntKind.wrap,IntKind.min,IntKind.max,IntKind.bits,IntKind.signed] at *<;>simp at *<;>omega
theorem RN (k:IntKind) (n:Int):k.min≤k.wrap n∧k.wrap n≤k.max:=by
 cases k<;>simp only [IntKind.wrap,IntKind.min,IntKind.max,IntKind.bits,IntKind.signed]<;>simp<;>omega
theorem Di {V:Val}:∀x:SE,(Ab V (Cr x)).rows.length=(Ab V x).rows.length:=by
 intro x
 induction x
 case upd a i j x ih _ _=>rw [Cr,ih];simp only [Ab,D.rows,List.length_modify]
 case nilIs a b ih _=>rw [Cr,ih];simp only [Ab,D.rows]
 all_goals rfl
theorem Sc {V:Val} {n y:SE} (h:KX n y=true):Ac V n=Ac V (.lenL y):=by
 cases n<;>simp only [KX,Bool.false_eq_true] at h
 rename_i x;rw [Ai,Ai,←Di x,←Di y,SE.same_ok h]
theorem Pw {V:Val}:∀{x:SE} {n:Nat},GK x=some n→(Ab V x).rows.length=n:=by
 intro x
 induction x<;>intro n h<;>simp only [GK,reduceCtorEq] at h
 case nilL=>cases h;rfl
 case emptyL=>cases h;rfl
 case nilIs a b ih _=>exact ih h
 case snoc a r ih _=>
  split at h
  ·rename_i k c;cases h;have:=ih c;simp only [Ab,D.rows,List.length_append,List.length_singleton] at this ⊢;rw [this]
  ·cases h
theorem OF {V:Val} {x:SE} {l b:Nat}:∀{F:List (SB×Bool)},(∀e b,(e,b)∈F→Ad V e=b)→Qo x F=some (l,b)→Ad V (.eqS x l b)=true
 |[],_,h=>by cases h
 | (e,c)::r,d,h=>by
  unfold Qo at h;have ih:Qo x r=some (l,b)→Ad V (.eqS x l b)=true:=OF (F:=r) (fun e b g=>d e b (by simp [g]))
  split at h
  ·rename_i a j k;split at h
   ·rename_i f;cases h;simp only [Bool.and_eq_true] at f;obtain ⟨rfl,i⟩:=f;rw [←SE.same_ok i];exact d _ _ (by simp)
   ·exact ih h
  ·exact ih h
theorem Xc {V:Val} {x:SE} {l b:Nat} {F:List (SB×Bool)} (a:∀e b,(e,b)∈F→Ad V e=b) (h:Qo x F=some (l,b)):Ac V (.lenS x)=(l:Int):=by
 have h:=OF a h;rw [Jw] at h;unfold strEq at h;simp only [Bool.and_eq_true] at h;have c:=Nat.eq_of_beq_eq_true h.1;rw [←c];exact CJ
theorem Gm {V:Val} {F:List (SB×Bool)} (d:∀e b,(e,b)∈F→Ad V e=b):∀e:SE,LoB (bnd F e).1 (Ac V e)∧HiB (bnd F e).2 (Ac V e):=by
 intro e
 induction e with
 |c n=>exact ⟨LoB.some (Int.le_refl _),HiB.some (Int.le_refl _)⟩
 |lenS i=>
  unfold bnd;split
  ·rename_i l b p;have:=Xc d p;exact ⟨LoB.some (by rw [this];exact Int.le_refl _),HiB.some (by rw [this];exact Int.le_refl _)⟩
  ·exact ⟨LoB.max (LoB.some (by simp only [CJ,Ai];omega)) (CN d),CM d⟩
 |lenL i=>
  unfold bnd;split
  ·rename_i n q;have:=Pw (V:=V) q;exact ⟨LoB.some (by rw [Ai,this];exact Int.le_refl _),HiB.some (by rw [Ai,this];exact Int.le_refl _)⟩
  ·exact ⟨LoB.max (LoB.some (by simp only [CJ,Ai];omega)) (CN d),CM d⟩
 |conv k a ih=>
  unfold bnd;split;rename_i lo hi o;rw [o] at ih;split
  ·rename_i g;unfold O5 at g;split at g
   ·rename_i l h;simp only [Bool.and_eq_true,decide_eq_true_eq] at g;have r:=ih.1 l rfl;have w:=ih.2 h rfl;have e:Ac V (.conv k a)=Ac V a:=GC k (Ac V a) (by omega) (by omega)
    exact ⟨LoB.max (e▸ih.1) (CN d),HiB.min (e▸ih.2) (CM d)⟩
   ·cases g
  ·have e:k.min≤Ac V (.conv k a)∧Ac V (.conv k a)≤k.max:=RN k _;exact ⟨LoB.max (LoB.some e.1) (CN d),HiB.min (HiB.some e.2) (CM d)⟩
 |arith j k a b f s=>
  have base:LoB (CF (.arith j k a b) F) (Ac V (.arith j k a b))∧HiB (CE (.arith j k a b) F) (Ac V (.arith j k a b)):=⟨CN d,CM d⟩;unfold bnd;split
  ·rename_i m;split
   ·rename_i l hi o;rw [o] at f;split
    ·rename_i t;simp only [Bool.and_eq_true,decide_eq_true_eq] at t;have r:=f.1 l rfl;have u:(m==0)=false:=by simp;omega
     have e:Ac V (.arith .rem k a (.c m))=(Ac V a).tmod m:=by
      simp only [Dz,BD,CK,u]
     have v:0≤(Ac V a).tmod m:=Int.tmod_nonneg _ (by omega)
     have x:(Ac V a).tmod m<m:=Int.tmod_lt_of_pos _ (by omega)
     refine ⟨LoB.max (LoB.some (by rw [e];exact v)) base.1,HiB.min (HiB.some (by rw [e];omega)) base.2⟩
    ·exact base
   ·exact base
  ·exact base
 |_=>exact ⟨CN d,CM d⟩
theorem H6 {V:Val} {e:SB} {b:Bool}:∀{F:List (SB×Bool)},(∀e b,(e,b)∈F→Ad V e=b)→I2 e F=some b→Ad V e=b
 |[],_,h=>by cases h
 | (x,c)::r,a,h=>by
  unfold I2 at h;split at h
  ·rename_i d;cases h;rw [SB.same_ok d];exact a x b (by simp)
  ·exact H6 (fun e b f=>a e b (by simp [f])) h
theorem R4 {a b:Option Int} (h:ltO a b=true):∃x y,a=some x∧b=some y∧x<y:=by
 unfold ltO at h;split at h
 ·exact ⟨_,_,rfl,rfl,by simpa using h⟩
 ·cases h
theorem bu {a b:Option Int} (h:leO a b=true):∃x y,a=some x∧b=some y∧x≤y:=by
 unfold leO at h;split at h
 ·exact ⟨_,_,rfl,rfl,by simpa using h⟩
 ·cases h
theorem RY {V:Val} {F:List (SB×Bool)} (j:∀e b,(e,b)∈F→Ad V e=b) {e:SB} {b:Bool} (h:OD F e=some b):Ad V e=b:=by
 unfold OD at h;cases e with
 |lss x y=>
  simp only at h;have g:=Gm j x;have i:=Gm j y;split at h
  ·rename_i a;cases h;obtain ⟨p,q,d,f,k⟩:=R4 a;have:=g.2 p d;have:=i.1 q f;simp only [Av,decide_eq_true_eq];omega
  ·split at h
   ·rename_i a;cases h;obtain ⟨p,q,d,f,k⟩:=bu a;have:=i.2 p d;have:=g.1 q f;simp only [Av,decide_eq_false_iff_not];omega
   ·cases h
 |eql x y=>
  simp only at h;have g:=Gm j x;have i:=Gm j y;split at h
  ·rename_i a;cases h;simp only [B3,beq_eq_false_iff_ne,ne_eq];simp only [Bool.or_eq_true] at a;rcases a with a|a
   ·obtain ⟨p,q,d,f,k⟩:=R4 a;have:=g.2 p d;have:=i.1 q f;omega
   ·obtain ⟨p,q,d,f,k⟩:=R4 a;have:=i.2 p d;have:=g.1 q f;omega
  ·split at h
   ·rename_i l;cases h;rw [SE.same_eq l];simp [B3]
   ·cases h
 |bc c=>cases h;rfl
 |_=>cases h
theorem Sy {V:Val} {F:List (SB×Bool)} (i:∀e b,(e,b)∈F→Ad V e=b):∀(e:SB) (b:Bool),Dt F e=some b→Ad V e=b:=by
 intro e
 have UO:∀(a:SB),(∀b,Dt F a=some b→Ad V a=b)→∀b,(match I2 a F with
   |some c=>some c
   |none=>Dt F a)=some b→Ad V a=b:=by
  intro a ih b h;split at h
  ·rename_i c d;cases h;exact H6 i d
  ·exact ih b h
 induction e with
 |neg a ih=>
  intro b h;simp only [Dt] at h;show (!Ad V a)=b;split at h
  ·rename_i c d;cases h;rw [H6 i d]
  ·split at h
   ·rename_i c d;cases h;rw [ih c d]
   ·cases h
 |and x y f g=>
  intro b h;simp only [Dt] at h;show (Ad V x&&Ad V y)=b;split at h
  ·rename_i d;cases h;rw [UO x f _ d];rfl
  ·rename_i d;rw [UO x f _ d,UO y g _ h];rfl
  ·split at h
   ·rename_i d;cases h;rw [UO y g _ d];simp
   ·cases h
 |_=>
  intro b h;exact RY i h
theorem As {V:Val} {F:List (SB×Bool)} (a:∀e b,(e,b)∈F→Ad V e=b) {e:SB} {b:Bool} (h:AM F e=some b):Ad V e=b:=by
 unfold AM at h;split at h
 ·rename_i c d;cases h;exact H6 a d
 ·exact Sy a e b h
theorem GA (ρ:Ren) (pos:Bool) (e:SB):VR ρ (mkB pos e) (.bool (Ad U.V e==pos)):=by
 unfold mkB;split
 ·rename_i b h;rw [As U.ok h];exact .bool _
 ·exact .sb pos e
theorem B9 (ρ:Ren) (k:IntKind) (e:SE):VR ρ (mkI k e) (.int k (Ac U.V e)):=by
 have a:=Gm U.ok e;unfold mkI;split
 ·rename_i l h b;rw [b] at a;split
  ·rename_i c;have d:=a.1 l rfl;have f:=a.2 h rfl;have g:l=h:=by simpa using c
   have:Ac U.V e=l:=by omega
   rw [this];exact .int k l
  ·exact .si k e
 ·exact .si k e
theorem Fq {n y:SE} (h:Et n y=true):Ac U.V n=Ac U.V (.lenL y):=by
 unfold Et at h;rw [Bool.or_eq_true] at h;rcases h with h|h
 ·exact Sc h
 ·unfold Lu at h;split at h
  ·rename_i a;have:=As U.ok a;rw [B3] at this;exact eq_of_beq this
  ·cases h
theorem Jn {ρ:Ren} {b c:Nat} {n y d:SE} {v:Value} (h:Et n y=true) (i:VR ρ (.asl b c n d) v):VR ρ (.asl b c (.lenL y) d) v:=by
 have e:=Fq h;cases i with
 |asl _ _ _ _ f base j h0 k l g=>
  have:=VR.asl (ρ:=ρ) b c (.lenL y) d f base j (e▸h0) (e▸k) l g;rw [←e] at this;exact this
 |aslEnd _ _ _ _ a h0 g=>exact .aslEnd _ _ _ _ a (e▸h0) g
section
variable {E:Env} {ρ:Ren} {w:World}
theorem Ch {x:AV} {a:Value} {k:IntKind} {e:SE} (b:VR ρ x a) (h:toI x=some (k,e)):a=.int k (Ac U.V e):=by
 cases b<;>simp only [toI] at h<;>cases h<;>rfl
theorem IA {x:AV} {c:Value} (b:VR ρ x c):VR ρ (Li x) c:=by
 unfold Li;split
 ·rename_i k e;split
  ·rename_i l h g;split
   ·rename_i a;have a:l=h:=by simpa using a
    subst a;cases b with
    |si _ _=>
     obtain ⟨d,f⟩:=Gm U.ok e;rw [g] at d f;have i:=d l rfl;have j:=f l rfl;have:Ac U.V e=l:=by omega
     rw [this];exact .int k l
   ·exact b
  ·exact b
 ·exact b
theorem L9 {f:BinOp} {k g:IntKind} {a b:SE} {r:AV} (t:TypeId) (h:Pz f k a b=some r) :
  ∃v,(binOp f t (.int k (Ac U.V a)) (.int g (Ac U.V b))).run E.P w=.ok v w∧VR ρ r v:=by
 unfold Pz at h;split at h
 ·rename_i c;have c:=As U.ok c
  have d:¬Ac U.V b<0:=by
   rw [Av,BD] at c;simpa using c
  split at h
  ·cases h;have e:Ac U.V (.arith .shl k a b)=k.wrap (Ac U.V a*2^min (Ac U.V b).toNat k.bits):=by simp only [Dz,CK,d,decide_false]
   have:=B9 ρ k (.arith .shl k a b);rw [e] at this;exact ⟨_,by simp only [binOp,Op.shift,d,if_false,Sem.run_pure],this⟩
  ·cases h;have e:Ac U.V (.arith .shr k a b)=(Ac U.V a).fdiv (2^min (Ac U.V b).toNat k.bits):=by simp only [Dz,CK,d,decide_false]
   have:=B9 ρ k (.arith .shr k a b);rw [e] at this;exact ⟨_,by simp only [binOp,Op.shift,d,if_false,Sem.run_pure],this⟩
  ·cases h
 ·cases h
theorem YZ {d:BinOp} {k:IntKind} {a b:SE} {r:AV} (t:TypeId) (h:aF d k a b=some r) :
  ∃v,(binOp d t (.int k (Ac U.V a)) (.int k (Ac U.V b))).run E.P w=.ok v w∧VR ρ r v:=by
 have j:∀{d:BinOp} {n:Int},d≠.shl→d≠.shr→CK d k (Ac U.V a) (Ac U.V b)=some (.int k n)→∃v,(binOp d t (.int k (Ac U.V a)) (.int k (Ac U.V b))).run E.P w=.ok v w∧VR ρ (mkI k (.arith d k a b)) v:=by
  intro d n l m i;obtain ⟨v,o,p⟩:=Jo (E:=E) (w:=w) (ρ:=ρ) t l m i;cases p;refine ⟨_,o,?_⟩;have e:Ac U.V (.arith d k a b)=n:=by simp only [Dz,i]
  have:=B9 ρ k (.arith d k a b);rw [e] at this;exact this
 have g:∀{d:BinOp} {c:Bool} {pos:Bool} {e:SB},d≠.shl→d≠.shr→CK d k (Ac U.V a) (Ac U.V b)=some (.bool c)→(Ad U.V e==pos)=c→∃v,(binOp d t (.int k (Ac U.V a)) (.int k (Ac U.V b))).run E.P w=.ok v w∧VR ρ (mkB pos e) v:=by
  intro d c pos e l m i s;obtain ⟨v,o,p⟩:=Jo (E:=E) (w:=w) (ρ:=ρ) t l m i;cases p;exact ⟨_,o,s▸GA ρ pos e⟩
 have q:∀{b:SE},T0 b=true→(Ac U.V b==0)=false:=by
  intro b f;unfold T0 at f;rw [Bool.or_eq_true] at f;rcases f with f|f
  ·cases b<;>simp [Zp] at f
   simpa [BD] using f
  ·split at f
   ·rename_i u;have:=As U.ok u
    rwa [B3,BD] at this
   ·cases f
 cases d<;>simp only [aF] at h<;>first | (cases h;done)|skip
 case quo=>
  split at h
  ·rename_i f;cases h;exact j (by simp) (by simp) (by simp only [CK,q f];rfl)
  ·cases h
 case rem=>
  split at h
  ·rename_i f;cases h;exact j (by simp) (by simp) (by simp only [CK,q f];rfl)
  ·cases h
 case shl=>exact L9 t h
 case shr=>exact L9 t h
 case eql=>cases h;exact g (by simp) (by simp) rfl (by simp [Av,B3])
 case neq=>cases h;exact g (by simp) (by simp) rfl (by simp only [B3,bne];cases (Ac U.V a==Ac U.V b)<;>rfl)
 case lss=>cases h;exact g (by simp) (by simp) rfl (by simp [Av,B3])
 case leq=>cases h;exact g (by simp) (by simp) rfl (by simp only [Av];by_cases h:Ac U.V a≤Ac U.V b<;>simp [h]<;>omega)
 case gtr=>cases h;exact g (by simp) (by simp) rfl (by simp [Av,B3])
 case geq=>cases h;exact g (by simp) (by simp) rfl (by simp only [Av];by_cases h:Ac U.V a≥Ac U.V b<;>simp [h]<;>omega)
 all_goals cases h;exact j (by simp) (by simp) rfl
theorem Og {a:BinOp} {s b:ByteArray} {e:SB} {r:AV} (t:TypeId) (h:Wu a e=some r) (d:Ad U.V e=strEq s.data.toList.length (AA s.data.toList) b.data.toList.length (AA b.data.toList)) :
  ∃v,(binOp a t (.string s) (.string b)).run E.P w=.ok v w∧VR ρ r v:=by
 have f:∀{a:BinOp} {c:Bool} {pos:Bool},Oy a s.data.toList.length (AA s.data.toList) b.data.toList.length (AA b.data.toList)=some (.bool c)→(Ad U.V e==pos)=c→∃v,(binOp a t (.string s) (.string b)).run E.P w=.ok v w∧VR ρ (mkB pos e) v:=by
  intro a c pos g i;obtain ⟨v,j,k⟩:=Nf (E:=E) (w:=w) (ρ:=ρ) t g;cases k;exact ⟨_,j,i▸GA ρ pos e⟩
 cases a<;>simp only [Wu] at h<;>first | (cases h;done)|skip
 case eql=>cases h;exact f rfl (by rw [d];simp)
 case neq=>cases h;exact f rfl (by rw [d];cases strEq _ _ _ _<;>rfl)
theorem Rd (l a c b:Nat):strEq l a c b=strEq c b l a:=by
 unfold strEq
 have:∀i j:Nat,Nat.beq i j=Nat.beq j i:=fun i j=>by
  cases h:Nat.beq i j with
  |true=>rw [Ay h,Fe]
  |false=>exact (Ef (fun e=>Qe h e.symm)).symm
 rw [this l,this a]
theorem XQ {c:BinOp} {t:TypeId} {ox i:Operand} {x y r:AV} {j l:Value} (d:VR ρ x j) (e:VR ρ y l) (hr:Z8 c x y=some r) :
  ∃v,(do eqGuard c t ox i j l;binOp c t j l:Sem Value).run E.P w=.ok v w∧VR ρ r v:=by
 have fin:∀{a b:Value},(¬(a=.nilIface∧b=.nilIface))→(¬∃n,a=.agg n)→(∃v,(binOp c t a b).run E.P w=.ok v w∧VR ρ r v)→∃v,(do eqGuard c t ox i a b;binOp c t a b:Sem Value).run E.P w=.ok v w∧VR ρ r v:=by
  intro a b f g ⟨v,o,p⟩;have q:(eqGuard c t ox i a b).run E.P w=.ok () w:=BU f (fun h _=>absurd h g)
  exact ⟨v,by simp only [Sem.run_bind,q,Result.andThen_ok,o],p⟩
 unfold Z8 at hr;split at hr
 ·cases d;cases e;exact fin (by simp) (by simp) (Og t hr rfl)
 ·cases d;cases e;exact fin (by simp) (by simp) (Og t hr rfl)
 ·cases d;cases e;exact fin (by simp) (by simp) (Og t hr (by rw [Jw];exact Rd _ _ _ _))
 ·split at hr
  ·rename_i k a s b f g;split at hr
   ·rename_i m;have m:k=s:=by simpa using m
    subst m;rw [Ch d f,Ch e g];exact fin (by simp) (by simp) (YZ t hr)
   ·rw [Ch d f,Ch e g];exact fin (by simp) (by simp) (L9 t hr)
  ·cases hr
end
end Go.AE
namespace Go.AE
variable [Gl:AH]
variable [U:Unk]
theorem ER.length {ρ:Ren}:∀{l:List Aj} {r:List MapEntry},ER ρ l r→l.length=r.length
 |[],[],_=>rfl
 |_::_,_::_,⟨_,_,_,h⟩=>by simp [ER.length h]
section
variable {E:Env} (hE:OK E) {ρ:Ren} {h:Aa} {w:World}
include hE
theorem C4 (C:Bool) (k:Nat):∀(d:Nat) (t:TypeId) (v:AV) (l:Value),BN E d t v=true→VR ρ v l→(Instr.checkKey C (d+k) t l).run E.P w=.ok () w:=by
 intro d
 induction d with
 |zero=>intro t v l h;simp [BN] at h
 |succ d ih=>
  intro t v l h z;rw [show d+1+k=(d+k)+1 from by omega,Instr.checkKey]
  simp only [BN] at h;cases g:E.desc t with
  |none=>simp [g] at h
  |some D=>
   simp only [Sem.run_bind,hE.run_und g,Result.andThen_ok];cases D with
   |int q=>simp
   |string=>simp
   |bool=>simp
   |struct F=>
    simp only [g] at h;cases z<;>simp only [Bool.false_eq_true] at h
    rename_i cs m o p;simp only [ne_eq,Sem.run_bind];rw [←Array.forIn_toList];generalize F.toList=A at h
    induction A with
    |nil=>simp
    |cons f A j=>
     simp only [JR] at h;cases b:Cz E f.type cs f.offset with
     |none=>simp [b] at h
     |some a=>
      simp only [b] at h;cases c:BN E d f.type a with
      |false=>simp [c] at h
      |true=>
       simp only [c] at h;obtain ⟨G,r,s⟩:=hE.run_part b ⟨o,p⟩ w;have u:=ih _ _ _ c s;simp only [List.forIn_cons,Sem.run_bind];by_cases B:f.name = "_"
       ·simp only [B,not_true_eq_false,if_false,Sem.run_pure,Result.andThen_ok];exact j h
       ·simp only [B,not_false_eq_true,if_true,Sem.run_bind,r,u,Result.andThen_ok,Sem.run_pure];exact j h
   |array n e=>
    simp only [g] at h;cases z<;>simp only [Bool.false_eq_true] at h
    rename_i cs m o p;cases x:E.has e with
    |false=>simp [x] at h
    |true=>
     simp only [x] at h;simp only [Std.Legacy.Range.forIn_eq_forIn_range',Std.Legacy.Range.size,Nat.sub_zero,Nat.add_one_sub_one,Nat.div_one];generalize hi:(0:Nat)=i at h ⊢;clear hi g;simp only [Sem.run_bind]
     induction n generalizing i with
     |zero=>simp
     |succ n y=>
      simp only [Lz] at h;cases b:Cz E e cs (i*E.size e) with
      |none=>simp [b] at h
      |some a=>
       simp only [b] at h;cases c:BN E d e a with
       |false=>simp [c] at h
       |true=>
        simp only [c] at h;obtain ⟨G,r,s⟩:=hE.run_part b ⟨o,p⟩ w;have u:=ih _ _ _ c s;simp only [List.range'_succ,List.forIn_cons,Sem.run_bind,hE.run_has x,Result.andThen_ok,r,u,Sem.run_pure];exact y (i+1) h
   |_=>simp [g] at h
def FR (ρ:Ren):Option (Nat×AV)→Option (Nat×Value)→Prop
 |none,none=>True
 |some (i,a),some (j,v)=>i=j∧VR ρ a v
 |_,_=>False
theorem Hc {t:TypeId} {k:AV} {d:Value} (m:VR ρ k d):∀{j:List Aj} {c:List MapEntry} {i:Nat} {r:Option (Nat×AV)},ER ρ j c→Dy E t k j i=some r→
  ∃f,FR ρ r f∧(Instr.findAsking t d c i).run E.P w=.ok f w
 |[],[],i,r,_,h=>by
  simp only [Dy,Option.some.injEq] at h;subst h;exact ⟨none,trivial,by simp [Instr.findAsking]⟩
 |e::j,l::c,i,r,⟨n,o,u,p⟩,h=>by
  simp only [Dy] at h;cases g:aeq E 10000 t k e.key with
  |none=>simp [g] at h
  |some b=>
   have a:(Op.equal t d l.key).run E.P w=.ok b w:=R6 (w:=w) hE 10000 t k e.key b d l.key g m n;cases b with
   |true=>
    simp only [g,Option.some.injEq] at h;subst h;exact ⟨some (i,l.val),⟨rfl,o⟩,by simp [Instr.findAsking,a]⟩
   |false=>
    simp only [g] at h;obtain ⟨f,q,s⟩:=Hc m p h;exact ⟨f,q,by simp [Instr.findAsking,a,s]⟩
omit hE in
theorem Me {t:TypeId} {ds:TypeDesc} (hd:E.desc t=some ds) {x y:AV} {b:Bool} {xv yv:Value} {d:Nat} (ha:aeq E (d+1) t x y=some b) (hx:VR ρ x xv) (hy:VR ρ y yv) :
  Instr.sameNow ds xv yv=some b∨∀u v,Instr.sameNow ds u v=none:=by
 simp only [aeq,hd] at ha;cases ds with
 |int q=>
  cases hx<;>first | (cases ha;done)|skip
  cases hy<;>first | (cases ha;done)|skip
  rename_i k n k' n';by_cases hk:k=k'
  ·subst hk;simp only [decide_true,Option.some.injEq] at ha;subst ha;exact .inl (by simp [Instr.sameNow])
  ·simp [hk] at ha
 |string=>
  cases hx<;>first | (cases ha;done)|skip
  cases hy<;>first | (cases ha;done)|skip
  rename_i s s';simp only [Option.some.injEq] at ha;subst ha;rw [Ck];exact .inl (by simp only [Instr.sameNow];rw [beq_toListBytes])
 |bool=>
  cases hx<;>first | (cases ha;done)|skip
  cases hy<;>first | (cases ha;done)|skip
  simp only [Option.some.injEq] at ha;subst ha;exact .inl (by simp [Instr.sameNow])
 |_=>exact .inr (fun u v=>by cases u<;>cases v<;>rfl)
omit hE in
theorem MC {t:TypeId} {ds:TypeDesc} (hd:E.desc t=some ds) {k:AV} {kv:Value} (hk:VR ρ k kv) (hq:¬∀u v,Instr.sameNow ds u v=none):∀{es:List Aj} {es':List MapEntry} {i:Nat} {r:Option (Nat×AV)},ER ρ es es'→Dy E t k es i=some r→
  ∃r',FR ρ r r'∧Instr.findNow ds kv es' i=some r'
 |[],[],i,r,_,h=>by
  simp only [Dy,Option.some.injEq] at h;subst h;exact ⟨none,trivial,rfl⟩
 |e::es,e'::es',i,r,⟨h1,h2,h3,h4⟩,h=>by
  simp only [Dy] at h;cases ha:aeq E 10000 t k e.key with
  |none=>simp [ha] at h
  |some b=>
   have hs:Instr.sameNow ds kv e'.key=some b:=(Me hd ha hk h1).resolve_right hq;cases b with
   |true=>
    simp only [ha,Option.some.injEq] at h;subst h;exact ⟨some (i,e'.val),⟨rfl,h2⟩,by simp [Instr.findNow,hs]⟩
   |false=>
    simp only [ha] at h;obtain ⟨r',q1,q2⟩:=MC hd hk hq h4 h;exact ⟨r',q1,by simp [Instr.findNow,hs,q2]⟩
theorem Ep {t:TypeId} {ds:TypeDesc} (hd:E.desc t=some ds) {k:AV} {kv:Value} (hk:VR ρ k kv) {es:List Aj} {es':List MapEntry} {r:Option (Nat×AV)} (a:ER ρ es es') (h:Dy E t k es 0=some r) :
  ∃r',FR ρ r r'∧(Instr.findKey t kv es').run E.P w=.ok r' w:=by
 by_cases hq:∀u v,Instr.sameNow ds u v=none
 ·cases es' with
  |nil=>
   cases es with
   |nil=>
    simp only [Dy,Option.some.injEq] at h;subst h;exact ⟨none,trivial,by simp [Instr.findKey,hE.run_und hd,Instr.findNow]⟩
   |cons e es=>cases a
  |cons e' es'=>
   obtain ⟨r',q1,q2⟩:=Hc (w:=w) hE hk a h;exact ⟨r',q1,by simp [Instr.findKey,hE.run_und hd,Instr.findNow,hq,q2]⟩
 ·obtain ⟨r',q1,q2⟩:=MC hd hk hq a h;exact ⟨r',q1,by simp [Instr.findKey,hE.run_und hd,q2]⟩
theorem Sw (hr:HR ρ h.blk.get w) {t:TypeId} {m k a:AV} {J kv:Value} {ok:Bool} (M:VR ρ m J) (hk:VR ρ k kv) (ha:Oo E t m k ok h=some a) :
  ∃v,(Instr.lookup t J kv ok).run E.P w=.ok v w∧VR ρ a v:=by
 unfold Oo at ha;cases hd:E.desc t with
 |none=>simp [hd] at ha
 |some d=>
  cases d with
  |map l N=>
   simp only [hd] at ha;cases c:BN E 20 l k with
   |false=>simp [c] at ha
   |true=>
    cases G:E.zero N with
    |none=>simp [c,G] at ha
    |some z=>
     simp only [c,G] at ha;obtain ⟨K,z1,z2⟩:=hE.run_zero ρ G w;have C:=AL ρ z2;have o:∀H,(Instr.checkKey H 10000 l kv).run E.P w=.ok () w:=fun H=>C4 (w:=w) hE H 9980 20 l k kv c hk
     have f:∃ds,E.desc l=some ds:=by
      simp only [BN] at c;cases hq:E.desc l with
      |none=>simp [hq] at c
      |some ds=>exact ⟨ds,rfl⟩
     obtain ⟨ds,f⟩:=f
     have fin:∀(v:AV) (b:Bool) (A:Value),VR ρ v A→VR ρ (MK ok v b) (if ok then .tuple #[A,.bool b] else A):=by
      intro v b A L;cases ok with
      |true=>
       have:=VL.cons L (VL.cons (VR.bool (ρ:=ρ) b) (VL.nil ρ));exact .tuple _ [A,.bool b] this.1 this.2
      |false=>exact L
     have I:(Instr.findKey l kv []).run E.P w=.ok none w:=by
      obtain ⟨r',q1,q2⟩:=Ep (w:=w) hE f hk (es:=[]) (es':=[]) (r:=none) trivial rfl;cases r' with
      |none=>exact q2
      |some p=>cases q1
     cases M with
     |map0=>
      simp only [Option.some.injEq] at ha;subst ha;refine ⟨_,?_,fin z false K C⟩;simp [Instr.lookup,hE.run_und hd,o,I,z1]
     |map b base O=>
      simp only [] at ha;cases D:h.blk.get b with
      |none=>simp [D] at ha
      |some y=>
       cases y with
       |map es B=>
        simp only [D] at ha;obtain ⟨es',Q,R⟩:=hr.blk b base _ O D;have g:(getObj base.cb).run E.P w=.ok (.map es'.toArray B) w:=by simp [getObj,Sem.run,Q]
        cases F:Dy E l k es 0 with
        |none=>simp [F] at ha
        |some r=>
         obtain ⟨r',q1,q2⟩:=Ep (w:=w) hE f hk R F;cases r with
         |none=>
          simp only [F,Option.some.injEq] at ha;subst ha;cases r' with
          |some p=>cases q1
          |none=>
           refine ⟨_,?_,fin z false K C⟩;simp [Instr.lookup,hE.run_und hd,g,o,q2,z1]
         |some p=>
          obtain ⟨i,v⟩:=p;simp only [F,Option.some.injEq] at ha;subst ha;cases r' with
          |none=>cases q1
          |some S=>
           obtain ⟨j,A⟩:=S;refine ⟨_,?_,fin v true A q1.2⟩;simp [Instr.lookup,hE.run_und hd,g,o,q2]
       |_=>simp [D] at ha
     |_=>simp at ha
  |_=>simp [hd] at ha
end
end Go.AE
namespace Go.AE
variable [Gl:AH]
variable [U:Unk]
theorem ER.get {ρ:Ren}:∀{l:List Aj} {l':List MapEntry} {i:Nat} {e:Aj},ER ρ l l'→l[i]?=some e→∃r,l'[i]?=some r∧VR ρ e.key r.key∧VR ρ e.val r.val∧r.born=e.born
 |[],[],i,e,_,h=>by simp at h
 |a::l,t::l',0,e,⟨I,h2,J,h4⟩,h=>by simp at h;subst h;exact ⟨t,rfl,I,h2,J⟩
 |a::l,t::l',i+1,e,⟨I,h2,J,h4⟩,h=>by simpa using ER.get h4 (by simpa using h)
theorem ER.setVal {ρ:Ren}:∀{l:List Aj} {I:List MapEntry} {i:Nat} {k v:AV} {r t:Value},ER ρ l I→VR ρ k r→VR ρ v t→ER ρ (setVal l i k v) (I.modify i fun e=>{e with key:=r,val:=t})
 |[],[],i,k,v,r,t,_,_,_=>by simp [AE.setVal,ER]
 |a::l,a'::I,0,k,v,r,t,⟨h1,h2,J,h4⟩,hk,hv=>by
  simp only [AE.setVal,List.modify_zero_cons];exact ⟨hk,hv,J,h4⟩
 |a::l,a'::I,i+1,k,v,r,t,⟨h1,h2,J,h4⟩,hk,hv=>by
  simp only [AE.setVal,List.modify_succ_cons];exact ⟨h1,h2,J,ER.setVal h4 hk hv⟩
theorem ER.append {ρ:Ren}:∀{l:List Aj} {l':List MapEntry} {m:List Aj} {r:List MapEntry},ER ρ l l'→ER ρ m r→ER ρ (l++m) (l'++r)
 |[],[],_,_,_,h=>h
 |_::_,_::_,_,_,⟨t,I,J,h4⟩,h=>⟨t,I,J,ER.append h4 h⟩
theorem ER.eraseIdx {ρ:Ren}:∀{l:List Aj} {r:List MapEntry} (i:Nat),ER ρ l r→ER ρ (l.eraseIdx i) (r.eraseIdx i)
 |[],[],i,_=>by simp [ER]
 |_::_,_::_,0,⟨_,_,_,h⟩=>by simpa using h
 |_::_,_::_,i+1,⟨t,I,J,h4⟩=>by
  simp only [List.eraseIdx_cons_succ];exact ⟨t,I,J,ER.eraseIdx i h4⟩
section
variable {E:Env} (hE:OK E) {ρ:Ren} {h:Aa} {w:World}
theorem AB (P:Program) {r:Nat} {o o':Obj} (a:w.heap[r]?=some o) (b:∀c e f,o≠.cells c e f) :
  (setObj r o').run P w=.ok () {w with heap:=w.heap.setIfInBounds r o'}:=by
 cases o<;>simp only [setObj,Sem.run,a]
 exact absurd rfl (b _ _ _)
theorem Au (P:Program) {r:Nat} {o:Obj} (a:w.heap[r]?=some o) (b:∀c e f,o≠.cells c e f) :
  (getObj r).run P w=.ok o w:=by
 cases o<;>simp only [getObj,Sem.run,a]
 exact absurd rfl (b _ _ _)
theorem HR.setObj (hr:HR ρ h.blk.get w) {r:Nat} {base:Br} (t:ρ r=some base) (I:h.blk.get r≠none) (x:Ag) (o':Obj) (J:BR ρ x base (some o')) :
  HR ρ (h.put r x).blk.get {w with heap:=w.heap.setIfInBounds base.cb o'}∧Ext ρ ρ h (h.put r x) w {w with heap:=w.heap.setIfInBounds base.cb o'}:=by
 have l:=hr.lt r base t;refine hr.put t I x _ ?_ (by simp) (fun k hk=>by simp [Array.getElem?_setIfInBounds_ne (Ne.symm hk)]) rfl rfl rfl
 have:({w with heap:=w.heap.setIfInBounds base.cb o'}:World).heap[base.cb]?=some o':=by simp [l]
 rw [this];exact J
theorem Pu:∀{a b:AV},QM a b=true→a=b:=by
 intro a b h;cases a<;>cases b<;>simp only [QM] at h<;>first | (cases h;done)|skip
 ·rename_i x y;cases x<;>cases y<;>first|rfl|cases h
 ·rename_i k x d y;by_cases c:k=d
  ·subst c;simp only [decide_true] at h;rw [eq_of_beq h]
  ·simp [c] at h
 ·rename_i l x g y;obtain ⟨e,f⟩:=An h;rw [Ay e,Ay f]
theorem M5:∀{l m:List AV},JG l m=true→l=m
 |[],[],_=>rfl
 |[],_::_,h=>by simp [JG] at h
 |_::_,[],h=>by simp [JG] at h
 |a::l,b::m,h=>by
  simp only [JG] at h;cases c:QM a b with
  |false=>simp [c] at h
  |true=>simp only [c] at h;rw [Pu c,M5 h]
theorem J6 {a b:AV} (h:GB a b=true):a=b:=by
 cases a<;>cases b<;>first|exact congrArg AV.agg (M5 h)|exact Pu h
theorem DM (P:Program) (b nv:Value) :
  ∃v a,(Instr.keyThatStays b nv).run P w=.ok v a∧(v=nv∨v=b)∧a.heap=w.heap∧a.os=w.os∧a.tape=w.tape∧a.output=w.output:=by
 unfold Instr.keyThatStays;by_cases c:Instr.sameBits 10000 b nv=true
 ·exact ⟨nv,w,by simp [c],.inl rfl,rfl,rfl,rfl,rfl⟩
 ·simp only [c,Bool.false_eq_true,if_false,Sem.run_bind,run_choose,Question.forced,Sem.run_pure];exact ⟨_,_,rfl,by split<;>simp,rfl,rfl,rfl,rfl⟩
include hE
theorem HN (hr:HR ρ h.blk.get w) {t:TypeId} {m k v:AV} {T n q:Value} {h':Aa} (Y:VR ρ m T) (A:VR ρ k n) (V:VR ρ v q) (c:Jf E t m k v h=some h') :
  ∃G,(Instr.mapUpdate t T n q).run E.P w=.ok () G∧HR ρ h'.blk.get G∧Ext ρ ρ h h' w G:=by
 unfold Jf at c;cases x:E.desc t with
 |none=>simp [x] at c
 |some d=>
  cases d with
  |map s et=>
   simp only [x] at c;cases f:BN E 20 s k with
   |false=>simp [f] at c
   |true=>
    simp only [f] at c;have z:∀H,(Instr.checkKey H 10000 s n).run E.P w=.ok () w:=fun H=>C4 (w:=w) hE H 9980 20 s k n f A
    have o:∃B,E.desc s=some B:=by
     simp only [BN] at f;cases Z:E.desc s with
     |none=>simp [Z] at f
     |some B=>exact ⟨B,rfl⟩
    obtain ⟨B,o⟩:=o;cases Y with
    |map b base I=>
     simp only [] at c;cases u:h.blk.get b with
     |none=>simp [u] at c
     |some y=>
      cases y with
      |map C a=>
       simp only [u] at c;obtain ⟨g,J,D⟩:=hr.blk b base _ I u;have l:=Au (w:=w) E.P J (by simp)
       cases F:Dy E s k C 0 with
       |none=>simp [F] at c
       |some r=>
        obtain ⟨W,K,X⟩:=Ep (w:=w) hE o A D F;cases r with
        |none=>
         simp only [F,Option.some.injEq] at c;subst c;cases W with
         |some p=>cases K
         |none=>
          obtain ⟨p1,p2⟩:=hr.setObj I (by rw [u];simp) (.map (C++[{key:=k,val:=v,born:=a}]) (a+1)) (.map (g.toArray.push {key:=n,val:=q,born:=a}) (a+1))
           ⟨g++[{key:=n,val:=q,born:=a}],by simp,D.append ⟨A,V,rfl,trivial⟩⟩
          refine ⟨_,?_,p1,p2⟩;simp [Instr.mapUpdate,hE.run_und x,l,z,X,AB (w:=w) E.P J (by simp)]
        |some p=>
         obtain ⟨i,v0⟩:=p;simp only [F] at c;cases W with
         |none=>cases K
         |some p'=>
          obtain ⟨j,aa⟩:=p';obtain ⟨rfl,q3⟩:=K;cases hi:C[i]? with
          |none=>simp [hi] at c
          |some e=>
           simp only [hi] at c;cases L:GB k e.key with
           |false=>simp [L] at c
           |true=>
            simp only [L,Option.some.injEq] at c;subst c;have M:=J6 L;obtain ⟨e',g1,g2,g3,g4⟩:=D.get hi;obtain ⟨N,w1,s1,s2,O,s4,s5,s6⟩:=DM (w:=w) E.P e'.key n
            have Q:VR ρ k N:=by
             rcases s2 with rfl|rfl
             ·exact A
             ·rw [M];exact g2
            have R:HR ρ h.blk.get w1:=hr.same O
            obtain ⟨p1,p2⟩:=R.setObj I (by rw [u];simp) (.map (setVal C i k v) a) (.map (g.toArray.modify i fun e=>{e with key:=N,val:=q}) a)
             ⟨g.modify i fun e=>{e with key:=N,val:=q},by simp [List.modify_toArray],D.setVal Q V⟩
            refine ⟨_,?_,p1,p2.drawn O s4 s5 s6⟩;have S:w1.heap[base.cb]?=some (.map g.toArray a):=by rw [O];exact J
            simp only [Instr.mapUpdate,Sem.run_bind,hE.run_und x,Result.andThen_ok,l,z,X,List.getElem?_toArray,g1,Option.map_some,Option.getD_some,s1];rw [AB (w:=w1) E.P S (by simp)]
      |_=>simp [u] at c
    |_=>simp at c
  |_=>simp [x] at c
theorem R5 (hr:HR ρ h.blk.get w) {t ty:TypeId} {m k:AV} {J x:Value} {h':Aa} (N:VR ρ m J) (K:VR ρ k x) (c:KJ E t m k h=some h') (v:Array TypeId) (l:v[0]?=some t) :
  ∃B,(Builtin.delete_ v ty #[J,x]).run E.P w=.ok (.tuple #[]) B∧HR ρ h'.blk.get B∧Ext ρ ρ h h' w B:=by
 unfold KJ at c;cases q:E.desc t with
 |none=>simp [q] at c
 |some d=>
  cases d with
  |map s S=>
   simp only [q] at c;cases e:BN E 20 s k with
   |false=>simp [e] at c
   |true=>
    simp only [e] at c;have n:∀C,(Instr.checkKey C 10000 s x).run E.P w=.ok () w:=fun C=>C4 (w:=w) hE C 9980 20 s k x e K
    have o:∃z,E.desc s=some z:=by
     simp only [BN] at e;cases O:E.desc s with
     |none=>simp [O] at e
     |some z=>exact ⟨z,rfl⟩
    obtain ⟨z,o⟩:=o;cases N with
    |map0=>
     simp only [Option.some.injEq] at c;subst c;refine ⟨w,?_,hr,Ext.refl ρ h w⟩;simp [Builtin.delete_,l,hE.run_und q,n]
    |map b base D=>
     simp only [] at c;cases u:h.blk.get b with
     |none=>simp [u] at c
     |some y=>
      cases y with
      |map F a=>
       simp only [u] at c;obtain ⟨f,G,H⟩:=hr.blk b base _ D u;have g:=Au (w:=w) E.P G (by simp)
       cases A:Dy E s k F 0 with
       |none=>simp [A] at c
       |some r=>
        obtain ⟨L,I,M⟩:=Ep (w:=w) hE o K H A;cases r with
        |none=>
         simp only [A,Option.some.injEq] at c;subst c;cases L with
         |some p=>cases I
         |none=>
          obtain ⟨p1,p2⟩:=hr.setObj D (by rw [u];simp) (.map F a) (.map f.toArray a) ⟨f,rfl,H⟩
          refine ⟨_,?_,p1,p2⟩;simp [Builtin.delete_,l,hE.run_und q,g,n,M,AB (w:=w) E.P G (by simp)]
        |some p=>
         obtain ⟨i,T⟩:=p;simp only [A,Option.some.injEq] at c;subst c;cases L with
         |none=>cases I
         |some Q=>
          obtain ⟨j,R⟩:=Q;obtain ⟨rfl,V⟩:=I;obtain ⟨p1,p2⟩:=hr.setObj D (by rw [u];simp) (.map (F.eraseIdx i) a) (.map (f.toArray.eraseIdxIfInBounds i) a) ⟨f.eraseIdx i,by simp,H.eraseIdx i⟩
          refine ⟨_,?_,p1,p2⟩;simp [Builtin.delete_,l,hE.run_und q,g,n,M,AB (w:=w) E.P G (by simp)]
      |_=>simp [u] at c
    |_=>simp at c
  |_=>simp [q] at c
end
end Go.AE
namespace Go.AE
variable [Gl:AH]
variable [U:Unk]
theorem I8 {g:Ren} {n:Nat} {v:AV} {k:Value} (l:VR g v k):∀{c b:List Aj} {a:List MapEntry},ER g c a→Do c n v=some b→
  ∃i,a.findIdx? (fun e=>(e.born:Int)==(n:Int))=some i∧ER g b (a.modify i fun e=>{e with val:=k})
 |[],_,[],_,h=>by simp [Do] at h
 |e::c,b,p::a,⟨m,q,d,o⟩,h=>by
  simp only [Do] at h;cases f:Nat.beq e.born n with
  |true=>
   simp only [f,Option.some.injEq] at h;subst h;have:=Ay f;exact ⟨0,by simp [List.findIdx?_cons,d,this],by simp only [List.modify_zero_cons];exact ⟨m,l,d,o⟩⟩
  |false=>
   simp only [f] at h;cases j:Do c n v with
   |none=>simp [j] at h
   |some r=>
    simp only [j,Option.some.injEq] at h;subst h;obtain ⟨i,s,t⟩:=I8 l o j;have u:=Qe f;refine ⟨i+1,?_,by simp only [List.modify_succ_cons];exact ⟨m,q,d,t⟩⟩
    have:((p.born:Int)==(n:Int))=false:=by rw [d];simp;omega
    simp [List.findIdx?_cons,this,s]
theorem ER.setKey {ρ:Ren} {k:AV} {kv:Value} (hk:VR ρ k kv):∀{l:List Aj} {r:List MapEntry} {i:Nat} {e:Aj},ER ρ l r→l[i]?=some e→ER ρ (AE.setVal l i k e.val) (r.modify i fun e=>{e with key:=kv})
 |[],[],i,e,_,h=>by simp at h
 |a::l,a'::r,0,e,⟨h1,t,I,J⟩,h=>by
  simp at h;subst h;simp only [AE.setVal,List.modify_zero_cons];exact ⟨hk,t,I,J⟩
 |a::l,a'::r,i+1,e,⟨h1,t,I,J⟩,h=>by
  simp only [AE.setVal,List.modify_succ_cons];exact ⟨h1,t,I,ER.setKey hk J (by simpa using h)⟩
section
variable {E:Env} (hE:OK E) {ρ:Ren} {h:Aa} {w:World}
theorem Ma (hr:HR ρ h.blk.get w) {t:TypeId} {m s v:AV} {r u j:Value} {h':Aa} (A:VR ρ m r) (B:VR ρ s u) (C:VR ρ v j) (c:Gr m s v h=some h') :
  ∃l,(Instr.entryStore t r u j).run E.P w=.ok () l∧HR ρ h'.blk.get l∧Ext ρ ρ h h' w l:=by
 unfold Gr at c;cases o:CS s with
 |none=>cases m<;>simp [o] at c
 |some n=>
  obtain ⟨k,rfl⟩:=B0 B o;cases A with
  |map b base x=>
   simp only [o] at c;cases f:h.blk.get b with
   |none=>simp [f] at c
   |some y=>
    cases y with
    |map D a=>
     simp only [f] at c;obtain ⟨p,z,F⟩:=hr.blk b base _ x f;have g:=Au (w:=w) E.P z (by simp)
     cases d:Do D n v with
     |none=>simp [d] at c
     |some q=>
      simp only [d,Option.some.injEq] at c;subst c;obtain ⟨i,G,H⟩:=I8 C F d;obtain ⟨p1,p2⟩:=hr.setObj x (by rw [f];simp) (.map q a) (.map (p.toArray.modify i fun e=>{e with val:=j}) a) ⟨_,by simp [List.modify_toArray],H⟩
      refine ⟨_,?_,p1,p2⟩;simp [Instr.entryStore,g,asInt,asIntOf,G,AB (w:=w) E.P z (by simp)]
    |_=>simp [f] at c
  |_=>simp at c
include hE
theorem Nq (hr:HR ρ h.blk.get w) {t:TypeId} {m k a:AV} {mv s:Value} {h':Aa} (hm:VR ρ m mv) (F:VR ρ k s) (f:O6 E t m k h=some (a,h')) :
  AP E ρ h h' w (Instr.mapEntry t mv s) a:=by
 unfold O6 at f;cases B:E.desc t with
 |none=>simp [B] at f
 |some d=>
  cases d with
  |map x et=>
   simp only [B] at f;cases g:BN E 20 x k with
   |false=>simp [g] at f
   |true=>
    cases L:E.zero et with
    |none=>simp [g,L] at f
    |some z=>
     simp only [g,L] at f;obtain ⟨M,z1,z2⟩:=hE.run_zero ρ L w;have C:=AL ρ z2;have D:∀N,(Instr.checkKey N 10000 x s).run E.P w=.ok () w:=fun N=>C4 (w:=w) hE N 9980 20 x k s g F
     have u:∃G,E.desc x=some G:=by
      simp only [BN] at g;cases hq:E.desc x with
      |none=>simp [hq] at g
      |some G=>exact ⟨G,rfl⟩
     obtain ⟨G,u⟩:=u
     have o:∀(v:AV) (H:Value) (n:Nat),VR ρ v H→VR ρ (.tuple [v,.int .i64 (n:Int)]) (.tuple #[H,goInt n]):=by
      intro v H n hv;have:=VL.cons hv (VL.cons (VR.int (ρ:=ρ) .i64 (n:Int)) (VL.nil ρ));exact .tuple _ [H,goInt n] this.1 this.2
     cases hm with
     |map b base O=>
      simp only [] at f;cases A:h.blk.get b with
      |none=>simp [A] at f
      |some y=>
       cases y with
       |map I c=>
        simp only [A] at f;obtain ⟨l,Q,J⟩:=hr.blk b base _ O A;have q:=Au (w:=w) E.P Q (by simp)
        cases K:Dy E x k I 0 with
        |none=>simp [K] at f
        |some r=>
         obtain ⟨r',R,q2⟩:=Ep (w:=w) hE u F J K;cases r with
         |none=>
          simp only [K,Option.some.injEq,Prod.mk.injEq] at f;obtain ⟨rfl,rfl⟩:=f;cases r' with
          |some p=>cases R
          |none=>
           obtain ⟨p1,p2⟩:=hr.setObj O (by rw [A];simp) (.map (I++[{key:=k,val:=z,born:=c}]) (c+1)) (.map (l.toArray.push {key:=s,val:=M,born:=c}) (c+1))
            ⟨l++[{key:=s,val:=M,born:=c}],by simp,J.append ⟨F,C,rfl,trivial⟩⟩
           refine ⟨ρ,_,_,?_,o z M c C,p1,p2⟩;simp [Instr.mapEntry,hE.run_und B,q,D,q2,z1,AB (w:=w) E.P Q (by simp)]
         |some p=>
          obtain ⟨i,v0⟩:=p;simp only [K] at f;cases r' with
          |none=>cases R
          |some p'=>
           obtain ⟨j,S⟩:=p';obtain ⟨rfl,q3⟩:=R;cases hi:I[i]? with
           |none=>simp [hi] at f
           |some e=>
            simp only [hi] at f;cases T:GB k e.key with
            |false=>simp [T] at f
            |true=>
             simp only [T,Option.some.injEq,Prod.mk.injEq] at f;obtain ⟨rfl,rfl⟩:=f;have V:=J6 T;obtain ⟨e',g1,g2,g3,g4⟩:=J.get hi;obtain ⟨W,w1,s1,s2,X,s4,s5,s6⟩:=DM (w:=w) E.P e'.key s
             have Y:VR ρ k W:=by
              rcases s2 with rfl|rfl
              ·exact F
              ·rw [V];exact g2
             have Z:HR ρ h.blk.get w1:=hr.same X
             obtain ⟨p1,p2⟩:=Z.setObj O (by rw [A];simp) (.map (setVal I i k e.val) c) (.map (l.toArray.modify i fun e=>{e with key:=W}) c)
              ⟨l.modify i fun e=>{e with key:=W},by simp [List.modify_toArray],ER.setKey Y J hi⟩
             refine ⟨ρ,_,_,?_,o v0 S e.born q3,p1,p2.drawn X s4 s5 s6⟩;have aa:w1.heap[base.cb]?=some (.map l.toArray c):=by rw [X];exact Q
             simp only [Instr.mapEntry,Sem.run_bind,hE.run_und B,Result.andThen_ok,q,D,q2,List.getElem?_toArray,g1,Option.map_some,Option.getD_some,s1,g4];rw [AB (w:=w1) E.P aa (by simp)]
             rfl
       |_=>simp [A] at f
     |_=>simp at f
  |_=>simp [B] at f
omit hE in
theorem Ys (hE:OK E) (hr:HR ρ h.blk.get w) {t ty:TypeId} {x a:AV} {xv:Value} (hx:VR ρ x xv) (ha:cz E t x h=some a) (ats:Array TypeId) (hat:ats[0]?=some t) (args:Array Value) (harg:args[0]?=some xv) :
    ∃v,(Builtin.len_ ats ty args).run E.P w=.ok v w∧VR ρ a v:=by
  unfold cz at ha;cases hd:E.desc t with
  |none=>simp [hd] at ha
  |some d=>
    cases d with
    |string=>
      cases hx<;>simp only [hd] at ha<;>first | (cases ha;done)|skip
      · simp only [Option.some.injEq] at ha
        subst ha;rename_i s;refine ⟨goInt s.size,by simp [Builtin.len_,hat,harg,hE.run_und hd],?_⟩
        have:s.data.toList.length=s.size:=by simp
        rw [this];exact .int _ _
      · simp only [Option.some.injEq] at ha
        subst ha;rename_i i;refine ⟨goInt (AR U.V i).size,by simp [Builtin.len_,hat,harg,hE.run_und hd],?_⟩
        have h1:(AR U.V i).data.toList.length=(AR U.V i).size:=by simp
        have h2:=B9 ρ .i64 (.lenS i);have h3:Ac U.V (.lenS i)=((AR U.V i).data.toList.length:Nat):=rfl;rw [h3,h1] at h2;exact h2
    |array n e=>
      simp only [hd,Option.some.injEq] at ha;subst ha;refine ⟨goInt n,?_,.int _ _⟩;cases hx<;>simp [Builtin.len_,hat,harg,hE.run_und hd]
    |slice e=>
      cases hx<;>simp only [hd] at ha<;>first | (cases ha;done)|skip
      all_goals
        simp only [Option.some.injEq] at ha;subst ha
        first
          |exact ⟨_,by simp [Builtin.len_,hat,harg,hE.run_und hd];rfl,.int _ _⟩
          | (rename_i e' x a n c hdv
             obtain ⟨_,_,_,e1,e2⟩:=hdv.slice_inv;cases e1;have q:=B9 ρ .i64 (.lenL x);rw [Ai,e2] at q;exact ⟨_,by simp [Builtin.len_,hat,harg,hE.run_und hd];rfl,q⟩)
          | (rename_i b es n nl cap base hb h0 hc hz hnl
             have q:=B9 ρ .i64 n;refine ⟨goInt (Ac U.V n).toNat,by simp [Builtin.len_,hat,harg,hE.run_und hd],?_⟩
             have e:goInt ((Ac U.V n).toNat:Nat)=.int .i64 (Ac U.V n):=by simp [goInt];omega
             rw [e];exact q)
          | (rename_i b es n nl a h0 hnl
             have q:=B9 ρ .i64 n;rw [h0] at q;exact ⟨_,by simp [Builtin.len_,hat,harg,hE.run_und hd];rfl,q⟩)
    |map k e=>
      cases hx<;>simp only [hd] at ha<;>first | (cases ha;done)|skip
      · simp only [Option.some.injEq] at ha
        subst ha;exact ⟨goInt 0,by simp [Builtin.len_,hat,harg,hE.run_und hd],.int _ _⟩
      · rename_i b base hb
        cases hg:h.blk.get b with
        |none=>simp [hg] at ha
        |some y=>
          cases y with
          |map es clock=>
            simp only [hg,Option.some.injEq] at ha;subst ha;obtain ⟨es',e1,e2⟩:=hr.blk b base _ hb hg;have hget:=Au (w:=w) E.P e1 (by simp)
            refine ⟨goInt es'.length,by simp [Builtin.len_,hat,harg,hE.run_und hd,hget],?_⟩
            rw [e2.length];exact .int _ _
          |dmap kt vt x=>
            simp only [hg,Option.some.injEq] at ha;subst ha;obtain ⟨kks,vks,es',clock,_,_,e1,e2,_⟩:=hr.blk b base _ hb hg;have hget:=Au (w:=w) E.P e1 (by simp)
            refine ⟨goInt es'.length,by simp [Builtin.len_,hat,harg,hE.run_und hd,hget],?_⟩
            have q:=B9 ρ .i64 (.lenL x);rw [Ai,←e2.length] at q;exact q
          |_=>simp [hg] at ha
    |_=>cases hx<;>simp [hd] at ha
end
end Go.AE

