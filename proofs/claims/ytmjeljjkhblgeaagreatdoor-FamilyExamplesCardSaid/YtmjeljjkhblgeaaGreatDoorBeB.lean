/- What is proved here: an evaluator of the model's steps that the kernel can run, and that whatever it answers is what the model does (part 2 of 8: AeOps2, AeStr, AeOps3, AeOps4, AeOps5, AeOps6, AeOps7, AeOps8, AeOps9, AeOps10, AeOps11, AeSym, AeOps12, AeOps13, AeOps14). Conditions: those that each theorem states; they hold of no one program. -/
import Derived.Test.YtmjeljjkhblgeaaGreatDoorBeA
import Derived.Laws.Strings
import Derived.IntWalk
import Derived.Laws.Append
import Derived.Laws.AppendOwn
import Derived.Laws.StructEq
import Derived.ChangeKeysEq
import Derived.Laws.Closers25b
import Derived.Laws.BytesString
set_option linter.unusedVariables false
set_option linter.unusedSectionVars false
set_option linter.unusedSimpArgs false
namespace Go.AE
variable [Gl:Au]
variable [U:Unk]
theorem Cs {i j:Nat} (h:Nat.ble i j=true):i≤j:=Nat.le_of_ble_eq_true h
theorem FY {i j:Nat} (h:Nat.blt i j=true):i<j:=Nat.le_of_ble_eq_true h
theorem Am {a b:Bool} (h:(a&&b)=true):a=true∧b=true:=by simpa using h
theorem orF {a b:Bool} (h:(a||b)=true):a=true∨b=true:=by simpa using h
theorem BJ (b o n:Nat):(⟨b,o,none⟩:Addr).add n=⟨b,o+n,none⟩:=by
 unfold Addr.add;split
 ·next h=>subst h;rfl
 ·rfl
section
variable {ρ:Ren} {g:Nat→Option Ac} {w:World}
theorem HR.cell (hr:HR ρ g w) {b n i:Nat} {base:Bf} {c:T AV} {a:AV} (hb:ρ b=some base) (hg:g b=some (.cells n c)) (hi:i<n) (ha:c.get i=some a) :
  ∃v,w.cell? ⟨base.cb,base.co+i,none⟩=some v∧VR ρ a v:=by
 obtain ⟨cur,e,fz,h1,h2,h3,h4,h5⟩:=hr.blk b base _ hb hg;obtain ⟨v,hv,hvr⟩:=h5 i a hi ha;exact ⟨v,by simp [World.cell?,h1,hv],hvr⟩
theorem Cu (P:Program) (b o:Nat):∀(vs:List Value) (i:Nat) (acc:Array Value),(∀j v,vs[j]?=some v→w.cell? ⟨b,o+(i+j),none⟩=some v)→
  (loadCellsFrom ⟨b,o,none⟩ i vs.length acc).run P w=.ok (acc++vs.toArray) w:=by
 intro vs
 induction vs with
 |nil=>intro i acc _;simp [loadCellsFrom]
 |cons v r ih=>
  intro i acc h;have h0:=h 0 v rfl;simp only [Nat.add_zero] at h0;simp only [List.length_cons,loadCellsFrom,Sem.run_bind,run_load,BJ,h0,Result.andThen_ok];rw [ih (i+1) (acc.push v) (fun j u hu=>by have:=h (j+1) u (by simpa using hu);rwa [show i+(j+1)=i+1+j from by omega] at this)]
  simp
theorem HR.loadCells (hr:HR ρ g w) (P:Program) {b n off k:Nat} {base:Bf} {c:T AV} {l:List AV} (hb:ρ b=some base) (hg:g b=some (.cells n c)) (hk:off+k≤n) (hl:c.range off k=some l) :
  ∃vs:List Value,VL ρ l vs∧(loadCells ⟨base.cb,base.co+off,none⟩ k).run P w=.ok vs.toArray w∧(∀j v,vs[j]?=some v→w.cell? ⟨base.cb,base.co+off+j,none⟩=some v):=by
 obtain ⟨hlen,hget⟩:=T.range_spec c k off l hl
 have hex:∀m,m≤k→∃vs:List Value,vs.length=m∧∀j,j<m→∃a v,l[j]?=some a∧vs[j]?=some v∧VR ρ a v∧w.cell? ⟨base.cb,base.co+off+j,none⟩=some v:=by
  intro m
  induction m with
  |zero=>intro _;exact ⟨[],rfl,fun j h=>absurd h (Nat.not_lt_zero _)⟩
  |succ m ih=>
   intro hm;obtain ⟨vs,h1,h2⟩:=ih (by omega)
   have hlm:m<l.length:=by omega
   have ha:c.get (off+m)=some l[m]:=by rw [hget m (by omega)];simp [hlm]
   obtain ⟨v,hv,hvr⟩:=hr.cell hb hg (by omega) ha
   refine ⟨vs++[v],by simp [h1],fun j hj=>?_⟩
   by_cases e:j<m
   ·obtain ⟨a,u,q1,q2,q3,q4⟩:=h2 j e;exact ⟨a,u,q1,by rw [List.getElem?_append_left (by omega)];exact q2,q3,q4⟩
   ·have:j=m:=by omega
    subst this;exact ⟨l[j],v,by simp [hlm],by rw [List.getElem?_append_right (by omega)];simp [h1],hvr,by rw [←hv];congr 2;omega⟩
 obtain ⟨vs,h1,h2⟩:=hex k (Nat.le_refl k)
 have hcell:∀j v,vs[j]?=some v→w.cell? ⟨base.cb,base.co+off+j,none⟩=some v:=by
  intro j v hv;have hj:j<k:=by have:=(List.getElem?_eq_some_iff.1 hv).1;omega
  obtain ⟨a,u,q1,q2,q3,q4⟩:=h2 j hj;rw [q2] at hv;cases hv;exact q4
 refine ⟨vs,⟨by omega,fun i a v ha hv=>?_⟩,?_,hcell⟩
 ·have hi:i<k:=by have:=(List.getElem?_eq_some_iff.1 hv).1;omega
  obtain ⟨a',v',q1,q2,q3,_⟩:=h2 i hi;rw [q1] at ha;rw [q2] at hv;cases ha;cases hv;exact q3
 ·unfold Go.loadCells;have:=Cu (w:=w) P base.cb (base.co+off) vs 0 #[] (fun j v hv=>by simpa using hcell j v hv)
  rw [h1] at this;simpa using this
theorem BN (P:Program) (b o:Nat) (e:TypeId) (fz:Nat×Nat):∀(l:List Value) (i:Nat) (w:World) (cur:Array Value),w.heap[b]?=some (.cells cur e fz)→o+i+l.length≤cur.size→
  (fz.1=fz.2∨cur.size≤fz.1)→(∀v∈l,v.oneCell'=true)→
  ∃w' cur',(storeCells ⟨b,o,none⟩ l i).run P w=.ok () w'∧w'.heap[b]?=some (.cells cur' e fz)∧cur'.size=cur.size∧(∀j,cur'[j]?=if o+i≤j∧j<o+i+l.length then l[j-(o+i)]? else cur[j]?)∧
   w'.heap.size=w.heap.size∧(∀k,k≠b→w'.heap[k]?=w.heap[k]?)∧w'.os=w.os∧w'.tape=w.tape∧w'.output=w.output:=by
 intro l
 induction l with
 |nil=>
  intro i w cur h1 h2 h3 h4;exact ⟨w,cur,by simp [storeCells],h1,rfl,fun j=>by rw [if_neg (by simp)],rfl,fun _ _=>rfl,rfl,rfl,rfl⟩
 |cons v r ih=>
  intro i w cur h1 h2 h3 h4;have hv:=h4 v (by simp)
  simp only [List.length_cons] at h2;have hlt:o+i<cur.size:=by omega
  have hcell:w.cell? ⟨b,o+i,none⟩=some cur[o+i]:=by simp [World.cell?,h1,hlt]
  have hfrz:w.frozen? ⟨b,o+i,none⟩=false:=by
   simp only [World.frozen?,h1];rcases h3 with h3|h3
   ·simp;omega
   ·simp;omega
  have hb:b<w.heap.size:=(Array.getElem?_eq_some_iff.1 h1).1
  have hset:(w.setCell ⟨b,o+i,none⟩ v).heap[b]?=some (.cells (cur.setIfInBounds (o+i) v) e fz):=by
   simp only [World.setCell,Array.getElem?_modify];simp [h1]
  obtain ⟨w',cur',q1,q2,q3,q4,q5,q6,q7,q8,q9⟩:=ih (i+1) (w.setCell ⟨b,o+i,none⟩ v) (cur.setIfInBounds (o+i) v) hset (by simp;omega) (by simpa using h3) (fun u hu=>h4 u (by simp [hu]))
  refine ⟨w',cur',?_,q2,by simpa using q3,?_,?_,?_,?_,?_,?_⟩
  ·simp only [storeCells,Sem.run_bind,BJ,run_store _ _ _ _ _ hv,hcell,hfrz];simpa using q1
  ·intro j;rw [q4 j];simp only [List.length_cons];by_cases c1:o+(i+1)≤j∧j<o+(i+1)+r.length
   ·rw [if_pos c1,if_pos (by omega)]
    have:j-(o+i)=(j-(o+(i+1)))+1:=by omega
    rw [this,List.getElem?_cons_succ]
   ·rw [if_neg c1];by_cases c2:j=o+i
    ·subst c2;rw [if_pos (by omega)]
     simp [hlt]
    ·rw [if_neg (by omega),Array.getElem?_setIfInBounds_ne (fun h=>c2 h.symm)]
  ·rw [q5];simp [World.setCell]
  ·intro k hk;rw [q6 k hk];simp only [World.setCell,Array.getElem?_modify];rw [if_neg (fun h=>hk h.symm)]
  ·rw [q7];rfl
  ·rw [q8];rfl
  ·rw [q9];rfl
theorem VR.one {a:AV} {v:Value} (h:VR ρ a v) (ho:a.one=true):v.oneCell'=true:=by
 cases h<;>simp_all [AV.one,Value.oneCell']
theorem Gg:∀{l:List AV} {l':List Value},DF l=true→VL ρ l l'→∀v∈l',v.oneCell'=true:=by
 intro l
 induction l with
 |nil=>intro l' _ h;rw [h.nil_inv];simp
 |cons a r ih=>
  intro l' h1 h2;obtain ⟨v,r',rfl,hv,hr⟩:=h2.cons_inv;simp only [DF] at h1;cases ho:a.one with
  |false=>simp [ho] at h1
  |true=>
   simp only [ho] at h1;intro u hu;rcases List.mem_cons.1 hu with rfl|hu
   ·exact hv.one ho
   ·exact ih h1 hr u hu
end
theorem HR.storeN {ρ:Ren} {h h':Aa} {w:World} (hr:HR ρ h.blk.get w) (P:Program) {b off:Nat} {base:Bf} {l:List AV} {l':List Value} (hb:ρ b=some base) (hl:VL ρ l l') (hs:storeN h b off l=some h') :
  ∃w',(storeCells ⟨base.cb,base.co+off,none⟩ l' 0).run P w=.ok () w'∧HR ρ h'.blk.get w'∧Ext ρ ρ h h' w w':=by
 unfold AE.storeN at hs;cases hg:h.blk.get b with
 |none=>simp [hg] at hs
 |some x=>
  cases x with
  |cells n c=>
   simp only [hg] at hs;cases hc:(Nat.ble (off+l.length) n&&DF l) with
   |false=>simp [hc] at hs
   |true=>
    simp only [hc,Option.some.injEq] at hs;subst hs;obtain ⟨c1,c2⟩:=Am hc;have hlen:=Cs c1;obtain ⟨cur,e,fz,h1,h2,h3,h4,h5⟩:=hr.blk b base _ hb hg;obtain ⟨w',cur',q1,q2,q3,q4,q5,q6,q7,q8,q9⟩:=BN P base.cb (base.co+off) e fz l' 0 w cur h1 (by rw [←hl.1,h2];omega) (by rw [h2];exact h4) (Gg c2 hl)
    refine ⟨w',q1,?_⟩;refine hr.put hb (by rw [hg];simp) _ w' ?_ q5 q6 q7 q8 q9
    refine ⟨cur',e,fz,q2,by rw [q3,h2],h3,h4,?_⟩
    intro i a hi ha;rw [EA] at ha;rw [q4 (base.co+i)];simp only [Nat.add_zero];by_cases c:off≤i∧i<off+l.length
    ·rw [if_pos c] at ha;rw [if_pos (by rw [←hl.1];omega)]
     obtain ⟨v,hv,hvr⟩:=hl.get ha;exact ⟨v,by rw [←hv];congr 1;omega,hvr⟩
    ·rw [if_neg c] at ha;rw [if_neg (by rw [←hl.1];omega)]
     exact h5 i a hi ha
  |_=>simp [hg] at hs
theorem HR.newRow {ρ:Ren} {h:Aa} {w:World} (hr:HR ρ h.blk.get w) (hf:ρ h.nx=none) (e:TypeId) {n:Nat} {c:T AV} (arr:Array Value) (hn:n≤arr.size)
  (hc:∀i a,i<n→c.get i=some a→∃v,arr[i]?=some v∧VR ρ a v) :
  ∃σ:Ren,σ h.nx=some ⟨w.heap.size,0,arr.size⟩∧HR σ (h.new (.cells n c)).blk.get {w with heap:=w.heap.push (.cells arr e)}∧
  Ext ρ σ h (h.new (.cells n c)) w {w with heap:=w.heap.push (.cells arr e)}:=by
 refine ⟨ρ.upd h.nx ⟨w.heap.size,0,arr.size⟩,Ren.upd_same _ _ _,?_⟩;refine hr.new hf _ _ _ ?_ _ rfl rfl rfl rfl;refine ⟨_,_,_,rfl,rfl,by simpa using hn,.inl rfl,?_⟩
 intro i a hi ha;obtain ⟨v,hv,hvr⟩:=hc i a hi ha;exact ⟨v,by simpa using hv,hvr.mono (Ren.le_upd hf _)⟩
theorem HR.newList {ρ:Ren} {h:Aa} {w:World} (hr:HR ρ h.blk.get w) (hf:ρ h.nx=none) (e:TypeId) {l:List AV} (arr:Array Value) (hl:VL ρ l arr.toList) :
  ∃σ:Ren,σ h.nx=some ⟨w.heap.size,0,arr.size⟩∧HR σ (A4 h l).blk.get {w with heap:=w.heap.push (.cells arr e)}∧
  Ext ρ σ h (A4 h l) w {w with heap:=w.heap.push (.cells arr e)}:=by
 refine hr.newRow hf e arr (by have:=hl.1;simp at this;omega) ?_
 intro i a hi ha;rw [T.get_ofList] at ha;obtain ⟨v,hv,hvr⟩:=hl.get ha;exact ⟨v,by simpa using hv,hvr⟩
end Go.AE
namespace Go.AE
variable [Gl:Au]
variable [U:Unk]
theorem M1:∀(l:List UInt8),As l<256^l.length
 |[]=>by simp [As]
 |b::r=>by
  have h1:=M1 r;have h2:b.toNat<256:=b.toNat_lt;simp only [As,List.length_cons,Nat.pow_succ];omega
theorem Ew:∀(l m:List UInt8),As (l++m)=As l+As m*256^l.length
 |[],m=>by simp [As]
 |b::r,m=>by
  have:=Ew r m;simp only [List.cons_append,As,this,List.length_cons,Nat.pow_succ,Nat.mul_add];rw [Nat.add_assoc,Nat.mul_left_comm,Nat.mul_comm 256 (256^r.length)]
theorem Lj:∀(l m:List UInt8),l.length=m.length→As l=As m→l=m
 |[],[],_,_=>rfl
 |[],_::_,h,_=>by simp at h
 |_::_,[],h,_=>by simp at h
 |a::l,b::m,h,e=>by
  simp only [As] at e;have h1:a.toNat<256:=a.toNat_lt;have h2:b.toNat<256:=b.toNat_lt;have ha:a.toNat=b.toNat:=by omega
  have hp:As l=As m:=by omega
  rw [Lj l m (by simpa using h) hp,UInt8.toNat_inj.1 ha]
theorem Md (n:Nat):2^(8*n)=256^n:=by rw [Nat.pow_mul]
theorem Gy:∀(n:Nat) (l:List UInt8),As l/256^n=As (l.drop n)
 |0,l=>by simp
 |n+1,[]=>by simp [As]
 |n+1,b::r=>by
  have h2:b.toNat<256:=b.toNat_lt;simp only [As,List.drop_succ_cons,Nat.pow_succ];rw [←Gy n r,Nat.mul_comm (256^n) 256,←Nat.div_div_eq_div_mul]
  congr 1
  omega
theorem PK:∀(n:Nat) (l:List UInt8),n≤l.length→As l%256^n=As (l.take n):=by
 intro n l h;have e:=Ew (l.take n) (l.drop n);rw [List.take_append_drop] at e;have hl:(l.take n).length=n:=by simp;omega
 rw [hl] at e;rw [e,Nat.add_mul_mod_self_right,Nat.mod_eq_of_lt];have:=M1 (l.take n)
 rwa [hl] at this
theorem Le {l:List UInt8} {n:Nat} (h:n<l.length):As l/2^(8*n)%256=l[n].toNat:=by
 rw [Md,Gy,List.drop_eq_getElem_cons h];simp only [As];have:=l[n].toNat_lt;omega
theorem KD {l:List UInt8} {a b:Nat} (h1:a≤b) (h2:b≤l.length):As l/2^(8*a)%2^(8*(b-a))=As ((l.drop a).take (b-a)):=by
 rw [Md,Md,Gy,PK];simp;omega
theorem Dq (b:UInt8) (r:List UInt8):As (b::r)%256=b.toNat∧As (b::r)/256=As r:=by
 have:=b.toNat_lt;simp only [As];omega
theorem Ck (s t:ByteArray):strEq s.data.toList.length (As s.data.toList) t.data.toList.length (As t.data.toList)=(s.toList==t.toList):=by
 have hs:∀u:ByteArray,u.toList=u.data.toList:=fun u=>ByteArray.toList_eq u
 rw [hs,hs];unfold strEq;rw [Bool.eq_iff_iff];simp only [Bool.and_eq_true,beq_iff_eq];constructor
 ·rintro ⟨h1,h2⟩
  exact Lj _ _ (Aq h1) (Aq h2)
 ·intro h;rw [h];exact ⟨El _,El _⟩
theorem L8:∀(f:Nat) (l m:List UInt8),l.length<f→Di f l.length (As l) m.length (As m)=Op.bytesLess l m:=by
 intro f
 induction f with
 |zero=>intro l m h;omega
 |succ f ih=>
  intro l m h;cases m with
  |nil=>cases l<;>simp [Di,Op.bytesLess]
  |cons b m=>
   cases l with
   |nil=>simp [Di,Op.bytesLess]
   |cons a l=>
    obtain ⟨h1,h2⟩:=Dq a l;obtain ⟨h3,h4⟩:=Dq b m;simp only [Di,List.length_cons,Op.bytesLess,h1,h2,h3,h4];simp only [List.length_cons] at h;by_cases hlt:a.toNat<b.toNat
    ·have e:Nat.blt a.toNat b.toNat=true:=by simp [Nat.blt];omega
     have e2:a<b:=UInt8.lt_iff_toNat_lt.2 hlt;simp [e,e2]
    ·have e:Nat.blt a.toNat b.toNat=false:=by
      cases q:Nat.blt a.toNat b.toNat with
      |false=>rfl
      |true=>exact absurd (FY q) hlt
     have e2:¬a<b:=fun q=>hlt (UInt8.lt_iff_toNat_lt.1 q)
     simp only [e,e2,decide_false,Bool.false_or];by_cases heq:a=b
     ·subst heq;rw [El];simp [ih l m (by omega)]
     ·have e3:Nat.beq a.toNat b.toNat=false:=Dx (fun q=>heq (UInt8.toNat_inj.1 q))
      simp [e3,heq]
end Go.AE
namespace Go.AE
variable [Gl:Au]
variable [U:Unk]
section
variable {E:Env} (hE:OK E) {ρ:Ren} {h:Aa} {w:World}
include hE
theorem N3 (hr:HR ρ h.blk.get w) {t:TypeId} {x a:AV} {xv:Value} (hx:VR ρ x xv) (hl:LG E t x h=some a) :
  ∃v,(Instr.loadAt t xv).run E.P w=.ok v w∧VR ρ a v:=by
 unfold LG at hl;cases hd:E.desc t with
 |none=>simp [hd] at hl
 |some d=>
  cases hx with
  |ptr b off base hb=>
   simp only [hd] at hl;unfold Instr.loadAt loadVar;simp only [Instr.sureAddr,Sem.run_bind,Sem.run_pure,Result.andThen_ok,hE.run_isAgg hd];cases hag:Fy d with
   |true=>
    simp only [hag] at hl;cases hn:B1 h b off (E.size t) with
    |none=>simp [hn] at hl
    |some l=>
     simp only [hn,Option.map_some,Option.some.injEq] at hl;subst hl;unfold B1 at hn;cases hg:h.blk.get b with
     |none=>simp [hg] at hn
     |some y=>
      cases y with
      |cells sz c=>
       simp only [hg] at hn;cases hc:Nat.ble (off+E.size t) sz with
       |false=>simp [hc] at hn
       |true=>
        simp only [hc] at hn;obtain ⟨vs,q1,q2,_⟩:=hr.loadCells E.P hb hg (Cs hc) hn;simp only [if_true,Sem.run_bind,hE.run_size hd,Result.andThen_ok,q2,Sem.run_pure];exact ⟨_,rfl,.agg _ _ q1.1 q1.2⟩
      |_=>simp [hg] at hn
   |false=>
    simp only [hag] at hl;cases hg:h.blk.get b with
    |none=>simp [hg] at hl
    |some y=>
     cases y with
     |cells sz c=>
      simp only [hg] at hl;cases hc:Nat.blt off sz with
      |false=>simp [hc] at hl
      |true=>
       simp only [hc] at hl;obtain ⟨v,q1,q2⟩:=hr.cell hb hg (FY hc) hl;simp only [Bool.false_eq_true,if_false,run_load,q1];exact ⟨v,rfl,q2⟩
     |_=>simp [hg] at hl
  |_=>simp [hd] at hl
theorem Ra (hr:HR ρ h.blk.get w) {t:TypeId} {x a:AV} {xv v:Value} {h':Aa} (hx:VR ρ x xv) (ha:VR ρ a v) (hl:HL E t x a h=some h') :
  ∃w',(Instr.storeAt t xv v).run E.P w=.ok () w'∧HR ρ h'.blk.get w'∧Ext ρ ρ h h' w w':=by
 unfold HL at hl;cases hx with
 |ptr b off base hb=>
  simp only [] at hl;cases hs:E.szIs t a.cells.length with
  |false=>simp [hs] at hl
  |true=>
   simp only [hs] at hl
   have ht:a≠.top:=by
    rintro rfl
    unfold storeN at hl;cases hg:h.blk.get b with
    |none=>simp [hg] at hl
    |some y=>cases y<;>simp [hg,AV.cells,DF,AV.one] at hl
   have hcs:=ha.cells ht;obtain ⟨w',q1,q2,q3⟩:=hr.storeN E.P hb hcs hl;refine ⟨w',?_,q2,q3⟩;unfold Instr.storeAt storeVar;have e:v.cells.size=a.cells.length:=by have:=hcs.1;simp at this;omega
   simp [Instr.sureAddr,hE.run_szIs hs,e,q1]
 |_=>simp at hl
theorem KH {t:TypeId} {x a:AV} {f:Nat} {xv:Value} (hx:VR ρ x xv) (hl:Gd E t x f=some a) :
  ∃v,(Instr.fieldAt t xv f).run E.P w=.ok v w∧VR ρ a v:=by
 unfold Gd at hl;cases hd:E.desc t with
 |none=>simp [hd] at hl
 |some d=>
  cases d with
  |struct fs=>
   cases hx with
   |ptr b off base hb=>
    simp only [hd] at hl;cases hf:fs.toList[f]? with
    |none=>simp [hf] at hl
    |some fd=>
     simp only [hf] at hl;have hf':fs[f]?=some fd:=by simpa using hf
     cases hs:E.size fd.type with
     |zero=>simp [hs] at hl
     |succ n=>
      simp only [hs,Option.some.injEq] at hl;subst hl
      have hsz:∀w,(sizeOf fd.type).run E.P w=.ok (n+1) w:=by
       intro w;unfold Env.size at hs;cases hi:E.ty.get fd.type with
       |none=>simp [hi] at hs
       |some i=>simp only [hi] at hs;rw [hE.run_sz hi,hs]
      refine ⟨.pointer (some ⟨base.cb,base.co+(off+fd.offset),none⟩),?_,.ptr b _ base hb⟩;simp [Instr.fieldAt,hE.run_und hd,hf',Instr.sureAddr,fieldPlace,hsz,BJ,Nat.add_assoc]
   |_=>simp [hd] at hl
  |_=>cases hx<;>simp [hd] at hl
theorem RG {t:TypeId} {x a:AV} {f:Nat} {xv:Value} (hx:VR ρ x xv) (hl:L6 E t x f=some a) :
  ∃v,(Instr.field t xv f).run E.P w=.ok v w∧VR ρ a v:=by
 unfold L6 at hl;cases hd:E.desc t with
 |none=>simp [hd] at hl
 |some d=>
  cases d with
  |struct fs=>
   cases hx with
   |agg l l' h1 h2=>
    simp only [hd] at hl;cases hf:fs.toList[f]? with
    |none=>simp [hf] at hl
    |some fd=>
     simp only [hf] at hl;have hf':fs[f]?=some fd:=by simpa using hf
     obtain ⟨v,q1,q2⟩:=hE.run_part (cs':=l') hl ⟨h1,h2⟩ w;exact ⟨v,by simp [Instr.field,hE.run_und hd,hf',asAgg,q1],q2⟩
   |_=>simp [hd] at hl
  |_=>cases hx<;>simp [hd] at hl
omit hE in
theorem BF {ρ:Ren} {a:AV} {v:Value} {n:Nat} (hv:VR ρ a v) (h:Cm a=some n):∃k,v=.int k (n:Int):=by
 cases hv with
 |int k m=>
  cases m with
  |ofNat m=>simp only [Cm,Option.some.injEq] at h;subst h;exact ⟨k,rfl⟩
  |negSucc m=>simp [Cm] at h
 |_=>simp [Cm] at h
theorem KF {t:TypeId} {x i a:AV} {xv iv:Value} (hx:VR ρ x xv) (hi:VR ρ i iv) (hl:Gm E t x i=some a) :
  ∃v,(Instr.indexAt t xv iv).run E.P w=.ok v w∧VR ρ a v:=by
 unfold Gm at hl;cases hd:E.desc t with
 |none=>simp [hd] at hl
 |some d=>
  cases hn:Cm i with
  |none=>cases d<;>cases x<;>simp [hd,hn] at hl
  |some n=>
   obtain ⟨k,rfl⟩:=BF hi hn;cases d with
   |slice e=>
    cases hx with
    |slice b off len es cap base hb hc hz=>
     simp only [hd,hn] at hl;cases hc2:(Nat.blt n len&&E.szIs e es) with
     |false=>simp [hc2] at hl
     |true=>
      simp only [hc2,Option.some.injEq] at hl;subst hl;obtain ⟨c1,c2⟩:=Am hc2;have hlt:=FY c1;refine ⟨.pointer (some ⟨base.cb,base.co+(off+n*es),none⟩),?_,.ptr b _ base hb⟩;simp [Instr.indexAt,asIntOf,hE.run_und hd,hE.run_szIs c2,hlt,BJ,Nat.add_assoc]
    |sliceEnd b off es a=>
     have e0:Nat.blt n 0=false:=rfl;simp [hd,hn,e0] at hl
    |_=>simp [hd,hn] at hl
   |array len e=>
    cases hx with
    |ptr b off base hb=>
     simp only [hd,hn] at hl;cases hc2:(Nat.blt n len&&E.has e) with
     |false=>simp [hc2] at hl
     |true=>
      simp only [hc2,Option.some.injEq] at hl;subst hl;obtain ⟨c1,c2⟩:=Am hc2;have hlt:=FY c1;refine ⟨.pointer (some ⟨base.cb,base.co+(off+n*E.size e),none⟩),?_,.ptr b _ base hb⟩;simp [Instr.indexAt,asIntOf,hE.run_und hd,hE.run_has c2,Instr.sureAddr,hlt,BJ,Nat.add_assoc]
    |_=>simp [hd,hn] at hl
   |_=>cases hx<;>simp [hd,hn] at hl
theorem Rl {t:TypeId} {x i a:AV} {xv iv:Value} (hx:VR ρ x xv) (hi:VR ρ i iv) (hl:OY E t x i=some a) :
  ∃v,(Instr.index t xv iv).run E.P w=.ok v w∧VR ρ a v:=by
 unfold OY at hl;cases hd:E.desc t with
 |none=>simp [hd] at hl
 |some d=>
  cases hn:Cm i with
  |none=>cases d<;>cases x<;>simp [hd,hn] at hl
  |some n=>
   obtain ⟨k,rfl⟩:=BF hi hn;cases d with
   |string=>
    cases hx with
    |str s=>
     simp only [hd,hn] at hl;cases hc:Nat.blt n s.data.toList.length with
     |false=>simp only [hc] at hl;cases hl
     |true=>
      simp only [hc,Option.some.injEq] at hl;subst hl;have hlt:=FY hc;have hsz:n<s.size:=by simpa using hlt
      have e:s[n]?=some s.data.toList[n]:=by
       rw [getElem?_pos s n hsz];rfl
      rw [Le hlt];refine ⟨.int .u8 (s.data.toList[n].toNat:Nat),?_,.int _ _⟩;simp only [Instr.index,asIntOf,Sem.run_bind,Sem.run_pure,Result.andThen_ok,hE.run_und hd];rw [if_pos (by omega),Int.toNat_natCast,e]
      rfl
    |_=>simp [hd,hn] at hl
   |array len e=>
    cases hx with
    |agg l l' h1 h2=>
     simp only [hd,hn] at hl;cases hc2:Nat.blt n len with
     |false=>simp [hc2] at hl
     |true=>
      simp only [hc2] at hl;have hlt:=FY hc2;obtain ⟨v,q1,q2⟩:=hE.run_part (cs':=l') hl ⟨h1,h2⟩ w
      have hde:∃d,E.desc e=some d:=by
       unfold B6 at hl;cases hq:E.desc e with
       |none=>simp [hq] at hl
       |some d=>exact ⟨d,rfl⟩
      obtain ⟨d,hde⟩:=hde;refine ⟨v,?_,q2⟩;simp [Instr.index,asIntOf,hE.run_und hd,hlt,hE.run_size hde,q1]
    |_=>simp [hd,hn] at hl
   |_=>cases hx<;>simp [hd,hn] at hl
end
end Go.AE
namespace Go.AE
variable [Gl:Au]
variable [U:Unk]
section
variable {E:Env} (hE:OK E) {ρ:Ren} {h:Aa} {w:World}
include hE
omit hE in
theorem DE {len cap:Nat} {lo hi mx:Option AV} {lo' hi' mx':Option Value} {l hh:Nat} (P:Program) (w:World) (isSlice:Bool)
  (hlo:∀a,lo=some a→∃v,lo'=some v∧VR ρ a v) (hlo0:lo=none→lo'=none)
  (hhi:∀a,hi=some a→∃v,hi'=some v∧VR ρ a v) (hhi0:hi=none→hi'=none)
  (hmx:∀a,mx=some a→∃v,mx'=some v∧VR ρ a v) (hmx0:mx=none→mx'=none)
  (hmh:mx≠none→hi≠none) (hc:len≤cap)
  (hb:Ct len lo hi mx=some (l,hh)):∃m,(Instr.sliceBounds isSlice len cap lo' hi' mx').run P w=.ok (l,hh,m) w∧l≤hh∧hh≤m∧m≤cap∧hh≤len:=by
 unfold Ct at hb
 have getb:∀(o:Option AV) (o':Option Value) (d k:Nat),(∀a,o=some a→∃v,o'=some v∧VR ρ a v)→(o=none→o'=none)→EN o d=some k→(o=none∧o'=none∧k=d)∨(o≠none∧∃kd,o'=some (.int kd (k:Int))):=by
  intro o o' d k h1 h2 h3;cases o with
  |none=>simp [EN] at h3;exact .inl ⟨rfl,h2 rfl,h3.symm⟩
  |some a=>
   obtain ⟨v,hv,hvr⟩:=h1 a rfl;simp only [EN] at h3;obtain ⟨kd,rfl⟩:=BF hvr h3;exact .inr ⟨by simp,kd,hv⟩
 cases hm:EN mx len with
 |none=>simp [hm] at hb
 |some m=>
  simp only [hm] at hb;cases h1:EN hi len with
  |none=>simp [h1] at hb
  |some H=>
   cases h2:EN lo 0 with
   |none=>simp [h1,h2] at hb
   |some L=>
    simp only [h1,h2] at hb;cases hcc:(Nat.ble L H&&Nat.ble H m&&Nat.ble m len) with
    |false=>simp [hcc] at hb
    |true=>
     simp only [hcc,Option.some.injEq,Prod.mk.injEq] at hb;obtain ⟨rfl,rfl⟩:=hb;obtain ⟨c12,c3⟩:=Am hcc;obtain ⟨c1,c2⟩:=Am c12;have b1:=Cs c1;have b2:=Cs c2;have b3:=Cs c3
     have DP:∀(kd:IntKind) (x y:Nat) (code:BoundsCode),x≤y→(Instr.sliceBound (.int kd (x:Int)) y code).run P w=.ok x w:=by
      intro kd x y code hxy;simp [Instr.sliceBound,asIntOf,hxy]
     rcases getb mx mx' len m hmx hmx0 hm with ⟨e1,e2,e3⟩|⟨e1,kd1,e2⟩
     ·subst e1;subst e2;subst e3;rcases getb hi hi' m H hhi hhi0 h1 with ⟨f1,f2,f3⟩|⟨f1,kd2,f2⟩
      ·subst f2;rcases getb lo lo' 0 L hlo hlo0 h2 with ⟨g1,g2,g3⟩|⟨g1,kd3,g2⟩
       ·subst g2;subst g3;subst f3;exact ⟨cap,by simp [Instr.sliceBounds],by omega,by omega,by omega,by omega⟩
       ·subst g2;subst f3;exact ⟨cap,by simp [Instr.sliceBounds,DP _ _ _ _ b1],by omega,by omega,by omega,by omega⟩
      ·subst f2;rcases getb lo lo' 0 L hlo hlo0 h2 with ⟨g1,g2,g3⟩|⟨g1,kd3,g2⟩
       ·subst g2;subst g3;exact ⟨cap,by simp [Instr.sliceBounds,DP _ H cap _ (by omega)],by omega,by omega,by omega,by omega⟩
       ·subst g2;exact ⟨cap,by simp [Instr.sliceBounds,DP _ H cap _ (by omega),DP _ L H _ b1],by omega,by omega,by omega,by omega⟩
     ·subst e2;rcases getb hi hi' len H hhi hhi0 h1 with ⟨f1,f2,f3⟩|⟨f1,kd2,f2⟩
      ·exact absurd f1 (hmh e1)
      ·subst f2;rcases getb lo lo' 0 L hlo hlo0 h2 with ⟨g1,g2,g3⟩|⟨g1,kd3,g2⟩
       ·subst g2;subst g3;exact ⟨m,by simp [Instr.sliceBounds,DP _ m cap _ (by omega),DP _ H m _ b2],by omega,by omega,by omega,by omega⟩
       ·subst g2;exact ⟨m,by simp [Instr.sliceBounds,DP _ m cap _ (by omega),DP _ H m _ b2,DP _ L H _ b1],by omega,by omega,by omega,by omega⟩
theorem RA (hr:HR ρ h.blk.get w) {t:TypeId} {x a:AV} {xv:Value} {lo hi mx:Option AV} {lo' hi' mx':Option Value} (hx:VR ρ x xv)
  (hlo:∀a,lo=some a→∃v,lo'=some v∧VR ρ a v) (hlo0:lo=none→lo'=none)
  (hhi:∀a,hi=some a→∃v,hi'=some v∧VR ρ a v) (hhi0:hi=none→hi'=none)
  (hmx:∀a,mx=some a→∃v,mx'=some v∧VR ρ a v) (hmx0:mx=none→mx'=none)
  (hmh:mx≠none→hi≠none)
  (hl:Ok E t x lo hi mx h=some a):∃v,(Instr.sliceAt t xv lo' hi' mx').run E.P w=.ok v w∧VR ρ a v:=by
 unfold Ok at hl;cases hd:E.desc t with
 |none=>simp [hd] at hl
 |some d=>
  cases d with
  |string=>
   cases hx with
   |str s=>
    simp only [hd] at hl;cases mx with
    |some m=>simp at hl
    |none=>
     simp only [] at hl;cases hb:Ct s.data.toList.length lo hi none with
     |none=>simp only [hb] at hl;cases hl
     |some p=>
      obtain ⟨L,H⟩:=p;simp only [hb,Option.some.injEq] at hl;subst hl;obtain ⟨m,q1,q2,q3,q4,q5⟩:=DE E.P w false hlo hlo0 hhi hhi0 hmx hmx0 hmh (Nat.le_refl _) hb;have e0:=hmx0 rfl;subst e0;have hsz:s.size=s.data.toList.length:=by simp
      rw [KD q2 q5]
      have hx:(s.extract L H).data.toList=(s.data.toList.drop L).take (H-L):=by
       simp [ByteArray.data_extract]
      have hlen:H-L=((s.data.toList.drop L).take (H-L)).length:=by simp;omega
      refine ⟨.string (s.extract L H),?_,?_⟩
      ·simp only [Instr.sliceAt,Sem.run_bind,hE.run_und hd,Result.andThen_ok,Instr.slice];rw [←hsz] at q1;simp [q1]
      ·have:=VR.str (ρ:=ρ) (s.extract L H);rw [hx] at this;rw [←hlen] at this;exact this
   |_=>simp [hd] at hl
  |slice e=>
   cases hx with
   |slice0=>
    simp only [hd] at hl;cases hb:Ct 0 lo hi mx with
    |none=>simp [hb] at hl
    |some p=>
     obtain ⟨L,H⟩:=p;cases hs:E.has e with
     |false=>simp [hb,hs] at hl
     |true=>
      simp only [hb,hs,Option.some.injEq] at hl;subst hl;obtain ⟨m,q1,q2,q3,q4,q5⟩:=DE E.P w true hlo hlo0 hhi hhi0 hmx hmx0 hmh (Nat.le_refl 0) hb;have:L=0∧H=0∧m=0:=by omega
      obtain ⟨rfl,rfl,rfl⟩:=this;exact ⟨.slice none 0 0,by simp [Instr.sliceAt,Instr.slice,hE.run_und hd,q1,hE.run_has hs],.slice0⟩
   |slice b off len es cap base hb2 hc hz=>
    simp only [hd] at hl;cases hb:Ct len lo hi mx with
    |none=>simp [hb] at hl
    |some p=>
     obtain ⟨L,H⟩:=p;simp only [hb] at hl;cases hs:E.szIs e es with
     |false=>simp [hs] at hl
     |true=>
      simp only [hs,Option.some.injEq] at hl;subst hl;obtain ⟨m,q1,q2,q3,q4,q5⟩:=DE E.P w true hlo hlo0 hhi hhi0 hmx hmx0 hmh hc hb;by_cases hml:m=L
      ·have:H=L:=by omega
       subst this;subst hml;refine ⟨.slice (some ⟨base.cb,base.co+off,none⟩) 0 0,?_,?_⟩
       ·simp [Instr.sliceAt,Instr.slice,hE.run_und hd,q1,hE.run_szIs hs]
       ·rw [Nat.sub_self];exact .sliceEnd _ _ _ _
      ·refine ⟨.slice (some ⟨base.cb,base.co+(off+L*es),none⟩) (H-L) (m-L),?_,?_⟩
       ·simp [Instr.sliceAt,Instr.slice,hE.run_und hd,q1,hE.run_szIs hs,hml,BJ,Nat.add_assoc]
       ·refine .slice b _ _ es _ base hb2 (by omega) ?_
        have h1:L*es+(m-L)*es=m*es:=by rw [←Nat.add_mul];congr 1;omega
        have h2:m*es≤cap*es:=Nat.mul_le_mul_right _ q4;omega
   |sliceEnd b off es a=>
    simp only [hd] at hl;cases hb:Ct 0 lo hi mx with
    |none=>simp [hb] at hl
    |some p=>
     obtain ⟨L,H⟩:=p;simp only [hb] at hl;cases hs:E.szIs e es with
     |false=>simp [hs] at hl
     |true=>
      simp only [hs,Option.some.injEq] at hl;subst hl;obtain ⟨m,q1,q2,q3,q4,q5⟩:=DE E.P w true hlo hlo0 hhi hhi0 hmx hmx0 hmh (Nat.le_refl 0) hb;have:L=0∧H=0∧m=0:=by omega
      obtain ⟨rfl,rfl,rfl⟩:=this;refine ⟨.slice (some a) 0 0,?_,?_⟩
      ·simp [Instr.sliceAt,Instr.slice,hE.run_und hd,q1,hE.run_szIs hs]
      ·rw [Nat.sub_self];exact .sliceEnd _ _ _ _
   |_=>simp [hd] at hl
  |array n e=>
   cases hx with
   |ptr b off base hb2=>
    simp only [hd] at hl;cases hb:Ct n lo hi mx with
    |none=>simp [hb] at hl
    |some p=>
     obtain ⟨L,H⟩:=p;cases hs:E.has e with
     |false=>simp [hb,hs] at hl
     |true=>
      cases hg:h.blk.get b with
      |none=>simp [hb,hs,hg] at hl
      |some y=>
       cases y with
       |cells sz c=>
        simp only [hb,hs,hg] at hl;cases hq:Nat.ble (off+n*E.size e) sz with
        |false=>simp [hq] at hl
        |true=>
         simp only [hq,Option.some.injEq] at hl;subst hl;have hq':=Cs hq;obtain ⟨cur,e1,fz,h1,h2,h3,h4,h5⟩:=hr.blk b base _ hb2 hg;obtain ⟨m,q1,q2,q3,q4,q5⟩:=DE E.P w false hlo hlo0 hhi hhi0 hmx hmx0 hmh (Nat.le_refl n) hb;by_cases hml:m=L
         ·have:H=L:=by omega
          subst this;subst hml;refine ⟨.slice (some ⟨base.cb,base.co+off,none⟩) 0 0,?_,?_⟩
          ·simp [Instr.sliceAt,Instr.sureAddr,hE.run_und hd,q1,hE.run_has hs]
          ·rw [Nat.sub_self];exact .sliceEnd _ _ _ _
         ·refine ⟨.slice (some ⟨base.cb,base.co+(off+L*E.size e),none⟩) (H-L) (m-L),?_,?_⟩
          ·simp [Instr.sliceAt,Instr.sureAddr,hE.run_und hd,q1,hE.run_has hs,hml,BJ,Nat.add_assoc]
          ·refine .slice b _ _ _ _ base hb2 (by omega) ?_
           have g1:L*E.size e+(m-L)*E.size e=m*E.size e:=by rw [←Nat.add_mul];congr 1;omega
           have g2:m*E.size e≤n*E.size e:=Nat.mul_le_mul_right _ q4;omega
       |_=>simp [hb,hs,hg] at hl
   |_=>simp [hd] at hl
  |_=>cases hx<;>simp [hd] at hl
end
end Go.AE
namespace Go.AE
variable [Gl:Au]
variable [U:Unk]
def Ty {α:Type} (l:List α) (off:Nat) (r l2:List α):Prop:=l2.length=l.length∧∀j,l2[j]?=if off≤j∧j<off+r.length then r[j-off]? else l[j]?
theorem Es:∀(l:List AV) (off:Nat) (r:List AV),off+r.length≤l.length→Ty l off r (AH l off r):=by
 intro l
 induction l with
 |nil=>
  intro off r h;have:r=[]:=List.eq_nil_of_length_eq_zero (by simp only [List.length_nil] at h;omega)
  subst this;exact ⟨by simp [AH],fun j=>by simp [AH]⟩
 |cons x l ih=>
  intro off r h;cases r with
  |nil=>exact ⟨by simp [AH],fun j=>by rw [if_neg (by simp)];simp [AH]⟩
  |cons v r=>
   simp only [List.length_cons] at h;cases off with
   |zero=>
    obtain ⟨h1,h2⟩:=ih 0 r (by omega)
    refine ⟨by simp [AH,h1],fun j=>?_⟩
    cases j with
    |zero=>simp [AH]
    |succ j=>
     simp only [AH,List.getElem?_cons_succ,h2 j,List.length_cons,Nat.zero_add,Nat.zero_le,true_and,Nat.sub_zero];by_cases c:j<r.length
     ·rw [if_pos c,if_pos (by omega)]
     ·rw [if_neg c,if_neg (by omega)]
   |succ off=>
    obtain ⟨h1,h2⟩:=ih off (v::r) (by simp;omega)
    refine ⟨by simp [AH,h1],fun j=>?_⟩
    cases j with
    |zero=>rw [if_neg (by omega)];simp [AH]
    |succ j=>
     simp only [AH,List.getElem?_cons_succ,h2 j,List.length_cons];by_cases c:off≤j∧j<off+(r.length+1)
     ·rw [if_pos c,if_pos (by omega)];congr 1;omega
     ·rw [if_neg c,if_neg (by omega)]
theorem Ou (off:Nat):∀(r:List Value) (k:Nat) (cs:Array Value),off+k+r.length≤cs.size→
  Ty cs.toList (off+k) r ((r.zipIdx k).foldl (fun cs (p:Value×Nat)=>cs.setIfInBounds (off+p.2) p.1) cs).toList:=by
 intro r
 induction r with
 |nil=>intro k cs h;exact ⟨rfl,fun j=>by rw [if_neg (by simp)];rfl⟩
 |cons v r ih=>
  intro k cs h;simp only [List.length_cons] at h;simp only [List.zipIdx_cons,List.foldl_cons];obtain ⟨h1,h2⟩:=ih (k+1) (cs.setIfInBounds (off+k) v) (by simp;omega)
  refine ⟨by rw [h1];simp,fun j=>?_⟩
  rw [h2 j];simp only [List.length_cons];by_cases c1:off+(k+1)≤j∧j<off+(k+1)+r.length
  ·rw [if_pos c1,if_pos (by omega)]
   have:j-(off+k)=(j-(off+(k+1)))+1:=by omega
   rw [this,List.getElem?_cons_succ]
  ·rw [if_neg c1];by_cases c2:j=off+k
   ·subst c2;rw [if_pos (by omega)]
    have:off+k<cs.size:=by omega
    simp [this]
   ·rw [if_neg (by omega)]
    simp only [Array.getElem?_toList];rw [Array.getElem?_setIfInBounds_ne (fun e=>c2 e.symm)]
theorem Ty.vl {ρ:Ren} {l r l2:List AV} {l' r' l2':List Value} {off:Nat} (h:Ty l off r l2) (h':Ty l' off r' l2') (hl:VL ρ l l') (hr:VL ρ r r'):VL ρ l2 l2':=by
 refine ⟨by rw [h.1,h'.1,hl.1],fun i a v ha hv=>?_⟩
 rw [h.2 i] at ha;rw [h'.2 i,←hr.1] at hv;by_cases c:off≤i∧i<off+r.length
 ·rw [if_pos c] at ha hv;exact hr.2 _ a v ha hv
 ·rw [if_neg c] at ha hv;exact hl.2 _ a v ha hv
def PL (ρ:Ren):List (Nat×AV)→List (Nat×Value)→Prop
 |[],[]=>True
 | (i,a)::r,(j,v)::r'=>i=j∧VR ρ a v∧PL ρ r r'
 |_,_=>False
theorem GU {ρ:Ren} {place:Nat→Option (Nat×Nat)}:∀{ps:List (Nat×AV)} {ps':List (Nat×Value)} {cells out:List AV} {cells':Array Value},PL ρ ps ps'→VL ρ cells cells'.toList→
  Ep place cells ps=some out→∃out',Instr.fill place cells' ps'=some out'∧VL ρ out out'.toList
 |[],[],cells,out,cells',_,hc,h=>by
  simp only [Ep,Option.some.injEq] at h;subst h;exact ⟨cells',rfl,hc⟩
 | (i,a)::r,(j,v)::r',cells,out,cells',⟨h1,h2,h3⟩,hc,h=>by
  subst h1;simp only [Ep] at h;cases hp:place i with
  |none=>simp [hp] at h
  |some p=>
   obtain ⟨off,size⟩:=p;simp only [hp] at h;cases hq:(Nat.beq a.cells.length size&&Nat.ble (off+size) cells.length && !a.isTop) with
   |false=>simp [hq] at h
   |true=>
    simp only [hq] at h;obtain ⟨q12,q0⟩:=Am hq;obtain ⟨q1,q2⟩:=Am q12;have hnt:a≠.top:=by rintro rfl;simp [AV.isTop] at q0
    have e1:=Aq q1;have e2:=Cs q2;have hv:=h2.cells hnt;have hlen:v.cells.size=size:=by have:=hv.1;simp at this;omega
    have hcl:cells.length=cells'.size:=by simpa using hc.1
    have L1:=Es cells off a.cells (by omega)
    have L2:=Ou off v.cells.toList 0 cells' (by simp;omega)
    simp only [Nat.add_zero] at L2;obtain ⟨out',q3,q4⟩:=GU h3 (L1.vl L2 hc hv) h;refine ⟨out',?_,q4⟩;simp only [Instr.fill,hp];rw [if_neg (by simp [hlen];omega),←q3]
    congr 1
    rw [←Array.foldl_toList];simp [Array.toList_zipIdx]
theorem Hi {place:Nat→Option (Nat×Nat)}:∀{ps:List (Nat×AV)} {cells out:List AV},Ep place cells ps=some out→out.length=cells.length
 |[],cells,out,h=>by simp only [Ep,Option.some.injEq] at h;subst h;rfl
 | (i,a)::r,cells,out,h=>by
  simp only [Ep] at h;cases hp:place i with
  |none=>simp [hp] at h
  |some p=>
   obtain ⟨off,size⟩:=p;simp only [hp] at h;cases hq:(Nat.beq a.cells.length size&&Nat.ble (off+size) cells.length && !a.isTop) with
   |false=>simp [hq] at h
   |true=>
    simp only [hq] at h;obtain ⟨q12,q0⟩:=Am hq;obtain ⟨q1,q2⟩:=Am q12;have e1:=Aq q1;have e2:=Cs q2;rw [Hi h,(Es cells off a.cells (by omega)).1]
section
variable {E:Env} (hE:OK E) {ρ:Ren} {h:Aa} {w:World}
include hE
omit hE in
theorem Ba {v:Value} {z:AV} (h:ofValue v=some z):z≠.top:=by
 rintro rfl
 cases v with
 |agg c=>simp only [ofValue] at h;cases hc:Cl c.toList<;>simp [hc] at h
 |pointer p=>cases p<;>simp [ofValue,AM] at h
 |slice p l c=>cases p<;>cases l<;>cases c<;>simp [ofValue,AM] at h
 |map r=>cases r<;>simp [ofValue,AM] at h
 |_=>simp [ofValue,AM] at h
theorem IQ (fs:List Field) (hall:fs.all (fun f=>E.has f.type)=true) (w:World) :
  (fs.mapM fun f=>do pure (f.offset,←sizeOf f.type):Sem (List (Nat×Nat))).run E.P w=.ok (fs.map fun f=>(f.offset,E.size f.type)) w:=by
 induction fs with
 |nil=>simp
 |cons f r ih=>
  simp only [List.all_cons,Bool.and_eq_true] at hall;simp only [List.mapM_cons,Sem.run_bind,hE.run_has hall.1,Result.andThen_ok,Sem.run_pure,ih hall.2,List.map_cons]
theorem Ri {t:TypeId} {ps:List (Nat×AV)} {ps':List (Nat×Value)} {a:AV} (hp:PL ρ ps ps') (hb:LO E t ps=some a) :
  ∃v,(Instr.build t ps'.toArray).run E.P w=.ok v w∧VR ρ a v:=by
 unfold LO at hb;cases hz:E.zero t with
 |none=>simp [hz] at hb
 |some z=>
  obtain ⟨zv,z1,z2⟩:=hE.run_zero ρ hz w;have zc:=(Ay ρ z2).cells (Ba z2);cases hd:E.desc t with
  |none=>simp [hz,hd] at hb
  |some d=>
   cases d with
   |struct fs=>
    simp only [hz,hd] at hb;cases hall:fs.toList.all (fun f=>E.has f.type) with
    |false=>simp only [hall] at hb;cases hb
    |true=>
     simp only [hall] at hb;cases hf:Ep (LV E fs.toList) z.cells ps with
     |none=>simp only [hf,Option.map_none] at hb;cases hb
     |some out=>
      simp only [hf,Option.map_some,Option.some.injEq] at hb;subst hb
      have hpl:LV E fs.toList=(fun i=>((fs.toList.map fun f=>(f.offset,E.size f.type)).toArray)[i]?):=by
       funext i
       simp only [LV,List.getElem?_toArray,List.getElem?_map];cases fs.toList[i]?<;>rfl
      rw [hpl] at hf;obtain ⟨out',q1,q2⟩:=GU hp zc hf;refine ⟨.agg out',?_,?_⟩
      ·have hm:=IQ hE fs.toList hall w;simp only [Instr.build,Sem.run_bind,z1,Result.andThen_ok,hE.run_und hd];rw [Array.mapM_eq_mapM_toList];simp only [Sem.run_map,hm,Result.andThen_ok];rw [q1];rfl
      ·exact .agg out out'.toList q2.1 q2.2
   |array n e=>
    simp only [hz,hd] at hb;cases hh:E.has e with
    |false=>simp [hh] at hb
    |true=>
     simp only [hh] at hb;cases hf:Ep (fun i=>some (i*E.size e,E.size e)) z.cells ps with
     |none=>simp [hf] at hb
     |some out=>
      simp only [hf,Option.map_some,Option.some.injEq] at hb;subst hb;obtain ⟨out',q1,q2⟩:=GU hp zc hf;refine ⟨.agg out',?_,.agg out out'.toList q2.1 q2.2⟩;simp [Instr.build,z1,hE.run_und hd,hE.run_has hh,q1]
   |_=>simp [hz,hd] at hb
end
end Go.AE
namespace Go.AE
variable [Gl:Au]
variable [U:Unk]
theorem EJ (n:Nat) (h:n≤4611686018427387904):IntKind.i64.wrap (n:Int)=n:=IntWalk.i64_in _ (by omega)
theorem Ik (z:List AV):∀(n i:Nat),i<n*z.length→(Bj z n)[i]?=z[i%z.length]?
 |0,i,h=>by simp at h
 |n+1,i,h=>by
  simp only [Bj];by_cases hi:i<z.length
  ·rw [List.getElem?_append_left hi,Nat.mod_eq_of_lt hi]
  ·rw [List.getElem?_append_right (by omega),Ik z n (i-z.length) (by rw [Nat.add_mul] at h;omega)]
   congr 1
   rw [←Nat.mod_eq_sub_mod (by omega)]
theorem BS (z:List AV):∀n,(Bj z n).length=n*z.length
 |0=>by simp [Bj]
 |n+1=>by simp only [Bj,List.length_append,BS z n,Nat.add_mul];omega
theorem DN {ρ:Ren} {z:List AV} {zero:Array Value} (hz:VL ρ z zero.toList) (n:Nat) (zero':Array Value) (h0:n*z.length=0∨zero'=zero) :
  VL ρ (Bj z n) ((Array.range (n*z.length)).map (zero'[· % zero'.size]!)).toList:=by
 have hl:z.length=zero.size:=by simpa using hz.1
 refine ⟨by simp [BS],fun i a v ha hv=>?_⟩
 have hi:i<n*z.length:=by
  have:=(List.getElem?_eq_some_iff.1 ha).1
  rwa [BS] at this
 rcases h0 with h0|rfl
 ·omega
 ·have hzp:0<z.length:=by
   rcases Nat.eq_zero_or_pos z.length with e|e
   ·rw [e] at hi;simp at hi
   ·exact e
  rw [Ik z n i hi] at ha;have hm:i%z.length<z.length:=Nat.mod_lt _ hzp;simp only [Array.toList_map,Array.toList_range,List.getElem?_map,List.getElem?_range hi,Option.map_some,Option.some.injEq] at hv;subst hv;obtain ⟨v,hv,hvr⟩:=hz.get ha;rw [hl] at hv
  have:zero'[i%zero'.size]! = v:=by
   rw [Array.getElem?_toList] at hv;simp [Array.getElem!_eq_getD,Array.getD_eq_getD_getElem?,hv]
  rw [this];exact hvr
section
variable {E:Env} (hE:OK E) {ρ:Ren} {h:Aa} {w:World}
include hE
def AB (E:Env) (ρ:Ren) (h h':Aa) (w:World) (s:Sem Value) (a:AV):Prop:=
 ∃σ v w',s.run E.P w=.ok v w'∧VR σ a v∧HR σ h'.blk.get w'∧Ext ρ σ h h' w w'
omit hE in
theorem Ar (hr:HR ρ h.blk.get w) {s:Sem Value} {a:AV} (hs:∃v,s.run E.P w=.ok v w∧VR ρ a v):AB E ρ h h w s a:=by
 obtain ⟨v,h1,h2⟩:=hs;exact ⟨ρ,v,w,h1,h2,hr,Ext.refl ρ h w⟩
theorem RY (hr:HR ρ h.blk.get w) (hf:ρ h.nx=none) {t:TypeId} {z:AV} (hz:E.zero t=some z) :
  AB E ρ h (A4 h z.cells) w (Instr.alloc t true (.tuple #[])) (.ptr h.nx 0):=by
 obtain ⟨zv,z1,z2⟩:=hE.run_zero ρ hz w;have zc:=(Ay ρ z2).cells (Ba z2);obtain ⟨σ,s1,q1,q2⟩:=hr.newList hf t zv.cells zc;refine ⟨σ,.pointer (some ⟨w.heap.size,0,none⟩),_,?_,.ptr h.nx 0 _ s1,q1,q2⟩;simp only [Instr.alloc,Sem.run_bind,z1,Result.andThen_ok,newVar,newRow,run_newObj,Sem.run_pure]
omit hE in
theorem Wm (hr:HR ρ h.blk.get w) (hf:ρ h.nx=none) {t:TypeId} {a:AV} {v:Value} (ha:VR ρ a v) (ht:a≠.top) :
  AB E ρ h (A4 h a.cells) w (Instr.box t v) (.ptr h.nx 0):=by
 obtain ⟨σ,s1,q1,q2⟩:=hr.newList hf t v.cells (ha.cells ht);refine ⟨σ,.pointer (some ⟨w.heap.size,0,none⟩),_,?_,.ptr h.nx 0 _ s1,q1,q2⟩;simp only [Instr.box,Sem.run_bind,Result.andThen_ok,newVar,newRow,run_newObj,Sem.run_pure]
theorem Jx (hr:HR ρ h.blk.get w) {t:TypeId} {len:Nat} {ps:List (Nat×AV)} {ps':List (Nat×Value)} {a:AV} {h':Aa} (hp:PL ρ ps ps') (hb:D1 E t len ps h=some (a,h')) (hf:Ax ρ h.nx h'.nx) :
  AB E ρ h h' w (Instr.buildSlice t len ps'.toArray) a:=by
 unfold D1 at hb;cases hd:E.desc t with
 |none=>simp [hd] at hb
 |some d=>
  cases d with
  |slice e=>
   simp only [hd] at hb;cases hc:Nat.ble (len*E.size e) 16777216 with
   |false=>simp [hc] at hb
   |true=>
    cases hz:E.zero e with
    |none=>simp [hc,hz] at hb
    |some z=>
     simp only [hc,hz] at hb;cases hzl:Nat.beq z.cells.length (E.size e) with
     |false=>simp [hzl] at hb
     |true=>
      simp only [hzl] at hb;cases hfl:Ep (fun i=>some (i*E.size e,E.size e)) (Bj z.cells len) ps with
      |none=>simp [hfl] at hb
      |some cells=>
       simp only [hfl,Option.some.injEq,Prod.mk.injEq] at hb;obtain ⟨rfl,rfl⟩:=hb;have hzl':=Aq hzl;have hc':=Cs hc;obtain ⟨i,v,i1,i2,i3⟩:=E2 hz;have hsz:∀w,(sizeOf e).run E.P w=.ok (E.size e) w:=fun w=>by rw [hE.run_sz i1];simp [Env.size,i1]
       obtain ⟨zv,z1,z2⟩:=hE.run_zero ρ hz w;have zc:=(Ay ρ z2).cells (Ba z2);have hfree:ρ h.nx=none:=hf h.nx (Nat.le_refl _) (by simp [A4,Aa.new])
       have h0:len*z.cells.length=0∨(if len*E.size e=0 then #[] else zv.cells)=zv.cells:=by
        rw [hzl'];by_cases e0:len*E.size e=0
        ·exact .inl e0
        ·exact .inr (by rw [if_neg e0])
       have hcells:=DN zc len (if len*E.size e=0 then #[] else zv.cells) h0
       rw [hzl'] at hcells;obtain ⟨out',o1,o2⟩:=GU hp hcells hfl;obtain ⟨σ,s1,q1,q2⟩:=hr.newList hfree e out' o2
       have hol:out'.size=len*E.size e:=by
        have g1:=Hi hfl;rw [BS,hzl'] at g1;have g2:=o2.1;simp at g2;omega
       refine ⟨σ,.slice (some ⟨w.heap.size,0,none⟩) len len,_,?_,?_,q1,q2⟩
       ·simp only [Instr.buildSlice,Sem.run_bind,hE.run_und hd,Result.andThen_ok,hsz];rw [if_neg (by omega)]
        by_cases e0:len*E.size e=0
        ·simp only [e0,if_true] at o1;simp only [e0,if_true,Sem.run_bind,Sem.run_pure,Result.andThen_ok];rw [o1];simp only [newRow,Sem.run_bind,run_newObj,Result.andThen_ok,Sem.run_pure]
        ·rw [if_neg e0] at o1;rw [if_neg e0];simp only [Sem.run_bind,z1,Sem.run_pure,Result.andThen_ok];rw [o1];simp only [newRow,Sem.run_bind,run_newObj,Result.andThen_ok,Sem.run_pure]
       ·exact VR.slice h.nx 0 len (E.size e) len _ s1 (Nat.le_refl _) (by simp only [Nat.zero_add];omega)
  |_=>simp [hd] at hb
theorem KQ (hr:HR ρ h.blk.get w) {t:TypeId} {l c a:AV} {lv cv:Value} {h':Aa} (hl:VR ρ l lv) (hcv:VR ρ c cv) (hb:GC E t l c h=some (a,h')) (hf:Ax ρ h.nx h'.nx) :
  AB E ρ h h' w (Instr.makeSlice t lv cv) a:=by
 unfold GC at hb;cases hd:E.desc t with
 |none=>simp [hd] at hb
 |some d=>
  cases hn:Cm l with
  |none=>cases d<;>simp [hd,hn] at hb
  |some n=>
   cases hm:Cm c with
   |none=>cases d<;>simp [hd,hn,hm] at hb
   |some m=>
    obtain ⟨k1,rfl⟩:=BF hl hn;obtain ⟨k2,rfl⟩:=BF hcv hm;cases d with
    |slice e=>
     simp only [hd,hn,hm] at hb;cases hi:E.ty.get e with
     |none=>simp [hi] at hb
     |some inf=>
      simp only [hi] at hb;cases hz:E.zero e with
      |none=>simp [hz] at hb
      |some z=>
       simp only [hz] at hb;cases hc:(Nat.beq n m&&Nat.ble n 1048576&&Nat.ble (inf.bytes*n) 140737488355328&&Nat.beq z.cells.length inf.size) with
       |false=>simp [hc] at hb
       |true=>
        simp only [hc,Option.some.injEq,Prod.mk.injEq] at hb;obtain ⟨rfl,rfl⟩:=hb;obtain ⟨c123,c4⟩:=Am hc;obtain ⟨c12,c3⟩:=Am c123;obtain ⟨c1,c2⟩:=Am c12;have e1:=Aq c1;have e2:=Cs c2;have e3:=Cs c3;have e4:=Aq c4;subst e1;obtain ⟨zv,z1,z2⟩:=hE.run_zero ρ hz w;have zc:=(Ay ρ z2).cells (Ba z2);have hfree:ρ h.nx=none:=hf h.nx (Nat.le_refl _) (by simp [A4,Aa.new])
        have h0:n*z.cells.length=0∨(if n*inf.size=0 then #[] else zv.cells)=zv.cells:=by
         rw [e4];by_cases e0:n*inf.size=0
         ·exact .inl e0
         ·exact .inr (by rw [if_neg e0])
        have hcells:=DN zc n (if n*inf.size=0 then #[] else zv.cells) h0
        rw [e4] at hcells;obtain ⟨σ,s1,q1,q2⟩:=hr.newList hfree e _ hcells;have hwrap:=EJ n (by omega)
        refine ⟨σ,.slice (some ⟨w.heap.size,0,none⟩) n n,_,?_,?_,q1,q2⟩
        ·simp only [Instr.makeSlice,Sem.run_bind,hE.run_und hd,Result.andThen_ok,asInt,asIntOf,Sem.run_pure,hE.run_info hi,hwrap]
         have hbn:¬((inf.bytes:Int)*(n:Int)>2^48):=by
          have:((inf.bytes*n:Nat):Int)≤140737488355328:=by omega
          rw [Int.natCast_mul] at this;omega
         have hcond:(decide ((n:Int)<0)||decide ((inf.bytes:Int)*(n:Int)>2^48)||decide ((n:Int)<0)||decide ((n:Int)>(n:Int)))=false:=by
          rw [decide_eq_false hbn,decide_eq_false (show ¬((n:Int)<0) by omega),decide_eq_false (show ¬((n:Int)>(n:Int)) by omega)]
          rfl
         rw [if_neg (by rw [hcond];exact Bool.false_ne_true)]
         simp only [Sem.run_bind,run_askRoom,Result.andThen_ok,Int.toNat_natCast,hE.run_sz hi];by_cases e0:n*inf.size=0
         ·rw [if_pos e0];simp only [Sem.run_bind,Sem.run_pure,Result.andThen_ok,newRow,run_newObj,if_pos e0]
         ·rw [if_neg e0];simp only [Sem.run_bind,z1,Sem.run_pure,Result.andThen_ok,newRow,run_newObj,if_neg e0]
        ·exact VR.slice h.nx 0 n inf.size n _ s1 (Nat.le_refl _) (by simp)
    |_=>simp [hd,hn,hm] at hb
end
end Go.AE
namespace Go.AE
variable [Gl:Au]
variable [U:Unk]
theorem HR.strike {ρ:Ren} {h:Aa} {w:World} (hr:HR ρ h.blk.get w) (b:Nat):HR ρ (h.strike b).blk.get w∧Ext ρ ρ h (h.strike b) w w:=by
 refine ⟨hr.restrict fun c=>?_,⟨Ren.le_refl ρ,Nat.le_refl _,fun _ _ e=>.inl e,Fq.refl w,fun _ _ _=>rfl,⟨[b],rfl,?_⟩,?_,fun _ _ e=>.inl e⟩⟩
 ·simp only [Aa.strike,T.get_del];by_cases e:b=c
  ·exact .inl (by rw [if_pos e])
  ·exact .inr (by rw [if_neg e])
 ·intro c hc _;simp only [Aa.strike,T.get_del];rw [if_neg (fun e=>hc (by simp [e]))]
 ·intro c hc;simp only [Aa.strike,T.get_del] at hc;by_cases e:b=c
  ·rw [if_pos e] at hc;exact absurd rfl hc
  ·rw [if_neg e] at hc;exact .inl hc
theorem HR.move {ρ:Ren} {h:Aa} {w:World} (hr:HR ρ h.blk.get w) {b:Nat} {base base':Bf} (hb:ρ b=some base) (hl:h.blk.get b≠none) (hf:ρ h.nx=none) (hcb:base'.cb=base.cb) (x:Ac)
  (w':World) (hx:BR (ρ.upd h.nx base') x base' w'.heap[base.cb]?) (hsz:w'.heap.size=w.heap.size) (hold:∀k,k≠base.cb→w'.heap[k]?=w.heap[k]?) (hos:w'.os=w.os) (ht:w'.tape=w.tape) (ho:w'.output=w.output) :
  HR (ρ.upd h.nx base') ((h.strike b).new x).blk.get w'∧Ext ρ (ρ.upd h.nx base') h ((h.strike b).new x) w w':=by
 have hle:=Ren.le_upd hf base';have hbn:b≠h.nx:=by rintro rfl;rw [hf] at hb;cases hb
 have inv:∀c d,ρ.upd h.nx base' c=some d→(c=h.nx∧d=base')∨(c≠h.nx∧ρ c=some d):=by
  intro c d hc;simp only [Ren.upd] at hc;by_cases e:c=h.nx
  ·rw [if_pos e] at hc;exact .inl ⟨e,by simpa using hc.symm⟩
  ·rw [if_neg e] at hc;exact .inr ⟨e,hc⟩
 have get:∀c,((h.strike b).new x).blk.get c=if h.nx=c then some x else if b=c then none else h.blk.get c:=by
  intro c;simp only [Aa.new,Aa.strike,T.get_set,T.get_del]
 refine ⟨⟨?_,?_,?_,?_,?_,hr.glob⟩,⟨hle,Nat.le_succ _,?_,⟨hos,ht,ho,by omega⟩,?_,⟨[b],rfl,?_⟩,?_,fun _ _ e=>.inl e⟩⟩
 ·intro c d hc;rcases inv c d hc with ⟨_,rfl⟩|⟨_,h1⟩
  ·rw [hcb,hsz];exact hr.lt b base hb
  ·rw [hsz];exact hr.lt c d h1
 ·intro c d y hc hy;rw [get] at hy;rcases inv c d hc with ⟨rfl,rfl⟩|⟨hne,h1⟩
  ·rw [if_pos rfl] at hy;cases hy;rw [hcb];exact hx
  ·rw [if_neg (fun e=>hne e.symm)] at hy
   by_cases e:b=c
   ·rw [if_pos e] at hy;cases hy
   ·rw [if_neg e] at hy;rw [hold _ (hr.apart c b d base (fun q=>e q.symm) h1 hb (by rw [hy];simp) hl)]
    exact (hr.blk c d y h1 hy).mono hle
 ·have one:∀c d,c≠h.nx→ρ c=some d→((h.strike b).new x).blk.get c≠none→base'.cb≠d.cb:=by
   intro c d hne h1 h2;rw [get,if_neg (fun e=>hne e.symm)] at h2
   by_cases e:b=c
   ·rw [if_pos e] at h2;exact absurd rfl h2
   ·rw [if_neg e] at h2;rw [hcb];exact hr.apart b c base d e hb h1 hl h2
  intro c c' d d' hne hc hc' h1 h2;rcases inv c d hc with ⟨rfl,rfl⟩|⟨hn,h3⟩
  ·rcases inv c' d' hc' with ⟨e,_⟩|⟨hn',h4⟩
   ·exact absurd e.symm hne
   ·exact one c' d' hn' h4 h2
  ·rcases inv c' d' hc' with ⟨rfl,rfl⟩|⟨hn',h4⟩
   ·exact (one c d hn h3 h1).symm
   ·rw [get,if_neg (fun e=>hn e.symm)] at h1
    rw [get,if_neg (fun e=>hn' e.symm)] at h2
    by_cases e:b=c
    ·rw [if_pos e] at h1;exact absurd rfl h1
    ·by_cases e':b=c'
     ·rw [if_pos e'] at h2;exact absurd rfl h2
     ·rw [if_neg e] at h1;rw [if_neg e'] at h2;exact hr.apart c c' d d' hne h3 h4 h1 h2
 ·intro k arr hk;rw [hold k (hr.off k arr b base hk hb hl).symm];exact hr.imm k arr hk
 ·intro k arr c d hk hc h2;rcases inv c d hc with ⟨rfl,rfl⟩|⟨hn,h3⟩
  ·rw [hcb];exact hr.off k arr b base hk hb hl
  ·rw [get,if_neg (fun e=>hn e.symm)] at h2
   by_cases e:b=c
   ·rw [if_pos e] at h2;exact absurd rfl h2
   ·rw [if_neg e] at h2;exact hr.off k arr c d hk h3 h2
 ·intro c d hc;rcases inv c d hc with ⟨rfl,rfl⟩|⟨_,h1⟩
  ·exact .inr ⟨Nat.le_refl _,Nat.lt_succ_self _,.inr ⟨b,base,hb,hl,hcb.symm⟩⟩
  ·exact .inl h1
 ·intro k hk hn;exact hold k (fun e=>hn b base hb hl e.symm)
 ·intro c hc hr';rw [get,if_neg (by simp only [Aa.new,Aa.strike] at hr';omega),if_neg (fun e=>hc (by simp [e]))]
 ·intro c hc;rw [get] at hc;by_cases e:h.nx=c
  ·exact .inr ⟨by omega,by simp only [Aa.new,Aa.strike];omega⟩
  ·rw [if_neg e] at hc;by_cases e':b=c
   ·rw [if_pos e'] at hc;exact absurd rfl hc
   ·rw [if_neg e'] at hc;exact .inl hc
theorem Ext.drawn {ρ σ:Ren} {h h':Aa} {w w1 w':World} (e:Ext ρ σ h h' w1 w') (hh:w1.heap=w.heap) (hos:w1.os=w.os) (ht:w1.tape=w.tape) (ho:w1.output=w.output):Ext ρ σ h h' w w':=
 ⟨e.le,e.nx,hh▸e.new,⟨e.calm.os.trans hos,e.calm.tape.trans ht,e.calm.output.trans ho,hh▸e.calm.size⟩,hh▸e.kept,e.log,e.live,hh▸e.imm⟩
theorem Av (P:Program) (w:World) (b o k:Nat) (cur:Array Value) (e:TypeId) (fz:Nat×Nat) (hb:w.heap[b]?=some (.cells cur e fz)) (hk:o+k≤cur.size) :
  (Go.loadCells ⟨b,o,none⟩ k).run P w=.ok ((cur.toList.drop o).take k).toArray w:=by
 have hl:((cur.toList.drop o).take k).length=k:=by simp;omega
 have:=Cu (w:=w) P b o ((cur.toList.drop o).take k) 0 #[] (by
  intro j v hj;rw [List.getElem?_take] at hj;by_cases c:j<k
  ·rw [if_pos c] at hj;simp only [List.getElem?_drop,Array.getElem?_toList] at hj;simp [World.cell?,hb,hj]
  ·rw [if_neg c] at hj;cases hj)
 rw [hl] at this;simpa [Go.loadCells] using this
theorem EV:∀(l:List UInt8),bytesOf l.length (As l)=l.map fun b=>AV.int .u8 (b.toNat:Nat)
 |[]=>rfl
 |b::r=>by
  obtain ⟨h1,h2⟩:=Dq b r;simp only [List.length_cons,bytesOf,h1,h2,EV r,List.map_cons]
theorem N4 (ρ:Ren) (l:List UInt8):VL ρ (l.map fun b=>AV.int .u8 (b.toNat:Nat)) (l.map fun b=>Value.int .u8 (b.toNat:Nat)):=by
 refine ⟨by simp,fun i a v ha hv=>?_⟩
 simp only [List.getElem?_map] at ha hv;cases hb:l[i]? with
 |none=>simp [hb] at ha
 |some b=>
  simp only [hb,Option.map_some,Option.some.injEq] at ha hv;subst ha;subst hv;exact .int _ _
section
variable {E:Env} (hE:OK E) {ρ:Ren} {h:Aa} {w:World}
theorem Qd (hr:HR ρ h.blk.get w) (P:Program) {es n m:Nat} {x:AV} {xv:Value} {l:List AV} (hx:VR ρ x xv) (hm:E8 x=some m) (hn:n≤m) (hs:JN h es n x=some l) :
  ∃vs:List Value,VL ρ l vs∧l.length=n*es∧(Builtin.lenOf xv).run P w=.ok m w∧∀w':World,w'.heap=w.heap→(Builtin.firstCells es n xv).run P w'=.ok vs.toArray w':=by
 cases hx with
 |slice0=>
  simp only [E8,Option.some.injEq] at hm;simp only [JN,Option.some.injEq] at hs;subst hs;have:n=0:=by omega
  subst this;exact ⟨[],VL.nil ρ,by simp,by simp [Builtin.lenOf,hm.symm],fun w' _=>by simp [Builtin.firstCells]⟩
 |slice b off k es' cap base hb hc hz=>
  simp only [E8,Option.some.injEq] at hm;subst hm;simp only [JN] at hs;cases he:Nat.beq es es' with
  |false=>simp [he] at hs
  |true=>
   simp only [he] at hs;have:=Aq he;subst this;unfold B1 at hs;cases hg:h.blk.get b with
   |none=>simp [hg] at hs
   |some y=>
    cases y with
    |cells sz c=>
     simp only [hg] at hs;cases hq:Nat.ble (off+n*es) sz with
     |false=>simp [hq] at hs
     |true=>
      simp only [hq] at hs;have hlen:=(T.range_spec c _ _ _ hs).1;obtain ⟨vs,q1,q2,q3⟩:=hr.loadCells P hb hg (Cs hq) hs;refine ⟨vs,q1,hlen,by simp [Builtin.lenOf],fun w' hw=>?_⟩
      have hr':HR ρ h.blk.get w':=hr.same hw;have hv:vs.length=n*es:=by rw [←q1.1,hlen]
      have h2:=Cu (w:=w') P base.cb (base.co+off) vs 0 #[] (fun j v hj=>by
       have:=q3 j v hj;simp only [Nat.zero_add];rw [←this];simp [World.cell?,hw])
      simp only [Builtin.firstCells,Go.loadCells];rw [←hv,h2];simp
    |_=>simp [hg] at hs
 |sliceEnd b off es' a=>
  simp only [E8,Option.some.injEq] at hm;have:n=0:=by omega
  subst this;simp only [JN] at hs;cases he:Nat.beq es es' with
  |false=>simp [he] at hs
  |true=>
   simp only [he,Nat.zero_mul] at hs
   have hl:l=[]:=by
    unfold B1 at hs;cases hg:h.blk.get b with
    |none=>simp [hg] at hs
    |some y=>
     cases y with
     |cells sz c=>
      simp only [hg] at hs;cases hq:Nat.ble (off+0) sz with
      |false=>simp only [hq] at hs;cases hs
      |true=>simp only [hq,T.range,Option.some.injEq] at hs;exact hs.symm
     |_=>simp [hg] at hs
   subst hl;exact ⟨[],VL.nil ρ,by simp,by simp [Builtin.lenOf,hm.symm],fun w' _=>by simp [Builtin.firstCells,Go.loadCells,loadCellsFrom]⟩
 |str s=>
  simp only [E8,Option.some.injEq] at hm;simp only [JN] at hs;cases he:Nat.beq es 1 with
  |false=>simp [he] at hs
  |true=>
   simp only [he,Option.some.injEq] at hs;have:=Aq he;subst this;subst hs;rw [EV];refine ⟨(s.data.toList.map fun b=>Value.int .u8 (b.toNat:Nat)).take n,(N4 ρ _).take n,by simp at hm ⊢;omega,by simp [Builtin.lenOf];simpa using hm,fun w' _=>?_⟩
   simp only [Builtin.firstCells,Sem.run_pure]
   congr 1
   apply Array.ext';simp [ByteArray.data_extract]
 |_=>simp [E8] at hm
end
end Go.AE
namespace Go.AE
variable [Gl:Au]
variable [U:Unk]
section
variable {P:Program} {w:World}
inductive R4 (P:Program) (w:World) (t' e:TypeId) (inf:TypeInfo) (xv:Value) (m:Nat) (nv:List Value):Prop
 |cells (d:TypeDesc) (hu:P.underlying t'=some d) (hd:(∃e',d=.slice e')∨d=.string) (hl:(Builtin.lenOf xv).run P w=.ok m w)
   (hf:∀w':World,w'.heap=w.heap→(Builtin.firstCells inf.size m xv).run P w'=.ok nv.toArray w')
 |zeros (k k':IntKind) (hu:P.underlying t'=some (.int k)) (hx:xv=.int k' (m:Int)) (hm:m≤1048576) (hb:m*inf.bytes≤140737488355328)
   (z:Value) (hz:inf.zero=some z) (hzs:z.cells.size=inf.size) (hn:nv.toArray=Builtin.zeroCells z.cells m)
theorem Co (t t' ty e:TypeId) (inf:TypeInfo) (ht:P.underlying t=some (.slice e)) (hi:P.info? e=some inf) (xv:Value) (m:Nat) (nv:List Value) (hs:R4 P w t' e inf xv m nv)
  (base:Option Addr) (sLen sCap:Nat) (hroom:sLen+m≤sCap) :
  (Builtin.append_ #[t,t'] ty #[.slice base sLen sCap,xv]).run P w =
   ((match base with|some a=>storeCells (a.add (sLen*inf.size)) nv|none=>pure ()).run P w).andThen fun _ w'=>.ok (.slice base (sLen+m) sCap) w':=by
 cases hs with
 |cells d hu hd hl hf=>
  have hf':=hf w rfl;have h1:(underlying t').run P w=.ok d w:=by simp [underlying,hu]
  have h2:(underlying t).run P w=.ok (.slice e) w:=by simp [underlying,ht]
  have h3:(sizeOf e).run P w=.ok inf.size w:=by simp [sizeOf,typeInfo,hi]
  unfold Builtin.append_
  rcases hd with ⟨e',rfl⟩|rfl<;>
   simp only [List.getElem?_toArray,List.getElem?_cons_zero,List.getElem?_cons_succ,Sem.run_bind,h2,Result.andThen_ok,h3,h1,Bool.false_eq_true,if_false,hl,if_pos hroom,Bool.not_false,if_true,hf',Sem.run_pure]<;>
   cases base<;>simp
 |zeros k k' hu hx hm hb z hz hzs hn=>
  subst hx;have hw:=EJ m (by omega)
  have h0:¬((m:Int)<0):=by omega
  have h48:¬((m:Int)*(inf.bytes:Int)>2^48):=by
   have:((m*inf.bytes:Nat):Int)≤140737488355328:=by omega
   rw [Int.natCast_mul] at this;omega
  have h1:(underlying t').run P w=.ok (.int k) w:=by simp [underlying,hu]
  have h2:(underlying t).run P w=.ok (.slice e) w:=by simp [underlying,ht]
  have h3:(sizeOf e).run P w=.ok inf.size w:=by simp [sizeOf,typeInfo,hi]
  have h4:(typeInfo e).run P w=.ok inf w:=by simp [typeInfo,hi]
  have h5:(zeroValue e).run P w=.ok z w:=by simp [zeroValue,typeInfo,hi,hz]
  have hzero:nv=[]∨m*inf.size≠0:=by
   by_cases e0:m*inf.size=0
   ·left;have:nv.toArray.size=0:=by rw [hn];simp [Builtin.zeroCells,hzs,e0]
    simpa using this
   ·exact .inr e0
  unfold Builtin.append_;simp only [List.getElem?_toArray,List.getElem?_cons_zero,List.getElem?_cons_succ,Sem.run_bind,h2,Result.andThen_ok,h3,h1,Sem.run_pure,if_true,asInt,asIntOf,hw,if_neg h0,h4,if_neg h48,Int.toNat_natCast,if_pos hroom,Bool.not_true,Bool.false_eq_true,if_false];by_cases e0:m*inf.size=0
  ·have hnv:nv=[]:=by
    rcases hzero with h|h
    ·exact h
    ·exact absurd e0 h
   subst hnv;rw [if_pos e0];cases base<;>simp [storeCells]
  ·rw [if_neg e0];simp only [Sem.run_bind,h5,Result.andThen_ok,Sem.run_pure,←hn];cases base<;>simp
theorem D0 (t t' ty e:TypeId) (inf:TypeInfo) (ht:P.underlying t=some (.slice e)) (hi:P.info? e=some inf) (z:Value) (hzz:inf.zero=some z) (xv:Value) (m:Nat) (nv:List Value) (hs:R4 P w t' e inf xv m nv)
  (base:Option Addr) (sLen sCap:Nat) (hgrow:sCap<sLen+m) (h63:sLen+m≤4611686018427387904) (hby:(sLen+m)*inf.bytes≤140737488355328) (ov:Array Value)
  (ho:∀w':World,w'.heap=w.heap→(Builtin.firstCells inf.size sLen (.slice base sLen sCap)).run P w'=.ok ov w') :
  ∃cap,sLen+m≤cap∧(Builtin.append_ #[t,t'] ty #[.slice base sLen sCap,xv]).run P w =
   .ok (.slice (some ⟨w.heap.size,0,none⟩) (sLen+m) cap) {w with drawn:=w.drawn+1,heap:=w.heap.push (.cells (ov++nv.toArray++Builtin.zeroCells z.cells (cap-(sLen+m))) e)}:=by
 refine ⟨grownCap w (sLen+m) sCap e,grownCap_ge w _ _ _,?_⟩;have hng:¬(sLen+m≤sCap):=by omega
 have h63':¬(((sLen+m:Nat):Int)>IntKind.i64.max):=by simp only [IntKind.max,IntKind.signed,IntKind.bits];omega
 have h48':¬(Builtin.nextslicecap (sLen+m) sCap*inf.bytes>2^48):=by have:=growslice_fits hgrow hby;omega
 have hw1:({w with drawn:=w.drawn+1}:World).heap=w.heap:=rfl
 have h2:∀w:World,(underlying t).run P w=.ok (.slice e) w:=fun w=>by simp [underlying,ht]
 have h3:∀w:World,(sizeOf e).run P w=.ok inf.size w:=fun w=>by simp [sizeOf,typeInfo,hi]
 have h4:∀w:World,(typeInfo e).run P w=.ok inf w:=fun w=>by simp [typeInfo,hi]
 have h5:∀w:World,(zeroValue e).run P w=.ok z w:=fun w=>by simp [zeroValue,typeInfo,hi,hzz]
 have hch:(choose (.appendCap (sLen+m) sCap e)).run P w=.ok (grownCap w (sLen+m) sCap e) {w with drawn:=w.drawn+1}:=by simp [Question.forced,grownCap]
 cases hs with
 |cells d hu hd hl hf=>
  have h1:(underlying t').run P w=.ok d w:=by simp [underlying,hu]
  unfold Builtin.append_;rcases hd with ⟨e',rfl⟩|rfl
  all_goals
   simp only [List.getElem?_toArray,List.getElem?_cons_zero,List.getElem?_cons_succ,Sem.run_bind,h2,Result.andThen_ok,h3,h1,Bool.false_eq_true,if_false,hl,if_neg hng,Bool.not_false,if_true,h4,Sem.run_pure];rw [if_neg (fun h=>h63' h.1)]
   simp only [Sem.run_bind,h4,Result.andThen_ok];rw [if_neg h48'];simp only [Sem.run_bind,hch,Result.andThen_ok,h4,run_askRoom,ho _ hw1,hf _ hw1,h5,newRow,run_newObj,Sem.run_pure]
 |zeros k k' hu hx hm hb z' hz' hzs hn=>
  subst hx;rw [hzz] at hz';cases hz';have hw:=EJ m (by omega)
  have h0:¬((m:Int)<0):=by omega
  have h48:¬((m:Int)*(inf.bytes:Int)>2^48):=by
   have:((m*inf.bytes:Nat):Int)≤140737488355328:=by omega
   rw [Int.natCast_mul] at this;omega
  have h1:(underlying t').run P w=.ok (.int k) w:=by simp [underlying,hu]
  unfold Builtin.append_;simp only [List.getElem?_toArray,List.getElem?_cons_zero,List.getElem?_cons_succ,Sem.run_bind,h2,Result.andThen_ok,h3,h1,Sem.run_pure,if_true,asInt,asIntOf,hw,if_neg h0,h4,if_neg h48,Int.toNat_natCast,if_neg hng,Bool.not_true,Bool.false_eq_true,if_false];rw [if_neg (fun h=>h63' h.1)]
  simp only [Sem.run_bind,h4,Result.andThen_ok];rw [if_neg h48'];simp only [Sem.run_bind,hch,Result.andThen_ok,h4,run_askRoom,ho _ hw1];by_cases e0:m*inf.size=0
  ·rw [if_pos e0]
   have hnv:nv.toArray = #[]:=by
    rw [hn];apply Array.eq_empty_of_size_eq_zero;simp [Builtin.zeroCells,hzs,e0]
   simp only [Sem.run_pure,Result.andThen_ok,Sem.run_bind,h5,newRow,run_newObj,hnv]
  ·rw [if_neg e0];simp only [Sem.run_pure,Result.andThen_ok,Sem.run_bind,h5,newRow,run_newObj,hn]
end
end Go.AE
namespace Go.AE
variable [Gl:Au]
variable [U:Unk]
section
variable {E:Env} (hE:OK E) {ρ:Ren} {h:Aa} {w:World}
include hE
omit hE in
theorem JO (hr:HR ρ h.blk.get w) (hf:ρ h.nx=none) (e:TypeId) {news olds:List AV} {nv ov:List Value} (hn:VL ρ news nv) (k sLen m cap es:Nat) (hov:ov.length=k) {c:T AV}
  (hc:∀i a,i<k+news.length→c.get i=some a→(∃v,i<k∧ov[i]?=some v∧VR ρ a v)∨(k≤i∧news[i-k]?=some a))
  (rest:Array Value) (hsz:(sLen+m)*es=k+news.length) (hrest:rest.size=(cap-(sLen+m))*es) (hcap:sLen+m≤cap) :
  ∃σ,HR σ (h.new (.cells (k+news.length) c)).blk.get {w with drawn:=w.drawn+1,heap:=w.heap.push (.cells (ov.toArray++nv.toArray++rest) e)}∧
   Ext ρ σ h (h.new (.cells (k+news.length) c)) w {w with drawn:=w.drawn+1,heap:=w.heap.push (.cells (ov.toArray++nv.toArray++rest) e)}∧
   VR σ (.slice h.nx 0 (sLen+m) es) (.slice (some ⟨w.heap.size,0,none⟩) (sLen+m) cap):=by
 have hnl:=hn.1;have hr1:HR ρ h.blk.get {w with drawn:=w.drawn+1}:=hr.same rfl
 have hasz:(ov.toArray++nv.toArray++rest).size=cap*es:=by
  simp only [Array.size_append,List.size_toArray,hov,←hnl,hrest];have:cap*es=(sLen+m)*es+(cap-(sLen+m))*es:=by rw [←Nat.add_mul];congr 1;omega
  omega
 obtain ⟨σ,s1,q1,q2⟩:=hr1.newRow hf e (n:=k+news.length) (c:=c) (ov.toArray++nv.toArray++rest) (by
  simp only [Array.size_append,List.size_toArray,hov,←hnl];omega) (by
  intro i a hi ha;rcases hc i a hi ha with ⟨v,h1,h2,h3⟩|⟨h1,h2⟩
  ·exact ⟨v,by rw [Array.append_assoc,Array.getElem?_append_left (by simp;omega)];simpa using h2,h3⟩
  ·obtain ⟨v,hv,hvr⟩:=hn.get h2;refine ⟨v,?_,hvr⟩;rw [Array.getElem?_append_left (by simp;omega),Array.getElem?_append_right (by simp;omega)]
   simpa [hov] using hv)
 refine ⟨σ,q1,Ext.drawn q2 rfl rfl rfl rfl,?_⟩;have hv:=VR.slice (ρ:=σ) h.nx 0 (sLen+m) es cap _ s1 hcap (by simp only [Nat.zero_add];omega)
 exact hv
theorem Ii (hr:HR ρ h.blk.get w) {t t' ty e:TypeId} {inf:TypeInfo} (ht:E.P.underlying t=some (.slice e)) (hi:E.ty.get e=some inf) {z:AV} (hz:E.zero e=some z) (hzl:z.cells.length=inf.size) {s a:AV} {sv xv:Value} {m:Nat} {news:List AV} {nv:List Value} {h':Aa}
  (hs:VR ρ s sv) (hsrc:R4 E.P w t' e inf xv m nv) (hn:VL ρ news nv) (hnl:news.length=m*inf.size) (ha:Cv inf s m news h=some (a,h')) (hf:Ax ρ h.nx h'.nx) :
  AB E ρ h h' w (Builtin.append_ #[t,t'] ty #[sv,xv]) a:=by
 obtain ⟨i',zv,i1,i2,i3⟩:=E2 hz;rw [hi] at i1;cases i1;have hinf:=hE.ty e inf hi
 have hzc:zv.cells.size=inf.size:=by
  have:=((Ay ρ i3).cells (Ba i3)).1;simp at this;omega
 cases hs with
 |slice0=>
  simp only [Cv] at ha;cases hc:(Nat.ble m 4611686018427387904&&Nat.ble (m*inf.bytes) 140737488355328) with
  |false=>simp [hc] at ha
  |true=>
   simp only [hc] at ha;obtain ⟨c1,c2⟩:=Am hc;have d1:=Cs c1;have d2:=Cs c2;cases m with
   |zero=>
    simp only [Option.some.injEq,Prod.mk.injEq] at ha;obtain ⟨rfl,rfl⟩:=ha;refine Ar hr ⟨.slice none 0 0,?_,.slice0⟩;rw [Co t t' ty e inf ht hinf xv 0 nv hsrc none 0 0 (by omega)]
    rfl
   |succ m=>
    simp only [Option.some.injEq,Prod.mk.injEq] at ha;obtain ⟨rfl,rfl⟩:=ha;have hfree:ρ h.nx=none:=hf h.nx (Nat.le_refl _) (by simp [A4,Aa.new])
    obtain ⟨cap,k1,k2⟩:=D0 t t' ty e inf ht hinf zv i2 xv (m+1) nv hsrc none 0 0 (by omega) (by omega) (by simpa using d2) #[] (fun w' _=>by simp [Builtin.firstCells])
    obtain ⟨σ,q1,q2,q3⟩:=JO hr hfree e (olds:=[]) (ov:=[]) hn 0 0 (m+1) cap inf.size rfl (c:=.ofList news) (by
     intro i a hi ha;rw [T.get_ofList] at ha;exact .inr ⟨Nat.zero_le _,by simpa using ha⟩) (Builtin.zeroCells zv.cells (cap-(0+(m+1)))) (by simp [hnl]) (by simp [Builtin.zeroCells,hzc]) k1
    simp only [Nat.zero_add] at q1 q2 q3 k2;exact ⟨σ,_,_,k2,q3,q1,q2⟩
 |slice b off n es cap base hb hcap hz2=>
  simp only [Cv] at ha;cases hc:(Nat.beq inf.size es&&DF news&&Nat.ble (n+m) 4611686018427387904&&Nat.ble ((n+m)*inf.bytes) 140737488355328) with
  |false=>simp [hc] at ha
  |true=>
   simp only [hc] at ha;obtain ⟨c123,c4⟩:=Am hc;obtain ⟨c12,c3⟩:=Am c123;obtain ⟨c1,c2⟩:=Am c12;have d1:=Aq c1;have d3:=Cs c3;have d4:=Cs c4;subst d1;cases m with
   |zero=>
    simp only [Option.some.injEq,Prod.mk.injEq] at ha;obtain ⟨rfl,rfl⟩:=ha
    have hnv:nv=[]:=by
     have e1:=hn.1;rw [hnl] at e1;simpa using e1.symm
    subst hnv;refine Ar hr ⟨.slice (some ⟨base.cb,base.co+off,none⟩) n cap,?_,.slice b off n inf.size cap base hb hcap hz2⟩;rw [Co t t' ty e inf ht hinf xv 0 [] hsrc _ n cap (by omega)]
    simp [storeCells]
   |succ m=>
    simp only [] at ha;cases hg:h.blk.get b with
    |none=>simp [hg] at ha
    |some y=>
     cases y with
     |cells sz c=>
      simp only [hg] at ha
      have hnew:∃c',a=.slice h.nx 0 (n+(m+1)) inf.size∧h'=(h.strike b).new (.cells (n*inf.size+news.length) c')∧off+n*inf.size≤sz∧
        ∀i a,i<n*inf.size+news.length→c'.get i=some a→(i<n*inf.size∧c.get (off+i)=some a)∨(n*inf.size≤i∧news[i-n*inf.size]?=some a):=by
       cases hq:(Nat.beq off 0&&Nat.beq (n*inf.size) sz) with
       |true=>
        simp only [hq,Option.some.injEq,Prod.mk.injEq] at ha;obtain ⟨rfl,rfl⟩:=ha;obtain ⟨g1,g2⟩:=Am hq;have e1:=Aq g1;have e2:=Aq g2;subst e1;refine ⟨_,rfl,rfl,by omega,?_⟩
        intro i a hi ha;rw [EA] at ha;by_cases c:n*inf.size≤i∧i<n*inf.size+news.length
        ·rw [if_pos c] at ha;exact .inr ⟨c.1,ha⟩
        ·rw [if_neg c] at ha;exact .inl ⟨by omega,by simpa using ha⟩
       |false=>
        simp only [hq] at ha;cases hl:B1 h b off (n*inf.size) with
        |none=>simp [hl] at ha
        |some olds=>
         simp only [hl,Option.some.injEq,Prod.mk.injEq] at ha;obtain ⟨rfl,rfl⟩:=ha;unfold B1 at hl;simp only [hg] at hl;cases hq2:Nat.ble (off+n*inf.size) sz with
         |false=>simp [hq2] at hl
         |true=>
          simp only [hq2] at hl;obtain ⟨l1,l2⟩:=T.range_spec c _ _ _ hl;refine ⟨_,rfl,rfl,Cs hq2,?_⟩;intro i a hi ha;rw [T.get_ofList] at ha;by_cases c:i<n*inf.size
          ·rw [List.getElem?_append_left (by omega)] at ha
           exact .inl ⟨c,by rw [l2 i c];exact ha⟩
          ·rw [List.getElem?_append_right (by omega),l1] at ha
           exact .inr ⟨by omega,ha⟩
      clear ha;obtain ⟨c',rfl,rfl,hoff,hc'⟩:=hnew;have hfree:ρ h.nx=none:=hf h.nx (Nat.le_refl _) (by simp [Aa.new,Aa.strike])
      obtain ⟨cur,e1,fz,r1,r2,r3,r4,r5⟩:=hr.blk b base _ hb hg;have hnvl:nv.length=(m+1)*inf.size:=by rw [←hn.1,hnl]
      have hncap:n*inf.size≤cap*inf.size:=Nat.mul_le_mul_right _ hcap;by_cases hroom:n+(m+1)≤cap
      ·
       have hfit:(n+(m+1))*inf.size≤cap*inf.size:=Nat.mul_le_mul_right _ hroom;rw [Nat.add_mul] at hfit;obtain ⟨w',cur',q1,q2,q3,q4,q5,q6,q7,q8,q9⟩:=BN E.P base.cb (base.co+off+n*inf.size) e1 fz nv 0 w cur r1 (by rw [hnvl,r2];omega) (by rw [r2];exact r4) (Gg c2 hn)
       have hx:BR (ρ.upd h.nx ⟨base.cb,base.co+off,base.csz⟩) (.cells (n*inf.size+news.length) c') ⟨base.cb,base.co+off,base.csz⟩ w'.heap[base.cb]?:=by
        refine ⟨cur',e1,fz,q2,by rw [q3,r2],?_,r4,?_⟩
        ·show base.co+off+(n*inf.size+news.length)≤base.csz;rw [hnl];omega
        ·intro i a hi ha;rw [q4];simp only [Nat.add_zero];rcases hc' i a hi ha with ⟨g1,g2⟩|⟨g1,g2⟩
         ·rw [if_neg (by omega)]
          obtain ⟨v,hv,hvr⟩:=r5 (off+i) a (by omega) g2
          exact ⟨v,by rw [←hv];congr 1;omega,hvr.mono (Ren.le_upd hfree _)⟩
         ·rw [if_pos (by rw [hnvl,←hnl];omega)]
          obtain ⟨v,hv,hvr⟩:=hn.get g2;exact ⟨v,by rw [←hv];congr 1;omega,hvr.mono (Ren.le_upd hfree _)⟩
       obtain ⟨p1,p2⟩:=hr.move hb (by rw [hg];simp) hfree (base':=⟨base.cb,base.co+off,base.csz⟩) rfl _ w' hx q5 q6 q7 q8 q9
       refine ⟨_,.slice (some ⟨base.cb,base.co+off,none⟩) (n+(m+1)) cap,w',?_,?_,p1,p2⟩
       ·rw [Co t t' ty e inf ht hinf xv (m+1) nv hsrc _ n cap hroom];simp only [BJ];rw [q1];rfl
       ·have:=VR.slice (ρ:=ρ.upd h.nx ⟨base.cb,base.co+off,base.csz⟩) h.nx 0 (n+(m+1)) inf.size cap _ (Ren.upd_same _ _ _) hroom (by simp only [Nat.add_zero];omega)
        simpa using this
      ·
       have hov:=Av E.P
       obtain ⟨cap',k1,k2⟩:=D0 t t' ty e inf ht hinf zv i2 xv (m+1) nv hsrc (some ⟨base.cb,base.co+off,none⟩) n cap (by omega) (by omega) d4 ((cur.toList.drop (base.co+off)).take (n*inf.size)).toArray (fun w' hw=>by
        simp only [Builtin.firstCells];exact Av E.P w' base.cb (base.co+off) (n*inf.size) cur e1 fz (by rw [hw];exact r1) (by rw [r2];omega))
       obtain ⟨p1,p2⟩:=hr.strike b;have hovl:((cur.toList.drop (base.co+off)).take (n*inf.size)).length=n*inf.size:=by simp;omega
       obtain ⟨σ,q1,q2,q3⟩:=JO p1 hfree e (olds:=[]) (ov:=(cur.toList.drop (base.co+off)).take (n*inf.size)) hn (n*inf.size) n (m+1) cap' inf.size hovl (c:=c') (by
        intro i a hi ha;rcases hc' i a hi ha with ⟨g1,g2⟩|⟨g1,g2⟩
        ·obtain ⟨v,hv,hvr⟩:=r5 (off+i) a (by omega) g2
         refine .inl ⟨v,g1,?_,hvr⟩;rw [List.getElem?_take,if_pos g1,List.getElem?_drop,Array.getElem?_toList,←hv]
         congr 1;omega
        ·exact .inr ⟨g1,g2⟩) (Builtin.zeroCells zv.cells (cap'-(n+(m+1)))) (by rw [hnl,Nat.add_mul]) (by simp [Builtin.zeroCells,hzc]) k1
       refine ⟨σ,_,_,k2,q3,q1,p2.trans q2 ?_⟩;exact hf
     |_=>simp [hg] at ha
 |sliceEnd b off es ad=>
  simp only [Cv] at ha;cases hc:(Nat.beq inf.size es&&DF news&&Nat.ble (0+m) 4611686018427387904&&Nat.ble ((0+m)*inf.bytes) 140737488355328) with
  |false=>simp only [hc] at ha;cases ha
  |true=>
   simp only [hc] at ha;obtain ⟨c123,c4⟩:=Am hc;obtain ⟨c12,c3⟩:=Am c123;obtain ⟨c1,c2⟩:=Am c12;have d1:=Aq c1;have d3:=Cs c3;have d4:=Cs c4;subst d1;cases m with
   |zero=>
    simp only [Option.some.injEq,Prod.mk.injEq] at ha;obtain ⟨rfl,rfl⟩:=ha
    have hnv:nv=[]:=by
     have e1:=hn.1;rw [hnl] at e1;simpa using e1.symm
    subst hnv;refine Ar hr ⟨.slice (some ad) 0 0,?_,.sliceEnd b off inf.size ad⟩;rw [Co t t' ty e inf ht hinf xv 0 [] hsrc _ 0 0 (by omega)]
    simp [storeCells]
   |succ m=>
    simp only [] at ha;cases hg:h.blk.get b with
    |none=>simp [hg] at ha
    |some y=>
     cases y with
     |cells sz c=>
      simp only [hg] at ha
      have hnew:∃c',a=.slice h.nx 0 (0+(m+1)) inf.size∧h'=(h.strike b).new (.cells (0*inf.size+news.length) c')∧
        ∀i a,i<0+news.length→c'.get i=some a→news[i]?=some a:=by
       cases hq:(Nat.beq off 0&&Nat.beq (0*inf.size) sz) with
       |true=>
        simp only [hq,Option.some.injEq,Prod.mk.injEq] at ha;obtain ⟨rfl,rfl⟩:=ha;refine ⟨_,rfl,rfl,?_⟩;intro i a hi ha;rw [EA] at ha;rw [if_pos (by simp only [Nat.zero_mul];omega)] at ha
        simpa using ha
       |false=>
        simp only [hq] at ha;cases hl:B1 h b off (0*inf.size) with
        |none=>simp only [hl] at ha;cases ha
        |some olds=>
         simp only [hl,Option.some.injEq,Prod.mk.injEq] at ha;obtain ⟨rfl,rfl⟩:=ha
         have ho:olds=[]:=by
          unfold B1 at hl;simp only [hg,Nat.zero_mul] at hl;cases hq2:Nat.ble (off+0) sz with
          |false=>simp only [hq2] at hl;cases hl
          |true=>simp only [hq2,T.range,Option.some.injEq] at hl;exact hl.symm
         subst ho;refine ⟨_,rfl,rfl,?_⟩;intro i a hi ha;rw [T.get_ofList] at ha;simpa using ha
      clear ha;obtain ⟨c',rfl,rfl,hc'⟩:=hnew;have hfree:ρ h.nx=none:=hf h.nx (Nat.le_refl _) (by simp [Aa.new,Aa.strike])
      obtain ⟨cap',k1,k2⟩:=D0 t t' ty e inf ht hinf zv i2 xv (m+1) nv hsrc (some ad) 0 0 (by omega) (by omega) d4 #[] (fun w' hw=>by simp [Builtin.firstCells,Go.loadCells,loadCellsFrom])
      obtain ⟨p1,p2⟩:=hr.strike b
      obtain ⟨σ,q1,q2,q3⟩:=JO p1 hfree e (olds:=[]) (ov:=[]) hn 0 0 (m+1) cap' inf.size rfl (c:=c') (by
       intro i a hi ha;exact .inr ⟨Nat.zero_le _,by simpa using hc' i a hi ha⟩) (Builtin.zeroCells zv.cells (cap'-(0+(m+1)))) (by simp [hnl]) (by simp [Builtin.zeroCells,hzc]) k1
      simp only [Nat.zero_mul] at hf ⊢;exact ⟨σ,_,_,k2,q3,q1,p2.trans q2 hf⟩
     |_=>simp [hg] at ha
 |_=>simp [Cv] at ha
theorem J4 (hr:HR ρ h.blk.get w) {t t' ty:TypeId} {s x a:AV} {sv xv:Value} {h':Aa} (hs:VR ρ s sv) (hx:VR ρ x xv) (ha:Hf E t t' s x h=some (a,h')) (hf:Ax ρ h.nx h'.nx) :
  AB E ρ h h' w (Builtin.append_ #[t,t'] ty #[sv,xv]) a:=by
 unfold Hf at ha;cases hd:E.desc t with
 |none=>simp [hd] at ha
 |some d=>
  cases d with
  |slice e=>
   simp only [hd] at ha;cases hi:E.ty.get e with
   |none=>simp [hi] at ha
   |some inf=>
    simp only [hi] at ha;cases hz:E.zero e with
    |none=>simp [hz] at ha
    |some z=>
     simp only [hz] at ha;cases hzq:Nat.beq z.cells.length inf.size with
     |false=>simp [hzq] at ha
     |true=>
     simp only [hzq] at ha;have hzl:=Aq hzq
     have cellsrc:∀(d':TypeDesc),E.desc t'=some d'→((∃e',d'=.slice e')∨d'=.string)→(match E8 x with
       |none=>none
       |some m=>match JN h inf.size m x with
        |none=>none
        |some news=>Cv inf s m news h)=some (a,h')→AB E ρ h h' w (Builtin.append_ #[t,t'] ty #[sv,xv]) a:=by
      intro d' hd' hk hq;cases hl:E8 x with
      |none=>simp [hl] at hq
      |some m=>
       simp only [hl] at hq;cases hsr:JN h inf.size m x with
       |none=>simp [hsr] at hq
       |some news=>
        simp only [hsr] at hq;obtain ⟨vs,v1,v2,v3,v4⟩:=Qd hr E.P hx hl (Nat.le_refl m) hsr;exact Ii hE hr (hE.und hd) hi hz hzl hs (.cells d' (hE.und hd') hk v3 v4) v1 v2 hq hf
     cases hd':E.desc t' with
     |none=>simp [hd'] at ha
     |some d'=>
      cases d' with
      |int k=>
       simp only [hd'] at ha;cases hn:Cm x with
       |none=>simp [hn] at ha
       |some m=>
        simp only [hn] at ha;cases hc:(Nat.ble m 1048576&&Nat.ble (m*inf.bytes) 140737488355328) with
        |false=>simp [hc] at ha
        |true=>
         simp only [hc] at ha;obtain ⟨c1,c2⟩:=Am hc;obtain ⟨k',rfl⟩:=BF hx hn;obtain ⟨i',zv,i1,i2,i3⟩:=E2 hz;rw [hi] at i1;cases i1;have zc:=(Ay ρ i3).cells (Ba i3);have hzs:zv.cells.size=inf.size:=by have:=zc.1;simp at this;omega
         have hv:=DN zc m zv.cells (.inr rfl)
         have hnv:((Array.range (m*z.cells.length)).map (zv.cells[· % zv.cells.size]!)).toList.toArray=Builtin.zeroCells zv.cells m:=by
          rw [Array.toArray_toList,Builtin.zeroCells,hzs,hzl]
         refine Ii hE hr (hE.und hd) hi hz hzl hs (.zeros k k' (hE.und hd') rfl (Cs c1) (Cs c2) zv i2 hzs hnv) hv (by rw [BS,hzl]) ha hf
      |slice e'=>simp only [hd'] at ha;exact cellsrc _ hd' (.inl ⟨e',rfl⟩) ha
      |string=>simp only [hd'] at ha;exact cellsrc _ hd' (.inr rfl) ha
      |_=>simp [hd'] at ha
  |_=>simp [hd] at ha
theorem S7 (hr:HR ρ h.blk.get w) {t t' ty:TypeId} {d x a:AV} {dv xv:Value} {h':Aa} (hdv:VR ρ d dv) (hx:VR ρ x xv) (ha:P9 E t d x h=some (a,h')) (ats:Array TypeId) (hat:ats[0]?=some t) :
  AB E ρ h h' w (Builtin.copy_ ats ty #[dv,xv]) a:=by
 unfold P9 at ha;cases hd:E.desc t with
 |none=>simp [hd] at ha
 |some ds=>
  cases ds with
  |slice e=>
   simp only [hd] at ha;cases hi:E.ty.get e with
   |none=>simp [hi] at ha
   |some inf=>
    simp only [hi] at ha;cases hn:E8 d with
    |none=>simp [hn] at ha
    |some n=>
     cases hm:E8 x with
     |none=>simp [hn,hm] at ha
     |some m=>
      simp only [hn,hm] at ha;cases hs:JN h inf.size (min m n) x with
      |none=>simp [hs] at ha
      |some l=>
       simp only [hs] at ha;obtain ⟨vs,v1,v2,v3,v4⟩:=Qd hr E.P hx hm (Nat.min_le_left _ _) hs;have v5:=v4 w rfl
       have hrun:∀(bs:Option Addr) (cap:Nat),(Builtin.copy_ ats ty #[.slice bs n cap,xv]).run E.P w =
         ((match bs with|some a=>storeCells a vs|none=>pure ()).run E.P w).andThen fun _ w'=>.ok (goInt (min m n:Nat)) w':=by
        intro bs cap;unfold Builtin.copy_;simp only [hat,List.getElem?_toArray,List.getElem?_cons_zero,List.getElem?_cons_succ,Sem.run_bind,hE.run_und hd,Result.andThen_ok,v3,hE.run_sz hi];have:Nat.min m n=min m n:=rfl;rw [this,v5];simp only [Result.andThen_ok];cases bs<;>simp
       cases hdv with
       |slice0=>
        simp only [E8,Option.some.injEq] at hn;subst hn;simp only [Option.some.injEq,Prod.mk.injEq] at ha;obtain ⟨rfl,rfl⟩:=ha;refine Ar hr ⟨goInt (min m 0:Nat),by rw [hrun none 0];simp,?_⟩
        rw [Nat.min_zero];exact .int _ _
       |slice b off k es cap base hb hcap hz=>
        simp only [E8,Option.some.injEq] at hn;subst hn;simp only [] at ha;cases he:Nat.beq inf.size es with
        |false=>simp [he] at ha
        |true=>
         simp only [he] at ha;cases l with
         |nil=>
          simp only [Option.some.injEq,Prod.mk.injEq] at ha;obtain ⟨rfl,rfl⟩:=ha;have:=v1.nil_inv;subst this;exact Ar hr ⟨goInt (min m k:Nat),by rw [hrun];simp [storeCells],.int _ _⟩
         |cons l0 lr=>
          simp only [] at ha;cases hst:storeN h b off (l0::lr) with
          |none=>simp [hst] at ha
          |some h2=>
           simp only [hst,Option.some.injEq,Prod.mk.injEq] at ha;obtain ⟨rfl,rfl⟩:=ha;obtain ⟨w',q1,q2,q3⟩:=hr.storeN E.P hb v1 hst;exact ⟨ρ,goInt (min m k:Nat),w',by rw [hrun];simp only [];rw [q1];rfl,.int _ _,q2,q3⟩
       |sliceEnd b off es ad=>
        simp only [E8,Option.some.injEq] at hn;subst hn;simp only [] at ha;cases he:Nat.beq inf.size es with
        |false=>simp [he] at ha
        |true=>
         simp only [he] at ha
         have hl0:l=[]:=by
          rw [Nat.min_zero,Nat.zero_mul] at v2;exact List.eq_nil_of_length_eq_zero v2
         subst hl0;simp only [Option.some.injEq,Prod.mk.injEq] at ha;obtain ⟨rfl,rfl⟩:=ha;have:=v1.nil_inv;subst this;exact Ar hr ⟨goInt (min m 0:Nat),by rw [hrun];simp [storeCells],.int _ _⟩
       |_=>simp at ha
  |_=>simp [hd] at ha
end
end Go.AE
namespace Go.AE
variable [Gl:Au]
variable [U:Unk]
section
variable {E:Env} (hE:OK E) {ρ:Ren} {w:World}
include hE
theorem Iw {d:Nat} (ih:∀(t:TypeId) (x y:AV) (r:Bool) (xv yv:Value),aeq E d t x y=some r→VR ρ x xv→VR ρ y yv→(Op.equalIn d t xv yv).run E.P w=.ok r w)
  {xs ys:List AV} {xs' ys':List Value} (hx:VL ρ xs xs') (hy:VL ρ ys ys'):∀{fs:List Field} {r:Bool},eqFields E (aeq E d) xs ys fs=some r→
  (Op.eqFields d xs'.toArray ys'.toArray fs).run E.P w=.ok r w
 |[],r,h=>by simp only [eqFields,Option.some.injEq] at h;subst h;simp [Op.eqFields]
 |f::fs,r,h=>by
  simp only [eqFields] at h;cases hn:(f.name == "_") with
  |true=>simp [hn] at h
  |false=>
   simp only [hn] at h;have hne:f.name≠ "_":=by simpa using hn
   cases h1:B6 E f.type xs f.offset with
   |none=>simp [h1] at h
   |some a=>
    cases h2:B6 E f.type ys f.offset with
    |none=>simp [h1,h2] at h
    |some b=>
     simp only [h1,h2] at h;obtain ⟨av,q1,q2⟩:=hE.run_part h1 hx w;obtain ⟨bv,q3,q4⟩:=hE.run_part h2 hy w;cases h3:aeq E d f.type a b with
     |none=>simp [h3] at h
     |some r3=>
      have q5:=ih _ _ _ _ _ _ h3 q2 q4;simp only [Op.eqFields,ne_eq,hne,not_false_eq_true,if_true,Sem.run_bind,q1,q3,q5,Result.andThen_ok];cases r3 with
      |true=>simp only [h3] at h;simp only [Bool.not_true,Bool.false_eq_true,if_false];exact Iw ih hx hy h
      |false=>simp only [h3,Option.some.injEq] at h;subst h;simp
theorem Kz {d:Nat} (ih:∀(t:TypeId) (x y:AV) (r:Bool) (xv yv:Value),aeq E d t x y=some r→VR ρ x xv→VR ρ y yv→(Op.equalIn d t xv yv).run E.P w=.ok r w)
  {xs ys:List AV} {xs' ys':List Value} (hx:VL ρ xs xs') (hy:VL ρ ys ys') {e:TypeId} {n:Nat}:∀{k i:Nat} {r:Bool},G6 E (aeq E d) e n xs ys k i=some r→
  (Op.eqItems d e n xs'.toArray ys'.toArray (List.range' i k)).run E.P w=.ok r w
 |0,i,r,h=>by simp only [G6,Option.some.injEq] at h;subst h;simp [Op.eqItems]
 |k+1,i,r,h=>by
  simp only [G6] at h;cases h1:B6 E e xs (i*n) with
  |none=>simp [h1] at h
  |some a=>
   cases h2:B6 E e ys (i*n) with
   |none=>simp [h1,h2] at h
   |some b=>
    simp only [h1,h2] at h;obtain ⟨av,q1,q2⟩:=hE.run_part h1 hx w;obtain ⟨bv,q3,q4⟩:=hE.run_part h2 hy w;cases h3:aeq E d e a b with
    |none=>simp [h3] at h
    |some r3=>
     have q5:=ih _ _ _ _ _ _ h3 q2 q4;simp only [List.range'_succ,Op.eqItems,Sem.run_bind,q1,q3,q5,Result.andThen_ok];cases r3 with
     |true=>simp only [h3] at h;simp only [Bool.not_true,Bool.false_eq_true,if_false];exact Kz ih hx hy h
     |false=>simp only [h3,Option.some.injEq] at h;subst h;simp
set_option maxHeartbeats 1000000 in
theorem Pd:∀(d:Nat) (t:TypeId) (x y:AV) (r:Bool) (xv yv:Value),aeq E d t x y=some r→VR ρ x xv→VR ρ y yv→(Op.equalIn d t xv yv).run E.P w=.ok r w:=by
 intro d
 induction d with
 |zero=>intro t x y r xv yv h;simp [aeq] at h
 |succ d ih=>
  intro t x y r xv yv h hx hy;simp only [aeq] at h;cases hd:E.desc t with
  |none=>rw [hd] at h;cases h
  |some ds=>
   rw [hd] at h;have hu:=hE.run_und hd w;have fin:∀b:Bool,some b=some r→b=r:=fun b e=>by simpa using e
   cases ds with
   |bool=>
    cases hx<;>first | (cases h;done)|skip
    cases hy<;>first | (cases h;done)|skip
    rw [←fin _ h];simp [Op.equalIn,hu]
   |int k0=>
    cases hx<;>first | (cases h;done)|skip
    cases hy<;>first | (cases h;done)|skip
    rename_i k a k' b;by_cases hk:k=k'
    ·subst hk;simp only [decide_true,Option.some.injEq] at h;subst h;simp [Op.equalIn,hu]
    ·simp [hk] at h
   |string=>
    cases hx<;>first | (cases h;done)|skip
    cases hy<;>first | (cases h;done)|skip
    rename_i s s';simp only [Option.some.injEq] at h;subst h;rw [Ck];simp only [Op.equalIn,Sem.run_bind,hu,Result.andThen_ok,Sem.run_pure];rw [beq_toListBytes]
   |pointer e=>
    cases hx<;>first | (cases h;done)|skip
    all_goals
     cases hy<;>first | (cases h;done)|skip
    all_goals (rw [←fin _ h];simp [Op.equalIn,hu])
   |interface ms=>
    cases hx<;>first | (cases h;done)|skip
    ·rename_i tx a v hv;cases hy<;>first | (cases h;done)|skip
     ·rename_i ty b v' hv';simp only [] at h;cases hq:Nat.beq tx ty with
      |false=>
       simp only [hq,Option.some.injEq] at h;subst h;have:=NI hq;simp [Op.equalIn,hu,this]
      |true=>
       simp only [hq] at h;have:=Aq hq;subst this;cases hi:E.ty.get tx with
       |none=>simp [hi] at h
       |some inf=>
        simp only [hi] at h;cases hc:inf.comparable with
        |false=>simp [hc] at h
        |true=>
         simp only [hc] at h;have:=ih _ _ _ _ _ _ h hv hv';simp [Op.equalIn,hu,hE.run_info hi,hc,this]
     ·rw [←fin _ h];simp [Op.equalIn,hu]
    ·cases hy<;>first | (cases h;done)|skip
     all_goals (rw [←fin _ h];simp [Op.equalIn,hu])
   |struct fs=>
    cases hx<;>first | (cases h;done)|skip
    cases hy<;>first | (cases h;done)|skip
    rename_i xs xs' a1 a2 ys ys' b1 b2;simp only [] at h;cases hs:E.P.stoodInHeld t with
    |true=>simp [hs] at h
    |false=>
     simp only [hs] at h;have hund:=hE.und hd;have hfo:E.P.fieldsOf t=fs:=by simp [Program.fieldsOf,hund]
     rw [run_equalIn_struct w d t xs'.toArray ys'.toArray (by rw [hfo];exact hund) hs,hfo]
     exact Iw hE ih ⟨a1,a2⟩ ⟨b1,b2⟩ h
   |array len e=>
    cases hx<;>first | (cases h;done)|skip
    cases hy<;>first | (cases h;done)|skip
    rename_i xs xs' a1 a2 ys ys' b1 b2;simp only [] at h;cases hh:E.has e with
    |false=>simp [hh] at h
    |true=>
     simp only [hh] at h;unfold Env.has at hh;cases hi:E.ty.get e with
     |none=>simp [hi] at hh
     |some inf=>
      have hcs:E.P.cellsOf e=E.size e:=by simp [Program.cellsOf,hE.ty e inf hi,Env.size,hi]
      rw [run_equalIn_array w d xs'.toArray ys'.toArray (hE.und hd) (hE.ty e inf hi),hcs,List.range_eq_range'];exact Kz hE ih ⟨a1,a2⟩ ⟨b1,b2⟩ h
   |slice e=>
    cases hx<;>first | (cases h;done)|skip
    all_goals
     cases hy<;>first | (cases h;done)|skip
    all_goals (rw [←fin _ h];simp [Op.equalIn,hu])
   |map k e=>
    cases hx<;>first | (cases h;done)|skip
    all_goals
     cases hy<;>first | (cases h;done)|skip
    all_goals (rw [←fin _ h];simp [Op.equalIn,hu])
   |func ps rs v=>
    cases hx<;>first | (cases h;done)|skip
    all_goals
     cases hy<;>first | (cases h;done)|skip
    all_goals (rw [←fin _ h];simp [Op.equalIn,hu])
   |_=>cases hx<;>first | (cases h;done) | (cases hy<;>(cases h;done))
end
end Go.AE
namespace Go.AE
variable [Gl:Au]
variable [U:Unk]
theorem CN (k:IntKind) (x:Int):(BitVec.ofInt k.bits x).toNat=bits k x:=by
 simp [bits,BitVec.toNat_ofInt]
section
variable {E:Env} (hE:OK E) {ρ:Ren} {h:Aa} {w:World}
theorem HH {op:BinOp} {k:IntKind} {a b:Int} {r:AV} (t:TypeId) (hs:op≠.shl) (hs':op≠.shr) (hr:CK op k a b=some r) :
    ∃v,(binOp op t (.int k a) (.int k b)).run E.P w=.ok v w∧VR ρ r v:=by
  cases op<;>simp only [CK] at hr<;>first | (cases hr;done)|exact absurd rfl hs|skip
  case quo=>
    cases hb:(b==0) with
    |true=>simp [hb] at hr
    |false=>
      simp only [hb,Option.some.injEq] at hr;have:b≠0:=by simpa using hb
      subst hr;exact ⟨_,by simp [binOp,Op.intDiv,this],.int _ _⟩
  case rem=>
    cases hb:(b==0) with
    |true=>simp [hb] at hr
    |false=>
      simp only [hb,Option.some.injEq] at hr;have:b≠0:=by simpa using hb
      subst hr;exact ⟨_,by simp [binOp,Op.intDiv,this],.int _ _⟩
  case and=>
    simp only [Option.some.injEq] at hr;subst hr;refine ⟨_,by simp only [binOp,Op.intBits,ne_eq,not_true_eq_false,if_false,Sem.run_pure];rfl,?_⟩
    rw [BitVec.toNat_and,CN,CN];exact .int _ _
  case or=>
    simp only [Option.some.injEq] at hr;subst hr;refine ⟨_,by simp only [binOp,Op.intBits,ne_eq,not_true_eq_false,if_false,Sem.run_pure];rfl,?_⟩
    rw [BitVec.toNat_or,CN,CN];exact .int _ _
  case xor=>
    simp only [Option.some.injEq] at hr;subst hr;refine ⟨_,by simp only [binOp,Op.intBits,ne_eq,not_true_eq_false,if_false,Sem.run_pure];rfl,?_⟩
    rw [BitVec.toNat_xor,CN,CN];exact .int _ _
  all_goals
    simp only [Option.some.injEq] at hr;subst hr;refine ⟨_,by simp only [binOp,Op.intArith,Op.intCmp,ne_eq,not_true_eq_false,if_false,Sem.run_pure];rfl,?_⟩
    first
      |exact .int _ _
      |exact .bool _
      | (rename_i pos e;have h:=VR.sb (ρ:=ρ) (!pos) e;have h2:(!(Ai U.V e==pos))=(Ai U.V e == !pos):=by cases Ai U.V e<;>cases pos<;>rfl
         rw [h2];exact h)
theorem HX (d:Nat) (t:TypeId) (x y:AV) (hx:x.isSym=true):aeq E d t x y=none:=by
 cases d with
 |zero=>rfl
 |succ d=>
  simp only [aeq];cases E.desc t with
  |none=>rfl
  |some ds=>cases x<;>first | (cases hx;done) | (cases ds<;>rfl)
theorem H5 (d:Nat) (t:TypeId) (x y:AV) (hy:y.isSym=true):aeq E d t x y=none:=by
 cases d with
 |zero=>rfl
 |succ d=>
  simp only [aeq];cases E.desc t with
  |none=>rfl
  |some ds=>cases y<;>first | (cases hy;done) | (cases ds<;>cases x<;>rfl)
theorem Rj {op:BinOp} {k k':IntKind} {a b:Int} {r:AV} (t:TypeId) (hs:op=.shl∨op=.shr) (hr:Ks op k a b=some r) :
  ∃v,(binOp op t (.int k a) (.int k' b)).run E.P w=.ok v w∧VR ρ r v:=by
 unfold Ks at hr;by_cases hb:b<0
 ·simp [hb] at hr
 ·simp only [hb,decide_false] at hr;rcases hs with rfl|rfl
  ·simp only [Option.some.injEq] at hr;subst hr;exact ⟨_,by simp only [binOp,Op.shift,hb,if_false,Sem.run_pure],.int _ _⟩
  ·simp only [Option.some.injEq] at hr;subst hr;exact ⟨_,by simp only [binOp,Op.shift,hb,if_false,Sem.run_pure],.int _ _⟩
theorem La {op:BinOp} {s s':ByteArray} {r:AV} (t:TypeId) (hr:Mg op s.data.toList.length (As s.data.toList) s'.data.toList.length (As s'.data.toList)=some r) :
  ∃v,(binOp op t (.string s) (.string s')).run E.P w=.ok v w∧VR ρ r v:=by
 have hless:=L8 (s.data.toList.length+1) s.data.toList s'.data.toList (Nat.lt_succ_self _);have e1:=ByteArray.toList_eq s;have e2:=ByteArray.toList_eq s';cases op<;>simp only [Mg] at hr<;>first | (cases hr;done)|skip
 case add=>
  cases hc:Nat.ble (s.data.toList.length+s'.data.toList.length) 4611686018427387904 with
  |false=>simp only [hc] at hr;cases hr
  |true=>
   simp only [hc,Option.some.injEq] at hr;subst hr;have hle:=Cs hc;have hsz:s.size=s.data.toList.length:=by simp
   have hsz':s'.size=s'.data.toList.length:=by simp
   refine ⟨.string (s++s'),?_,?_⟩
   ·have hmax:¬(((s.size+s'.size:Nat):Int)>IntKind.i64.max):=by
     simp only [IntKind.max,IntKind.signed,IntKind.bits];omega
    simp only [binOp,Op.stringOp];rw [if_neg hmax];rfl
   ·have hv:=VR.str (ρ:=ρ) (s++s');have hd:(s++s').data.toList=s.data.toList++s'.data.toList:=by simp [ByteArray.data_append]
    rw [hd,List.length_append,Ew,←Md] at hv;exact hv
 all_goals
  simp only [Option.some.injEq] at hr;subst hr;refine ⟨_,by simp only [binOp,Op.stringOp,Sem.run_pure];rfl,?_⟩
  first
   | (rw [Ck];exact .bool _)
   | (rw [hless,Ck,e1,e2];exact .bool _)
   | (rw [hless,e1,e2];exact .bool _)
theorem Yl {op:UnOp} {x r:AV} {xv:Value} (hx:VR ρ x xv) (hr:unA op x=some r):∃v,(Op.unary op xv).run E.P w=.ok v w∧VR ρ r v:=by
  cases op<;>cases hx<;>simp only [unA] at hr<;>first | (cases hr;done)|skip
  all_goals
    simp only [Option.some.injEq] at hr;subst hr;refine ⟨_,by simp only [Op.unary,Op.intArith,Sem.run_pure];rfl,?_⟩
    first
      |exact .int _ _
      |exact .bool _
      | (rename_i pos e;have h:=VR.sb (ρ:=ρ) (!pos) e;have h2:(!(Ai U.V e==pos))=(Ai U.V e == !pos):=by cases Ai U.V e<;>cases pos<;>rfl
         rw [h2];exact h)
theorem BA {op:BinOp} {t:TypeId} {x y:Operand} {a b:Value} (h1:¬(a=.nilIface∧b=.nilIface)) (h2:(∃xs,a=.agg xs)→(∃ys,b=.agg ys)→E.P.eqGuardType E.P.depth t=false) :
  (eqGuard op t x y a b).run E.P w=.ok () w:=by
 unfold eqGuard;cases op<;>(try (simp;done))
 all_goals
  cases a<;>cases b<;>first
   | (simp;done)
   | (exact absurd ⟨rfl,rfl⟩ h1)
   | (rename_i xs ys;simp [h2 ⟨xs,rfl⟩ ⟨ys,rfl⟩])
theorem LL (d:Nat) (t:TypeId) (y:AV):aeq E d t .top y=none:=by
 cases d with
 |zero=>rfl
 |succ d=>
  simp only [aeq];cases E.desc t with
  |none=>rfl
  |some ds=>cases ds<;>rfl
theorem KW (d:Nat) (t:TypeId) (x:AV):aeq E d t x .top=none:=by
 cases d with
 |zero=>rfl
 |succ d=>
  simp only [aeq];cases E.desc t with
  |none=>rfl
  |some ds=>cases ds<;>cases x<;>rfl
theorem Dr (t:TypeId) (xv yv:Value) (h1:¬∃k a k' b,xv=.int k a∧yv=.int k' b) (h2:¬∃k a k' b,xv=.float k a∧yv=.float k' b) (h3:¬∃k a b k' c d,xv=.complex k a b∧yv=.complex k' c d) (h4:¬∃a b,xv=.string a∧yv=.string b) :
  binOp .eql t xv yv=(do pure (.bool (←Op.equal t xv yv)))∧binOp .neq t xv yv=(do pure (.bool (!(←Op.equal t xv yv)))):=by
 cases xv<;>cases yv<;>first
  |exact ⟨rfl,rfl⟩
  |exact absurd ⟨_,_,_,_,rfl,rfl⟩ h1
  |exact absurd ⟨_,_,_,_,rfl,rfl⟩ h2
  |exact absurd ⟨_,_,_,_,_,_,rfl,rfl⟩ h3
  |exact absurd ⟨_,_,rfl,rfl⟩ h4
include hE
theorem Tg {t:TypeId} {x y:AV} {xv yv:Value} {b:Bool} (hx:VR ρ x xv) (hy:VR ρ y yv) (hb:aeq E 10000 t x y=some b) (hi:¬∃k a k' b,x=.int k a∧y=.int k' b) (hs:¬∃l a l' b,x=.str l a∧y=.str l' b) :
  (binOp .eql t xv yv).run E.P w=.ok (.bool b) w∧(binOp .neq t xv yv).run E.P w=.ok (.bool (!b)) w:=by
 have hxt:x≠.top:=by rintro rfl;rw [LL] at hb;cases hb
 have hyt:y≠.top:=by rintro rfl;rw [KW] at hb;cases hb
 have hrun:=Pd (w:=w) hE 10000 t x y b xv yv hb hx hy
 obtain ⟨q1,q2⟩:=Dr t xv yv (by
   rintro ⟨k,a,k',c,rfl,rfl⟩
   cases hx with
   |top=>exact hxt rfl
   |si k e=>rw [HX _ _ _ _ rfl] at hb;cases hb
   |stamp=>rw [HX _ _ _ _ rfl] at hb;cases hb
   |int=>cases hy with
    |top=>exact hyt rfl
    |stamp=>rw [H5 _ _ _ _ rfl] at hb;cases hb
    |si k e=>rw [H5 _ _ _ _ rfl] at hb;cases hb
    |int=>exact hi ⟨_,_,_,_,rfl,rfl⟩) (by
   rintro ⟨k,a,k',c,rfl,rfl⟩
   cases hx;exact hxt rfl) (by
   rintro ⟨k,a,b',k',c,d,rfl,rfl⟩
   cases hx;exact hxt rfl) (by
   rintro ⟨a,c,rfl,rfl⟩
   cases hx with
   |top=>exact hxt rfl
   |ss i=>rw [HX _ _ _ _ rfl] at hb;cases hb
   |str=>cases hy with
    |top=>exact hyt rfl
    |ss i=>rw [H5 _ _ _ _ rfl] at hb;cases hb
    |str=>exact hs ⟨_,_,_,_,rfl,rfl⟩)
 rw [q1,q2];simp only [Op.equal,Op.maxDepth,Sem.run_bind,hrun,Result.andThen_ok,Sem.run_pure];exact ⟨trivial,trivial⟩
theorem QH {op:BinOp} {t:TypeId} {ox oy:Operand} {x y r:AV} {xv yv:Value} (hx:VR ρ x xv) (hy:VR ρ y yv) (hr:O2 E op t x y=some r) :
  ∃v,(do eqGuard op t ox oy xv yv;binOp op t xv yv:Sem Value).run E.P w=.ok v w∧VR ρ r v:=by
 have eqs:(¬∃k a k' b,x=.int k a∧y=.int k' b)→(¬∃l a l' b,x=.str l a∧y=.str l' b)→(¬(x=.nilIface∧y=.nilIface))→((∃xs,x=.agg xs)→(∃ys,y=.agg ys)→E.P.eqGuardType E.P.depth t=false)→
   (match op with
    |.eql=>(aeq E 10000 t x y).map AV.bool
    |.neq=>(aeq E 10000 t x y).map fun b=>AV.bool (!b)
    |_=>none)=some r→∃v,(do eqGuard op t ox oy xv yv;binOp op t xv yv:Sem Value).run E.P w=.ok v w∧VR ρ r v:=by
  intro h1 h2 h3 h4 h5
  have hab:∃b,aeq E 10000 t x y=some b:=by
   cases hb:aeq E 10000 t x y with
   |some b=>exact ⟨b,rfl⟩
   |none=>cases op<;>simp [hb] at h5
  obtain ⟨b,hb⟩:=hab;have hxt:x≠.top:=by rintro rfl;rw [LL] at hb;cases hb
  have hyt:y≠.top:=by rintro rfl;rw [KW] at hb;cases hb
  have hg:(eqGuard op t ox oy xv yv).run E.P w=.ok () w:=BA (by
    rintro ⟨rfl,rfl⟩
    cases hx with
    |top=>exact hxt rfl
    |nilIface=>cases hy with
     |top=>exact hyt rfl
     |nilIface=>exact h3 ⟨rfl,rfl⟩) (by
    rintro ⟨xs,rfl⟩ ⟨ys,rfl⟩
    cases hx with
    |top=>exact absurd rfl hxt
    |agg=>cases hy with
     |top=>exact absurd rfl hyt
     |agg=>exact h4 ⟨_,rfl⟩ ⟨_,rfl⟩)
  obtain ⟨q1,q2⟩:=Tg (w:=w) hE hx hy hb h1 h2;rw [hb] at h5;cases op<;>simp only [Option.map_some,Option.some.injEq] at h5<;>first | (cases h5;done)|skip
  ·subst h5;exact ⟨_,by simp only [Sem.run_bind,hg,Result.andThen_ok,q1],.bool _⟩
  ·subst h5;exact ⟨_,by simp only [Sem.run_bind,hg,Result.andThen_ok,q2],.bool _⟩
 have nog:∀{a b:Value},(¬(a=.nilIface∧b=.nilIface))→(¬∃xs,a=.agg xs)→(eqGuard op t ox oy a b).run E.P w=.ok () w:=
  fun h1 h2=>BA h1 (fun h _=>absurd h h2)
 cases x with
 |int k a=>
  cases y with
  |int k' b=>
   cases hx;cases hy;have hg:=nog (a:=.int k a) (b:=.int k' b) (by simp) (by simp)
   by_cases hsh:op=.shl∨op=.shr
   ·have hr':Ks op k a b=some r:=by rcases hsh with rfl|rfl<;>simpa [O2] using hr
    obtain ⟨v,q1,q2⟩:=Rj (E:=E) (w:=w) (ρ:=ρ) (k':=k') t hsh hr';exact ⟨v,by simp only [Sem.run_bind,hg,Result.andThen_ok,q1],q2⟩
   ·have hs1:op≠.shl:=fun e=>hsh (.inl e)
    have hs2:op≠.shr:=fun e=>hsh (.inr e)
    have hr':(match decide (k=k') with|true=>CK op k a b|false=>none)=some r:=by
     cases op<;>first|exact hr|exact absurd rfl hs1|exact absurd rfl hs2
    by_cases hk:k=k'
    ·subst hk;simp only [decide_true] at hr';obtain ⟨v,q1,q2⟩:=HH (E:=E) (w:=w) (ρ:=ρ) t hs1 hs2 hr';exact ⟨v,by simp only [Sem.run_bind,hg,Result.andThen_ok,q1],q2⟩
    ·simp [hk] at hr'
  |_=>exact eqs (by simp) (by simp) (by simp) (by simp) (by cases op<;>exact hr)
 |str l a=>
  cases y with
  |str l' b=>
   cases hx;cases hy;rename_i s s';have hg:=nog (a:=.string s) (b:=.string s') (by simp) (by simp)
   simp only [O2] at hr;obtain ⟨v,q1,q2⟩:=La (E:=E) (w:=w) (ρ:=ρ) t hr;exact ⟨v,by simp only [Sem.run_bind,hg,Result.andThen_ok,q1],q2⟩
  |_=>exact eqs (by simp) (by simp) (by simp) (by simp) (by cases op<;>exact hr)
 |agg xs=>
  cases y with
  |agg ys=>
   simp only [O2] at hr;cases hq:E.P.eqGuardType E.P.depth t with
   |true=>simp [hq] at hr
   |false=>simp only [hq] at hr;exact eqs (by simp) (by simp) (by simp) (fun _ _=>hq) (by cases op<;>exact hr)
  |_=>exact eqs (by simp) (by simp) (by simp) (by simp) (by cases op<;>exact hr)
 |nilIface=>
  cases y with
  |nilIface=>simp [O2] at hr
  |_=>exact eqs (by simp) (by simp) (by simp) (by simp) (by cases op<;>exact hr)
 |_=>exact eqs (by simp) (by simp) (by simp) (by simp) (by cases op<;>exact hr)
end
end Go.AE
namespace Go.AE
variable [Gl:Au]
theorem SE.same_eq {a b:SE} (h:a.same b=true):a=b:=by
 induction a generalizing b<;>cases b<;>simp only [SE.same,Bool.and_eq_true,decide_eq_true_eq,beq_iff_eq,Bool.false_eq_true,Nat.beq_eq] at h<;>grind
theorem VK {a b:Fn} (h:XP a b=true):a=b:=by
 cases a<;>cases b<;>simp_all [XP]
mutual
theorem Dk:∀(a b:AV),Bg a b=true→a=b
 |.top,b,h=>by cases b<;>simp_all [Bg]
 |.bool _,b,h=>by cases b<;>simp_all [Bg]
 |.int _ _,b,h=>by cases b<;>simp_all [Bg]
 |.str _ _,b,h=>by cases b<;>simp_all [Bg]
 |.ptr0,b,h=>by cases b<;>simp_all [Bg]
 |.ptr _ _,b,h=>by cases b<;>simp_all [Bg]
 |.slice0,b,h=>by cases b<;>simp_all [Bg]
 |.slice _ _ _ _,b,h=>by cases b<;>simp_all [Bg]
 |.map0,b,h=>by cases b<;>simp_all [Bg]
 |.map _,b,h=>by cases b<;>simp_all [Bg]
 |.func fn f c,b,h=>by
  cases b with
  |func fn' f' c'=>
   simp only [Bg,Bool.and_eq_true] at h;rw [VK h.1.1,Ef f f' h.1.2,Ef c c' h.2]
  |_=>simp [Bg] at h
 |.nilFunc,b,h=>by cases b<;>simp_all [Bg]
 |.iface t v,b,h=>by
  cases b with
  |iface t' v'=>
   simp only [Bg,Bool.and_eq_true] at h;rw [Nat.eq_of_beq_eq_true h.1,Dk v v' h.2]
  |_=>simp [Bg] at h
 |.nilIface,b,h=>by cases b<;>simp_all [Bg]
 |.agg l,b,h=>by
  cases b with
  |agg l'=>
   simp only [Bg] at h;rw [Ef l l' h]
  |_=>simp [Bg] at h
 |.tuple l,b,h=>by
  cases b with
  |tuple l'=>
   simp only [Bg] at h;rw [Ef l l' h]
  |_=>simp [Bg] at h
 |.sb p e,b,h=>by
  cases b with
  |sb p' e'=>
   simp only [Bg,Bool.and_eq_true] at h;rw [eq_of_beq h.1,SE.same_eq h.2]
  |_=>simp [Bg] at h
 |.si k e,b,h=>by
  cases b with
  |si k' e'=>
   simp only [Bg,Bool.and_eq_true,decide_eq_true_eq] at h;rw [h.1,SE.same_eq h.2]
  |_=>simp [Bg] at h
 |.ss e,b,h=>by
  cases b with
  |ss e'=>
   simp only [Bg] at h;rw [SE.same_eq h]
  |_=>simp [Bg] at h
 |.dat t e,b,h=>by
  cases b with
  |dat t' e'=>
   simp only [Bg,Bool.and_eq_true] at h;rw [Nat.eq_of_beq_eq_true h.1,SE.same_eq h.2]
  |_=>simp [Bg] at h
 |.dptr _ _ _ _,b,h=>by cases b<;>simp [Bg] at h
 |.asl b0 es n nl,b,h=>by
  cases b with
  |asl b' es' n' nl'=>
   simp only [Bg,Bool.and_eq_true] at h;rw [Nat.eq_of_beq_eq_true h.1.1.1,Nat.eq_of_beq_eq_true h.1.1.2,SE.same_eq h.1.2,SE.same_eq h.2]
  |_=>simp [Bg] at h
 |.eslc e,b,h=>by
  cases b with
  |eslc e'=>
   simp only [Bg] at h;rw [SE.same_eq h]
  |_=>simp [Bg] at h
 |.aptr _ _ _ _,b,h=>by cases b<;>simp [Bg] at h
 |.nmap b0 e,b,h=>by
  cases b with
  |nmap b' e'=>
   simp only [Bg,Bool.and_eq_true] at h;rw [Nat.eq_of_beq_eq_true h.1,SE.same_eq h.2]
  |_=>simp [Bg] at h
theorem Ef:∀(a b:List AV),F7 a b=true→a=b
 |[],b,h=>by cases b<;>simp_all [F7]
 |a::l,b,h=>by
  cases b with
  |nil=>simp [F7] at h
  |cons b m=>
   simp only [F7,Bool.and_eq_true] at h;rw [Dk a b h.1,Ef l m h.2]
end
theorem Sa {α:Type} {eq:α→α→Bool} (he:∀a b,eq a b=true→a=b) {a b:Option α} (h:eqO eq a b=true):a=b:=by
 cases a<;>cases b<;>simp [eqO] at h ⊢
 exact he _ _ h
theorem Pl {α:Type} {eq:α→α→Bool} (he:∀a b,eq a b=true→a=b):∀(a b:T α),eqT eq a b=true→a=b
 |.nil,.nil,_=>rfl
 |.node v l r,.node v' l' r',h=>by
  simp only [eqT,Bool.and_eq_true] at h;rw [Sa he h.1.1,Pl he l l' h.1.2,Pl he r r' h.2]
 |.nil,.node _ _ _,h=>by simp [eqT] at h
 |.node _ _ _,.nil,h=>by simp [eqT] at h
theorem PS:∀(a b:List Ak),Rn a b=true→a=b
 |[],[],_=>rfl
 |a::l,b::m,h=>by
  simp only [Rn,Bool.and_eq_true] at h;obtain ⟨⟨⟨h1,h2⟩,h3⟩,h4⟩:=h;cases a;cases b;simp only at h1 h2 h3;rw [Dk _ _ h1,Dk _ _ h2,Nat.eq_of_beq_eq_true h3,PS l m h4]
 |[],_::_,h=>by simp [Rn] at h
 |_::_,[],h=>by simp [Rn] at h
theorem JG {a b:Ac} (h:Nu a b=true):a=b:=by
 cases a<;>cases b<;>simp only [Nu,Bool.and_eq_true,Bool.false_eq_true] at h
 ·rw [Nat.eq_of_beq_eq_true h.1,Pl Dk _ _ h.2]
 ·rw [Nat.eq_of_beq_eq_true h.1,SE.same_eq h.2]
 ·rw [Nat.eq_of_beq_eq_true h.1,PS _ _ h.2]
 ·rw [Nat.eq_of_beq_eq_true h.1.1,Nat.eq_of_beq_eq_true h.1.2,SE.same_eq h.2]
variable [U:Unk]
section
variable {V:Val} {a b:SE}
theorem Bn {n:Int}:Ag V (.c n)=n:=rfl
theorem JC {k:IntKind}:Ag V (.conv k a)=k.wrap (Ag V a):=rfl
theorem DZ {op:BinOp} {k:IntKind}:Ag V (.arith op k a b)=match CK op k (Ag V a) (Ag V b) with
  |some (.int _ n)=>n
  |_=>0:=rfl
theorem Cf:Ag V (.lenS a)=((AG V a).data.toList.length:Nat):=rfl
theorem Aj:Ag V (.lenL a)=((Af V a).rows.length:Nat):=rfl
theorem Ap:Ai V (.lss a b)=decide (Ag V a<Ag V b):=rfl
theorem BH:Ai V (.eql a b)=(Ag V a==Ag V b):=rfl
theorem HO {l c:Nat}:Ai V (.eqS a l c)=strEq (AG V a).data.toList.length (As (AG V a).data.toList) l c:=rfl
theorem Km:Ai V (.eqSS a b)=strEq (AG V a).data.toList.length (As (AG V a).data.toList) (AG V b).data.toList.length (As (AG V b).data.toList):=rfl
end
theorem SE.same_ok {a b:SE} (h:a.same b=true):a=b:=by
 induction a generalizing b<;>cases b<;>simp only [SE.same,Bool.and_eq_true,decide_eq_true_eq,beq_iff_eq,Bool.false_eq_true,Nat.beq_eq] at h<;>grind
theorem SB.same_ok {a b:SB} (h:a.same b=true):a=b:=SE.same_ok h
def LoB (o:Option Int) (n:Int):Prop:=∀l,o=some l→l≤n
def HiB (o:Option Int) (n:Int):Prop:=∀l,o=some l→n≤l
theorem LoB.max {a b:Option Int} {n:Int} (h:LoB a n) (k:LoB b n):LoB (NV a b) n:=by
 intro l hl;unfold NV at hl;split at hl
 ·rename_i a b;have h1:=h a rfl;have h2:=k b rfl;cases hd:decide (a≤b)<;>rw [hd] at hl<;>cases hl<;>assumption
 ·exact h l hl
 ·exact k l hl
theorem HiB.min {a b:Option Int} {n:Int} (h:HiB a n) (k:HiB b n):HiB (Rq a b) n:=by
 intro l hl;unfold Rq at hl;split at hl
 ·rename_i a b;have h1:=h a rfl;have h2:=k b rfl;cases hd:decide (a≤b)<;>rw [hd] at hl<;>cases hl<;>assumption
 ·exact h l hl
 ·exact k l hl
theorem LoB.some {a n:Int} (h:a≤n):LoB (some a) n:=fun l hl=>by cases hl;exact h
theorem HiB.some {a n:Int} (h:n≤a):HiB (some a) n:=fun l hl=>by cases hl;exact h
theorem LoB.none {n:Int}:LoB none n:=fun l hl=>by cases hl
theorem HiB.none {n:Int}:HiB none n:=fun l hl=>by cases hl
theorem QY {V:Val} {e:SE} {p:SB×Bool} (hp:Ai V p.1=p.2):LoB (PF e p) (Ag V e):=by
 intro l hl;obtain ⟨x,b⟩:=p
 have go:∀{a:SE} {r:Int},(match a.same e with|true=>some r|false=>none)=some l→a=e∧l=r:=by
  intro a r h;split at h
  ·rename_i hs;cases h;exact ⟨SE.same_ok hs,rfl⟩
  ·cases h
 unfold PF at hl;split at hl<;>first | (cases hl;done)|skip
 all_goals
  rename_i a m heq;obtain ⟨rfl,rfl⟩:=go hl;cases heq;simp [Ap,BH,Bn] at hp
  first|omega | (have:=of_decide_eq_false hp;omega) | (have:=of_decide_eq_true hp;omega)
theorem Q5 {V:Val} {e:SE} {p:SB×Bool} (hp:Ai V p.1=p.2):HiB (OE e p) (Ag V e):=by
 intro l hl;obtain ⟨x,b⟩:=p
 have go:∀{a:SE} {r:Int},(match a.same e with|true=>some r|false=>none)=some l→a=e∧l=r:=by
  intro a r h;split at h
  ·rename_i hs;cases h;exact ⟨SE.same_ok hs,rfl⟩
  ·cases h
 unfold OE at hl;split at hl<;>first | (cases hl;done)|skip
 all_goals
  rename_i a m heq;obtain ⟨rfl,rfl⟩:=go hl;cases heq;simp [Ap,BH,Bn] at hp
  first|omega | (have:=of_decide_eq_false hp;omega) | (have:=of_decide_eq_true hp;omega)
theorem Ch {V:Val} {e:SE}:∀{F:List (SB×Bool)},(∀e b,(e,b)∈F→Ai V e=b)→LoB (Ca e F) (Ag V e)
 |[],_=>LoB.none
 |p::r,h=>LoB.max (QY (h p.1 p.2 (by simp))) (Ch fun e b hm=>h e b (by simp [hm]))
theorem Cg {V:Val} {e:SE}:∀{F:List (SB×Bool)},(∀e b,(e,b)∈F→Ai V e=b)→HiB (B9 e F) (Ag V e)
 |[],_=>HiB.none
 |p::r,h=>HiB.min (Q5 (h p.1 p.2 (by simp))) (Cg fun e b hm=>h e b (by simp [hm]))
theorem Fj (k:IntKind) (n:Int) (h1:k.min≤n) (h2:n≤k.max):k.wrap n=n:=by
 cases k<;>simp only [IntKind.wrap,IntKind.min,IntKind.max,IntKind.bits,IntKind.signed] at *<;>simp at *<;>omega
theorem O1 (k:IntKind) (n:Int):k.min≤k.wrap n∧k.wrap n≤k.max:=by
 cases k<;>simp only [IntKind.wrap,IntKind.min,IntKind.max,IntKind.bits,IntKind.signed]<;>simp<;>omega
theorem CJ {V:Val}:∀x:SE,(Af V (BZ x)).rows.length=(Af V x).rows.length:=by
 intro x
 induction x
 case upd a i j x ih _ _=>rw [BZ,ih];simp only [Af,D.rows,List.length_modify]
 case nilIs a b ih _=>rw [BZ,ih];simp only [Af,D.rows]
 all_goals rfl
theorem Pj {V:Val} {n y:SE} (h:Jh n y=true):Ag V n=Ag V (.lenL y):=by
 cases n<;>simp only [Jh,Bool.false_eq_true] at h
 rename_i x;rw [Aj,Aj,←CJ x,←CJ y,SE.same_ok h]
theorem M4 {V:Val}:∀{x:SE} {n:Nat},Ft x=some n→(Af V x).rows.length=n:=by
 intro x
 induction x<;>intro n h<;>simp only [Ft,reduceCtorEq] at h
 case nilL=>cases h;rfl
 case emptyL=>cases h;rfl
 case nilIs a b ih _=>exact ih h
 case snoc a r ih _=>
  split at h
  ·rename_i k hk;cases h;have:=ih hk;simp only [Af,D.rows,List.length_append,List.length_singleton] at this ⊢;rw [this]
  ·cases h
theorem Mn {V:Val} {x:SE} {l b:Nat}:∀{F:List (SB×Bool)},(∀e b,(e,b)∈F→Ai V e=b)→NS x F=some (l,b)→Ai V (.eqS x l b)=true
 |[],_,h=>by cases h
 | (e,c)::r,hF,h=>by
  unfold NS at h;have ih:NS x r=some (l,b)→Ai V (.eqS x l b)=true:=Mn (F:=r) (fun e b hm=>hF e b (by simp [hm]))
  split at h
  ·rename_i a l' c';split at h
   ·rename_i hb;cases h;simp only [Bool.and_eq_true] at hb;obtain ⟨rfl,h2⟩:=hb;rw [←SE.same_ok h2];exact hF _ _ (by simp)
   ·exact ih h
  ·exact ih h
theorem TF {V:Val} {x:SE} {l b:Nat} {F:List (SB×Bool)} (hF:∀e b,(e,b)∈F→Ai V e=b) (h:NS x F=some (l,b)):Ag V (.lenS x)=(l:Int):=by
 have h:=Mn hF h;rw [HO] at h;unfold strEq at h;simp only [Bool.and_eq_true] at h;have h1:=Nat.eq_of_beq_eq_true h.1;rw [←h1];exact Cf
theorem E5 {V:Val} {F:List (SB×Bool)} (hF:∀e b,(e,b)∈F→Ai V e=b):∀e:SE,LoB (bnd F e).1 (Ag V e)∧HiB (bnd F e).2 (Ag V e):=by
 intro e
 induction e with
 |c n=>exact ⟨LoB.some (Int.le_refl _),HiB.some (Int.le_refl _)⟩
 |lenS i=>
  unfold bnd;split
  ·rename_i l b hl;have:=TF hF hl;exact ⟨LoB.some (by rw [this];exact Int.le_refl _),HiB.some (by rw [this];exact Int.le_refl _)⟩
  ·exact ⟨LoB.max (LoB.some (by simp only [Cf,Aj];omega)) (Ch hF),Cg hF⟩
 |lenL i=>
  unfold bnd;split
  ·rename_i n hn;have:=M4 (V:=V) hn;exact ⟨LoB.some (by rw [Aj,this];exact Int.le_refl _),HiB.some (by rw [Aj,this];exact Int.le_refl _)⟩
  ·exact ⟨LoB.max (LoB.some (by simp only [Cf,Aj];omega)) (Ch hF),Cg hF⟩
 |conv k a ih=>
  unfold bnd;split;rename_i lo hi hb;rw [hb] at ih;split
  ·rename_i hw;unfold MK at hw;split at hw
   ·rename_i l h;simp only [Bool.and_eq_true,decide_eq_true_eq] at hw;have h1:=ih.1 l rfl;have h2:=ih.2 h rfl;have e:Ag V (.conv k a)=Ag V a:=Fj k (Ag V a) (by omega) (by omega)
    exact ⟨LoB.max (e▸ih.1) (Ch hF),HiB.min (e▸ih.2) (Cg hF)⟩
   ·cases hw
  ·have e:k.min≤Ag V (.conv k a)∧Ag V (.conv k a)≤k.max:=O1 k _;exact ⟨LoB.max (LoB.some e.1) (Ch hF),HiB.min (HiB.some e.2) (Cg hF)⟩
 |arith op k a b iha ihb=>
  have base:LoB (Ca (.arith op k a b) F) (Ag V (.arith op k a b))∧HiB (B9 (.arith op k a b) F) (Ag V (.arith op k a b)):=⟨Ch hF,Cg hF⟩;unfold bnd;split
  ·rename_i m;split
   ·rename_i l hi hb;rw [hb] at iha;split
    ·rename_i hc;simp only [Bool.and_eq_true,decide_eq_true_eq] at hc;have h1:=iha.1 l rfl;have hm:(m==0)=false:=by simp;omega
     have e:Ag V (.arith .rem k a (.c m))=(Ag V a).tmod m:=by
      simp only [DZ,Bn,CK,hm]
     have q1:0≤(Ag V a).tmod m:=Int.tmod_nonneg _ (by omega)
     have q2:(Ag V a).tmod m<m:=Int.tmod_lt_of_pos _ (by omega)
     refine ⟨LoB.max (LoB.some (by rw [e];exact q1)) base.1,HiB.min (HiB.some (by rw [e];omega)) base.2⟩
    ·exact base
   ·exact base
  ·exact base
 |_=>exact ⟨Ch hF,Cg hF⟩
theorem GO {V:Val} {e:SB} {b:Bool}:∀{F:List (SB×Bool)},(∀e b,(e,b)∈F→Ai V e=b)→Ho e F=some b→Ai V e=b
 |[],_,h=>by cases h
 | (x,c)::r,hF,h=>by
  unfold Ho at h;split at h
  ·rename_i hs;cases h;rw [SB.same_ok hs];exact hF x b (by simp)
  ·exact GO (fun e b hm=>hF e b (by simp [hm])) h
theorem Pb {a b:Option Int} (h:ltO a b=true):∃x y,a=some x∧b=some y∧x<y:=by
 unfold ltO at h;split at h
 ·exact ⟨_,_,rfl,rfl,by simpa using h⟩
 ·cases h
theorem ZJ {a b:Option Int} (h:leO a b=true):∃x y,a=some x∧b=some y∧x≤y:=by
 unfold leO at h;split at h
 ·exact ⟨_,_,rfl,rfl,by simpa using h⟩
 ·cases h
theorem O8 {V:Val} {F:List (SB×Bool)} (hF:∀e b,(e,b)∈F→Ai V e=b) {e:SB} {b:Bool} (h:Ml F e=some b):Ai V e=b:=by
 unfold Ml at h;cases e with
 |lss x y=>
  simp only at h;have hx:=E5 hF x;have hy:=E5 hF y;split at h
  ·rename_i hl;cases h;obtain ⟨p,q,e1,e2,e3⟩:=Pb hl;have:=hx.2 p e1;have:=hy.1 q e2;simp only [Ap,decide_eq_true_eq];omega
  ·split at h
   ·rename_i hl;cases h;obtain ⟨p,q,e1,e2,e3⟩:=ZJ hl;have:=hy.2 p e1;have:=hx.1 q e2;simp only [Ap,decide_eq_false_iff_not];omega
   ·cases h
 |eql x y=>
  simp only at h;have hx:=E5 hF x;have hy:=E5 hF y;split at h
  ·rename_i hl;cases h;simp only [BH,beq_eq_false_iff_ne,ne_eq];simp only [Bool.or_eq_true] at hl;rcases hl with hl|hl
   ·obtain ⟨p,q,e1,e2,e3⟩:=Pb hl;have:=hx.2 p e1;have:=hy.1 q e2;omega
   ·obtain ⟨p,q,e1,e2,e3⟩:=Pb hl;have:=hy.2 p e1;have:=hx.1 q e2;omega
  ·split at h
   ·rename_i hs;cases h;rw [SE.same_eq hs];simp [BH]
   ·cases h
 |bc c=>cases h;rfl
 |_=>cases h
theorem PA {V:Val} {F:List (SB×Bool)} (hF:∀e b,(e,b)∈F→Ai V e=b):∀(e:SB) (b:Bool),CU F e=some b→Ai V e=b:=by
 intro e
 have Rm:∀(a:SB),(∀b,CU F a=some b→Ai V a=b)→∀b,(match Ho a F with
   |some c=>some c
   |none=>CU F a)=some b→Ai V a=b:=by
  intro a ih b h;split at h
  ·rename_i c hc;cases h;exact GO hF hc
  ·exact ih b h
 induction e with
 |neg a ih=>
  intro b h;simp only [CU] at h;show (!Ai V a)=b;split at h
  ·rename_i c hc;cases h;rw [GO hF hc]
  ·split at h
   ·rename_i c hc;cases h;rw [ih c hc]
   ·cases h
 |and x y ihx ihy=>
  intro b h;simp only [CU] at h;show (Ai V x&&Ai V y)=b;split at h
  ·rename_i hc;cases h;rw [Rm x ihx _ hc];rfl
  ·rename_i hc;rw [Rm x ihx _ hc,Rm y ihy _ h];rfl
  ·split at h
   ·rename_i hc;cases h;rw [Rm y ihy _ hc];simp
   ·cases h
 |_=>
  intro b h;exact O8 hF h
theorem An {V:Val} {F:List (SB×Bool)} (hF:∀e b,(e,b)∈F→Ai V e=b) {e:SB} {b:Bool} (h:Az F e=some b):Ai V e=b:=by
 unfold Az at h;split at h
 ·rename_i c hc;cases h;exact GO hF hc
 ·exact PA hF e b h
theorem Fh (ρ:Ren) (pos:Bool) (e:SB):VR ρ (mkB pos e) (.bool (Ai U.V e==pos)):=by
 unfold mkB;split
 ·rename_i b h;rw [An U.ok h];exact .bool _
 ·exact .sb pos e
theorem B3 (ρ:Ren) (k:IntKind) (e:SE):VR ρ (mkI k e) (.int k (Ag U.V e)):=by
 have hb:=E5 U.ok e;unfold mkI;split
 ·rename_i l h hq;rw [hq] at hb;split
  ·rename_i hl;have h1:=hb.1 l rfl;have h2:=hb.2 h rfl;have h3:l=h:=by simpa using hl
   have:Ag U.V e=l:=by omega
   rw [this];exact .int k l
  ·exact .si k e
 ·exact .si k e
theorem Ev {n y:SE} (h:DM n y=true):Ag U.V n=Ag U.V (.lenL y):=by
 unfold DM at h;rw [Bool.or_eq_true] at h;rcases h with h|h
 ·exact Pj h
 ·unfold JK at h;split at h
  ·rename_i hd;have:=An U.ok hd;rw [BH] at this;exact eq_of_beq this
  ·cases h
theorem HG {ρ:Ren} {b es:Nat} {n y nl:SE} {v:Value} (h:DM n y=true) (hv:VR ρ (.asl b es n nl) v):VR ρ (.asl b es (.lenL y) nl) v:=by
 have e:=Ev h;cases hv with
 |asl _ _ _ _ cap base hb h0 hc hz hn=>
  have:=VR.asl (ρ:=ρ) b es (.lenL y) nl cap base hb (e▸h0) (e▸hc) hz hn;rw [←e] at this;exact this
 |aslEnd _ _ _ _ a h0 hn=>exact .aslEnd _ _ _ _ a (e▸h0) hn
section
variable {E:Env} {ρ:Ren} {w:World}
theorem Ci {x:AV} {xv:Value} {k:IntKind} {e:SE} (hx:VR ρ x xv) (h:toI x=some (k,e)):xv=.int k (Ag U.V e):=by
 cases hx<;>simp only [toI] at h<;>cases h<;>rfl
theorem G7 {x:AV} {xv:Value} (hx:VR ρ x xv):VR ρ (JA x) xv:=by
 unfold JA;split
 ·rename_i k e;split
  ·rename_i l h hb;split
   ·rename_i hlh;have hlh:l=h:=by simpa using hlh
    subst hlh;cases hx with
    |si _ _=>
     obtain ⟨b1,b2⟩:=E5 U.ok e;rw [hb] at b1 b2;have e1:=b1 l rfl;have e2:=b2 l rfl;have:Ag U.V e=l:=by omega
     rw [this];exact .int k l
   ·exact hx
  ·exact hx
 ·exact hx
theorem Vu {op:BinOp} {k:IntKind} {a b:SE} {r:AV} (t:TypeId) (h:XZ op k a b=some r) :
  ∃v,(binOp op t (.int k (Ag U.V a)) (.int k (Ag U.V b))).run E.P w=.ok v w∧VR ρ r v:=by
 have ar:∀{op:BinOp} {n:Int},op≠.shl→op≠.shr→CK op k (Ag U.V a) (Ag U.V b)=some (.int k n)→∃v,(binOp op t (.int k (Ag U.V a)) (.int k (Ag U.V b))).run E.P w=.ok v w∧VR ρ (mkI k (.arith op k a b)) v:=by
  intro op n h1 h2 h3;obtain ⟨v,q1,q2⟩:=HH (E:=E) (w:=w) (ρ:=ρ) t h1 h2 h3;cases q2;refine ⟨_,q1,?_⟩;have e:Ag U.V (.arith op k a b)=n:=by simp only [DZ,h3]
  have:=B3 ρ k (.arith op k a b);rw [e] at this;exact this
 have cm:∀{op:BinOp} {c:Bool} {pos:Bool} {e:SB},op≠.shl→op≠.shr→CK op k (Ag U.V a) (Ag U.V b)=some (.bool c)→(Ai U.V e==pos)=c→∃v,(binOp op t (.int k (Ag U.V a)) (.int k (Ag U.V b))).run E.P w=.ok v w∧VR ρ (mkB pos e) v:=by
  intro op c pos e h1 h2 h3 h4;obtain ⟨v,q1,q2⟩:=HH (E:=E) (w:=w) (ρ:=ρ) t h1 h2 h3;cases q2;exact ⟨_,q1,h4▸Fh ρ pos e⟩
 have nz:∀{b:SE},Qy b=true→(Ag U.V b==0)=false:=by
  intro b hb;unfold Qy at hb;rw [Bool.or_eq_true] at hb;rcases hb with hb|hb
  ·cases b<;>simp [VU] at hb
   simpa [Bn] using hb
  ·split at hb
   ·rename_i hd;have:=An U.ok hd
    rwa [BH,Bn] at this
   ·cases hb
 cases op<;>simp only [XZ] at h<;>first | (cases h;done)|skip
 case quo=>
  split at h
  ·rename_i hb;cases h;exact ar (by simp) (by simp) (by simp only [CK,nz hb];rfl)
  ·cases h
 case rem=>
  split at h
  ·rename_i hb;cases h;exact ar (by simp) (by simp) (by simp only [CK,nz hb];rfl)
  ·cases h
 case shl=>
  split at h
  ·rename_i hb;cases h;have hb:=An U.ok hb
   have hn:¬Ag U.V b<0:=by
    rw [Ap,Bn] at hb;simpa using hb
   have e:Ag U.V (.arith .shl k a b)=k.wrap (Ag U.V a*2^min (Ag U.V b).toNat k.bits):=by simp only [DZ,CK,hn,decide_false]
   have:=B3 ρ k (.arith .shl k a b);rw [e] at this;exact ⟨_,by simp only [binOp,Op.shift,hn,if_false,Sem.run_pure],this⟩
  ·cases h
 case eql=>cases h;exact cm (by simp) (by simp) rfl (by simp [Ap,BH])
 case neq=>cases h;exact cm (by simp) (by simp) rfl (by simp only [BH,bne];cases (Ag U.V a==Ag U.V b)<;>rfl)
 case lss=>cases h;exact cm (by simp) (by simp) rfl (by simp [Ap,BH])
 case leq=>cases h;exact cm (by simp) (by simp) rfl (by simp only [Ap];by_cases h:Ag U.V a≤Ag U.V b<;>simp [h]<;>omega)
 case gtr=>cases h;exact cm (by simp) (by simp) rfl (by simp [Ap,BH])
 case geq=>cases h;exact cm (by simp) (by simp) rfl (by simp only [Ap];by_cases h:Ag U.V a≥Ag U.V b<;>simp [h]<;>omega)
 all_goals cases h;exact ar (by simp) (by simp) rfl
theorem L5 {op:BinOp} {s s':ByteArray} {e:SB} {r:AV} (t:TypeId) (h:S2 op e=some r) (he:Ai U.V e=strEq s.data.toList.length (As s.data.toList) s'.data.toList.length (As s'.data.toList)) :
  ∃v,(binOp op t (.string s) (.string s')).run E.P w=.ok v w∧VR ρ r v:=by
 have cm:∀{op:BinOp} {c:Bool} {pos:Bool},Mg op s.data.toList.length (As s.data.toList) s'.data.toList.length (As s'.data.toList)=some (.bool c)→(Ai U.V e==pos)=c→∃v,(binOp op t (.string s) (.string s')).run E.P w=.ok v w∧VR ρ (mkB pos e) v:=by
  intro op c pos h3 h4;obtain ⟨v,q1,q2⟩:=La (E:=E) (w:=w) (ρ:=ρ) t h3;cases q2;exact ⟨_,q1,h4▸Fh ρ pos e⟩
 cases op<;>simp only [S2] at h<;>first | (cases h;done)|skip
 case eql=>cases h;exact cm rfl (by rw [he];simp)
 case neq=>cases h;exact cm rfl (by rw [he];cases strEq _ _ _ _<;>rfl)
theorem Oz (l a l' b:Nat):strEq l a l' b=strEq l' b l a:=by
 unfold strEq
 have:∀i j:Nat,Nat.beq i j=Nat.beq j i:=fun i j=>by
  cases h:Nat.beq i j with
  |true=>rw [Aq h,El]
  |false=>exact (Dx (fun e=>NI h e.symm)).symm
 rw [this l,this a]
theorem Ug {op:BinOp} {t:TypeId} {ox oy:Operand} {x y r:AV} {xv yv:Value} (hx:VR ρ x xv) (hy:VR ρ y yv) (hr:WA op x y=some r) :
  ∃v,(do eqGuard op t ox oy xv yv;binOp op t xv yv:Sem Value).run E.P w=.ok v w∧VR ρ r v:=by
 have fin:∀{a b:Value},(¬(a=.nilIface∧b=.nilIface))→(¬∃xs,a=.agg xs)→(∃v,(binOp op t a b).run E.P w=.ok v w∧VR ρ r v)→∃v,(do eqGuard op t ox oy a b;binOp op t a b:Sem Value).run E.P w=.ok v w∧VR ρ r v:=by
  intro a b h1 h2 ⟨v,q1,q2⟩;have hg:(eqGuard op t ox oy a b).run E.P w=.ok () w:=BA h1 (fun h _=>absurd h h2)
  exact ⟨v,by simp only [Sem.run_bind,hg,Result.andThen_ok,q1],q2⟩
 unfold WA at hr;split at hr
 ·cases hx;cases hy;exact fin (by simp) (by simp) (L5 t hr rfl)
 ·cases hx;cases hy;exact fin (by simp) (by simp) (L5 t hr rfl)
 ·cases hx;cases hy;exact fin (by simp) (by simp) (L5 t hr (by rw [HO];exact Oz _ _ _ _))
 ·split at hr
  ·rename_i k a k' b h1 h2;split at hr
   ·rename_i hk;have hk:k=k':=by simpa using hk
    subst hk;rw [Ci hx h1,Ci hy h2];exact fin (by simp) (by simp) (Vu t hr)
   ·cases hr
  ·cases hr
end
end Go.AE
namespace Go.AE
variable [Gl:Au]
variable [U:Unk]
theorem ER.length {ρ:Ren}:∀{l:List Ak} {l':List MapEntry},ER ρ l l'→l.length=l'.length
 |[],[],_=>rfl
 |_::_,_::_,⟨_,_,_,h⟩=>by simp [ER.length h]
section
variable {E:Env} (hE:OK E) {ρ:Ren} {h:Aa} {w:World}
include hE
theorem Cy (em:Bool) (k:Nat):∀(d:Nat) (t:TypeId) (v:AV) (vv:Value),Bw E d t v=true→VR ρ v vv→(Instr.checkKey em (d+k) t vv).run E.P w=.ok () w:=by
 intro d
 induction d with
 |zero=>intro t v vv h;simp [Bw] at h
 |succ d ih=>
  intro t v vv h hv;rw [show d+1+k=(d+k)+1 from by omega,Instr.checkKey]
  simp only [Bw] at h;cases hd:E.desc t with
  |none=>simp [hd] at h
  |some ds=>
   simp only [Sem.run_bind,hE.run_und hd,Result.andThen_ok];cases ds with
   |int q=>simp
   |string=>simp
   |bool=>simp
   |struct fs=>
    simp only [hd] at h;cases hv<;>simp only [Bool.false_eq_true] at h
    rename_i cs cs' h1 h2;simp only [ne_eq,Sem.run_bind];rw [←Array.forIn_toList];generalize fs.toList=fl at h
    induction fl with
    |nil=>simp
    |cons f fl ihf=>
     simp only [H9] at h;cases hp:B6 E f.type cs f.offset with
     |none=>simp [hp] at h
     |some a=>
      simp only [hp] at h;cases hk:Bw E d f.type a with
      |false=>simp [hk] at h
      |true=>
       simp only [hk] at h;obtain ⟨av,q1,q2⟩:=hE.run_part hp ⟨h1,h2⟩ w;have q3:=ih _ _ _ hk q2;simp only [List.forIn_cons,Sem.run_bind];by_cases hn:f.name = "_"
       ·simp only [hn,not_true_eq_false,if_false,Sem.run_pure,Result.andThen_ok];exact ihf h
       ·simp only [hn,not_false_eq_true,if_true,Sem.run_bind,q1,q3,Result.andThen_ok,Sem.run_pure];exact ihf h
   |array n e=>
    simp only [hd] at h;cases hv<;>simp only [Bool.false_eq_true] at h
    rename_i cs cs' h1 h2;cases hh:E.has e with
    |false=>simp [hh] at h
    |true=>
     simp only [hh] at h;simp only [Std.Legacy.Range.forIn_eq_forIn_range',Std.Legacy.Range.size,Nat.sub_zero,Nat.add_one_sub_one,Nat.div_one];generalize hi:(0:Nat)=i at h ⊢;clear hi hd;simp only [Sem.run_bind]
     induction n generalizing i with
     |zero=>simp
     |succ n ihn=>
      simp only [JQ] at h;cases hp:B6 E e cs (i*E.size e) with
      |none=>simp [hp] at h
      |some a=>
       simp only [hp] at h;cases hk:Bw E d e a with
       |false=>simp [hk] at h
       |true=>
        simp only [hk] at h;obtain ⟨av,q1,q2⟩:=hE.run_part hp ⟨h1,h2⟩ w;have q3:=ih _ _ _ hk q2;simp only [List.range'_succ,List.forIn_cons,Sem.run_bind,hE.run_has hh,Result.andThen_ok,q1,q3,Sem.run_pure];exact ihn (i+1) h
   |_=>simp [hd] at h
def FR (ρ:Ren):Option (Nat×AV)→Option (Nat×Value)→Prop
 |none,none=>True
 |some (i,a),some (j,v)=>i=j∧VR ρ a v
 |_,_=>False
theorem F4 {t:TypeId} {k:AV} {kv:Value} (hk:VR ρ k kv):∀{es:List Ak} {es':List MapEntry} {i:Nat} {r:Option (Nat×AV)},ER ρ es es'→C1 E t k es i=some r→
  ∃r',FR ρ r r'∧(Instr.findAsking t kv es' i).run E.P w=.ok r' w
 |[],[],i,r,_,h=>by
  simp only [C1,Option.some.injEq] at h;subst h;exact ⟨none,trivial,by simp [Instr.findAsking]⟩
 |e::es,e'::es',i,r,⟨h1,h2,h3,h4⟩,h=>by
  simp only [C1] at h;cases ha:aeq E 10000 t k e.key with
  |none=>simp [ha] at h
  |some b=>
   have hask:(Op.equal t kv e'.key).run E.P w=.ok b w:=Pd (w:=w) hE 10000 t k e.key b kv e'.key ha hk h1;cases b with
   |true=>
    simp only [ha,Option.some.injEq] at h;subst h;exact ⟨some (i,e'.val),⟨rfl,h2⟩,by simp [Instr.findAsking,hask]⟩
   |false=>
    simp only [ha] at h;obtain ⟨r',q1,q2⟩:=F4 hk h4 h;exact ⟨r',q1,by simp [Instr.findAsking,hask,q2]⟩
omit hE in
theorem Kj {t:TypeId} {ds:TypeDesc} (hd:E.desc t=some ds) {x y:AV} {b:Bool} {xv yv:Value} {d:Nat} (ha:aeq E (d+1) t x y=some b) (hx:VR ρ x xv) (hy:VR ρ y yv) :
  Instr.sameNow ds xv yv=some b∨∀u v,Instr.sameNow ds u v=none:=by
 simp only [aeq,hd] at ha;cases ds with
 |int q=>
  cases hx<;>first | (cases ha;done)|skip
  cases hy<;>first | (cases ha;done)|skip
  rename_i k n k' n';by_cases hk:k=k'
  ·subst hk;simp only [decide_true,Option.some.injEq] at ha;subst ha;exact .inl (by simp [Instr.sameNow])
  ·simp [hk] at ha
 |string=>
  cases hx<;>first | (cases ha;done)|skip
  cases hy<;>first | (cases ha;done)|skip
  rename_i s s';simp only [Option.some.injEq] at ha;subst ha;rw [Ck];exact .inl (by simp only [Instr.sameNow];rw [beq_toListBytes])
 |bool=>
  cases hx<;>first | (cases ha;done)|skip
  cases hy<;>first | (cases ha;done)|skip
  simp only [Option.some.injEq] at ha;subst ha;exact .inl (by simp [Instr.sameNow])
 |_=>exact .inr (fun u v=>by cases u<;>cases v<;>rfl)
omit hE in
theorem KC {t:TypeId} {ds:TypeDesc} (hd:E.desc t=some ds) {k:AV} {kv:Value} (hk:VR ρ k kv) (hq:¬∀u v,Instr.sameNow ds u v=none):∀{es:List Ak} {es':List MapEntry} {i:Nat} {r:Option (Nat×AV)},ER ρ es es'→C1 E t k es i=some r→
  ∃r',FR ρ r r'∧Instr.findNow ds kv es' i=some r'
 |[],[],i,r,_,h=>by
  simp only [C1,Option.some.injEq] at h;subst h;exact ⟨none,trivial,rfl⟩
 |e::es,e'::es',i,r,⟨h1,h2,h3,h4⟩,h=>by
  simp only [C1] at h;cases ha:aeq E 10000 t k e.key with
  |none=>simp [ha] at h
  |some b=>
   have hs:Instr.sameNow ds kv e'.key=some b:=(Kj hd ha hk h1).resolve_right hq;cases b with
   |true=>
    simp only [ha,Option.some.injEq] at h;subst h;exact ⟨some (i,e'.val),⟨rfl,h2⟩,by simp [Instr.findNow,hs]⟩
   |false=>
    simp only [ha] at h;obtain ⟨r',q1,q2⟩:=KC hd hk hq h4 h;exact ⟨r',q1,by simp [Instr.findNow,hs,q2]⟩
theorem DI {t:TypeId} {ds:TypeDesc} (hd:E.desc t=some ds) {k:AV} {kv:Value} (hk:VR ρ k kv) {es:List Ak} {es':List MapEntry} {r:Option (Nat×AV)} (he:ER ρ es es') (h:C1 E t k es 0=some r) :
  ∃r',FR ρ r r'∧(Instr.findKey t kv es').run E.P w=.ok r' w:=by
 by_cases hq:∀u v,Instr.sameNow ds u v=none
 ·cases es' with
  |nil=>
   cases es with
   |nil=>
    simp only [C1,Option.some.injEq] at h;subst h;exact ⟨none,trivial,by simp [Instr.findKey,hE.run_und hd,Instr.findNow]⟩
   |cons e es=>cases he
  |cons e' es'=>
   obtain ⟨r',q1,q2⟩:=F4 (w:=w) hE hk he h;exact ⟨r',q1,by simp [Instr.findKey,hE.run_und hd,Instr.findNow,hq,q2]⟩
 ·obtain ⟨r',q1,q2⟩:=KC hd hk hq he h;exact ⟨r',q1,by simp [Instr.findKey,hE.run_und hd,q2]⟩
theorem Px (hr:HR ρ h.blk.get w) {t:TypeId} {m k a:AV} {mv kv:Value} {ok:Bool} (hm:VR ρ m mv) (hk:VR ρ k kv) (ha:Mc E t m k ok h=some a) :
  ∃v,(Instr.lookup t mv kv ok).run E.P w=.ok v w∧VR ρ a v:=by
 unfold Mc at ha;cases hd:E.desc t with
 |none=>simp [hd] at ha
 |some d=>
  cases d with
  |map kt et=>
   simp only [hd] at ha;cases hkk:Bw E 20 kt k with
   |false=>simp [hkk] at ha
   |true=>
    cases hz:E.zero et with
    |none=>simp [hkk,hz] at ha
    |some z=>
     simp only [hkk,hz] at ha;obtain ⟨zv,z1,z2⟩:=hE.run_zero ρ hz w;have hzr:=Ay ρ z2;have hck:∀em,(Instr.checkKey em 10000 kt kv).run E.P w=.ok () w:=fun em=>Cy (w:=w) hE em 9980 20 kt k kv hkk hk
     have hkd:∃ds,E.desc kt=some ds:=by
      simp only [Bw] at hkk;cases hq:E.desc kt with
      |none=>simp [hq] at hkk
      |some ds=>exact ⟨ds,rfl⟩
     obtain ⟨ds,hkd⟩:=hkd
     have fin:∀(v:AV) (b:Bool) (vv:Value),VR ρ v vv→VR ρ (KI ok v b) (if ok then .tuple #[vv,.bool b] else vv):=by
      intro v b vv hv;cases ok with
      |true=>
       have:=VL.cons hv (VL.cons (VR.bool (ρ:=ρ) b) (VL.nil ρ));exact .tuple _ [vv,.bool b] this.1 this.2
      |false=>exact hv
     have emp:(Instr.findKey kt kv []).run E.P w=.ok none w:=by
      obtain ⟨r',q1,q2⟩:=DI (w:=w) hE hkd hk (es:=[]) (es':=[]) (r:=none) trivial rfl;cases r' with
      |none=>exact q2
      |some p=>cases q1
     cases hm with
     |map0=>
      simp only [Option.some.injEq] at ha;subst ha;refine ⟨_,?_,fin z false zv hzr⟩;simp [Instr.lookup,hE.run_und hd,hck,emp,z1]
     |map b base hb=>
      simp only [] at ha;cases hg:h.blk.get b with
      |none=>simp [hg] at ha
      |some y=>
       cases y with
       |map es clock=>
        simp only [hg] at ha;obtain ⟨es',e1,e2⟩:=hr.blk b base _ hb hg;have hget:(getObj base.cb).run E.P w=.ok (.map es'.toArray clock) w:=by simp [getObj,Sem.run,e1]
        cases hf:C1 E kt k es 0 with
        |none=>simp [hf] at ha
        |some r=>
         obtain ⟨r',q1,q2⟩:=DI (w:=w) hE hkd hk e2 hf;cases r with
         |none=>
          simp only [hf,Option.some.injEq] at ha;subst ha;cases r' with
          |some p=>cases q1
          |none=>
           refine ⟨_,?_,fin z false zv hzr⟩;simp [Instr.lookup,hE.run_und hd,hget,hck,q2,z1]
         |some p=>
          obtain ⟨i,v⟩:=p;simp only [hf,Option.some.injEq] at ha;subst ha;cases r' with
          |none=>cases q1
          |some p'=>
           obtain ⟨j,vv⟩:=p';refine ⟨_,?_,fin v true vv q1.2⟩;simp [Instr.lookup,hE.run_und hd,hget,hck,q2]
       |_=>simp [hg] at ha
     |_=>simp at ha
  |_=>simp [hd] at ha
end
end Go.AE
namespace Go.AE
variable [Gl:Au]
variable [U:Unk]
theorem ER.get {ρ:Ren}:∀{l:List Ak} {l':List MapEntry} {i:Nat} {e:Ak},ER ρ l l'→l[i]?=some e→∃e',l'[i]?=some e'∧VR ρ e.key e'.key∧VR ρ e.val e'.val∧e'.born=e.born
 |[],[],i,e,_,h=>by simp at h
 |a::l,a'::l',0,e,⟨h1,h2,h3,h4⟩,h=>by simp at h;subst h;exact ⟨a',rfl,h1,h2,h3⟩
 |a::l,a'::l',i+1,e,⟨h1,h2,h3,h4⟩,h=>by simpa using ER.get h4 (by simpa using h)
theorem ER.setVal {ρ:Ren}:∀{l:List Ak} {l':List MapEntry} {i:Nat} {k v:AV} {kv vv:Value},ER ρ l l'→VR ρ k kv→VR ρ v vv→ER ρ (setVal l i k v) (l'.modify i fun e=>{e with key:=kv,val:=vv})
 |[],[],i,k,v,kv,vv,_,_,_=>by simp [AE.setVal,ER]
 |a::l,a'::l',0,k,v,kv,vv,⟨h1,h2,h3,h4⟩,hk,hv=>by
  simp only [AE.setVal,List.modify_zero_cons];exact ⟨hk,hv,h3,h4⟩
 |a::l,a'::l',i+1,k,v,kv,vv,⟨h1,h2,h3,h4⟩,hk,hv=>by
  simp only [AE.setVal,List.modify_succ_cons];exact ⟨h1,h2,h3,ER.setVal h4 hk hv⟩
theorem ER.append {ρ:Ren}:∀{l:List Ak} {l':List MapEntry} {m:List Ak} {m':List MapEntry},ER ρ l l'→ER ρ m m'→ER ρ (l++m) (l'++m')
 |[],[],_,_,_,h=>h
 |_::_,_::_,_,_,⟨h1,h2,h3,h4⟩,h=>⟨h1,h2,h3,ER.append h4 h⟩
theorem ER.eraseIdx {ρ:Ren}:∀{l:List Ak} {l':List MapEntry} (i:Nat),ER ρ l l'→ER ρ (l.eraseIdx i) (l'.eraseIdx i)
 |[],[],i,_=>by simp [ER]
 |_::_,_::_,0,⟨_,_,_,h⟩=>by simpa using h
 |_::_,_::_,i+1,⟨h1,h2,h3,h4⟩=>by
  simp only [List.eraseIdx_cons_succ];exact ⟨h1,h2,h3,ER.eraseIdx i h4⟩
section
variable {E:Env} (hE:OK E) {ρ:Ren} {h:Aa} {w:World}
theorem At (P:Program) {r:Nat} {o o':Obj} (ho:w.heap[r]?=some o) (hc:∀c e f,o≠.cells c e f) :
  (setObj r o').run P w=.ok () {w with heap:=w.heap.setIfInBounds r o'}:=by
 cases o<;>simp only [setObj,Sem.run,ho]
 exact absurd rfl (hc _ _ _)
theorem Ao (P:Program) {r:Nat} {o:Obj} (ho:w.heap[r]?=some o) (hc:∀c e f,o≠.cells c e f) :
  (getObj r).run P w=.ok o w:=by
 cases o<;>simp only [getObj,Sem.run,ho]
 exact absurd rfl (hc _ _ _)
theorem HR.setObj (hr:HR ρ h.blk.get w) {r:Nat} {base:Bf} (hb:ρ r=some base) (hl:h.blk.get r≠none) (x:Ac) (o':Obj) (hx:BR ρ x base (some o')) :
  HR ρ (h.put r x).blk.get {w with heap:=w.heap.setIfInBounds base.cb o'}∧Ext ρ ρ h (h.put r x) w {w with heap:=w.heap.setIfInBounds base.cb o'}:=by
 have hlt:=hr.lt r base hb;refine hr.put hb hl x _ ?_ (by simp) (fun k hk=>by simp [Array.getElem?_setIfInBounds_ne (Ne.symm hk)]) rfl rfl rfl
 have:({w with heap:=w.heap.setIfInBounds base.cb o'}:World).heap[base.cb]?=some o':=by simp [hlt]
 rw [this];exact hx
theorem M3:∀{a b:AV},Oc a b=true→a=b:=by
 intro a b h;cases a<;>cases b<;>simp only [Oc] at h<;>first | (cases h;done)|skip
 ·rename_i x y;cases x<;>cases y<;>first|rfl|cases h
 ·rename_i k x k' y;by_cases hk:k=k'
  ·subst hk;simp only [decide_true] at h;rw [eq_of_beq h]
  ·simp [hk] at h
 ·rename_i l x l' y;obtain ⟨h1,h2⟩:=Am h;rw [Aq h1,Aq h2]
theorem K1:∀{l m:List AV},HZ l m=true→l=m
 |[],[],_=>rfl
 |[],_::_,h=>by simp [HZ] at h
 |_::_,[],h=>by simp [HZ] at h
 |a::l,b::m,h=>by
  simp only [HZ] at h;cases hs:Oc a b with
  |false=>simp [hs] at h
  |true=>simp only [hs] at h;rw [M3 hs,K1 h]
theorem Iq {a b:AV} (h:Fi a b=true):a=b:=by
 cases a<;>cases b<;>first|exact congrArg AV.agg (K1 h)|exact M3 h
theorem Da (P:Program) (ov nv:Value) :
  ∃v w',(Instr.keyThatStays ov nv).run P w=.ok v w'∧(v=nv∨v=ov)∧w'.heap=w.heap∧w'.os=w.os∧w'.tape=w.tape∧w'.output=w.output:=by
 unfold Instr.keyThatStays;by_cases hs:Instr.sameBits 10000 ov nv=true
 ·exact ⟨nv,w,by simp [hs],.inl rfl,rfl,rfl,rfl,rfl⟩
 ·simp only [hs,Bool.false_eq_true,if_false,Sem.run_bind,run_choose,Question.forced,Sem.run_pure];exact ⟨_,_,rfl,by split<;>simp,rfl,rfl,rfl,rfl⟩
include hE
theorem GE (hr:HR ρ h.blk.get w) {t:TypeId} {m k v:AV} {mv kv vv:Value} {h':Aa} (hm:VR ρ m mv) (hk:VR ρ k kv) (hv:VR ρ v vv) (ha:Hy E t m k v h=some h') :
  ∃w',(Instr.mapUpdate t mv kv vv).run E.P w=.ok () w'∧HR ρ h'.blk.get w'∧Ext ρ ρ h h' w w':=by
 unfold Hy at ha;cases hd:E.desc t with
 |none=>simp [hd] at ha
 |some d=>
  cases d with
  |map kt et=>
   simp only [hd] at ha;cases hkk:Bw E 20 kt k with
   |false=>simp [hkk] at ha
   |true=>
    simp only [hkk] at ha;have hck:∀em,(Instr.checkKey em 10000 kt kv).run E.P w=.ok () w:=fun em=>Cy (w:=w) hE em 9980 20 kt k kv hkk hk
    have hkd:∃ds,E.desc kt=some ds:=by
     simp only [Bw] at hkk;cases hq:E.desc kt with
     |none=>simp [hq] at hkk
     |some ds=>exact ⟨ds,rfl⟩
    obtain ⟨ds,hkd⟩:=hkd;cases hm with
    |map b base hb=>
     simp only [] at ha;cases hg:h.blk.get b with
     |none=>simp [hg] at ha
     |some y=>
      cases y with
      |map es clock=>
       simp only [hg] at ha;obtain ⟨es',e1,e2⟩:=hr.blk b base _ hb hg;have hget:=Ao (w:=w) E.P e1 (by simp)
       cases hf:C1 E kt k es 0 with
       |none=>simp [hf] at ha
       |some r=>
        obtain ⟨r',q1,q2⟩:=DI (w:=w) hE hkd hk e2 hf;cases r with
        |none=>
         simp only [hf,Option.some.injEq] at ha;subst ha;cases r' with
         |some p=>cases q1
         |none=>
          obtain ⟨p1,p2⟩:=hr.setObj hb (by rw [hg];simp) (.map (es++[{key:=k,val:=v,born:=clock}]) (clock+1)) (.map (es'.toArray.push {key:=kv,val:=vv,born:=clock}) (clock+1))
           ⟨es'++[{key:=kv,val:=vv,born:=clock}],by simp,e2.append ⟨hk,hv,rfl,trivial⟩⟩
          refine ⟨_,?_,p1,p2⟩;simp [Instr.mapUpdate,hE.run_und hd,hget,hck,q2,At (w:=w) E.P e1 (by simp)]
        |some p=>
         obtain ⟨i,v0⟩:=p;simp only [hf] at ha;cases r' with
         |none=>cases q1
         |some p'=>
          obtain ⟨j,v0'⟩:=p';obtain ⟨rfl,q3⟩:=q1;cases hi:es[i]? with
          |none=>simp [hi] at ha
          |some e=>
           simp only [hi] at ha;cases hs:Fi k e.key with
           |false=>simp [hs] at ha
           |true=>
            simp only [hs,Option.some.injEq] at ha;subst ha;have hke:=Iq hs;obtain ⟨e',g1,g2,g3,g4⟩:=e2.get hi;obtain ⟨nk,w1,s1,s2,s3,s4,s5,s6⟩:=Da (w:=w) E.P e'.key kv
            have hnk:VR ρ k nk:=by
             rcases s2 with rfl|rfl
             ·exact hk
             ·rw [hke];exact g2
            have hr1:HR ρ h.blk.get w1:=hr.same s3
            obtain ⟨p1,p2⟩:=hr1.setObj hb (by rw [hg];simp) (.map (setVal es i k v) clock) (.map (es'.toArray.modify i fun e=>{e with key:=nk,val:=vv}) clock)
             ⟨es'.modify i fun e=>{e with key:=nk,val:=vv},by simp [List.modify_toArray],e2.setVal hnk hv⟩
            refine ⟨_,?_,p1,p2.drawn s3 s4 s5 s6⟩;have e1':w1.heap[base.cb]?=some (.map es'.toArray clock):=by rw [s3];exact e1
            simp only [Instr.mapUpdate,Sem.run_bind,hE.run_und hd,Result.andThen_ok,hget,hck,q2,List.getElem?_toArray,g1,Option.map_some,Option.getD_some,s1];rw [At (w:=w1) E.P e1' (by simp)]
      |_=>simp [hg] at ha
    |_=>simp at ha
  |_=>simp [hd] at ha
theorem Pc (hr:HR ρ h.blk.get w) {t ty:TypeId} {m k:AV} {mv kv:Value} {h':Aa} (hm:VR ρ m mv) (hk:VR ρ k kv) (ha:I7 E t m k h=some h') (ats:Array TypeId) (hat:ats[0]?=some t) :
  ∃w',(Builtin.delete_ ats ty #[mv,kv]).run E.P w=.ok (.tuple #[]) w'∧HR ρ h'.blk.get w'∧Ext ρ ρ h h' w w':=by
 unfold I7 at ha;cases hd:E.desc t with
 |none=>simp [hd] at ha
 |some d=>
  cases d with
  |map kt et=>
   simp only [hd] at ha;cases hkk:Bw E 20 kt k with
   |false=>simp [hkk] at ha
   |true=>
    simp only [hkk] at ha;have hck:∀em,(Instr.checkKey em 10000 kt kv).run E.P w=.ok () w:=fun em=>Cy (w:=w) hE em 9980 20 kt k kv hkk hk
    have hkd:∃ds,E.desc kt=some ds:=by
     simp only [Bw] at hkk;cases hq:E.desc kt with
     |none=>simp [hq] at hkk
     |some ds=>exact ⟨ds,rfl⟩
    obtain ⟨ds,hkd⟩:=hkd;cases hm with
    |map0=>
     simp only [Option.some.injEq] at ha;subst ha;refine ⟨w,?_,hr,Ext.refl ρ h w⟩;simp [Builtin.delete_,hat,hE.run_und hd,hck]
    |map b base hb=>
     simp only [] at ha;cases hg:h.blk.get b with
     |none=>simp [hg] at ha
     |some y=>
      cases y with
      |map es clock=>
       simp only [hg] at ha;obtain ⟨es',e1,e2⟩:=hr.blk b base _ hb hg;have hget:=Ao (w:=w) E.P e1 (by simp)
       cases hf:C1 E kt k es 0 with
       |none=>simp [hf] at ha
       |some r=>
        obtain ⟨r',q1,q2⟩:=DI (w:=w) hE hkd hk e2 hf;cases r with
        |none=>
         simp only [hf,Option.some.injEq] at ha;subst ha;cases r' with
         |some p=>cases q1
         |none=>
          obtain ⟨p1,p2⟩:=hr.setObj hb (by rw [hg];simp) (.map es clock) (.map es'.toArray clock) ⟨es',rfl,e2⟩
          refine ⟨_,?_,p1,p2⟩;simp [Builtin.delete_,hat,hE.run_und hd,hget,hck,q2,At (w:=w) E.P e1 (by simp)]
        |some p=>
         obtain ⟨i,v0⟩:=p;simp only [hf,Option.some.injEq] at ha;subst ha;cases r' with
         |none=>cases q1
         |some p'=>
          obtain ⟨j,v0'⟩:=p';obtain ⟨rfl,q3⟩:=q1;obtain ⟨p1,p2⟩:=hr.setObj hb (by rw [hg];simp) (.map (es.eraseIdx i) clock) (.map (es'.toArray.eraseIdxIfInBounds i) clock) ⟨es'.eraseIdx i,by simp,e2.eraseIdx i⟩
          refine ⟨_,?_,p1,p2⟩;simp [Builtin.delete_,hat,hE.run_und hd,hget,hck,q2,At (w:=w) E.P e1 (by simp)]
      |_=>simp [hg] at ha
    |_=>simp at ha
  |_=>simp [hd] at ha
end
end Go.AE
namespace Go.AE
variable [Gl:Au]
variable [U:Unk]
theorem Hu {ρ:Ren} {n:Nat} {v:AV} {vv:Value} (hv:VR ρ v vv):∀{es es2:List Ak} {es':List MapEntry},ER ρ es es'→CQ es n v=some es2→
  ∃i,es'.findIdx? (fun e=>(e.born:Int)==(n:Int))=some i∧ER ρ es2 (es'.modify i fun e=>{e with val:=vv})
 |[],_,[],_,h=>by simp [CQ] at h
 |e::es,es2,e'::es',⟨h1,h2,h3,h4⟩,h=>by
  simp only [CQ] at h;cases hb:Nat.beq e.born n with
  |true=>
   simp only [hb,Option.some.injEq] at h;subst h;have:=Aq hb;exact ⟨0,by simp [List.findIdx?_cons,h3,this],by simp only [List.modify_zero_cons];exact ⟨h1,hv,h3,h4⟩⟩
  |false=>
   simp only [hb] at h;cases hs:CQ es n v with
   |none=>simp [hs] at h
   |some r=>
    simp only [hs,Option.some.injEq] at h;subst h;obtain ⟨i,q1,q2⟩:=Hu hv h4 hs;have hne:=NI hb;refine ⟨i+1,?_,by simp only [List.modify_succ_cons];exact ⟨h1,h2,h3,q2⟩⟩
    have:((e'.born:Int)==(n:Int))=false:=by rw [h3];simp;omega
    simp [List.findIdx?_cons,this,q1]
theorem ER.setKey {ρ:Ren} {k:AV} {kv:Value} (hk:VR ρ k kv):∀{l:List Ak} {l':List MapEntry} {i:Nat} {e:Ak},ER ρ l l'→l[i]?=some e→ER ρ (AE.setVal l i k e.val) (l'.modify i fun e=>{e with key:=kv})
 |[],[],i,e,_,h=>by simp at h
 |a::l,a'::l',0,e,⟨h1,h2,h3,h4⟩,h=>by
  simp at h;subst h;simp only [AE.setVal,List.modify_zero_cons];exact ⟨hk,h2,h3,h4⟩
 |a::l,a'::l',i+1,e,⟨h1,h2,h3,h4⟩,h=>by
  simp only [AE.setVal,List.modify_succ_cons];exact ⟨h1,h2,h3,ER.setKey hk h4 (by simpa using h)⟩
section
variable {E:Env} (hE:OK E) {ρ:Ren} {h:Aa} {w:World}
theorem Kf (hr:HR ρ h.blk.get w) {t:TypeId} {m s v:AV} {mv sv vv:Value} {h':Aa} (hm:VR ρ m mv) (hs:VR ρ s sv) (hv:VR ρ v vv) (ha:E9 m s v h=some h') :
  ∃w',(Instr.entryStore t mv sv vv).run E.P w=.ok () w'∧HR ρ h'.blk.get w'∧Ext ρ ρ h h' w w':=by
 unfold E9 at ha;cases hn:Cm s with
 |none=>cases m<;>simp [hn] at ha
 |some n=>
  obtain ⟨k,rfl⟩:=BF hs hn;cases hm with
  |map b base hb=>
   simp only [hn] at ha;cases hg:h.blk.get b with
   |none=>simp [hg] at ha
   |some y=>
    cases y with
    |map es clock=>
     simp only [hg] at ha;obtain ⟨es',e1,e2⟩:=hr.blk b base _ hb hg;have hget:=Ao (w:=w) E.P e1 (by simp)
     cases hsb:CQ es n v with
     |none=>simp [hsb] at ha
     |some es2=>
      simp only [hsb,Option.some.injEq] at ha;subst ha;obtain ⟨i,q1,q2⟩:=Hu hv e2 hsb;obtain ⟨p1,p2⟩:=hr.setObj hb (by rw [hg];simp) (.map es2 clock) (.map (es'.toArray.modify i fun e=>{e with val:=vv}) clock) ⟨_,by simp [List.modify_toArray],q2⟩
      refine ⟨_,?_,p1,p2⟩;simp [Instr.entryStore,hget,asInt,asIntOf,q1,At (w:=w) E.P e1 (by simp)]
    |_=>simp [hg] at ha
  |_=>simp at ha
include hE
theorem Lk (hr:HR ρ h.blk.get w) {t:TypeId} {m k a:AV} {mv kv:Value} {h':Aa} (hm:VR ρ m mv) (hk:VR ρ k kv) (ha:ML E t m k h=some (a,h')) :
  AB E ρ h h' w (Instr.mapEntry t mv kv) a:=by
 unfold ML at ha;cases hd:E.desc t with
 |none=>simp [hd] at ha
 |some d=>
  cases d with
  |map kt et=>
   simp only [hd] at ha;cases hkk:Bw E 20 kt k with
   |false=>simp [hkk] at ha
   |true=>
    cases hz:E.zero et with
    |none=>simp [hkk,hz] at ha
    |some z=>
     simp only [hkk,hz] at ha;obtain ⟨zv,z1,z2⟩:=hE.run_zero ρ hz w;have hzr:=Ay ρ z2;have hck:∀em,(Instr.checkKey em 10000 kt kv).run E.P w=.ok () w:=fun em=>Cy (w:=w) hE em 9980 20 kt k kv hkk hk
     have hkd:∃ds,E.desc kt=some ds:=by
      simp only [Bw] at hkk;cases hq:E.desc kt with
      |none=>simp [hq] at hkk
      |some ds=>exact ⟨ds,rfl⟩
     obtain ⟨ds,hkd⟩:=hkd
     have pair:∀(v:AV) (vv:Value) (n:Nat),VR ρ v vv→VR ρ (.tuple [v,.int .i64 (n:Int)]) (.tuple #[vv,goInt n]):=by
      intro v vv n hv;have:=VL.cons hv (VL.cons (VR.int (ρ:=ρ) .i64 (n:Int)) (VL.nil ρ));exact .tuple _ [vv,goInt n] this.1 this.2
     cases hm with
     |map b base hb=>
      simp only [] at ha;cases hg:h.blk.get b with
      |none=>simp [hg] at ha
      |some y=>
       cases y with
       |map es clock=>
        simp only [hg] at ha;obtain ⟨es',e1,e2⟩:=hr.blk b base _ hb hg;have hget:=Ao (w:=w) E.P e1 (by simp)
        cases hf:C1 E kt k es 0 with
        |none=>simp [hf] at ha
        |some r=>
         obtain ⟨r',q1,q2⟩:=DI (w:=w) hE hkd hk e2 hf;cases r with
         |none=>
          simp only [hf,Option.some.injEq,Prod.mk.injEq] at ha;obtain ⟨rfl,rfl⟩:=ha;cases r' with
          |some p=>cases q1
          |none=>
           obtain ⟨p1,p2⟩:=hr.setObj hb (by rw [hg];simp) (.map (es++[{key:=k,val:=z,born:=clock}]) (clock+1)) (.map (es'.toArray.push {key:=kv,val:=zv,born:=clock}) (clock+1))
            ⟨es'++[{key:=kv,val:=zv,born:=clock}],by simp,e2.append ⟨hk,hzr,rfl,trivial⟩⟩
           refine ⟨ρ,_,_,?_,pair z zv clock hzr,p1,p2⟩;simp [Instr.mapEntry,hE.run_und hd,hget,hck,q2,z1,At (w:=w) E.P e1 (by simp)]
         |some p=>
          obtain ⟨i,v0⟩:=p;simp only [hf] at ha;cases r' with
          |none=>cases q1
          |some p'=>
           obtain ⟨j,v0'⟩:=p';obtain ⟨rfl,q3⟩:=q1;cases hi:es[i]? with
           |none=>simp [hi] at ha
           |some e=>
            simp only [hi] at ha;cases hs:Fi k e.key with
            |false=>simp [hs] at ha
            |true=>
             simp only [hs,Option.some.injEq,Prod.mk.injEq] at ha;obtain ⟨rfl,rfl⟩:=ha;have hke:=Iq hs;obtain ⟨e',g1,g2,g3,g4⟩:=e2.get hi;obtain ⟨nk,w1,s1,s2,s3,s4,s5,s6⟩:=Da (w:=w) E.P e'.key kv
             have hnk:VR ρ k nk:=by
              rcases s2 with rfl|rfl
              ·exact hk
              ·rw [hke];exact g2
             have hr1:HR ρ h.blk.get w1:=hr.same s3
             obtain ⟨p1,p2⟩:=hr1.setObj hb (by rw [hg];simp) (.map (setVal es i k e.val) clock) (.map (es'.toArray.modify i fun e=>{e with key:=nk}) clock)
              ⟨es'.modify i fun e=>{e with key:=nk},by simp [List.modify_toArray],ER.setKey hnk e2 hi⟩
             refine ⟨ρ,_,_,?_,pair v0 v0' e.born q3,p1,p2.drawn s3 s4 s5 s6⟩;have e1':w1.heap[base.cb]?=some (.map es'.toArray clock):=by rw [s3];exact e1
             simp only [Instr.mapEntry,Sem.run_bind,hE.run_und hd,Result.andThen_ok,hget,hck,q2,List.getElem?_toArray,g1,Option.map_some,Option.getD_some,s1,g4];rw [At (w:=w1) E.P e1' (by simp)]
             rfl
       |_=>simp [hg] at ha
     |_=>simp at ha
  |_=>simp [hd] at ha
omit hE in
theorem UX (hE:OK E) (hr:HR ρ h.blk.get w) {t ty:TypeId} {x a:AV} {xv:Value} (hx:VR ρ x xv) (ha:bB E t x h=some a) (ats:Array TypeId) (hat:ats[0]?=some t) (args:Array Value) (harg:args[0]?=some xv) :
    ∃v,(Builtin.len_ ats ty args).run E.P w=.ok v w∧VR ρ a v:=by
  unfold bB at ha;cases hd:E.desc t with
  |none=>simp [hd] at ha
  |some d=>
    cases d with
    |string=>
      cases hx<;>simp only [hd] at ha<;>first | (cases ha;done)|skip
      · simp only [Option.some.injEq] at ha
        subst ha;rename_i s;refine ⟨goInt s.size,by simp [Builtin.len_,hat,harg,hE.run_und hd],?_⟩
        have:s.data.toList.length=s.size:=by simp
        rw [this];exact .int _ _
      · simp only [Option.some.injEq] at ha
        subst ha;rename_i i;refine ⟨goInt (AG U.V i).size,by simp [Builtin.len_,hat,harg,hE.run_und hd],?_⟩
        have h1:(AG U.V i).data.toList.length=(AG U.V i).size:=by simp
        have h2:=B3 ρ .i64 (.lenS i);have h3:Ag U.V (.lenS i)=((AG U.V i).data.toList.length:Nat):=rfl;rw [h3,h1] at h2;exact h2
    |array n e=>
      simp only [hd,Option.some.injEq] at ha;subst ha;refine ⟨goInt n,?_,.int _ _⟩;cases hx<;>simp [Builtin.len_,hat,harg,hE.run_und hd]
    |slice e=>
      cases hx<;>simp only [hd] at ha<;>first | (cases ha;done)|skip
      all_goals
        simp only [Option.some.injEq] at ha;subst ha
        first
          |exact ⟨_,by simp [Builtin.len_,hat,harg,hE.run_und hd];rfl,.int _ _⟩
          | (rename_i e' x a n c hdv
             obtain ⟨_,_,_,e1,e2⟩:=hdv.slice_inv;cases e1;have q:=B3 ρ .i64 (.lenL x);rw [Aj,e2] at q;exact ⟨_,by simp [Builtin.len_,hat,harg,hE.run_und hd];rfl,q⟩)
          | (rename_i b es n nl cap base hb h0 hc hz hnl
             have q:=B3 ρ .i64 n;refine ⟨goInt (Ag U.V n).toNat,by simp [Builtin.len_,hat,harg,hE.run_und hd],?_⟩
             have e:goInt ((Ag U.V n).toNat:Nat)=.int .i64 (Ag U.V n):=by simp [goInt];omega
             rw [e];exact q)
          | (rename_i b es n nl a h0 hnl
             have q:=B3 ρ .i64 n;rw [h0] at q;exact ⟨_,by simp [Builtin.len_,hat,harg,hE.run_und hd];rfl,q⟩)
    |map k e=>
      cases hx<;>simp only [hd] at ha<;>first | (cases ha;done)|skip
      · simp only [Option.some.injEq] at ha
        subst ha;exact ⟨goInt 0,by simp [Builtin.len_,hat,harg,hE.run_und hd],.int _ _⟩
      · rename_i b base hb
        cases hg:h.blk.get b with
        |none=>simp [hg] at ha
        |some y=>
          cases y with
          |map es clock=>
            simp only [hg,Option.some.injEq] at ha;subst ha;obtain ⟨es',e1,e2⟩:=hr.blk b base _ hb hg;have hget:=Ao (w:=w) E.P e1 (by simp)
            refine ⟨goInt es'.length,by simp [Builtin.len_,hat,harg,hE.run_und hd,hget],?_⟩
            rw [e2.length];exact .int _ _
          |dmap kt vt x=>
            simp only [hg,Option.some.injEq] at ha;subst ha;obtain ⟨kks,vks,es',clock,_,_,e1,e2,_⟩:=hr.blk b base _ hb hg;have hget:=Ao (w:=w) E.P e1 (by simp)
            refine ⟨goInt es'.length,by simp [Builtin.len_,hat,harg,hE.run_und hd,hget],?_⟩
            have q:=B3 ρ .i64 (.lenL x);rw [Aj,←e2.length] at q;exact q
          |_=>simp [hg] at ha
    |_=>cases hx<;>simp [hd] at ha
end
end Go.AE

