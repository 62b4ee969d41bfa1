/- What is proved here: an evaluator of the model's steps that the kernel can run, and that whatever it answers is what the model does (part 2 of 6: AeOps5, AeOps6, AeOps7, AeOps8, AeOps9, AeOps10, AeOps11, AeSym, AeOps12, AeOps13, AeOps14, AeOps15, AeOps16, AeOps17, AeOps18, AeDat1, AeDat2). Conditions: those that each theorem states; they hold of no one program. -/
import Derived.Test.YtmgppdghdeokbaaGreatBeA
import Derived.IntWalk
import Derived.Laws.Append
import Derived.Laws.AppendOwn
import Derived.Laws.StructEq
import Derived.ChangeKeysEq
import Derived.Laws.Closers25b
import Derived.Laws.BytesString
set_option linter.unusedVariables false
set_option linter.unusedSectionVars false
set_option linter.unusedSimpArgs false
namespace Go.AE
variable [U:Unk]
def aD {a:Type} (l:List a) (off:Nat) (r l2:List a):Prop:=l2.length=l.length∧∀j,l2[j]?=if off≤j∧j<off+r.length then r[j-off]? else l[j]?
theorem FX:∀(l:List AV) (off:Nat) (r:List AV),off+r.length≤l.length→aD l off r (AZ l off r):=by
 intro l
 induction l with
 |nil=>
  intro off r h;have:r=[]:=F0 (by simp only [List.length_nil] at h;omega)
  subst this;exact ⟨by simp [AZ],fun j=>by simp [AZ]⟩
 |cons x l d=>
  intro off r h;cases r with
  |nil=>exact ⟨by simp [AZ],fun j=>by rw [if_neg (by simp)];simp [AZ]⟩
  |cons v r=>
   simp only [F2] at h;cases off with
   |zero=>
    obtain ⟨a,b⟩:=d 0 r (by omega)
    refine ⟨by simp [AZ,a],fun j=>?_⟩
    cases j with
    |zero=>simp [AZ]
    |succ j=>
     simp only [AZ,EQ,b j,F2,R2,hP,true_and,Nat.sub_zero];by_cases c:j<r.length
     ·rw [if_pos c,if_pos (by omega)]
     ·rw [if_neg c,if_neg (by omega)]
   |succ off=>
    obtain ⟨a,b⟩:=d off (v::r) (by simp;omega)
    refine ⟨by simp [AZ,a],fun j=>?_⟩
    cases j with
    |zero=>rw [if_neg (by omega)];simp [AZ]
    |succ j=>
     simp only [AZ,EQ,b j,F2];by_cases c:off≤j∧j<off+(r.length+1)
     ·rw [if_pos c,if_pos (by omega)];congr 1;omega
     ·rw [if_neg c,if_neg (by omega)]
theorem S5 (off:Nat):∀(r:List Value) (k:Nat) (cs:Array Value),off+k+r.length≤cs.size→
  aD cs.toList (off+k) r ((r.zipIdx k).foldl (fun cs (p:Value×Nat)=>cs.setIfInBounds (off+p.2) p.1) cs).toList:=by
 intro r
 induction r with
 |nil=>intro k cs h;exact ⟨rfl,fun j=>by rw [if_neg (by simp)];rfl⟩
 |cons v r a=>
  intro k cs h;simp only [F2] at h;simp only [List.zipIdx_cons,List.foldl_cons];obtain ⟨b,c⟩:=a (k+1) (cs.setIfInBounds (off+k) v) (by simp;omega)
  refine ⟨by rw [b];simp,fun j=>?_⟩
  rw [c j];simp only [F2];by_cases c1:off+(k+1)≤j∧j<off+(k+1)+r.length
  ·rw [if_pos c1,if_pos (by omega)]
   have:j-(off+k)=(j-(off+(k+1)))+1:=by omega
   rw [this,EQ]
  ·rw [if_neg c1];by_cases c2:j=off+k
   ·subst c2;rw [if_pos (by omega)]
    have:off+k<cs.size:=by omega
    simp [this]
   ·rw [if_neg (by omega)]
    simp only [K3];rw [X1 (fun e=>c2 e.symm)]
theorem aD.vl {J:Ren} {l r l2:List AV} {l' r' j:List Value} {off:Nat} (h:aD l off r l2) (h':aD l' off r' j) (hl:VL J l l') (hr:VL J r r'):VL J l2 j:=by
 refine ⟨by rw [h.1,h'.1,hl.1],fun i a v C I=>?_⟩
 rw [h.2 i] at C;rw [h'.2 i,←hr.1] at I;by_cases c:off≤i∧i<off+r.length
 ·rw [if_pos c] at C I;exact hr.2 _ a v C I
 ·rw [if_neg c] at C I;exact hl.2 _ a v C I
def PL (b:Ren):List (Nat×AV)→List (Nat×Value)→Prop
 |[],[]=>True
 | (i,a)::r,(j,v)::c=>i=j∧VR b a v∧PL b r c
 |_,_=>False
theorem I3 {k:Ren} {c:Nat→Option (Nat×Nat)}:∀{o:List (Nat×AV)} {e:List (Nat×Value)} {cells out:List AV} {b:Array Value},PL k o e→VL k cells b.toList→
  FV c cells o=some out→∃d,Instr.fill c b e=some d∧VL k out d.toList
 |[],[],cells,out,b,_,g,h=>by
  simp only [FV,A1] at h;subst h;exact ⟨b,rfl,g⟩
 | (i,a)::r,(j,v)::E,cells,out,b,⟨t,u,w⟩,g,h=>by
  subst t;simp only [FV] at h;cases hp:c i with
  |none=>simp [hp] at h
  |some p=>
   obtain ⟨off,size⟩:=p;simp only [hp] at h;cases l:(Nat.beq a.cells.length size&&Nat.ble (off+size) cells.length && !a.isTop) with
   |false=>simp [l] at h
   |true=>
    simp only [l] at h;obtain ⟨m,x⟩:=AC l;obtain ⟨y,z⟩:=AC m;have n:a≠.top:=by rintro rfl;simp [AV.isTop] at x
    have e1:=AK y;have F:=Ep z;have q:=u.cells n;have f:v.cells.size=size:=by have:=q.1;simp at this;omega
    have A:cells.length=b.size:=by simpa using g.1
    have B:=FX cells off a.cells (by omega)
    have s:=S5 off v.cells.toList 0 b (by simp;omega)
    simp only [S1] at s;obtain ⟨d,C,D⟩:=I3 w (B.vl s g q) h;refine ⟨d,?_,D⟩;simp only [Instr.fill,hp];rw [if_neg (by simp [f];omega),←C]
    congr 1
    rw [←Array.foldl_toList];simp [Array.toList_zipIdx]
theorem Jx {b:Nat→Option (Nat×Nat)}:∀{e:List (Nat×AV)} {cells out:List AV},FV b cells e=some out→out.length=cells.length
 |[],cells,out,h=>by simp only [FV,A1] at h;subst h;rfl
 | (i,a)::r,cells,out,h=>by
  simp only [FV] at h;cases hp:b i with
  |none=>simp [hp] at h
  |some p=>
   obtain ⟨off,size⟩:=p;simp only [hp] at h;cases c:(Nat.beq a.cells.length size&&Nat.ble (off+size) cells.length && !a.isTop) with
   |false=>simp [c] at h
   |true=>
    simp only [c] at h;obtain ⟨d,j⟩:=AC c;obtain ⟨f,g⟩:=AC d;have e1:=AK f;have k:=Ep g;rw [Jx h,(FX cells off a.cells (by omega)).1]
section
variable {E:Env} (hE:OK E) {ρ:Ren} {h:Aa} {w:World}
include hE
omit hE in
theorem Cj {v:Value} {z:AV} (h:ofValue v=some z):z≠.top:=by
 rintro rfl
 cases v with
 |agg c=>simp only [ofValue] at h;cases hc:Dv c.toList<;>simp [hc] at h
 |pointer p=>cases p<;>simp [ofValue,A8] at h
 |slice p l c=>cases p<;>cases l<;>cases c<;>simp [ofValue,A8] at h
 |map r=>cases r<;>simp [ofValue,A8] at h
 |_=>simp [ofValue,A8] at h
theorem Lk (b:List Field) (a:b.all (fun f=>E.has f.type)=true) (w:World) :
  (b.mapM fun f=>do pure (f.offset,←sizeOf f.type):Sem (List (Nat×Nat))).run E.P w=.ok (b.map fun f=>(f.offset,E.size f.type)) w:=by
 induction b with
 |nil=>simp
 |cons f r d=>
  simp only [List.all_cons,B1] at a;simp only [List.mapM_cons,B2,hE.run_has a.1,A2,CU,d a.2,i6]
theorem Xl {t:TypeId} {x:List (Nat×AV)} {s:List (Nat×Value)} {a:AV} (hp:PL ρ x s) (b:SW E t x=some a) :
  ∃v,(Instr.build t s.toArray).run E.P w=.ok v w∧VR ρ a v:=by
 unfold SW at b;cases m:E.zero t with
 |none=>simp [m] at b
 |some z=>
  obtain ⟨F,z1,z2⟩:=hE.run_zero ρ m w;have C:=(Bg ρ z2).cells (Cj z2);cases o:E.desc t with
  |none=>simp [m,o] at b
  |some d=>
   cases d with
   |struct q=>
    simp only [m,o] at b;cases j:q.toList.all (fun f=>E.has f.type) with
    |false=>simp only [j] at b;cases b
    |true=>
     simp only [j] at b;cases k:FV (PC E q.toList) z.cells x with
     |none=>simp only [k,Option.map_none] at b;cases b
     |some out=>
      simp only [k,X8,A1] at b;subst b
      have y:PC E q.toList=(fun i=>((q.toList.map fun f=>(f.offset,E.size f.type)).toArray)[i]?):=by
       funext i
       simp only [PC,Sf,P8];cases q.toList[i]?<;>rfl
      rw [y] at k;obtain ⟨g,A,u⟩:=I3 hp C k;refine ⟨.agg g,?_,?_⟩
      ·have D:=Lk hE q.toList j w;simp only [Instr.build,B2,z1,A2,hE.run_und o];rw [Array.mapM_eq_mapM_toList];simp only [Sem.run_map,D,A2];rw [A];rfl
      ·exact .agg out g.toList u.1 u.2
   |array n e=>
    simp only [m,o] at b;cases B:E.has e with
    |false=>simp [B] at b
    |true=>
     simp only [B] at b;cases k:FV (fun i=>some (i*E.size e,E.size e)) z.cells x with
     |none=>simp [k] at b
     |some out=>
      simp only [k,X8,A1] at b;subst b;obtain ⟨g,A,u⟩:=I3 hp C k;refine ⟨.agg g,?_,.agg out g.toList u.1 u.2⟩;simp [Instr.build,z1,hE.run_und o,hE.run_has B,A]
   |_=>simp [m,o] at b
end
end Go.AE
namespace Go.AE
variable [U:Unk]
theorem M4 (n:Nat) (h:n≤4611686018427387904):IntKind.i64.wrap (n:Int)=n:=IntWalk.i64_in _ (by omega)
theorem KC (z:List AV):∀(n i:Nat),i<n*z.length→(DH z n)[i]?=z[i%z.length]?
 |0,i,h=>by simp at h
 |n+1,i,h=>by
  simp only [DH];by_cases hi:i<z.length
  ·rw [Ea hi,Nat.mod_eq_of_lt hi]
  ·rw [E3 (by omega),KC z n (i-z.length) (by rw [ce] at h;omega)]
   congr 1
   rw [←Nat.mod_eq_sub_mod (by omega)]
theorem CH (z:List AV):∀n,(DH z n).length=n*z.length
 |0=>by simp [DH]
 |n+1=>by simp only [DH,L1,CH z n,ce];omega
theorem IN {h:Ren} {z:List AV} {zero:Array Value} (j:VL h z zero.toList) (n:Nat) (b:Array Value) (k:n*z.length=0∨b=zero) :
  VL h (DH z n) ((Array.range (n*z.length)).map (b[· % b.size]!)).toList:=by
 have hl:z.length=zero.size:=by simpa using j.1
 refine ⟨by simp [CH],fun i a v d c=>?_⟩
 have hi:i<n*z.length:=by
  have:=(B3.1 d).1
  rwa [CH] at this
 rcases k with k|rfl
 ·omega
 ·have f:0<z.length:=by
   rcases Nat.eq_zero_or_pos z.length with e|e
   ·rw [e] at hi;simp at hi
   ·exact e
  rw [KC z n i hi] at d;have l:i%z.length<z.length:=Nat.mod_lt _ f;simp only [Array.toList_map,Array.toList_range,P8,hI hi,X8,A1] at c;subst c;obtain ⟨v,c,g⟩:=j.get d;rw [hl] at c
  have:b[i%b.size]! = v:=by
   rw [K3] at c;simp [Array.getElem!_eq_getD,C2,c]
  rw [this];exact g
section
variable {E:Env} (hE:OK E) {ρ:Ren} {h:Aa} {w:World}
include hE
def Bj (E:Env) (ρ:Ren) (h h':Aa) (w:World) (s:Sem Value) (a:AV):Prop:=
 ∃b v c,s.run E.P w=.ok v c∧VR b a v∧HR b h'.blk.get c∧Ext ρ b h h' w c
omit hE in
theorem Bc (hr:HR ρ h.blk.get w) {s:Sem Value} {a:AV} (hs:∃v,s.run E.P w=.ok v w∧VR ρ a v):Bj E ρ h h w s a:=by
 obtain ⟨v,h1,h2⟩:=hs;exact ⟨ρ,v,w,h1,h2,hr,Ext.refl ρ h w⟩
theorem Yz (hr:HR ρ h.blk.get w) (b:ρ h.nx=none) {t:TypeId} {z:AV} (c:E.zero t=some z) :
  Bj E ρ h (Cr h z.cells) w (Instr.alloc t true (.tuple #[])) (.ptr h.nx 0):=by
 obtain ⟨d,z1,z2⟩:=hE.run_zero ρ c w;have e:=(Bg ρ z2).cells (Cj z2);obtain ⟨f,s1,g,i⟩:=hr.newList b t d.cells e;refine ⟨f,.pointer (some ⟨w.heap.size,0,none⟩),_,?_,.ptr h.nx 0 _ s1,g,i⟩;simp only [Instr.alloc,B2,z1,A2,newVar,newRow,fc,CU]
omit hE in
theorem iE (hr:HR ρ h.blk.get w) (hf:ρ h.nx=none) {t:TypeId} {a:AV} {v:Value} (ha:VR ρ a v) (ht:a≠.top) :
  Bj E ρ h (Cr h a.cells) w (Instr.box t v) (.ptr h.nx 0):=by
 obtain ⟨σ,s1,q1,q2⟩:=hr.newList hf t v.cells (ha.cells ht);refine ⟨σ,.pointer (some ⟨w.heap.size,0,none⟩),_,?_,.ptr h.nx 0 _ s1,q1,q2⟩;simp only [Instr.box,B2,A2,newVar,newRow,fc,CU]
theorem L7 (hr:HR ρ h.blk.get w) {t:TypeId} {len:Nat} {q:List (Nat×AV)} {m:List (Nat×Value)} {a:AV} {h':Aa} (hp:PL ρ q m) (c:Hu E t len q h=some (a,h')) (hf:Bs ρ h.nx h'.nx) :
  Bj E ρ h h' w (Instr.buildSlice t len m.toArray) a:=by
 unfold Hu at c;cases n:E.desc t with
 |none=>simp [n] at c
 |some d=>
  cases d with
  |slice e=>
   simp only [n] at c;cases o:Nat.ble (len*E.size e) 16777216 with
   |false=>simp [o] at c
   |true=>
    cases p:E.zero e with
    |none=>simp [o,p] at c
    |some z=>
     simp only [o,p] at c;cases k:Nat.beq z.cells.length (E.size e) with
     |false=>simp [k] at c
     |true=>
      simp only [k] at c;cases g:FV (fun i=>some (i*E.size e,E.size e)) (DH z.cells len) q with
      |none=>simp [g] at c
      |some cells=>
       simp only [g,A1,E5] at c;obtain ⟨rfl,rfl⟩:=c;have f:=AK k;have x:=Ep o;obtain ⟨i,v,i1,i2,i3⟩:=G5 p;have r:∀w,(sizeOf e).run E.P w=.ok (E.size e) w:=fun w=>by rw [hE.run_sz i1];simp [Env.size,i1]
       obtain ⟨u,z1,z2⟩:=hE.run_zero ρ p w;have y:=(Bg ρ z2).cells (Cj z2);have l:ρ h.nx=none:=hf h.nx (C1 _) (by simp [Cr,Aa.new])
       have A:len*z.cells.length=0∨(if len*E.size e=0 then #[] else u.cells)=u.cells:=by
        rw [f];by_cases e0:len*E.size e=0
        ·exact .inl e0
        ·exact .inr (by rw [if_neg e0])
       have b:=IN y len (if len*E.size e=0 then #[] else u.cells) A
       rw [f] at b;obtain ⟨j,o1,o2⟩:=I3 hp b g;obtain ⟨σ,s1,q1,q2⟩:=hr.newList l e j o2
       have B:j.size=len*E.size e:=by
        have C:=Jx g;rw [CH,f] at C;have D:=o2.1;simp at D;omega
       refine ⟨σ,.slice (some ⟨w.heap.size,0,none⟩) len len,_,?_,?_,q1,q2⟩
       ·simp only [Instr.buildSlice,B2,hE.run_und n,A2,r];rw [if_neg (by omega)]
        by_cases e0:len*E.size e=0
        ·simp only [e0,if_true] at o1;simp only [e0,if_true,B2,CU,A2];rw [o1];simp only [newRow,B2,fc,A2,CU]
        ·rw [if_neg e0] at o1;rw [if_neg e0];simp only [B2,z1,CU,A2];rw [o1];simp only [newRow,B2,fc,A2,CU]
       ·exact VR.slice h.nx 0 len (E.size e) len _ s1 (C1 _) (by simp only [R2];omega)
  |_=>simp [n] at c
end
end Go.AE
namespace Go.AE
variable [U:Unk]
theorem HR.strike {ρ:Ren} {h:Aa} {w:World} (r:HR ρ h.blk.get w) (b:Nat):HR ρ (h.strike b).blk.get w∧Ext ρ ρ h (h.strike b) w w:=by
 refine ⟨r.restrict fun c=>?_,⟨Ren.le_refl ρ,C1 _,fun _ _ e=>.inl e,IH.refl w,fun _ _ _=>rfl,⟨[b],rfl,?_⟩,?_,fun _ _ e=>.inl e⟩⟩
 ·simp only [Aa.strike,T.get_del];by_cases e:b=c
  ·exact .inl (by rw [if_pos e])
  ·exact .inr (by rw [if_neg e])
 ·intro c j _;simp only [Aa.strike,T.get_del];rw [if_neg (fun e=>j (by simp [e]))]
 ·intro c j;simp only [Aa.strike,T.get_del] at j;by_cases e:b=c
  ·rw [if_pos e] at j;exact absurd rfl j
  ·rw [if_neg e] at j;exact .inl j
theorem HR.move {ρ:Ren} {h:Aa} {w:World} (hr:HR ρ h.blk.get w) {b:Nat} {base base':DF} (hb:ρ b=some base) (hl:h.blk.get b≠none) (hf:ρ h.nx=none) (ab:base'.cb=base.cb) (x:Aj)
  (w':World) (hx:BR (ρ.upd h.nx base') x base' w'.heap[base.cb]?) (bd:w'.heap.size=w.heap.size) (ar:∀k,k≠base.cb→w'.heap[k]?=w.heap[k]?) (bv:w'.os=w.os) (ht:w'.tape=w.tape) (ho:w'.output=w.output) :
  HR (ρ.upd h.nx base') ((h.strike b).new x).blk.get w'∧Ext ρ (ρ.upd h.nx base') h ((h.strike b).new x) w w':=by
 have bm:=Ren.le_upd hf base';have b4:b≠h.nx:=by rintro rfl;rw [hf] at hb;cases hb
 have C:∀c d,ρ.upd h.nx base' c=some d→(c=h.nx∧d=base')∨(c≠h.nx∧ρ c=some d):=by
  intro c d j;simp only [Ren.upd] at j;by_cases e:c=h.nx
  ·rw [if_pos e] at j;exact .inl ⟨e,by simpa using j.symm⟩
  ·rw [if_neg e] at j;exact .inr ⟨e,j⟩
 have get:∀c,((h.strike b).new x).blk.get c=if h.nx=c then some x else if b=c then none else h.blk.get c:=by
  intro c;simp only [Aa.new,Aa.strike,T.get_set,T.get_del]
 refine ⟨⟨?_,?_,?_,?_,?_⟩,⟨bm,Nat.le_succ _,?_,⟨bv,ht,ho,by omega⟩,?_,⟨[b],rfl,?_⟩,?_,fun _ _ e=>.inl e⟩⟩
 ·intro c d j;rcases C c d j with ⟨_,rfl⟩|⟨_,I⟩
  ·rw [ab,bd];exact hr.lt b base hb
  ·rw [bd];exact hr.lt c d I
 ·intro c d y j hy;rw [get] at hy;rcases C c d j with ⟨rfl,rfl⟩|⟨J,I⟩
  ·rw [if_pos rfl] at hy;cases hy;rw [ab];exact hx
  ·rw [if_neg (fun e=>J e.symm)] at hy
   by_cases e:b=c
   ·rw [if_pos e] at hy;cases hy
   ·rw [if_neg e] at hy;rw [ar _ (hr.apart c b d base (fun q=>e q.symm) I hb (by rw [hy];simp) hl)]
    exact (hr.blk c d y I hy).mono bm
 ·have one:∀c d,c≠h.nx→ρ c=some d→((h.strike b).new x).blk.get c≠none→base'.cb≠d.cb:=by
   intro c d J I r;rw [get,if_neg (fun e=>J e.symm)] at r
   by_cases e:b=c
   ·rw [if_pos e] at r;exact absurd rfl r
   ·rw [if_neg e] at r;rw [ab];exact hr.apart b c base d e hb I hl r
  intro c c' d d' J j bs I r;rcases C c d j with ⟨rfl,rfl⟩|⟨hn,h3⟩
  ·rcases C c' d' bs with ⟨e,_⟩|⟨av,h4⟩
   ·exact absurd e.symm J
   ·exact one c' d' av h4 r
  ·rcases C c' d' bs with ⟨rfl,rfl⟩|⟨av,h4⟩
   ·exact (one c d hn h3 I).symm
   ·rw [get,if_neg (fun e=>hn e.symm)] at I
    rw [get,if_neg (fun e=>av e.symm)] at r
    by_cases e:b=c
    ·rw [if_pos e] at I;exact absurd rfl I
    ·by_cases e':b=c'
     ·rw [if_pos e'] at r;exact absurd rfl r
     ·rw [if_neg e] at I;rw [if_neg e'] at r;exact hr.apart c c' d d' J h3 h4 I r
 ·intro k arr hk;rw [ar k (hr.off k arr b base hk hb hl).symm];exact hr.imm k arr hk
 ·intro k arr c d hk j r;rcases C c d j with ⟨rfl,rfl⟩|⟨hn,h3⟩
  ·rw [ab];exact hr.off k arr b base hk hb hl
  ·rw [get,if_neg (fun e=>hn e.symm)] at r
   by_cases e:b=c
   ·rw [if_pos e] at r;exact absurd rfl r
   ·rw [if_neg e] at r;exact hr.off k arr c d hk h3 r
 ·intro c d j;rcases C c d j with ⟨rfl,rfl⟩|⟨_,I⟩
  ·exact .inr ⟨C1 _,Nat.lt_succ_self _,.inr ⟨b,base,hb,hl,ab.symm⟩⟩
  ·exact .inl I
 ·intro k hk hn;exact ar k (fun e=>hn b base hb hl e.symm)
 ·intro c j b0;rw [get,if_neg (by simp only [Aa.new,Aa.strike] at b0;omega),if_neg (fun e=>j (by simp [e]))]
 ·intro c j;rw [get] at j;by_cases e:h.nx=c
  ·exact .inr ⟨by omega,by simp only [Aa.new,Aa.strike];omega⟩
  ·rw [if_neg e] at j;by_cases e':b=c
   ·rw [if_pos e'] at j;exact absurd rfl j
   ·rw [if_neg e'] at j;exact .inl j
theorem Ext.drawn {ρ C:Ren} {h h':Aa} {w w1 I:World} (e:Ext ρ C h h' w1 I) (j:w1.heap=w.heap) (r:w1.os=w.os) (J:w1.tape=w.tape) (ho:w1.output=w.output):Ext ρ C h h' w I:=
 ⟨e.le,e.nx,j▸e.new,⟨e.calm.os.trans r,e.calm.tape.trans J,e.calm.output.trans ho,j▸e.calm.size⟩,j▸e.kept,e.log,e.live,j▸e.imm⟩
theorem AQ (P:Program) (w:World) (b o k:Nat) (a:Array Value) (e:TypeId) (f:Nat×Nat) (g:w.heap[b]?=some (.cells a e f)) (h:o+k≤a.size) :
  (Go.loadCells ⟨b,o,none⟩ k).run P w=.ok ((a.toList.drop o).take k).toArray w:=by
 have hl:((a.toList.drop o).take k).length=k:=by simp;omega
 have:=DI (w:=w) P b o ((a.toList.drop o).take k) 0 #[] (by
  intro j v d;rw [XB] at d;by_cases c:j<k
  ·rw [if_pos c] at d;simp only [SX,K3] at d;simp [World.cell?,g,d]
  ·rw [if_neg c] at d;cases d)
 rw [hl] at this;simpa [Go.loadCells] using this
theorem GN:∀(l:List UInt8),bytesOf l.length (AL l)=l.map fun b=>AV.int .u8 (b.toNat:Nat)
 |[]=>rfl
 |b::r=>by
  obtain ⟨a,c⟩:=Ge b r;simp only [F2,bytesOf,a,c,GN r,i6]
theorem Sq (f:Ren) (l:List UInt8):VL f (l.map fun b=>AV.int .u8 (b.toNat:Nat)) (l.map fun b=>Value.int .u8 (b.toNat:Nat)):=by
 refine ⟨by simp,fun i a v c d=>?_⟩
 simp only [P8] at c d;cases e:l[i]? with
 |none=>simp [e] at c
 |some b=>
  simp only [e,X8,A1] at c d;subst c;subst d;exact .int _ _
section
variable {E:Env} (hE:OK E) {ρ:Ren} {h:Aa} {w:World}
theorem VB (z:HR ρ h.blk.get w) (P:Program) {g n m:Nat} {x:AV} {t:Value} {l:List AV} (C:VR ρ x t) (d:Hf x=some m) (hn:n≤m) (hs:Mr h g n x=some l) :
  ∃vs:List Value,VL ρ l vs∧l.length=n*g∧(Builtin.lenOf t).run P w=.ok m w∧∀f:World,f.heap=w.heap→(Builtin.firstCells g n t).run P f=.ok vs.toArray f:=by
 cases C with
 |slice0=>
  simp only [Hf,A1] at d;simp only [Mr,A1] at hs;subst hs;have:n=0:=by omega
  subst this;exact ⟨[],VL.nil ρ,by simp,by simp [Builtin.lenOf,d.symm],fun f _=>by simp [Builtin.firstCells]⟩
 |slice b off k q D i F L M=>
  simp only [Hf,A1] at d;subst d;simp only [Mr] at hs;cases e:Nat.beq g q with
  |false=>simp [e] at hs
  |true=>
   simp only [e] at hs;have:=AK e;subst this;unfold Ek at hs;cases o:h.blk.get b with
   |none=>simp [o] at hs
   |some y=>
    cases y with
    |cells u c=>
     simp only [o] at hs;cases r:Nat.ble (off+n*g) u with
     |false=>simp [r] at hs
     |true=>
      simp only [r] at hs;have p:=(T.range_spec c _ _ _ hs).1;obtain ⟨vs,A,N,G⟩:=z.loadCells P F o (Ep r) hs;refine ⟨vs,A,p,by simp [Builtin.lenOf],fun f B=>?_⟩
      have H:HR ρ h.blk.get f:=z.same B;have I:vs.length=n*g:=by rw [←A.1,p]
      have J:=DI (w:=f) P i.cb (i.co+off) vs 0 #[] (fun j v K=>by
       have:=G j v K;simp only [R2];rw [←this];simp [World.cell?,B])
      simp only [Builtin.firstCells,Go.loadCells];rw [←I,J];simp
    |_=>simp [o] at hs
 |sliceEnd b off q a=>
  simp only [Hf,A1] at d;have:n=0:=by omega
  subst this;simp only [Mr] at hs;cases e:Nat.beq g q with
  |false=>simp [e] at hs
  |true=>
   simp only [e,Nat.zero_mul] at hs
   have hl:l=[]:=by
    unfold Ek at hs;cases o:h.blk.get b with
    |none=>simp [o] at hs
    |some y=>
     cases y with
     |cells u c=>
      simp only [o] at hs;cases r:Nat.ble (off+0) u with
      |false=>simp only [r] at hs;cases hs
      |true=>simp only [r,T.range,A1] at hs;exact hs.symm
     |_=>simp [o] at hs
   subst hl;exact ⟨[],VL.nil ρ,by simp,by simp [Builtin.lenOf,d.symm],fun f _=>by simp [Builtin.firstCells,Go.loadCells,loadCellsFrom]⟩
 |str s=>
  simp only [Hf,A1] at d;simp only [Mr] at hs;cases e:Nat.beq g 1 with
  |false=>simp [e] at hs
  |true=>
   simp only [e,A1] at hs;have:=AK e;subst this;subst hs;rw [GN];refine ⟨(s.data.toList.map fun b=>Value.int .u8 (b.toNat:Nat)).take n,(Sq ρ _).take n,by simp at d ⊢;omega,by simp [Builtin.lenOf];simpa using d,fun f _=>?_⟩
   simp only [Builtin.firstCells,CU]
   congr 1
   apply Array.ext';simp [ByteArray.data_extract]
 |_=>simp [Hf] at d
end
end Go.AE
namespace Go.AE
variable [U:Unk]
section
variable {P:Program} {w:World}
inductive YH (P:Program) (w:World) (t' e:TypeId) (inf:TypeInfo) (xv:Value) (m:Nat) (nv:List Value):Prop
 |cells (d:TypeDesc) (hu:P.underlying t'=some d) (hd:(∃e',d=.slice e')∨d=.string) (hl:(Builtin.lenOf xv).run P w=.ok m w)
   (hf:∀w':World,w'.heap=w.heap→(Builtin.firstCells inf.size m xv).run P w'=.ok nv.toArray w')
 |zeros (k k':IntKind) (hu:P.underlying t'=some (.int k)) (hx:xv=.int k' (m:Int)) (hm:m≤1048576) (hb:m*inf.bytes≤140737488355328)
   (z:Value) (hz:inf.zero=some z) (hzs:z.cells.size=inf.size) (hn:nv.toArray=Builtin.zeroCells z.cells m)
theorem Dz (t l ty e:TypeId) (b:TypeInfo) (x:P.underlying t=some (.slice e)) (hi:P.info? e=some b) (y:Value) (m:Nat) (nv:List Value) (hs:YH P w l e b y m nv)
  (c:Option Addr) (f g:Nat) (i:f+m≤g) :
  (Builtin.append_ #[t,l] ty #[.slice c f g,y]).run P w =
   ((match c with|some a=>storeCells (a.add (f*b.size)) nv|none=>pure ()).run P w).andThen fun _ A=>.ok (.slice c (f+m) g) A:=by
 cases hs with
 |cells d n B hl C=>
  have o:=C w rfl;have p:(underlying l).run P w=.ok d w:=by simp [underlying,n]
  have q:(underlying t).run P w=.ok (.slice e) w:=by simp [underlying,x]
  have r:(sizeOf e).run P w=.ok b.size w:=by simp [sizeOf,typeInfo,hi]
  unfold Builtin.append_
  rcases B with ⟨J,rfl⟩|rfl<;>
   simp only [Sf,D1,EQ,B2,q,A2,r,p,E2,ez,hl,if_pos i,fg,if_true,o,CU]<;>
   cases c<;>simp
 |zeros k K n D L M z E s hn=>
  subst D;have F:=M4 m (by omega)
  have G:¬((m:Int)<0):=by omega
  have u:¬((m:Int)*(b.bytes:Int)>2^48):=by
   have:((m*b.bytes:Nat):Int)≤140737488355328:=by omega
   rw [Int.natCast_mul] at this;omega
  have p:(underlying l).run P w=.ok (.int k) w:=by simp [underlying,n]
  have q:(underlying t).run P w=.ok (.slice e) w:=by simp [underlying,x]
  have r:(sizeOf e).run P w=.ok b.size w:=by simp [sizeOf,typeInfo,hi]
  have H:(typeInfo e).run P w=.ok b w:=by simp [typeInfo,hi]
  have I:(zeroValue e).run P w=.ok z w:=by simp [zeroValue,typeInfo,hi,E]
  have j:nv=[]∨m*b.size≠0:=by
   by_cases e0:m*b.size=0
   ·left;have:nv.toArray.size=0:=by rw [hn];simp [Builtin.zeroCells,s,e0]
    simpa using this
   ·exact .inr e0
  unfold Builtin.append_;simp only [Sf,D1,EQ,B2,q,A2,r,p,CU,if_true,asInt,asIntOf,F,if_neg G,H,if_neg u,Int.toNat_natCast,if_pos i,gg,E2,ez];by_cases e0:m*b.size=0
  ·have v:nv=[]:=by
    rcases j with h|h
    ·exact h
    ·exact absurd e0 h
   subst v;rw [if_pos e0];cases c<;>simp [storeCells]
  ·rw [if_neg e0];simp only [B2,I,A2,CU,←hn];cases c<;>simp
theorem Fo (t u ty e:TypeId) (c:TypeInfo) (J:P.underlying t=some (.slice e)) (hi:P.info? e=some c) (z:Value) (p:c.zero=some z) (F:Value) (m:Nat) (nv:List Value) (hs:YH P w u e c F m nv)
  (f:Option Addr) (a b:Nat) (j:b<a+m) (K:a+m≤4611686018427387904) (v:(a+m)*c.bytes≤140737488355328) (ov:Array Value)
  (G:∀x:World,x.heap=w.heap→(Builtin.firstCells c.size a (.slice f a b)).run P x=.ok ov x) :
  ∃l,a+m≤l∧(Builtin.append_ #[t,u] ty #[.slice f a b,F]).run P w =
   .ok (.slice (some ⟨w.heap.size,0,none⟩) (a+m) l) {w with drawn:=w.drawn+1,heap:=w.heap.push (.cells (ov++nv.toArray++Builtin.zeroCells z.cells (l-(a+m))) e)}:=by
 refine ⟨grownCap w (a+m) b e,grownCap_ge w _ _ _,?_⟩;have q:¬(a+m≤b):=by omega
 have g:¬(((a+m:Nat):Int)>IntKind.i64.max):=by simp only [IntKind.max,IntKind.signed,IntKind.bits];omega
 have i:¬(Builtin.nextslicecap (a+m) b*c.bytes>2^48):=by have:=growslice_fits j v;omega
 have n:({w with drawn:=w.drawn+1}:World).heap=w.heap:=rfl
 have H:∀w:World,(underlying t).run P w=.ok (.slice e) w:=fun w=>by simp [underlying,J]
 have I:∀w:World,(sizeOf e).run P w=.ok c.size w:=fun w=>by simp [sizeOf,typeInfo,hi]
 have o:∀w:World,(typeInfo e).run P w=.ok c w:=fun w=>by simp [typeInfo,hi]
 have y:∀w:World,(zeroValue e).run P w=.ok z w:=fun w=>by simp [zeroValue,typeInfo,hi,p]
 have r:(choose (.appendCap (a+m) b e)).run P w=.ok (grownCap w (a+m) b e) {w with drawn:=w.drawn+1}:=by simp [Question.forced,grownCap]
 cases hs with
 |cells d A L hl M=>
  have B:(underlying u).run P w=.ok d w:=by simp [underlying,A]
  unfold Builtin.append_;rcases L with ⟨R,rfl⟩|rfl
  all_goals
   simp only [Sf,D1,EQ,B2,H,A2,I,B,E2,ez,hl,if_neg q,fg,if_true,o,CU];rw [if_neg (fun h=>g h.1)]
   simp only [B2,o,A2];rw [if_neg i];simp only [B2,r,A2,o,run_askRoom,G _ n,M _ n,y,newRow,fc,CU]
 |zeros k S A N T V W s C hn=>
  subst N;rw [p] at s;cases s;have O:=M4 m (by omega)
  have Q:¬((m:Int)<0):=by omega
  have D:¬((m:Int)*(c.bytes:Int)>2^48):=by
   have:((m*c.bytes:Nat):Int)≤140737488355328:=by omega
   rw [Int.natCast_mul] at this;omega
  have B:(underlying u).run P w=.ok (.int k) w:=by simp [underlying,A]
  unfold Builtin.append_;simp only [Sf,D1,EQ,B2,H,A2,I,B,CU,if_true,asInt,asIntOf,O,if_neg Q,o,if_neg D,Int.toNat_natCast,if_neg q,gg,E2,ez];rw [if_neg (fun h=>g h.1)]
  simp only [B2,o,A2];rw [if_neg i];simp only [B2,r,A2,o,run_askRoom,G _ n];by_cases e0:m*c.size=0
  ·rw [if_pos e0]
   have E:nv.toArray = #[]:=by
    rw [hn];apply Array.eq_empty_of_size_eq_zero;simp [Builtin.zeroCells,C,e0]
   simp only [CU,A2,B2,y,newRow,fc,E]
  ·rw [if_neg e0];simp only [CU,A2,B2,y,newRow,fc,hn]
end
end Go.AE
namespace Go.AE
variable [U:Unk]
section
variable {E:Env} (hE:OK E) {ρ:Ren} {h:Aa} {w:World}
include hE
omit hE in
theorem Ms (hr:HR ρ h.blk.get w) (hf:ρ h.nx=none) (e:TypeId) {news olds:List AV} {nv ov:List Value} (hn:VL ρ news nv) (k sLen m cap es:Nat) (hov:ov.length=k) {c:T AV}
  (hc:∀i a,i<k+news.length→c.get i=some a→(∃v,i<k∧ov[i]?=some v∧VR ρ a v)∨(k≤i∧news[i-k]?=some a))
  (rest:Array Value) (hsz:(sLen+m)*es=k+news.length) (hrest:rest.size=(cap-(sLen+m))*es) (hcap:sLen+m≤cap) :
  ∃σ,HR σ (h.new (.cells (k+news.length) c)).blk.get {w with drawn:=w.drawn+1,heap:=w.heap.push (.cells (ov.toArray++nv.toArray++rest) e)}∧
   Ext ρ σ h (h.new (.cells (k+news.length) c)) w {w with drawn:=w.drawn+1,heap:=w.heap.push (.cells (ov.toArray++nv.toArray++rest) e)}∧
   VR σ (.slice h.nx 0 (sLen+m) es) (.slice (some ⟨w.heap.size,0,none⟩) (sLen+m) cap):=by
 have hnl:=hn.1;have hr1:HR ρ h.blk.get {w with drawn:=w.drawn+1}:=hr.same rfl
 have hasz:(ov.toArray++nv.toArray++rest).size=cap*es:=by
  simp only [Array.size_append,List.size_toArray,hov,←hnl,hrest];have:cap*es=(sLen+m)*es+(cap-(sLen+m))*es:=by rw [←ce];congr 1;omega
  omega
 obtain ⟨σ,s1,q1,q2⟩:=hr1.newRow hf e (n:=k+news.length) (c:=c) (ov.toArray++nv.toArray++rest) (by
  simp only [Array.size_append,List.size_toArray,hov,←hnl];omega) (by
  intro i a hi ha;rcases hc i a hi ha with ⟨v,h1,h2,h3⟩|⟨h1,h2⟩
  ·exact ⟨v,by rw [Array.append_assoc,fk (by simp;omega)];simpa using h2,h3⟩
  ·obtain ⟨v,hv,hvr⟩:=hn.get h2;refine ⟨v,?_,hvr⟩;rw [fk (by simp;omega),Array.getElem?_append_right (by simp;omega)]
   simpa [hov] using hv)
 refine ⟨σ,q1,Ext.drawn q2 rfl rfl rfl rfl,?_⟩;have hv:=VR.slice (ρ:=σ) h.nx 0 (sLen+m) es cap _ s1 hcap (by simp only [R2];omega)
 exact hv
theorem KA (hr:HR ρ h.blk.get w) {t C ty e:TypeId} {d:TypeInfo} (K:E.P.underlying t=some (.slice e)) (hi:E.ty.get e=some d) {z:AV} (hz:E.zero e=some z) (ac:z.cells.length=d.size) {s a:AV} {sv D:Value} {m:Nat} {news:List AV} {nv:List Value} {h':Aa}
  (hs:VR ρ s sv) (j:YH E.P w C e d D m nv) (hn:VL ρ news nv) (hnl:news.length=m*d.size) (ha:DP d s m news h=some (a,h')) (hf:Bs ρ h.nx h'.nx) :
  Bj E ρ h h' w (Builtin.append_ #[t,C] ty #[sv,D]) a:=by
 obtain ⟨i',L,i1,i2,i3⟩:=G5 hz;rw [hi] at i1;cases i1;have l:=hE.ty e d hi
 have M:L.cells.size=d.size:=by
  have:=((Bg ρ i3).cells (Cj i3)).1;simp at this;omega
 cases hs with
 |slice0=>
  simp only [DP] at ha;cases hc:(Nat.ble m 4611686018427387904&&Nat.ble (m*d.bytes) 140737488355328) with
  |false=>simp [hc] at ha
  |true=>
   simp only [hc] at ha;obtain ⟨c1,c2⟩:=AC hc;have d1:=Ep c1;have d2:=Ep c2;cases m with
   |zero=>
    simp only [A1,E5] at ha;obtain ⟨rfl,rfl⟩:=ha;refine Bc hr ⟨.slice none 0 0,?_,.slice0⟩;rw [Dz t C ty e d K l D 0 nv j none 0 0 (by omega)]
    rfl
   |succ m=>
    simp only [A1,E5] at ha;obtain ⟨rfl,rfl⟩:=ha;have g:ρ h.nx=none:=hf h.nx (C1 _) (by simp [Cr,Aa.new])
    obtain ⟨cap,k1,k2⟩:=Fo t C ty e d K l L i2 D (m+1) nv j none 0 0 (by omega) (by omega) (by simpa using d2) #[] (fun N _=>by simp [Builtin.firstCells])
    obtain ⟨σ,q1,q2,H⟩:=Ms hr g e (olds:=[]) (ov:=[]) hn 0 0 (m+1) cap d.size rfl (c:=.ofList news) (by
     intro i a hi ha;rw [T.get_ofList] at ha;exact .inr ⟨hP _,by simpa using ha⟩) (Builtin.zeroCells L.cells (cap-(0+(m+1)))) (by simp [hnl]) (by simp [Builtin.zeroCells,M]) k1
    simp only [R2] at q1 q2 H k2;exact ⟨σ,_,_,k2,H,q1,q2⟩
 |slice b off n es cap f X hcap Y=>
  simp only [DP] at ha;cases hc:(Nat.beq d.size es&&E8 news&&Nat.ble (n+m) 4611686018427387904&&Nat.ble ((n+m)*d.bytes) 140737488355328) with
  |false=>simp [hc] at ha
  |true=>
   simp only [hc] at ha;obtain ⟨r,c4⟩:=AC hc;obtain ⟨c12,c3⟩:=AC r;obtain ⟨c1,c2⟩:=AC c12;have d1:=AK c1;have d3:=Ep c3;have d4:=Ep c4;subst d1;cases m with
   |zero=>
    simp only [A1,E5] at ha;obtain ⟨rfl,rfl⟩:=ha
    have O:nv=[]:=by
     have e1:=hn.1;rw [hnl] at e1;simpa using e1.symm
    subst O;refine Bc hr ⟨.slice (some ⟨f.cb,f.co+off,none⟩) n cap,?_,.slice b off n d.size cap f X hcap Y⟩;rw [Dz t C ty e d K l D 0 [] j _ n cap (by omega)]
    simp [storeCells]
   |succ m=>
    simp only [] at ha;cases u:h.blk.get b with
    |none=>simp [u] at ha
    |some y=>
     cases y with
     |cells Q c=>
      simp only [u] at ha
      have x:∃B,a=.slice h.nx 0 (n+(m+1)) d.size∧h'=(h.strike b).new (.cells (n*d.size+news.length) B)∧off+n*d.size≤Q∧
        ∀i a,i<n*d.size+news.length→B.get i=some a→(i<n*d.size∧c.get (off+i)=some a)∨(n*d.size≤i∧news[i-n*d.size]?=some a):=by
       cases R:(Nat.beq off 0&&Nat.beq (n*d.size) Q) with
       |true=>
        simp only [R,A1,E5] at ha;obtain ⟨rfl,rfl⟩:=ha;obtain ⟨I,F⟩:=AC R;have e1:=AK I;have e2:=AK F;subst e1;refine ⟨_,rfl,rfl,by omega,?_⟩
        intro i a hi ha;rw [Gs] at ha;by_cases c:n*d.size≤i∧i<n*d.size+news.length
        ·rw [if_pos c] at ha;exact .inr ⟨c.1,ha⟩
        ·rw [if_neg c] at ha;exact .inl ⟨by omega,by simpa using ha⟩
       |false=>
        simp only [R] at ha;cases hl:Ek h b off (n*d.size) with
        |none=>simp [hl] at ha
        |some olds=>
         simp only [hl,A1,E5] at ha;obtain ⟨rfl,rfl⟩:=ha;unfold Ek at hl;simp only [u] at hl;cases q:Nat.ble (off+n*d.size) Q with
         |false=>simp [q] at hl
         |true=>
          simp only [q] at hl;obtain ⟨l1,l2⟩:=T.range_spec c _ _ _ hl;refine ⟨_,rfl,rfl,Ep q,?_⟩;intro i a hi ha;rw [T.get_ofList] at ha;by_cases c:i<n*d.size
          ·rw [Ea (by omega)] at ha
           exact .inl ⟨c,by rw [l2 i c];exact ha⟩
          ·rw [E3 (by omega),l1] at ha
           exact .inr ⟨by omega,ha⟩
      clear ha;obtain ⟨B,rfl,rfl,ab,G⟩:=x;have g:ρ h.nx=none:=hf h.nx (C1 _) (by simp [Aa.new,Aa.strike])
      obtain ⟨A,e1,Z,r1,r2,r3,r4,r5⟩:=hr.blk b f _ X u;have J:nv.length=(m+1)*d.size:=by rw [←hn.1,hnl]
      have aa:n*d.size≤cap*d.size:=F3 _ hcap;by_cases p:n+(m+1)≤cap
      ·
       have S:(n+(m+1))*d.size≤cap*d.size:=F3 _ p;rw [ce] at S;obtain ⟨N,V,q1,q2,H,q4,q5,q6,q7,q8,q9⟩:=CE E.P f.cb (f.co+off+n*d.size) e1 Z nv 0 w A r1 (by rw [J,r2];omega) (by rw [r2];exact r4) (Iq c2 hn)
       have hx:BR (ρ.upd h.nx ⟨f.cb,f.co+off,f.csz⟩) (.cells (n*d.size+news.length) B) ⟨f.cb,f.co+off,f.csz⟩ N.heap[f.cb]?:=by
        refine ⟨V,e1,Z,q2,by rw [H,r2],?_,r4,?_⟩
        ·show f.co+off+(n*d.size+news.length)≤f.csz;rw [hnl];omega
        ·intro i a hi ha;rw [q4];simp only [S1];rcases G i a hi ha with ⟨I,F⟩|⟨I,F⟩
         ·rw [if_neg (by omega)]
          obtain ⟨v,hv,hvr⟩:=r5 (off+i) a (by omega) F
          exact ⟨v,by rw [←hv];congr 1;omega,hvr.mono (Ren.le_upd g _)⟩
         ·rw [if_pos (by rw [J,←hnl];omega)]
          obtain ⟨v,hv,hvr⟩:=hn.get F;exact ⟨v,by rw [←hv];congr 1;omega,hvr.mono (Ren.le_upd g _)⟩
       obtain ⟨p1,p2⟩:=hr.move X (by rw [u];simp) g (base':=⟨f.cb,f.co+off,f.csz⟩) rfl _ N hx q5 q6 q7 q8 q9
       refine ⟨_,.slice (some ⟨f.cb,f.co+off,none⟩) (n+(m+1)) cap,N,?_,?_,p1,p2⟩
       ·rw [Dz t C ty e d K l D (m+1) nv j _ n cap p];simp only [CG];rw [q1];rfl
       ·have:=VR.slice (ρ:=ρ.upd h.nx ⟨f.cb,f.co+off,f.csz⟩) h.nx 0 (n+(m+1)) d.size cap _ (Ren.upd_same _ _ _) p (by simp only [S1];omega)
        simpa using this
      ·
       have hov:=AQ E.P
       obtain ⟨o,k1,k2⟩:=Fo t C ty e d K l L i2 D (m+1) nv j (some ⟨f.cb,f.co+off,none⟩) n cap (by omega) (by omega) d4 ((A.toList.drop (f.co+off)).take (n*d.size)).toArray (fun N hw=>by
        simp only [Builtin.firstCells];exact AQ E.P N f.cb (f.co+off) (n*d.size) A e1 Z (by rw [hw];exact r1) (by rw [r2];omega))
       obtain ⟨p1,p2⟩:=hr.strike b;have W:((A.toList.drop (f.co+off)).take (n*d.size)).length=n*d.size:=by simp;omega
       obtain ⟨σ,q1,q2,H⟩:=Ms p1 g e (olds:=[]) (ov:=(A.toList.drop (f.co+off)).take (n*d.size)) hn (n*d.size) n (m+1) o d.size W (c:=B) (by
        intro i a hi ha;rcases G i a hi ha with ⟨I,F⟩|⟨I,F⟩
        ·obtain ⟨v,hv,hvr⟩:=r5 (off+i) a (by omega) F
         refine .inl ⟨v,I,?_,hvr⟩;rw [XB,if_pos I,SX,K3,←hv]
         congr 1;omega
        ·exact .inr ⟨I,F⟩) (Builtin.zeroCells L.cells (o-(n+(m+1)))) (by rw [hnl,ce]) (by simp [Builtin.zeroCells,M]) k1
       refine ⟨σ,_,_,k2,H,q1,p2.trans q2 ?_⟩;exact hf
     |_=>simp [u] at ha
 |sliceEnd b off es ad=>
  simp only [DP] at ha;cases hc:(Nat.beq d.size es&&E8 news&&Nat.ble (0+m) 4611686018427387904&&Nat.ble ((0+m)*d.bytes) 140737488355328) with
  |false=>simp only [hc] at ha;cases ha
  |true=>
   simp only [hc] at ha;obtain ⟨r,c4⟩:=AC hc;obtain ⟨c12,c3⟩:=AC r;obtain ⟨c1,c2⟩:=AC c12;have d1:=AK c1;have d3:=Ep c3;have d4:=Ep c4;subst d1;cases m with
   |zero=>
    simp only [A1,E5] at ha;obtain ⟨rfl,rfl⟩:=ha
    have O:nv=[]:=by
     have e1:=hn.1;rw [hnl] at e1;simpa using e1.symm
    subst O;refine Bc hr ⟨.slice (some ad) 0 0,?_,.sliceEnd b off d.size ad⟩;rw [Dz t C ty e d K l D 0 [] j _ 0 0 (by omega)]
    simp [storeCells]
   |succ m=>
    simp only [] at ha;cases u:h.blk.get b with
    |none=>simp [u] at ha
    |some y=>
     cases y with
     |cells Q c=>
      simp only [u] at ha
      have x:∃B,a=.slice h.nx 0 (0+(m+1)) d.size∧h'=(h.strike b).new (.cells (0*d.size+news.length) B)∧
        ∀i a,i<0+news.length→B.get i=some a→news[i]?=some a:=by
       cases R:(Nat.beq off 0&&Nat.beq (0*d.size) Q) with
       |true=>
        simp only [R,A1,E5] at ha;obtain ⟨rfl,rfl⟩:=ha;refine ⟨_,rfl,rfl,?_⟩;intro i a hi ha;rw [Gs] at ha;rw [if_pos (by simp only [Nat.zero_mul];omega)] at ha
        simpa using ha
       |false=>
        simp only [R] at ha;cases hl:Ek h b off (0*d.size) with
        |none=>simp only [hl] at ha;cases ha
        |some olds=>
         simp only [hl,A1,E5] at ha;obtain ⟨rfl,rfl⟩:=ha
         have ho:olds=[]:=by
          unfold Ek at hl;simp only [u,Nat.zero_mul] at hl;cases q:Nat.ble (off+0) Q with
          |false=>simp only [q] at hl;cases hl
          |true=>simp only [q,T.range,A1] at hl;exact hl.symm
         subst ho;refine ⟨_,rfl,rfl,?_⟩;intro i a hi ha;rw [T.get_ofList] at ha;simpa using ha
      clear ha;obtain ⟨B,rfl,rfl,G⟩:=x;have g:ρ h.nx=none:=hf h.nx (C1 _) (by simp [Aa.new,Aa.strike])
      obtain ⟨o,k1,k2⟩:=Fo t C ty e d K l L i2 D (m+1) nv j (some ad) 0 0 (by omega) (by omega) d4 #[] (fun N hw=>by simp [Builtin.firstCells,Go.loadCells,loadCellsFrom])
      obtain ⟨p1,p2⟩:=hr.strike b
      obtain ⟨σ,q1,q2,H⟩:=Ms p1 g e (olds:=[]) (ov:=[]) hn 0 0 (m+1) o d.size rfl (c:=B) (by
       intro i a hi ha;exact .inr ⟨hP _,by simpa using G i a hi ha⟩) (Builtin.zeroCells L.cells (o-(0+(m+1)))) (by simp [hnl]) (by simp [Builtin.zeroCells,M]) k1
      simp only [Nat.zero_mul] at hf ⊢;exact ⟨σ,_,_,k2,H,q1,p2.trans q2 hf⟩
     |_=>simp [u] at ha
 |_=>simp [DP] at ha
theorem MV (hr:HR ρ h.blk.get w) {t t' ty:TypeId} {s x a:AV} {B C:Value} {h':Aa} (hs:VR ρ s B) (G:VR ρ x C) (ha:Js E t t' s x h=some (a,h')) (hf:Bs ρ h.nx h'.nx) :
  Bj E ρ h h' w (Builtin.append_ #[t,t'] ty #[B,C]) a:=by
 unfold Js at ha;cases r:E.desc t with
 |none=>simp [r] at ha
 |some d=>
  cases d with
  |slice e=>
   simp only [r] at ha;cases hi:E.ty.get e with
   |none=>simp [hi] at ha
   |some g=>
    simp only [hi] at ha;cases u:E.zero e with
    |none=>simp [u] at ha
    |some z=>
     simp only [u] at ha;cases l:Nat.beq z.cells.length g.size with
     |false=>simp [l] at ha
     |true=>
     simp only [l] at ha;have j:=AK l
     have f:∀(o:TypeDesc),E.desc t'=some o→((∃D,o=.slice D)∨o=.string)→(match Hf x with
       |none=>none
       |some m=>match Mr h g.size m x with
        |none=>none
        |some news=>DP g s m news h)=some (a,h')→Bj E ρ h h' w (Builtin.append_ #[t,t'] ty #[B,C]) a:=by
      intro o b I y;cases hl:Hf x with
      |none=>simp [hl] at y
      |some m=>
       simp only [hl] at y;cases p:Mr h g.size m x with
       |none=>simp [p] at y
       |some news=>
        simp only [p] at y;obtain ⟨vs,v1,v2,v3,v4⟩:=VB hr E.P G hl (C1 m) p;exact KA hE hr (hE.und r) hi u j hs (.cells o (hE.und b) I v3 v4) v1 v2 y hf
     cases b:E.desc t' with
     |none=>simp [b] at ha
     |some o=>
      cases o with
      |int k=>
       simp only [b] at ha;cases hn:Hj x with
       |none=>simp [hn] at ha
       |some m=>
        simp only [hn] at ha;cases hc:(Nat.ble m 1048576&&Nat.ble (m*g.bytes) 140737488355328) with
        |false=>simp [hc] at ha
        |true=>
         simp only [hc] at ha;obtain ⟨c1,c2⟩:=AC hc;obtain ⟨J,rfl⟩:=FP G hn;obtain ⟨K,q,i1,i2,i3⟩:=G5 u;rw [hi] at i1;cases i1;have H:=(Bg ρ i3).cells (Cj i3);have A:q.cells.size=g.size:=by have:=H.1;simp at this;omega
         have hv:=IN H m q.cells (.inr rfl)
         have F:((Array.range (m*z.cells.length)).map (q.cells[· % q.cells.size]!)).toList.toArray=Builtin.zeroCells q.cells m:=by
          rw [Array.toArray_toList,Builtin.zeroCells,A,j]
         refine KA hE hr (hE.und r) hi u j hs (.zeros k J (hE.und b) rfl (Ep c1) (Ep c2) q i2 A F) hv (by rw [CH,j]) ha hf
      |slice D=>simp only [b] at ha;exact f _ b (.inl ⟨D,rfl⟩) ha
      |string=>simp only [b] at ha;exact f _ b (.inr rfl) ha
      |_=>simp [b] at ha
  |_=>simp [r] at ha
theorem ZY (hr:HR ρ h.blk.get w) {t t' ty:TypeId} {d x a:AV} {C s:Value} {h':Aa} (u:VR ρ d C) (F:VR ρ x s) (ha:Vv E t d x h=some (a,h')) (g:Array TypeId) (y:g[0]?=some t) :
  Bj E ρ h h' w (Builtin.copy_ g ty #[C,s]) a:=by
 unfold Vv at ha;cases q:E.desc t with
 |none=>simp [q] at ha
 |some G=>
  cases G with
  |slice e=>
   simp only [q] at ha;cases hi:E.ty.get e with
   |none=>simp [hi] at ha
   |some j=>
    simp only [hi] at ha;cases hn:Hf d with
    |none=>simp [hn] at ha
    |some n=>
     cases z:Hf x with
     |none=>simp [hn,z] at ha
     |some m=>
      simp only [hn,z] at ha;cases hs:Mr h j.size (min m n) x with
      |none=>simp [hs] at ha
      |some l=>
       simp only [hs] at ha;obtain ⟨vs,v1,v2,v3,v4⟩:=VB hr E.P F z (Nat.min_le_left _ _) hs;have v5:=v4 w rfl
       have f:∀(r:Option Addr) (cap:Nat),(Builtin.copy_ g ty #[.slice r n cap,s]).run E.P w =
         ((match r with|some a=>storeCells a vs|none=>pure ()).run E.P w).andThen fun _ A=>.ok (goInt (min m n:Nat)) A:=by
        intro r cap;unfold Builtin.copy_;simp only [y,Sf,D1,EQ,B2,hE.run_und q,A2,v3,hE.run_sz hi];have:Nat.min m n=min m n:=rfl;rw [this,v5];simp only [A2];cases r<;>simp
       cases u with
       |slice0=>
        simp only [Hf,A1] at hn;subst hn;simp only [A1,E5] at ha;obtain ⟨rfl,rfl⟩:=ha;refine Bc hr ⟨goInt (min m 0:Nat),by rw [f none 0];simp,?_⟩
        rw [Nat.min_zero];exact .int _ _
       |slice b off k es cap D H hcap L=>
        simp only [Hf,A1] at hn;subst hn;simp only [] at ha;cases p:Nat.beq j.size es with
        |false=>simp [p] at ha
        |true=>
         simp only [p] at ha;cases l with
         |nil=>
          simp only [A1,E5] at ha;obtain ⟨rfl,rfl⟩:=ha;have:=v1.nil_inv;subst this;exact Bc hr ⟨goInt (min m k:Nat),by rw [f];simp [storeCells],.int _ _⟩
         |cons I J=>
          simp only [] at ha;cases o:storeN h b off (I::J) with
          |none=>simp [o] at ha
          |some h2=>
           simp only [o,A1,E5] at ha;obtain ⟨rfl,rfl⟩:=ha;obtain ⟨A,q1,q2,K⟩:=hr.storeN E.P H v1 o;exact ⟨ρ,goInt (min m k:Nat),A,by rw [f];simp only [];rw [q1];rfl,.int _ _,q2,K⟩
       |sliceEnd b off es ad=>
        simp only [Hf,A1] at hn;subst hn;simp only [] at ha;cases p:Nat.beq j.size es with
        |false=>simp [p] at ha
        |true=>
         simp only [p] at ha
         have B:l=[]:=by
          rw [Nat.min_zero,Nat.zero_mul] at v2;exact F0 v2
         subst B;simp only [A1,E5] at ha;obtain ⟨rfl,rfl⟩:=ha;have:=v1.nil_inv;subst this;exact Bc hr ⟨goInt (min m 0:Nat),by rw [f];simp [storeCells],.int _ _⟩
       |_=>simp at ha
  |_=>simp [q] at ha
end
end Go.AE
namespace Go.AE
variable [U:Unk]
section
variable {E:Env} (hE:OK E) {ρ:Ren} {w:World}
include hE
theorem KQ {d:Nat} (o:∀(t:TypeId) (x y:AV) (r:Bool) (p q:Value),aeq E d t x y=some r→VR ρ x p→VR ρ y q→(Op.equalIn d t p q).run E.P w=.ok r w)
  {j k:List AV} {c e:List Value} (s:VL ρ j c) (u:VL ρ k e):∀{l:List Field} {r:Bool},eqFields E (aeq E d) j k l=some r→
  (Op.eqFields d c.toArray e.toArray l).run E.P w=.ok r w
 |[],r,h=>by simp only [eqFields,A1] at h;subst h;simp [Op.eqFields]
 |f::l,r,h=>by
  simp only [eqFields] at h;cases hn:(f.name == "_") with
  |true=>simp [hn] at h
  |false=>
   simp only [hn] at h;have m:f.name≠ "_":=by simpa using hn
   cases g:D0 E f.type j f.offset with
   |none=>simp [g] at h
   |some a=>
    cases n:D0 E f.type k f.offset with
    |none=>simp [g,n] at h
    |some b=>
     simp only [g,n] at h;obtain ⟨F,v,z⟩:=hE.run_part g s w;obtain ⟨G,A,B⟩:=hE.run_part n u w;cases i:aeq E d f.type a b with
     |none=>simp [i] at h
     |some C=>
      have D:=o _ _ _ _ _ _ i z B;simp only [Op.eqFields,ne_eq,m,not_false_eq_true,if_true,B2,v,A,D,A2];cases C with
      |true=>simp only [i] at h;simp only [gg,E2,ez];exact KQ o s u h
      |false=>simp only [i,A1] at h;subst h;simp
theorem NH {d:Nat} (p:∀(t:TypeId) (x y:AV) (r:Bool) (q s:Value),aeq E d t x y=some r→VR ρ x q→VR ρ y s→(Op.equalIn d t q s).run E.P w=.ok r w)
  {l m:List AV} {c f:List Value} (u:VL ρ l c) (v:VL ρ m f) {e:TypeId} {n:Nat}:∀{k i:Nat} {r:Bool},Ji E (aeq E d) e n l m k i=some r→
  (Op.eqItems d e n c.toArray f.toArray (List.range' i k)).run E.P w=.ok r w
 |0,i,r,h=>by simp only [Ji,A1] at h;subst h;simp [Op.eqItems]
 |k+1,i,r,h=>by
  simp only [Ji] at h;cases g:D0 E e l (i*n) with
  |none=>simp [g] at h
  |some a=>
   cases o:D0 E e m (i*n) with
   |none=>simp [g,o] at h
   |some b=>
    simp only [g,o] at h;obtain ⟨G,z,A⟩:=hE.run_part g u w;obtain ⟨H,B,C⟩:=hE.run_part o v w;cases j:aeq E d e a b with
    |none=>simp [j] at h
    |some D=>
     have F:=p _ _ _ _ _ _ j A C;simp only [List.range'_succ,Op.eqItems,B2,z,B,F,A2];cases D with
     |true=>simp only [j] at h;simp only [gg,E2,ez];exact NH p u v h
     |false=>simp only [j,A1] at h;subst h;simp
set_option maxHeartbeats 1000000 in
theorem T7:∀(d:Nat) (t:TypeId) (x y:AV) (r:Bool) (p q:Value),aeq E d t x y=some r→VR ρ x p→VR ρ y q→(Op.equalIn d t p q).run E.P w=.ok r w:=by
 intro d
 induction d with
 |zero=>intro t x y r p q h;simp [aeq] at h
 |succ d A=>
  intro t x y r p q h f c;simp only [aeq] at h;cases n:E.desc t with
  |none=>rw [n] at h;cases h
  |some G=>
   rw [n] at h;have g:=hE.run_und n w;have fin:∀b:Bool,some b=some r→b=r:=fun b e=>by simpa using e
   cases G with
   |bool=>
    cases f<;>first | (cases h;done)|skip
    cases c<;>first | (cases h;done)|skip
    rw [←fin _ h];simp [Op.equalIn,g]
   |int M=>
    cases f<;>first | (cases h;done)|skip
    cases c<;>first | (cases h;done)|skip
    rename_i k a H b;by_cases F:k=H
    ·subst F;simp only [B5,A1] at h;subst h;simp [Op.equalIn,g]
    ·simp [F] at h
   |string=>
    cases f<;>first | (cases h;done)|skip
    cases c<;>first | (cases h;done)|skip
    rename_i s N;simp only [A1] at h;subst h;rw [CS];simp only [Op.equalIn,B2,g,A2,CU];rw [beq_toListBytes]
   |pointer e=>
    cases f<;>first | (cases h;done)|skip
    all_goals
     cases c<;>first | (cases h;done)|skip
    all_goals (rw [←fin _ h];simp [Op.equalIn,g])
   |interface O=>
    cases f<;>first | (cases h;done)|skip
    ·rename_i tx a v I;cases c<;>first | (cases h;done)|skip
     ·rename_i ty b Q B;simp only [] at h;cases u:Nat.beq tx ty with
      |false=>
       simp only [u,A1] at h;subst h;have:=ZX u;simp [Op.equalIn,g,this]
      |true=>
       simp only [u] at h;have:=AK u;subst this;cases hi:E.ty.get tx with
       |none=>simp [hi] at h
       |some i=>
        simp only [hi] at h;cases C:i.comparable with
        |false=>simp [C] at h
        |true=>
         simp only [C] at h;have:=A _ _ _ _ _ _ h I B;simp [Op.equalIn,g,hE.run_info hi,C,this]
     ·rw [←fin _ h];simp [Op.equalIn,g]
    ·cases c<;>first | (cases h;done)|skip
     all_goals (rw [←fin _ h];simp [Op.equalIn,g])
   |struct J=>
    cases f<;>first | (cases h;done)|skip
    cases c<;>first | (cases h;done)|skip
    rename_i K l a1 a2 L m b1 b2;simp only [] at h;cases hs:E.P.stoodInHeld t with
    |true=>simp [hs] at h
    |false=>
     simp only [hs] at h;have j:=hE.und n;have o:E.P.fieldsOf t=J:=by simp [Program.fieldsOf,j]
     rw [run_equalIn_struct w d t l.toArray m.toArray (by rw [o];exact j) hs,o]
     exact KQ hE A ⟨a1,a2⟩ ⟨b1,b2⟩ h
   |array len e=>
    cases f<;>first | (cases h;done)|skip
    cases c<;>first | (cases h;done)|skip
    rename_i K l a1 a2 L m b1 b2;simp only [] at h;cases z:E.has e with
    |false=>simp [z] at h
    |true=>
     simp only [z] at h;unfold Env.has at z;cases hi:E.ty.get e with
     |none=>simp [hi] at z
     |some i=>
      have D:E.P.cellsOf e=E.size e:=by simp [Program.cellsOf,hE.ty e i hi,Env.size,hi]
      rw [run_equalIn_array w d l.toArray m.toArray (hE.und n) (hE.ty e i hi),D,List.range_eq_range'];exact NH hE A ⟨a1,a2⟩ ⟨b1,b2⟩ h
   |slice e=>
    cases f<;>first | (cases h;done)|skip
    all_goals
     cases c<;>first | (cases h;done)|skip
    all_goals (rw [←fin _ h];simp [Op.equalIn,g])
   |map k e=>
    cases f<;>first | (cases h;done)|skip
    all_goals
     cases c<;>first | (cases h;done)|skip
    all_goals (rw [←fin _ h];simp [Op.equalIn,g])
   |func R S v=>
    cases f<;>first | (cases h;done)|skip
    all_goals
     cases c<;>first | (cases h;done)|skip
    all_goals (rw [←fin _ h];simp [Op.equalIn,g])
   |_=>cases f<;>first | (cases h;done) | (cases c<;>(cases h;done))
end
end Go.AE
namespace Go.AE
variable [U:Unk]
theorem D9 (k:IntKind) (x:Int):(BitVec.ofInt k.bits x).toNat=bits k x:=by
 simp [bits,BitVec.toNat_ofInt]
section
variable {E:Env} (hE:OK E) {ρ:Ren} {h:Aa} {w:World}
theorem JW {f:BinOp} {k:IntKind} {a b:Int} {r:AV} (t:TypeId) (hs:f≠.shl) (g:f≠.shr) (c:D7 f k a b=some r) :
    ∃v,(binOp f t (.int k a) (.int k b)).run E.P w=.ok v w∧VR ρ r v:=by
  cases f<;>simp only [D7] at c<;>first | (cases c;done)|skip
  case quo=>
    cases d:(b==0) with
    |true=>simp [d] at c
    |false=>
      simp only [d,A1] at c;have:b≠0:=by simpa using d
      subst c;exact ⟨_,by simp [binOp,Op.intDiv,this],.int _ _⟩
  case rem=>
    cases d:(b==0) with
    |true=>simp [d] at c
    |false=>
      simp only [d,A1] at c;have:b≠0:=by simpa using d
      subst c;exact ⟨_,by simp [binOp,Op.intDiv,this],.int _ _⟩
  case and=>
    simp only [A1] at c;subst c;refine ⟨_,by simp only [binOp,Op.intBits,ne_eq,not_true_eq_false,ez,CU];rfl,?_⟩
    rw [BitVec.toNat_and,D9,D9];exact .int _ _
  case or=>
    simp only [A1] at c;subst c;refine ⟨_,by simp only [binOp,Op.intBits,ne_eq,not_true_eq_false,ez,CU];rfl,?_⟩
    rw [BitVec.toNat_or,D9,D9];exact .int _ _
  case xor=>
    simp only [A1] at c;subst c;refine ⟨_,by simp only [binOp,Op.intBits,ne_eq,not_true_eq_false,ez,CU];rfl,?_⟩
    rw [BitVec.toNat_xor,D9,D9];exact .int _ _
  all_goals
    simp only [A1] at c;subst c;refine ⟨_,by simp only [binOp,Op.intArith,Op.intCmp,ne_eq,not_true_eq_false,ez,CU];rfl,?_⟩
    first
      |exact .int _ _
      |exact .bool _
      | (rename_i pos e;have h:=VR.sb (ρ:=ρ) (!pos) e;have i:(!(Ah U.V e==pos))=(Ah U.V e == !pos):=by cases Ah U.V e<;>cases pos<;>rfl
         rw [i];exact h)
theorem OD (d:Nat) (t:TypeId) (x y:AV) (a:x.isSym=true):aeq E d t x y=none:=by
 cases d with
 |zero=>rfl
 |succ d=>
  simp only [aeq];cases E.desc t with
  |none=>rfl
  |some b=>cases x<;>first | (cases a;done) | (cases b<;>rfl)
theorem OM (d:Nat) (t:TypeId) (x y:AV) (a:y.isSym=true):aeq E d t x y=none:=by
 cases d with
 |zero=>rfl
 |succ d=>
  simp only [aeq];cases E.desc t with
  |none=>rfl
  |some b=>cases y<;>first | (cases a;done) | (cases b<;>cases x<;>rfl)
theorem Xm {d:BinOp} {k k':IntKind} {a b:Int} {r:AV} (t:TypeId) (hs:d=.shl∨d=.shr) (c:Nz d k a b=some r) :
  ∃v,(binOp d t (.int k a) (.int k' b)).run E.P w=.ok v w∧VR ρ r v:=by
 unfold Nz at c;by_cases e:b<0
 ·simp [e] at c
 ·simp only [e,j0] at c;rcases hs with rfl|rfl
  ·simp only [A1] at c;subst c;exact ⟨_,by simp only [binOp,Op.shift,e,ez,CU],.int _ _⟩
  ·simp only [A1] at c;subst c;exact ⟨_,by simp only [binOp,Op.shift,e,ez,CU],.int _ _⟩
theorem OC {e:BinOp} {s a:ByteArray} {r:AV} (t:TypeId) (c:P2 e s.data.toList.length (AL s.data.toList) a.data.toList.length (AL a.data.toList)=some r) :
  ∃v,(binOp e t (.string s) (.string a)).run E.P w=.ok v w∧VR ρ r v:=by
 have b:=PV (s.data.toList.length+1) s.data.toList a.data.toList (Nat.lt_succ_self _);have e1:=ie s;have g:=ie a;cases e<;>simp only [P2] at c<;>first | (cases c;done)|skip
 case add=>
  cases f:Nat.ble (s.data.toList.length+a.data.toList.length) 4611686018427387904 with
  |false=>simp only [f] at c;cases c
  |true=>
   simp only [f,A1] at c;subst c;have k:=Ep f;have l:s.size=s.data.toList.length:=by simp
   have i:a.size=a.data.toList.length:=by simp
   refine ⟨.string (s++a),?_,?_⟩
   ·have d:¬(((s.size+a.size:Nat):Int)>IntKind.i64.max):=by
     simp only [IntKind.max,IntKind.signed,IntKind.bits];omega
    simp only [binOp,Op.stringOp];rw [if_neg d];rfl
   ·have j:=VR.str (ρ:=ρ) (s++a);have m:(s++a).data.toList=s.data.toList++a.data.toList:=by simp [ByteArray.data_append]
    rw [m,L1,Gk,←TB] at j;exact j
 all_goals
  simp only [A1] at c;subst c;refine ⟨_,by simp only [binOp,Op.stringOp,CU];rfl,?_⟩
  first
   | (rw [CS];exact .bool _)
   | (rw [b,CS,e1,g];exact .bool _)
   | (rw [b,e1,g];exact .bool _)
theorem jJ {b:UnOp} {x r:AV} {c:Value} (d:VR ρ x c) (a:unA b x=some r):∃v,(Op.unary b c).run E.P w=.ok v w∧VR ρ r v:=by
  cases b<;>cases d<;>simp only [unA] at a<;>first | (cases a;done)|skip
  all_goals
    simp only [A1] at a;subst a;refine ⟨_,by simp only [Op.unary,Op.intArith,CU];rfl,?_⟩
    first
      |exact .int _ _
      |exact .bool _
      | (rename_i pos e;have h:=VR.sb (ρ:=ρ) (!pos) e;have f:(!(Ah U.V e==pos))=(Ah U.V e == !pos):=by cases Ah U.V e<;>cases pos<;>rfl
         rw [f];exact h)
theorem Co {e:BinOp} {t:TypeId} {x y:Operand} {a b:Value} (f:¬(a=.nilIface∧b=.nilIface)) (g:(∃c,a=.agg c)→(∃d,b=.agg d)→E.P.eqGuardType E.P.depth t=false) :
  (eqGuard e t x y a b).run E.P w=.ok () w:=by
 unfold eqGuard;cases e<;>(try (simp;done))
 all_goals
  cases a<;>cases b<;>first
   | (simp;done)
   | (exact absurd ⟨rfl,rfl⟩ f)
   | (rename_i c d;simp [g ⟨c,rfl⟩ ⟨d,rfl⟩])
theorem Px (d:Nat) (t:TypeId) (y:AV):aeq E d t .top y=none:=by
 cases d with
 |zero=>rfl
 |succ d=>
  simp only [aeq];cases E.desc t with
  |none=>rfl
  |some a=>cases a<;>rfl
theorem Oj (d:Nat) (t:TypeId) (x:AV):aeq E d t x .top=none:=by
 cases d with
 |zero=>rfl
 |succ d=>
  simp only [aeq];cases E.desc t with
  |none=>rfl
  |some a=>cases a<;>cases x<;>rfl
theorem EN (t:TypeId) (e f:Value) (i:¬∃k a g b,e=.int k a∧f=.int g b) (j:¬∃k a g b,e=.float k a∧f=.float g b) (l:¬∃k a b g c d,e=.complex k a b∧f=.complex g c d) (m:¬∃a b,e=.string a∧f=.string b) :
  binOp .eql t e f=(do pure (.bool (←Op.equal t e f)))∧binOp .neq t e f=(do pure (.bool (!(←Op.equal t e f)))):=by
 cases e<;>cases f<;>first
  |exact ⟨rfl,rfl⟩
  |exact absurd ⟨_,_,_,_,rfl,rfl⟩ i
  |exact absurd ⟨_,_,_,_,rfl,rfl⟩ j
  |exact absurd ⟨_,_,_,_,_,_,rfl,rfl⟩ l
  |exact absurd ⟨_,_,rfl,rfl⟩ m
include hE
theorem ac {t:TypeId} {x y:AV} {j m:Value} {b:Bool} (n:VR ρ x j) (q:VR ρ y m) (f:aeq E 10000 t x y=some b) (hi:¬∃k a k' b,x=.int k a∧y=.int k' b) (hs:¬∃l a r b,x=.str l a∧y=.str r b) :
  (binOp .eql t j m).run E.P w=.ok (.bool b) w∧(binOp .neq t j m).run E.P w=.ok (.bool (!b)) w:=by
 have g:x≠.top:=by rintro rfl;rw [Px] at f;cases f
 have o:y≠.top:=by rintro rfl;rw [Oj] at f;cases f
 have p:=T7 (w:=w) hE 10000 t x y b j m f n q
 obtain ⟨s,u⟩:=EN t j m (by
   rintro ⟨k,a,k',c,rfl,rfl⟩
   cases n with
   |top=>exact g rfl
   |si k e=>rw [OD _ _ _ _ rfl] at f;cases f
   |int=>cases q with
    |top=>exact o rfl
    |si k e=>rw [OM _ _ _ _ rfl] at f;cases f
    |int=>exact hi ⟨_,_,_,_,rfl,rfl⟩) (by
   rintro ⟨k,a,k',c,rfl,rfl⟩
   cases n;exact g rfl) (by
   rintro ⟨k,a,v,k',c,d,rfl,rfl⟩
   cases n;exact g rfl) (by
   rintro ⟨a,c,rfl,rfl⟩
   cases n with
   |top=>exact g rfl
   |ss i=>rw [OD _ _ _ _ rfl] at f;cases f
   |str=>cases q with
    |top=>exact o rfl
    |ss i=>rw [OM _ _ _ _ rfl] at f;cases f
    |str=>exact hs ⟨_,_,_,_,rfl,rfl⟩)
 rw [s,u];simp only [Op.equal,Op.maxDepth,B2,p,A2,CU];exact ⟨trivial,trivial⟩
theorem Wu {c:BinOp} {t:TypeId} {ox oy:Operand} {x y r:AV} {p q:Value} (z:VR ρ x p) (A:VR ρ y q) (d:TP E c t x y=some r) :
  ∃v,(do eqGuard c t ox oy p q;binOp c t p q:Sem Value).run E.P w=.ok v w∧VR ρ r v:=by
 have f:(¬∃k a k' b,x=.int k a∧y=.int k' b)→(¬∃l a l' b,x=.str l a∧y=.str l' b)→(¬(x=.nilIface∧y=.nilIface))→((∃B,x=.agg B)→(∃I,y=.agg I)→E.P.eqGuardType E.P.depth t=false)→
   (match c with
    |.eql=>(aeq E 10000 t x y).map AV.bool
    |.neq=>(aeq E 10000 t x y).map fun b=>AV.bool (!b)
    |_=>none)=some r→∃v,(do eqGuard c t ox oy p q;binOp c t p q:Sem Value).run E.P w=.ok v w∧VR ρ r v:=by
  intro J K O Q u
  have L:∃b,aeq E 10000 t x y=some b:=by
   cases j:aeq E 10000 t x y with
   |some b=>exact ⟨b,rfl⟩
   |none=>cases c<;>simp [j] at u
  obtain ⟨b,j⟩:=L;have C:x≠.top:=by rintro rfl;rw [Px] at j;cases j
  have D:y≠.top:=by rintro rfl;rw [Oj] at j;cases j
  have m:(eqGuard c t ox oy p q).run E.P w=.ok () w:=Co (by
    rintro ⟨rfl,rfl⟩
    cases z with
    |top=>exact C rfl
    |nilIface=>cases A with
     |top=>exact D rfl
     |nilIface=>exact O ⟨rfl,rfl⟩) (by
    rintro ⟨B,rfl⟩ ⟨I,rfl⟩
    cases z with
    |top=>exact absurd rfl C
    |agg=>cases A with
     |top=>exact absurd rfl D
     |agg=>exact Q ⟨_,rfl⟩ ⟨_,rfl⟩)
  obtain ⟨n,o⟩:=ac (w:=w) hE z A j J K;rw [j] at u;cases c<;>simp only [X8,A1] at u<;>first | (cases u;done)|skip
  ·subst u;exact ⟨_,by simp only [B2,m,A2,n],.bool _⟩
  ·subst u;exact ⟨_,by simp only [B2,m,A2,o],.bool _⟩
 have F:∀{a b:Value},(¬(a=.nilIface∧b=.nilIface))→(¬∃B,a=.agg B)→(eqGuard c t ox oy a b).run E.P w=.ok () w:=
  fun J K=>Co J (fun h _=>absurd h K)
 cases x with
 |int k a=>
  cases y with
  |int k' b=>
   cases z;cases A;have m:=F (a:=.int k a) (b:=.int k' b) (by simp) (by simp)
   by_cases i:c=.shl∨c=.shr
   ·have g:Nz c k a b=some r:=by rcases i with rfl|rfl<;>simpa [TP] using d
    obtain ⟨v,n,o⟩:=Xm (E:=E) (w:=w) (ρ:=ρ) (k':=k') t i g;exact ⟨v,by simp only [B2,m,A2,n],o⟩
   ·have G:c≠.shl:=fun e=>i (.inl e)
    have H:c≠.shr:=fun e=>i (.inr e)
    have g:(match decide (k=k') with|true=>D7 c k a b|false=>none)=some r:=by
     cases c<;>first|exact d|exact absurd rfl G|exact absurd rfl H
    by_cases N:k=k'
    ·subst N;simp only [B5] at g;obtain ⟨v,n,o⟩:=JW (E:=E) (w:=w) (ρ:=ρ) t G H g;exact ⟨v,by simp only [B2,m,A2,n],o⟩
    ·simp [N] at g
  |_=>exact f (by simp) (by simp) (by simp) (by simp) (by cases c<;>exact d)
 |str l a=>
  cases y with
  |str l' b=>
   cases z;cases A;rename_i s R;have m:=F (a:=.string s) (b:=.string R) (by simp) (by simp)
   simp only [TP] at d;obtain ⟨v,n,o⟩:=OC (E:=E) (w:=w) (ρ:=ρ) t d;exact ⟨v,by simp only [B2,m,A2,n],o⟩
  |_=>exact f (by simp) (by simp) (by simp) (by simp) (by cases c<;>exact d)
 |agg B=>
  cases y with
  |agg I=>
   simp only [TP] at d;cases M:E.P.eqGuardType E.P.depth t with
   |true=>simp [M] at d
   |false=>simp only [M] at d;exact f (by simp) (by simp) (by simp) (fun _ _=>M) (by cases c<;>exact d)
  |_=>exact f (by simp) (by simp) (by simp) (by simp) (by cases c<;>exact d)
 |nilIface=>
  cases y with
  |nilIface=>simp [TP] at d
  |_=>exact f (by simp) (by simp) (by simp) (by simp) (by cases c<;>exact d)
 |_=>exact f (by simp) (by simp) (by simp) (by simp) (by cases c<;>exact d)
end
end Go.AE
namespace Go.AE
theorem SE.same_eq {a b:SE} (h:a.same b=true):a=b:=by
 induction a generalizing b<;>cases b<;>simp only [SE.same,B1,F4,beq_iff_eq,E2,Nat.beq_eq] at h<;>grind
theorem fW {a b:Fn} (h:jv a b=true):a=b:=by
 cases a<;>cases b<;>simp_all [jv]
mutual
theorem HQ:∀(a b:AV),BO a b=true→a=b
 |.top,b,h=>by cases b<;>simp_all [BO]
 |.bool _,b,h=>by cases b<;>simp_all [BO]
 |.int _ _,b,h=>by cases b<;>simp_all [BO]
 |.str _ _,b,h=>by cases b<;>simp_all [BO]
 |.ptr0,b,h=>by cases b<;>simp_all [BO]
 |.ptr _ _,b,h=>by cases b<;>simp_all [BO]
 |.slice0,b,h=>by cases b<;>simp_all [BO]
 |.slice _ _ _ _,b,h=>by cases b<;>simp_all [BO]
 |.map0,b,h=>by cases b<;>simp_all [BO]
 |.map _,b,h=>by cases b<;>simp_all [BO]
 |.func fn f c,b,h=>by
  cases b with
  |func i j o=>
   simp only [BO,B1] at h;rw [fW h.1.1,FE f j h.1.2,FE c o h.2]
  |_=>simp [BO] at h
 |.nilFunc,b,h=>by cases b<;>simp_all [BO]
 |.iface t v,b,h=>by
  cases b with
  |iface q r=>
   simp only [BO,B1] at h;rw [F7 h.1,HQ v r h.2]
  |_=>simp [BO] at h
 |.nilIface,b,h=>by cases b<;>simp_all [BO]
 |.agg l,b,h=>by
  cases b with
  |agg g=>
   simp only [BO] at h;rw [FE l g h]
  |_=>simp [BO] at h
 |.tuple l,b,h=>by
  cases b with
  |tuple g=>
   simp only [BO] at h;rw [FE l g h]
  |_=>simp [BO] at h
 |.sb p e,b,h=>by
  cases b with
  |sb y d=>
   simp only [BO,B1] at h;rw [eq_of_beq h.1,SE.same_eq h.2]
  |_=>simp [BO] at h
 |.si k e,b,h=>by
  cases b with
  |si z d=>
   simp only [BO,B1,F4] at h;rw [h.1,SE.same_eq h.2]
  |_=>simp [BO] at h
 |.ss e,b,h=>by
  cases b with
  |ss d=>
   simp only [BO] at h;rw [SE.same_eq h]
  |_=>simp [BO] at h
 |.dat t e,b,h=>by
  cases b with
  |dat q d=>
   simp only [BO,B1] at h;rw [F7 h.1,SE.same_eq h.2]
  |_=>simp [BO] at h
 |.dptr _ _ _ _,b,h=>by cases b<;>simp [BO] at h
 |.asl s A n nl,b,h=>by
  cases b with
  |asl u w B x=>
   simp only [BO,B1] at h;rw [F7 h.1.1.1,F7 h.1.1.2,SE.same_eq h.1.2,SE.same_eq h.2]
  |_=>simp [BO] at h
 |.eslc e,b,h=>by
  cases b with
  |eslc d=>
   simp only [BO] at h;rw [SE.same_eq h]
  |_=>simp [BO] at h
 |.aptr _ _ _ _,b,h=>by cases b<;>simp [BO] at h
 |.nmap s e,b,h=>by
  cases b with
  |nmap u d=>
   simp only [BO,B1] at h;rw [F7 h.1,SE.same_eq h.2]
  |_=>simp [BO] at h
theorem FE:∀(a b:List AV),If a b=true→a=b
 |[],b,h=>by cases b<;>simp_all [If]
 |a::l,b,h=>by
  cases b with
  |nil=>simp [If] at h
  |cons b m=>
   simp only [If,B1] at h;rw [HQ a b h.1,FE l m h.2]
end
theorem YQ {c:Type} {d:c→c→Bool} (e:∀a b,d a b=true→a=b) {a b:Option c} (h:eqO d a b=true):a=b:=by
 cases a<;>cases b<;>simp [eqO] at h ⊢
 exact e _ _ h
theorem Um {c:Type} {e:c→c→Bool} (d:∀a b,e a b=true→a=b):∀(a b:T c),eqT e a b=true→a=b
 |.nil,.nil,_=>rfl
 |.node v l r,.node i f g,h=>by
  simp only [eqT,B1] at h;rw [YQ d h.1.1,Um d l f h.1.2,Um d r g h.2]
 |.nil,.node _ _ _,h=>by simp [eqT] at h
 |.node _ _ _,.nil,h=>by simp [eqT] at h
theorem U2:∀(a b:List A0),Xs a b=true→a=b
 |[],[],_=>rfl
 |a::l,b::m,h=>by
  simp only [Xs,B1] at h;obtain ⟨⟨⟨c,d⟩,e⟩,f⟩:=h;cases a;cases b;simp only at c d e;rw [HQ _ _ c,HQ _ _ d,F7 e,U2 l m f]
 |[],_::_,h=>by simp [Xs] at h
 |_::_,[],h=>by simp [Xs] at h
theorem Rh {a b:Aj} (h:VJ a b=true):a=b:=by
 cases a<;>cases b<;>simp only [VJ,B1,E2] at h
 ·rw [F7 h.1,Um HQ _ _ h.2]
 ·rw [F7 h.1,SE.same_eq h.2]
 ·rw [F7 h.1,U2 _ _ h.2]
 ·rw [F7 h.1.1,F7 h.1.2,SE.same_eq h.2]
variable [U:Unk]
section
variable {V:Val} {a b:SE}
theorem CB {n:Int}:Af V (.c n)=n:=rfl
theorem Md {k:IntKind}:Af V (.conv k a)=k.wrap (Af V a):=rfl
theorem Hl {c:BinOp} {k:IntKind}:Af V (.arith c k a b)=match D7 c k (Af V a) (Af V b) with
  |some (.int _ n)=>n
  |_=>0:=rfl
theorem EZ:Af V (.lenS a)=((Ba V a).data.toList.length:Nat):=rfl
theorem As:Af V (.lenL a)=((Ab V a).rows.length:Nat):=rfl
theorem AB:Ah V (.lss a b)=decide (Af V a<Af V b):=rfl
theorem Cw:Ah V (.eql a b)=(Af V a==Af V b):=rfl
theorem WX {l c:Nat}:Ah V (.eqS a l c)=strEq (Ba V a).data.toList.length (AL (Ba V a).data.toList) l c:=rfl
theorem No:Ah V (.eqSS a b)=strEq (Ba V a).data.toList.length (AL (Ba V a).data.toList) (Ba V b).data.toList.length (AL (Ba V b).data.toList):=rfl
end
theorem SE.same_ok {a b:SE} (h:a.same b=true):a=b:=by
 induction a generalizing b<;>cases b<;>simp only [SE.same,B1,F4,beq_iff_eq,E2,Nat.beq_eq] at h<;>grind
theorem SB.same_ok {a b:SB} (h:a.same b=true):a=b:=SE.same_ok h
def LoB (o:Option Int) (n:Int):Prop:=∀l,o=some l→l≤n
def HiB (o:Option Int) (n:Int):Prop:=∀l,o=some l→n≤l
theorem LoB.max {a b:Option Int} {n:Int} (h:LoB a n) (k:LoB b n):LoB (R6 a b) n:=by
 intro l hl;unfold R6 at hl;split at hl
 ·rename_i a b;have r:=h a rfl;have C:=k b rfl;cases j:decide (a≤b)<;>rw [j] at hl<;>cases hl<;>assumption
 ·exact h l hl
 ·exact k l hl
theorem HiB.min {a b:Option Int} {n:Int} (h:HiB a n) (k:HiB b n):HiB (XH a b) n:=by
 intro l hl;unfold XH at hl;split at hl
 ·rename_i a b;have r:=h a rfl;have C:=k b rfl;cases j:decide (a≤b)<;>rw [j] at hl<;>cases hl<;>assumption
 ·exact h l hl
 ·exact k l hl
theorem LoB.some {a n:Int} (h:a≤n):LoB (some a) n:=fun l hl=>by cases hl;exact h
theorem HiB.some {a n:Int} (h:n≤a):HiB (some a) n:=fun l hl=>by cases hl;exact h
theorem LoB.none {n:Int}:LoB none n:=fun l hl=>by cases hl
theorem HiB.none {n:Int}:HiB none n:=fun l hl=>by cases hl
theorem WP {V:Val} {e:SE} {p:SB×Bool} (hp:Ah V p.1=p.2):LoB (UL e p) (Af V e):=by
 intro l hl;obtain ⟨x,b⟩:=p
 have d:∀{a:SE} {r:Int},(match a.same e with|true=>some r|false=>none)=some l→a=e∧l=r:=by
  intro a r h;split at h
  ·rename_i hs;cases h;exact ⟨SE.same_ok hs,rfl⟩
  ·cases h
 unfold UL at hl;split at hl<;>first | (cases hl;done)|skip
 all_goals
  rename_i a m c;obtain ⟨rfl,rfl⟩:=d hl;cases c;simp [AB,Cw,CB] at hp
  first|omega | (have:=of_decide_eq_false hp;omega) | (have:=hZ hp;omega)
theorem W2 {V:Val} {e:SE} {p:SB×Bool} (hp:Ah V p.1=p.2):HiB (Tj e p) (Af V e):=by
 intro l hl;obtain ⟨x,b⟩:=p
 have d:∀{a:SE} {r:Int},(match a.same e with|true=>some r|false=>none)=some l→a=e∧l=r:=by
  intro a r h;split at h
  ·rename_i hs;cases h;exact ⟨SE.same_ok hs,rfl⟩
  ·cases h
 unfold Tj at hl;split at hl<;>first | (cases hl;done)|skip
 all_goals
  rename_i a m c;obtain ⟨rfl,rfl⟩:=d hl;cases c;simp [AB,Cw,CB] at hp
  first|omega | (have:=of_decide_eq_false hp;omega) | (have:=hZ hp;omega)
theorem Do {V:Val} {e:SE}:∀{F:List (SB×Bool)},(∀e b,(e,b)∈F→Ah V e=b)→LoB (Dg e F) (Af V e)
 |[],_=>LoB.none
 |p::r,h=>LoB.max (WP (h p.1 p.2 (by simp))) (Do fun e b a=>h e b (by simp [a]))
theorem Dn {V:Val} {e:SE}:∀{F:List (SB×Bool)},(∀e b,(e,b)∈F→Ah V e=b)→HiB (De e F) (Af V e)
 |[],_=>HiB.none
 |p::r,h=>HiB.min (W2 (h p.1 p.2 (by simp))) (Dn fun e b a=>h e b (by simp [a]))
theorem Hp (k:IntKind) (n:Int) (a:k.min≤n) (b:n≤k.max):k.wrap n=n:=by
 cases k<;>simp only [IntKind.wrap,IntKind.min,IntKind.max,IntKind.bits,IntKind.signed] at *<;>simp at *<;>omega
theorem TO (k:IntKind) (n:Int):k.min≤k.wrap n∧k.wrap n≤k.max:=by
 cases k<;>simp only [IntKind.wrap,IntKind.min,IntKind.max,IntKind.bits,IntKind.signed]<;>simp<;>omega
theorem D6 {V:Val}:∀x:SE,(Ab V (CZ x)).rows.length=(Ab V x).rows.length:=by
 intro x
 induction x
 case upd a i j x c _ _=>rw [CZ,c];simp only [Ab,D.rows,List.length_modify]
 case nilIs a b c _=>rw [CZ,c];simp only [Ab,D.rows]
 all_goals rfl
theorem Ud {V:Val} {n y:SE} (h:LQ n y=true):Af V n=Af V (.lenL y):=by
 cases n<;>simp only [LQ,E2] at h
 rename_i x;rw [As,As,←D6 x,←D6 y,SE.same_ok h]
theorem Q6 {V:Val}:∀{x:SE} {n:Nat},HC x=some n→(Ab V x).rows.length=n:=by
 intro x
 induction x<;>intro n h<;>simp only [HC,reduceCtorEq] at h
 case nilL=>cases h;rfl
 case emptyL=>cases h;rfl
 case nilIs a b c _=>exact c h
 case snoc a r c _=>
  split at h
  ·rename_i k d;cases h;have:=c d;simp only [Ab,D.rows,L1,hQ] at this ⊢;rw [this]
  ·cases h
theorem Ha {V:Val} {F:List (SB×Bool)} (f:∀e b,(e,b)∈F→Ah V e=b):∀e:SE,LoB (bnd F e).1 (Af V e)∧HiB (bnd F e).2 (Af V e):=by
 intro e
 induction e with
 |c n=>exact ⟨LoB.some (Int.le_refl _),HiB.some (Int.le_refl _)⟩
 |lenS i=>exact ⟨LoB.max (LoB.some (by simp only [EZ,As];omega)) (Do f),Dn f⟩
 |lenL i=>
  unfold bnd;split
  ·rename_i n hn;have:=Q6 (V:=V) hn;exact ⟨LoB.some (by rw [As,this];exact Int.le_refl _),HiB.some (by rw [As,this];exact Int.le_refl _)⟩
  ·exact ⟨LoB.max (LoB.some (by simp only [EZ,As];omega)) (Do f),Dn f⟩
 |conv k a g=>
  unfold bnd;split;rename_i lo hi q;rw [q] at g;split
  ·rename_i o;unfold Qx at o;split at o
   ·rename_i l h;simp only [B1,F4] at o;have r:=g.1 l rfl;have w:=g.2 h rfl;have e:Af V (.conv k a)=Af V a:=Hp k (Af V a) (by omega) (by omega)
    exact ⟨LoB.max (e▸g.1) (Do f),HiB.min (e▸g.2) (Dn f)⟩
   ·cases o
  ·have e:k.min≤Af V (.conv k a)∧Af V (.conv k a)≤k.max:=TO k _;exact ⟨LoB.max (LoB.some e.1) (Do f),HiB.min (HiB.some e.2) (Dn f)⟩
 |arith p k a b j s=>
  have d:LoB (Dg (.arith p k a b) F) (Af V (.arith p k a b))∧HiB (De (.arith p k a b) F) (Af V (.arith p k a b)):=⟨Do f,Dn f⟩;unfold bnd;split
  ·rename_i m;split
   ·rename_i l hi q;rw [q] at j;split
    ·rename_i t;simp only [B1,F4] at t;have r:=j.1 l rfl;have u:(m==0)=false:=by simp;omega
     have e:Af V (.arith .rem k a (.c m))=(Af V a).tmod m:=by
      simp only [Hl,CB,D7,u]
     have v:0≤(Af V a).tmod m:=Int.tmod_nonneg _ (by omega)
     have x:(Af V a).tmod m<m:=Int.tmod_lt_of_pos _ (by omega)
     refine ⟨LoB.max (LoB.some (by rw [e];exact v)) d.1,HiB.min (HiB.some (by rw [e];omega)) d.2⟩
    ·exact d
   ·exact d
  ·exact d
 |_=>exact ⟨Do f,Dn f⟩
theorem IY {V:Val} {e:SB} {b:Bool}:∀{F:List (SB×Bool)},(∀e b,(e,b)∈F→Ah V e=b)→JC e F=some b→Ah V e=b
 |[],_,h=>by cases h
 | (x,c)::r,a,h=>by
  unfold JC at h;split at h
  ·rename_i hs;cases h;rw [SB.same_ok hs];exact a x b (by simp)
  ·exact IY (fun e b d=>a e b (by simp [d])) h
theorem T4 {a b:Option Int} (h:ltO a b=true):∃x y,a=some x∧b=some y∧x<y:=by
 unfold ltO at h;split at h
 ·exact ⟨_,_,rfl,rfl,by simpa using h⟩
 ·cases h
theorem kz {a b:Option Int} (h:leO a b=true):∃x y,a=some x∧b=some y∧x≤y:=by
 unfold leO at h;split at h
 ·exact ⟨_,_,rfl,rfl,by simpa using h⟩
 ·cases h
theorem TZ {V:Val} {F:List (SB×Bool)} (g:∀e b,(e,b)∈F→Ah V e=b) {e:SB} {b:Bool} (h:P7 F e=some b):Ah V e=b:=by
 unfold P7 at h;cases e with
 |lss x y=>
  simp only at h;have d:=Ha g x;have f:=Ha g y;split at h
  ·rename_i hl;cases h;obtain ⟨p,q,e1,a,i⟩:=T4 hl;have:=d.2 p e1;have:=f.1 q a;simp only [AB,F4];omega
  ·split at h
   ·rename_i hl;cases h;obtain ⟨p,q,e1,a,i⟩:=kz hl;have:=f.2 p e1;have:=d.1 q a;simp only [AB,L2];omega
   ·cases h
 |eql x y=>
  simp only at h;have d:=Ha g x;have f:=Ha g y;split at h
  ·rename_i hl;cases h;simp only [Cw,beq_eq_false_iff_ne,ne_eq];simp only [g0] at hl;rcases hl with hl|hl
   ·obtain ⟨p,q,e1,a,i⟩:=T4 hl;have:=d.2 p e1;have:=f.1 q a;omega
   ·obtain ⟨p,q,e1,a,i⟩:=T4 hl;have:=f.2 p e1;have:=d.1 q a;omega
  ·split at h
   ·rename_i hs;cases h;rw [SE.same_eq hs];simp [Cw]
   ·cases h
 |bc c=>cases h;rfl
 |_=>cases h
theorem UD {V:Val} {F:List (SB×Bool)} (i:∀e b,(e,b)∈F→Ah V e=b):∀(e:SB) (b:Bool),Ef F e=some b→Ah V e=b:=by
 intro e
 have Jo:∀(a:SB),(∀b,Ef F a=some b→Ah V a=b)→∀b,(match JC a F with
   |some c=>some c
   |none=>Ef F a)=some b→Ah V a=b:=by
  intro a j b h;split at h
  ·rename_i c d;cases h;exact IY i d
  ·exact j b h
 induction e with
 |neg a j=>
  intro b h;simp only [Ef] at h;show (!Ah V a)=b;split at h
  ·rename_i c d;cases h;rw [IY i d]
  ·split at h
   ·rename_i c d;cases h;rw [j c d]
   ·cases h
 |and x y f g=>
  intro b h;simp only [Ef] at h;show (Ah V x&&Ah V y)=b;split at h
  ·rename_i d;cases h;rw [Jo x f _ d];rfl
  ·rename_i d;rw [Jo x f _ d,Jo y g _ h];rfl
  ·split at h
   ·rename_i d;cases h;rw [Jo y g _ d];simp
   ·cases h
 |_=>
  intro b h;exact TZ i h
theorem AA {V:Val} {F:List (SB×Bool)} (a:∀e b,(e,b)∈F→Ah V e=b) {e:SB} {b:Bool} (h:AW F e=some b):Ah V e=b:=by
 unfold AW at h;split at h
 ·rename_i c d;cases h;exact IY a d
 ·exact UD a e b h
theorem Ho (ρ:Ren) (pos:Bool) (e:SB):VR ρ (mkB pos e) (.bool (Ah U.V e==pos)):=by
 unfold mkB;split
 ·rename_i b h;rw [AA U.ok h];exact .bool _
 ·exact .sb pos e
theorem DE (ρ:Ren) (k:IntKind) (e:SE):VR ρ (mkI k e) (.int k (Af U.V e)):=by
 have a:=Ha U.ok e;unfold mkI;split
 ·rename_i l h b;rw [b] at a;split
  ·rename_i hl;have c:=a.1 l rfl;have d:=a.2 h rfl;have f:l=h:=by simpa using hl
   have:Af U.V e=l:=by omega
   rw [this];exact .int k l
  ·exact .si k e
 ·exact .si k e
theorem H6 {n y:SE} (h:Fy n y=true):Af U.V n=Af U.V (.lenL y):=by
 unfold Fy at h;rw [g0] at h;rcases h with h|h
 ·exact Ud h
 ·unfold NT at h;split at h
  ·rename_i a;have:=AA U.ok a;rw [Cw] at this;exact eq_of_beq this
  ·cases h
theorem JU {ρ:Ren} {b d:Nat} {n y nl:SE} {v:Value} (h:Fy n y=true) (i:VR ρ (.asl b d n nl) v):VR ρ (.asl b d (.lenL y) nl) v:=by
 have e:=H6 h;cases i with
 |asl _ _ _ _ f c j g k l hn=>
  have:=VR.asl (ρ:=ρ) b d (.lenL y) nl f c j (e▸g) (e▸k) l hn;rw [←e] at this;exact this
 |aslEnd _ _ _ _ a g hn=>exact .aslEnd _ _ _ _ a (e▸g) hn
section
variable {E:Env} {ρ:Ren} {w:World}
theorem DS {x:AV} {a:Value} {k:IntKind} {e:SE} (b:VR ρ x a) (h:toI x=some (k,e)):a=.int k (Af U.V e):=by
 cases b<;>simp only [toI] at h<;>cases h<;>rfl
theorem LC {x:AV} {c:Value} (b:VR ρ x c):VR ρ (NR x) c:=by
 unfold NR;split
 ·rename_i k e;split
  ·rename_i l h d;split
   ·rename_i a;have a:l=h:=by simpa using a
    subst a;cases b with
    |si _ _=>
     obtain ⟨b1,b2⟩:=Ha U.ok e;rw [d] at b1 b2;have e1:=b1 l rfl;have f:=b2 l rfl;have:Af U.V e=l:=by omega
     rw [this];exact .int k l
   ·exact b
  ·exact b
 ·exact b
theorem fx {d:BinOp} {k:IntKind} {a b:SE} {r:AV} (t:TypeId) (h:jA d k a b=some r) :
  ∃v,(binOp d t (.int k (Af U.V a)) (.int k (Af U.V b))).run E.P w=.ok v w∧VR ρ r v:=by
 have j:∀{d:BinOp} {n:Int},d≠.shl→d≠.shr→D7 d k (Af U.V a) (Af U.V b)=some (.int k n)→∃v,(binOp d t (.int k (Af U.V a)) (.int k (Af U.V b))).run E.P w=.ok v w∧VR ρ (mkI k (.arith d k a b)) v:=by
  intro d n l m i;obtain ⟨v,o,p⟩:=JW (E:=E) (w:=w) (ρ:=ρ) t l m i;cases p;refine ⟨_,o,?_⟩;have e:Af U.V (.arith d k a b)=n:=by simp only [Hl,i]
  have:=DE ρ k (.arith d k a b);rw [e] at this;exact this
 have g:∀{d:BinOp} {c:Bool} {pos:Bool} {e:SB},d≠.shl→d≠.shr→D7 d k (Af U.V a) (Af U.V b)=some (.bool c)→(Ah U.V e==pos)=c→∃v,(binOp d t (.int k (Af U.V a)) (.int k (Af U.V b))).run E.P w=.ok v w∧VR ρ (mkB pos e) v:=by
  intro d c pos e l m i s;obtain ⟨v,o,p⟩:=JW (E:=E) (w:=w) (ρ:=ρ) t l m i;cases p;exact ⟨_,o,s▸Ho ρ pos e⟩
 have q:∀{b:SE},Wj b=true→(Af U.V b==0)=false:=by
  intro b f;unfold Wj at f;rw [g0] at f;rcases f with f|f
  ·cases b<;>simp [f7] at f
   simpa [CB] using f
  ·split at f
   ·rename_i u;have:=AA U.ok u
    rwa [Cw,CB] at this
   ·cases f
 cases d<;>simp only [jA] at h<;>first | (cases h;done)|skip
 case quo=>
  split at h
  ·rename_i f;cases h;exact j (by simp) (by simp) (by simp only [D7,q f];rfl)
  ·cases h
 case rem=>
  split at h
  ·rename_i f;cases h;exact j (by simp) (by simp) (by simp only [D7,q f];rfl)
  ·cases h
 case eql=>cases h;exact g (by simp) (by simp) rfl (by simp [AB,Cw])
 case neq=>cases h;exact g (by simp) (by simp) rfl (by simp only [Cw,bne];cases (Af U.V a==Af U.V b)<;>rfl)
 case lss=>cases h;exact g (by simp) (by simp) rfl (by simp [AB,Cw])
 case leq=>cases h;exact g (by simp) (by simp) rfl (by simp only [AB];by_cases h:Af U.V a≤Af U.V b<;>simp [h]<;>omega)
 case gtr=>cases h;exact g (by simp) (by simp) rfl (by simp [AB,Cw])
 case geq=>cases h;exact g (by simp) (by simp) rfl (by simp only [AB];by_cases h:Af U.V a≥Af U.V b<;>simp [h]<;>omega)
 all_goals cases h;exact j (by simp) (by simp) rfl
theorem PS {a:BinOp} {s b:ByteArray} {e:SB} {r:AV} (t:TypeId) (h:ZS a e=some r) (d:Ah U.V e=strEq s.data.toList.length (AL s.data.toList) b.data.toList.length (AL b.data.toList)) :
  ∃v,(binOp a t (.string s) (.string b)).run E.P w=.ok v w∧VR ρ r v:=by
 have f:∀{a:BinOp} {c:Bool} {pos:Bool},P2 a s.data.toList.length (AL s.data.toList) b.data.toList.length (AL b.data.toList)=some (.bool c)→(Ah U.V e==pos)=c→∃v,(binOp a t (.string s) (.string b)).run E.P w=.ok v w∧VR ρ (mkB pos e) v:=by
  intro a c pos g i;obtain ⟨v,j,k⟩:=OC (E:=E) (w:=w) (ρ:=ρ) t g;cases k;exact ⟨_,j,i▸Ho ρ pos e⟩
 cases a<;>simp only [ZS] at h<;>first | (cases h;done)|skip
 case eql=>cases h;exact f rfl (by rw [d];simp)
 case neq=>cases h;exact f rfl (by rw [d];cases strEq _ _ _ _<;>rfl)
theorem Tc (l a c b:Nat):strEq l a c b=strEq c b l a:=by
 unfold strEq
 have:∀i j:Nat,Nat.beq i j=Nat.beq j i:=fun i j=>by
  cases h:Nat.beq i j with
  |true=>rw [AK h,FL]
  |false=>exact (Gr (fun e=>ZX h e.symm)).symm
 rw [this l,this a]
theorem cE {d:BinOp} {t:TypeId} {g i:Operand} {x y r:AV} {j l:Value} (e:VR ρ x j) (f:VR ρ y l) (c:iK d x y=some r) :
  ∃v,(do eqGuard d t g i j l;binOp d t j l:Sem Value).run E.P w=.ok v w∧VR ρ r v:=by
 have fin:∀{a b:Value},(¬(a=.nilIface∧b=.nilIface))→(¬∃p,a=.agg p)→(∃v,(binOp d t a b).run E.P w=.ok v w∧VR ρ r v)→∃v,(do eqGuard d t g i a b;binOp d t a b:Sem Value).run E.P w=.ok v w∧VR ρ r v:=by
  intro a b m n ⟨v,q,s⟩;have u:(eqGuard d t g i a b).run E.P w=.ok () w:=Co m (fun h _=>absurd h n)
  exact ⟨v,by simp only [B2,u,A2,q],s⟩
 unfold iK at c;split at c
 ·cases e;cases f;exact fin (by simp) (by simp) (PS t c rfl)
 ·cases e;cases f;exact fin (by simp) (by simp) (PS t c rfl)
 ·cases e;cases f;exact fin (by simp) (by simp) (PS t c (by rw [WX];exact Tc _ _ _ _))
 ·split at c
  ·rename_i k a z b m n;split at c
   ·rename_i o;have o:k=z:=by simpa using o
    subst o;rw [DS e m,DS f n];exact fin (by simp) (by simp) (fx t c)
   ·cases c
  ·cases c
end
end Go.AE
namespace Go.AE
variable [U:Unk]
theorem ER.length {ρ:Ren}:∀{l:List A0} {j:List MapEntry},ER ρ l j→l.length=j.length
 |[],[],_=>rfl
 |_::_,_::_,⟨_,_,_,h⟩=>by simp [ER.length h]
section
variable {E:Env} (hE:OK E) {ρ:Ren} {h:Aa} {w:World}
include hE
theorem Fb (B:Bool) (k:Nat):∀(d:Nat) (t:TypeId) (v:AV) (j:Value),CP E d t v=true→VR ρ v j→(Instr.checkKey B (d+k) t j).run E.P w=.ok () w:=by
 intro d
 induction d with
 |zero=>intro t v j h;simp [CP] at h
 |succ d y=>
  intro t v j h z;rw [show d+1+k=(d+k)+1 from by omega,Instr.checkKey]
  simp only [CP] at h;cases c:E.desc t with
  |none=>simp [c] at h
  |some C=>
   simp only [B2,hE.run_und c,A2];cases C with
   |int q=>simp
   |string=>simp
   |bool=>simp
   |struct D=>
    simp only [c] at h;cases z<;>simp only [E2] at h
    rename_i cs l m o;simp only [ne_eq,B2];rw [←Array.forIn_toList];generalize D.toList=A at h
    induction A with
    |nil=>simp
    |cons f A g=>
     simp only [Kl] at h;cases hp:D0 E f.type cs f.offset with
     |none=>simp [hp] at h
     |some a=>
      simp only [hp] at h;cases b:CP E d f.type a with
      |false=>simp [b] at h
      |true=>
       simp only [b] at h;obtain ⟨F,p,r⟩:=hE.run_part hp ⟨m,o⟩ w;have s:=y _ _ _ b r;simp only [List.forIn_cons,B2];by_cases hn:f.name = "_"
       ·simp only [hn,not_true_eq_false,ez,CU,A2];exact g h
       ·simp only [hn,not_false_eq_true,if_true,B2,p,s,A2,CU];exact g h
   |array n e=>
    simp only [c] at h;cases z<;>simp only [E2] at h
    rename_i cs l m o;cases u:E.has e with
    |false=>simp [u] at h
    |true=>
     simp only [u] at h;simp only [Std.Legacy.Range.forIn_eq_forIn_range',Std.Legacy.Range.size,Nat.sub_zero,Nat.add_one_sub_one,Nat.div_one];generalize hi:(0:Nat)=i at h ⊢;clear hi c;simp only [B2]
     induction n generalizing i with
     |zero=>simp
     |succ n x=>
      simp only [Mv] at h;cases hp:D0 E e cs (i*E.size e) with
      |none=>simp [hp] at h
      |some a=>
       simp only [hp] at h;cases b:CP E d e a with
       |false=>simp [b] at h
       |true=>
        simp only [b] at h;obtain ⟨F,p,r⟩:=hE.run_part hp ⟨m,o⟩ w;have s:=y _ _ _ b r;simp only [List.range'_succ,List.forIn_cons,B2,hE.run_has u,A2,p,s,CU];exact x (i+1) h
   |_=>simp [c] at h
def FR (ρ:Ren):Option (Nat×AV)→Option (Nat×Value)→Prop
 |none,none=>True
 |some (i,a),some (j,v)=>i=j∧VR ρ a v
 |_,_=>False
theorem Ic {t:TypeId} {k:AV} {kv:Value} (l:VR ρ k kv):∀{g:List A0} {c:List MapEntry} {i:Nat} {r:Option (Nat×AV)},ER ρ g c→EW E t k g i=some r→
  ∃d,FR ρ r d∧(Instr.findAsking t kv c i).run E.P w=.ok d w
 |[],[],i,r,_,h=>by
  simp only [EW,A1] at h;subst h;exact ⟨none,trivial,by simp [Instr.findAsking]⟩
 |e::g,j::c,i,r,⟨m,n,s,o⟩,h=>by
  simp only [EW] at h;cases f:aeq E 10000 t k e.key with
  |none=>simp [f] at h
  |some b=>
   have a:(Op.equal t kv j.key).run E.P w=.ok b w:=T7 (w:=w) hE 10000 t k e.key b kv j.key f l m;cases b with
   |true=>
    simp only [f,A1] at h;subst h;exact ⟨some (i,j.val),⟨rfl,n⟩,by simp [Instr.findAsking,a]⟩
   |false=>
    simp only [f] at h;obtain ⟨d,p,q⟩:=Ic l o h;exact ⟨d,p,by simp [Instr.findAsking,a,q]⟩
omit hE in
theorem Ni {t:TypeId} {ds:TypeDesc} (hd:E.desc t=some ds) {x y:AV} {b:Bool} {xv yv:Value} {d:Nat} (ha:aeq E (d+1) t x y=some b) (hx:VR ρ x xv) (hy:VR ρ y yv) :
  Instr.sameNow ds xv yv=some b∨∀u v,Instr.sameNow ds u v=none:=by
 simp only [aeq,hd] at ha;cases ds with
 |int q=>
  cases hx<;>first | (cases ha;done)|skip
  cases hy<;>first | (cases ha;done)|skip
  rename_i k n k' n';by_cases hk:k=k'
  ·subst hk;simp only [B5,A1] at ha;subst ha;exact .inl (by simp [Instr.sameNow])
  ·simp [hk] at ha
 |string=>
  cases hx<;>first | (cases ha;done)|skip
  cases hy<;>first | (cases ha;done)|skip
  rename_i s s';simp only [A1] at ha;subst ha;rw [CS];exact .inl (by simp only [Instr.sameNow];rw [beq_toListBytes])
 |bool=>
  cases hx<;>first | (cases ha;done)|skip
  cases hy<;>first | (cases ha;done)|skip
  simp only [A1] at ha;subst ha;exact .inl (by simp [Instr.sameNow])
 |_=>exact .inr (fun u v=>by cases u<;>cases v<;>rfl)
omit hE in
theorem NK {t:TypeId} {ds:TypeDesc} (hd:E.desc t=some ds) {k:AV} {kv:Value} (hk:VR ρ k kv) (hq:¬∀u v,Instr.sameNow ds u v=none):∀{es:List A0} {es':List MapEntry} {i:Nat} {r:Option (Nat×AV)},ER ρ es es'→EW E t k es i=some r→
  ∃r',FR ρ r r'∧Instr.findNow ds kv es' i=some r'
 |[],[],i,r,_,h=>by
  simp only [EW,A1] at h;subst h;exact ⟨none,trivial,rfl⟩
 |e::es,e'::es',i,r,⟨h1,h2,h3,h4⟩,h=>by
  simp only [EW] at h;cases ha:aeq E 10000 t k e.key with
  |none=>simp [ha] at h
  |some b=>
   have hs:Instr.sameNow ds kv e'.key=some b:=(Ni hd ha hk h1).resolve_right hq;cases b with
   |true=>
    simp only [ha,A1] at h;subst h;exact ⟨some (i,e'.val),⟨rfl,h2⟩,by simp [Instr.findNow,hs]⟩
   |false=>
    simp only [ha] at h;obtain ⟨r',q1,q2⟩:=NK hd hk hq h4 h;exact ⟨r',q1,by simp [Instr.findNow,hs,q2]⟩
theorem GJ {t:TypeId} {ds:TypeDesc} (hd:E.desc t=some ds) {k:AV} {kv:Value} (hk:VR ρ k kv) {es:List A0} {es':List MapEntry} {r:Option (Nat×AV)} (a:ER ρ es es') (h:EW E t k es 0=some r) :
  ∃r',FR ρ r r'∧(Instr.findKey t kv es').run E.P w=.ok r' w:=by
 by_cases hq:∀u v,Instr.sameNow ds u v=none
 ·cases es' with
  |nil=>
   cases es with
   |nil=>
    simp only [EW,A1] at h;subst h;exact ⟨none,trivial,by simp [Instr.findKey,hE.run_und hd,Instr.findNow]⟩
   |cons e es=>cases a
  |cons e' es'=>
   obtain ⟨r',q1,q2⟩:=Ic (w:=w) hE hk a h;exact ⟨r',q1,by simp [Instr.findKey,hE.run_und hd,Instr.findNow,hq,q2]⟩
 ·obtain ⟨r',q1,q2⟩:=NK hd hk hq a h;exact ⟨r',q1,by simp [Instr.findKey,hE.run_und hd,q2]⟩
theorem UC (N:HR ρ h.blk.get w) {t:TypeId} {m k a:AV} {K kv:Value} {ok:Bool} (O:VR ρ m K) (hk:VR ρ k kv) (ha:PZ E t m k ok h=some a) :
  ∃v,(Instr.lookup t K kv ok).run E.P w=.ok v w∧VR ρ a v:=by
 unfold PZ at ha;cases hd:E.desc t with
 |none=>simp [hd] at ha
 |some d=>
  cases d with
  |map o Q=>
   simp only [hd] at ha;cases c:CP E 20 o k with
   |false=>simp [c] at ha
   |true=>
    cases H:E.zero Q with
    |none=>simp [c,H] at ha
    |some z=>
     simp only [c,H] at ha;obtain ⟨L,z1,z2⟩:=hE.run_zero ρ H w;have D:=Bg ρ z2;have A:∀I,(Instr.checkKey I 10000 o kv).run E.P w=.ok () w:=fun I=>Fb (w:=w) hE I 9980 20 o k kv c hk
     have f:∃ds,E.desc o=some ds:=by
      simp only [CP] at c;cases hq:E.desc o with
      |none=>simp [hq] at c
      |some ds=>exact ⟨ds,rfl⟩
     obtain ⟨ds,f⟩:=f
     have fin:∀(v:AV) (b:Bool) (B:Value),VR ρ v B→VR ρ (N0 ok v b) (if ok then .tuple #[B,.bool b] else B):=by
      intro v b B M;cases ok with
      |true=>
       have:=VL.cons M (VL.cons (VR.bool (ρ:=ρ) b) (VL.nil ρ));exact .tuple _ [B,.bool b] this.1 this.2
      |false=>exact M
     have J:(Instr.findKey o kv []).run E.P w=.ok none w:=by
      obtain ⟨r',q1,q2⟩:=GJ (w:=w) hE f hk (es:=[]) (es':=[]) (r:=none) trivial rfl;cases r' with
      |none=>exact q2
      |some p=>cases q1
     cases O with
     |map0=>
      simp only [A1] at ha;subst ha;refine ⟨_,?_,fin z false L D⟩;simp [Instr.lookup,hE.run_und hd,A,J,z1]
     |map b g R=>
      simp only [] at ha;cases F:h.blk.get b with
      |none=>simp [F] at ha
      |some y=>
       cases y with
       |map es C=>
        simp only [F] at ha;obtain ⟨es',e1,S⟩:=N.blk b g _ R F;have l:(getObj g.cb).run E.P w=.ok (.map es'.toArray C) w:=by simp [getObj,Sem.run,e1]
        cases G:EW E o k es 0 with
        |none=>simp [G] at ha
        |some r=>
         obtain ⟨r',q1,q2⟩:=GJ (w:=w) hE f hk S G;cases r with
         |none=>
          simp only [G,A1] at ha;subst ha;cases r' with
          |some p=>cases q1
          |none=>
           refine ⟨_,?_,fin z false L D⟩;simp [Instr.lookup,hE.run_und hd,l,A,q2,z1]
         |some p=>
          obtain ⟨i,v⟩:=p;simp only [G,A1] at ha;subst ha;cases r' with
          |none=>cases q1
          |some T=>
           obtain ⟨j,B⟩:=T;refine ⟨_,?_,fin v true B q1.2⟩;simp [Instr.lookup,hE.run_und hd,l,A,q2]
       |_=>simp [F] at ha
     |_=>simp at ha
  |_=>simp [hd] at ha
end
end Go.AE
namespace Go.AE
variable [U:Unk]
theorem ER.get {ρ:Ren}:∀{l:List A0} {l':List MapEntry} {i:Nat} {e:A0},ER ρ l l'→l[i]?=some e→∃j,l'[i]?=some j∧VR ρ e.key j.key∧VR ρ e.val j.val∧j.born=e.born
 |[],[],i,e,_,h=>by simp at h
 |a::l,r::l',0,e,⟨C,I,J,h4⟩,h=>by simp at h;subst h;exact ⟨r,rfl,C,I,J⟩
 |a::l,r::l',i+1,e,⟨C,I,J,h4⟩,h=>by simpa using ER.get h4 (by simpa using h)
theorem ER.setVal {r:Ren}:∀{l:List A0} {C:List MapEntry} {i:Nat} {k v:AV} {kv j:Value},ER r l C→VR r k kv→VR r v j→ER r (setVal l i k v) (C.modify i fun e=>{e with key:=kv,val:=j})
 |[],[],i,k,v,kv,j,_,_,_=>by simp [AE.setVal,ER]
 |a::l,a'::C,0,k,v,kv,j,⟨h1,h2,I,J⟩,hk,hv=>by
  simp only [AE.setVal,List.modify_zero_cons];exact ⟨hk,hv,I,J⟩
 |a::l,a'::C,i+1,k,v,kv,j,⟨h1,h2,I,J⟩,hk,hv=>by
  simp only [AE.setVal,List.modify_succ_cons];exact ⟨h1,h2,I,ER.setVal J hk hv⟩
theorem ER.append {ρ:Ren}:∀{l:List A0} {l':List MapEntry} {m:List A0} {j:List MapEntry},ER ρ l l'→ER ρ m j→ER ρ (l++m) (l'++j)
 |[],[],_,_,_,h=>h
 |_::_,_::_,_,_,⟨r,C,I,J⟩,h=>⟨r,C,I,ER.append J h⟩
theorem ER.eraseIdx {j:Ren}:∀{l:List A0} {r:List MapEntry} (i:Nat),ER j l r→ER j (l.eraseIdx i) (r.eraseIdx i)
 |[],[],i,_=>by simp [ER]
 |_::_,_::_,0,⟨_,_,_,h⟩=>by simpa using h
 |_::_,_::_,i+1,⟨C,I,J,h4⟩=>by
  simp only [List.eraseIdx_cons_succ];exact ⟨C,I,J,ER.eraseIdx i h4⟩
section
variable {E:Env} (hE:OK E) {ρ:Ren} {h:Aa} {w:World}
theorem Bi (P:Program) {r:Nat} {o o':Obj} (a:w.heap[r]?=some o) (b:∀c e f,o≠.cells c e f) :
  (setObj r o').run P w=.ok () {w with heap:=w.heap.setIfInBounds r o'}:=by
 cases o<;>simp only [setObj,Sem.run,a]
 exact absurd rfl (b _ _ _)
theorem AY (P:Program) {r:Nat} {o:Obj} (a:w.heap[r]?=some o) (b:∀c e f,o≠.cells c e f) :
  (getObj r).run P w=.ok o w:=by
 cases o<;>simp only [getObj,Sem.run,a]
 exact absurd rfl (b _ _ _)
theorem HR.setObj (C:HR ρ h.blk.get w) {r:Nat} {base:DF} (I:ρ r=some base) (hl:h.blk.get r≠none) (x:Aj) (o':Obj) (J:BR ρ x base (some o')) :
  HR ρ (h.put r x).blk.get {w with heap:=w.heap.setIfInBounds base.cb o'}∧Ext ρ ρ h (h.put r x) w {w with heap:=w.heap.setIfInBounds base.cb o'}:=by
 have j:=C.lt r base I;refine C.put I hl x _ ?_ (by simp) (fun k hk=>by simp [X1 (Ne.symm hk)]) rfl rfl rfl
 have:({w with heap:=w.heap.setIfInBounds base.cb o'}:World).heap[base.cb]?=some o':=by simp [j]
 rw [this];exact J
theorem Q0:∀{a b:AV},HH a b=true→a=b:=by
 intro a b h;cases a<;>cases b<;>simp only [HH] at h<;>first | (cases h;done)|skip
 ·rename_i x y;cases x<;>cases y<;>first|rfl|cases h
 ·rename_i k x d y;by_cases c:k=d
  ·subst c;simp only [B5] at h;rw [eq_of_beq h]
  ·simp [c] at h
 ·rename_i l x g y;obtain ⟨e,f⟩:=AC h;rw [AK e,AK f]
theorem On:∀{l m:List AV},J8 l m=true→l=m
 |[],[],_=>rfl
 |[],_::_,h=>by simp [J8] at h
 |_::_,[],h=>by simp [J8] at h
 |a::l,b::m,h=>by
  simp only [J8] at h;cases hs:HH a b with
  |false=>simp [hs] at h
  |true=>simp only [hs] at h;rw [Q0 hs,On h]
theorem Rx {a b:AV} (h:ME a b=true):a=b:=by
 cases a<;>cases b<;>first|exact congrArg AV.agg (On h)|exact Q0 h
theorem GV (P:Program) (ov nv:Value) :
  ∃v a,(Instr.keyThatStays ov nv).run P w=.ok v a∧(v=nv∨v=ov)∧a.heap=w.heap∧a.os=w.os∧a.tape=w.tape∧a.output=w.output:=by
 unfold Instr.keyThatStays;by_cases hs:Instr.sameBits 10000 ov nv=true
 ·exact ⟨nv,w,by simp [hs],.inl rfl,rfl,rfl,rfl,rfl⟩
 ·simp only [hs,E2,ez,B2,run_choose,Question.forced,CU];exact ⟨_,_,rfl,by split<;>simp,rfl,rfl,rfl,rfl⟩
include hE
theorem IQ (G:HR ρ h.blk.get w) {t:TypeId} {m k v:AV} {S kv q:Value} {h':Aa} (X:VR ρ m S) (A:VR ρ k kv) (T:VR ρ v q) (c:JL E t m k v h=some h') :
  ∃H,(Instr.mapUpdate t S kv q).run E.P w=.ok () H∧HR ρ h'.blk.get H∧Ext ρ ρ h h' w H:=by
 unfold JL at c;cases x:E.desc t with
 |none=>simp [x] at c
 |some d=>
  cases d with
  |map s et=>
   simp only [x] at c;cases f:CP E 20 s k with
   |false=>simp [f] at c
   |true=>
    simp only [f] at c;have z:∀I,(Instr.checkKey I 10000 s kv).run E.P w=.ok () w:=fun I=>Fb (w:=w) hE I 9980 20 s k kv f A
    have o:∃B,E.desc s=some B:=by
     simp only [CP] at f;cases Y:E.desc s with
     |none=>simp [Y] at f
     |some B=>exact ⟨B,rfl⟩
    obtain ⟨B,o⟩:=o;cases X with
    |map b l J=>
     simp only [] at c;cases u:h.blk.get b with
     |none=>simp [u] at c
     |some y=>
      cases y with
      |map C a=>
       simp only [u] at c;obtain ⟨g,e1,D⟩:=G.blk b l _ J u;have n:=AY (w:=w) E.P e1 (by simp)
       cases F:EW E s k C 0 with
       |none=>simp [F] at c
       |some r=>
        obtain ⟨V,K,W⟩:=GJ (w:=w) hE o A D F;cases r with
        |none=>
         simp only [F,A1] at c;subst c;cases V with
         |some p=>cases K
         |none=>
          obtain ⟨p1,p2⟩:=G.setObj J (by rw [u];simp) (.map (C++[{key:=k,val:=v,born:=a}]) (a+1)) (.map (g.toArray.push {key:=kv,val:=q,born:=a}) (a+1))
           ⟨g++[{key:=kv,val:=q,born:=a}],by simp,D.append ⟨A,T,rfl,trivial⟩⟩
          refine ⟨_,?_,p1,p2⟩;simp [Instr.mapUpdate,hE.run_und x,n,z,W,Bi (w:=w) E.P e1 (by simp)]
        |some p=>
         obtain ⟨i,v0⟩:=p;simp only [F] at c;cases V with
         |none=>cases K
         |some Z=>
          obtain ⟨j,aa⟩:=Z;obtain ⟨rfl,q3⟩:=K;cases hi:C[i]? with
          |none=>simp [hi] at c
          |some e=>
           simp only [hi] at c;cases hs:ME k e.key with
           |false=>simp [hs] at c
           |true=>
            simp only [hs,A1] at c;subst c;have L:=Rx hs;obtain ⟨e',g1,g2,g3,g4⟩:=D.get hi;obtain ⟨M,w1,s1,s2,N,s4,s5,s6⟩:=GV (w:=w) E.P e'.key kv
            have O:VR ρ k M:=by
             rcases s2 with rfl|rfl
             ·exact A
             ·rw [L];exact g2
            have Q:HR ρ h.blk.get w1:=G.same N
            obtain ⟨p1,p2⟩:=Q.setObj J (by rw [u];simp) (.map (setVal C i k v) a) (.map (g.toArray.modify i fun e=>{e with key:=M,val:=q}) a)
             ⟨g.modify i fun e=>{e with key:=M,val:=q},by simp [List.modify_toArray],D.setVal O T⟩
            refine ⟨_,?_,p1,p2.drawn N s4 s5 s6⟩;have R:w1.heap[l.cb]?=some (.map g.toArray a):=by rw [N];exact e1
            simp only [Instr.mapUpdate,B2,hE.run_und x,A2,n,z,W,Sf,g1,X8,j1,s1];rw [Bi (w:=w1) E.P R (by simp)]
      |_=>simp [u] at c
    |_=>simp at c
  |_=>simp [x] at c
theorem T5 (z:HR ρ h.blk.get w) {t ty:TypeId} {m k:AV} {J kv:Value} {h':Aa} (N:VR ρ m J) (K:VR ρ k kv) (c:LF E t m k h=some h') (v:Array TypeId) (l:v[0]?=some t) :
  ∃C,(Builtin.delete_ v ty #[J,kv]).run E.P w=.ok (.tuple #[]) C∧HR ρ h'.blk.get C∧Ext ρ ρ h h' w C:=by
 unfold LF at c;cases q:E.desc t with
 |none=>simp [q] at c
 |some d=>
  cases d with
  |map s S=>
   simp only [q] at c;cases e:CP E 20 s k with
   |false=>simp [e] at c
   |true=>
    simp only [e] at c;have n:∀D,(Instr.checkKey D 10000 s kv).run E.P w=.ok () w:=fun D=>Fb (w:=w) hE D 9980 20 s k kv e K
    have o:∃A,E.desc s=some A:=by
     simp only [CP] at e;cases O:E.desc s with
     |none=>simp [O] at e
     |some A=>exact ⟨A,rfl⟩
    obtain ⟨A,o⟩:=o;cases N with
    |map0=>
     simp only [A1] at c;subst c;refine ⟨w,?_,z,Ext.refl ρ h w⟩;simp [Builtin.delete_,l,hE.run_und q,n]
    |map b x F=>
     simp only [] at c;cases u:h.blk.get b with
     |none=>simp [u] at c
     |some y=>
      cases y with
      |map G a=>
       simp only [u] at c;obtain ⟨f,e1,H⟩:=z.blk b x _ F u;have g:=AY (w:=w) E.P e1 (by simp)
       cases B:EW E s k G 0 with
       |none=>simp [B] at c
       |some r=>
        obtain ⟨L,I,M⟩:=GJ (w:=w) hE o K H B;cases r with
        |none=>
         simp only [B,A1] at c;subst c;cases L with
         |some p=>cases I
         |none=>
          obtain ⟨p1,p2⟩:=z.setObj F (by rw [u];simp) (.map G a) (.map f.toArray a) ⟨f,rfl,H⟩
          refine ⟨_,?_,p1,p2⟩;simp [Builtin.delete_,l,hE.run_und q,g,n,M,Bi (w:=w) E.P e1 (by simp)]
        |some p=>
         obtain ⟨i,v0⟩:=p;simp only [B,A1] at c;subst c;cases L with
         |none=>cases I
         |some Q=>
          obtain ⟨j,R⟩:=Q;obtain ⟨rfl,T⟩:=I;obtain ⟨p1,p2⟩:=z.setObj F (by rw [u];simp) (.map (G.eraseIdx i) a) (.map (f.toArray.eraseIdxIfInBounds i) a) ⟨f.eraseIdx i,by simp,H.eraseIdx i⟩
          refine ⟨_,?_,p1,p2⟩;simp [Builtin.delete_,l,hE.run_und q,g,n,M,Bi (w:=w) E.P e1 (by simp)]
      |_=>simp [u] at c
    |_=>simp at c
  |_=>simp [q] at c
end
end Go.AE
namespace Go.AE
variable [U:Unk]
section
variable {E:Env} (hE:OK E) {ρ:Ren} {h:Aa} {w:World}
theorem Na (f:HR ρ h.blk.get w) {t:TypeId} {m s v:AV} {b c d:Value} {h':Aa} (g:VR ρ m b) (hs:VR ρ s c) (i:VR ρ v d) (e:Hh m s v h=some h') :
  ∃a,(Instr.entryStore t b c d).run E.P w=.ok () a∧HR ρ h'.blk.get a∧Ext ρ ρ h h' w a:=by unfold Hh at e;cases e
include hE
theorem Xq (d:HR ρ h.blk.get w) {t:TypeId} {m k a:AV} {b kv:Value} {h':Aa} (e:VR ρ m b) (f:VR ρ k kv) (c:Ux E t m k h=some (a,h')) :
  Bj E ρ h h' w (Instr.mapEntry t b kv) a:=by unfold Ux at c;cases c
omit hE in
theorem dM (hE:OK E) (hr:HR ρ h.blk.get w) {t ty:TypeId} {x a:AV} {xv:Value} (hx:VR ρ x xv) (ha:lz E t x h=some a) (ats:Array TypeId) (hat:ats[0]?=some t) (args:Array Value) (harg:args[0]?=some xv) :
    ∃v,(Builtin.len_ ats ty args).run E.P w=.ok v w∧VR ρ a v:=by
  unfold lz at ha;cases hd:E.desc t with
  |none=>simp [hd] at ha
  |some d=>
    cases d with
    |string=>
      cases hx<;>simp only [hd] at ha<;>first | (cases ha;done)|skip
      · simp only [A1] at ha
        subst ha;rename_i s;refine ⟨goInt s.size,by simp [Builtin.len_,hat,harg,hE.run_und hd],?_⟩
        have:s.data.toList.length=s.size:=by simp
        rw [this];exact .int _ _
      · simp only [A1] at ha
        subst ha;rename_i i;refine ⟨goInt (Ba U.V i).size,by simp [Builtin.len_,hat,harg,hE.run_und hd],?_⟩
        have h1:(Ba U.V i).data.toList.length=(Ba U.V i).size:=by simp
        have h2:=DE ρ .i64 (.lenS i);have h3:Af U.V (.lenS i)=((Ba U.V i).data.toList.length:Nat):=rfl;rw [h3,h1] at h2;exact h2
    |array n e=>
      simp only [hd,A1] at ha;subst ha;refine ⟨goInt n,?_,.int _ _⟩;cases hx<;>simp [Builtin.len_,hat,harg,hE.run_und hd]
    |slice e=>
      cases hx<;>simp only [hd] at ha<;>first | (cases ha;done)|skip
      all_goals
        simp only [A1] at ha;subst ha
        first
          |exact ⟨_,by simp [Builtin.len_,hat,harg,hE.run_und hd];rfl,.int _ _⟩
          | (rename_i e' x a n c hdv
             obtain ⟨_,_,_,e1,e2⟩:=hdv.slice_inv;cases e1;have q:=DE ρ .i64 (.lenL x);rw [As,e2] at q;exact ⟨_,by simp [Builtin.len_,hat,harg,hE.run_und hd];rfl,q⟩)
          | (rename_i b es n nl cap base hb h0 hc hz hnl
             have q:=DE ρ .i64 n;refine ⟨goInt (Af U.V n).toNat,by simp [Builtin.len_,hat,harg,hE.run_und hd],?_⟩
             have e:goInt ((Af U.V n).toNat:Nat)=.int .i64 (Af U.V n):=by simp [goInt];omega
             rw [e];exact q)
          | (rename_i b es n nl a h0 hnl
             have q:=DE ρ .i64 n;rw [h0] at q;exact ⟨_,by simp [Builtin.len_,hat,harg,hE.run_und hd];rfl,q⟩)
    |map k e=>
      cases hx<;>simp only [hd] at ha<;>first | (cases ha;done)|skip
      · simp only [A1] at ha
        subst ha;exact ⟨goInt 0,by simp [Builtin.len_,hat,harg,hE.run_und hd],.int _ _⟩
      · rename_i b base hb
        cases hg:h.blk.get b with
        |none=>simp [hg] at ha
        |some y=>
          cases y with
          |map es clock=>
            simp only [hg,A1] at ha;subst ha;obtain ⟨es',e1,e2⟩:=hr.blk b base _ hb hg;have hget:=AY (w:=w) E.P e1 (by simp)
            refine ⟨goInt es'.length,by simp [Builtin.len_,hat,harg,hE.run_und hd,hget],?_⟩
            rw [e2.length];exact .int _ _
          |dmap kt vt x=>
            simp only [hg,A1] at ha;subst ha;obtain ⟨kks,vks,es',clock,_,_,e1,e2⟩:=hr.blk b base _ hb hg;have hget:=AY (w:=w) E.P e1 (by simp)
            refine ⟨goInt es'.length,by simp [Builtin.len_,hat,harg,hE.run_und hd,hget],?_⟩
            have q:=DE ρ .i64 (.lenL x);rw [As,←e2.length] at q;exact q
          |_=>simp [hg] at ha
    |_=>cases hx<;>simp [hd] at ha
end
end Go.AE
namespace Go.AE
variable [U:Unk]
theorem UE {c:Ren} (P:Program) (w:World) (k:IntKind):∀{l:List AV} {b:List Value} {x:Int} {a:AV},VL c l b→JN k x l=some a→∃v,(b.foldlM Builtin.max2 (.int k x)).run P w=.ok v w∧VR c a v:=by
 intro l
 induction l with
 |nil=>intro b x a hl h;rw [hl.nil_inv];simp only [JN,A1] at h;subst h;exact ⟨_,by simp,.int _ _⟩
 |cons y r d=>
  intro b x a hl h;obtain ⟨v,j,rfl,e,f⟩:=hl.cons_inv;cases e<;>simp only [JN] at h<;>first | (cases h;done)|skip
  obtain ⟨u,g,i⟩:=d f h;exact ⟨u,by simp only [List.foldlM_cons,Builtin.max2,B2,CU,A2];exact g,i⟩
theorem Uw {c:Ren} (P:Program) (w:World) (k:IntKind):∀{l:List AV} {b:List Value} {x:Int} {a:AV},VL c l b→Jh k x l=some a→∃v,(b.foldlM Builtin.min2 (.int k x)).run P w=.ok v w∧VR c a v:=by
 intro l
 induction l with
 |nil=>intro b x a hl h;rw [hl.nil_inv];simp only [Jh,A1] at h;subst h;exact ⟨_,by simp,.int _ _⟩
 |cons y r d=>
  intro b x a hl h;obtain ⟨v,j,rfl,e,f⟩:=hl.cons_inv;cases e<;>simp only [Jh] at h<;>first | (cases h;done)|skip
  obtain ⟨u,g,i⟩:=d f h;exact ⟨u,by simp only [List.foldlM_cons,Builtin.min2,B2,CU,A2];exact g,i⟩
theorem KM {b:Type} (a:Array b) (x:b) (f:b→b):(a.push x).modify a.size f=a.push (f x):=by
 apply Array.ext_getElem?;intro i;simp only [Array.getElem?_modify,Array.getElem?_push];by_cases h:i=a.size
 ·subst h;simp
 ·rw [if_neg (fun e=>h e.symm),if_neg h,if_neg h]
section
variable {E:Env} (hE:OK E) {ρ:Ren} {h:Aa} {w:World}
include hE
theorem Ro (q:HR ρ h.blk.get w) {s d:TypeId} {x a:AV} {J:Value} {h':Aa} (L:VR ρ x J) (c:Vi E s d x h=some (a,h')) (M:Bs ρ h.nx h'.nx) :
  Bj E ρ h h' w (convert s d J) a:=by
 unfold Vi at c;cases hs:E.desc s with
 |none=>rw [hs] at c;cases c
 |some g=>
  cases z:E.desc d with
  |none=>rw [hs,z] at c;cases g<;>cases c
  |some m=>
   rw [hs,z] at c;have us:=hE.run_und hs w;have r:=hE.run_und z w;cases L with
   |int k n=>
    cases m<;>first | (cases c;done) | (cases g<;>(cases c;done))|skip
    simp only [A1,E5] at c;obtain ⟨rfl,rfl⟩:=c;exact Bc q ⟨_,by simp [convert,us,r,Conv.intToInt],.int _ _⟩
   |si k e=>
    cases m<;>first | (cases c;done) | (cases g<;>(cases c;done))|skip
    simp only [A1,E5] at c;obtain ⟨rfl,rfl⟩:=c;exact Bc q ⟨_,by simp [convert,us,r,Conv.intToInt,Md],DE ρ _ (.conv _ e)⟩
   |ss i=>
    cases m<;>first | (cases c;done) | (cases g<;>(cases c;done))|skip
    simp only [A1,E5] at c;obtain ⟨rfl,rfl⟩:=c;refine Bc q ⟨.string (Ba U.V i),?_,.ss i⟩;cases g<;>simp [convert,us,r]
   |str t=>
    cases m<;>first | (cases c;done) | (cases g<;>(cases c;done))|skip
    ·simp only [A1,E5] at c;obtain ⟨rfl,rfl⟩:=c;refine Bc q ⟨.string t,?_,.str t⟩;cases g<;>simp [convert,us,r]
    ·rename_i e;simp only [] at c;cases A:E.desc e with
     |none=>rw [A] at c;cases c
     |some N=>
      have O:=hE.run_und A w;rw [A] at c;cases N<;>first | (cases c;done)|skip
      rename_i k;cases k<;>first | (cases c;done)|skip
      simp only [A1,E5] at c;obtain ⟨rfl,rfl⟩:=c;have o:ρ h.nx=none:=M h.nx (C1 _) (by simp [Aa.new])
      generalize j:grownCap w t.size 0 e=f;have u:t.size≤f:=by rw [←j];exact grownCap_ge w _ _ _
      generalize l:(t.data.map (fun b=>Value.int .u8 b.toNat)++Array.replicate (f-t.size) (.int .u8 0))=arr
      have y:arr.size=f:=by rw [←l];simp;omega
      have B:HR ρ h.blk.get {w with drawn:=w.drawn+1}:=q.same rfl
      obtain ⟨p1,p2⟩:=B.new o (.cells t.data.toList.length (.ofList (bytesOf t.data.toList.length (AL t.data.toList)))) (.cells arr e (arr.size,arr.size+1)) arr.size (by
       refine ⟨arr,e,_,rfl,rfl,?_,.inr (C1 _),?_⟩
       ·show 0+_≤arr.size;simp;omega
       ·intro i a hi c;rw [T.get_ofList,GN] at c;obtain ⟨v,Q,C⟩:=(Sq (ρ.upd h.nx ⟨w.heap.size,0,arr.size⟩) t.data.toList).get c;refine ⟨v,?_,C⟩;rw [←l];have D:i<t.size:=by simpa using hi
        simp only [R2];rw [fk (by simpa using D)]
        simpa using Q) {w with drawn:=w.drawn+1,heap:=w.heap.push (.cells arr e (arr.size,arr.size+1))} rfl rfl rfl rfl
      refine ⟨_,.slice (some ⟨w.heap.size,0,none⟩) t.size f,_,?_,?_,p1,p2.drawn rfl rfl rfl rfl⟩
      ·have F:(choose (.appendCap t.size 0 e)).run E.P w=.ok f {w with drawn:=w.drawn+1}:=by rw [←j];simp [Question.forced,grownCap]
       have p:(convert s d (.string t)).run E.P w=(Conv.stringToBytes e t).run E.P w:=by
        cases g<;>simp [convert,us,r,O]
       rw [p];simp only [Conv.stringToBytes,B2,F,A2,newRow,fc,CU,l];simp only [markStringish,B2,run_shape,A2];have G:({w with drawn:=w.drawn+1,heap:=w.heap.push (.cells arr e)}:World).shape? w.heap.size=some (e,arr.size):=by simp [World.shape?]
       rw [G];simp only [run_freeze,A2]
       have H:({w with drawn:=w.drawn+1,heap:=w.heap.push (.cells arr e)}:World).freeze ⟨w.heap.size,arr.size,none⟩ 1={w with drawn:=w.drawn+1,heap:=w.heap.push (.cells arr e (arr.size,arr.size+1))}:=by
        simp [World.freeze,KM]
       rw [H]
      ·have I:t.size=t.data.toList.length:=by simp
       rw [I] at u ⊢;exact VR.slice h.nx 0 _ 1 f _ (Ren.upd_same _ _ _) u (by simp [y])
   |slice0=>cases m<;>cases g<;>cases c
   |slice b off len R f K S j W=>cases m<;>cases g<;>cases c
   |_=>cases m<;>first | (cases c;done) | (cases g<;>(cases c;done))
end
end Go.AE
namespace Go.AE
variable [U:Unk]
theorem Ia (c:UInt8) (s:ByteArray):∀(n i:Nat),i+n=s.size→Ed c.toNat n (AL (s.data.toList.drop i)) i=(match (List.range' i n).find? (fun j=>s[j]! == c) with|some j=>(j:Int)|none=>-1)
 |0,i,h=>by simp [Ed]
 |n+1,i,h=>by
  have hi:i<s.data.toList.length:=by simp;omega
  have b:s.data.toList.drop i=s.data.toList[i]::s.data.toList.drop (i+1):=List.drop_eq_getElem_cons hi
  have d:s[i]! = s.data.toList[i]:=by
   have a:i<s.size:=by omega
   rw [getElem!_pos s i a];rfl
  obtain ⟨f,g⟩:=Ge s.data.toList[i] (s.data.toList.drop (i+1));rw [b];simp only [Ed,f,g,List.range'_succ,List.find?_cons,d];by_cases e:s.data.toList[i]=c
  ·rw [e];simp
  ·have e1:Nat.beq s.data.toList[i].toNat c.toNat=false:=Gr (fun q=>e (UInt8.toNat_inj.1 q))
   have k:(s.data.toList[i]==c)=false:=by simpa using e
   rw [e1,k];exact Ia c s n (i+1) (by omega)
section
variable {E:Env} (hE:OK E) {ρ:Ren} {h:Aa} {w:World}
include hE
theorem UQ {x a:AV} {q:Value} {n t:TypeId} {ok:Bool} (s:VR ρ x q) (c:P0 E x t ok=some a) :
  ∃v,(Instr.typeAssert q n t ok).run E.P w=.ok v w∧VR ρ a v:=by
 unfold P0 at c;cases o:E.desc t with
 |none=>rw [o] at c;cases c
 |some d=>
  rw [o] at c;have r:=hE.run_und o w
  have e:∀(v:AV) (g:Value) (b:Bool),VR ρ v g→VR ρ (.tuple [v,.bool b]) (.tuple #[g,.bool b]):=by
   intro v g b l;have:=VL.cons l (VL.cons (VR.bool (ρ:=ρ) b) (VL.nil ρ));exact .tuple _ [g,.bool b] this.1 this.2
  simp only [] at c;cases i:RQ d with
  |true=>simp [i] at c
  |false=>
   simp only [i] at c;cases s<;>first | (cases c;done)|skip
   ·rename_i m v g l;simp only [Qo] at c
    have f:(Instr.typeAssert (.iface m g) n t ok).run E.P w=(if m=t then (pure (if ok then .tuple #[g,.bool true] else g):Sem Value) else
      (if ok then (do pure (.tuple #[←zeroValue t,.bool false])) else runtimePanic (.typeAssertion (some n) (some m) t ""))).run E.P w:=by
     cases d<;>first | (cases i;done)|simp only [Instr.typeAssert,B2,r,A2]
    cases k:Nat.beq m t with
    |true=>
     have:=AK k;cases ok with
     |true=>
      simp only [k,A1] at c;subst c;exact ⟨_,by rw [f,if_pos this];rfl,e v g true l⟩
     |false=>
      simp only [k,A1] at c;subst c;exact ⟨_,by rw [f,if_pos this];rfl,l⟩
    |false=>
     have:=ZX k;cases ok with
     |true=>
      cases j:E.zero t with
      |none=>simp [k,j] at c
      |some z=>
       simp only [k,j,A1] at c;subst c;obtain ⟨p,z1,z2⟩:=hE.run_zero ρ j w;exact ⟨_,by rw [f,if_neg this];simp [z1],e z p false (Bg ρ z2)⟩
     |false=>simp [k] at c
   ·simp only [Qo] at c;cases ok with
    |false=>cases j:E.zero t<;>simp at c
    |true=>
     cases j:E.zero t with
     |none=>simp [j] at c
     |some z=>
      simp only [j,A1] at c;subst c;obtain ⟨p,z1,z2⟩:=hE.run_zero ρ j w;refine ⟨_,?_,e z p false (Bg ρ z2)⟩;cases d<;>first | (cases i;done)|simp [Instr.typeAssert,r,z1]
theorem XZ (d:HR ρ h.blk.get w) {t:TypeId} {x a:AV} {b:Value} {h':Aa} (e:VR ρ x b) (c:UO E t x h=some (a,h')) (f:Bs ρ h.nx h'.nx) :
  Bj E ρ h h' w (Instr.range t b) a:=by unfold UO at c;cases c
end
end Go.AE
namespace Go.AE
variable [U:Unk]
section
variable {E:Env} (hE:OK E) {ρ:Ren} {h:Aa} {w:World}
theorem Yn (e:HR ρ h.blk.get w) {it a:AV} {c:Value} {b:Bool} {ty:TypeId} {h':Aa} (hi:VR ρ it c) (d:aH it b h=some (a,h')) :
  Bj E ρ h h' w (Instr.next c b ty) a:=by unfold aH at d;cases d
theorem N9 (d:HR ρ h.blk.get w) {it a:AV} {b:Value} (hi:VR ρ it b) (c:Ir it h=some a) :
  ∃v,(Instr.entry b).run E.P w=.ok v w∧VR ρ a v:=by unfold Ir at c;cases c
theorem LO {nt:Nat} {tmps:T AV} {tm:Array Value} (b:TR ρ nt tmps tm) (o:Operand):VR ρ (Al tmps o) (match o with
  |.tmp t=>tm.getD t Go.undef
  |.const v=>v
  |.global g=>.pointer (some ⟨g,0,none⟩)
  |.func f=>.func (.func f) #[] #[]):=by
 cases o with
 |tmp t=>
  simp only [Al];cases c:tmps.get t with
  |none=>exact .top _
  |some a=>exact b.get t a c
 |const v=>
  simp only [Al];cases d:ofValue v with
  |none=>exact .top v
  |some a=>exact Bg ρ d
 |global g=>exact .top _
 |func f=>exact .func _ _ [] [] [] [] rfl rfl (by simp) rfl (by simp)
def EvR (ρ:Ren) (tmps:T AV) (ev:Operand→Value):Prop:=∀o,VR ρ (Al tmps o) (ev o)
theorem EvR.list {tmps:T AV} {ev:Operand→Value} (j:EvR ρ tmps ev):∀(l:List Operand),VL ρ (l.map (Al tmps)) (l.map ev)
 |[]=>VL.nil ρ
 |o::l=>VL.cons (j o) (EvR.list j l)
theorem EvR.parts {tmps:T AV} {ev:Operand→Value} (j:EvR ρ tmps ev):∀(l:List (Nat×Operand)),PL ρ (l.map fun (i,x)=>(i,Al tmps x)) (l.map fun (i,x)=>(i,ev x))
 |[]=>trivial
 | (i,x)::l=>⟨rfl,j x,EvR.parts j l⟩
end
end Go.AE
namespace Go.AE
variable [U:Unk]
def Gd (E:Env) (c:Ren) (h:Aa) (w:World) (s:Sem Next):Res→Prop
 |.val v h'=>Bs c h.nx h'.nx→∃i e g,(s.run E.P w=.ok (.value e) g∨(s.run E.P w=.ok .skip g∧e=Go.undef))∧VR i v e∧HR i h'.blk.get g∧Ext c i h h' w g
 |.enter f args h'=>h'=h∧∃a:List Value,VL c args a∧s.run E.P w=.ok (.enter f a.toArray) w
 |.round l args h'=>h'=h∧∃b,∃a:List Value,c l=some b∧VL c args a∧s.run E.P w=(Instr.yield b.cb a.toArray).run E.P w
 |.defer d h'=>h'=h∧∃j,DR c d j∧s.run E.P w=.ok (.defer j) w
 |.recover h'=>h'=h∧s.run E.P w=.ok .recover w
 |.panic v h'=>h'=h∧∃e,VR c v e∧s.run E.P w=.halt (.panic e) w
 |.bad _=>True
section
variable {E:Env} (hE:OK E) {ρ:Ren} {h:Aa} {w:World}
theorem BN {s:Sem Value} {b:String} {o:Option (AV×Aa)} (c:∀a h',o=some (a,h')→Bs ρ h.nx h'.nx→Bj E ρ h h' w s a) :
  Gd E ρ h w (do pure (.value (←s))) (FA b o):=by
 cases o with
 |none=>trivial
 |some p=>
  obtain ⟨a,h'⟩:=p;intro d;obtain ⟨e,v,f,g,i,j,k⟩:=c a h' rfl d;exact ⟨e,v,f,.inl (by simp [g]),i,j,k⟩
theorem Bo (c:HR ρ h.blk.get w) {s:Sem Value} {b:String} {o:Option AV} (d:∀a,o=some a→∃v,s.run E.P w=.ok v w∧VR ρ a v) :
  Gd E ρ h w (do pure (.value (←s))) (Ez h b o):=by
 cases o with
 |none=>trivial
 |some a=>
  intro g;obtain ⟨v,e,f⟩:=d a rfl;exact ⟨ρ,v,w,.inl (by simp [e]),f,c,Ext.refl ρ h w⟩
theorem Kq {s:Sem Unit} {b:String} {o:Option Aa} (c:∀h',o=some h'→∃a,s.run E.P w=.ok () a∧HR ρ h'.blk.get a∧Ext ρ ρ h h' w a) :
  Gd E ρ h w (do s;pure .skip) (Gv b o):=by
 cases o with
 |none=>trivial
 |some h'=>
  intro g;obtain ⟨a,d,e,f⟩:=c h' rfl;exact ⟨ρ,Go.undef,a,.inr ⟨by simp [d],rfl⟩,VR.undef ρ,e,f⟩
include hE
theorem Tp (A:HR ρ h.blk.get w) {f:FuncId} {fn:Func} (u:E.fn.get f=some fn) (B:fn.body=none) {args:List AV} {m:List Value} (N:VL ρ args m) :
  Gd E ρ h w (callFunc f m.toArray) (PE fn.name args h):=by
 have n:=hE.fn f fn u;have o:=hE.num f fn u;unfold PE;split
 ·rename_i hn;obtain ⟨c1,c2⟩:=hE.clone f fn u B hn;split
  ·rename_i t r;obtain ⟨v,l,rfl,C,hl⟩:=N.cons_inv;have:=hl.nil_inv;subst this;cases C with
   |iface t a v C=>
    cases C with
    |map b e D=>
     cases O:h.blk.get r with
     |none=>trivial
     |some y=>
      cases y with
      |map R d=>
       intro H;obtain ⟨k,e1,I⟩:=A.blk r e _ D O;have p:=AY (w:=w) E.P e1 (by simp)
       have j:ρ h.nx=none:=H h.nx (C1 _) (by simp [Aa.new])
       obtain ⟨p1,p2⟩:=A.new j (.map R d) (.map k.toArray d) 0 ⟨k,rfl,I.mono (Ren.le_upd j _)⟩ {w with heap:=w.heap.push (.map k.toArray d)} rfl rfl rfl rfl
       refine ⟨_,.iface t (.map (some w.heap.size)),_,.inl ?_,?_,p1,p2⟩
       ·simp only [callFunc,B2,run_program,A2,n,o,B,Option.isNone_none,E2,ez,if_true,run_mark,c1,c2]
        have q:Extern.MapsClone.clone #[.iface t (.map (some e.cb))]=(do
          let .map g d ←getObj e.cb|stuck "maps.clone: a map expected"
          pure (.iface t (.map (some (←newObj (.map g d)))))):=rfl
        show ((Extern.MapsClone.clone #[.iface t (.map (some e.cb))]).run E.P w).andThen _=_;rw [q];simp only [B2,p,A2,fc,CU]
       ·exact .iface t _ _ (.map h.nx _ (Ren.upd_same _ _ _))
      |dmap S T x=>
       intro H;obtain ⟨J,K,k,d,k1,k2,e1,I⟩:=A.blk r e _ D O;have p:=AY (w:=w) E.P e1 (by simp)
       have j:ρ h.nx=none:=H h.nx (C1 _) (by simp [Aa.new])
       obtain ⟨p1,p2⟩:=A.new j (.dmap S T x) (.map k.toArray d) 0 ⟨J,K,k,d,k1,k2,rfl,I⟩ {w with heap:=w.heap.push (.map k.toArray d)} rfl rfl rfl rfl
       refine ⟨_,.iface t (.map (some w.heap.size)),_,.inl ?_,?_,p1,p2⟩
       ·simp only [callFunc,B2,run_program,A2,n,o,B,Option.isNone_none,E2,ez,if_true,run_mark,c1,c2]
        have q:Extern.MapsClone.clone #[.iface t (.map (some e.cb))]=(do
          let .map g d ←getObj e.cb|stuck "maps.clone: a map expected"
          pure (.iface t (.map (some (←newObj (.map g d)))))):=rfl
        show ((Extern.MapsClone.clone #[.iface t (.map (some e.cb))]).run E.P w).andThen _=_;rw [q];simp only [B2,p,A2,fc,CU]
       ·exact .iface t _ _ (.map h.nx _ (Ren.upd_same _ _ _))
      |_=>trivial
  ·trivial
 ·rename_i hn;obtain ⟨c1,c2⟩:=hE.ixb f fn u B hn;split
  ·rename_i l b c;cases z:Nat.blt c 256 with
   |false=>trivial
   |true=>
   intro H;have Q:=N4 z;obtain ⟨v,r,rfl,C,hl⟩:=N.cons_inv;obtain ⟨v2,r2,rfl,L,M⟩:=hl.cons_inv;have:=M.nil_inv;subst this;cases C;cases L;rename_i s;refine ⟨ρ,.int .i64 (Ed c s.data.toList.length (AL s.data.toList) 0),w,.inl ?_,.int _ _,A,Ext.refl ρ h w⟩;simp only [callFunc,B2,run_program,A2,n,o,B,Option.isNone_none,E2,ez,if_true,run_mark,c1,c2]
   have q:Extern.BytealgIndexByte.indexByte #[.string s,.int .u8 (Int.ofNat c)]=(do
     let b ←Extern.Bytes.bytesOf (.string s)
     let c ←Extern.Bytes.asByte (.int .u8 (Int.ofNat c))
     match (List.range b.size).find? fun i=>b[i]! == c with
     |some i=>pure (goInt i)
     |none=>pure (goInt (-1))):=rfl
   show ((Extern.BytealgIndexByte.indexByte #[.string s,.int .u8 (Int.ofNat c)]).run E.P w).andThen _=_;rw [q];have F:=Ia (Nat.toUInt8 c) s s.size 0 (by omega)
   have V:(Nat.toUInt8 c).toNat=c:=by
    simp [Nat.toUInt8];omega
   have G:s.data.toList.length=s.size:=by simp
   rw [V,List.drop_zero] at F;rw [G,F,←List.range_eq_range'];simp only [B2,Extern.Bytes.bytesOf,Extern.Bytes.asByte,CU,A2,Int.ofNat_eq_natCast,Int.toNat_natCast];cases (List.range s.size).find? (fun i=>s[i]! == Nat.toUInt8 c)<;>simp [goInt]
  ·trivial
 ·trivial
theorem YW (g:HR ρ h.blk.get w) {f:FuncId} {args:List AV} {a:List Value} (e:VL ρ args a):Gd E ρ h w (callFunc f a.toArray) (ZR E f args h):=by
 unfold ZR;cases d:E.fn.get f with
 |none=>trivial
 |some fn=>
  cases b:fn.body with
  |none=>simp only [];rw [b];exact Tp hE g d b e
  |some c=>
   simp only [];rw [b];refine ⟨rfl,a,e,?_⟩;simp only [callFunc,B2,run_program,A2,hE.fn f fn d,hE.num f fn d,b,Option.isNone_some,E2,ez,CU]
theorem ES (e:HR ρ h.blk.get w) {fn fn':Fn} {captured args:List AV} {captured' a:List Value} (b:FnR ρ fn fn') (g:VL ρ captured captured') (c:VL ρ args a) :
  Gd E ρ h w (invoke (.fn fn' captured'.toArray) a.toArray) (Fm E fn captured args h):=by
 cases fn with
 |func f=>
  simp only [FnR] at b;subst b;simp only [Fm,invoke];have:=YW (w:=w) hE e (f:=f) (c.append g);simpa using this
 |yield l=>
  obtain ⟨base,i,rfl⟩:=b;simp only [Fm];exact ⟨rfl,base,a,i,c,rfl⟩
 |methodOf t name=>trivial
 |via t d f ptr=>trivial
 |method name=>trivial
end
end Go.AE
namespace Go.AE
variable [U:Unk]
theorem LL {e:SB} (h:NT e=true):Ah U.V e=true:=by
 unfold NT at h;split at h
 ·rename_i a;exact AA U.ok a
 ·cases h
theorem Ly {e:SB} (h:W3 e=true):Ah U.V e=false:=by
 unfold W3 at h;split at h
 ·rename_i a;exact AA U.ok a
 ·cases h
theorem QO {i n:SE} (h:inR i n=true):0≤Af U.V i∧Af U.V i<Af U.V n:=by
 unfold inR at h;obtain ⟨c,d⟩:=AC h;have a:=Ly c;have b:=LL d;rw [AB,L2,CB] at a;rw [AB,F4] at b;omega
theorem J9 {ρ:Ren} {x i:SE} {j:Nat} {kd:Kd} {v:Value} (h:DV U.K ρ.imm kd v (Ab U.V (.cell x i j))):VR ρ (Ks x i j kd) v:=by
 cases h with
 |int k n _ p e=>
  have e:Af U.V (.cell x i j)=n:=e;simp only [Ks];split
  ·have:=DE ρ k (.cell x i j);rw [e] at this;exact this
  ·rename_i g;have o:=p.resolve_left (by simpa using g)
   have:=DE ρ k (.conv k (.cell x i j));rw [Md,e,Hp k n o.1 o.2] at this;exact this
 |bool b _ e=>
  have:=Ho ρ true (.cell x i j);have e:(Ah U.V (.cell x i j)==true)=b:=by unfold Ah;rw [e];cases b<;>rfl
  rw [e] at this;exact this
 |str s _ e=>
  have:=VR.ss (ρ:=ρ) (.cell x i j);have e:Ba U.V (.cell x i j)=s:=e;rw [e] at this;exact this
 |nil e _ d l=>exact .dat e _ _ _ _ (.nil e _ d l)
 |empty e a c _ d l=>exact .dat e _ _ _ _ (.empty e a c _ d l)
 |slc e b off n c _ q arr g r hn t d m f u=>exact .dat e _ _ _ _ (.slc e b off n c _ q arr g r hn t d m f u)
omit U in
theorem kinds_size {E:Env} {ar:Bool} {n:Nat} {t:TypeId} {ks:List Kd} (h:Et ar E.desc E.szIs n t=some ks):E.szIs t ks.length=true∧∃m,n=m+1∧J5 ar E.szIs (Et ar E.desc E.szIs m) (E.desc t)=some ks:=by
 cases n with
 |zero=>cases h
 |succ m=>
  simp only [Et] at h;split at h
  ·rename_i l hl;split at h
   ·rename_i hs;cases h;exact ⟨hs,m,rfl,hl⟩
   ·cases h
  ·cases h
omit U in
theorem Env.kinds_size {E:Env} {t:TypeId} {ks:List Kd} (h:E.kinds t=some ks):E.szIs t ks.length=true:=(AE.kinds_size h).1
omit U in
theorem DV.at {K:TypeId→Option (List Kd)} {M:Nat→Option (Array Value)} {e:TypeId} {a:Option Addr} {n cap:Nat} {d:D} (h:DV K M (.slice e) (.slice a n cap) d) (hn:0<n):∃b o,a=some ⟨b,o,none⟩∧n≤cap:=by
 cases h
 ·omega
 ·omega
 ·exact ⟨_,_,rfl,by assumption⟩
omit U in
theorem DV.row {K:TypeId→Option (List Kd)} {M:Nat→Option (Array Value)} {e:TypeId} {b o n cap i:Nat} {d:D} {ks:List Kd} (h:DV K M (.slice e) (.slice (some ⟨b,o,none⟩) n cap) d) (hk:K e=some ks) (hi:i<n) :
  ∃arr,M b=some arr∧o+n*ks.length≤arr.size∧d.rows.length=n∧∀j kd,ks[j]?=some kd→DV K M kd (arr.getD (o+i*ks.length+j) Go.undef) ((d.rows.getD i default).cells.getD j default):=by
 cases h with
 |empty=>omega
 |slc _ _ _ _ _ _ ks' arr hk' ha hn hc h1 hin hrow hv=>
  rw [hk] at hk';cases hk';exact ⟨arr,ha,hin,hn,fun j kd hj=>hv i j kd hi hj⟩
omit U in
theorem By.row {K:TypeId→Option (List Kd)} {M:Nat→Option (Array Value)} {ks:List Kd} {cur:Array Value} {o i:Nat} {rows:List D} (h:By K M ks cur o rows) (hi:i<rows.length) :
  o+rows.length*ks.length≤cur.size∧∀j kd,ks[j]?=some kd→DV K M kd (cur.getD (o+i*ks.length+j) Go.undef) ((rows.getD i default).cells.getD j default):=
 ⟨h.1,fun j kd hj=>h.2.2 i j kd hi hj⟩
section
variable {E:Env} (hE:OK E) {ρ:Ren} {h:Aa} {w:World}
include hE
omit hE in
theorem IE {ks:List Kd} {y i:SE} {arr:Array Value} {p:Nat} (hv:∀j kd,ks[j]?=some kd→DV U.K ρ.imm kd (arr.getD (p+j) Go.undef) (Ab U.V (.cell y i j))) :
  ∀(n j:Nat) (l:List AV),HN y i ks j n=some l→(n=0∨j+n≤ks.length)∧l.length=n∧∀q a,l[q]?=some a→VR ρ a (arr.getD (p+j+q) Go.undef)
 |0,j,l,hl=>by
  simp only [HN,A1] at hl;subst hl;exact ⟨.inl rfl,rfl,fun q a hq=>by simp at hq⟩
 |n+1,j,l,hl=>by
  simp only [HN] at hl;split at hl
  ·rename_i k l' hk hl';cases hl;obtain ⟨h1,h2,h3⟩:=IE hv n (j+1) l' hl';have hjl:j<ks.length:=(B3.1 hk).1;refine ⟨.inr (by omega),by simp [h2],fun q a hq=>?_⟩
   cases q with
   |zero=>
    simp only [D1,A1] at hq;subst hq;exact J9 (hv j k hk)
   |succ q=>
    simp only [EQ] at hq;have:=h3 q a hq;rw [show p+j+(q+1)=p+(j+1)+q by omega]
    exact this
  ·cases hl
theorem Mf {t e:TypeId} {ks:List Kd} {y i:SE} {off b p:Nat} {u:Nat×Nat} {arr:Array Value} {a:AV} (z:w.heap[b]?=some (.cells arr e u)) (B:p+ks.length≤arr.size)
  (hv:∀j kd,ks[j]?=some kd→DV U.K ρ.imm kd (arr.getD (p+j) Go.undef) (Ab U.V (.cell y i j))) (hl:LP E t ks y i off=some a) :
  ∃v,(Instr.loadAt t (.pointer (some ⟨b,p+off,none⟩))).run E.P w=.ok v w∧VR ρ a v:=by
 unfold LP at hl;split at hl
 ·rename_i d A;unfold Instr.loadAt loadVar;simp only [Instr.sureAddr,B2,CU,A2,hE.run_isAgg A];split at hl
  ·rename_i c;split at hl
   ·rename_i l hc;cases hl;obtain ⟨h1,h2,h3⟩:=IE hv _ _ _ hc;simp only [c,if_true,B2,hE.run_size A,A2];by_cases g:E.size t=0
    ·rw [g];refine ⟨.agg #[],by simp [loadCells,loadCellsFrom],?_⟩
     have:l=[]:=by rw [g] at h2;exact F0 h2
     subst this;exact .agg [] [] rfl (by simp)
    ·have C:off+E.size t≤ks.length:=h1.resolve_left g;rw [AQ E.P w b (p+off) (E.size t) arr e u z (by omega)]
     simp only [A2,CU];refine ⟨_,rfl,.agg _ _ (by simp;omega) ?_⟩
     intro q x v hq f;have r:q<E.size t:=by have:=(B3.1 hq).1;omega
     have:=h3 q x hq;rw [XB,if_pos r,SX,K3] at f;have ev:arr.getD (p+off+q) Go.undef=v:=by simp [C2,f]
     rw [ev] at this;exact this
   ·cases hl
  ·rename_i c;split at hl
   ·rename_i k hk;cases hl;have F:off<ks.length:=(B3.1 hk).1;have s:p+off<arr.size:=by omega
    have hc:w.cell? ⟨b,p+off,none⟩=some (arr.getD (p+off) Go.undef):=by
     simp [World.cell?,z,C2,s]
    simp only [c,E2,ez,run_load,hc];exact ⟨_,rfl,J9 (hv off k hk)⟩
   ·cases hl
 ·cases hl
theorem YV (r:HR ρ h.blk.get w) {t:TypeId} {x a:AV} {A:Value} (s:VR ρ x A) (hl:Z1 E t x h=some a) :
  ∃v,(Instr.loadAt t A).run E.P w=.ok v w∧VR ρ a v:=by
 unfold Z1 at hl;split at hl
 ·rename_i e y i off;split at hl
  ·rename_i ks hk;cases s with
   |dptr _ _ _ _ b o n cap ks' B hk' C hi L=>
    have c:U.K e=some ks:=by rw [hE.kd,←hE.ke];exact hk
    rw [c] at hk';cases hk';obtain ⟨arr,a1,a2,a3,a4⟩:=B.row c hi;obtain ⟨F,G,H⟩:=r.imm b arr a1;have g:((Af U.V i).toNat+1)*ks.length≤n*ks.length:=F3 _ hi;rw [ce,Nat.one_mul] at g;exact Mf hE (p:=o+(Af U.V i).toNat*ks.length) H (by omega) a4 hl
  ·cases hl
 ·rename_i b N i off;split at hl
  ·rename_i e y I;split at hl
   ·rename_i ks hk;split at hl
    ·rename_i hc;obtain ⟨c1,c2⟩:=AC hc;have u:=AK c1;subst u;obtain ⟨O,r1⟩:=QO c2
     try rw [As,D6,←As] at r1
     rw [As] at r1;cases s with
     |aptr _ _ _ _ f z C=>
      obtain ⟨ks',cur,F,G,b1,b2,b3,Q,J⟩:=r.blk b f _ z I;have c:U.K e=some ks:=by rw [hE.kd,←hE.ke];exact hk
      rw [c] at b1;cases b1;have hi:(Af U.V i).toNat<(Ab U.V y).rows.length:=by omega
      obtain ⟨a2,a4⟩:=J.row hi;have g:((Af U.V i).toNat+1)*ks.length≤(Ab U.V y).rows.length*ks.length:=F3 _ hi;rw [ce,Nat.one_mul] at g;exact Mf hE (p:=f.co+(Af U.V i).toNat*ks.length) b2 (by omega) a4 hl
    ·cases hl
   ·cases hl
  ·cases hl
 ·exact Sp hE r s hl
theorem N1 {t:TypeId} {x i a:AV} {R S:Value} (B:VR ρ x R) (hi:VR ρ i S) (hl:IK E t x i=some a) :
  ∃v,(Instr.indexAt t R S).run E.P w=.ok v w∧VR ρ a v:=by
 unfold IK at hl;split at hl
 ·rename_i H y;split at hl
  ·rename_i e k r u z;split at hl
   ·rename_i T W hk;split at hl
    ·rename_i hc;cases hl;obtain ⟨c1,c2⟩:=AC hc;have X:=AK c1;subst X;obtain ⟨I,r1⟩:=QO c2
     try rw [As,D6,←As] at r1
     rw [As] at r1;have A:=DS hi z;subst A;have s:U.K e=some (T::W):=by rw [hE.kd,←hE.ke];exact hk
     cases B with
     |dat _ _ ad n cap g=>
      obtain ⟨_,_,_,Y,Z⟩:=g.slice_inv;cases Y;rw [Z] at r1;obtain ⟨b,o,rfl,C⟩:=g.at (by omega)
      refine ⟨.pointer (some ⟨b,o+(Af U.V r).toNat*(T::W).length+0,none⟩),?_,.dptr e y r 0 b o n cap _ g s I (by omega) (by simp)⟩
      have c:0≤Af U.V r∧Af U.V r<n:=by omega
      simp [Instr.indexAt,asIntOf,hE.run_und u,hE.run_szIs (Env.kinds_size hk),c,CG]
    ·cases hl
   ·cases hl
  ·cases hl
 ·rename_i b G n nl;split at hl
  ·rename_i e k r u z;split at hl
   ·rename_i hc;cases hl;obtain ⟨c1,c2⟩:=AC hc;obtain ⟨I,r1⟩:=QO c2
    try rw [As,D6,←As] at r1
    have A:=DS hi z;subst A;cases B with
    |asl _ _ _ _ cap f J F C hz L=>
     refine ⟨.pointer (some ⟨f.cb,f.co+(Af U.V r).toNat*G+0,none⟩),?_,.aptr b G r 0 f J I⟩;have c:0≤Af U.V r∧Af U.V r<((Af U.V n).toNat:Int):=by omega
     generalize (Af U.V n).toNat=N at c;simp [Instr.indexAt,asIntOf,hE.run_und u,hE.run_szIs c1,c,CG]
    |aslEnd _ _ _ _ ad F L=>omega
   ·cases hl
  ·cases hl
 ·rename_i b G O off;split at hl
  ·rename_i len e n u hn;split at hl
   ·rename_i hc;cases hl;obtain ⟨c1,c2⟩:=AC hc;obtain ⟨k,rfl⟩:=FP (LC hi) hn;have c:=N4 c1;cases B with
    |aptr _ _ _ _ f J F=>
     have:=VR.aptr (ρ:=ρ) b G O (off+n*E.size e) f J F;rw [←hS] at this;refine ⟨_,?_,this⟩;simp [Instr.indexAt,asIntOf,hE.run_und u,hE.run_has c2,Instr.sureAddr,c,CG]
   ·cases hl
  ·cases hl
 ·rename_i H y O off;split at hl
  ·rename_i len e n ks u hn hk;split at hl
   ·rename_i hc;cases hl;obtain ⟨c0,c3⟩:=AC hc;obtain ⟨c1,c2⟩:=AC c0;obtain ⟨k,rfl⟩:=FP (LC hi) hn;have c:=N4 c1;cases B with
    |dptr _ _ _ _ b o n' cap ks' g hk' F Q ho=>
     have s:U.K H=some ks:=by rw [hE.kd,←hE.ke];exact hk
     rw [s] at hk';cases hk';have:=VR.dptr (ρ:=ρ) H y O (off+n*E.size e) b o n' cap ks g s F Q (N4 c3);rw [←hS] at this;refine ⟨_,?_,this⟩;simp [Instr.indexAt,asIntOf,hE.run_und u,hE.run_has c2,Instr.sureAddr,c,CG]
   ·cases hl
  ·cases hl
 ·exact NS hE B (LC hi) hl
theorem KP {t:TypeId} {c:Array Field} {f:Nat} {fd:Field} (s:E.desc t=some (.struct c)) (u:c.toList[f]?=some fd) {n:Nat} (hs:E.size fd.type=n+1) (b o:Nat) :
  (Instr.fieldAt t (.pointer (some ⟨b,o,none⟩)) f).run E.P w=.ok (.pointer (some ⟨b,o+fd.offset,none⟩)) w:=by
 have g:c[f]?=some fd:=by simpa using u
 have r:∀w,(sizeOf fd.type).run E.P w=.ok (n+1) w:=by
  intro w;unfold Env.size at hs;cases hi:E.ty.get fd.type with
  |none=>simp [hi] at hs
  |some i=>simp only [hi] at hs;rw [hE.run_sz hi,hs]
 simp [Instr.fieldAt,hE.run_und s,g,Instr.sureAddr,fieldPlace,r,CG]
theorem N7 {t:TypeId} {x a:AV} {f:Nat} {C:Value} (r:VR ρ x C) (hl:It E t x f=some a) :
  ∃v,(Instr.fieldAt t C f).run E.P w=.ok v w∧VR ρ a v:=by
 unfold It at hl;split at hl
 ·rename_i e y i off;split at hl
  ·rename_i F ks s hk;split at hl
   ·rename_i fd u;split at hl
    ·rename_i n hs z;cases hl;cases r with
     |dptr _ _ _ _ b o G cap ks' A hk' B hi J=>
      have g:U.K e=some ks:=by rw [hE.kd,←hE.ke];exact hk
      rw [g] at hk';cases hk';have:=VR.dptr (ρ:=ρ) e y i (off+fd.offset) b o G cap ks A g B hi (N4 z);rw [←hS] at this;exact ⟨_,KP hE s u hs b _,this⟩
    ·cases hl
   ·cases hl
  ·cases hl
 ·rename_i b H i off;split at hl
  ·rename_i F s;split at hl
   ·rename_i fd u;split at hl
    ·cases hl
    ·rename_i n hs;cases hl;cases r with
     |aptr _ _ _ _ c z B=>
      have:=VR.aptr (ρ:=ρ) b H i (off+fd.offset) c z B;rw [←hS] at this
      obtain ⟨m,I⟩:∃m,E.size fd.type=m+1:=by
       cases hq:E.size fd.type with
       |zero=>exact absurd hq hs
       |succ m=>exact ⟨m,rfl⟩
      exact ⟨_,KP hE s u I c.cb _,this⟩
   ·cases hl
  ·cases hl
 ·exact NZ hE r hl
end
end Go.AE
namespace Go.AE
variable [U:Unk]
omit U in
theorem mi {a:AV} (h:a.isTop=false):a≠.top:=by rintro rfl;cases h
theorem EC:∀(l:List UInt8),DO l.length (AL l)=l
 |[]=>rfl
 |b::r=>by
  have h:=Ge b r;simp only [F2,DO,h.1,h.2,EC r]
  congr 1
  simp
theorem LD {i:Ren} {kd:Kd} {a:AV} {v:Value} {x:SE} (h:VR i a v) (hs:fF kd a=some x):DV U.K i.imm kd v (Ab U.V x):=by
 unfold fF at hs;split at hs
 ·rename_i k f n;split at hs
  ·rename_i d;cases hs;cases h;obtain ⟨c1,c2⟩:=AC d;have g:k=f:=by simpa using c1
   subst g;refine .int k n _ ?_ rfl;simpa using c2
  ·cases hs
 ·rename_i k f e;split at hs
  ·rename_i d;cases hs;cases h;obtain ⟨c1,c2⟩:=AC d;have g:k=f:=by simpa using c1
   subst g;refine .int k _ _ ?_ rfl;rcases Bool.or_eq_true_iff.1 c2 with c|c
   ·exact .inl (by simpa using c)
   ·right;have j:=Ha U.ok x;unfold Qx at c;split at c
    ·rename_i l h hl m;simp only [B1,F4] at c;have o:=j.1 l hl;have p:=j.2 h m;omega
    ·cases c
  ·cases hs
 ·rename_i b;cases hs;cases h;exact .bool b _ rfl
 ·rename_i pos e;cases hs;cases h;refine .bool _ _ ?_;cases pos with
  |true=>show (Ab U.V e).toBool=_;unfold Ah;cases (Ab U.V e).toBool<;>rfl
  |false=>show (!(Ab U.V e).toBool)=_;unfold Ah;cases (Ab U.V e).toBool<;>rfl
 ·rename_i l b;cases hs;cases h;refine .str _ _ ?_;show (⟨(DO _ _).toArray⟩:ByteArray)=_;rw [EC]
 ·cases hs;cases h;exact .str _ _ rfl
 ·rename_i e q y;split at hs
  ·rename_i d;cases hs;have:=AK d;subst this;cases h
   assumption
  ·cases hs
 ·cases hs;cases h;exact .nil _ _ rfl rfl
 ·cases hs
omit U in
theorem List.getD_modify (l:List D) (i:Nat) (f:D→D) (q:Nat) (hq:q<l.length):(l.modify i f).getD q default=if i=q then f (l.getD q default) else l.getD q default:=by
 simp only [A4,List.getElem?_modify];split
 ·rename_i h;subst h;simp [hq]
 ·simp [hq]
theorem By.upd {ρ:Ren} {ks:List Kd} {C cur':Array Value} {o j:Nat} {y i x:SE} {kd:Kd} {v:Value} (h:By U.K ρ.imm ks C o (Ab U.V y).rows) (hi:(Af U.V i).toNat<(Ab U.V y).rows.length) (hj:ks[j]?=some kd)
  (hd:DV U.K ρ.imm kd v (Ab U.V x)) (hs:cur'.size=C.size) (hg:∀p,cur'[p]?=if p=o+(Af U.V i).toNat*ks.length+j then some v else C[p]?):By U.K ρ.imm ks cur' o (Ab U.V (.upd y i j x)).rows:=by
 have er:(Ab U.V (.upd y i j x)).rows=(Ab U.V y).rows.modify (Af U.V i).toNat fun r=>.row (r.cells.set j (Ab U.V x)):=rfl
 have el:(Ab U.V (.upd y i j x)).rows.length=(Ab U.V y).rows.length:=by rw [er];simp
 obtain ⟨h1,h2,h3⟩:=h;have bm:j<ks.length:=(B3.1 hj).1;refine ⟨by rw [el,hs];exact h1,fun q hq=>?_,fun q c av hq hc=>?_⟩
 ·rw [el] at hq;rw [er,List.getD_modify _ _ _ _ hq];split
  ·simp only [D.cells,List.length_set];exact h2 q hq
  ·exact h2 q hq
 ·rw [el] at hq;have bd:c<ks.length:=(B3.1 hc).1;have I:=h3 q c av hq hc;rw [er,List.getD_modify _ _ _ _ hq];by_cases ab:(Af U.V i).toNat=q
  ·rw [if_pos ab];simp only [D.cells];by_cases ar:c=j
   ·subst ar;rw [hj] at hc;cases hc;have e1:cur'.getD (o+q*ks.length+c) Go.undef=v:=by simp [C2,hg,ab]
    have e2:((((Ab U.V y).rows.getD q default).cells.set c (Ab U.V x)).getD c default)=Ab U.V x:=by
     have:=h2 q hq;generalize ((Ab U.V y).rows.getD q default).cells=cl at this ⊢;simp [A4,this,bd]
    rw [e1];simp only [D.cells] at e2;rw [e2];exact hd
   ·have e1:cur'.getD (o+q*ks.length+c) Go.undef=C.getD (o+q*ks.length+c) Go.undef:=by
     simp only [C2,hg,ab];rw [if_neg (by omega)]
    have e2:((((Ab U.V y).rows.getD q default).cells.set j (Ab U.V x)).getD c default)=((Ab U.V y).rows.getD q default).cells.getD c default:=by
     simp only [A4];rw [List.getElem?_set_ne (fun e=>ar e.symm)]
    rw [e1];simp only [D.cells] at e2 I ⊢;rw [e2];exact I
  ·rw [if_neg ab]
   have e1:cur'.getD (o+q*ks.length+c) Go.undef=C.getD (o+q*ks.length+c) Go.undef:=by
    simp only [C2,hg];rw [if_neg ?_];intro e;have J:(Af U.V i).toNat<q∨q<(Af U.V i).toNat:=by omega
    rcases J with J|J
    ·have:=F3 ks.length J;rw [Nat.succ_mul] at this;omega
    ·have:=F3 ks.length J;rw [Nat.succ_mul] at this;omega
   rw [e1];exact I
theorem Oz {n:Ren} {b:List Kd} {o:Nat} {i:SE}:∀(l:List AV) (vs:List Value) (j:Nat) (y m:SE) (d cur':Array Value),By U.K n.imm b d o (Ab U.V y).rows→(Af U.V i).toNat<(Ab U.V y).rows.length→Eb i b y j l=some m→VL n l vs→
  cur'.size=d.size→(∀p,cur'[p]?=if o+(Af U.V i).toNat*b.length+j≤p∧p<o+(Af U.V i).toNat*b.length+j+vs.length then vs[p-(o+(Af U.V i).toNat*b.length+j)]? else d[p]?)→
  By U.K n.imm b cur' o (Ab U.V m).rows
 |[],vs,j,y,m,d,cur',h,hi,g,s,hs,t=>by
  simp only [Eb,A1] at g;subst g;have:=s.nil_inv;subst this
  have:cur'=d:=by
   apply Array.ext_getElem?;intro p;rw [t,if_neg (by simp)]
  rw [this];exact h
 |a::r,vs,j,y,m,d,cur',h,hi,g,s,hs,t=>by
  obtain ⟨v,w,rfl,A,B⟩:=s.cons_inv;simp only [Eb] at g;split at g
  ·rename_i k z;split at g
   ·rename_i x C;have E:=LD A C;have F:j<b.length:=(B3.1 z).1;have u:((Af U.V i).toNat+1)*b.length≤(Ab U.V y).rows.length*b.length:=F3 _ hi;rw [ce,Nat.one_mul] at u;have G:=h.1
    have H:=h.upd (cur':=d.setIfInBounds (o+(Af U.V i).toNat*b.length+j) v) hi z E (by simp) (fun p=>by
     rw [Array.getElem?_setIfInBounds];by_cases e:o+(Af U.V i).toNat*b.length+j=p
     ·rw [if_pos e,if_pos e.symm,if_pos (by omega)]
     ·rw [if_neg e,if_neg (fun q=>e q.symm)])
    have el:(Ab U.V (.upd y i j x)).rows.length=(Ab U.V y).rows.length:=by
     have I:(Ab U.V (.upd y i j x)).rows=(Ab U.V y).rows.modify (Af U.V i).toNat fun r=>.row (r.cells.set j (Ab U.V x)):=rfl
     rw [I];simp
    refine Oz r w (j+1) _ m _ cur' H (by rw [el];exact hi) g B (by rw [hs];simp) (fun p=>?_)
    rw [t];simp only [F2];by_cases e:p=o+(Af U.V i).toNat*b.length+j
    ·subst e;rw [if_pos (by omega),if_neg (by omega),Array.getElem?_setIfInBounds_self]
     rw [if_pos (by omega)]
     simp
    ·by_cases c:o+(Af U.V i).toNat*b.length+j≤p∧p<o+(Af U.V i).toNat*b.length+j+(w.length+1)
     ·rw [if_pos c,if_pos (by omega)]
      rw [show p-(o+(Af U.V i).toNat*b.length+j)=(p-(o+(Af U.V i).toNat*b.length+(j+1)))+1 by omega]
      simp
     ·rw [if_neg c,if_neg (by omega),X1 (fun q=>e q.symm)]
   ·cases g
  ·cases g
section
variable {E:Env} (hE:OK E) {ρ:Ren} {h:Aa} {w:World}
include hE
omit hE in
theorem Nq {i:SE} {ks:List Kd}:∀(l:List AV) (j:Nat) (y y':SE),Eb i ks y j l=some y'→j+l.length≤ks.length∨l=[]
 |[],_,_,_,_=>.inr rfl
 |a::r,j,y,y',hu=>by
  simp only [Eb] at hu;split at hu
  ·rename_i k hk;split at hu
   ·rename_i x hx;have hjl:j<ks.length:=(B3.1 hk).1;rcases Nq r (j+1) _ _ hu with h|h
    ·left;simp only [F2];omega
    ·left;subst h;simp;omega
   ·cases hu
  ·cases hu
omit hE in
theorem Hk {i:SE} {ks:List Kd}:∀(l:List AV) (vs:List Value) (j:Nat) (y y':SE),Eb i ks y j l=some y'→VL ρ l vs→∀v∈vs,v.oneCell'=true
 |[],vs,_,_,_,_,hv,v,hm=>by have:=hv.nil_inv;subst this;cases hm
 |a::r,vs,j,y,y',hu,hv,v,hm=>by
  obtain ⟨v0,vr,rfl,ha,hr⟩:=hv.cons_inv;simp only [Eb] at hu;split at hu
  ·rename_i k hk;split at hu
   ·rename_i x hx;rcases F5.1 hm with rfl|hm
    ·have:=LD ha hx;cases this<;>rfl
    ·exact Hk r vr (j+1) _ _ hu hr v hm
   ·cases hu
  ·cases hu
theorem JY (hr:HR ρ h.blk.get w) {t:TypeId} {x a:AV} {J v:Value} {h':Aa} (hx:VR ρ x J) (ha:VR ρ a v) (hl:Er E t x a h=some h') :
  ∃g,(Instr.storeAt t J v).run E.P w=.ok () g∧HR ρ h'.blk.get g∧Ext ρ ρ h h' w g:=by
 unfold Er at hl;split at hl
 ·rename_i b es i off;split at hl
  ·rename_i e y L;split at hl
   ·rename_i ks hk;split at hl
    ·rename_i Q;split at hl
     ·rename_i y' hu;cases hl;obtain ⟨u,c4⟩:=AC Q;obtain ⟨c12,c3⟩:=AC u;obtain ⟨c1,c2⟩:=AC c12;have C:=AK c1;subst C;obtain ⟨r0,r1⟩:=QO c2
      try rw [As,D6,←As] at r1
      rw [As] at r1;have o:=ha.cells (mi (by simpa using c4))
      cases hx with
      |aptr _ _ _ _ c z h0=>
       obtain ⟨R,m,F,G,b1,b2,b3,M,N⟩:=hr.blk b c _ z L;have A:U.K e=some ks:=by rw [hE.kd,←hE.ke];exact hk
       rw [A] at b1;cases b1;have hi:(Af U.V i).toNat<(Ab U.V y).rows.length:=by omega
       have H:((Af U.V i).toNat+1)*ks.length≤(Ab U.V y).rows.length*ks.length:=F3 _ hi;rw [ce,Nat.one_mul] at H;have S:=N.1;have p:a.cells.length=v.cells.toList.length:=o.1
       have n:c.co+(Af U.V i).toNat*ks.length+off+0+v.cells.toList.length≤m.size∨v.cells.toList=[]:=by
        rcases Nq _ _ _ _ hu with q|q
        ·left;omega
        ·right;rw [q] at p;exact F0 p.symm
       have I:∃g d,(storeCells ⟨c.cb,c.co+(Af U.V i).toNat*ks.length+off,none⟩ v.cells.toList 0).run E.P w=.ok () g∧g.heap[c.cb]?=some (.cells d F G)∧d.size=m.size∧
         (∀j,d[j]?=if c.co+(Af U.V i).toNat*ks.length+off≤j∧j<c.co+(Af U.V i).toNat*ks.length+off+v.cells.toList.length then v.cells.toList[j-(c.co+(Af U.V i).toNat*ks.length+off)]? else m[j]?)∧
         g.heap.size=w.heap.size∧(∀k,k≠c.cb→g.heap[k]?=w.heap[k]?)∧g.os=w.os∧g.tape=w.tape∧g.output=w.output:=by
        rcases n with n|B
        ·exact CE E.P c.cb (c.co+(Af U.V i).toNat*ks.length+off) F G v.cells.toList 0 w m b2 n (by rw [b3];exact M) (Hk _ _ _ _ _ hu o)
        ·rw [B];exact ⟨w,m,by simp [storeCells],b2,rfl,fun j=>by rw [if_neg (by simp)],rfl,fun _ _=>rfl,rfl,rfl,rfl⟩
       obtain ⟨g,d,T,W,O,X,Y,Z,q7,q8,q9⟩:=I;have s:=Oz a.cells v.cells.toList off y y' m d N hi hu o O X;obtain ⟨p1,p2⟩:=hr.put z (by rw [L];exact A3 _) (.arr e y') g ⟨ks,d,F,G,A,W,by rw [O,b3],M,s⟩ Y Z q7 q8 q9
       refine ⟨g,?_,p1,p2⟩;unfold Instr.storeAt storeVar;have e:v.cells.size=a.cells.length:=by have:=o.1;simp at this;omega
       simp [Instr.sureAddr,hE.run_szIs c3,e,T]
     ·cases hl
    ·cases hl
   ·cases hl
  ·cases hl
 ·exact Xc hE hr hx ha hl
end
end Go.AE

