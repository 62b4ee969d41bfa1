/- What is proved here: an evaluator of the model's steps that the kernel can run, and that whatever it answers is what the model does (part 8 of 8: AeTop, AeVc1, AeVc2, AeVc3, AeDec1, AeDec2, AeDec3, AeDec4, AeDec5, AeShort, AeGlob). Conditions: those that each theorem states; they hold of no one program. -/
import Derived.Test.YtmjeljjkhblgeaaGreatDoorBeG
import Derived.Carry
import Derived.Handed
import Derived.JoinedCond
set_option linter.unusedVariables false
set_option linter.unusedSectionVars false
set_option linter.unusedSimpArgs false
namespace Go.AE
variable [Gl:AH]
open Go.RowKit
def mi [Facts] (j:Nat):Kd→AV
 |.int k=>mkI k (.var j)
 |.bool=>mkB true (.var j)
 |.str=>.ss (.var j)
 |.slice e=>.dat e (.var j)
def J0 [Facts]:Nat→List Kd→List AV
 |_,[]=>[]
 |j,k::a=>mi j k::J0 (j+1) a
def KC:TypeDesc→Bool
 |.struct _=>true
 |_=>false
def FM [Facts] (E:Env):Nat→List TypeId→Option (List AV)
 |_,[]=>some []
 |j,t::ts=>match E.desc t,E.kinds0 t with
  |some d,some b=>match FM E (j+b.length) ts with
   |some r=>match KC d with
    |true=>some (.agg (J0 j b)::r)
    |false=>match J0 j b with
     |[a]=>some (a::r)
     |_=>none
   |none=>none
  |_,_=>none
def Bm (E:Env):List TypeId→Option (List Kd)
 |[]=>some []
 |t::ts=>match E.kinds0 t,Bm E ts with
  |some a,some l=>some (a++l)
  |_,_=>none
def Cc:Nat→List Kd→List (SB×Bool)
 |_,[]=>[]
 |j,.int k::r=>match decide (k=.i64) with
  |true=>Cc (j+1) r
  |false=>(.lss (.var j) (.c k.min),false)::(.lss (.c k.max) (.var j),false)::Cc (j+1) r
 |j,_::r=>Cc (j+1) r
def inL (e:TypeId):List TypeId→Bool
 |[]=>false
 |f::r=>Nat.beq e f||inL e r
def UG (L:List TypeId):Kd→Bool
 |.slice e=>inL e L
 |_=>true
def G2 (E:Env) (L:List TypeId):List TypeId→Bool
 |[]=>true
 |e::r=>match E.kinds0 e with
  |some a=>!a.isEmpty&&a.all (UG L)&&G2 E L r
  |none=>false
inductive DT where
 |leaf
 |split (e:SB) (t f:DT)
def C6 (fn:Nat→D→D) (a:List D):Val:={d:=fun j=>a.getD j default,fn}
@[reducible] def dD (P:Program):Unk:={facts:=[],V:=C6 (fun _ d=>d) [],K:=(Env.of P).kinds,R:=[],hR:=fun _ _ _ _ _ h=>by (cases h),ok:=by simp}
def DVL (K:TypeId→Option (List Kd)) (M:Nat→Option (Array Value)):List Kd→List Value→List D→Prop
 |[],[],[]=>True
 |k::ks,v::a,d::b=>DV K M k v d∧DVL K M ks a b
 |_,_,_=>False
theorem DVL.len {K:TypeId→Option (List Kd)} {M:Nat→Option (Array Value)}:∀{ks:List Kd} {i:List Value} {j:List D},DVL K M ks i j→ks.length=i.length∧ks.length=j.length
 |[],[],[],_=>⟨rfl,rfl⟩
 |_::_,_::_,_::_,h=>by have:=DVL.len h.2;simp [this.1.symm,this.2.symm]
def Can:List Kd→List D→Prop
 |.int _::ks,d::a=>(∃n,d=.int n)∧Can ks a
 |.bool::ks,d::a=>(∃n,d=.bool n)∧Can ks a
 |.str::ks,d::a=>(∃n,d=.str n)∧Can ks a
 |.slice _::ks,_::a=>Can ks a
 |_,_=>True
def Jf (K:TypeId→Option (List Kd)):Nat→Kd→D→Prop
 |_,.int _,d=>∃n,d=.int n
 |_,.bool,d=>∃b,d=.bool b
 |_,.str,d=>∃s,d=.str s
 |0,.slice _,_=>True
 |m+1,.slice e,d=>∃c rows,d=.slc c rows∧(c=true→rows=[])∧∀a,K e=some a→∀r∈rows,∃cs,r=.row cs∧cs.length=a.length∧∀(j:Nat) kd,a[j]?=some kd→Jf K m kd (cs.getD j default)
def Rv (K:TypeId→Option (List Kd)) (m:Nat) (a:List Kd) (b:List D):Prop:=∀(j:Nat) kd,a[j]?=some kd→Jf K m kd (b.getD j default)
def leB (o:Option Nat) (n:Nat):Prop:=∀b,o=some b→n≤b
def ShK (K:TypeId→Option (List Kd)) (o:Option Nat):Nat→Kd→D→Prop
 |_,.int _,_=>True
 |_,.bool,_=>True
 |_,.str,d=>leB o d.toStr.data.toList.length
 |0,.slice _,_=>True
 |m+1,.slice e,d=>leB o d.rows.length∧∀a,K e=some a→∀i,i<d.rows.length→∀(j:Nat) kd,a[j]?=some kd→ShK K o m kd ((d.rows.getD i default).cells.getD j default)
def ShL (K:TypeId→Option (List Kd)) (o:Option Nat) (m:Nat) (a:List Kd) (b:List D):Prop:=∀(j:Nat) kd,a[j]?=some kd→ShK K o m kd (b.getD j default)
mutual
def Bl {H:Type} (o:Option Nat):DataW H→Prop
 |.lit (.string bytes)=>leB o bytes.length
 |.lit _=>True
 |.nil=>True
 |.ptr _=>True
 |.slice a _=>leB o a.length∧BB o a
 |.agg parts=>BB o parts
 |.iface _ _=>True
 |.map _=>True
 |.held _=>True
def BB {H:Type} (o:Option Nat):List (DataW H)→Prop
 |[]=>True
 |d::r=>Bl o d∧BB o r
end
mutual
theorem Bl.none {H:Type}:∀d:DataW H,Bl none d
 |.lit (.string _)=>by rw [Bl];intro b j;cases j
 |.lit (.bool _)=>by simp [Bl]
 |.lit (.int _ _)=>by simp [Bl]
 |.lit (.float _ _)=>by simp [Bl]
 |.lit .nil=>by simp [Bl]
 |.nil=>by simp [Bl]
 |.ptr _=>by simp [Bl]
 |.slice i _=>by rw [Bl];exact ⟨fun b j=>(by cases j),BB.none i⟩
 |.agg parts=>by rw [Bl];exact BB.none parts
 |.iface _ _=>by simp [Bl]
 |.map _=>by simp [Bl]
 |.held _=>by simp [Bl]
theorem BB.none {H:Type}:∀l:List (DataW H),BB none l
 |[]=>by simp [BB]
 |d::r=>by rw [BB];exact ⟨Bl.none d,BB.none r⟩
end
theorem BB.get {H:Type} {o:Option Nat}:∀{l:List (DataW H)} {i:Nat} {d:DataW H},BB o l→l[i]?=some d→Bl o d
 |x::l,0,d,h,hi=>by
  simp only [List.getElem?_cons_zero,Option.some.injEq] at hi;subst hi;rw [BB] at h;exact h.1
 |x::l,i+1,d,h,hi=>by
  rw [BB] at h;exact h.2.get (by simpa using hi)
 |[],i,d,h,hi=>by simp at hi
theorem DV.canK {K:TypeId→Option (List Kd)} {M:Nat→Option (Array Value)} {o:Option Nat}:∀(m:Nat) (kd:Kd) (v:Value) (d:D),DV K M kd v d→∃d',DV K M kd v d'∧Jf K m kd d'∧(ShK K o m kd d→ShK K o m kd d')
 |m,.int k,v,d,h=>by
  cases h with
  |int _ n _ hr q=>exact ⟨.int n,.int k n _ hr rfl,by cases m<;>exact ⟨n,rfl⟩,fun _=>by cases m<;>trivial⟩
 |m,.bool,v,d,h=>by
  cases h with
  |bool b _ q=>exact ⟨.bool b,.bool b _ rfl,by cases m<;>exact ⟨b,rfl⟩,fun _=>by cases m<;>trivial⟩
 |m,.str,v,d,h=>by
  cases h with
  |str b _ q=>exact ⟨.str b,.str b _ rfl,by cases m<;>exact ⟨b,rfl⟩,fun hs=>by cases m<;>(simp only [ShK] at hs ⊢;rw [q] at hs;exact hs)⟩
 |0,.slice e,v,d,h=>⟨d,h,trivial,fun h=>h⟩
 |m+1,.slice e,v,d,h=>by
  cases h with
  |nil _ _ h1 h2=>exact ⟨.slc true [],.nil e _ rfl rfl,⟨true,[],rfl,fun _=>rfl,fun _ _ r hr=>by cases hr⟩,fun _=>⟨fun b _=>Nat.zero_le b,fun l _ i hi=>absurd hi (Nat.not_lt_zero i)⟩⟩
  |empty _ a J _ h1 h2=>exact ⟨.slc false [],.empty e a J _ rfl rfl,⟨false,[],rfl,fun _=>rfl,fun _ _ r hr=>by cases hr⟩,fun _=>⟨fun b _=>Nat.zero_le b,fun l _ i hi=>absurd hi (Nat.not_lt_zero i)⟩⟩
  |slc _ b off n J _ l arr hk ha hn hc h1 an a1 hv=>
   classical
   have key:∀i j,∃x,∀kd,i<n→l[j]?=some kd→DV K M kd (arr.getD (off+i*l.length+j) Go.undef) x∧Jf K m kd x∧(ShK K o m kd ((d.rows.getD i default).cells.getD j default)→ShK K o m kd x):=by
    intro i j;cases C:l[j]? with
    |none=>exact ⟨default,fun kd _ h=>by cases h⟩
    |some kd=>
     by_cases hi:i<n
     ·obtain ⟨x,q1,q2⟩:=DV.canK m kd _ _ (hv i j kd hi C);exact ⟨x,fun a2 _ h=>by cases h;exact ⟨q1,q2⟩⟩
     ·exact ⟨default,fun kd _ h=>absurd ‹i<n› hi⟩
   let f:Nat→Nat→D:=fun i j=>Classical.choose (key i j)
   have hf:∀i j kd,i<n→l[j]?=some kd→DV K M kd (arr.getD (off+i*l.length+j) Go.undef) (f i j)∧Jf K m kd (f i j)∧(ShK K o m kd ((d.rows.getD i default).cells.getD j default)→ShK K o m kd (f i j)):=fun i j=>Classical.choose_spec (key i j)
   have hr:∀i,i<n→((List.range n).map fun i=>D.row ((List.range l.length).map (f i))).getD i default=.row ((List.range l.length).map (f i)):=by
    intro i hi;simp [List.getD_eq_getElem?_getD,hi]
   have t:∀i j,j<l.length→((List.range l.length).map (f i)).getD j default=f i j:=by
    intro i j C;simp [List.getD_eq_getElem?_getD,C]
   have ab:∀{j:Nat} {kd:Kd},l[j]?=some kd→j<l.length:=fun h=>(List.getElem?_eq_some_iff.1 h).1
   refine ⟨.slc false ((List.range n).map fun i=>.row ((List.range l.length).map (f i))),.slc e b off n J _ l arr hk ha (by show (List.map _ _).length=n;simp) hc rfl an (fun i hi=>?_) (fun i j kd hi C=>?_),⟨false,_,rfl,(fun h=>by cases h),fun ar I r av=>?_⟩,fun hs=>⟨?_,fun ar I i hi j kd C=>?_⟩⟩
   ·show (((List.range n).map fun i=>D.row ((List.range l.length).map (f i))).getD i default).cells.length=_
    rw [hr i hi];simp [D.cells]
   ·show DV K M kd _ ((((List.range n).map fun i=>D.row ((List.range l.length).map (f i))).getD i default).cells.getD j default)
    rw [hr i hi];show DV K M kd _ (((List.range l.length).map (f i)).getD j default);rw [t i j (ab C)];exact (hf i j kd hi C).1
   ·rw [hk] at I;cases I;obtain ⟨i,hi,e⟩:=List.mem_map.1 av;refine ⟨_,e.symm,by simp,fun j kd C=>?_⟩
    rw [t i j (ab C)];exact (hf i j kd (List.mem_range.1 hi) C).2.1
   ·have e:(D.slc false ((List.range n).map fun i=>D.row ((List.range l.length).map (f i)))).rows.length=d.rows.length:=by rw [hn];simp [D.rows]
    rw [e];exact hs.1
   ·rw [hk] at I;cases I
    have al:i<n:=by
     have:i<((List.range n).map fun i=>D.row ((List.range l.length).map (f i))).length:=hi
     simpa using this
    show ShK K o m kd ((((List.range n).map fun i=>D.row ((List.range l.length).map (f i))).getD i default).cells.getD j default)
    rw [hr i al];show ShK K o m kd (((List.range l.length).map (f i)).getD j default);rw [t i j (ab C)];exact (hf i j kd al C).2.2 (hs.2 l hk i (by rw [hn];exact al) j kd C)
theorem DVL.can {K:TypeId→Option (List Kd)} {M:Nat→Option (Array Value)} {o:Option Nat}:∀{ks:List Kd} {cs:List Value} {xs:List D},DVL K M ks cs xs→ShL K o 9 ks xs→∃l,DVL K M ks cs l∧(Can ks l∧Rv K 9 ks l)∧ShL K o 9 ks l
 |[],[],[],h,_=>⟨[],h,⟨trivial,fun j kd h=>by simp at h⟩,fun j kd h=>by simp at h⟩
 |k::ks,v::vs,d::ds,h,C=>by
  obtain ⟨l,I,⟨r,J⟩,h4⟩:=DVL.can (o:=o) h.2 (fun j kd i=>by simpa using C (j+1) kd (by simpa using i))
  obtain ⟨d',q1,t,q3⟩:=DV.canK (o:=o) 9 k v d h.1;refine ⟨d'::l,⟨q1,I⟩,⟨?_,fun j kd i=>?_⟩,fun j kd i=>?_⟩
  rotate_left 2
  ·cases j with
   |zero=>simp only [List.getElem?_cons_zero,Option.some.injEq] at i;subst i;exact q3 (C 0 k rfl)
   |succ j=>simpa using h4 j kd (by simpa using i)
  ·cases k with
   |int k=>exact ⟨t,r⟩
   |bool=>exact ⟨t,r⟩
   |str=>exact ⟨t,r⟩
   |slice e=>exact r
  ·cases j with
   |zero=>simp only [List.getElem?_cons_zero,Option.some.injEq] at i;subst i;exact t
   |succ j=>simpa using J j kd (by simpa using i)
theorem ShL.append {K:TypeId→Option (List Kd)} {o:Option Nat} {m:Nat} {ks ks':List Kd} {xs xs':List D} (l:ks.length=xs.length) (h:ShL K o m ks xs) (h':ShL K o m ks' xs'):ShL K o m (ks++ks') (xs++xs'):=by
 intro j kd i;rcases Nat.lt_or_ge j ks.length with c|c
 ·rw [List.getElem?_append_left c] at i;have:=h j kd i;simpa [List.getD_eq_getElem?_getD,List.getElem?_append_left (show j<xs.length by omega)] using this
 ·rw [List.getElem?_append_right c] at i;have:=h' (j-ks.length) kd i;simpa [List.getD_eq_getElem?_getD,List.getElem?_append_right (show xs.length≤j by omega),←l] using this
theorem Rv.append {K:TypeId→Option (List Kd)} {m:Nat} {ks ks':List Kd} {xs xs':List D} (l:ks.length=xs.length) (h:Rv K m ks xs) (h':Rv K m ks' xs'):Rv K m (ks++ks') (xs++xs'):=by
 intro j kd i;rcases Nat.lt_or_ge j ks.length with c|c
 ·rw [List.getElem?_append_left c] at i;have:=h j kd i;simpa [List.getD_eq_getElem?_getD,List.getElem?_append_left (show j<xs.length by omega)] using this
 ·rw [List.getElem?_append_right c] at i;have:=h' (j-ks.length) kd i;simpa [List.getD_eq_getElem?_getD,List.getElem?_append_right (show xs.length≤j by omega),←l] using this
theorem Can.append {K:TypeId→Option (List Kd)} {M:Nat→Option (Array Value)}:∀{ks ks':List Kd} {cs:List Value} {xs xs':List D},DVL K M ks cs xs→Can ks xs→Can ks' xs'→Can (ks++ks') (xs++xs')
 |[],_,[],[],_,_,_,h'=>h'
 |.int _::_,_,_::_,_::_,_,i,h,h'=>⟨h.1,Can.append i.2 h.2 h'⟩
 |.bool::_,_,_::_,_::_,_,i,h,h'=>⟨h.1,Can.append i.2 h.2 h'⟩
 |.str::_,_,_::_,_::_,_,i,h,h'=>⟨h.1,Can.append i.2 h.2 h'⟩
 |.slice _::ks,ks',_::cs,_::xs,xs',i,h,h'=>Can.append (ks:=ks) (ks':=ks') (cs:=cs) (xs:=xs) (xs':=xs') i.2 h h'
theorem DVL.append {K:TypeId→Option (List Kd)} {M:Nat→Option (Array Value)}:∀{ks ks':List Kd} {l i:List Value} {r j:List D},DVL K M ks l r→DVL K M ks' i j→DVL K M (ks++ks') (l++i) (r++j)
 |[],_,[],_,[],_,_,h=>h
 |_::_,_,_::_,_,_::_,_,h,h'=>⟨h.1,DVL.append h.2 h'⟩
theorem DVL.get {K:TypeId→Option (List Kd)} {M:Nat→Option (Array Value)}:∀{ks:List Kd} {l:List Value} {r:List D},DVL K M ks l r→∀{j:Nat} {k:Kd} {d:D},ks[j]?=some k→r[j]?=some d→∃v,l[j]?=some v∧DV K M k v d
 |[],[],[],_,j,k,d,h,_=>by simp at h
 |_::_,_::_,_::_,h,0,k,d,i,h2=>by
  simp only [List.getElem?_cons_zero,Option.some.injEq] at i h2;subst i;subst h2;exact ⟨_,rfl,h.1⟩
 |_::_,_::_,_::_,h,j+1,k,d,i,h2=>by
  simp only [List.getElem?_cons_succ] at i h2 ⊢;exact DVL.get h.2 i h2
theorem LN [U:Unk] (ρ:Ren):∀(f:List Kd) (r:List Value) (l:List D) (j:Nat),(∀i,i<l.length→U.V.d (j+i)=l.getD i default)→DVL U.K ρ.imm f r l→VL ρ (J0 j f) r
 |[],[],[],_,_,_=>VL.nil ρ
 |k::f,v::r,d::l,j,hi,h=>by
  have h0:U.V.d j=d:=by have:=hi 0 (by simp);simpa using this
  refine VL.cons ?_ (LN ρ f r l (j+1) (fun i B=>by have:=hi (i+1) (by simp;omega);rw [show j+1+i=j+(i+1) by omega,this];simp) h.2)
  have m:=h.1;have w:Ac U.V (.var j)=d:=h0;rw [←w] at m;generalize g:Ac U.V (.var j)=C at m;cases m with
  |int k n _ hr o=>
   have:=Co ρ k (.var j);have e:Af U.V (.var j)=n:=by unfold Af;rw [g];exact o
   rw [e] at this;exact this
  |bool b _ o=>
   have:=Gs ρ true (.var j);have e:(Ah U.V (.var j)==true)=b:=by unfold Ah;rw [g,o];cases b<;>rfl
   rw [e] at this;exact this
  |str s _ o=>
   have:=VR.ss (ρ:=ρ) (.var j);have e:AU U.V (.var j)=s:=by unfold AU;rw [g];exact o
   rw [e] at this;exact this
  |nil e _ p t=>exact .dat e (.var j) _ _ _ (by rw [g];exact .nil e _ p t)
  |empty e a c _ p t=>exact .dat e (.var j) _ _ _ (by rw [g];exact .empty e a c _ p t)
  |slc e b off n c _ f arr m x y z p u q A=>exact .dat e (.var j) _ _ _ (by rw [g];exact .slc e b off n c _ f arr m x y z p u q A)
theorem Hz [U:Unk] {K:TypeId→Option (List Kd)} {M:Nat→Option (Array Value)} {V:Val}:∀(f:List Kd) (l:List Value) (c:List D) (j:Nat),(∀i,i<c.length→V.d (j+i)=c.getD i default)→DVL K M f l c→∀e b,(e,b)∈Cc j f→Ah V e=b
 |[],[],[],_,_,_,e,b,a=>by simp [Cc] at a
 |k::f,v::l,d::c,j,hi,h,e,b,a=>by
  have h0:V.d j=d:=by have:=hi 0 (by simp);simpa using this
  have ih:=Hz f l c (j+1) (fun i q=>by have:=hi (i+1) (by simp;omega);rw [show j+1+i=j+(i+1) by omega,this];simp) h.2 e b
  have m:=h.1;cases m with
  |int k n _ hr p=>
   have o:(Ac V (.var j)).toInt=n:=by simp only [Ac,h0];exact p
   simp only [Cc] at a;split at a
   ·exact ih a
   ·rename_i m;have g:=hr.resolve_left (by simpa using m)
    simp only [List.mem_cons,Prod.mk.injEq] at a;rcases a with ⟨rfl,rfl⟩|⟨rfl,rfl⟩|a
    ·rw [At,decide_eq_false_iff_not];simp only [Af];rw [o];show ¬_<_;have:=g.1;have:=g.2;simp only [Ac,D.toInt];omega
    ·rw [At,decide_eq_false_iff_not];simp only [Af];rw [o];show ¬_<_;have:=g.1;have:=g.2;simp only [Ac,D.toInt];omega
    ·exact ih a
  |bool=>exact ih a
  |str=>exact ih a
  |nil=>exact ih a
  |empty=>exact ih a
  |slc=>exact ih a
def Ej (w:World) (k:Nat):Option (Array Value):=match w.heap[k]? with
 |some (.cells c _ _)=>some c
 |_=>none
theorem QF {w:World} {a:Addr} {v:Value} (h:w.cell? a=some v):∃arr,Ej w a.block=some arr∧a.spot=none∧arr[a.off]?=some v:=by
 unfold World.cell? at h;unfold Ej;split at h
 ·rename_i c _ _ d;rw [d];split at h
  ·cases h
  ·rename_i b;refine ⟨c,rfl,?_,h⟩;cases e:a.spot with
   |none=>rfl
   |some x=>rw [e] at b;simp at b
 ·cases h
theorem Nf {w:World} {base n:Nat} {a:Addr} {cs:List Value} (h:w.cells? base a n=some cs) (q:0<n):∃arr,Ej w a.block=some arr∧a.spot=none∧cs.length=n∧∀j,j<n→arr[a.off+j]?=cs[j]?:=by
 unfold World.cells? at h;split at h
 ·have k:cs.length=n:=by simpa using mapM_some_length h
  have l:∀j,j<n→w.cell? (a.add j)=cs[j]?:=fun j d=>mapM_some_get h j j (by simp [d])
  have h0:=l 0 q;have m:a.add 0=a:=by simp [Addr.add]
  rw [m] at h0;have f:cs[0]?=some cs[0]:=by simp
  rw [f] at h0;obtain ⟨arr,g,r,s⟩:=QF h0;refine ⟨arr,g,r,k,fun j d=>?_⟩
  have c:=l j d;have i:cs[j]?=some cs[j]:=by simp [k,d]
  rw [i] at c ⊢;obtain ⟨o,b,t,e⟩:=QF c;by_cases p:j=0
  ·subst p;rw [m] at b e;rw [g] at b;cases b;exact e
  ·simp only [Addr.add,if_neg p] at b e;rw [g] at b;cases b;exact e
 ·cases h
theorem Ln {P:Nat→D→Prop}:∀(n:Nat),(∀i,i<n→∃d,P i d)→∃l:List D,l.length=n∧∀i,i<n→∃d,l[i]?=some d∧P i d
 |0,_=>⟨[],rfl,fun i hi=>by omega⟩
 |n+1,h=>by
  obtain ⟨l,a,b⟩:=Ln n (fun i hi=>h i (by omega))
  obtain ⟨d,c⟩:=h n (by omega)
  refine ⟨l++[d],by simp [a],fun i hi=>?_⟩
  by_cases e:i<n
  ·obtain ⟨x,f,g⟩:=b i e;exact ⟨x,by rw [List.getElem?_append_left (by omega)];exact f,g⟩
  ·have:i=n:=by omega
   subst this;exact ⟨d,by rw [List.getElem?_append_right (by omega),a];simp,c⟩
theorem OB {b:TypeId→Nat→Bool} {c d:TypeId→Option (List Kd)} (h:∀t a,c t=some a→d t=some a):∀(e:List Field) (off:Nat) (a:List Kd),EG b c e off=some a→EG b d e off=some a
 |[],_,_,q=>q
 |f::r,off,a,q=>by
  simp only [EG] at q ⊢;split at q
  ·rename_i l g i;rw [h _ _ i];split at q
   ·rename_i m j k;simp only [g,j,OB h r _ _ k];exact q
   ·cases q
  ·cases q
theorem Q4 {desc:TypeId→Option TypeDesc} {a:TypeId→Nat→Bool}:∀(n:Nat) (t:TypeId) (b:List Kd),DO false desc a n t=some b→DO true desc a n t=some b
 |0,_,_,h=>h
 |n+1,t,b,h=>by
  have key:∀l,Ku false a (DO false desc a n) (desc t)=some l→Ku true a (DO true desc a n) (desc t)=some l:=by
   intro l q;cases c:desc t with
   |none=>rw [c] at q;exact q
   |some d=>
    rw [c] at q;cases d<;>first|exact q|skip
    ·simp [Ku] at q
    ·exact OB (Q4 n) _ _ _ q
  simp only [DO] at h ⊢;split at h
  ·rename_i l e;rw [key l e];exact h
  ·cases h
theorem cF {E:Env} {t:TypeId} {a:List Kd} (h:E.kinds0 t=some a):E.kinds t=some a:=Q4 20 t a h
theorem fu {E:Env} {L:List TypeId}:∀{l:List TypeId} {e:TypeId},G2 E L l=true→inL e l=true→∃b,E.kinds0 e=some b∧b≠[]∧b.all (UG L)=true
 |[],e,_,h=>by simp [inL] at h
 |f::r,e,a,h=>by
  simp only [G2] at a;split at a
  ·rename_i b c;simp only [Bool.and_eq_true,Bool.not_eq_true',List.isEmpty_eq_false_iff] at a;simp only [inL,Bool.or_eq_true] at h;rcases h with h|h
   ·rw [Aw h];exact ⟨b,c,a.1.1,a.1.2⟩
   ·exact fu a.2 h
  ·cases a
section
variable {E:Env} {L:List TypeId} {H:Type} {enc:TypeId×Value→H} {w:World} {base:Nat} {sp:Nat→Bool} {held:Bool}
theorem H3 [U:Unk] (hE:OK E) {t:TypeId} {n:Nat} (h:E.szIs t n=true):E.P.cellsOf t=n:=by
 unfold Env.szIs at h;cases hi:E.ty.get t with
 |none=>rw [hi] at h;cases h
 |some i=>rw [hi] at h;simp [Program.cellsOf,hE.ty t i hi,Aw h]
theorem XV [U:Unk] (hE:OK E) {rec_:TypeId→Option (List Kd)} {o:Option Nat} {m:Nat} {cs:List Value} (c:∀t a cs x,rec_ t=some a→a.all (UG L)=true→DataW.trod enc E.P w base sp held m t cs=some x→Bl o x.1→∃d,DVL E.kinds (Ej w) a cs d∧∀q,ShL E.kinds o q a d) :
  ∀(i:List Field) (off:Nat) (a:List Kd),EG E.szIs rec_ i off=some a→a.all (UG L)=true→(∀f∈i,∃x,DataW.trod enc E.P w base sp held m f.type ((cs.drop f.offset).take (E.P.cellsOf f.type))=some x∧Bl o x.1)→∃d,DVL E.kinds (Ej w) a ((cs.drop off).take a.length) d∧∀q,ShL E.kinds o q a d:=by
 intro i
 induction i with
 |nil=>intro off a h _ _;simp [EG] at h;subst h;exact ⟨[],by simp [DVL],fun q j kd h=>by simp at h⟩
 |cons f r ih=>
  intro off a h b u;simp only [EG] at h;split at h
  ·rename_i k1 v y;split at h
   ·rename_i l z A;cases h;rw [List.all_append,Bool.and_eq_true] at b;obtain ⟨x,k,n⟩:=u f (by simp)
    have g:=Aw v;have p:=H3 hE z;obtain ⟨B,s,C⟩:=c _ _ _ _ y b.1 k n;rw [p,g] at s;obtain ⟨D,F,G⟩:=ih _ _ A b.2 (fun f I=>u f (by simp [I]))
    have e:(cs.drop off).take (k1++l).length=(cs.drop off).take k1.length++(cs.drop (off+k1.length)).take l.length:=by
     rw [List.length_append,List.take_add,List.drop_drop]
    rw [e];exact ⟨B++D,s.append F,fun q=>(C q).append s.len.2 (G q)⟩
   ·cases h
  ·cases h
theorem ja [U:Unk] (hE:OK E) (hL:G2 E L L=true) {o:Option Nat}:∀(m n:Nat) (t:TypeId) (z:List Kd) (cs:List Value) (x:DataW H×List MemPlace),DO false E.desc E.szIs n t=some z→z.all (UG L)=true→DataW.trod enc E.P w base sp held m t cs=some x→Bl o x.1→∃g,DVL E.kinds (Ej w) z cs g∧∀q,ShL E.kinds o q z g:=by
  intro m
  have one:∀{kd:Kd} {d:D},(∀q,ShK E.kinds o q kd d)→∀q,ShL E.kinds o q [kd] [d]:=by
    intro kd d h q j an A;cases j with
    |zero=>simp only [List.getElem?_cons_zero,Option.some.injEq] at A;subst A;exact h q
    |succ j=>simp at A
  induction m using Nat.strongRecOn with
  |_ m ih=>
    intro n t z cs x h0 F r p;obtain ⟨ac,n',rfl,h⟩:=kinds_size h0;clear h0;cases hd:E.desc t with
    |none=>rw [hd] at h;cases h
    |some d=>
      have N:=hE.und hd;rw [hd] at h;cases m with
      |zero=>simp [DataW.trod] at r
      |succ m=>
      cases d<;>first | (cases h;done)|skip
      case bool=>
        cases h;unfold DataW.trod at r;rw [N] at r;split at r<;>simp_all
        exact ⟨[.bool _],⟨.bool _ _ rfl,trivial⟩,one fun q=>by cases q<;>trivial⟩
      case int k=>
        cases h;unfold DataW.trod at r;rw [N] at r
        have go:∀{O:IntKind} {n:Int},(O=k∧(Lit.int k n).wf=true)→∃g,DVL E.kinds (Ej w) [.int k] [.int O n] g∧∀q,ShL E.kinds o q [.int k] g:=by
          rintro O n ⟨rfl,hw⟩
          have hb:O.min≤n∧n≤O.max:=by simpa [Lit.wf] using hw
          exact ⟨[.int n],⟨.int _ _ _ (.inr hb) rfl,trivial⟩,one fun q=>by cases q<;>trivial⟩
        split at r<;>first | (cases r;done)|skip
        all_goals
          first
            | (split at r
               · rename_i hq;simp_all
               · cases r)
            |simp_all
      case string=>
        cases h;unfold DataW.trod at r;rw [N] at r;split at r<;>first | (simp at r;done)|skip
        all_goals first
          | (rename_i hh;cases hh;done)
          | (rename_i hh _;cases hh;done)
          |skip
        all_goals
          rename_i s _;split at r
          · simp only [Option.some.injEq] at r
            subst r;exact ⟨[.str s],⟨.str _ _ rfl,trivial⟩,one fun q=>by cases q<;>(simp only [Bl] at p;exact p)⟩
          · cases r
      case slice e=>
        cases h;simp only [List.all_cons,List.all_nil,Bool.and_true,UG] at F;obtain ⟨ke,B,ad,Q⟩:=fu hL F;have G:=cF B;rcases DataW.trod_slice N r with ⟨rfl,_⟩|⟨a,len,R,l,rest,q,hq,rfl,S,hb,hl,hc,u,T,_,_⟩
        · exact ⟨[.slc true []],⟨.nil e _ rfl rfl,trivial⟩,one fun q=>by cases q<;>first|trivial|exact ⟨fun b _=>Nat.zero_le b,fun _ _ i hi=>absurd hi (Nat.not_lt_zero i)⟩⟩
        · by_cases h0:len=0
          · subst h0
            exact ⟨[.slc false []],⟨.empty e a R _ rfl rfl,trivial⟩,one fun q=>by cases q<;>first|trivial|exact ⟨fun b _=>Nat.zero_le b,fun _ _ i hi=>absurd hi (Nat.not_lt_zero i)⟩⟩
          · have ae:E.P.cellsOf e=ke.length:=H3 hE (kinds_size G).1
            have C:0<ke.length:=by cases ke with|nil=>exact absurd rfl ad|cons=>simp
            rw [ae] at T
            obtain ⟨rows,r1,r2⟩:=Ln (P:=fun i d=>∃g cells,d=.row g∧w.cells? base (a.add (i*ke.length)) ke.length=some cells∧DVL E.kinds (Ej w) ke cells g∧∀q,ShL E.kinds o q ke g) len (by
              intro i hi;have:=T i hi;have he:l[i]?=some l[i]:=by simp [u,hi]
              rw [he] at this;simp only [Option.bind_eq_some_iff] at this;obtain ⟨cells,c1,c2⟩:=this
              have af:Bl o (l[i]).1:=by
                rw [S] at p;simp only [Bl] at p;exact p.2.get (i:=i) (by simp [u,hi])
              obtain ⟨g,ag,V⟩:=ih q (by omega) 20 e ke cells _ B Q c2 af
              exact ⟨.row g,g,cells,rfl,c1,ag,V⟩)
            obtain ⟨_,_,ao,ab,_,c0,_⟩:=r2 0 (by omega)
            have ea:a.add (0*ke.length)=a:=by simp [Addr.add]
            rw [ea] at c0;obtain ⟨arr,s1,s2,_,s4⟩:=Nf c0 C;have W:a=⟨a.block,a.off,none⟩:=by cases a;simp at s2;simp [s2]
            have key:∀i,i<len→∃g cells,rows[i]?=some (.row g)∧(DVL E.kinds (Ej w) ke cells g∧∀q,ShL E.kinds o q ke g)∧∀j,j<ke.length→arr[a.off+i*ke.length+j]?=cells[j]?:=by
              intro i hi;obtain ⟨d,I,g,cells,y,X,g4,g5⟩:=r2 i hi;subst y;refine ⟨g,cells,I,⟨g4,g5⟩,?_⟩;obtain ⟨am,J,t2,_,t4⟩:=Nf X C;by_cases hz:i*ke.length=0
              · rw [hz] at J t4 ⊢
                have e0:a.add 0=a:=by simp [Addr.add]
                rw [e0] at J t4;rw [s1] at J;cases J;simpa using t4
              · simp only [Addr.add,if_neg hz] at J t4
                rw [s1] at J;cases J;exact t4
            refine ⟨[.slc false rows],⟨?_,trivial⟩,one fun q=>by
              cases q with
              |zero=>trivial
              |succ q=>
                refine ⟨by
                  rw [S] at p;simp only [Bl] at p;have e:(D.slc false rows).rows.length=l.length:=by rw [u];exact r1
                  rw [e];exact (show (l.map (·.1)).length=l.length from List.length_map _)▸p.1,fun ah ai i hi j kd A=>?_⟩
                have aj:ah=ke:=Option.some.inj (ai.symm.trans G);subst aj;have K:i<len:=by have:i<rows.length:=hi;omega
                obtain ⟨g,cells,I,⟨_,y⟩,_⟩:=key i K;have Y:(D.rows (.slc false rows)).getD i default=.row g:=by simp [D.rows,List.getD_eq_getElem?_getD,I]
                rw [Y];exact y q j kd A⟩
            rw [W];refine .slc e a.block a.off len R (.slc false rows) ke arr G s1 r1 hl rfl ?_ (fun i hi=>?_) ?_
            · obtain ⟨g,cells,_,⟨y,_⟩,X⟩:=key (len-1) (by omega)
              have:=X (ke.length-1) (by omega)
              have ap:=y.len.1;have ak:cells[ke.length-1]?=some (cells[ke.length-1]'(by omega)):=by simp
              rw [ak] at this;have aq:=(Array.getElem?_eq_some_iff.1 this).1
              have:len*ke.length=(len-1)*ke.length+ke.length:=by
                rw [←Nat.succ_mul];congr 1;omega
              omega
            · obtain ⟨g,cells,I,⟨y,_⟩,_⟩:=key i hi
              have Y:(D.rows (.slc false rows)).getD i default=.row g:=by simp [D.rows,List.getD_eq_getElem?_getD,I]
              rw [Y];exact y.len.2.symm
            · intro i j kd hi A
              obtain ⟨g,cells,I,⟨y,_⟩,X⟩:=key i hi;have Y:(D.rows (.slc false rows)).getD i default=.row g:=by simp [D.rows,List.getD_eq_getElem?_getD,I]
              rw [Y];have Z:j<ke.length:=(List.getElem?_eq_some_iff.1 A).1
              have al:g[j]?=some ((D.cells (.row g)).getD j default):=by
                have:j<g.length:=by rw [←y.len.2];exact Z
                simp [D.cells,List.getD_eq_getElem?_getD,this]
              obtain ⟨v,v1,v2⟩:=y.get A al;have:=X j Z;rw [v1] at this;have ev:arr.getD (a.off+i*ke.length+j) Go.undef=v:=by simp [Array.getD_eq_getD_getElem?,this]
              rw [ev];exact v2
      case struct fs=>
        simp only [Ku] at h;obtain ⟨xs,q,e1,e2,e3,e4,e5⟩:=DataW.trod_struct N r;rw [e2] at p;simp only [Bl] at p
        obtain ⟨g,this,M⟩:=XV hE (L:=L) (o:=o) (m:=q) (cs:=cs) (fun t z cs x a b c d=>ih q (by omega) n' t z cs x a b c d) fs.toList 0 z h F (fun f hf=>by
          obtain ⟨i,hi,rfl⟩:=List.getElem_of_mem hf;have K:i<fs.size:=by simpa using hi
          have h5:=e5 i fs[i] (by simp [K])
          have aa:i<xs.length:=by omega
          exact ⟨xs[i],by simpa [aa] using h5,p.get (i:=i) (by simp [aa])⟩)
        have u:cs.length=z.length:=by rw [e3,H3 hE ac]
        rw [List.drop_zero,←u,List.take_length] at this;exact ⟨g,this,M⟩
theorem mG [U:Unk] (hE:OK E) (hL:G2 E L L=true) {o:Option Nat}:∀(ts:List TypeId) (g:List Value) (k:List (DataW H)) (Q:List MemPlace) (m:List Kd),DataW.TrodAll enc E.P w base sp held ts g k Q→
  (∀(j:Nat) t v,ts[j]?=some t→g[j]?=some v→∃r Z,Value.okWide E.P w r Z t v)→Bm E ts=some m→m.all (UG L)=true→BB o k→
  ∃(cs:List Value) (n:List D),DVL E.kinds (Ej w) m cs n∧((Can m n∧Rv E.kinds 9 m n)∧ShL E.kinds o 9 m n)∧∀(U:Unk) (j:Nat) (args:List AV) (u:Ren),U.K=E.kinds→u.imm=Ej w→(∀i,i<n.length→U.V.d (j+i)=n.getD i default)→FM E j ts=some args→VL u args g:=by
 intro ts
 induction ts with
 |nil=>
  intro g k Q m A f x _ _;cases g with
  |nil=>
   simp [Bm] at x;subst x;exact ⟨[],[],trivial,⟨⟨trivial,fun j kd h=>by simp at h⟩,fun j kd h=>by simp at h⟩,fun U j args u _ _ _ b=>by simp [FM] at b;subst b;exact VL.nil u⟩
  |cons=>cases k<;>simp [DataW.TrodAll] at A
 |cons t ts ih=>
  intro g k Q m A f x y B;cases g with
  |nil=>cases k<;>simp [DataW.TrodAll] at A
  |cons v g=>
   cases k with
   |nil=>simp [DataW.TrodAll] at A
   |cons d k=>
    obtain ⟨p,q,⟨C,hx⟩,R,_⟩:=A;simp only [Bm] at x;split at x
    ·rename_i k1 l z hl;cases x;rw [List.all_append,Bool.and_eq_true] at y;obtain ⟨cs,n,q1,S,q2⟩:=ih g k q l R (fun j t v ht hv=>f (j+1) t v (by simpa using ht) (by simpa using hv)) hl y.2 B.2
     obtain ⟨x0,F,G⟩:=ja hE hL (o:=o) C 20 t k1 _ _ z y.1 hx B.1;obtain ⟨x1,c,I,J⟩:=F.can (G 9);refine ⟨v.cells.toList++cs,x1++n,c.append q1,⟨⟨Can.append c I.1 S.1.1,I.2.append c.len.2 S.1.2⟩,J.append c.len.2 S.2⟩,?_⟩;intro U' j args u hK hM s b;obtain ⟨r,Z,e⟩:=f 0 t v rfl rfl;have aa:k1.length=x1.length:=c.len.2;simp only [FM] at b;split at b
     ·rename_i d0 ab hd M;rw [z] at M;cases M;have T:=OK.und (U:=U) hE hd;clear ih;split at b
      ·rename_i rr W
       have tail:=q2 U' (j+k1.length) rr u hK hM (fun i hi=>by
        have:=s (x1.length+i) (by simp only [List.length_append];omega)
        rw [show j+k1.length+i=j+(x1.length+i) by omega,this]
        simp [List.getD_eq_getElem?_getD,List.getElem?_append_right]) W
       have head:=LN (U:=U') u k1 v.cells.toList x1 j (fun i hi=>by
        have:=s i (by simp only [List.length_append];omega)
        rw [this];simp [List.getD_eq_getElem?_getD,List.getElem?_append_left hi]) (by rw [hK,hM];exact c)
       split at b
       ·rename_i X;cases b;refine VL.cons ?_ tail;cases d0<;>simp [KC] at X
        unfold Value.okWide at e;rw [T] at e;obtain ⟨N,rfl,_⟩:=e;exact .agg _ N.toList head.1 head.2
       ·rename_i X;split at b
        ·rename_i a O;cases b;refine VL.cons ?_ tail;rw [O] at head
         have Y:v.cells.toList=[v]:=by
          cases v<;>first|rfl|skip
          rename_i N
          exfalso
          unfold Value.okWide at e;rw [T] at e;obtain ⟨_,_,_,z⟩:=kinds_size z;rw [hd] at z;cases d0<;>simp [KC] at X<;>first | (cases z;done)|skip
          all_goals simp [Cell.okWide,Cell.ok,T] at e
         rw [Y] at head;obtain ⟨v',r',e1,e2,_⟩:=head.cons_inv;cases e1;exact e2
        ·cases b
      ·cases b
     ·cases b
    ·cases x
theorem F7.none (h:Gl.tab=.nil) (M:Nat→Option (Array Value)):F7 M:=fun g l i=>by rw [h,T.get_nil] at i;cases i
theorem fe [U:Unk] (w:World) (a:F7 (Ej w)):HR ⟨fun _=>none,Ej w⟩ (T.nil:T Ab).get w:=by
 refine ⟨fun b base h=>(by cases h),fun b base x h=>(by cases h),fun b i base d _ h=>(by cases h),fun k arr h=>?_,fun k arr b base _ h=>(by cases h),a⟩
 simp only [Ej] at h;split at h
 ·rename_i c e f g;cases h;exact ⟨e,f,g⟩
 ·cases h
end
theorem L7 {H:Type} {b:TypeId×Value→H} {P:Program} {w:World} {base:Nat} {d:Nat→Bool} {a:Bool}:∀{ts:List TypeId} {e:List Value} {c:List (DataW H)} {f:List MemPlace},DataW.TrodAll b P w base d a ts e c f→c.length=ts.length
 |[],[],[],_,_=>rfl
 |_::_,_::_,_::_,_,⟨_,_,_,h,_⟩=>by simp [L7 h]
 |[],_::_,_,_,h=>by simp [DataW.TrodAll] at h
 |[],[],_::_,_,h=>by simp [DataW.TrodAll] at h
 |_::_,[],_,_,h=>by simp [DataW.TrodAll] at h
 |_::_,_::_,[],_,h=>by simp [DataW.TrodAll] at h
theorem HH {H:Type} {a:TypeId×Value→H} {P:Program} (j:laidOutB P=true) {W k:World} (l:Below W.heap.size W k):∀{ts:List TypeId} {f:List Value} {g:List (DataW H)} {e:List MemPlace},
  (∀t∈ts,P.readableRec t=true∧t<P.types.size)→DataW.TrodAll a P W 0 (fun _=>true) true ts f g e→(∀x∈e,x.block<W.heap.size)→DataW.TrodAll a P k 0 (fun b=>decide (b<W.heap.size)) true ts f g e
 |[],[],[],_,_,h,_=>h
 |t::ts,v::f,d::g,e,hr,⟨p,q,m,n,o⟩,c=>by
  subst o;exact ⟨p,q,Below.trod j (hr t (by simp)).1 (hr t (by simp)).2 m l (fun x i=>c x (by simp [i])),HH j l (fun t r=>hr t (by simp [r])) n (fun x i=>c x (by simp [i])),rfl⟩
 |[],_::_,_,_,_,h,_=>by simp [DataW.TrodAll] at h
 |[],[],_::_,_,_,h,_=>by simp [DataW.TrodAll] at h
 |_::_,[],_,_,_,h,_=>by simp [DataW.TrodAll] at h
 |_::_,_::_,[],_,_,h,_=>by simp [DataW.TrodAll] at h
end Go.AE
namespace Go.AE
variable [Gl:AH]
def BO:Code→Option Nat
 |.region id _ _=>some id
 |.seq a b=>match BO a with
  |some i=>some i
  |none=>BO b
 |.cond _ a b=>match BO a with
  |some i=>some i
  |none=>BO b
 |.block _ b=>BO b
 |.loop b=>BO b
 |.scope b=>BO b
 |_=>none
def gF (keys:List Nat) (c:Code):Bool:=match BO c with
 |some i=>Pn i keys
 |none=>false
def wp (keys:List Nat) (s:AS):Bool:=
 match s.cs,s.fr.mode,s.fr.todo with
 |[],.run,.code (.loop b)::_=>gF keys b
 |[],.run,.inLoop b::_=>gF keys b
 |_,_,_=>false
def zw:AV→Option SB
 |.sb _ e=>some e
 |_=>none
def orE (a b:Option SB):Option SB:=match a with
 |some x=>some x
 |none=>b
def ask [U:Facts] (e:SB):Option SB:=match AO U.facts e with
 |none=>some e
 |some _=>none
def Vc [Facts] (i n:SE):Option SB:=orE (ask (.lss i (.c 0))) (ask (.lss i n))
def Qo [Facts] (a:List SE):List (SB×Bool)→Option SB
 |[]=>none
 | (e,_)::r=>orE (ask (e.inst a)) (Qo a r)
inductive iy where
 |ask (e:SB)
 |no
 |free
 deriving Inhabited
def da:Obs→Bool
 |[]=>true
 | (a,.bc true)::r=>a.isB&&da r
 |_=>false
def Zd [Facts]:Obs→Option SB
 |[]=>none
 | (a,_)::r=>orE (ask a) (Zd r)
def YX:List AV→List AV→Bool
 |[],[]=>true
 |a::l,b::m=>(match a,b with
  |.func (.yield i) _ _,.func (.yield j) _ _=>Nat.beq i j
  |a,b=>Br a b)&&YX l m
 |_,_=>false
def gW:Option (List AV)→List AV→Bool
 |some l,m=>YX l m
 |none,_=>true
def Tt [Facts] (E:Env) (f:FuncId) (args:List AV) (h:Aa):Option (List AV)→List Sm→iy
  |_,[]=>.free
  |g,s::r=>match Nat.beq s.f f&&gW g s.args with
    |true=>match TZ E s args h with
     | (a,h0)=>match AT E s.pre 0 (Hi E s.pre h0 (Es s.args a ⟨.nil,.nil⟩)) h0 with
      | (m,c)=>match DS (FW (Iq m.v 0 s.nv) (Jh m.b 0 s.pre.length) s.args a) (En E (Iq m.v 0 s.nv) (Jh m.b 0 s.pre.length) c s.pre (Jh m.b 0 s.pre.length)) with
        |some o=>match da o with
          |true=>match orE (Zd o) (Qo (Iq m.v 0 s.nv) s.facts) with
            |some e=>.ask e
            |none=>match Tt E f args h (some s.args) r with
              |.free=>.no
              |x=>x
          |false=>Tt E f args h g r
        |none=>Tt E f args h g r
    |false=>Tt E f args h g r
def dr [Facts] (E:Env) (f:FuncId) (args:List AV) (h:Aa) (l:List Sm):iy:=Tt E f args h none l
def Qy [Facts] (E:Env) (f:Nat):Ask→Aa→Option (Bool×AV×Aa):=fun a h=>match a with
 |.enter g args=>match Le E g args h with
  |some r=>some r
  |none=>match args.isEmpty,dr E g args h E.sms with
   |true,.ask _=>none
   |true,.no=>none
   |_,_=>match B8 E g args .normal with
    |some fr=>FQ E f fr.fn true {fr,cs:=[],h}
    |none=>none
 |.round l args=>match Gx l args h with
  |some fr=>FQ E f fr.fn true {fr,cs:=[],h}
  |none=>none
def Jw [Facts] (h:Aa):AV→Option SB
 |.asl b _ n _=>match h.blk.get b with
  |some (.arr _ y)=>match MX n y with
   |true=>none
   |false=>ask (.eql n (.lenL y))
  |_=>none
 |_=>none
def XN [Facts] (E:Env) (ts:List TypeId) (args:List AV) (h:Aa):Option SB:=
 match ts,args with
 |t::_,[s,x]=>match E.desc t with
  |some (.slice e)=>match E.kinds e with
   |some a=>orE (orE (Jw h s) (Jw h x)) <| match ZQ e a (FX E e x (FX E e s h)) s with
    |some (b,_,_)=>match kV e a (FX E e x (FX E e s h)) b x with
     |some (_,m)=>orE (ask (.lss (.lenL b) (.c 1073741824))) (ask (.lss m (.c 1048576)))
     |none=>none
    |none=>none
   |none=>none
  |_=>none
 |_,_=>none
def RG [Facts] (a:Bool):SE→List AV→Option SB
 |_,[]=>none
 |x,y::r=>match toI y with
  |some (_,b)=>match (match a with|true=>AO Facts.facts (.lss x b)|false=>AO Facts.facts (.lss b x)) with
   |some true=>RG a b r
   |some false=>RG a x r
   |none=>some (match a with|true=>.lss x b|false=>.lss b x)
  |none=>none
def Ur [Facts] (b:Bool):List AV→Option SB
 |y::r=>match toI y with
  |some (_,a)=>RG b a r
  |none=>none
 |[]=>none
def YT [Facts] (E:Env) (t:TypeId) (k:AV):List Am→Option SB
 |[]=>none
 |e::r=>match eqK E t k e.key with
  |some true=>none
  |some false=>YT E t k r
  |none=>H4 E 10000 t k e.key
def Y7 [Facts] (E:Env) (t:TypeId) (m k:AV) (h:Aa):Option SB:=
 match LX E t,m with
 |some (d,e,a,b),.map r=>match cG d e a b (h.blk.get r),WK a k with
  |some x,some f=>ask (.lss (.mIdx a x f) (.c 0))
  |_,_=>none
 |_,_=>none
def dT [Facts] (n:SE):Option SE→Option SE→Option SB
 |some l,some u=>orE (ask (.lss l (.c 0))) (orE (ask (.lss u l)) (ask (.lss n u)))
 |_,_=>none
def hJ [U:Facts] (e:SE):Nat→Nat→Option SB
 |0,_=>none
 |n+1,j=>match AO U.facts (.eql e (.c j)) with
  |some true=>none
  |some false=>hJ e n (j+1)
  |none=>some (.eql e (.c j))
def IK [Facts] (n:Nat):AV→Option SB
 |.si _ e=>match Nat.ble n 64 with
  |true=>hJ e n 0
  |false=>none
 |_=>none
def JK [Facts] (n:Nat):Option AV→Option SB
 |some a=>IK n a
 |none=>none
def gn [U:Facts] (E:Env) (t:TypeId) (d x:AV) (h:Aa):Option SB:=
 match E.desc t,d with
 |some (.slice e),.slice _ _ n _=>match WI e h x with
  |some y=>match AO U.facts (.lss (.lenL y) (.c n)) with
   |some true=>IK n (.si .i64 (.lenL y))
   |some false=>none
   |none=>some (.lss (.lenL y) (.c n))
  |none=>Jw h x
 |_,_=>none
def PQ [Facts]:SE→Option SB
 |.strc _ _=>none
 |e=>ask (.lss (.lenS e) (.c 4611686018427387904))
def Rs (E:Env) (t:TypeId):Nat:=match E.desc t with
 |some (.array n _)=>n
 |_=>0
def Jx [Facts]:AV→Option SB
 |.nmap _ a=>ask a
 |.iface _ (.nmap _ a)=>ask a
 |_=>none
def OS [Facts]:List AV→Option SB
 |[]=>none
 |a::r=>orE (Jx a) (OS r)
def lz [Facts] (tmps:T AV):Op→Option SB
 |.lookup _ m _ _=>Jx (Ag tmps m)
 |.mapUpdate _ m _ _=>Jx (Ag tmps m)
 |.mapEntry _ m _=>Jx (Ag tmps m)
 |.range _ x=>Jx (Ag tmps x)
 |.call c=>match c.callee with
  |.builtin .append=>none
  |.builtin _=>OS (c.args.toList.map (Ag tmps))
  |.value _=>OS (c.args.toList.map (Ag tmps))
  |_=>none
 |_=>none
def kA [Facts] (E:Env) (tmps:T AV) (h:Aa) (g:Op):Option SB:=
 match g with
 |.pick c _ _=>zw (Ag tmps c)
 |.binOp .add _ x y _=>match VS (Ag tmps x),VS (Ag tmps y) with
  |some a,some b=>orE (PQ a) (PQ b)
  |_,_=>none
 |.binOp _ _ x y _=>match Ag tmps x,Ag tmps y with
  |.sb _ a,.sb _ b=>orE (ask a) (ask b)
  |_,.si _ b=>ask (.eql b (.c 0))
  |_,_=>none
 |.makeSlice _ l _=>match Ag tmps l with
  |.si _ n=>orE (ask (.lss n (.c 0))) (ask (.lss n (.c 1048577)))
  |_=>none
 |.indexAddr _ x i=>match Ag tmps x,toI (Ag tmps i) with
  |.dat _ y,some (_,j)=>Vc j (.lenL (Cj y))
  |.asl _ _ n _,some (_,j)=>Vc j n
  |.slice _ _ n _,_=>IK n (Ag tmps i)
  |.ptr _ _,_=>match g with
   |.indexAddr t _ _=>IK (Rs E t) (Ag tmps i)
   |_=>none
  |_,_=>none
 |.load _ a=>match Ag tmps a with
  |.aptr b _ i _=>match h.blk.get b with
   |some (.arr _ y)=>Vc i (.lenL (Cj y))
   |_=>none
  |_=>none
 |.store _ a _=>match Ag tmps a with
  |.aptr b _ i _=>match h.blk.get b with
   |some (.arr _ y)=>Vc i (.lenL (Cj y))
   |_=>none
  |_=>none
 |.index _ x i=>match Ag tmps x,toI (Ag tmps i) with
  |.ss y,some (_,j)=>Vc j (.lenS y)
  |.agg _,_=>match g with
   |.index t _ _=>IK (Rs E t) (Ag tmps i)
   |_=>none
  |_,_=>none
 |.convert _ _ x=>Jw h (Ag tmps x)
 |.slice _ x lo hi _=>match Ag tmps x with
  |.dat _ y=>dT (.lenL y) (Hd (.c 0) (A5 tmps lo)) (Hd (.lenL y) (A5 tmps hi))
  |.ss y=>dT (.lenS y) (Hd (.c 0) (A5 tmps lo)) (Hd (.lenS y) (A5 tmps hi))
  |.asl b o n p=>orE (Jw h (.asl b o n p)) (match h.blk.get b with
   |some (.arr _ y)=>dT (.lenL y) (Hd (.c 0) (A5 tmps lo)) (Hd (.lenL y) (A5 tmps hi))
   |_=>none)
  |.slice _ _ n _=>orE (JK (n+1) (A5 tmps lo)) (JK (n+1) (A5 tmps hi))
  |.ptr _ _=>match g with
   |.slice t _ _ _ _=>orE (JK (Rs E t+1) (A5 tmps lo)) (JK (Rs E t+1) (A5 tmps hi))
   |_=>none
  |_=>none
 |.lookup t m k _=>match E.desc t,Ag tmps m with
  |some (.map q _),.map r=>match h.blk.get r with
   |some (.map o _)=>YT E q (Ag tmps k) o
   |some (.dmap _ _ _)=>Y7 E t (Ag tmps m) (Ag tmps k) h
   |_=>none
  |_,_=>none
 |.mapUpdate t m k _=>match Sn (Ag tmps k)||mb (Zu h (Ag tmps m)) with
  |true=>Y7 E t (Ag tmps m) (Ag tmps k) h
  |false=>none
 |.mapEntry t m k=>match Sn (Ag tmps k)||mb (Zu h (Ag tmps m)) with
  |true=>Y7 E t (Ag tmps m) (Ag tmps k) h
  |false=>none
 |.call c=>match c.callee with
  |.builtin .max=>Ur true (c.args.toList.map (Ag tmps))
  |.builtin .min=>Ur false (c.args.toList.map (Ag tmps))
  |.builtin .delete=>match c.argTypes.toList,c.args.toList.map (Ag tmps) with
   |t::_,[m,k]=>match MM E t m k h with
    |some _=>none
    |none=>Y7 E t m k h
   |_,_=>none
  |.builtin .copy=>match c.argTypes.toList,c.args.toList.map (Ag tmps) with
   |t::_,[d,x]=>match YY E t d x h with
    |some _=>none
    |none=>gn E t d x h
   |_,_=>none
  |.builtin .append=>XN E c.argTypes.toList (c.args.toList.map (Ag tmps)) h
  |.builtin _=>none
  |_=>match aop E tmps h g with
   |.enter f args _=>match dr E f args h E.sms with
    |.ask e=>some e
    |_=>none
   |_=>none
 |_=>none
def Abp [Facts] (E:Env) (tmps:T AV) (h:Aa) (a:Op):Option SB:=orE (lz tmps a) (kA E tmps h a)
def jt [Facts] (E:Env) (s:AS):iy:=
 match E.sms.isEmpty with
 |true=>.free
 |false=>match s.fr.mode,s.fr.todo with
  |.run,.ops all (o::_)::_=>match O5 o.op with
   |true=>.free
   |false=>match Bf all o s.fr.tmps with
    |some true=>match aop E s.fr.tmps s.h o.op with
     |.enter f args _=>dr E f args s.h E.sms
     |_=>.free
    |_=>.free
  |.run,.code (.rangeFunc f params assign body)::k=>match D3 E s f params.toList assign body k with
   |some (g,args,a,_)=>dr E g args a E.sms
   |none=>.free
  |_,_=>.free
def cH (all:Array Oper) (o:Oper) (tmps:T AV):Option SB:=match o.guard with
 |some (j,_)=>match all.toList[j]? with
  |some g=>match g.dst with
   |some d=>match tmps.get d with
    |some v=>zw v
    |none=>none
   |none=>none
  |none=>none
 |none=>none
def sk [Facts] (E:Env) (all:Array Oper) (o:Oper) (tmps:T AV) (h:Aa):Option SB:=
 match Bf all o tmps with
 |none=>cH all o tmps
 |some _=>Abp E tmps h o.op
mutual
def YZ [Facts] (E:Env):Nat→AS→Option SB
 |0,_=>none
 |n+1,s=>match s.fr.todo with
  |.code (.cond c _ _)::_=>zw (Ag s.fr.tmps c)
  |.ops all (o::_)::_=>sk E all o s.fr.tmps s.h
  |.code (.region _ ops true)::_=>Wm E n ops s.fr.nt ops.toList [] s.fr.tmps s.h
  |_=>none
def MN [Facts] (E:Env):Nat→AS→Option SB
 |0,_=>none
 |n+1,s=>match Ww E s with
  |some i=>MN E n i
  |none=>match jt E s with
   |.ask e=>some e
   |.no=>none
   |.free=>match A4 E s with
    |.next i=>MN E n i
    |.draw s ops k=>match BH E (Qy E n) ops s.fr.nt ops.toList [] s.fr.tmps s.h with
     |some (none,tmps,h)=>MN E n {s with fr:={s.fr with tmps,todo:=k},h}
     |_=>YZ E n s
    |_=>YZ E n s
def Wm [Facts] (E:Env):Nat→Array Oper→Nat→List Oper→List Rc→T AV→Aa→Option SB
 |0,_,_,_,_,_,_=>none
 |_+1,_,_,[],_,_,_=>none
 |n+1,all,nt,o::rest,b,tmps,h=>match C7 E (Qy E n) all o (A0 tmps (Bg all o)) h with
  |some d=>match Ei nt tmps o.dst d.v with
   |some a=>Wm E n all nt rest b a (AX h d.g)
   |none=>none
  |none=>match sk E all o (A0 tmps (Bg all o)) h with
   |some e=>some e
   |none=>match aop E tmps h o.op with
    |.enter f args _=>match dr E f args h E.sms with
     |.ask e=>some e
     |.no=>none
     |.free=>match B8 E f args .normal with
      |some fr=>MN E n {fr,cs:=[],h}
      |none=>none
    |_=>none
end
inductive ml where
 |cut (F:List (SB×Bool)) (s:AS)
 |done (F:List (SB×Bool)) (v:AV) (h:Aa)
 |stuck (F:List (SB×Bool))
 deriving Inhabited
def B6 (V:Val) (F:List (SB×Bool)):Prop:=∀e b,(e,b)∈F→Ah V e=b
def Bx (ρ:Ren) (n:Nat):Prop:=∀b,n≤b→ρ b=none
@[reducible] def Bh (v:Vals) (F:List (SB×Bool)) (h:B6 v.V F):Unk:={facts:=F,toVals:=v,ok:=h}
theorem Bx.ext [v:Vals] {ρ i:Ren} {h h':Aa} {w j:World} (l:Bx ρ h.nx) (e:Ext ρ i h h' w j):Bx i h'.nx:=by
 intro b t;have:=e.nx;cases r:i b with
 |none=>rfl
 |some base=>
  rcases e.new b base r with q|⟨_,q,_⟩
  ·rw [l b (by omega)] at q;cases q
  ·omega
def ml.Good [v:Vals] (P:Program) (t:Ren) (s:AS) (c:Frame) (l:List Frame) (w:World) (base:List Frame):ml→Prop
 |.cut F r=>B6 v.V F∧r.cs=[]∧∃j C i,Steps P (lone c (l++base) w) (lone C base i)∧SR j r C [] i∧Ext t j s.h r.h w i
 |.done F x h=>B6 v.V F∧∃j I J w1 i,Steps P (lone c (l++base) w) (lone I base w1)∧Js P I w1 true J i∧VR j x J∧HR j h.blk.get i∧Ext t j s.h h w i
 |.stuck F=>B6 v.V F
theorem ml.Good.pre [v:Vals] {P:Program} {ρ σ:Ren} {s s':AS} {c c':Frame} {j i:List Frame} {w r:World} {base:List Frame} {l:ml} (hs:Steps P (lone c (j++base) w) (lone c' (i++base) r)) (he:Ext ρ σ s.h s'.h w r) (hf:Bx ρ s.h.nx)
  (h:l.Good P σ s' c' i r base):l.Good P ρ s c j w base:=by
 cases l with
 |cut F s2=>
  obtain ⟨t,h2,C,c2,w2,I,J,q3⟩:=h;exact ⟨t,h2,C,c2,w2,Steps.trans hs I,J,he.trans q3 (fun b hb _=>hf b hb)⟩
 |done F x h2=>
  obtain ⟨t,C,cf,v',w1,w2,I,J,q3,q4,q5⟩:=h;exact ⟨t,C,cf,v',w1,w2,Steps.trans hs I,J,q3,q4,he.trans q5 (fun b hb _=>hf b hb)⟩
 |stuck F=>exact h
theorem S0 {U:Unk} {E:Env} (hE:OK E) (hO:Ai E U.V.fn) (n:Nat):C8 E (Qy E n):=by
 have q:∀(fr:AF) (g d:Aa) (ok:Bool) (v:AV) (e:Ren) (i:Frame) (w:World),FrR e fr i→HR e g.blk.get w→WF g→FQ E n fr.fn true {fr,cs:=[],h:=g}=some (ok,v,d)→AJ e g.nx d.nx→
   ∀(c0:Frame) (base:List Frame),∃j m k,B4 E.P (lone i (c0::base) w) c0 base ok m k∧VR j v m∧HR j d.blk.get k∧Ext e j g d w k:=by
  intro fr g d ok v e i w c hr hwf b a c0 base;obtain ⟨j,t,m,w1,k,u,B,C,x,y,z,A⟩:=eQ hE hO n fr.fn true {fr,cs:=[],h:=g} e i [] w ok v d ⟨c,.nil,hr⟩ hwf b a (c0::base);refine ⟨j,m,k,?_,y,z,A⟩;have:=Steps.trans u (Steps.one (x.back c0 base));cases ok<;>exact this
 refine ⟨?_,?_⟩
 ·intro D args o g d ok v e w s hr hwf b a;simp only [Qy] at b;split at b
  ·rename_i r f;cases b;exact Eg hE hO f s hr hwf a
  ·split at b
   ·cases b
   ·cases b
   ·split at b
    ·rename_i fr c;exact q fr g d ok v e _ w (CO hE c s) hr hwf b a
    ·cases b
 ·intro l args g d ok v e w hr hwf b a;simp only [Qy] at b;split at b
  ·rename_i fr c;exact ⟨fr,c,fun i p=>q fr g d ok v e i w p hr hwf b a⟩
  ·cases b
end Go.AE
namespace Go.AE
variable [Gl:AH]
instance adLit {n:Nat}:OfNat AD n:=⟨{fn:=none,coll:=n,captured:=[],args:=[]}⟩
structure Cut where
 key:Option Nat
 fn:FuncId
 nt:Nat
 nv:Nat
 todo:List AI
 tmps:T AV
 pre:List (Option Ab)
 facts:List (SB×Bool)
 res:AV
 post:List (Option Ab)
 ent:Nat:=0
 defs:List AD:=[]
 deriving Inhabited
def Sa (l:List AD):List AD:=l
def qB (c:List SE) (b:List Nat) (d a:AD):Bool:=
 match d.fn,a.fn with
 |none,none=>toB b d.coll a.coll
 |some f,some g=>mV b f g&&SG (FW c b d.captured a.captured)&&SG (FW c b d.args a.args)
 |_,_=>false
def St (b:List SE) (c:List Nat):List AD→List AD→Bool
 |[],[]=>true
 |d::r,a::l=>qB b c d a&&St b c r l
 |_,_=>false
def eE:List (Option Ab)→Nat→Nat→T Nat→T Nat
 |some _::r,i,n+1,t=>eE r (i+1) n (t.set i i)
 |none::r,i,n+1,t=>eE r (i+1) n t
 |_,_,_,t=>t
def Cut.fr (c:Cut):AF:={fn:=c.fn,nt:=c.nt,tmps:=c.tmps,todo:=c.todo,defers:=Sa c.defs,mode:=.run,kind:=.normal,round:=none}
def Cut.h (c:Cut):Aa:={blk:=Ba c.pre,nx:=c.pre.length,log:=[]}
def Cut.st (c:Cut):AS:={fr:=c.fr,cs:=[],h:=c.h}
def Cut.h' (c:Cut):Aa:={blk:=Ba c.post,nx:=c.post.length,log:=List.range c.pre.length}
def me (d a:AD) (m:Bd):Bd:=
 match d.fn with
 |none=>m.blk d.coll a.coll
 |some _=>Es d.args a.args (Es d.captured a.captured m)
def Wk:List AD→List AD→Bd→Bd
 |d::r,a::l,m=>Wk r l (me d a m)
 |_,_,m=>m
def V8 (c:Cut) (s:AS):Bd:=Wk c.defs s.fr.defers (TK c.tmps s.fr.tmps ⟨.nil,eE c.pre 0 c.ent .nil⟩)
structure VC where
 F:List (SB×Bool)
 obs:Obs
 rec_:Option (Nat×List SE×List AI)
 deriving Inhabited
def idT:Nat→T Nat→T Nat
 |0,t=>t
 |n+1,t=>idT n (t.set n n)
def Y9:Nat→Nat→List Nat→Bool
 |_,0,_=>true
 |i,n+1,b::r=>Nat.beq b i&&Y9 (i+1) n r
 |_,_+1,[]=>false
def RQ:List (Option Ab)→Bool
 |[]=>true
 |some _::r=>RQ r
 |none::_=>false
def YQ [Facts] (E:Env) (c:Cut) (v:AV) (h:Aa):Option Obs:=
 match AT E c.post 0 (Hi E c.post h (Ge c.res v ⟨.nil,idT c.pre.length .nil⟩)) h with
 | (m,d)=>
  let a:=Jh m.b 0 c.post.length
  DQ (Y9 0 c.pre.length a&&(FI c.post a&&RQ (c.post.drop c.pre.length))&&Nat.ble c.pre.length c.post.length) (DS (CH [] a c.res v) (En E [] a d c.post a))
def Yt:List AI→Bool
 |[]=>true
 |.inRange _::_=>false
 |.endRange _::_=>false
 |.rest::_=>false
 |.dead::_=>false
 |.beginRound::_=>false
 |_::r=>Yt r
def Hw.isRun:Hw→Bool
 |.run=>true
 |_=>false
def fQ:CallKind→Bool
 |.normal=>true
 |_=>false
def JU (a:List SE):List (SB×Bool)→Obs
 |[]=>[]
 | (e,b)::r=>(e.inst a,.bc b)::JU a r
def gd [Facts] (E:Env) (c:Cut) (s:AS):Option (List SE×AV×Aa×Obs):=
 match AT E c.pre 0 (Hi E c.pre s.h (V8 c s)) s.h with
 | (m,d)=>
  let e:=Iq m.v 0 c.nv
  let a:=Jh m.b 0 c.pre.length
  match E3 a&&Qa d.nx a&&Nat.ble c.pre.length c.post.length&&Nat.beq s.fr.fn c.fn&&Nat.beq s.fr.nt c.nt&&St e a c.defs s.fr.defers&&s.fr.mode.isRun&&fQ s.fr.kind&&s.fr.round.isNone&&Yt s.fr.todo with
  |true=>match DS (leT e a c.tmps s.fr.tmps) (En E e a d c.pre a),D1 e (a++Dc d.nx (c.post.length-c.pre.length)) c.post (a++Dc d.nx (c.post.length-c.pre.length)) d.blk with
   |some o,some t=>some (e,c.res.inst e (a++Dc d.nx (c.post.length-c.pre.length)),{blk:=t,nx:=d.nx+(c.post.length-c.pre.length),log:=a++d.log},o++JU e c.facts)
   |_,_=>none
  |false=>none
theorem OX:∀{l:List (Option Ab)},RQ l=true→∀i,i<l.length→∃x,l[i]?=some (some x)
 |[],_,i,h=>by simp at h
 |some x::r,h,i,hi=>by
  cases i with
  |zero=>exact ⟨x,rfl⟩
  |succ i=>simpa using OX (l:=r) h i (by simpa using hi)
 |none::_,h,_,_=>by cases h
theorem Tz:∀(n i:Nat) (l:List Nat),Y9 i n l=true→∀j,j<n→l[j]?=some (i+j)
 |0,i,l,h,j,a=>by omega
 |n+1,i,[],h,j,a=>by cases h
 |n+1,i,b::r,h,j,a=>by
  simp only [Y9,Bool.and_eq_true] at h;cases j with
  |zero=>simp [Nat.eq_of_beq_eq_true h.1]
  |succ j=>
   have:=Tz n (i+1) r h.2 j (by omega)
   simp only [List.getElem?_cons_succ,this]
   congr 1;omega
theorem Nm {V:Val} {d:List SE}:∀{l:List (SB×Bool)},(JU d l).holds V→B6 (V.inst d) l
 |[],h,e,b,f=>by cases f
 | (x,c)::r,h,e,b,f=>by
  rcases List.mem_cons.1 f with q|q
  ·cases q;have:=h (x.inst d) (.bc c) (by simp [JU])
   unfold Ah;rw [←B2,this];rfl
  ·exact Nm (fun a g h'=>h a g (by simp [JU,h'])) e b q
theorem UH {v u:Vals} {ρ c:Ren}:∀{l:List AI} {b:List Item},Yt l=true→@IL v ρ l b→@IL u c l b
 |[],b,h,hi=>by cases hi;exact .nil
 |a::r,b,h,hi=>by
  cases hi with
  |cons d hr=>
   cases d<;>simp only [Yt,Bool.false_eq_true] at h<;>first | (cases h;done)|skip
   all_goals exact .cons (by constructor<;>assumption) (UH h hr)
  |rest=>cases h
theorem P1 {U W:Unk} {p:List SE} (hV:W.V=U.V.inst p) (hK:W.K=U.K) {q:List Nat} {ρ:Ren}:∀{s:List AD} {l:List AD} {j:List Deferred},St p q s l=true→@DL U.toVals ρ l j→@DL W.toVals (ρ.back q) (Sa s) j
 |[],[],[],_,_=>trivial
 |[],[],_::_,_,h=>h.elim
 |d::r,a::l,[],_,h=>h.elim
 |d::r,a::l,C::j,h,t=>by
  simp only [St,Bool.and_eq_true] at h;obtain ⟨b,u⟩:=h;refine ⟨?_,P1 hV hK u t.2⟩;have e:=t.1;unfold DR at e ⊢;unfold qB at b;cases i:d.fn with
  |none=>
   cases c:a.fn with
   |none=>
    rw [i,c] at b;rw [c] at e;obtain ⟨base,k,m⟩:=e;exact ⟨base,by rw [E2 b];exact k,m⟩
   |some g=>rw [i,c] at b;cases b
  |some f=>
   cases c:a.fn with
   |none=>rw [i,c] at b;cases b
   |some g=>
    rw [i,c] at b;rw [c] at e;simp only [Bool.and_eq_true] at b;obtain ⟨⟨v,w⟩,x⟩:=b;obtain ⟨n,y,z,k,m,A,B⟩:=e;exact ⟨n,y,z,YG hV hK v k,DA hV hK _ _ _ _ (Qd w) (fun _ _ o=>by cases o) m,DA hV hK _ _ _ _ (Qd x) (fun _ _ o=>by cases o) A,B⟩
 |[],_::_,_,h,_=>by cases h
 |_::_,[],_,h,_=>by cases h
section
variable {E:Env} {G:Nat→D→D} (hE:∀[U:Unk],U.K=(Env.of E.P).kinds→OK E) {v:Vals} (hK:v.K=(Env.of E.P).kinds)
include hE hK
theorem eV {F:List (SB×Bool)} (i:B6 v.V F) {c:Cut} {x:AV} {X:Value} {h:Aa} {S u:Ren} {w N:World} {o:Obs} (t:@YQ ⟨F⟩ E c x h=some o) (ho:o.holds v.V) (hv:VR u x X) (hr:HR u h.blk.get N) (hwf:WF h) (he:Ext S u c.h h w N) (A:Bx S c.pre.length) :
  ∃Y,VR Y c.res X∧HR Y c.h'.blk.get N∧Ext S Y c.h c.h' w N:=by
 have Z:@OK _ (Bh v F i) E:=hE (U:=Bh v F i) hK;have C:Bx u h.nx:=Bx.ext (h:=c.h) A he;unfold YQ at t;split at t;rename_i m h1 aa;obtain ⟨hc,t⟩:=A2 t;obtain ⟨o1,o2,ab,O,rfl⟩:=BJ t;obtain ⟨ac,Q⟩:=Obs.append ho;generalize ah:Jh m.b 0 c.post.length=M at *;have e2:(@AT ⟨F⟩ E c.post 0 (@Hi ⟨F⟩ E c.post h (Ge c.res x ⟨.nil,idT c.pre.length .nil⟩)) h).2=h1:=by rw [aa]
 obtain ⟨q1,q2,q3⟩:=Bn (U:=Bh v F i) (E:=E) c.post 0 (@Hi ⟨F⟩ E c.post h (Ge c.res x ⟨.nil,idT c.pre.length .nil⟩)) h hr hwf (fun b b1 _=>C b b1)
 rw [e2] at q1 q2 q3;have f:Ext S u c.h h1 w N:=he.trans q2 (fun b l _=>A b l)
 simp only [Bool.and_eq_true] at hc;obtain ⟨⟨H,ad,R⟩,n⟩:=hc;have H:=Tz _ _ _ H;have n:c.pre.length≤c.post.length:=Nat.le_of_ble_eq_true n;have hV:(Bh v F i).V=(Bh v F i).V.inst []:=rfl;have p1:=G8 (U:=Bh v F i) (W:=Bh v F i) hV rfl c.res x o1 X ab ac hv;have p2:=HR.toPatL (U:=Bh v F i) (W:=Bh v F i) hV rfl Z q1 O Q ad;obtain ⟨l1,l2⟩:=Da (U:=Bh v F i) (W:=Bh v F i) hV rfl c.post M o2 O Q;have g:∀j,j<c.pre.length→M[j]?=some j:=fun j hj=>by have:=H j hj;simpa using this
 refine ⟨u.back M,p1,p2,⟨⟨fun b base l=>?_,fun k a hk=>f.le.imm k a hk⟩,n,fun b base l=>?_,f.calm,f.kept,⟨List.range c.pre.length,by simp [Cut.h',Cut.h],fun b l hr=>?_⟩,fun b l=>?_,f.imm⟩⟩
 ·have I:b<c.pre.length:=by
   rcases Nat.lt_or_ge b c.pre.length with q|q
   ·exact q
   ·rw [A b q] at l;cases l
  show (M[b]?).bind u.m=some base;rw [g b I];exact f.le.m b base l
 ·have B:(M[b]?).bind u.m=some base:=l;cases e:M[b]? with
  |none=>rw [e] at B;cases B
  |some d=>
   rw [e] at B;have J:u d=some base:=B;rcases f.new d base J with q|⟨L,T,a3⟩
   ·have I:d<c.pre.length:=by
     rcases Nat.lt_or_ge d c.pre.length with p|p
     ·exact p
     ·rw [A d p] at q;cases q
    rcases Nat.lt_or_ge b c.pre.length with p|p
    ·rw [g b p] at e;cases e;exact .inl q
    ·have ai:=(List.getElem?_eq_some_iff.1 e).1;have ae:b<c.post.length:=by omega
     obtain ⟨y,hy⟩:=OX R (b-c.pre.length) (by simp;omega)
     rw [List.getElem?_drop,show c.pre.length+(b-c.pre.length)=b by omega] at hy
     obtain ⟨d',z,_,L,T,_,_⟩:=l2 b y hy;rw [e] at L;cases L;refine .inr ⟨p,ae,.inr ⟨d,base,q,?_,rfl⟩⟩;rcases f.live d (by rw [T];exact Option.some_ne_none _) with r|⟨r,_⟩
     ·exact r
     ·have:c.pre.length≤d:=r;omega
   ·have af:c.pre.length≤b:=by
     rcases Nat.lt_or_ge b c.pre.length with p|p
     ·rw [g b p] at e;cases e;have:c.pre.length≤b:=L;omega
     ·exact p
    have I:=(List.getElem?_eq_some_iff.1 e).1;exact .inr ⟨af,by show b<c.post.length;omega,a3⟩
 ·have ag:c.pre.length≤b:=by
   rcases Nat.lt_or_ge b c.pre.length with q|q
   ·exact absurd (List.mem_range.2 q) l
   ·exact q
  have J:c.post.length≤b:=by
   rcases hr with q|q
   ·have:b<c.pre.length:=q;omega
   ·exact q
  show (Ba c.post).get b=(Ba c.pre).get b;rw [Ce,Ce,List.getElem?_eq_none J,List.getElem?_eq_none ag]
 ·have s:(Ba c.post).get b≠none:=l;rw [Ce] at s;cases t:c.post[b]? with
  |none=>rw [t] at s;exact absurd rfl s
  |some ox=>
   cases ox with
   |none=>rw [t] at s;exact absurd rfl s
   |some y=>
    obtain ⟨d,z,_,L,T,_,_⟩:=l2 b y t;rcases Nat.lt_or_ge b c.pre.length with q|q
    ·rw [g b q] at L;cases L;rcases f.live b (by rw [T];exact Option.some_ne_none _) with r|⟨r,_⟩
     ·exact .inl r
     ·have:c.pre.length≤b:=r;omega
    ·exact .inr ⟨q,(List.getElem?_eq_some_iff.1 t).1⟩
end
end Go.AE
namespace Go.AE
variable [Gl:AH]
structure VC.Holds (G:Nat→D→D) (Pre:Nat→Val→Prop) (μ:Nat→Val→Nat) (i:Nat) (V:Val) (vc:VC):Prop where
 obs:vc.obs.holds V
 rec_:∀j θ td,vc.rec_=some (j,θ,td)→Pre j (V.inst θ)∧μ j (V.inst θ)<μ i V
theorem KJ (l:List (Option Ab)) (n:List Nat):WF {blk:=Ba l,nx:=l.length,log:=n}:=by
 intro b a;show (Ba l).get b=none;rw [Ce,List.getElem?_eq_none a];rfl
def Cut.sm (c:Cut) (args:List AV):Sm:={f:=c.fn,nv:=c.nv,args,pre:=c.pre,facts:=c.facts,res:=c.res,post:=c.post}
def M1 (E:Env) (f:FuncId) (args:List AV):AF:=match B8 E f args .normal with
 |some fr=>fr
 |none=>default
end Go.AE
namespace Go.AE
variable [Gl:AH]
inductive Tr (α:Type) where
 |leaf (a:α)
 |split (e:SB) (t f:Tr α)
 deriving Inhabited
inductive Lf where
 |cut (s:AS)
 |done (ok:Bool) (v:AV) (h:Aa)
 |stuck
 deriving Inhabited
def Lf.Good [v:Vals] (P:Program) (f0:FuncId) (C:Ren) (s:AS) (c:Frame) (l:List Frame) (w:World) (base:List Frame) (F:List (SB×Bool)):Lf→Prop
 |.cut t=>B6 v.V F∧t.cs=[]∧∃j I i,Steps P (lone c (l++base) w) (lone I base i)∧SR j t I [] i∧Ext C j s.h t.h w i
 |.done ok x h=>B6 v.V F∧∃j r J w1 i,Steps P (lone c (l++base) w) (lone r base w1)∧r.fn=f0∧r.roundOf=none∧Js P r w1 ok J i∧VR j x J∧HR j h.blk.get i∧Ext C j s.h h w i
 |.stuck=>B6 v.V F
theorem Lf.Good.pre [v:Vals] {P:Program} {f0:FuncId} {ρ σ:Ren} {s s':AS} {c c':Frame} {j i:List Frame} {w r:World} {base:List Frame} {F:List (SB×Bool)} {l:Lf} (hs:Steps P (lone c (j++base) w) (lone c' (i++base) r)) (he:Ext ρ σ s.h s'.h w r) (hf:Bx ρ s.h.nx)
  (h:l.Good P f0 σ s' c' i r base F):l.Good P f0 ρ s c j w base F:=by
 cases l with
 |cut s2=>
  obtain ⟨t,h2,C,c2,w2,I,J,q3⟩:=h;exact ⟨t,h2,C,c2,w2,Steps.trans hs I,J,he.trans q3 (fun b hb _=>hf b hb)⟩
 |done ok x h2=>
  obtain ⟨t,C,cf,v',w1,w2,I,J,q3,q4,q5,q6,q7⟩:=h;exact ⟨t,C,cf,v',w1,w2,Steps.trans hs I,J,q3,q4,q5,q6,he.trans q7 (fun b hb _=>hf b hb)⟩
 |stuck=>exact h
def UW (e:SB):Option (Tr Lf)→Option (Tr Lf)→Option (Tr Lf)
 |some a,some b=>some (.split e a b)
 |_,_=>none
def Tr.way {i:Type} (V:Val):Tr i→List (SB×Bool)→i×List (SB×Bool)
 |.leaf a,F=>(a,F)
 |.split e t f,F=>match Ah V e with
  |true=>t.way V ((e,true)::F)
  |false=>f.way V ((e,false)::F)
def Tr.get {i:Type} (V:Val):Tr i→i
 |.leaf a=>a
 |.split e t f=>match Ah V e with
  |true=>t.get V
  |false=>f.get V
def xH (keys:List Nat) (s:AS):Bool:=
 match s.cs,s.fr.mode,s.fr.todo with
 |[],.run,.code (.region id _ _)::_=>Pn (id+1000000) keys
 |_,_,_=>false
def Hm (E:Env) (keys:List Nat) (a:FuncId):Nat→List (SB×Bool)→AS→Option (Tr Lf)
 |0,_,_=>none
 |n+1,F,s=>
  let part (_:Unit):Option (Tr Lf):=match @YZ ⟨F⟩ E n s with
   |some e=>match AO F e with
    |none=>UW e (Hm E keys a n ((e,true)::F) s) (Hm E keys a n ((e,false)::F) s)
    |some _=>some (.leaf .stuck)
   |none=>some (.leaf .stuck)
  match @Ww ⟨F⟩ E s with
  |some c=>Hm E keys a n F c
  |none=>match @jt ⟨F⟩ E s with
  |.ask e=>UW e (Hm E keys a n ((e,true)::F) s) (Hm E keys a n ((e,false)::F) s)
  |.no=>some (.leaf .stuck)
  |.free=>match @A4 ⟨F⟩ E s with
   |.next c=>match wp keys s with
    |true=>some (.leaf (.cut c))
    |false=>match xH keys c with
     |true=>some (.leaf (.cut c))
     |false=>Hm E keys a n F c
   |.done ok v h=>match s.fr.round.isNone&&Nat.beq s.fr.fn a with
    |true=>some (.leaf (.done ok v h))
    |false=>some (.leaf .stuck)
   |.draw b ops k=>match @BH ⟨F⟩ E (@Qy ⟨F⟩ E n) ops b.fr.nt ops.toList [] b.fr.tmps b.h with
    |some (none,tmps,h)=>Hm E keys a n F {b with fr:={b.fr with tmps,todo:=k},h}
    |some (some v,tmps,h)=>Hm E keys a n F {b with fr:={b.fr with tmps,todo:=.dead::k,mode:=.panic [(v,false)]},h}
    |none=>part ()
   |.bad _=>part ()
theorem lh {E:Env} {keys:List Nat} {R:FuncId} {G:Nat→D→D} (hE:∀[U:Unk],U.K=(Env.of E.P).kinds→OK E) (hO:Ai E G) [v:Vals] (hK:v.K=(Env.of E.P).kinds) (hG:v.V.fn=G) (base:List Frame) :
  ∀(n:Nat) (F:List (SB×Bool)) (s:AS) (t:Tr Lf),Hm E keys R n F s=some t→B6 v.V F→∀(z:Ren) (c:Frame) (f:List Frame) (w:World),SR z s c f w→WF s.h→Bx z s.h.nx→(t.way v.V F).1.Good E.P R z s c f w base (t.way v.V F).2:=by
 subst hG;intro n
 induction n with
 |zero=>intro F s t h;cases h
 |succ n ih=>
  intro F s t j i z c f w l hwf A;have r:@OK _ (Bh v F i) E:=hE (U:=Bh v F i) hK;have S:∀m,AJ z s.h.nx m:=fun m b Y _=>A b Y
  simp only [Hm] at j
  generalize g:(match @YZ ⟨F⟩ E n s with
   |some e=>match AO F e with
    |none=>UW e (Hm E keys R n ((e,true)::F) s) (Hm E keys R n ((e,false)::F) s)
    |some _=>some (.leaf .stuck)
   |none=>some (.leaf .stuck))=pt at j
  have B:∀e,UW e (Hm E keys R n ((e,true)::F) s) (Hm E keys R n ((e,false)::F) s)=some t→(t.way v.V F).1.Good E.P R z s c f w base (t.way v.V F).2:=by
   intro e W;unfold UW at W;split at W
   ·rename_i a b ha Y;cases W;simp only [Tr.way];cases he:Ah v.V e with
    |true=>
     exact ih _ _ _ ha (fun e' b' X=>by
      rcases List.mem_cons.1 X with q|q
      ·cases q;exact he
      ·exact i e' b' q) z c f w l hwf A
    |false=>
     exact ih _ _ _ Y (fun e' b' X=>by
      rcases List.mem_cons.1 X with q|q
      ·cases q;exact he
      ·exact i e' b' q) z c f w l hwf A
   ·cases W
  have Z:pt=some t→(t.way v.V F).1.Good E.P R z s c f w base (t.way v.V F).2:=by
   intro W;subst W;split at g
   ·rename_i e _;split at g
    ·exact B e g
    ·cases g;exact i
   ·cases g;exact i
  have go:∀(C:AS) (u:Ren) (T:Frame) (d:List Frame) (w1:World),Steps E.P (lone c (f++base) w) (lone T (d++base) w1)→SR u C T d w1→Ext z u s.h C.h w w1→Hm E keys R n F C=some t→(t.way v.V F).1.Good E.P R z s c f w base (t.way v.V F).2:=by
   intro C u T d w1 h1 h2 h3 h4;exact (ih F C t h4 i u T d w1 h2 (Ext.wf (U:=Bh v F i) h3 hwf) (A.ext h3)).pre h1 h3 A
  split at j
  ·rename_i C aa;obtain ⟨u,H,d,I,J,y,L⟩:=MY (U:=Bh v F i) r hO l hwf aa (S _) base;exact go C u H d I J y L j
  split at j
  ·exact B _ j
  ·cases j;exact i
  ·split at j
   ·rename_i C o;obtain ⟨u,H,d,I,J,y,L⟩:=Gq (U:=Bh v F i) (base:=base) r l o (S _);split at j
    ·rename_i M;cases j
     have N:C.cs=[]:=by
      unfold wp at M;split at M
      ·rename_i e1 e2 e3;simp only [A4,e2,e3] at o;cases o;exact e1
      ·rename_i e1 e2 e3;simp only [A4,e2,e3] at o;cases o;exact e1
      ·cases M
     have O:d=[]:=by
      have:=y.cs;rw [N] at this;cases this;rfl
     subst O;exact ⟨i,N,u,H,I,Steps.one J,y,L⟩
    ·split at j
     ·rename_i Q;cases j
      have N:C.cs=[]:=by
       unfold xH at Q;split at Q
       ·assumption
       ·cases Q
      have O:d=[]:=by
       have:=y.cs;rw [N] at this;cases this;rfl
      subst O;exact ⟨i,N,u,H,I,Steps.one J,y,L⟩
     ·exact go C u H d I (Steps.one J) y L j
   ·rename_i ac v' h' o;split at j
    ·rename_i Y;cases j;obtain ⟨rfl,x,I,J,y,L,q4⟩:=Ih (U:=Bh v F i) r l o;obtain ⟨b2,b3⟩:=Aq (U:=Bh v F i) Y;have p:=l.fr.round;rw [Option.isNone_iff_eq_none] at b2;rw [b2] at p
     have ab:c.roundOf=none:=by
      cases hz:c.roundOf with
      |none=>rfl
      |some=>rw [hz] at p;exact p.elim
     exact ⟨i,z,c,x,w,I,Steps.refl _ _,l.fr.fn.trans (Aw b3),ab,q4,J,y,L⟩
    ·cases j;exact i
   ·rename_i s2 ops k o;obtain ⟨rfl,X,id,ht⟩:=CC (U:=Bh v F i) o;split at j
    ·rename_i tmps h1 hd;obtain ⟨u,T,I,J,y,L⟩:=FN (U:=Bh v F i) r (S0 (U:=Bh v F i) r hO n) l hwf X ht hd (S _) base;exact go _ u T f I J y L j
    ·rename_i tmps h1 hd;obtain ⟨u,T,I,J,y,L⟩:=FN (U:=Bh v F i) r (S0 (U:=Bh v F i) r hO n) l hwf X ht hd (S _) base;exact go _ u T f I J y L j
    ·exact Z j
   ·exact Z j
end Go.AE
namespace Go.AE
variable [Gl:AH]
def SE.fits (n m:Nat):SE→Bool
 |.c _=>true
 |.var i=>Nat.blt i n
 |.lenS a=>a.fits n m
 |.lenL a=>a.fits n m
 |.arith _ _ a b=>a.fits n m&&b.fits n m
 |.conv _ a=>a.fits n m
 |.lss a b=>a.fits n m&&b.fits n m
 |.eql a b=>a.fits n m&&b.fits n m
 |.eqS a _ _=>a.fits n m
 |.eqSS a b=>a.fits n m&&b.fits n m
 |.isNil a=>a.fits n m
 |.bc _=>true
 |.neg a=>a.fits n m
 |.and a b=>a.fits n m&&b.fits n m
 |.nilIs a b=>a.fits n m&&b.fits n m
 |.strc _ _=>true
 |.strAt a b=>a.fits n m&&b.fits n m
 |.strCat a b=>a.fits n m&&b.fits n m
 |.strSub a b x=>a.fits n m&&b.fits n m&&x.fits n m
 |.cell a i _=>a.fits n m&&i.fits n m
 |.sel a _=>a.fits n m
 |.nilL=>true
 |.emptyL=>true
 |.snoc a r=>a.fits n m&&r.fits n m
 |.upd a i _ x=>a.fits n m&&i.fits n m&&x.fits n m
 |.rep a b=>a.fits n m&&b.fits n m
 |.cat a b=>a.fits n m&&b.fits n m
 |.sub a b x=>a.fits n m&&b.fits n m&&x.fits n m
 |.rnil=>true
 |.rcons a b=>a.fits n m&&b.fits n m
 |.app f a=>Nat.blt f m&&a.fits n m
 |.bytes a=>a.fits n m
 |.ofBytes a=>a.fits n m
 |.mIdx _ a k=>a.fits n m&&k.fits n m
 |.rmv a i=>a.fits n m&&i.fits n m
structure Val.Alike (n m:Nat) (V W:Val):Prop where
 d:∀i,i<n→V.d i=W.d i
 fn:∀i,i<m→V.fn i=W.fn i
theorem SE.fits_ok {n m:Nat} {V W:Val} (h:V.Alike n m W):∀e:SE,e.fits n m=true→Ac V e=Ac W e:=by
 intro e
 induction e<;>intro j<;>(try simp only [SE.fits,Bool.and_eq_true] at j)<;>simp only [Ac]
 case var i=>exact h.d i (by simpa [Nat.blt_eq] using j)
 case app f x ih=>rw [ih j.2,h.fn f (by simpa [Nat.blt_eq] using j.1)]
 all_goals simp_all only [forall_const]
def Ar4 (g:Nat) (st:SE):SE→Bool
 |.app b a=>Nat.beq g b&&st.same a
 |_=>false
def Be (g:Nat) (st:SE) (f:Nat→SE):SE→SE
 |.sel a j=>match Ar4 g st a with
  |true=>f j
  |false=>.sel (Be g st f a) j
 |.c n=>.c n
 |.var i=>.var i
 |.lenS a=>.lenS (Be g st f a)
 |.lenL a=>.lenL (Be g st f a)
 |.arith d k a b=>.arith d k (Be g st f a) (Be g st f b)
 |.conv k a=>.conv k (Be g st f a)
 |.lss a b=>.lss (Be g st f a) (Be g st f b)
 |.eql a b=>.eql (Be g st f a) (Be g st f b)
 |.eqS a l b=>.eqS (Be g st f a) l b
 |.eqSS a b=>.eqSS (Be g st f a) (Be g st f b)
 |.isNil a=>.isNil (Be g st f a)
 |.bc b=>.bc b
 |.neg a=>.neg (Be g st f a)
 |.and a b=>.and (Be g st f a) (Be g st f b)
 |.nilIs a b=>.nilIs (Be g st f a) (Be g st f b)
 |.strc l b=>.strc l b
 |.strAt a i=>.strAt (Be g st f a) (Be g st f i)
 |.strCat a b=>.strCat (Be g st f a) (Be g st f b)
 |.strSub a lo hi=>.strSub (Be g st f a) (Be g st f lo) (Be g st f hi)
 |.cell a i j=>.cell (Be g st f a) (Be g st f i) j
 |.nilL=>.nilL
 |.emptyL=>.emptyL
 |.snoc a r=>.snoc (Be g st f a) (Be g st f r)
 |.upd a i j x=>.upd (Be g st f a) (Be g st f i) j (Be g st f x)
 |.rep n r=>.rep (Be g st f n) (Be g st f r)
 |.cat a b=>.cat (Be g st f a) (Be g st f b)
 |.sub a lo hi=>.sub (Be g st f a) (Be g st f lo) (Be g st f hi)
 |.rnil=>.rnil
 |.rcons x r=>.rcons (Be g st f x) (Be g st f r)
 |.app h x=>.app h (Be g st f x)
 |.bytes a=>.bytes (Be g st f a)
 |.ofBytes a=>.ofBytes (Be g st f a)
 |.mIdx e a k=>.mIdx e (Be g st f a) (Be g st f k)
 |.rmv a i=>.rmv (Be g st f a) (Be g st f i)
theorem Zf {V:Val} {g:Nat} {st:SE} {f:Nat→SE} (b:∀j,Ac V (f j)=Ac V (.sel (.app g st) j)):∀e:SE,Ac V (Be g st f e)=Ac V e:=by
 intro e
 induction e
 case sel a j ih=>
  simp only [Be];split
  ·rename_i h;rw [b];cases a<;>simp only [Ar4,Bool.false_eq_true,Bool.and_eq_true] at h
   rw [Aw h.1,SE.same_ok (U:=AB) h.2]
  ·simp only [Ac,ih]
 all_goals simp_all only [Be,Ac]
def Fp (step:D→Option (D ⊕ D)):Nat→D→Option D
 |0,_=>none
 |n+1,d=>match step d with
  |none=>none
  |some (.inr r)=>some r
  |some (.inl a)=>Fp step n a
theorem Qm {step:D→Option (D ⊕ D)}:∀{n m:Nat} {d r s:D},Fp step n d=some r→Fp step m d=some s→r=s
 |0,_,_,_,_,h,_=>by cases h
 |_+1,0,_,_,_,_,h=>by cases h
 |n+1,m+1,d,r,s,h,k=>by
  simp only [Fp] at h k;split at h
  ·cases h
  ·rename_i x a;rw [a] at k;cases h;cases k;rfl
  ·rename_i b a;rw [a] at k;exact Qm h k
class CP where
 f:(D→Option (D ⊕ D))→D→D
 run:∀{step:D→Option (D ⊕ D)} {n:Nat} {d r:D},Fp step n d=some r→f step d=r
 or:∀(step:D→Option (D ⊕ D)) (d:D),f step d=.row []∨∃n,Fp step n d=some (f step d)
theorem jX:Nonempty CP:=by
 classical
 have key:∀(step:D→Option (D ⊕ D)) (d:D),∃r,(∀n s,Fp step n d=some s→r=s)∧(r=.row []∨∃n,Fp step n d=some r):=by
  intro step d;by_cases h:∃r n,Fp step n d=some r
  ·obtain ⟨r,n,hr⟩:=h;exact ⟨r,fun m s a=>Qm hr a,.inr ⟨n,hr⟩⟩
  ·exact ⟨.row [],fun m s a=>absurd ⟨s,m,a⟩ h,.inl rfl⟩
 exact ⟨⟨fun step d=>Classical.choose (key step d),fun {step n d r} h=>(Classical.choose_spec (key step d)).1 n r h,fun step d=>(Classical.choose_spec (key step d)).2⟩⟩
section
variable [CP]
def C0 (step:D→Option (D ⊕ D)) (d:D):D:=CP.f step d
theorem Ex {step:D→Option (D ⊕ D)} {n:Nat} {d r:D} (h:Fp step n d=some r):C0 step d=r:=CP.run h
theorem GT (step:D→Option (D ⊕ D)) (d:D):C0 step d=.row []∨∃n,Fp step n d=some (C0 step d):=CP.or step d
theorem S5 {step:D→Option (D ⊕ D)} {d r:D} (h:step d=some (.inr r)):C0 step d=r:=Ex (n:=1) (by simp [Fp,h])
theorem UC {step:D→Option (D ⊕ D)} {d a:D} (h:step d=some (.inl a)):C0 step d=C0 step a:=by
 rcases GT step a with q|⟨n,c⟩
 ·rcases GT step d with e|⟨m,b⟩
  ·rw [q,e]
  ·cases m with
   |zero=>cases b
   |succ m=>
    simp only [Fp,h] at b;exact (Ex b).symm
 ·exact Ex (n:=n+1) (by simp only [Fp,h];exact c)
end
end Go.AE
namespace Go.AE
variable [Gl:AH]
structure Pt where
 key:Option Nat
 nt:Nat
 nv:Nat
 todo:List AI
 tmps:T AV
 pre:List (Option Ab)
 facts:List (SB×Bool)
 defs:List AD:=[]
 deriving Inhabited
structure Sh where
 m:Nat
 res:AV
 post:List (Option Ab)
 keep:List Nat
 keepC:List (Nat×List Nat):=[]
 ok:Bool:=true
 deriving Inhabited
structure Dec where
 g:Nat
 f:FuncId
 p:Nat
 pts:List Pt
 shs:List Sh
 deriving Inhabited
inductive Plf where
 |stuck
 |done (s:Nat) (parts:List SE)
 |next (j:Nat) (θ:List SE)
 deriving Inhabited
def lM:List SE→SE
 |[]=>.rnil
 |x::r=>.rcons x (lM r)
def stE (i:Nat) (a:List SE):SE:=.rcons (.c i) (lM a)
def DH:Nat→Nat→List SE
 |_,0=>[]
 |i,n+1=>.var i::DH (i+1) n
def X3 (g j:Nat) (a:List SE) (s:Nat):SE:=.eql (.sel (.app g (stE j a)) 0) (.c (s+1:Nat))
theorem QS (V:Val):∀l:List SE,Ac V (lM l)=.row (l.map (Ac V))
 |[]=>rfl
 |x::r=>by simp only [lM,Ac,QS V r,D.cells,List.map_cons]
theorem Ou (V:Val) (i:Nat) (l:List SE):Ac V (stE i l)=.row (.int i::l.map (Ac V)):=by
 simp only [stE,Ac,QS,D.cells]
theorem H6 (V:Val):∀(n i:Nat),(DH i n).map (Ac V)=(List.range n).map fun j=>V.d (i+j)
 |0,i=>rfl
 |n+1,i=>by
  simp only [DH,List.map_cons,H6 V n (i+1),List.range_succ_eq_map,List.map_map];refine congr (congrArg _ ?_) ?_
  ·simp [Ac]
  ·apply List.map_congr_left;intro j _;show V.d (i+1+j)=V.d (i+(j+1));congr 1;omega
def Aen (g:Nat) (st:SE):Nat→Nat→List SE
 |_,0=>[]
 |j,n+1=>.sel (.app g st) j::Aen g st (j+1) n
def WQ:Nat→Nat→List Nat
 |_,0=>[]
 |i,n+1=>i::WQ (i+1) n
def vf [Facts] (a:List SE) (b:List Nat):Option Ab→Option Ab
 |some x=>x.inst a b
 |none=>none
def cellsOf (i:Nat):List (Nat×List Nat)→List Nat
 |[]=>[]
 | (j,l)::r=>match Nat.beq i j with
  |true=>l
  |false=>cellsOf i r
def ga (c:T AV):List Nat→T AV→T AV
 |[],t=>t
 |j::r,t=>match c.get j with
  |some a=>ga c r (t.set j a)
  |none=>ga c r t
def Aui (l:List Nat) (y:Ab) (x:Option Ab):Option Ab:=match l with
 |[]=>x
 |_=>match x,y with
  |some (.cells n c),.cells _ d=>some (.cells n (ga d l c))
  |x,_=>x
def Sz [Facts] (a:List SE) (b:List Nat) (keep:List Nat) (keepC:List (Nat×List Nat)):Nat→Nat→List (Option Ab)→List (Option Ab)→List (Option Ab)
 |_,0,_,_=>[]
 |i,n+1,x::c,y::d=>(match y with
  |some y=>(match Pn i keep with
   |true=>some y
   |false=>Aui (cellsOf i keepC) y (vf a b x))
  |none=>none)::Sz a b keep keepC (i+1) n c d
 |i,n+1,_,_=>none::Sz a b keep keepC (i+1) n [] []
@[reducible] def RC:Facts:=⟨[]⟩
def Cm (d:Dec) (i:Nat) (a:Pt) (s:Nat) (b:Sh):Cut:=
 let c:=Aen d.g (stE i (DH 0 a.nv)) 1 b.m
 let e:=WQ 0 d.p++WQ a.pre.length (b.post.length-d.p)
 {key:=a.key,fn:=d.f,nt:=a.nt,nv:=a.nv,todo:=a.todo,tmps:=a.tmps,pre:=a.pre,facts:=a.facts++[(X3 d.g i (DH 0 a.nv) s,true)],
  res:=@AV.inst RC c e b.res,post:=@Sz RC c e b.keep b.keepC 0 d.p b.post a.pre++List.replicate (a.pre.length-d.p) none++(b.post.drop d.p).map (@vf RC c e),ent:=d.p,defs:=a.defs}
def W3:SE→SE
 |.and x (.bc true)=>x
 |x=>x
theorem bZ (V:Val) (x:SE):Ah V (W3 x)=Ah V x:=by
 unfold W3;split
 ·rename_i x;show Ah V x=((Ah V x)&&true);rw [Bool.and_true]
 ·rfl
def Yq (F:List (SB×Bool)) (g:Nat) (st:SE) (f:Nat→SE) (a:SE) (p:SE×SE):Bool:=
 match ((Be g st f p.1).norm).same ((Be g st f p.2).norm) with
 |true=>true
 |false=>match p.2.norm with
  |.bc c=>p.1.isB&&(match AO F (W3 p.1) with
   |some d=>d==c
   |none=>c&&p.1.norm.same a.norm)
  |_=>false
def F2 (F:List (SB×Bool)) (g:Nat) (st:SE) (f:Nat→SE) (a:SE):Obs→Bool
 |[]=>true
 |p::r=>match Yq F g st f a p with
  |true=>F2 F g st f a r
  |false=>false
def zE [Facts] (E:Env) (p a:AV) (h:Aa):AV×Aa:=
 match p,a with
 |.tuple c,.tuple d=>match Up E c d h with
  | (b,e)=>(.tuple b,e)
 |p,a=>Tb E p a h
theorem kO {U:Unk} {E:Env} (hE:OK E) {w:World} {p a f:AV} {v:Value} {d:Ren} {h h':Aa} (hr:HR d h.blk.get w) (g:VR d a v) (b:zE E p a h=(f,h')) :
  h'.nx=h.nx∧∃c:Ren,VR c f v∧HR c h'.blk.get w∧Ext d c h h' w w:=by
 unfold zE at b;split at b
 ·rename_i r s;split at b;rename_i e t j;cases b;cases g with
  |tuple _ k l m=>
   obtain ⟨n,c,i,o,q⟩:=Sp hE hr ⟨l,m⟩ j;exact ⟨n,c,.tuple e k i.1 i.2,o,q⟩
 ·exact Ue hE hr g b
def MO [Facts] (E:Env) (c:Cut) (v:AV) (h:Aa):AV×Aa:=match zE E c.res v h with
 | (v,h)=>(v,DX E c.post 0 (Hi E c.post h (Ge c.res v ⟨.nil,idT c.pre.length .nil⟩)).b h)
theorem Xt {U:Unk} {E:Env} (hE:OK E) {w:World} {c:Cut} {a e:AV} {v:Value} {f:Ren} {h h':Aa} (hr:HR f h.blk.get w) (k:VR f a v) (g:MO E c a h=(e,h')) :
  h'.nx=h.nx∧∃d:Ren,VR d e v∧HR d h'.blk.get w∧Ext f d h h' w w:=by
 unfold MO at g;split at g;rename_i x i l;cases g;obtain ⟨s,d,m,n,o⟩:=kO hE hr k l;obtain ⟨t,p,q,j⟩:=Bu hE c.post 0 (Hi E c.post i (Ge c.res e ⟨.nil,idT c.pre.length .nil⟩)).b i d n;exact ⟨by omega,p,m.mono j.le,q,o.trans j (fun b u r=>by omega)⟩
def MS [Facts] (E:Env) (c:Cut) (s:AS):AS:={s with h:=DX E c.pre 0 (Hi E c.pre s.h (V8 c s)).b s.h}
def ZK:List SE→List SE→Bool
 |[],[]=>true
 |a::l,b::m=>a.norm.same b.norm&&ZK l m
 |_,_=>false
def Aej (s:Nat) (cs:List SE):Nat→SE
 |0=>.c (s+1:Nat)
 |k+1=>cs.getD k (.bc false)
def Ang (g j:Nat) (a:List SE) (k:Nat):SE:=.sel (.app g (stE j a)) k
def Sd (E:Env) (d:Dec) (i:Nat) (b:Pt) (F:List (SB×Bool)) (l:Lf) (m:Plf) (s:Nat) (a:Sh):Bool:=
  match m,l with
  |.stuck,_=>true
  |.done n cs,.done ok v h=>match Nat.beq n s with
    |false=>true
    |true=>match ok==a.ok with
     |false=>false
     |true=>match @MO ⟨F⟩ E (Cm d i b s a) v h with
      | (v,h)=>match @YQ ⟨F⟩ E (Cm d i b s a) v h with
        |some o=>F2 F d.g (stE i (DH 0 b.nv)) (Aej s cs) (.c 0) o
        |none=>false
  |.next j e,.cut p=>match d.pts[j]? with
    |some k=>match @gd ⟨F⟩ E (Cm d j k s a) (@MS ⟨F⟩ E (Cm d j k s a) p) with
      |some (f,x,h',o1)=>match ZK f e,@YQ ⟨F⟩ E (Cm d i b s a) x h' with
        |true,some o2=>F2 F d.g (stE i (DH 0 b.nv)) (Ang d.g j e) (X3 d.g j e s) (o1++o2)
        |_,_=>false
      |none=>false
    |none=>false
  |_,_=>false
def E8 (E:Env) (d:Dec) (i:Nat) (a:Pt) (F:List (SB×Bool)) (l:Lf) (b:Plf):Nat→List Sh→Bool
 |_,[]=>true
 |s,c::r=>match Sd E d i a F l b s c with
  |true=>E8 E d i a F l b (s+1) r
  |false=>false
def Ik (n m:Nat):List SE→Bool
 |[]=>true
 |a::l=>a.fits n m&&Ik n m l
def Plf.fits (n m:Nat):Plf→Bool
 |.stuck=>true
 |.done _ cs=>Ik n m cs
 |.next _ i=>Ik n m i
def Dr (E:Env) (d:Dec) (i:Nat) (c:Pt):List (SB×Bool)→Tr Lf→Tr Plf→Option (List (Nat×List AI))
 |_,_,.leaf .stuck=>some []
 |F,.leaf l,.leaf f=>match E8 E d i c F l f 0 d.shs&&f.fits c.nv d.g with
  |true=>some (match f,l with
   |.next j _,.cut h=>[(j,h.fr.todo)]
   |_,_=>[])
  |false=>none
 |F,.split e a b,.split k m n=>match e.same k&&e.fits c.nv d.g with
  |true=>match Dr E d i c ((e,true)::F) a m,Dr E d i c ((e,false)::F) b n with
   |some x,some y=>some (x++y)
   |_,_=>none
  |false=>none
 |_,_,_=>none
def Pt.st (i:Pt) (d:Dec):AS:={fr:={fn:=d.f,nt:=i.nt,tmps:=i.tmps,todo:=i.todo,defers:=Sa i.defs,mode:=.run,kind:=.normal,round:=none},cs:=[],h:={blk:=Ba i.pre,nx:=i.pre.length,log:=[]}}
def JE (E:Env) (keys:List Nat) (N:Nat) (d:Dec) (T:List (Tr Plf)) (i:Nat):Option (List (Nat×List AI)):=
 match d.pts[i]?,T[i]? with
 |some a,some t=>match Hm E keys d.f N a.facts (a.st d) with
  |some r=>Dr E d i a a.facts r t
  |none=>none
 |_,_=>none
def stD (i nv:Nat) (V:Val):D:=.row (.int i::(List.range nv).map V.d)
def ME (G:Nat→D→D) (a:List D):Val:=⟨fun j=>a.getD j default,G⟩
def De (V:Val):Plf→Option (D ⊕ D)
 |.stuck=>none
 |.done s cs=>some (.inr (.row (.int (s+1:Nat)::cs.map (Ac V))))
 |.next j a=>some (.inl (.row (.int j::a.map (Ac V))))
def DW (T:List (Tr Plf)) (G:Nat→D→D):D→Option (D ⊕ D)
 |.row (.int (.ofNat i)::a)=>match T[i]? with
  |some t=>De (ME G a) (t.get (ME G a))
  |none=>none
 |_=>none
theorem Wp (V:Val):∀{a b:List SE},ZK a b=true→a.map (Ac V)=b.map (Ac V)
 |[],[],_=>rfl
 |x::a,y::b,h=>by
  simp only [ZK,Bool.and_eq_true] at h;have:=congrArg (Ac V) (SE.same_ok (U:=AB) h.1);rw [Ck,Ck] at this;simp only [List.map_cons,this,Wp V h.2]
 |[],_::_,h=>by cases h
 |_::_,[],h=>by cases h
theorem D4 {n m:Nat} {V W:Val} (h:V.Alike n m W):∀{l:List SE},Ik n m l=true→l.map (Ac V)=l.map (Ac W)
 |[],_=>rfl
 |a::l,b=>by
  simp only [Ik,Bool.and_eq_true] at b;simp only [List.map_cons,SE.fits_ok h a b.1,D4 h b.2]
theorem bo {F:List (SB×Bool)} {g:Nat} {st:SE} {f:Nat→SE} {b:SE} {V:Val} (m:B6 V F) (i:∀j,Ac V (f j)=Ac V (.sel (.app g st) j)) (e:b=.c 0∨Ac V b=.bool true) {p:SE×SE} (h:Yq F g st f b p=true):Ac V p.1=Ac V p.2:=by
 unfold Yq at h;split at h
 ·rename_i n;have:=SE.same_ok (U:=AB) n;have q:=congrArg (Ac V) this
  rwa [Ck,Ck,Zf i,Zf i] at q
 ·split at h
  ·rename_i c o;simp only [Bool.and_eq_true] at h;obtain ⟨r,h⟩:=h;have k:=Rt V r;have l:=Ck V p.2;rw [o] at l;rw [←l,k];show D.bool _=D.bool c
   congr 1
   split at h
   ·rename_i d s;have:=Ar (U:=AB) (V:=V) m s;rw [bZ] at this;have a:=eq_of_beq h;subst a;exact this
   ·simp only [Bool.and_eq_true] at h;have a:=congrArg (Ac V) (SE.same_ok (U:=AB) h.2);rw [Ck,Ck] at a;have t:c=true:=h.1;subst t;rcases e with q|q
    ·rw [q,k] at a;cases a
    ·rw [a,q];rfl
  ·cases h
theorem GD {F:List (SB×Bool)} {g:Nat} {st:SE} {f:Nat→SE} {e:SE} {V:Val} (k:B6 V F) (l:∀j,Ac V (f j)=Ac V (.sel (.app g st) j)) (d:e=.c 0∨Ac V e=.bool true):∀{o:Obs},F2 F g st f e o=true→o.holds V
 |[],_=>fun a b i=>by cases i
 |p::r,h=>by
  simp only [F2] at h;split at h
  ·rename_i m;intro a b i;rcases List.mem_cons.1 i with q|q
   ·have:=bo k l d m;rw [←q] at this;exact this
   ·exact GD k l d h a b q
  ·cases h
theorem Yj {E:Env} {d:Dec} {i:Nat} {o:Pt} {V W:Val} (v:V.Alike o.nv d.g W):∀{r:Tr Lf} {t:Tr Plf} {F:List (SB×Bool)} {p:List (Nat×List AI)},Dr E d i o F r t=some p→
  t.get W=.stuck∨(E8 E d i o (r.way V F).2 (r.way V F).1 (t.get W) 0 d.shs=true∧(t.get W).fits o.nv d.g=true∧∀j k f,t.get W=.next j k→(r.way V F).1=.cut f→(j,f.fr.todo)∈p):=by
 intro r t
 induction t generalizing r with
 |leaf D=>
  intro F p h;cases D with
  |stuck=>exact .inl rfl
  |done s cs=>
   right;cases r with
   |split=>simp [Dr] at h
   |leaf l=>
    simp only [Dr] at h;split at h
    ·rename_i c;simp only [Bool.and_eq_true] at c;exact ⟨c.1,c.2,fun j k f q=>by cases q⟩
    ·cases h
  |next j k=>
   right;cases r with
   |split=>simp [Dr] at h
   |leaf l=>
    simp only [Dr] at h;split at h
    ·rename_i c;simp only [Bool.and_eq_true] at c;refine ⟨c.1,c.2,fun L G f n m=>?_⟩
     cases n;simp only [Tr.way] at m;subst m;cases h;simp
    ·cases h
 |split e a b w z=>
  intro F p h;cases r with
  |leaf l=>cases l<;>simp [Dr] at h
  |split u M N=>
   simp only [Dr] at h;split at h
   ·rename_i c;simp only [Bool.and_eq_true] at c;have H:=SE.same_ok (U:=AB) c.1;subst H;have I:Ah W u=Ah V u:=by unfold Ah;rw [SE.fits_ok v u c.2]
    split at h
    ·rename_i x y J K;cases h;simp only [Tr.get,Tr.way,I];cases O:Ah V u with
     |true=>
      rcases w J with q|⟨n,m,A⟩
      ·exact .inl q
      ·exact .inr ⟨n,m,fun j k f B C=>by simp [A j k f B C]⟩
     |false=>
      rcases z K with q|⟨n,m,A⟩
      ·exact .inl q
      ·exact .inr ⟨n,m,fun j k f B C=>by simp [A j k f B C]⟩
    ·cases h
   ·cases h
theorem IT {E:Env} {d:Dec} {i:Nat} {f:Pt} {F:List (SB×Bool)} {l:Lf} {g:Plf}:∀{shs:List Sh} {b:Nat},E8 E d i f F l g b shs=true→∀(s:Nat) c,shs[s]?=some c→Sd E d i f F l g (b+s) c=true
 |[],b,_,s,c,h=>by simp at h
 |a::r,b,h,s,c,e=>by
  simp only [E8] at h;split at h
  ·rename_i j;cases s with
   |zero=>simp only [List.getElem?_cons_zero,Option.some.injEq] at e;subst e;exact j
   |succ s=>
    simp only [List.getElem?_cons_succ] at e;have:=IT h s c e
    rwa [show b+1+s=b+(s+1) by omega] at this
  ·cases h
structure eh (P:Program) (f0:FuncId) (base:List Frame) (ok:Bool) (K:Frame→World→Value→World→Prop):Prop where
 pre:∀c c' w w1 v w',Steps P (lone c base w) (lone c' base w1)→K c' w1 v w'→K c w v w'
 ends:∀c w v w',Js P c w ok v w'→c.fn=f0→c.roundOf=none→K c w v w'
def Cut.AtK (P:Program) (G:Nat→D→D) (c:Cut) (V:Val) (K:Frame→World→Value→World→Prop):Prop:=
 ∀(v:Vals),v.V=V→v.K=(Env.of P).kinds→V.fn=G→B6 V c.facts→∀(ρ:Ren) (l:Frame) (w:World),FrR ρ c.fr l→HR ρ c.h.blk.get w→Bx ρ c.pre.length→
  ∃i r j,K l w r j∧VR i c.res r∧HR i c.h'.blk.get j∧Ext ρ i c.h c.h' w j
section
variable {E:Env} {G:Nat→D→D} (hE:∀[U:Unk],U.K=(Env.of E.P).kinds→OK E) {v:Vals} (hK:v.K=(Env.of E.P).kinds)
include hE hK
theorem gh (hG:v.V.fn=G) {F:List (SB×Bool)} (c:B6 v.V F) {d:Cut} {s:AS} {e:List SE} {x:AV} {h':Aa} {o:Obs} (n:@gd ⟨F⟩ E d s=some (e,x,h',o)) (ho:o.holds v.V) {K:Frame→World→Value→World→Prop} (Q:d.AtK E.P G (v.V.inst e) K) (R:s.fr.todo=d.todo)
  {g:Ren} {j:Frame} {w:World} (H:SR g s j [] w) (hwf:WF s.h) (r:Bx g s.h.nx):
  ∃I M J,K j w M J∧VR I x M∧HR I h'.blk.get J∧Ext g I s.h h' w J:=by
 have S:@OK _ (Bh v F c) E:=hE (U:=Bh v F c) hK;unfold gd at n;split at n;rename_i m h1 T;simp only at n;split at n
 ·rename_i hc;split at n
  ·rename_i o1 t X ht;simp only [Option.some.injEq,Prod.mk.injEq] at n;obtain ⟨rfl,rfl,rfl,rfl⟩:=n;obtain ⟨oa,ob,Y,u,rfl⟩:=BJ X;obtain ⟨Z,k⟩:=Obs.append ho;obtain ⟨aa,A⟩:=Obs.append Z;generalize ae:Iq m.v 0 d.nv=e at *;generalize af:Jh m.b 0 d.pre.length=l at *;have e2:(@AT ⟨F⟩ E d.pre 0 (@Hi ⟨F⟩ E d.pre s.h (V8 d s)) s.h).2=h1:=by rw [T]
   obtain ⟨q1,q2,q3⟩:=Bn (U:=Bh v F c) (E:=E) d.pre 0 (@Hi ⟨F⟩ E d.pre s.h (V8 d s)) s.h H.h hwf (fun b b1 _=>r b b1)
   rw [e2] at q1 q2 q3;simp only [Bool.and_eq_true] at hc;obtain ⟨⟨⟨⟨⟨⟨⟨⟨⟨c1,c2⟩,c3⟩,c4⟩,c5⟩,c6⟩,N⟩,c8⟩,c9⟩,ab⟩:=hc;have a:=Nm k;have hV:(Cw (Bh v F c) d.facts e a).V=(Bh v F c).V.inst e:=rfl;have p:(Cw (Bh v F c) d.facts e a).K=(Bh v F c).K:=rfl;have ac:=On c2;have ag:=(Da (U:=Bh v F c) (W:=Cw (Bh v F c) d.facts e a) hV p d.pre l ob u A).1;have p2:=HR.toPat (U:=Bh v F c) (W:=Cw (Bh v F c) d.facts e a) hV p S q1 u A c1;have L:Bx g h1.nx:=Bx.ext r q2
   have B:Bx (g.back l) d.pre.length:=by
    intro b O;have:l[b]?=none:=List.getElem?_eq_none (by omega)
    simp [Ren.back,this]
   have f:=H.fr
   have ad:@FrR (Cw (Bh v F c) d.facts e a).toVals (g.back l) d.fr j:=by
    refine @FrR.mk (Cw (Bh v F c) d.facts e a).toVals (g.back l) d.fr j ?_ (@TR.mk (Cw (Bh v F c) d.facts e a).toVals (g.back l) _ _ _ ?_ (fun i y hy=>?_)) ?_ ?_ ?_ ?_ ?_
    ·rw [f.fn];exact Nat.eq_of_beq_eq_true c4
    ·rw [f.tm.size];exact Nat.eq_of_beq_eq_true c5
    ·obtain ⟨z,z1,z2⟩:=N1 (U:=Bh v F c) (W:=Cw (Bh v F c) d.facts e a) hV p (ρ:=g) d.tmps s.fr.tmps oa Y aa i y hy;exact z2 _ (f.tm.get i z z1)
    ·show @IL (Cw (Bh v F c) d.facts e a).toVals (g.back l) d.todo j.todo;rw [←R];exact UH ab f.todo
    ·exact P1 (U:=Bh v F c) (W:=Cw (Bh v F c) d.facts e a) hV p c6 f.defers
    ·have hm:=f.mode;show @MR (Cw (Bh v F c) d.facts e a).toVals (g.back l) .run j.mode;cases q:s.fr.mode with
     |run=>rw [q] at hm;generalize j.mode=mm at hm;cases hm;exact @MR.run (Cw (Bh v F c) d.facts e a).toVals (g.back l)
     |ret=>rw [q] at N;cases N
     |panic=>rw [q] at N;cases N
    ·have hk:=f.kind;show j.kind=.normal;rw [hk];cases q:s.fr.kind with
     |normal=>rfl
     |_=>rw [q] at c8;cases c8
    ·have C:=f.round;show RR (g.back l) none j.roundOf;cases q:s.fr.round with
     |none=>rw [q] at C;cases hz:j.roundOf with|none=>trivial|some=>rw [hz] at C;exact C.elim
     |some=>rw [q] at c9;cases c9
   obtain ⟨ah,M,J,r1,r2,r3,r4⟩:=Q (Cw (Bh v F c) d.facts e a).toVals rfl hK hG a (g.back l) j w ad p2 B;obtain ⟨I,t1,t2,t3⟩:=YS (U:=Bh v F c) (E:=E) (FF:=d.facts) a rfl rfl u A c1 ac (Nat.le_of_ble_eq_true c3) ht q1 q3 (fun b O _=>L b O) r2 r3 r4
   exact ⟨I,M,J,r1,t1,t2,q2.trans t3 (fun b O _=>r b O)⟩
  ·cases n
 ·cases n
end
theorem Q0 (t:T SE):∀(n i:Nat),(Iq t i n).length=n
 |0,_=>rfl
 |n+1,i=>by simp [Iq,Q0 t n]
theorem jJ [Facts] {E:Env} {c:Cut} {s:AS} {b:List SE} {x:AV} {h:Aa} {o:Obs} (a:gd E c s=some (b,x,h,o)):b.length=c.nv:=by
 unfold gd at a;split at a;simp only at a;split at a
 ·split at a
  ·simp only [Option.some.injEq,Prod.mk.injEq] at a;rw [←a.1,Q0]
  ·cases a
 ·cases a
def zX (r:D):Int:=(r.cells.getD 0 default).toInt
theorem zn [CP] {E:Env} {G:Nat→D→D} (hE:∀[U:Unk],U.K=(Env.of E.P).kinds→OK E) (hO:Ai E G) {d:Dec} {T:List (Tr Plf)} {keys:List Nat} {N:Nat} (hg:∀x,G d.g x=C0 (DW T G) x)
  (ag:∀(i:Nat) m,d.pts[i]?=some m→∃js,JE E keys N d T i=some js∧∀j td,(j,td)∈js→∀H,d.pts[j]?=some H→td=H.todo) :
  ∀(n i:Nat) (m:Pt) (s:Nat) (B:Sh),d.pts[i]?=some m→d.shs[s]?=some B→∀(V:Val) (r:D),V.fn=G→Fp (DW T G) n (stD i m.nv V)=some r→zX r=(s+1:Nat)→∀(base:List Frame) (K:Frame→World→Value→World→Prop),eh E.P d.f base B.ok K→(Cm d i m s B).AtK E.P G V K:=by
 intro n
 induction n with
 |zero=>intro i m s B _ _ V r _ h;cases h
 |succ n ih=>
  intro i m s B ah ai V r a9 a ac base KK R v av hK hG S ρ cf w aw hr C;subst av;have ax:B6 v.V m.facts:=fun e b hm=>S e b (by simp [Cm,hm])
  obtain ⟨js,p,ay⟩:=ag i m ah;unfold JE at p;rw [ah] at p;split at p
  ·rename_i ba t aj ht;cases aj;split at p
   ·rename_i tr az;have z:=lh hE hO hK hG base N m.facts (m.st d) tr az ax ρ cf [] w ⟨aw,.nil,hr⟩ (KJ _ _) C;have O:v.V.Alike m.nv d.g (ME G ((List.range m.nv).map v.V.d)):=⟨fun j hj=>by simp [ME,List.getD_eq_getElem?_getD,hj],fun j _=>by rw [hG];rfl⟩
    have Q:Ac v.V (stE i (DH 0 m.nv))=stD i m.nv v.V:=by
     rw [Ou,H6];simp [stD]
    have y:DW T G (stD i m.nv v.V)=De (ME G ((List.range m.nv).map v.V.d)) (t.get (ME G ((List.range m.nv).map v.V.d))):=by
     show (match T[i]? with
      |some t=>De (ME G _) (t.get (ME G _))
      |none=>none)=_
     rw [ht]
    have I:C0 (DW T G) (stD i m.nv v.V)=r:=Ex a;generalize hW:ME G ((List.range m.nv).map v.V.d)=W at O y;rcases Yj (E:=E) (d:=d) (i:=i) O p with X|⟨q,A,J⟩
    ·simp only [Fp,y,X,De] at a;cases a
    ·generalize bb:tr.way v.V m.facts=lf at z q J;obtain ⟨l,F⟩:=lf;simp only at z q J;have u:=IT q s B ai;simp only [Nat.zero_add] at u;generalize bd:t.get W=dl at y A u J;unfold Sd at u;split at u
     ·simp only [Fp,y,De] at a;cases a
     ·
      rename_i s' cs be x h;simp only [Fp,y,De] at a;cases a
      have a0:s'=s:=by
       have:((s'+1:Nat):Int)=(s+1:Nat):=ac;omega
      subst a0;rw [Nat.beq_refl] at u;simp only at u;split at u
      ·cases u
      rename_i ad;have ad:=eq_of_beq ad;generalize a1:@MO ⟨F⟩ E (Cm d i m s' B) x h=pe at u;obtain ⟨x2,h2⟩:=pe;simp only at u;split at u
      ·rename_i o ho;obtain ⟨L,σ,bf,v',w1,w',q1,qf,qr,q2,Y,q4,q5⟩:=z;have ak:cs.map (Ac v.V)=cs.map (Ac W):=D4 O A
       have ae:o.holds v.V:=GD L (fun j=>by
        show _=(v.V.fn d.g (Ac v.V (stE i (DH 0 m.nv)))).cells.getD j default;rw [Q,hG,hg,I];cases j with
        |zero=>rfl
        |succ j=>
         show Ac v.V (cs.getD j (.bc false))=(cs.map (Ac W)).getD j default;rw [←ak];simp only [List.getD_eq_getElem?_getD,List.getElem?_map];cases cs[j]?<;>rfl) (.inl rfl) u
       obtain ⟨pn,af,p0,p1,p2⟩:=Xt (U:=Bh v F L) (hE (U:=Bh v F L) hK) q4 Y a1;have Y:=p0;have a8:Bx σ h.nx:=Bx.ext (h:=(m.st d).h) C q5;have q5:=q5.trans p2 (fun b hb a2=>C b hb)
       have q4:=p1;have hwf:=Ext.wf (U:=Bh v F L) q5 (KJ _ _);obtain ⟨τ,r1,r2,r3⟩:=eV (c:=Cm d i m s' B) hE hK L ho ae Y q4 hwf q5 C;exact ⟨τ,v',w',R.pre _ _ _ _ _ _ q1 (R.ends _ _ _ _ (ad▸q2) qf qr),r1,r2,r3⟩
      ·cases u
     ·
      rename_i j θ Z;simp only [Fp,y,De] at a;split at u
      ·rename_i H al;split at u
       ·rename_i M x h o1 hu;split at u
        ·rename_i o2 a3 a4;have am:=Wp v.V a3;obtain ⟨L,ak,σ,c',w1,q1,q2,Y⟩:=z;have an:M.length=H.nv:=@jJ _ ⟨F⟩ _ _ _ _ _ _ _ hu
         have X:(D.row (.int j::θ.map (Ac W)))=stD j H.nv (v.V.inst M):=by
          have:=D4 O (l:=θ) A;rw [←this,←am];unfold stD
          congr 2
          apply List.ext_getElem
          ·simp [an]
          ·intro k h1 h2;simp only [List.getElem_map,List.getElem_range,Val.inst];have:k<M.length:=by simpa using h1
           simp [List.getD_eq_getElem?_getD,this]
         have aa:Ac v.V (stE j θ)=stD j H.nv (v.V.inst M):=by
          rw [Ou,D4 O (l:=θ) A,X]
         rw [X] at a;have ao:C0 (DW T G) (stD j H.nv (v.V.inst M))=r:=Ex a
         have ae:(o1++o2).holds v.V:=GD L (fun k=>by
          show (v.V.fn d.g (Ac v.V (stE j θ))).cells.getD k default=(v.V.fn d.g (Ac v.V (stE i (DH 0 m.nv)))).cells.getD k default;rw [aa,Q,hG,hg,hg,ao,I]) (.inr (by
          show D.bool ((((v.V.fn d.g (Ac v.V (stE j θ))).cells.getD 0 default).toInt)==((s+1:Nat):Int))=_;rw [aa,hG,hg,ao];have:(r.cells.getD 0 default).toInt=((s+1:Nat):Int):=ac;rw [this];simp)) u
         obtain ⟨ap,aq⟩:=Obs.append ae;have a5:=ih j H s B al ai (v.V.inst M) r hG a ac base KK R;have a6:Z.fr.todo=(Cm d j H s B).todo:=ay j _ (J j θ Z rfl rfl) H al;obtain ⟨pn,af,p1,p2⟩:=Bu (U:=Bh v F L) (hE (U:=Bh v F L) hK) (Cm d j H s B).pre 0 (@Hi ⟨F⟩ E (Cm d j H s B).pre Z.h (V8 (Cm d j H s B) Z)).b Z.h σ q2.h;have q2:SR af (@MS ⟨F⟩ E (Cm d j H s B) Z) c' [] w1:=⟨q2.fr.mono p2.le,q2.cs.mono p2.le,p1⟩;have Y:=Y.trans p2 (fun b hb a2=>C b hb)
         have ab:WF (@MS ⟨F⟩ E (Cm d j H s B) Z).h:=Ext.wf (U:=Bh v F L) Y (KJ _ _);have ar:Bx af (@MS ⟨F⟩ E (Cm d j H s B) Z).h.nx:=Bx.ext (h:=(m.st d).h) C Y;obtain ⟨τ,v',w',r1,r2,r3,r4⟩:=gh hE hK hG L hu ap a5 a6 q2 ab ar;have he:Ext ρ τ (m.st d).h h w w':=Y.trans r4 (fun b hb _=>C b hb)
         have au:WF h:=Ext.wf (U:=Bh v F L) r4 ab;obtain ⟨a7,t1,t2,t3⟩:=eV (c:=Cm d i m s B) hE hK L a4 aq r2 r3 au he C;exact ⟨a7,v',w',R.pre _ _ _ _ _ _ q1 r1,t1,t2,t3⟩
        ·cases u
       ·cases u
      ·cases u
     ·cases u
   ·cases p
  ·cases p
theorem jY (P:Program) (b:FuncId) (base:List Frame):eh P b base true (fun d w v a=>∃fr,Steps P (lone d base w) (lone fr base a)∧fr.fn=b∧fr.leaving P a (.returned v)):=
 ⟨fun c g w w1 v a h ⟨fr,k1,k2,k3⟩=>⟨fr,Steps.trans h k1,k2,k3⟩,fun c w v a h f hr=>by
  obtain ⟨e,q⟩:=h.leaves hr;subst e;exact ⟨c,Steps.refl _ _,f,q⟩⟩
def Zm (E:Env) (f nv:Nat) (args:List AV) (pre:List (Option Ab)) (facts:List (SB×Bool)):Pt:=
 {key:=none,nt:=(M1 E f args).nt,nv,todo:=(M1 E f args).todo,tmps:=(M1 E f args).tmps,pre,facts}
def Dec.sm (d:Dec) (args:List AV) (i:Pt) (s:Nat) (j:Sh):Sm:=
 let c:=Cm d 0 i s j
 {f:=d.f,nv:=i.nv,args,pre:=i.pre,facts:=c.facts,res:=c.res,post:=c.post,ok:=j.ok}
def ep:List (Nat×AV)→T AV
 |[]=>.nil
 | (i,a)::r=>(ep r).set i a
def DE (key:Nat):Code→List AI→Option (List AI)
 |.seq a b,k=>match DE key a (.code b::k) with
  |some l=>some l
  |none=>DE key b k
 |.cond _ a b,k=>match DE key a k with
  |some l=>some l
  |none=>DE key b k
 |.block id b,k=>DE key b (.inBlock id::k)
 |.loop b,k=>match gF [key] b with
  |true=>some (.code b::.inLoop b::k)
  |false=>DE key b (.inLoop b::k)
 |.scope b,k=>DE key b (.inScope b::k)
 |_,_=>none
def EM (key:Nat):Code→List AI→Option (List AI)
 |.seq a b,k=>match EM key a (.code b::k) with
  |some l=>some l
  |none=>EM key b k
 |.cond _ a b,k=>match EM key a k with
  |some l=>some l
  |none=>EM key b k
 |.block id b,k=>EM key b (.inBlock id::k)
 |.loop b,k=>EM key b (.inLoop b::k)
 |.scope b,k=>EM key b (.inScope b::k)
 |.region id ops d,k=>match Nat.beq id key with
  |true=>some (.code (.region id ops d)::k)
  |false=>none
 |_,_=>none
def Aj (E:Env) (f:FuncId) (key:Nat):List AI:=match E.fn.get f with
 |some fn=>match fn.body with
  |some b=>match (match Nat.ble 1000000 key with|true=>EM (key-1000000) b []|false=>DE key b []) with
   |some l=>l
   |none=>[]
  |none=>[]
 |none=>[]
end Go.AE
namespace Go.AE
variable [Gl:AH]
open Go.RowKit
def be (o:Option Nat) (P:Program) (ts:List TypeId) (b:List D):Prop:=∃a cs M,Bm (Env.of P) ts=some a∧DVL (Env.of P).kinds M a cs b∧(Can a b∧Rv (Env.of P).kinds 9 a b)∧ShL (Env.of P).kinds o 9 a b
def MW (P:Program) (ts:List TypeId) (b:List D):Prop:=∃a cs M,Bm (Env.of P) ts=some a∧DVL (Env.of P).kinds M a cs b∧Can a b∧Rv (Env.of P).kinds 9 a b
def OD:Sh:={m:=1,res:=.sb true (.var 0),post:=[],keep:=[]}
def BX (E:Env) (ts:List TypeId):List (SB×Bool):=match Bm E ts with
 |some a=>Cc 0 a
 |none=>[]
def Fs (E:Env) (ts:List TypeId):Nat:=match Bm E ts with
 |some a=>a.length
 |none=>0
def GS (E:Env) (ts:List TypeId):List AV:=match @FM ⟨BX E ts⟩ E 0 ts with
 |some l=>l
 |none=>[]
def Oa (E:Env) (f:FuncId) (ts:List TypeId):Pt:=Zm E f (Fs E ts) (GS E ts) [] (BX E ts)
def ik (E:Env) (f:FuncId) (ts:List TypeId) (L:List TypeId):Bool:=
 G2 E L L&&(match Bm E ts with
  |some a=>a.all (UG L)
  |none=>false)&&(@FM ⟨BX E ts⟩ E 0 ts).isSome&&(B8 E f (GS E ts) .normal).isSome
section
variable {E:Env} {L:List TypeId} {H:Type} {enc:TypeId×Value→H} {w:World} {base:Nat} {sp:Nat→Bool} {held:Bool}
theorem mJ [CP] {G:Nat→D→D} (hE:∀[U:Unk],U.K=(Env.of E.P).kinds→OK E) (m:E.kinds=(Env.of E.P).kinds) (hO:Ai E G) {d:Dec} {T:List (Tr Plf)} {keys:List Nat} {N:Nat} (hg:∀x,G d.g x=C0 (DW T G) x)
  (O:∀(i:Nat) pt,d.pts[i]?=some pt→∃js,JE E keys N d T i=some js∧∀j td,(j,td)∈js→∀pj,d.pts[j]?=some pj→td=pj.todo)
  {ts:List TypeId} (ad:d.pts[0]?=some (Oa E d.f ts)) (ae:d.shs[0]?=some OD) (B:ik E d.f ts L=true) (af:Bm E ts=Bm (Env.of E.P) ts)
  {o:Option Nat} (s:∀a,be o E.P ts a→G d.g (.row (.int 0::a))=.row [.int 1,.bool true])
  {Q:List Value} {ds:List (DataW H)} {ps:List MemPlace} (ag:BB o ds) (hA:DataW.TrodAll enc E.P w base sp held ts Q ds ps) (S:∀(j:Nat) t v,ts[j]?=some t→Q[j]?=some v→∃r b0,Value.okWide E.P w r b0 t v) (ah:F7 (Ej w)) :
  Calls E.P d.f Q.toArray w fun e W'=>e=.returned (.bool true)∧Below w.heap.size w W':=by
 unfold ik at B;simp only [Bool.and_eq_true] at B;obtain ⟨⟨⟨hL,C⟩,y⟩,z⟩:=B;split at C
 ·rename_i W J;obtain ⟨cs,a,q1,qc,q2⟩:=mG (U:=dD E.P) (hE (U:=dD E.P) rfl) hL (o:=o) ts Q ds ps W hA S J C ag;have X:W.length=a.length:=q1.len.2;have ai:Fs E ts=a.length:=by unfold Fs;rw [J];exact X
  have aj:BX E ts=Cc 0 W:=by unfold BX;rw [J]
  have Y:B6 (C6 G a) (BX E ts):=by
   rw [aj];exact Hz (U:=dD E.P) W cs a 0 (fun i hi=>by simp [C6]) q1
  intro Z;cases F:B8 E d.f (GS E ts) .normal with
  |none=>rw [F] at z;cases z
  |some fr=>
   have ak:stD 0 (Fs E ts) (C6 G a)=.row (.int 0::a):=by
    unfold stD;rw [ai]
    congr 2
    apply List.ext_getElem
    ·simp
    ·intro k h1 h2;simp [C6,List.getD_eq_getElem?_getD,h2]
   have l:=s a ⟨W,cs,Ej w,by rw [←af];exact J,by rw [←m];exact q1,⟨qc.1.1,by rw [←m];exact qc.1.2⟩,by rw [←m];exact qc.2⟩
   rw [hg,←ak] at l;rcases GT (DW T G) (stD 0 (Fs E ts) (C6 G a)) with q|⟨n,hn⟩
   ·rw [q] at l;cases l
   ·rw [l] at hn;have al:=zn hE hO hg O n 0 _ 0 OD ad ae (C6 G a) _ rfl hn rfl Z _ (jY E.P d.f Z)
    let A:Vals:={V:=C6 G a,K:=E.kinds,R:=[],hR:=fun _ _ _ _ _ h=>(by cases h)}
    have aa:Ac (C6 G a) (stE 0 (DH 0 (Fs E ts)))=stD 0 (Fs E ts) (C6 G a):=by
     rw [Ou,H6];simp [stD]
    have p:(C6 G a).fn d.g (Ac (C6 G a) (stE 0 (DH 0 (Fs E ts))))=.row [.int 1,.bool true]:=by
     rw [aa,←l];exact hg _
    have u:B6 A.V (Cm d 0 (Oa E d.f ts) 0 OD).facts:=by
     intro e b hm;have am:(e,b)∈BX E ts++[(X3 d.g 0 (DH 0 (Fs E ts)) 0,true)]:=hm;rcases List.mem_append.1 am with q|q
     ·exact Y e b q
     ·simp only [List.mem_singleton,Prod.mk.injEq] at q;obtain ⟨rfl,rfl⟩:=q;show ((((C6 G a).fn d.g (Ac (C6 G a) (stE 0 (DH 0 (Fs E ts))))).cells.getD 0 default).toInt==((0+1:Nat):Int))=true;rw [p];rfl
    have I:@VL A ⟨fun _=>none,Ej w⟩ (GS E ts) Q:=by
     cases hs:@FM ⟨BX E ts⟩ E 0 ts with
     |none=>rw [hs] at y;cases y
     |some ab=>
      have e1:GS E ts=ab:=by unfold GS;rw [hs]
      rw [e1];exact q2 {facts:=BX E ts,toVals:=A,ok:=Y} 0 ab ⟨fun _=>none,Ej w⟩ rfl rfl (fun i hi=>by show (C6 G a).d (0+i)=_;simp [C6]) hs
    have an:=hE (U:={facts:=BX E ts,toVals:=A,ok:=Y}) m;have ac:=CO (U:={facts:=BX E ts,toVals:=A,ok:=Y}) an F I
    have ao:(Cm d 0 (Oa E d.f ts) 0 OD).fr=fr:=by
     have M:=F;unfold B8 at M;split at M
     ·rename_i fn ap;split at M
      ·rename_i c hc;cases M;simp [Cut.fr,Cm,Oa,Zm,M1,B8,ap,hc,Sa]
      ·cases M
     ·cases M
    obtain ⟨σ,v',w',⟨aq,k1,k2,k3⟩,r1,r2,r3⟩:=al A rfl m rfl u ⟨fun _=>none,Ej w⟩ _ w (by rw [ao];exact ac) (fe (U:={facts:=BX E ts,toVals:=A,ok:=Y}) w ah) (fun b _=>rfl)
    have ar:v'=.bool true:=by
     have e2:(Cm d 0 (Oa E d.f ts) 0 OD).res=.sb true (.sel (.app d.g (stE 0 (DH 0 (Fs E ts)))) 1):=rfl;rw [e2] at r1;cases r1
     have:Ah A.V (.sel (.app d.g (stE 0 (DH 0 (Fs E ts)))) 1)=true:=by
      show (((C6 G a).fn d.g (Ac (C6 G a) (stE 0 (DH 0 (Fs E ts))))).cells.getD 1 default).toBool=true;rw [p];rfl
     rw [this];rfl
    subst ar;exact ⟨.returned (.bool true),w',aq,⟨rfl,r3.calm.os,r3.calm.tape,r3.calm.output,r3.calm.size,fun k J=>r3.kept k J (fun b base h=>by cases h)⟩,k1,k2,k3⟩
 ·cases C
end
theorem bt [CP] {H:Type} {n:TypeId×Value→H} {a:Assume} {C:Checked} {os:Os} {fn:Func} {s:ChangeSpec} {u:List PathCond} {apart:Bool} {L:List TypeId} {tb:TypeId} {l:List Orc} {m:List Sm} {G:Nat→D→D} {d:Dec} {T:List (Tr Plf)} {keys:List Nat} {N:Nat} {X:World→Array Value→Prop} (hX:∀(w w':World) (args:Array Value),w.heap=w'.heap→X w args→X w' args)
  (Z:ownKnob C.prog.godebug=none) (y:os.Started) (A:C.prog.inits.idxOf? d.f=none) (aa:C.prog.funcs[d.f]?=some fn)
  (witness:∃(w:World) (tape:Tape) (i:Input),w.os=os∧(w.forCall tape i).Shaped C.prog∧i.vars=[]∧Input.okWide C.prog (w.forCall tape i) .any w.heap.size d.f i∧
   ((s.pre n C.prog fn u apart (w.forCall tape i).memory i.args∧X (w.forCall tape i).memory i.args)∧sizedMet n C.prog fn (OpenSpec.ofChange s) apart (w.forCall tape i).memory i.args)∧a.holds C.prog (lone (Frame.enter C.prog d.f i.args .normal) [] (w.forCall tape i)))
  (hl:laidOutB C.prog=true) (hr:∀t∈fn.params.toList,C.prog.readableRec t=true∧t<C.prog.types.size) (z:s.vars=[])
  (F:∀I:List (DataW H),I.length=fn.params.toList.length→s.fn H I={results:=[.lit (.bool true)],args:=I})
  (O:fn.resultTypes = #[tb]) (hb:C.prog.underlying tb=some .bool) (hE:∀[U:Unk],U.K=(Env.of C.prog).kinds→OK (Env.ofS C.prog l m)) (hO:Ai (Env.ofS C.prog l m) G)
  (hg:∀x,G d.g x=C0 (DW T G) x) (P:∀(i:Nat) pt,d.pts[i]?=some pt→∃js,JE (Env.ofS C.prog l m) keys N d T i=some js∧∀j td,(j,td)∈js→∀pj,d.pts[j]?=some pj→td=pj.todo)
  (ab:d.pts[0]?=some (Oa (Env.ofS C.prog l m) d.f fn.params.toList)) (ac:d.shs[0]?=some OD) (ad:ik (Env.ofS C.prog l m) d.f fn.params.toList L=true)
  (B:∀V,MW C.prog fn.params.toList V→G d.g (.row (.int 0::V))=.row [.int 1,.bool true]) (ae:∀w args,X w args→F7 (Ej w)) :
  ReturnsInHanded a C os d.f .any (fun w args=>(s.pre n C.prog fn u apart w args∧X w args)∧sizedMet n C.prog fn (OpenSpec.ofChange s) apart w args) (s.post n C.prog fn apart true false false):=by
 refine returnsInHanded_of_change_and hX Z y A aa witness ?_;intro W base args I gs Y Q hW ai aj af ak;have R:=hW;obtain ⟨p,q,hA,hV,rfl,al,am⟩:=hW;rw [z] at hV
 have ag:gs=[]∧q=[]:=by
  cases gs with
  |nil=>exact ⟨rfl,hV⟩
  |cons=>simp [DataW.TrodVars] at hV
 obtain ⟨rfl,rfl⟩:=ag;have S:=L7 hA;have J:=F I S
 have ah:Bm (Env.ofS C.prog l m) fn.params.toList=Bm (Env.of C.prog) fn.params.toList:=by
  generalize fn.params.toList=ts
  induction ts with
  |nil=>rfl
  |cons t r ih=>simp only [Bm];rw [ih];rfl
 refine (mJ (E:=Env.ofS C.prog l m) hE rfl hO hg P ab ac ad ah (o:=none) (fun V ⟨ks,cs,M,a,b,c,_⟩=>B V ⟨ks,cs,M,a,b,c.1,c.2⟩) (BB.none I) hA (fun j t v ht hv=>⟨_,_,Q j t v (by simpa using ht) (by simpa using hv)⟩) (ae _ _ af)).mono ?_
 rintro e W' ⟨rfl,k⟩
 refine ⟨.bool true,rfl,I,[],p++[],[],p,[],R,?_,?_,?_,k.frame _,fun h=>by cases h⟩
 ·rw [List.append_nil,J,O];exact ⟨[],[],shut_bool hb true,rfl,rfl⟩
 ·rw [List.append_nil,J];exact HH hl k hr hA (fun x hx=>R.lt x (by simp [hx]))
 ·rw [List.append_nil,J,z];rfl
end Go.AE
namespace Go.AE
variable [Gl:AH]
def jl (d:Dec):List Nat→List (Nat×List AI)
 |[]=>[]
 |j::r=>(j,(d.pts.getD j default).todo)::jl d r
def VB (E:Env) (keys:List Nat) (N:Nat) (d:Dec) (T:List (Tr Plf)):Prop:=
 ∀(i:Nat) a,d.pts[i]?=some a→∃l,JE E keys N d T i=some (jl d l)
theorem eT {d:Dec}:∀{l:List Nat} {j:Nat} {td:List AI},(j,td)∈jl d l→∀b,d.pts[j]?=some b→td=b.todo
 |[],j,td,h,b,c=>by cases h
 |a::r,j,td,h,b,c=>by
  rcases List.mem_cons.1 h with q|q
  ·cases q;simp [List.getD_eq_getElem?_getD,c]
  ·exact eT q b c
theorem VB.chk {E:Env} {keys:List Nat} {N:Nat} {d:Dec} {T:List (Tr Plf)} (h:VB E keys N d T) (i:Nat) (t:Pt) (I:d.pts[i]?=some t) :
  ∃C,JE E keys N d T i=some C∧∀j td,(j,td)∈C→∀r,d.pts[j]?=some r→td=r.todo:=by
 obtain ⟨l,J⟩:=h i t I;exact ⟨_,J,fun j td hm r hj=>eT hm r hj⟩
def Tr.appsLt (m:Nat):Tr Plf→Bool
 |.leaf .stuck=>true
 |.leaf (.done _ cs)=>Ik 1000 m cs
 |.leaf (.next _ i)=>Ik 1000 m i
 |.split e a b=>e.fits 1000 m&&a.appsLt m&&b.appsLt m
def QJ (m:Nat):List (Tr Plf)→Bool
 |[]=>true
 |t::r=>t.appsLt m&&QJ m r
def H5:Nat→List (List (Tr Plf))→Bool
 |_,[]=>true
 |m,t::r=>QJ m t&&H5 (m+1) r
def gAt [CP] (a:List (List (Tr Plf))):Nat→Nat→D→D
 |0,_,_=>.row []
 |n+1,k,x=>if k=n then C0 (DW (a.getD n []) (gAt a n)) x else gAt a n k x
def Hf [CP] (a:List (List (Tr Plf))):Nat→D→D:=gAt a a.length
theorem SK [CP] (a:List (List (Tr Plf))) {k:Nat} (x:D):∀{n:Nat},k<n→gAt a n k x=gAt a (k+1) k x
 |0,h=>by omega
 |n+1,h=>by
  by_cases c:k=n
  ·subst c;rfl
  ·have:gAt a (n+1) k x=gAt a n k x:=by show (if k=n then _ else _)=_;rw [if_neg c]
   rw [this];exact SK a x (by omega)
theorem W8 {m:Nat} {V W:Val} (k:V.d=W.d) (n:∀i,i<m→V.fn i=W.fn i):∀{t:Tr Plf},t.appsLt m=true→De V (t.get V)=De W (t.get W):=by
 have c:V.Alike 1000 m W:=⟨fun i _=>by rw [k],n⟩
 intro t
 induction t with
 |leaf l=>
  intro h;cases l with
  |stuck=>rfl
  |done s cs=>simp only [Tr.get,De];rw [D4 c h]
  |next j p=>simp only [Tr.get,De];rw [D4 c h]
 |split e a b f g=>
  intro h;simp only [Tr.appsLt,Bool.and_eq_true] at h;have o:Ah V e=Ah W e:=by unfold Ah;rw [SE.fits_ok c e h.1.1]
  simp only [Tr.get,o];cases Ah W e with
  |true=>exact f h.1.2
  |false=>exact g h.2
theorem jc {m:Nat} {G H:Nat→D→D} (c:∀i,i<m→G i=H i) {T:List (Tr Plf)} (d:QJ m T=true):DW T G=DW T H:=by
 have key:∀(T:List (Tr Plf)),QJ m T=true→∀(i:Nat) t,T[i]?=some t→t.appsLt m=true:=by
  intro T
  induction T with
  |nil=>intro _ i t h;simp at h
  |cons a r ih=>
   intro h i t hi;simp only [QJ,Bool.and_eq_true] at h;cases i with
   |zero=>simp only [List.getElem?_cons_zero,Option.some.injEq] at hi;subst hi;exact h.1
   |succ i=>exact ih h.2 i t (by simpa using hi)
 funext x
 unfold DW;split
 ·rename_i i b;split
  ·rename_i t e;exact W8 (m:=m) (V:=ME G b) (W:=ME H b) rfl (fun i hi=>c i hi) (key T d i t e)
  ·rfl
 ·rfl
theorem Nd:∀{c:List (List (Tr Plf))} {m:Nat},H5 m c=true→∀(k:Nat) T,c[k]?=some T→QJ (m+k) T=true
 |[],m,_,k,T,h=>by simp at h
 |a::r,m,h,k,T,b=>by
  simp only [H5,Bool.and_eq_true] at h;cases k with
  |zero=>simp only [List.getElem?_cons_zero,Option.some.injEq] at b;subst b;exact h.1
  |succ k=>
   have:=Nd h.2 k T (by simpa using b)
   rwa [show m+1+k=m+(k+1) by omega] at this
theorem IC [CP] {a:List (List (Tr Plf))} (h:H5 0 a=true) {k:Nat} {T:List (Tr Plf)} (b:a[k]?=some T) (x:D):Hf a k x=C0 (DW T (Hf a)) x:=by
 have c:k<a.length:=(List.getElem?_eq_some_iff.1 b).1;have d:=Nd h k T b;rw [Nat.zero_add] at d
 have e:Hf a k x=C0 (DW T (gAt a k)) x:=by
  unfold Hf;rw [SK a x c];show (if k=k then _ else _)=_
  rw [if_pos rfl];simp [List.getD_eq_getElem?_getD,b]
 rw [e,jc (fun i hi=>?_) d]
 funext y
 unfold Hf;rw [SK a y hi,SK a y (show i<a.length by omega)]
end Go.AE
namespace Go.AE
variable [Gl:AH]
abbrev iV (n:Nat):AV:=.si .i64 (.var n)
abbrev sV (n:Nat):AV:=.ss (.var n)
abbrev bV (n:Nat):AV:=.sb true (.var n)
abbrev dV (e:TypeId) (n:Nat):AV:=.dat e (.var n)
abbrev aV (b a n m:Nat):AV:=.asl b a (.lenL (.var n)) (.var m)
abbrev tO (l:List (Nat×AV)):Option Ab:=some (.cells l.length (ep l))
abbrev rV (e:TypeId) (n:Nat):Option Ab:=some (.arr e (.var n))
class Pg (p:outParam Program) (l:outParam (List Orc)):Prop where
 it:True
abbrev E0 {p:Program} {l:List Orc} [Pg p l]:Env:=Env.of p
abbrev EF {p:Program} {l:List Orc} [Pg p l] (m:Env→List Sm):Env:=Env.ofS p l (m E0)
def us:Nat→Nat→List SE
 |_,0=>[]
 |a,n+1=>.var a::us (a+1) n
section
variable {E:Env} {keys:List Nat} {N:Nat} {d:Dec} {T:List (Tr Plf)}
theorem dkN {n:Nat} (h:d.pts.length=n) (H:∀i,i<n→∃l,JE E keys N d T i=some (jl d l)):VB E keys N d T:=fun i b a=>H i (by
 rcases Nat.lt_or_ge i n with q|q
 ·exact q
 ·rw [List.getElem?_eq_none (by omega)] at a
  cases a)
theorem dk1 {x0:List Nat} (h:d.pts.length=1) (h0:JE E keys N d T 0=some (jl d x0)):VB E keys N d T:=dkN h fun i hi=>match i,hi with
 |0,_=>⟨_,h0⟩
 |i+1,hi=>absurd hi (by omega)
end
end Go.AE
namespace Go.AE
def b9:List Int:=[1,10,100,1000,10000,100000,1000000,10000000,100000000,1000000000,10000000000,100000000000,1000000000000,10000000000000,100000000000000,1000000000000000,10000000000000000,100000000000000000,1000000000000000000,10000000000000000000]
def fv:T (List AV):=.node none (.node none (.node (some (b9.map (.int .u64))) .nil .nil) .nil) .nil
instance gl0:AH:=⟨fv⟩
theorem bb {g:Nat} {l:List AV} (h:fv.get g=some l):g=3∧l=b9.map (.int .u64):=by
 unfold fv at h;by_cases a:g=0
 ·rw [T.get_zero _ _ _ a] at h;cases h
 ·by_cases o:g%2=1
  ·rw [T.get_odd _ _ _ o] at h;by_cases b:g/2=0
   ·rw [T.get_zero _ _ _ b] at h;cases h
   ·by_cases o2:g/2%2=1
    ·rw [T.get_odd _ _ _ o2] at h;by_cases c:g/2/2=0
     ·rw [T.get_zero _ _ _ c] at h;cases h;exact ⟨by omega,rfl⟩
     ·by_cases o3:g/2/2%2=1
      ·rw [T.get_odd _ _ _ o3,T.get_nil] at h;cases h
      ·rw [T.get_even _ _ _ (by omega) c,T.get_nil] at h;cases h
    ·rw [T.get_even _ _ _ (by omega) b,T.get_nil] at h;cases h
  ·rw [T.get_even _ _ _ (by omega) a,T.get_nil] at h;cases h
theorem xK {W:World} (h:∀i,i<b9.length→W.cell? ⟨3,i,none⟩=some (.int .u64 (b9.getD i 0))):F7 (Ej W):=by
 intro g l j;obtain ⟨rfl,rfl⟩:=bb j;have h0:=h 0 (by decide)
 unfold World.cell? at h0;cases c:W.heap[3]? with
 |none=>simp [c] at h0
 |some o=>
  cases o with
  |cells arr e k=>
   refine ⟨arr,by unfold Ej;rw [c],fun i a b=>?_⟩
   rw [List.getElem?_map] at b;cases d:b9[i]? with
   |none=>rw [d] at b;cases b
   |some z=>
    rw [d] at b;cases b;have hi:=(List.getElem?_eq_some_iff.1 d).1;have f:=h i hi;unfold World.cell? at f;simp only [c,Option.isSome_none,Bool.false_eq_true,if_false] at f;refine ⟨_,f,?_⟩;show _=_;rw [List.getD_eq_getElem?_getD,d];rfl
  |_=>simp [c] at h0
end Go.AE

