/- What is proved here: an evaluator of the model's steps that the kernel can run, and that whatever it answers is what the model does (part 6 of 6: AeTop, AeVc1, AeVc2, AeVc3, AeDec1, AeDec2, AeDec3, AeDec4, AeDec5, AeShort). Conditions: those that each theorem states; they hold of no one program. -/
import Derived.Test.YtmgppdghdeokbaaGreatBeE
import Derived.Carry
import Derived.Handed
import Derived.JoinedCond
set_option linter.unusedVariables false
set_option linter.unusedSectionVars false
set_option linter.unusedSimpArgs false
namespace Go.AE
open Go.RowKit
def eP [Facts] (j:Nat):Kd→AV
 |.int k=>mkI k (.var j)
 |.bool=>mkB true (.var j)
 |.str=>.ss (.var j)
 |.slice e=>.dat e (.var j)
def JO [Facts]:Nat→List Kd→List AV
 |_,[]=>[]
 |j,k::a=>eP j k::JO (j+1) a
def Ka:TypeDesc→Bool
 |.struct _=>true
 |_=>false
def GD [Facts] (E:Env):Nat→List TypeId→Option (List AV)
 |_,[]=>some []
 |j,t::ts=>match E.desc t,E.kinds0 t with
  |some d,some b=>match GD E (j+b.length) ts with
   |some r=>match Ka d with
    |true=>some (.agg (JO j b)::r)
    |false=>match JO j b with
     |[a]=>some (a::r)
     |_=>none
   |none=>none
  |_,_=>none
def BI (E:Env):List TypeId→Option (List Kd)
 |[]=>some []
 |t::ts=>match E.kinds0 t,BI E ts with
  |some a,some l=>some (a++l)
  |_,_=>none
def CI:Nat→List Kd→List (SB×Bool)
 |_,[]=>[]
 |j,.int k::r=>match decide (k=.i64) with
  |true=>CI (j+1) r
  |false=>(.lss (.var j) (.c k.min),false)::(.lss (.c k.max) (.var j),false)::CI (j+1) r
 |j,_::r=>CI (j+1) r
def inL (e:TypeId):List TypeId→Bool
 |[]=>false
 |f::r=>Nat.beq e f||inL e r
def RJ (L:List TypeId):Kd→Bool
 |.slice e=>inL e L
 |_=>true
def HY (E:Env) (L:List TypeId):List TypeId→Bool
 |[]=>true
 |e::r=>match E.kinds0 e with
  |some a=>!a.isEmpty&&a.all (RJ L)&&HY E L r
  |none=>false
inductive DT where
 |leaf
 |split (e:SB) (t f:DT)
def DY (fn:Nat→D→D) (a:List D):Val:={d:=fun j=>a.getD j default,fn}
@[reducible] def YB (P:Program):Unk:={facts:=[],V:=DY (fun _ d=>d) [],K:=(Env.of P).kinds,R:=[],hR:=fun _ _ _ _ _ h=>by (cases h),ok:=by simp}
def DVL (K:TypeId→Option (List Kd)) (M:Nat→Option (Array Value)):List Kd→List Value→List D→Prop
 |[],[],[]=>True
 |k::ks,v::vs,d::a=>DV K M k v d∧DVL K M ks vs a
 |_,_,_=>False
theorem DVL.len {K:TypeId→Option (List Kd)} {M:Nat→Option (Array Value)}:∀{ks:List Kd} {vs:List Value} {j:List D},DVL K M ks vs j→ks.length=vs.length∧ks.length=j.length
 |[],[],[],_=>⟨rfl,rfl⟩
 |_::_,_::_,_::_,h=>by have:=DVL.len h.2;simp [this.1.symm,this.2.symm]
def Can:List Kd→List D→Prop
 |.int _::ks,d::a=>(∃n,d=.int n)∧Can ks a
 |.bool::ks,d::a=>(∃n,d=.bool n)∧Can ks a
 |.str::ks,d::a=>(∃n,d=.str n)∧Can ks a
 |.slice _::ks,_::a=>Can ks a
 |_,_=>True
def DN (K:TypeId→Option (List Kd)):Nat→Kd→D→Prop
 |_,.int _,d=>∃n,d=.int n
 |_,.bool,d=>∃b,d=.bool b
 |_,.str,d=>∃s,d=.str s
 |0,.slice _,_=>True
 |m+1,.slice e,d=>∃nl rows,d=.slc nl rows∧(nl=true→rows=[])∧∀ks,K e=some ks→∀r∈rows,∃cs,r=.row cs∧cs.length=ks.length∧∀(j:Nat) kd,ks[j]?=some kd→DN K m kd (cs.getD j default)
def PP (K:TypeId→Option (List Kd)) (m:Nat) (a:List Kd) (b:List D):Prop:=∀(j:Nat) kd,a[j]?=some kd→DN K m kd (b.getD j default)
def leB (o:Option Nat) (n:Nat):Prop:=∀b,o=some b→n≤b
def ShK (K:TypeId→Option (List Kd)) (o:Option Nat):Nat→Kd→D→Prop
 |_,.int _,_=>True
 |_,.bool,_=>True
 |_,.str,d=>leB o d.toStr.data.toList.length
 |0,.slice _,_=>True
 |m+1,.slice e,d=>leB o d.rows.length∧∀a,K e=some a→∀i,i<d.rows.length→∀(j:Nat) kd,a[j]?=some kd→ShK K o m kd ((d.rows.getD i default).cells.getD j default)
def ShL (K:TypeId→Option (List Kd)) (o:Option Nat) (m:Nat) (a:List Kd) (b:List D):Prop:=∀(j:Nat) kd,a[j]?=some kd→ShK K o m kd (b.getD j default)
mutual
def Bu {H:Type} (o:Option Nat):DataW H→Prop
 |.lit (.string bytes)=>leB o bytes.length
 |.lit _=>True
 |.nil=>True
 |.ptr _=>True
 |.slice a _=>leB o a.length∧BP o a
 |.agg parts=>BP o parts
 |.iface _ _=>True
 |.map _=>True
 |.held _=>True
def BP {H:Type} (o:Option Nat):List (DataW H)→Prop
 |[]=>True
 |d::r=>Bu o d∧BP o r
end
mutual
theorem Bu.none {H:Type}:∀d:DataW H,Bu none d
 |.lit (.string _)=>by rw [Bu];intro b C;cases C
 |.lit (.bool _)=>by simp [Bu]
 |.lit (.int _ _)=>by simp [Bu]
 |.lit (.float _ _)=>by simp [Bu]
 |.lit .nil=>by simp [Bu]
 |.nil=>by simp [Bu]
 |.ptr _=>by simp [Bu]
 |.slice j _=>by rw [Bu];exact ⟨fun b C=>(by cases C),BP.none j⟩
 |.agg parts=>by rw [Bu];exact BP.none parts
 |.iface _ _=>by simp [Bu]
 |.map _=>by simp [Bu]
 |.held _=>by simp [Bu]
theorem BP.none {H:Type}:∀l:List (DataW H),BP none l
 |[]=>by simp [BP]
 |d::r=>by rw [BP];exact ⟨Bu.none d,BP.none r⟩
end
theorem BP.get {H:Type} {o:Option Nat}:∀{l:List (DataW H)} {i:Nat} {d:DataW H},BP o l→l[i]?=some d→Bu o d
 |x::l,0,d,h,hi=>by
  simp only [D1,A1] at hi;subst hi;rw [BP] at h;exact h.1
 |x::l,i+1,d,h,hi=>by
  rw [BP] at h;exact h.2.get (by simpa using hi)
 |[],i,d,h,hi=>by simp at hi
theorem DV.canK {K:TypeId→Option (List Kd)} {M:Nat→Option (Array Value)} {o:Option Nat}:∀(m:Nat) (kd:Kd) (v:Value) (d:D),DV K M kd v d→∃d',DV K M kd v d'∧DN K m kd d'∧(ShK K o m kd d→ShK K o m kd d')
 |m,.int k,v,d,h=>by
  cases h with
  |int _ n _ hr q=>exact ⟨.int n,.int k n _ hr rfl,by cases m<;>exact ⟨n,rfl⟩,fun _=>by cases m<;>trivial⟩
 |m,.bool,v,d,h=>by
  cases h with
  |bool b _ q=>exact ⟨.bool b,.bool b _ rfl,by cases m<;>exact ⟨b,rfl⟩,fun _=>by cases m<;>trivial⟩
 |m,.str,v,d,h=>by
  cases h with
  |str b _ q=>exact ⟨.str b,.str b _ rfl,by cases m<;>exact ⟨b,rfl⟩,fun hs=>by cases m<;>(simp only [ShK] at hs ⊢;rw [q] at hs;exact hs)⟩
 |0,.slice e,v,d,h=>⟨d,h,trivial,fun h=>h⟩
 |m+1,.slice e,v,d,h=>by
  cases h with
  |nil _ _ h1 h2=>exact ⟨.slc true [],.nil e _ rfl rfl,⟨true,[],rfl,fun _=>rfl,fun _ _ r hr=>by cases hr⟩,fun _=>⟨fun b _=>hP b,fun C _ i hi=>absurd hi (iv i)⟩⟩
  |empty _ a ar _ h1 h2=>exact ⟨.slc false [],.empty e a ar _ rfl rfl,⟨false,[],rfl,fun _=>rfl,fun _ _ r hr=>by cases hr⟩,fun _=>⟨fun b _=>hP b,fun C _ i hi=>absurd hi (iv i)⟩⟩
  |slc _ b off n ar _ C arr hk ha hn hc h1 bm b0 hv=>
   classical
   have key:∀i j,∃x,∀kd,i<n→C[j]?=some kd→DV K M kd (arr.getD (off+i*C.length+j) Go.undef) x∧DN K m kd x∧(ShK K o m kd ((d.rows.getD i default).cells.getD j default)→ShK K o m kd x):=by
    intro i j;cases J:C[j]? with
    |none=>exact ⟨default,fun kd _ h=>by cases h⟩
    |some kd=>
     by_cases hi:i<n
     ·obtain ⟨x,q1,q2⟩:=DV.canK m kd _ _ (hv i j kd hi J);exact ⟨x,fun b4 _ h=>by cases h;exact ⟨q1,q2⟩⟩
     ·exact ⟨default,fun kd _ h=>absurd ‹i<n› hi⟩
   let f:Nat→Nat→D:=fun i j=>Classical.choose (key i j)
   have hf:∀i j kd,i<n→C[j]?=some kd→DV K M kd (arr.getD (off+i*C.length+j) Go.undef) (f i j)∧DN K m kd (f i j)∧(ShK K o m kd ((d.rows.getD i default).cells.getD j default)→ShK K o m kd (f i j)):=fun i j=>Classical.choose_spec (key i j)
   have hr:∀i,i<n→((List.range n).map fun i=>D.row ((List.range C.length).map (f i))).getD i default=.row ((List.range C.length).map (f i)):=by
    intro i hi;simp [A4,hi]
   have I:∀i j,j<C.length→((List.range C.length).map (f i)).getD j default=f i j:=by
    intro i j J;simp [A4,J]
   have av:∀{j:Nat} {kd:Kd},C[j]?=some kd→j<C.length:=fun h=>(B3.1 h).1
   refine ⟨.slc false ((List.range n).map fun i=>.row ((List.range C.length).map (f i))),.slc e b off n ar _ C arr hk ha (by show (List.map _ _).length=n;simp) hc rfl bm (fun i hi=>?_) (fun i j kd hi J=>?_),⟨false,_,rfl,(fun h=>by cases h),fun bs ab r bv=>?_⟩,fun hs=>⟨?_,fun bs ab i hi j kd J=>?_⟩⟩
   ·show (((List.range n).map fun i=>D.row ((List.range C.length).map (f i))).getD i default).cells.length=_
    rw [hr i hi];simp [D.cells]
   ·show DV K M kd _ ((((List.range n).map fun i=>D.row ((List.range C.length).map (f i))).getD i default).cells.getD j default)
    rw [hr i hi];show DV K M kd _ (((List.range C.length).map (f i)).getD j default);rw [I i j (av J)];exact (hf i j kd hi J).1
   ·rw [hk] at ab;cases ab;obtain ⟨i,hi,e⟩:=List.mem_map.1 bv;refine ⟨_,e.symm,by simp,fun j kd J=>?_⟩
    rw [I i j (av J)];exact (hf i j kd (List.mem_range.1 hi) J).2.1
   ·have e:(D.slc false ((List.range n).map fun i=>D.row ((List.range C.length).map (f i)))).rows.length=d.rows.length:=by rw [hn];simp [D.rows]
    rw [e];exact hs.1
   ·rw [hk] at ab;cases ab
    have bd:i<n:=by
     have:i<((List.range n).map fun i=>D.row ((List.range C.length).map (f i))).length:=hi
     simpa using this
    show ShK K o m kd ((((List.range n).map fun i=>D.row ((List.range C.length).map (f i))).getD i default).cells.getD j default)
    rw [hr i bd];show ShK K o m kd (((List.range C.length).map (f i)).getD j default);rw [I i j (av J)];exact (hf i j kd bd J).2.2 (hs.2 C hk i (by rw [hn];exact bd) j kd J)
theorem DVL.can {K:TypeId→Option (List Kd)} {M:Nat→Option (Array Value)} {o:Option Nat}:∀{ks:List Kd} {cs:List Value} {xs:List D},DVL K M ks cs xs→ShL K o 9 ks xs→∃C,DVL K M ks cs C∧(Can ks C∧PP K 9 ks C)∧ShL K o 9 ks C
 |[],[],[],h,_=>⟨[],h,⟨trivial,fun j kd h=>by simp at h⟩,fun j kd h=>by simp at h⟩
 |k::ks,v::vs,d::ds,h,hs=>by
  obtain ⟨C,h1,⟨I,h3⟩,h4⟩:=DVL.can (o:=o) h.2 (fun j kd r=>by simpa using hs (j+1) kd (by simpa using r))
  obtain ⟨d',q1,J,q3⟩:=DV.canK (o:=o) 9 k v d h.1;refine ⟨d'::C,⟨q1,h1⟩,⟨?_,fun j kd r=>?_⟩,fun j kd r=>?_⟩
  rotate_left 2
  ·cases j with
   |zero=>simp only [D1,A1] at r;subst r;exact q3 (hs 0 k rfl)
   |succ j=>simpa using h4 j kd (by simpa using r)
  ·cases k with
   |int k=>exact ⟨J,I⟩
   |bool=>exact ⟨J,I⟩
   |str=>exact ⟨J,I⟩
   |slice e=>exact I
  ·cases j with
   |zero=>simp only [D1,A1] at r;subst r;exact J
   |succ j=>simpa using h3 j kd (by simpa using r)
theorem ShL.append {K:TypeId→Option (List Kd)} {o:Option Nat} {m:Nat} {ks ks':List Kd} {xs xs':List D} (hl:ks.length=xs.length) (h:ShL K o m ks xs) (h':ShL K o m ks' xs'):ShL K o m (ks++ks') (xs++xs'):=by
 intro j kd r;rcases F8 j ks.length with c|c
 ·rw [Ea c] at r;have:=h j kd r;simpa [A4,Ea (show j<xs.length by omega)] using this
 ·rw [E3 c] at r;have:=h' (j-ks.length) kd r;simpa [A4,E3 (show xs.length≤j by omega),←hl] using this
theorem PP.append {K:TypeId→Option (List Kd)} {m:Nat} {ks ks':List Kd} {xs xs':List D} (hl:ks.length=xs.length) (h:PP K m ks xs) (h':PP K m ks' xs'):PP K m (ks++ks') (xs++xs'):=by
 intro j kd r;rcases F8 j ks.length with c|c
 ·rw [Ea c] at r;have:=h j kd r;simpa [A4,Ea (show j<xs.length by omega)] using this
 ·rw [E3 c] at r;have:=h' (j-ks.length) kd r;simpa [A4,E3 (show xs.length≤j by omega),←hl] using this
theorem Can.append {K:TypeId→Option (List Kd)} {M:Nat→Option (Array Value)}:∀{ks ks':List Kd} {cs:List Value} {xs xs':List D},DVL K M ks cs xs→Can ks xs→Can ks' xs'→Can (ks++ks') (xs++xs')
 |[],_,[],[],_,_,_,h'=>h'
 |.int _::_,_,_::_,_::_,_,j,h,h'=>⟨h.1,Can.append j.2 h.2 h'⟩
 |.bool::_,_,_::_,_::_,_,j,h,h'=>⟨h.1,Can.append j.2 h.2 h'⟩
 |.str::_,_,_::_,_::_,_,j,h,h'=>⟨h.1,Can.append j.2 h.2 h'⟩
 |.slice _::ks,ks',_::cs,_::xs,xs',j,h,h'=>Can.append (ks:=ks) (ks':=ks') (cs:=cs) (xs:=xs) (xs':=xs') j.2 h h'
theorem DVL.append {K:TypeId→Option (List Kd)} {M:Nat→Option (Array Value)}:∀{ks ks':List Kd} {vs j:List Value} {C r:List D},DVL K M ks vs C→DVL K M ks' j r→DVL K M (ks++ks') (vs++j) (C++r)
 |[],_,[],_,[],_,_,h=>h
 |_::_,_,_::_,_,_::_,_,h,h'=>⟨h.1,DVL.append h.2 h'⟩
theorem DVL.get {K:TypeId→Option (List Kd)} {M:Nat→Option (Array Value)}:∀{ks:List Kd} {vs:List Value} {I:List D},DVL K M ks vs I→∀{j:Nat} {k:Kd} {d:D},ks[j]?=some k→I[j]?=some d→∃v,vs[j]?=some v∧DV K M k v d
 |[],[],[],_,j,k,d,h,_=>by simp at h
 |_::_,_::_,_::_,h,0,k,d,r,C=>by
  simp only [D1,A1] at r C;subst r;subst C;exact ⟨_,rfl,h.1⟩
 |_::_,_::_,_::_,h,j+1,k,d,r,C=>by
  simp only [EQ] at r C ⊢;exact DVL.get h.2 r C
theorem KU [U:Unk] (ρ:Ren):∀(f:List Kd) (vs:List Value) (l:List D) (j:Nat),(∀i,i<l.length→U.V.d (j+i)=l.getD i default)→DVL U.K ρ.imm f vs l→VL ρ (JO j f) vs
 |[],[],[],_,_,_=>VL.nil ρ
 |k::f,v::vs,d::l,j,hi,h=>by
  have u:U.V.d j=d:=by have:=hi 0 (by simp);simpa using this
  refine VL.cons ?_ (KU ρ f vs l (j+1) (fun i hl=>by have:=hi (i+1) (by simp;omega);rw [show j+1+i=j+(i+1) by omega,this];simp) h.2)
  have m:=h.1;have w:Ab U.V (.var j)=d:=u;rw [←w] at m;generalize g:Ab U.V (.var j)=A at m;cases m with
  |int k n _ B o=>
   have:=DE ρ k (.var j);have e:Af U.V (.var j)=n:=by unfold Af;rw [g];exact o
   rw [e] at this;exact this
  |bool b _ o=>
   have:=Ho ρ true (.var j);have e:(Ah U.V (.var j)==true)=b:=by unfold Ah;rw [g,o];cases b<;>rfl
   rw [e] at this;exact this
  |str s _ o=>
   have:=VR.ss (ρ:=ρ) (.var j);have e:Ba U.V (.var j)=s:=by unfold Ba;rw [g];exact o
   rw [e] at this;exact this
  |nil e _ p r=>exact .dat e (.var j) _ _ _ (by rw [g];exact .nil e _ p r)
  |empty e a c _ p r=>exact .dat e (.var j) _ _ _ (by rw [g];exact .empty e a c _ p r)
  |slc e b off n c _ f arr m x hn y p t q z=>exact .dat e (.var j) _ _ _ (by rw [g];exact .slc e b off n c _ f arr m x hn y p t q z)
theorem Ih [U:Unk] {K:TypeId→Option (List Kd)} {M:Nat→Option (Array Value)} {V:Val}:∀(g:List Kd) (vs:List Value) (f:List D) (j:Nat),(∀i,i<f.length→V.d (j+i)=f.getD i default)→DVL K M g vs f→∀e b,(e,b)∈CI j g→Ah V e=b
 |[],[],[],_,_,_,e,b,a=>by simp [CI] at a
 |k::g,v::vs,d::f,j,hi,h,e,b,a=>by
  have o:V.d j=d:=by have:=hi 0 (by simp);simpa using this
  have c:=Ih g vs f (j+1) (fun i hl=>by have:=hi (i+1) (by simp;omega);rw [show j+1+i=j+(i+1) by omega,this];simp) h.2 e b
  have m:=h.1;cases m with
  |int k n _ p q=>
   have e0:(Ab V (.var j)).toInt=n:=by simp only [Ab,o];exact q
   simp only [CI] at a;split at a
   ·exact c a
   ·rename_i m;have l:=p.resolve_left (by simpa using m)
    simp only [F5,E5] at a;rcases a with ⟨rfl,rfl⟩|⟨rfl,rfl⟩|a
    ·rw [AB,L2];simp only [Af];rw [e0];show ¬_<_;have:=l.1;have:=l.2;simp only [Ab,D.toInt];omega
    ·rw [AB,L2];simp only [Af];rw [e0];show ¬_<_;have:=l.1;have:=l.2;simp only [Ab,D.toInt];omega
    ·exact c a
  |bool=>exact c a
  |str=>exact c a
  |nil=>exact c a
  |empty=>exact c a
  |slc=>exact c a
def Hs (w:World) (k:Nat):Option (Array Value):=match w.heap[k]? with
 |some (.cells c _ _)=>some c
 |_=>none
theorem OU {w:World} {a:Addr} {v:Value} (h:w.cell? a=some v):∃arr,Hs w a.block=some arr∧a.spot=none∧arr[a.off]?=some v:=by
 unfold World.cell? at h;unfold Hs;split at h
 ·rename_i c _ _ b;rw [b];split at h
  ·cases h
  ·rename_i hs;refine ⟨c,rfl,?_,h⟩;cases d:a.spot with
   |none=>rfl
   |some x=>rw [d] at hs;simp at hs
 ·cases h
theorem LZ {w:World} {b n:Nat} {a:Addr} {cs:List Value} (h:w.cells? b a n=some cs) (hn:0<n):∃arr,Hs w a.block=some arr∧a.spot=none∧cs.length=n∧∀j,j<n→arr[a.off+j]?=cs[j]?:=by
 unfold World.cells? at h;split at h
 ·have hl:cs.length=n:=by simpa using mapM_some_length h
  have k:∀j,j<n→w.cell? (a.add j)=cs[j]?:=fun j d=>mapM_some_get h j j (by simp [d])
  have e:=k 0 hn;have e0:a.add 0=a:=by simp [Addr.add]
  rw [e0] at e;have f:cs[0]?=some cs[0]:=by simp
  rw [f] at e;obtain ⟨arr,g,o,p⟩:=OU e;refine ⟨arr,g,o,hl,fun j d=>?_⟩
  have c:=k j d;have i:cs[j]?=some cs[j]:=by simp [hl,d]
  rw [i] at c ⊢;obtain ⟨l,p1,p2,p3⟩:=OU c;by_cases m:j=0
  ·subst m;rw [e0] at p1 p3;rw [g] at p1;cases p1;exact p3
  ·simp only [Addr.add,if_neg m] at p1 p3;rw [g] at p1;cases p1;exact p3
 ·cases h
theorem KF {P:Nat→D→Prop}:∀(n:Nat),(∀i,i<n→∃d,P i d)→∃l:List D,l.length=n∧∀i,i<n→∃d,l[i]?=some d∧P i d
 |0,_=>⟨[],rfl,fun i hi=>by omega⟩
 |n+1,h=>by
  obtain ⟨l,a,b⟩:=KF n (fun i hi=>h i (by omega))
  obtain ⟨d,c⟩:=h n (by omega)
  refine ⟨l++[d],by simp [a],fun i hi=>?_⟩
  by_cases e:i<n
  ·obtain ⟨x,f,g⟩:=b i e;exact ⟨x,by rw [Ea (by omega)];exact f,g⟩
  ·have:i=n:=by omega
   subst this;exact ⟨d,by rw [E3 (by omega),a];simp,c⟩
theorem M5 {b:TypeId→Nat→Bool} {r1 r2:TypeId→Option (List Kd)} (h:∀t a,r1 t=some a→r2 t=some a):∀(c:List Field) (off:Nat) (a:List Kd),Fh b r1 c off=some a→Fh b r2 c off=some a
 |[],_,_,q=>q
 |f::r,off,a,q=>by
  simp only [Fh] at q ⊢;split at q
  ·rename_i l1 e1 d;rw [h _ _ d];split at q
   ·rename_i l2 e g;simp only [e1,e,M5 h r _ _ g];exact q
   ·cases q
  ·cases q
theorem Pk {desc:TypeId→Option TypeDesc} {a:TypeId→Nat→Bool}:∀(n:Nat) (t:TypeId) (b:List Kd),Et false desc a n t=some b→Et true desc a n t=some b
 |0,_,_,h=>h
 |n+1,t,b,h=>by
  have key:∀l,J5 false a (Et false desc a n) (desc t)=some l→J5 true a (Et true desc a n) (desc t)=some l:=by
   intro l q;cases c:desc t with
   |none=>rw [c] at q;exact q
   |some d=>
    rw [c] at q;cases d<;>first|exact q|skip
    ·simp [J5] at q
    ·exact M5 (Pk n) _ _ _ q
  simp only [Et] at h ⊢;split at h
  ·rename_i l hl;rw [key l hl];exact h
  ·cases h
theorem Yc {E:Env} {t:TypeId} {a:List Kd} (h:E.kinds0 t=some a):E.kinds t=some a:=Pk 20 t a h
theorem Zt {E:Env} {L:List TypeId}:∀{l:List TypeId} {e:TypeId},HY E L l=true→inL e l=true→∃b,E.kinds0 e=some b∧b≠[]∧b.all (RJ L)=true
 |[],e,_,h=>by simp [inL] at h
 |f::r,e,a,h=>by
  simp only [HY] at a;split at a
  ·rename_i b c;simp only [B1,X9,List.isEmpty_eq_false_iff] at a;simp only [inL,g0] at h;rcases h with h|h
   ·rw [AK h];exact ⟨b,c,a.1.1,a.1.2⟩
   ·exact Zt a.2 h
  ·cases a
section
variable {E:Env} {L:List TypeId} {H:Type} {enc:TypeId×Value→H} {w:World} {base:Nat} {sp:Nat→Bool} {held:Bool}
theorem IA [U:Unk] (hE:OK E) {t:TypeId} {n:Nat} (h:E.szIs t n=true):E.P.cellsOf t=n:=by
 unfold Env.szIs at h;cases hi:E.ty.get t with
 |none=>rw [hi] at h;cases h
 |some i=>rw [hi] at h;simp [Program.cellsOf,hE.ty t i hi,AK h]
theorem Uy [U:Unk] (hE:OK E) {rec_:TypeId→Option (List Kd)} {o:Option Nat} {m:Nat} {cs:List Value} (c:∀t a cs x,rec_ t=some a→a.all (RJ L)=true→DataW.trod enc E.P w base sp held m t cs=some x→Bu o x.1→∃d,DVL E.kinds (Hs w) a cs d∧∀q,ShL E.kinds o q a d) :
  ∀(i:List Field) (off:Nat) (a:List Kd),Fh E.szIs rec_ i off=some a→a.all (RJ L)=true→(∀f∈i,∃x,DataW.trod enc E.P w base sp held m f.type ((cs.drop f.offset).take (E.P.cellsOf f.type))=some x∧Bu o x.1)→∃d,DVL E.kinds (Hs w) a ((cs.drop off).take a.length) d∧∀q,ShL E.kinds o q a d:=by
 intro i
 induction i with
 |nil=>intro off a h _ _;simp [Fh] at h;subst h;exact ⟨[],by simp [DVL],fun q j kd h=>by simp at h⟩
 |cons f r v=>
  intro off a h b u;simp only [Fh] at h;split at h
  ·rename_i k1 y z;split at h
   ·rename_i l hs hl;cases h;rw [List.all_append,B1] at b;obtain ⟨x,k,n⟩:=u f (by simp)
    have g:=AK y;have p:=IA hE hs;obtain ⟨d1,s,s1⟩:=c _ _ _ _ z b.1 k n;rw [p,g] at s;obtain ⟨d2,A,B⟩:=v _ _ hl b.2 (fun f C=>u f (by simp [C]))
    have e:(cs.drop off).take (k1++l).length=(cs.drop off).take k1.length++(cs.drop (off+k1.length)).take l.length:=by
     rw [L1,List.take_add,List.drop_drop]
    rw [e];exact ⟨d1++d2,s.append A,fun q=>(s1 q).append s.len.2 (B q)⟩
   ·cases h
  ·cases h
theorem bo [U:Unk] (hE:OK E) (hL:HY E L L=true) {o:Option Nat}:∀(m n:Nat) (t:TypeId) (z:List Kd) (cs:List Value) (x:DataW H×List MemPlace),Et false E.desc E.szIs n t=some z→z.all (RJ L)=true→DataW.trod enc E.P w base sp held m t cs=some x→Bu o x.1→∃g,DVL E.kinds (Hs w) z cs g∧∀q,ShL E.kinds o q z g:=by
  intro m
  have one:∀{kd:Kd} {d:D},(∀q,ShK E.kinds o q kd d)→∀q,ShL E.kinds o q [kd] [d]:=by
    intro kd d h q j am A;cases j with
    |zero=>simp only [D1,A1] at A;subst A;exact h q
    |succ j=>simp at A
  induction m using Nat.strongRecOn with
  |_ m ih=>
    intro n t z cs x h0 F r l;obtain ⟨ab,n',rfl,h⟩:=kinds_size h0;clear h0;cases hd:E.desc t with
    |none=>rw [hd] at h;cases h
    |some d=>
      have M:=hE.und hd;rw [hd] at h;cases m with
      |zero=>simp [DataW.trod] at r
      |succ m=>
      cases d<;>first | (cases h;done)|skip
      case bool=>
        cases h;unfold DataW.trod at r;rw [M] at r;split at r<;>simp_all
        exact ⟨[.bool _],⟨.bool _ _ rfl,trivial⟩,one fun q=>by cases q<;>trivial⟩
      case int k=>
        cases h;unfold DataW.trod at r;rw [M] at r
        have go:∀{N:IntKind} {n:Int},(N=k∧(Lit.int k n).wf=true)→∃g,DVL E.kinds (Hs w) [.int k] [.int N n] g∧∀q,ShL E.kinds o q [.int k] g:=by
          rintro N n ⟨rfl,hw⟩
          have hb:N.min≤n∧n≤N.max:=by simpa [Lit.wf] using hw
          exact ⟨[.int n],⟨.int _ _ _ (.inr hb) rfl,trivial⟩,one fun q=>by cases q<;>trivial⟩
        split at r<;>first | (cases r;done)|skip
        all_goals
          first
            | (split at r
               · rename_i hq;simp_all
               · cases r)
            |simp_all
      case string=>
        cases h;unfold DataW.trod at r;rw [M] at r;split at r<;>first | (simp at r;done)|skip
        all_goals first
          | (rename_i hh;cases hh;done)
          | (rename_i hh _;cases hh;done)
          |skip
        all_goals
          rename_i s _;split at r
          · simp only [A1] at r
            subst r;exact ⟨[.str s],⟨.str _ _ rfl,trivial⟩,one fun q=>by cases q<;>(simp only [Bu] at l;exact l)⟩
          · cases r
      case slice e=>
        cases h;simp only [List.all_cons,List.all_nil,g6,RJ] at F;obtain ⟨ke,B,ac,O⟩:=Zt hL F;have G:=Yc B;rcases DataW.trod_slice M r with ⟨rfl,_⟩|⟨a,len,Q,p,rest,q,hq,rfl,R,hb,hl,hc,u,S,_,_⟩
        · exact ⟨[.slc true []],⟨.nil e _ rfl rfl,trivial⟩,one fun q=>by cases q<;>first|trivial|exact ⟨fun b _=>hP b,fun _ _ i hi=>absurd hi (iv i)⟩⟩
        · by_cases h0:len=0
          · subst h0
            exact ⟨[.slc false []],⟨.empty e a Q _ rfl rfl,trivial⟩,one fun q=>by cases q<;>first|trivial|exact ⟨fun b _=>hP b,fun _ _ i hi=>absurd hi (iv i)⟩⟩
          · have ad:E.P.cellsOf e=ke.length:=IA hE (kinds_size G).1
            have C:0<ke.length:=by cases ke with|nil=>exact absurd rfl ac|cons=>simp
            rw [ad] at S
            obtain ⟨rows,r1,r2⟩:=KF (P:=fun i d=>∃g cells,d=.row g∧w.cells? base (a.add (i*ke.length)) ke.length=some cells∧DVL E.kinds (Hs w) ke cells g∧∀q,ShL E.kinds o q ke g) len (by
              intro i hi;have:=S i hi;have he:p[i]?=some p[i]:=by simp [u,hi]
              rw [he] at this;simp only [Option.bind_eq_some_iff] at this;obtain ⟨cells,c1,c2⟩:=this
              have ae:Bu o (p[i]).1:=by
                rw [R] at l;simp only [Bu] at l;exact l.2.get (i:=i) (by simp [u,hi])
              obtain ⟨g,af,T⟩:=ih q (by omega) 20 e ke cells _ B O c2 ae
              exact ⟨.row g,g,cells,rfl,c1,af,T⟩)
            obtain ⟨_,_,an,aa,_,c0,_⟩:=r2 0 (by omega)
            have ea:a.add (0*ke.length)=a:=by simp [Addr.add]
            rw [ea] at c0;obtain ⟨arr,s1,s2,_,s4⟩:=LZ c0 C;have V:a=⟨a.block,a.off,none⟩:=by cases a;simp at s2;simp [s2]
            have key:∀i,i<len→∃g cells,rows[i]?=some (.row g)∧(DVL E.kinds (Hs w) ke cells g∧∀q,ShL E.kinds o q ke g)∧∀j,j<ke.length→arr[a.off+i*ke.length+j]?=cells[j]?:=by
              intro i hi;obtain ⟨d,I,g,cells,y,W,g4,g5⟩:=r2 i hi;subst y;refine ⟨g,cells,I,⟨g4,g5⟩,?_⟩;obtain ⟨al,t1,t2,_,t4⟩:=LZ W C;by_cases hz:i*ke.length=0
              · rw [hz] at t1 t4 ⊢
                have e0:a.add 0=a:=by simp [Addr.add]
                rw [e0] at t1 t4;rw [s1] at t1;cases t1;simpa using t4
              · simp only [Addr.add,if_neg hz] at t1 t4
                rw [s1] at t1;cases t1;exact t4
            refine ⟨[.slc false rows],⟨?_,trivial⟩,one fun q=>by
              cases q with
              |zero=>trivial
              |succ q=>
                refine ⟨by
                  rw [R] at l;simp only [Bu] at l;have e:(D.slc false rows).rows.length=p.length:=by rw [u];exact r1
                  rw [e];exact (List.length_map (as:=p) (·.1))▸l.1,fun ag ah i hi j kd A=>?_⟩
                have ai:ag=ke:=Option.some.inj (ah.symm.trans G);subst ai;have J:i<len:=by have:i<rows.length:=hi;omega
                obtain ⟨g,cells,I,⟨_,y⟩,_⟩:=key i J;have X:(D.rows (.slc false rows)).getD i default=.row g:=by simp [D.rows,A4,I]
                rw [X];exact y q j kd A⟩
            rw [V];refine .slc e a.block a.off len Q (.slc false rows) ke arr G s1 r1 hl rfl ?_ (fun i hi=>?_) ?_
            · obtain ⟨g,cells,_,⟨y,_⟩,W⟩:=key (len-1) (by omega)
              have:=W (ke.length-1) (by omega)
              have ao:=y.len.1;have aj:cells[ke.length-1]?=some (cells[ke.length-1]'(by omega)):=by simp
              rw [aj] at this;have ap:=(Array.getElem?_eq_some_iff.1 this).1
              have:len*ke.length=(len-1)*ke.length+ke.length:=by
                rw [←Nat.succ_mul];congr 1;omega
              omega
            · obtain ⟨g,cells,I,⟨y,_⟩,_⟩:=key i hi
              have X:(D.rows (.slc false rows)).getD i default=.row g:=by simp [D.rows,A4,I]
              rw [X];exact y.len.2.symm
            · intro i j kd hi A
              obtain ⟨g,cells,I,⟨y,_⟩,W⟩:=key i hi;have X:(D.rows (.slc false rows)).getD i default=.row g:=by simp [D.rows,A4,I]
              rw [X];have Y:j<ke.length:=(B3.1 A).1
              have ak:g[j]?=some ((D.cells (.row g)).getD j default):=by
                have:j<g.length:=by rw [←y.len.2];exact Y
                simp [D.cells,A4,this]
              obtain ⟨v,v1,v2⟩:=y.get A ak;have:=W j Y;rw [v1] at this;have ev:arr.getD (a.off+i*ke.length+j) Go.undef=v:=by simp [C2,this]
              rw [ev];exact v2
      case struct fs=>
        simp only [J5] at h;obtain ⟨xs,q,e1,e2,e3,e4,e5⟩:=DataW.trod_struct M r;rw [e2] at l;simp only [Bu] at l
        obtain ⟨g,this,K⟩:=Uy hE (L:=L) (o:=o) (m:=q) (cs:=cs) (fun t z cs x a b c d=>ih q (by omega) n' t z cs x a b c d) fs.toList 0 z h F (fun f hf=>by
          obtain ⟨i,hi,rfl⟩:=X0 hf;have J:i<fs.size:=by simpa using hi
          have h5:=e5 i fs[i] (by simp [J])
          have Z:i<xs.length:=by omega
          exact ⟨xs[i],by simpa [Z] using h5,l.get (i:=i) (by simp [Z])⟩)
        have u:cs.length=z.length:=by rw [e3,IA hE ab]
        rw [List.drop_zero,←u,List.take_length] at this;exact ⟨g,this,K⟩
theorem fw [U:Unk] (hE:OK E) (hL:HY E L L=true) {o:Option Nat}:∀(ts:List TypeId) (vs:List Value) (g:List (DataW H)) (N:List MemPlace) (k:List Kd),DataW.TrodAll enc E.P w base sp held ts vs g N→
  (∀(j:Nat) t v,ts[j]?=some t→vs[j]?=some v→∃r W,Value.okWide E.P w r W t v)→BI E ts=some k→k.all (RJ L)=true→BP o g→
  ∃(cs:List Value) (m:List D),DVL E.kinds (Hs w) k cs m∧((Can k m∧PP E.kinds 9 k m)∧ShL E.kinds o 9 k m)∧∀(U:Unk) (j:Nat) (args:List AV) (s:Ren),U.K=E.kinds→s.imm=Hs w→(∀i,i<m.length→U.V.d (j+i)=m.getD i default)→GD E j ts=some args→VL s args vs:=by
 intro ts
 induction ts with
 |nil=>
  intro vs g N k hA f u _ _;cases vs with
  |nil=>
   simp [BI] at u;subst u;exact ⟨[],[],trivial,⟨⟨trivial,fun j kd h=>by simp at h⟩,fun j kd h=>by simp at h⟩,fun U j args s _ _ _ b=>by simp [GD] at b;subst b;exact VL.nil s⟩
  |cons=>cases g<;>simp [DataW.TrodAll] at hA
 |cons t ts X=>
  intro vs g N k hA f u x z;cases vs with
  |nil=>cases g<;>simp [DataW.TrodAll] at hA
  |cons v vs=>
   cases g with
   |nil=>simp [DataW.TrodAll] at hA
   |cons d g=>
    obtain ⟨p,q,⟨A,hx⟩,O,_⟩:=hA;simp only [BI] at u;split at u
    ·rename_i k1 l y hl;cases u;rw [List.all_append,B1] at x;obtain ⟨cs,m,q1,Q,q2⟩:=X vs g q l O (fun j t v ht hv=>f (j+1) t v (by simpa using ht) (by simpa using hv)) hl x.2 z.2
     obtain ⟨x0,B,C⟩:=bo hE hL (o:=o) A 20 t k1 _ _ y x.1 hx z.1;obtain ⟨x1,c,F,G⟩:=B.can (C 9);refine ⟨v.cells.toList++cs,x1++m,c.append q1,⟨⟨Can.append c F.1 Q.1.1,F.2.append c.len.2 Q.1.2⟩,G.append c.len.2 Q.2⟩,?_⟩;intro Y j args s hK Z n b;obtain ⟨r,W,e⟩:=f 0 t v rfl rfl;have aa:k1.length=x1.length:=c.len.2;simp only [GD] at b;split at b
     ·rename_i d0 ab hd I;rw [y] at I;cases I;have R:=OK.und (U:=U) hE hd;clear X;split at b
      ·rename_i rr S
       have tail:=q2 Y (j+k1.length) rr s hK Z (fun i hi=>by
        have:=n (x1.length+i) (by simp only [L1];omega)
        rw [show j+k1.length+i=j+(x1.length+i) by omega,this]
        simp [A4,E3]) S
       have head:=KU (U:=Y) s k1 v.cells.toList x1 j (fun i hi=>by
        have:=n i (by simp only [L1];omega)
        rw [this];simp [A4,Ea hi]) (by rw [hK,Z];exact c)
       split at b
       ·rename_i hs;cases b;refine VL.cons ?_ tail;cases d0<;>simp [Ka] at hs
        unfold Value.okWide at e;rw [R] at e;obtain ⟨J,rfl,_⟩:=e;exact .agg _ J.toList head.1 head.2
       ·rename_i hs;split at b
        ·rename_i a M;cases b;refine VL.cons ?_ tail;rw [M] at head
         have T:v.cells.toList=[v]:=by
          cases v<;>first|rfl|skip
          rename_i J
          exfalso
          unfold Value.okWide at e;rw [R] at e;obtain ⟨_,_,_,y⟩:=kinds_size y;rw [hd] at y;cases d0<;>simp [Ka] at hs<;>first | (cases y;done)|skip
          all_goals simp [Cell.okWide,Cell.ok,R] at e
         rw [T] at head;obtain ⟨v',r',e1,e2,_⟩:=head.cons_inv;cases e1;exact e2
        ·cases b
      ·cases b
     ·cases b
    ·cases u
theorem Zl [U:Unk] (w:World):HR ⟨fun _=>none,Hs w⟩ (T.nil:T Aj).get w:=by
 refine ⟨fun b base h=>(by cases h),fun b base x h=>(by cases h),fun b g base a _ h=>(by cases h),fun k arr h=>?_,fun k arr b base _ h=>(by cases h)⟩
 simp only [Hs] at h;split at h
 ·rename_i c e d f;cases h;exact ⟨e,d,f⟩
 ·cases h
end
theorem Lb {H:Type} {c:TypeId×Value→H} {P:Program} {w:World} {a:Nat} {sp:Nat→Bool} {b:Bool}:∀{ts:List TypeId} {vs:List Value} {d:List (DataW H)} {e:List MemPlace},DataW.TrodAll c P w a sp b ts vs d e→d.length=ts.length
 |[],[],[],_,_=>rfl
 |_::_,_::_,_::_,_,⟨_,_,_,h,_⟩=>by simp [Lb h]
 |[],_::_,_,_,h=>by simp [DataW.TrodAll] at h
 |[],[],_::_,_,h=>by simp [DataW.TrodAll] at h
 |_::_,[],_,_,h=>by simp [DataW.TrodAll] at h
 |_::_,_::_,[],_,h=>by simp [DataW.TrodAll] at h
theorem Ij {H:Type} {a:TypeId×Value→H} {P:Program} (hl:laidOutB P=true) {W j:World} (k:Below W.heap.size W j):∀{ts:List TypeId} {vs:List Value} {f:List (DataW H)} {e:List MemPlace},
  (∀t∈ts,P.readableRec t=true∧t<P.types.size)→DataW.TrodAll a P W 0 (fun _=>true) true ts vs f e→(∀x∈e,x.block<W.heap.size)→DataW.TrodAll a P j 0 (fun b=>decide (b<W.heap.size)) true ts vs f e
 |[],[],[],_,_,h,_=>h
 |t::ts,v::vs,d::f,e,g,⟨p,q,l,m,n⟩,c=>by
  subst n;exact ⟨p,q,Below.trod hl (g t (by simp)).1 (g t (by simp)).2 l k (fun x i=>c x (by simp [i])),Ij hl k (fun t o=>g t (by simp [o])) m (fun x i=>c x (by simp [i])),rfl⟩
 |[],_::_,_,_,_,h,_=>by simp [DataW.TrodAll] at h
 |[],[],_::_,_,_,h,_=>by simp [DataW.TrodAll] at h
 |_::_,[],_,_,_,h,_=>by simp [DataW.TrodAll] at h
 |_::_,_::_,[],_,_,h,_=>by simp [DataW.TrodAll] at h
end Go.AE
namespace Go.AE
def Cg:Code→Option Nat
 |.region id _ _=>some id
 |.seq a b=>match Cg a with
  |some i=>some i
  |none=>Cg b
 |.cond _ a b=>match Cg a with
  |some i=>some i
  |none=>Cg b
 |.block _ b=>Cg b
 |.loop b=>Cg b
 |.scope b=>Cg b
 |_=>none
def V2 (a:List Nat) (c:Code):Bool:=match Cg c with
 |some i=>NQ i a
 |none=>false
def ij (a:List Nat) (s:AS):Bool:=
 match s.cs,s.fr.mode,s.fr.todo with
 |[],.run,.code (.loop b)::_=>V2 a b
 |[],.run,.inLoop b::_=>V2 a b
 |_,_,_=>false
def jL:AV→Option SB
 |.sb _ e=>some e
 |_=>none
def orE (a b:Option SB):Option SB:=match a with
 |some x=>some x
 |none=>b
def ask [U:Facts] (e:SB):Option SB:=match AW U.facts e with
 |none=>some e
 |some _=>none
def R3 [Facts] (i n:SE):Option SB:=orE (ask (.lss i (.c 0))) (ask (.lss i n))
def OH [Facts] (a:List SE):List (SB×Bool)→Option SB
 |[]=>none
 | (e,_)::r=>orE (ask (e.inst a)) (OH a r)
inductive aG where
 |ask (e:SB)
 |no
 |free
 deriving Inhabited
def Yk:Obs→Bool
 |[]=>true
 | (a,.bc true)::r=>a.isB&&Yk r
 |_=>false
def VM [Facts]:Obs→Option SB
 |[]=>none
 | (a,_)::r=>orE (ask a) (VM r)
def Vt:List AV→List AV→Bool
 |[],[]=>true
 |a::l,b::m=>(match a,b with
  |.func (.yield i) _ _,.func (.yield j) _ _=>Nat.beq i j
  |a,b=>BO a b)&&Vt l m
 |_,_=>false
def aa:Option (List AV)→List AV→Bool
 |some l,m=>Vt l m
 |none,_=>true
def Ra [Facts] (E:Env) (f:FuncId) (args:List AV) (h:Aa):Option (List AV)→List Sm→aG
  |_,[]=>.free
  |g,s::r=>match Nat.beq s.f f&&aa g s.args with
    |true=>match Ru E s args h with
     | (a,c)=>match AT E s.pre 0 (H8 E s.pre c (Gh s.args a ⟨.nil,.nil⟩)) c with
      | (m,d)=>match Eu (H9 (IU m.v 0 s.nv) (Jl m.b 0 s.pre.length) s.args a) (Fa E (IU m.v 0 s.nv) (Jl m.b 0 s.pre.length) d s.pre (Jl m.b 0 s.pre.length)) with
        |some o=>match Yk o with
          |true=>match orE (VM o) (OH (IU m.v 0 s.nv) s.facts) with
            |some e=>.ask e
            |none=>match Ra E f args h (some s.args) r with
              |.free=>.no
              |x=>x
          |false=>Ra E f args h g r
        |none=>Ra E f args h g r
    |false=>Ra E f args h g r
def Yv [Facts] (E:Env) (f:FuncId) (args:List AV) (h:Aa) (l:List Sm):aG:=Ra E f args h none l
def OQ [Facts] (E:Env) (f:Nat):Ask→Aa→Option (Bool×AV×Aa):=fun a h=>match a with
 |.enter g args=>match Mj E g args h with
  |some r=>some r
  |none=>match args.isEmpty,Yv E g args h E.sms with
   |true,.ask _=>none
   |true,.no=>none
   |_,_=>match BT E g args .normal with
    |some fr=>G1 E f fr.fn true {fr,cs:=[],h}
    |none=>none
 |.round l args=>match Hr l args h with
  |some fr=>G1 E f fr.fn true {fr,cs:=[],h}
  |none=>none
def Jt [Facts] (h:Aa):AV→Option SB
 |.asl b _ n _=>match h.blk.get b with
  |some (.arr _ y)=>match LQ n y with
   |true=>none
   |false=>ask (.eql n (.lenL y))
  |_=>none
 |_=>none
def Uo [Facts] (E:Env) (ts:List TypeId) (args:List AV) (h:Aa):Option SB:=
 match ts,args with
 |t::_,[s,x]=>match E.desc t with
  |some (.slice e)=>match E.kinds e with
   |some a=>orE (orE (Jt h s) (Jt h x)) <| match Wm e a (GT E e x (GT E e s h)) s with
    |some (b,_,_)=>match cW e a (GT E e x (GT E e s h)) b x with
     |some (_,m)=>orE (ask (.lss (.lenL b) (.c 1073741824))) (ask (.lss m (.c 1048576)))
     |none=>none
    |none=>none
   |none=>none
  |_=>none
 |_,_=>none
def PY [Facts] (a:Bool):SE→List AV→Option SB
 |_,[]=>none
 |x,y::r=>match toI y with
  |some (_,b)=>match (match a with|true=>AW Facts.facts (.lss x b)|false=>AW Facts.facts (.lss b x)) with
   |some true=>PY a b r
   |some false=>PY a x r
   |none=>some (match a with|true=>.lss x b|false=>.lss b x)
  |none=>none
def RD [Facts] (b:Bool):List AV→Option SB
 |y::r=>match toI y with
  |some (_,a)=>PY b a r
  |none=>none
 |[]=>none
def Vp [Facts] (E:Env) (t:TypeId) (k:AV):List A0→Option SB
 |[]=>none
 |e::r=>match eqK E t k e.key with
  |some true=>none
  |some false=>Vp E t k r
  |none=>IC E 10000 t k e.key
def Zs [Facts] (E:Env) (t:TypeId) (m k:AV) (h:Aa):Option SB:=
 match Pa E t,m with
 |some (d,e,a,b),.map r=>match bW d e a b (h.blk.get r),WT a k with
  |some x,some f=>ask (.lss (.mIdx a x f) (.c 0))
  |_,_=>none
 |_,_=>none
def YP [Facts] (n:SE):Option SE→Option SE→Option SB
 |some l,some u=>orE (ask (.lss l (.c 0))) (orE (ask (.lss u l)) (ask (.lss n u)))
 |_,_=>none
def aq [U:Facts] (e:SE):Nat→Nat→Option SB
 |0,_=>none
 |n+1,j=>match AW U.facts (.eql e (.c j)) with
  |some true=>none
  |some false=>aq e n (j+1)
  |none=>some (.eql e (.c j))
def I2 [Facts] (n:Nat):AV→Option SB
 |.si _ e=>match Nat.ble n 64 with
  |true=>aq e n 0
  |false=>none
 |_=>none
def JD [Facts] (n:Nat):Option AV→Option SB
 |some a=>I2 n a
 |none=>none
def ZU [U:Facts] (E:Env) (t:TypeId) (d x:AV) (h:Aa):Option SB:=
 match E.desc t,d with
 |some (.slice e),.slice _ _ n _=>match S7 e h x with
  |some y=>match AW U.facts (.lss (.lenL y) (.c n)) with
   |some true=>I2 n (.si .i64 (.lenL y))
   |some false=>none
   |none=>some (.lss (.lenL y) (.c n))
  |none=>Jt h x
 |_,_=>none
def Od [Facts]:SE→Option SB
 |.strc _ _=>none
 |e=>ask (.lss (.lenS e) (.c 4611686018427387904))
def PG (E:Env) (t:TypeId):Nat:=match E.desc t with
 |some (.array n _)=>n
 |_=>0
def LH [Facts]:AV→Option SB
 |.nmap _ nl=>ask nl
 |.iface _ (.nmap _ nl)=>ask nl
 |_=>none
def Nm [Facts]:List AV→Option SB
 |[]=>none
 |a::r=>orE (LH a) (Nm r)
def dr [Facts] (tmps:T AV):Op→Option SB
 |.lookup _ m _ _=>LH (Al tmps m)
 |.mapUpdate _ m _ _=>LH (Al tmps m)
 |.range _ x=>LH (Al tmps x)
 |.call c=>match c.callee with
  |.builtin .append=>none
  |.builtin _=>Nm (c.args.toList.map (Al tmps))
  |.value _=>Nm (c.args.toList.map (Al tmps))
  |_=>none
 |_=>none
def cA [Facts] (E:Env) (tmps:T AV) (h:Aa) (g:Op):Option SB:=
 match g with
 |.pick c _ _=>jL (Al tmps c)
 |.binOp .add _ x y _=>match Su (Al tmps x),Su (Al tmps y) with
  |some a,some b=>orE (Od a) (Od b)
  |_,_=>none
 |.binOp _ _ x y _=>match Al tmps x,Al tmps y with
  |.sb _ a,.sb _ b=>orE (ask a) (ask b)
  |_,.si _ b=>ask (.eql b (.c 0))
  |_,_=>none
 |.makeSlice _ l _=>match Al tmps l with
  |.si _ n=>orE (ask (.lss n (.c 0))) (ask (.lss n (.c 1048577)))
  |_=>none
 |.indexAddr _ x i=>match Al tmps x,toI (Al tmps i) with
  |.dat _ y,some (_,j)=>R3 j (.lenL (CZ y))
  |.asl _ _ n _,some (_,j)=>R3 j n
  |.slice _ _ n _,_=>I2 n (Al tmps i)
  |.ptr _ _,_=>match g with
   |.indexAddr t _ _=>I2 (PG E t) (Al tmps i)
   |_=>none
  |_,_=>none
 |.load _ a=>match Al tmps a with
  |.aptr b _ i _=>match h.blk.get b with
   |some (.arr _ y)=>R3 i (.lenL (CZ y))
   |_=>none
  |_=>none
 |.store _ a _=>match Al tmps a with
  |.aptr b _ i _=>match h.blk.get b with
   |some (.arr _ y)=>R3 i (.lenL (CZ y))
   |_=>none
  |_=>none
 |.index _ x i=>match Al tmps x,toI (Al tmps i) with
  |.ss y,some (_,j)=>R3 j (.lenS y)
  |.agg _,_=>match g with
   |.index t _ _=>I2 (PG E t) (Al tmps i)
   |_=>none
  |_,_=>none
 |.convert _ _ x=>Jt h (Al tmps x)
 |.slice _ x lo hi _=>match Al tmps x with
  |.dat _ y=>YP (.lenL y) (H7 (.c 0) (Bp tmps lo)) (H7 (.lenL y) (Bp tmps hi))
  |.ss y=>YP (.lenS y) (H7 (.c 0) (Bp tmps lo)) (H7 (.lenS y) (Bp tmps hi))
  |.asl b o n nl=>orE (Jt h (.asl b o n nl)) (match h.blk.get b with
   |some (.arr _ y)=>YP (.lenL y) (H7 (.c 0) (Bp tmps lo)) (H7 (.lenL y) (Bp tmps hi))
   |_=>none)
  |.slice _ _ n _=>orE (JD (n+1) (Bp tmps lo)) (JD (n+1) (Bp tmps hi))
  |.ptr _ _=>match g with
   |.slice t _ _ _ _=>orE (JD (PG E t+1) (Bp tmps lo)) (JD (PG E t+1) (Bp tmps hi))
   |_=>none
  |_=>none
 |.lookup t m k _=>match E.desc t,Al tmps m with
  |some (.map p _),.map r=>match h.blk.get r with
   |some (.map o _)=>Vp E p (Al tmps k) o
   |some (.dmap _ _ _)=>Zs E t (Al tmps m) (Al tmps k) h
   |_=>none
  |_,_=>none
 |.mapUpdate t m k _=>match ak (Al tmps k)||uh (gR h (Al tmps m)) with
  |true=>Zs E t (Al tmps m) (Al tmps k) h
  |false=>none
 |.call c=>match c.callee with
  |.builtin .max=>RD true (c.args.toList.map (Al tmps))
  |.builtin .min=>RD false (c.args.toList.map (Al tmps))
  |.builtin .delete=>match c.argTypes.toList,c.args.toList.map (Al tmps) with
   |t::_,[m,k]=>match LF E t m k h with
    |some _=>none
    |none=>Zs E t m k h
   |_,_=>none
  |.builtin .copy=>match c.argTypes.toList,c.args.toList.map (Al tmps) with
   |t::_,[d,x]=>match Vv E t d x h with
    |some _=>none
    |none=>ZU E t d x h
   |_,_=>none
  |.builtin .append=>Uo E c.argTypes.toList (c.args.toList.map (Al tmps)) h
  |.builtin _=>none
  |_=>match aop E tmps h g with
   |.enter f args _=>match Yv E f args h E.sms with
    |.ask e=>some e
    |_=>none
   |_=>none
 |_=>none
def kQ [Facts] (E:Env) (tmps:T AV) (h:Aa) (a:Op):Option SB:=orE (dr tmps a) (cA E tmps h a)
def bx [Facts] (E:Env) (s:AS):aG:=
 match E.sms.isEmpty with
 |true=>.free
 |false=>match s.fr.mode,s.fr.todo with
  |.run,.ops all (o::_)::_=>match NA o.op with
   |true=>.free
   |false=>match Eh all o s.fr.tmps with
    |some true=>match aop E s.fr.tmps s.h o.op with
     |.enter f args _=>Yv E f args s.h E.sms
     |_=>.free
    |_=>.free
  |.run,.code (.rangeFunc f params assign body)::k=>match HO E s f params.toList assign body k with
   |some (g,args,a,_)=>Yv E g args a E.sms
   |none=>.free
  |_,_=>.free
def Ye (all:Array Oper) (o:Oper) (tmps:T AV):Option SB:=match o.guard with
 |some (j,_)=>match all.toList[j]? with
  |some g=>match g.dst with
   |some d=>match tmps.get d with
    |some v=>jL v
    |none=>none
   |none=>none
  |none=>none
 |none=>none
def gF [Facts] (E:Env) (all:Array Oper) (o:Oper) (tmps:T AV) (h:Aa):Option SB:=
 match Eh all o tmps with
 |none=>Ye all o tmps
 |some _=>kQ E tmps h o.op
mutual
def Vx [Facts] (E:Env):Nat→AS→Option SB
 |0,_=>none
 |n+1,s=>match s.fr.todo with
  |.code (.cond c _ _)::_=>jL (Al s.fr.tmps c)
  |.ops all (o::_)::_=>gF E all o s.fr.tmps s.h
  |.code (.region _ ops true)::_=>SO E n ops s.fr.nt ops.toList [] s.fr.tmps s.h
  |_=>none
def LG [Facts] (E:Env):Nat→AS→Option SB
 |0,_=>none
 |n+1,s=>match Yj E s with
  |some i=>LG E n i
  |none=>match bx E s with
   |.ask e=>some e
   |.no=>none
   |.free=>match HD E s with
    |.next i=>LG E n i
    |.draw s ops k=>match DJ E (OQ E n) ops s.fr.nt ops.toList [] s.fr.tmps s.h with
     |some (none,tmps,h)=>LG E n {s with fr:={s.fr with tmps,todo:=k},h}
     |_=>Vx E n s
    |_=>Vx E n s
def SO [Facts] (E:Env):Nat→Array Oper→Nat→List Oper→List Rc→T AV→Aa→Option SB
 |0,_,_,_,_,_,_=>none
 |_+1,_,_,[],_,_,_=>none
 |n+1,all,nt,o::rest,b,tmps,h=>match G7 E (OQ E n) all o (B9 tmps (C0 all o)) h with
  |some d=>match MX nt tmps o.dst d.v with
   |some a=>SO E n all nt rest b a (BA h d.g)
   |none=>none
  |none=>match gF E all o (B9 tmps (C0 all o)) h with
   |some e=>some e
   |none=>match aop E tmps h o.op with
    |.enter f args _=>match Yv E f args h E.sms with
     |.ask e=>some e
     |.no=>none
     |.free=>match BT E f args .normal with
      |some fr=>LG E n {fr,cs:=[],h}
      |none=>none
    |_=>none
end
inductive eR where
 |cut (F:List (SB×Bool)) (s:AS)
 |done (F:List (SB×Bool)) (v:AV) (h:Aa)
 |stuck (F:List (SB×Bool))
 deriving Inhabited
def Ca (V:Val) (F:List (SB×Bool)):Prop:=∀e b,(e,b)∈F→Ah V e=b
def Bz (ρ:Ren) (n:Nat):Prop:=∀b,n≤b→ρ b=none
@[reducible] def Bt (v:Vals) (F:List (SB×Bool)) (h:Ca v.V F):Unk:={facts:=F,toVals:=v,ok:=h}
theorem Bz.ext [v:Vals] {ρ j:Ren} {h h':Aa} {w r:World} (C:Bz ρ h.nx) (e:Ext ρ j h h' w r):Bz j h'.nx:=by
 intro b I;have:=e.nx;cases hs:j b with
 |none=>rfl
 |some base=>
  rcases e.new b base hs with q|⟨_,q,_⟩
  ·rw [C b (by omega)] at q;cases q
  ·omega
def eR.Good [v:Vals] (P:Program) (J:Ren) (s:AS) (c:Frame) (C:List Frame) (w:World) (base:List Frame):eR→Prop
 |.cut F I=>Ca v.V F∧I.cs=[]∧∃r c' j,Steps P (lone c (C++base) w) (lone c' base j)∧SR r I c' [] j∧Ext J r s.h I.h w j
 |.done F x h=>Ca v.V F∧∃r cf v' w1 j,Steps P (lone c (C++base) w) (lone cf base w1)∧Qk P cf w1 true v' j∧VR r x v'∧HR r h.blk.get j∧Ext J r s.h h w j
 |.stuck F=>Ca v.V F
theorem eR.Good.pre [v:Vals] {P:Program} {ρ σ:Ren} {s s':AS} {c c':Frame} {r j:List Frame} {w C:World} {base:List Frame} {l:eR} (hs:Steps P (lone c (r++base) w) (lone c' (j++base) C)) (he:Ext ρ σ s.h s'.h w C) (hf:Bz ρ s.h.nx)
  (h:l.Good P σ s' c' j C base):l.Good P ρ s c r w base:=by
 cases l with
 |cut F s2=>
  obtain ⟨h1,h2,I,c2,w2,J,q2,q3⟩:=h;exact ⟨h1,h2,I,c2,w2,Steps.trans hs J,q2,he.trans q3 (fun b hb _=>hf b hb)⟩
 |done F x h2=>
  obtain ⟨h1,I,cf,v',w1,w2,J,q2,q3,q4,q5⟩:=h;exact ⟨h1,I,cf,v',w1,w2,Steps.trans hs J,q2,q3,q4,he.trans q5 (fun b hb _=>hf b hb)⟩
 |stuck F=>exact h
theorem QP {U:Unk} {E:Env} (hE:OK E) (hO:Ad E U.V.fn) (n:Nat):Mb E (OQ E n):=by
 have hC:∀(fr:AF) (g e:Aa) (ok:Bool) (v:AV) (f:Ren) (j:Frame) (w:World),FrR f fr j→HR f g.blk.get w→WF g→G1 E n fr.fn true {fr,cs:=[],h:=g}=some (ok,v,e)→Bs f g.nx e.nx→
   ∀(c0:Frame) (base:List Frame),∃m p o,Cm E.P (lone j (c0::base) w) c0 base ok p o∧VR m v p∧HR m e.blk.get o∧Ext f m g e w o:=by
  intro fr g e ok v f j w d k c b a c0 base;obtain ⟨m,u,p,w1,o,x,C,D,y,z,A,B⟩:=Zc hE hO n fr.fn true {fr,cs:=[],h:=g} f j [] w ok v e ⟨d,.nil,k⟩ c b a (c0::base);refine ⟨m,p,o,?_,z,A,B⟩;have:=Steps.trans x (Steps.one (y.back c0 base));cases ok<;>exact this
 refine ⟨?_,?_⟩
 ·intro F args q g e ok v f w t k c b a;simp only [OQ] at b;split at b
  ·rename_i r i;cases b;exact Jn hE hO i t k c a
  ·split at b
   ·cases b
   ·cases b
   ·split at b
    ·rename_i fr d;exact hC fr g e ok v f _ w (Ec hE d t) k c b a
    ·cases b
 ·intro l args g e ok v f w k c b a;simp only [OQ] at b;split at b
  ·rename_i fr d;exact ⟨fr,d,fun j s=>hC fr g e ok v f j w s k c b a⟩
  ·cases b
end Go.AE
namespace Go.AE
structure Cut where
 key:Option Nat
 fn:FuncId
 nt:Nat
 nv:Nat
 todo:List AI
 tmps:T AV
 pre:List (Option Aj)
 facts:List (SB×Bool)
 res:AV
 post:List (Option Aj)
 ent:Nat:=0
 defs:List Nat:=[]
 deriving Inhabited
def Ke:List Nat→List AD
 |[]=>[]
 |d::r=>{fn:=none,coll:=d,captured:=[],args:=[]}::Ke r
def Qt (b:List Nat):List Nat→List AD→Bool
 |[],[]=>true
 |d::r,a::l=>a.fn.isNone&&toB b d a.coll&&Qt b r l
 |_,_=>false
def Y4:List (Option Aj)→Nat→Nat→T Nat→T Nat
 |some _::r,i,n+1,t=>Y4 r (i+1) n (t.set i i)
 |none::r,i,n+1,t=>Y4 r (i+1) n t
 |_,_,_,t=>t
def Cut.fr (c:Cut):AF:={fn:=c.fn,nt:=c.nt,tmps:=c.tmps,todo:=c.todo,defers:=Ke c.defs,mode:=.run,kind:=.normal,round:=none}
def Cut.h (c:Cut):Aa:={blk:=Bl c.pre,nx:=c.pre.length,log:=[]}
def Cut.st (c:Cut):AS:={fr:=c.fr,cs:=[],h:=c.h}
def Cut.h' (c:Cut):Aa:={blk:=Bl c.post,nx:=c.post.length,log:=List.range c.pre.length}
def SM:List Nat→List AD→Bd→Bd
 |d::r,a::l,m=>SM r l (m.blk d a.coll)
 |_,_,m=>m
def SF (c:Cut) (s:AS):Bd:=SM c.defs s.fr.defers (Rj c.tmps s.fr.tmps ⟨.nil,Y4 c.pre 0 c.ent .nil⟩)
def Cut.At (P:Program) (G:Nat→D→D) (c:Cut) (V:Val):Prop:=
 ∀(v:Vals),v.V=V→v.K=(Env.of P).kinds→V.fn=G→Ca V c.facts→∀(ρ:Ren) (I:Frame) (w:World),FrR ρ c.fr I→HR ρ c.h.blk.get w→Bz ρ c.pre.length→
  ∀(c0:Frame) (j:List Frame),∃r J C,Cm P (lone I (c0::j) w) c0 j true J C∧VR r c.res J∧HR r c.h'.blk.get C∧Ext ρ r c.h c.h' w C
structure VC where
 F:List (SB×Bool)
 obs:Obs
 rec_:Option (Nat×List SE×List AI)
 deriving Inhabited
def idT:Nat→T Nat→T Nat
 |0,t=>t
 |n+1,t=>idT n (t.set n n)
def VI:Nat→Nat→List Nat→Bool
 |_,0,_=>true
 |i,n+1,b::r=>Nat.beq b i&&VI (i+1) n r
 |_,_+1,[]=>false
def P6:List (Option Aj)→Bool
 |[]=>true
 |some _::r=>P6 r
 |none::_=>false
def Vk [Facts] (E:Env) (c:Cut) (v:AV) (h:Aa):Option Obs:=
 match AT E c.post 0 (H8 E c.post h (He c.res v ⟨.nil,idT c.pre.length .nil⟩)) h with
 | (m,d)=>
  let a:=Jl m.b 0 c.post.length
  EH (VI 0 c.pre.length a&&(Gw c.post a&&P6 (c.post.drop c.pre.length))&&Nat.ble c.pre.length c.post.length) (Eu (Dr [] a c.res v) (Fa E [] a d c.post a))
def UX:List AI→Bool
 |[]=>true
 |.inRange _::_=>false
 |.endRange _::_=>false
 |.rest::_=>false
 |.dead::_=>false
 |.beginRound::_=>false
 |_::r=>UX r
def Jf.isRun:Jf→Bool
 |.run=>true
 |_=>false
def ZE:CallKind→Bool
 |.normal=>true
 |_=>false
def JK (a:List SE):List (SB×Bool)→Obs
 |[]=>[]
 | (e,b)::r=>(e.inst a,.bc b)::JK a r
def ZO [Facts] (E:Env) (c:Cut) (s:AS):Option (List SE×AV×Aa×Obs):=
 match AT E c.pre 0 (H8 E c.pre s.h (SF c s)) s.h with
 | (m,d)=>
  let e:=IU m.v 0 c.nv
  let a:=Jl m.b 0 c.pre.length
  match FB a&&Ot d.nx a&&Nat.ble c.pre.length c.post.length&&Nat.beq s.fr.fn c.fn&&Nat.beq s.fr.nt c.nt&&Qt a c.defs s.fr.defers&&s.fr.mode.isRun&&ZE s.fr.kind&&s.fr.round.isNone&&UX s.fr.todo with
  |true=>match Eu (leT e a c.tmps s.fr.tmps) (Fa E e a d c.pre a),EE e (a++D4 d.nx (c.post.length-c.pre.length)) c.post (a++D4 d.nx (c.post.length-c.pre.length)) d.blk with
   |some o,some t=>some (e,c.res.inst e (a++D4 d.nx (c.post.length-c.pre.length)),{blk:=t,nx:=d.nx+(c.post.length-c.pre.length),log:=a++d.log},o++JK e c.facts)
   |_,_=>none
  |false=>none
theorem Nr:∀{l:List (Option Aj)},P6 l=true→∀i,i<l.length→∃x,l[i]?=some (some x)
 |[],_,i,h=>by simp at h
 |some x::r,h,i,hi=>by
  cases i with
  |zero=>exact ⟨x,rfl⟩
  |succ i=>simpa using Nr (l:=r) h i (by simpa using hi)
 |none::_,h,_,_=>by cases h
theorem Rf:∀(n i:Nat) (l:List Nat),VI i n l=true→∀j,j<n→l[j]?=some (i+j)
 |0,i,l,h,j,a=>by omega
 |n+1,i,[],h,j,a=>by cases h
 |n+1,i,b::r,h,j,a=>by
  simp only [VI,B1] at h;cases j with
  |zero=>simp [F7 h.1]
  |succ j=>
   have:=Rf n (i+1) r h.2 j (by omega)
   simp only [EQ,this]
   congr 1;omega
theorem L4 {V:Val} {d:List SE}:∀{l:List (SB×Bool)},(JK d l).holds V→Ca (V.inst d) l
 |[],h,e,b,f=>by cases f
 | (x,c)::r,h,e,b,f=>by
  rcases F5.1 f with q|q
  ·cases q;have:=h (x.inst d) (.bc c) (by simp [JK])
   unfold Ah;rw [←Cx,this];rfl
  ·exact L4 (fun a g h'=>h a g (by simp [JK,h'])) e b q
theorem RK {v u:Vals} {ρ c:Ren}:∀{l:List AI} {b:List Item},UX l=true→@IL v ρ l b→@IL u c l b
 |[],b,h,hi=>by cases hi;exact .nil
 |a::r,b,h,hi=>by
  cases hi with
  |cons d e=>
   cases d<;>simp only [UX,E2] at h<;>first | (cases h;done)|skip
   all_goals exact .cons (by constructor<;>assumption) (RK h e)
  |rest=>cases h
theorem Ok {u v:Vals} {f:List Nat} {ρ:Ren}:∀{g:List Nat} {l:List AD} {c:List Deferred},Qt f g l=true→@DL u ρ l c→@DL v (ρ.back f) (Ke g) c
 |[],[],[],_,_=>trivial
 |[],[],_::_,_,h=>h.elim
 |d::r,a::l,[],_,h=>h.elim
 |d::r,a::l,q::c,h,i=>by
  simp only [Qt,B1] at h;obtain ⟨⟨j,k⟩,m⟩:=h;have hn:a.fn=none:=by cases n:a.fn with|none=>rfl|some=>rw [n] at j;cases j
  refine ⟨?_,Ok m i.2⟩;have e:=i.1;unfold DR at e ⊢;rw [hn] at e;obtain ⟨b,o,p⟩:=e;exact ⟨b,by rw [Fz k];exact o,p⟩
 |[],_::_,_,h,_=>by cases h
 |_::_,[],_,h,_=>by cases h
section
variable {E:Env} {G:Nat→D→D} (hE:∀[U:Unk],U.K=(Env.of E.P).kinds→OK E) {v:Vals} (hK:v.K=(Env.of E.P).kinds)
include hE hK
theorem Zg {F:List (SB×Bool)} (l:Ca v.V F) {c:Cut} {x:AV} {T:Value} {h:Aa} {S A:Ren} {w N:World} {o:Obs} (u:@Vk ⟨F⟩ E c x h=some o) (ho:o.holds v.V) (hv:VR A x T) (X:HR A h.blk.get N) (Y:WF h) (he:Ext S A c.h h w N) (B:Bz S c.pre.length) :
  ∃Z,VR Z c.res T∧HR Z c.h'.blk.get N∧Ext S Z c.h c.h' w N:=by
 have aa:@OK (Bt v F l) E:=hE (U:=Bt v F l) hK;have H:Bz A h.nx:=Bz.ext (h:=c.h) B he;unfold Vk at u;split at u;rename_i m h1 ab;obtain ⟨hc,u⟩:=Bh u;obtain ⟨o1,o2,ac,O,rfl⟩:=B0 u;obtain ⟨ad,Q⟩:=Obs.append ho;generalize ai:Jl m.b 0 c.post.length=M at *;have e2:(@AT ⟨F⟩ E c.post 0 (@H8 ⟨F⟩ E c.post h (He c.res x ⟨.nil,idT c.pre.length .nil⟩)) h).2=h1:=by rw [ab]
 obtain ⟨q1,q2,q3⟩:=BC (U:=Bt v F l) (E:=E) c.post 0 (@H8 ⟨F⟩ E c.post h (He c.res x ⟨.nil,idT c.pre.length .nil⟩)) h X Y (fun b b1 _=>H b b1)
 rw [e2] at q1 q2 q3;have g:Ext S A c.h h1 w N:=he.trans q2 (fun b n _=>B b n)
 simp only [B1] at hc;obtain ⟨⟨I,ae,R⟩,p⟩:=hc;have I:=Rf _ _ _ I;have p:c.pre.length≤c.post.length:=XA p;have hV:(Bt v F l).V=(Bt v F l).V.inst []:=rfl;have p1:=H5 (U:=Bt v F l) (W:=Bt v F l) hV rfl c.res x o1 T ac ad hv;have p2:=HR.toPatL (U:=Bt v F l) (W:=Bt v F l) hV rfl aa q1 O Q ae;obtain ⟨l1,l2⟩:=D3 (U:=Bt v F l) (W:=Bt v F l) hV rfl c.post M o2 O Q;have i:∀j,j<c.pre.length→M[j]?=some j:=fun j hj=>by have:=I j hj;simpa using this
 refine ⟨A.back M,p1,p2,⟨⟨fun b e n=>?_,fun k a hk=>g.le.imm k a hk⟩,p,fun b e n=>?_,g.calm,g.kept,⟨List.range c.pre.length,by simp [Cut.h',Cut.h],fun b n X=>?_⟩,fun b n=>?_,g.imm⟩⟩
 ·have J:b<c.pre.length:=by
   rcases F8 b c.pre.length with q|q
   ·exact q
   ·rw [B b q] at n;cases n
  show (M[b]?).bind A.m=some e;rw [i b J];exact g.le.m b e n
 ·have C:(M[b]?).bind A.m=some e:=n;cases f:M[b]? with
  |none=>rw [f] at C;cases C
  |some d=>
   rw [f] at C;have L:A d=some e:=C;rcases g.new d e L with q|⟨a1,a2,a3⟩
   ·have J:d<c.pre.length:=by
     rcases F8 d c.pre.length with s|s
     ·exact s
     ·rw [B d s] at q;cases q
    rcases F8 b c.pre.length with s|s
    ·rw [i b s] at f;cases f;exact .inl q
    ·have aj:=(B3.1 f).1;have af:b<c.post.length:=by omega
     obtain ⟨y,hy⟩:=Nr R (b-c.pre.length) (by simp;omega)
     rw [SX,show c.pre.length+(b-c.pre.length)=b by omega] at hy
     obtain ⟨d',z,_,a1,a2,_,_⟩:=l2 b y hy;rw [f] at a1;cases a1;refine .inr ⟨s,af,.inr ⟨d,e,q,?_,rfl⟩⟩;rcases g.live d (by rw [a2];exact A3 _) with r|⟨r,_⟩
     ·exact r
     ·have:c.pre.length≤d:=r;omega
   ·have ag:c.pre.length≤b:=by
     rcases F8 b c.pre.length with s|s
     ·rw [i b s] at f;cases f;have:c.pre.length≤b:=a1;omega
     ·exact s
    have J:=(B3.1 f).1;exact .inr ⟨ag,by show b<c.post.length;omega,a3⟩
 ·have ah:c.pre.length≤b:=by
   rcases F8 b c.pre.length with q|q
   ·exact absurd (List.mem_range.2 q) n
   ·exact q
  have L:c.post.length≤b:=by
   rcases X with q|q
   ·have:b<c.pre.length:=q;omega
   ·exact q
  show (Bl c.post).get b=(Bl c.pre).get b;rw [CQ,CQ,E4 L,E4 ah]
 ·have t:(Bl c.post).get b≠none:=n;rw [CQ] at t;cases u:c.post[b]? with
  |none=>rw [u] at t;exact absurd rfl t
  |some ox=>
   cases ox with
   |none=>rw [u] at t;exact absurd rfl t
   |some y=>
    obtain ⟨d,z,_,a1,a2,_,_⟩:=l2 b y u;rcases F8 b c.pre.length with q|q
    ·rw [i b q] at a1;cases a1;rcases g.live b (by rw [a2];exact A3 _) with r|⟨r,_⟩
     ·exact .inl r
     ·have:c.pre.length≤b:=r;omega
    ·exact .inr ⟨q,(B3.1 u).1⟩
end
structure VC.Holds (G:Nat→D→D) (Pre:Nat→Val→Prop) (μ:Nat→Val→Nat) (i:Nat) (V:Val) (vc:VC):Prop where
 obs:vc.obs.holds V
 rec_:∀j θ td,vc.rec_=some (j,θ,td)→Pre j (V.inst θ)∧μ j (V.inst θ)<μ i V
theorem Kc (l:List (Option Aj)) (n:List Nat):WF {blk:=Bl l,nx:=l.length,log:=n}:=by
 intro b a;show (Bl l).get b=none;rw [CQ,E4 a];rfl
def Cut.sm (c:Cut) (args:List AV):Sm:={f:=c.fn,nv:=c.nv,args,pre:=c.pre,facts:=c.facts,res:=c.res,post:=c.post}
def Fr (E:Env) (f:FuncId) (args:List AV):AF:=match BT E f args .normal with
 |some fr=>fr
 |none=>default
def Ng (E:Env) (f:FuncId) (nv:Nat) (args:List AV) (pre:List (Option Aj)) (facts:List (SB×Bool)) (res:AV) (post:List (Option Aj)):Cut:=
 {key:=none,fn:=f,nt:=(Fr E f args).nt,nv,todo:=(Fr E f args).todo,tmps:=(Fr E f args).tmps,pre,facts,res,post}
theorem sm_ok {E:Env} {G:Nat→D→D} (hE:∀[U:Unk],U.K=(Env.of E.P).kinds→OK E) {f nv:Nat} {args:List AV} {pre:List (Option Aj)} {facts:List (SB×Bool)} {res:AV} {post:List (Option Aj)} (l:(BT E f args .normal).isSome=true)
  (h:∀V:Val,V.fn=G→Ca V facts→(Ng E f nv args pre facts res post).At E.P G V):Sm.Valid E.P G {f,nv,args,pre,facts,res,post}:=by
 intro U hK m a n w g o p i c0 d;cases b:BT E f args .normal with
 |none=>rw [b] at l;cases l
 |some fr=>
  have j:=Ec (hE hK) b o
  have e:(Ng E f nv args pre facts res post).fr=fr:=by
   unfold BT at b;split at b
   ·rename_i fn k;split at b
    ·rename_i c q;cases b;simp [Cut.fr,Ng,Fr,BT,k,q,Ke]
    ·cases b
   ·cases b
  exact h U.V m a U.toVals rfl hK m a n _ w (by rw [e];exact j) p i c0 d
inductive Tr (α:Type) where
 |leaf (a:α)
 |split (e:SB) (t f:Tr α)
 deriving Inhabited
inductive Lf where
 |cut (s:AS)
 |done (v:AV) (h:Aa)
 |stuck
 deriving Inhabited
def Lf.Good [v:Vals] (P:Program) (f0:FuncId) (ρ:Ren) (s:AS) (c:Frame) (C:List Frame) (w:World) (base:List Frame) (F:List (SB×Bool)):Lf→Prop
 |.cut J=>Ca v.V F∧J.cs=[]∧∃r c' j,Steps P (lone c (C++base) w) (lone c' base j)∧SR r J c' [] j∧Ext ρ r s.h J.h w j
 |.done x h=>Ca v.V F∧∃r I v' w1 j,Steps P (lone c (C++base) w) (lone I base w1)∧I.fn=f0∧I.roundOf=none∧Qk P I w1 true v' j∧VR r x v'∧HR r h.blk.get j∧Ext ρ r s.h h w j
 |.stuck=>Ca v.V F
theorem Lf.Good.pre [v:Vals] {P:Program} {f0:FuncId} {ρ σ:Ren} {s s':AS} {c c':Frame} {r j:List Frame} {w C:World} {base:List Frame} {F:List (SB×Bool)} {l:Lf} (hs:Steps P (lone c (r++base) w) (lone c' (j++base) C)) (he:Ext ρ σ s.h s'.h w C) (hf:Bz ρ s.h.nx)
  (h:l.Good P f0 σ s' c' j C base F):l.Good P f0 ρ s c r w base F:=by
 cases l with
 |cut s2=>
  obtain ⟨h1,h2,I,c2,w2,J,q2,q3⟩:=h;exact ⟨h1,h2,I,c2,w2,Steps.trans hs J,q2,he.trans q3 (fun b hb _=>hf b hb)⟩
 |done x h2=>
  obtain ⟨h1,I,cf,v',w1,w2,J,q2,q3,q4,q5,q6,q7⟩:=h;exact ⟨h1,I,cf,v',w1,w2,Steps.trans hs J,q2,q3,q4,q5,q6,he.trans q7 (fun b hb _=>hf b hb)⟩
 |stuck=>exact h
def RU (e:SB):Option (Tr Lf)→Option (Tr Lf)→Option (Tr Lf)
 |some a,some b=>some (.split e a b)
 |_,_=>none
def Tr.way {j:Type} (V:Val):Tr j→List (SB×Bool)→j×List (SB×Bool)
 |.leaf a,F=>(a,F)
 |.split e t f,F=>match Ah V e with
  |true=>t.way V ((e,true)::F)
  |false=>f.way V ((e,false)::F)
def Tr.get {j:Type} (V:Val):Tr j→j
 |.leaf a=>a
 |.split e t f=>match Ah V e with
  |true=>t.get V
  |false=>f.get V
def iz (a:List Nat) (s:AS):Bool:=
 match s.cs,s.fr.mode,s.fr.todo with
 |[],.run,.code (.region id _ _)::_=>NQ (id+1000000) a
 |_,_,_=>false
def CO (E:Env) (a:List Nat) (b:FuncId):Nat→List (SB×Bool)→AS→Option (Tr Lf)
 |0,_,_=>none
 |n+1,F,s=>
  let part (_:Unit):Option (Tr Lf):=match @Vx ⟨F⟩ E n s with
   |some e=>match AW F e with
    |none=>RU e (CO E a b n ((e,true)::F) s) (CO E a b n ((e,false)::F) s)
    |some _=>some (.leaf .stuck)
   |none=>some (.leaf .stuck)
  match @Yj ⟨F⟩ E s with
  |some d=>CO E a b n F d
  |none=>match @bx ⟨F⟩ E s with
  |.ask e=>RU e (CO E a b n ((e,true)::F) s) (CO E a b n ((e,false)::F) s)
  |.no=>some (.leaf .stuck)
  |.free=>match @HD ⟨F⟩ E s with
   |.next d=>match ij a s with
    |true=>some (.leaf (.cut d))
    |false=>match iz a d with
     |true=>some (.leaf (.cut d))
     |false=>CO E a b n F d
   |.done ok v h=>match ok&&s.fr.round.isNone&&Nat.beq s.fr.fn b with
    |true=>some (.leaf (.done v h))
    |false=>some (.leaf .stuck)
   |.draw c ops k=>match @DJ ⟨F⟩ E (@OQ ⟨F⟩ E n) ops c.fr.nt ops.toList [] c.fr.tmps c.h with
    |some (none,tmps,h)=>CO E a b n F {c with fr:={c.fr with tmps,todo:=k},h}
    |some (some v,tmps,h)=>CO E a b n F {c with fr:={c.fr with tmps,todo:=.dead::k,mode:=.panic [(v,false)]},h}
    |none=>part ()
   |.bad _=>part ()
theorem dh {E:Env} {l:List Nat} {T:FuncId} {G:Nat→D→D} (hE:∀[U:Unk],U.K=(Env.of E.P).kinds→OK E) (hO:Ad E G) [v:Vals] (hK:v.K=(Env.of E.P).kinds) (hG:v.V.fn=G) (base:List Frame) :
  ∀(n:Nat) (F:List (SB×Bool)) (s:AS) (t:Tr Lf),CO E l T n F s=some t→Ca v.V F→∀(B:Ren) (c:Frame) (f:List Frame) (w:World),SR B s c f w→WF s.h→Bz B s.h.nx→(t.way v.V F).1.Good E.P T B s c f w base (t.way v.V F).2:=by
 subst hG;intro n
 induction n with
 |zero=>intro F s t h;cases h
 |succ n ih=>
  intro F s t j g B c f w o z C;have u:@OK (Bt v F g) E:=hE (U:=Bt v F g) hK;have W:∀m,Bs B s.h.nx m:=fun m b hb _=>C b hb
  simp only [CO] at j
  generalize i:(match @Vx ⟨F⟩ E n s with
   |some e=>match AW F e with
    |none=>RU e (CO E l T n ((e,true)::F) s) (CO E l T n ((e,false)::F) s)
    |some _=>some (.leaf .stuck)
   |none=>some (.leaf .stuck))=pt at j
  have H:∀e,RU e (CO E l T n ((e,true)::F) s) (CO E l T n ((e,false)::F) s)=some t→(t.way v.V F).1.Good E.P T B s c f w base (t.way v.V F).2:=by
   intro e Y;unfold RU at Y;split at Y
   ·rename_i a b ha hb;cases Y;simp only [Tr.way];cases he:Ah v.V e with
    |true=>
     exact ih _ _ _ ha (fun e' b' Z=>by
      rcases F5.1 Z with q|q
      ·cases q;exact he
      ·exact g e' b' q) B c f w o z C
    |false=>
     exact ih _ _ _ hb (fun e' b' Z=>by
      rcases F5.1 Z with q|q
      ·cases q;exact he
      ·exact g e' b' q) B c f w o z C
   ·cases Y
  have aa:pt=some t→(t.way v.V F).1.Good E.P T B s c f w base (t.way v.V F).2:=by
   intro Y;subst Y;split at i
   ·rename_i e _;split at i
    ·exact H e i
    ·cases i;exact g
   ·cases i;exact g
  have go:∀(I:AS) (y:Ren) (X:Frame) (d:List Frame) (w1:World),Steps E.P (lone c (f++base) w) (lone X (d++base) w1)→SR y I X d w1→Ext B y s.h I.h w w1→CO E l T n F I=some t→(t.way v.V F).1.Good E.P T B s c f w base (t.way v.V F).2:=by
   intro I y X d w1 h1 h2 h3 h4;exact (ih F I t h4 g y X d w1 h2 (Ext.wf (U:=Bt v F g) h3 z) (C.ext h3)).pre h1 h3 C
  split at j
  ·rename_i I ab;obtain ⟨y,J,d,L,M,A,N⟩:=Wv (U:=Bt v F g) u hO o z ab (W _) base;exact go I y J d L M A N j
  split at j
  ·exact H _ j
  ·cases j;exact g
  ·split at j
   ·rename_i I p;obtain ⟨y,J,d,L,M,A,N⟩:=RG (U:=Bt v F g) (base:=base) u o p (W _);split at j
    ·rename_i O;cases j
     have Q:I.cs=[]:=by
      unfold ij at O;split at O
      ·rename_i e1 e2 e3;simp only [HD,e2,e3] at p;cases p;exact e1
      ·rename_i e1 e2 e3;simp only [HD,e2,e3] at p;cases p;exact e1
      ·cases O
     have R:d=[]:=by
      have:=A.cs;rw [Q] at this;cases this;rfl
     subst R;exact ⟨g,Q,y,J,L,Steps.one M,A,N⟩
    ·split at j
     ·rename_i S;cases j
      have Q:I.cs=[]:=by
       unfold iz at S;split at S
       ·assumption
       ·cases S
      have R:d=[]:=by
       have:=A.cs;rw [Q] at this;cases this;rfl
      subst R;exact ⟨g,Q,y,J,L,Steps.one M,A,N⟩
     ·exact go I y J d L (Steps.one M) A N j
   ·rename_i ad v' h' p;split at j
    ·rename_i hb;cases j;obtain ⟨rfl,x,L,M,A,N,q4⟩:=Nu (U:=Bt v F g) u o p;obtain ⟨b0,b3⟩:=AC (U:=Bt v F g) hb;obtain ⟨b1,b2⟩:=AC (U:=Bt v F g) b0;subst b1;have r:=o.fr.round;rw [Option.isNone_iff_eq_none] at b2;rw [b2] at r
     have ac:c.roundOf=none:=by
      cases hz:c.roundOf with
      |none=>rfl
      |some=>rw [hz] at r;exact r.elim
     exact ⟨g,B,c,x,w,L,Steps.refl _ _,o.fr.fn.trans (AK b3),ac,q4,M,A,N⟩
    ·cases j;exact g
   ·rename_i s2 ops k p;obtain ⟨rfl,Z,id,ht⟩:=Iy (U:=Bt v F g) p;split at j
    ·rename_i tmps h1 hd;obtain ⟨y,X,L,M,A,N⟩:=LN (U:=Bt v F g) u (QP (U:=Bt v F g) u hO n) o z Z ht hd (W _) base;exact go _ y X f L M A N j
    ·rename_i tmps h1 hd;obtain ⟨y,X,L,M,A,N⟩:=LN (U:=Bt v F g) u (QP (U:=Bt v F g) u hO n) o z Z ht hd (W _) base;exact go _ y X f L M A N j
    ·exact aa j
   ·exact aa j
def SE.fits (n m:Nat):SE→Bool
 |.c _=>true
 |.var i=>Nat.blt i n
 |.lenS a=>a.fits n m
 |.lenL a=>a.fits n m
 |.arith _ _ a b=>a.fits n m&&b.fits n m
 |.conv _ a=>a.fits n m
 |.lss a b=>a.fits n m&&b.fits n m
 |.eql a b=>a.fits n m&&b.fits n m
 |.eqS a _ _=>a.fits n m
 |.eqSS a b=>a.fits n m&&b.fits n m
 |.isNil a=>a.fits n m
 |.bc _=>true
 |.neg a=>a.fits n m
 |.and a b=>a.fits n m&&b.fits n m
 |.nilIs a b=>a.fits n m&&b.fits n m
 |.strc _ _=>true
 |.strAt a b=>a.fits n m&&b.fits n m
 |.strCat a b=>a.fits n m&&b.fits n m
 |.strSub a b x=>a.fits n m&&b.fits n m&&x.fits n m
 |.cell a i _=>a.fits n m&&i.fits n m
 |.sel a _=>a.fits n m
 |.nilL=>true
 |.emptyL=>true
 |.snoc a r=>a.fits n m&&r.fits n m
 |.upd a i _ x=>a.fits n m&&i.fits n m&&x.fits n m
 |.rep a b=>a.fits n m&&b.fits n m
 |.cat a b=>a.fits n m&&b.fits n m
 |.sub a b x=>a.fits n m&&b.fits n m&&x.fits n m
 |.rnil=>true
 |.rcons a b=>a.fits n m&&b.fits n m
 |.app f a=>Nat.blt f m&&a.fits n m
 |.bytes a=>a.fits n m
 |.ofBytes a=>a.fits n m
 |.mIdx _ a k=>a.fits n m&&k.fits n m
 |.rmv a i=>a.fits n m&&i.fits n m
structure Val.Alike (n m:Nat) (V W:Val):Prop where
 d:∀i,i<n→V.d i=W.d i
 fn:∀i,i<m→V.fn i=W.fn i
theorem SE.fits_ok {n m:Nat} {V W:Val} (h:V.Alike n m W):∀e:SE,e.fits n m=true→Ab V e=Ab W e:=by
 intro e
 induction e<;>intro j<;>(try simp only [SE.fits,B1] at j)<;>simp only [Ab]
 case var i=>exact h.d i (by simpa [Nat.blt_eq] using j)
 case app f x r=>rw [r j.2,h.fn f (by simpa [Nat.blt_eq] using j.1)]
 all_goals simp_all only [forall_const]
def xM (g:Nat) (st:SE):SE→Bool
 |.app b a=>Nat.beq g b&&st.same a
 |_=>false
def Bq (g:Nat) (st:SE) (f:Nat→SE):SE→SE
 |.sel a j=>match xM g st a with
  |true=>f j
  |false=>.sel (Bq g st f a) j
 |.c n=>.c n
 |.var i=>.var i
 |.lenS a=>.lenS (Bq g st f a)
 |.lenL a=>.lenL (Bq g st f a)
 |.arith d k a b=>.arith d k (Bq g st f a) (Bq g st f b)
 |.conv k a=>.conv k (Bq g st f a)
 |.lss a b=>.lss (Bq g st f a) (Bq g st f b)
 |.eql a b=>.eql (Bq g st f a) (Bq g st f b)
 |.eqS a l b=>.eqS (Bq g st f a) l b
 |.eqSS a b=>.eqSS (Bq g st f a) (Bq g st f b)
 |.isNil a=>.isNil (Bq g st f a)
 |.bc b=>.bc b
 |.neg a=>.neg (Bq g st f a)
 |.and a b=>.and (Bq g st f a) (Bq g st f b)
 |.nilIs a b=>.nilIs (Bq g st f a) (Bq g st f b)
 |.strc l b=>.strc l b
 |.strAt a i=>.strAt (Bq g st f a) (Bq g st f i)
 |.strCat a b=>.strCat (Bq g st f a) (Bq g st f b)
 |.strSub a lo hi=>.strSub (Bq g st f a) (Bq g st f lo) (Bq g st f hi)
 |.cell a i j=>.cell (Bq g st f a) (Bq g st f i) j
 |.nilL=>.nilL
 |.emptyL=>.emptyL
 |.snoc a r=>.snoc (Bq g st f a) (Bq g st f r)
 |.upd a i j x=>.upd (Bq g st f a) (Bq g st f i) j (Bq g st f x)
 |.rep n r=>.rep (Bq g st f n) (Bq g st f r)
 |.cat a b=>.cat (Bq g st f a) (Bq g st f b)
 |.sub a lo hi=>.sub (Bq g st f a) (Bq g st f lo) (Bq g st f hi)
 |.rnil=>.rnil
 |.rcons x r=>.rcons (Bq g st f x) (Bq g st f r)
 |.app h x=>.app h (Bq g st f x)
 |.bytes a=>.bytes (Bq g st f a)
 |.ofBytes a=>.ofBytes (Bq g st f a)
 |.mIdx e a k=>.mIdx e (Bq g st f a) (Bq g st f k)
 |.rmv a i=>.rmv (Bq g st f a) (Bq g st f i)
theorem VO {V:Val} {g:Nat} {st:SE} {f:Nat→SE} (b:∀j,Ab V (f j)=Ab V (.sel (.app g st) j)):∀e:SE,Ab V (Bq g st f e)=Ab V e:=by
 intro e
 induction e
 case sel a j c=>
  simp only [Bq];split
  ·rename_i h;rw [b];cases a<;>simp only [xM,E2,B1] at h
   rw [AK h.1,SE.same_ok (U:=Bm) h.2]
  ·simp only [Ab,c]
 all_goals simp_all only [Bq,Ab]
def FW (step:D→Option (D ⊕ D)):Nat→D→Option D
 |0,_=>none
 |n+1,d=>match step d with
  |none=>none
  |some (.inr r)=>some r
  |some (.inl a)=>FW step n a
theorem OG {step:D→Option (D ⊕ D)}:∀{n m:Nat} {d r s:D},FW step n d=some r→FW step m d=some s→r=s
 |0,_,_,_,_,h,_=>by cases h
 |_+1,0,_,_,_,_,h=>by cases h
 |n+1,m+1,d,r,s,h,k=>by
  simp only [FW] at h k;split at h
  ·cases h
  ·rename_i x a;rw [a] at k;cases h;cases k;rfl
  ·rename_i b a;rw [a] at k;exact OG h k
class Ai where
 f:(D→Option (D ⊕ D))→D→D
 run:∀{step:D→Option (D ⊕ D)} {n:Nat} {d r:D},FW step n d=some r→f step d=r
 or:∀(step:D→Option (D ⊕ D)) (d:D),f step d=.row []∨∃n,FW step n d=some (f step d)
theorem bQ:Nonempty Ai:=by
 classical
 have key:∀(step:D→Option (D ⊕ D)) (d:D),∃r,(∀n s,FW step n d=some s→r=s)∧(r=.row []∨∃n,FW step n d=some r):=by
  intro step d;by_cases h:∃r n,FW step n d=some r
  ·obtain ⟨r,n,a⟩:=h;exact ⟨r,fun m s hs=>OG a hs,.inr ⟨n,a⟩⟩
  ·exact ⟨.row [],fun m s hs=>absurd ⟨s,m,hs⟩ h,.inl rfl⟩
 exact ⟨⟨fun step d=>Classical.choose (key step d),fun {step n d r} h=>(Classical.choose_spec (key step d)).1 n r h,fun step d=>(Classical.choose_spec (key step d)).2⟩⟩
section
variable [Ai]
def CN (step:D→Option (D ⊕ D)) (d:D):D:=Ai.f step d
theorem Fd {step:D→Option (D ⊕ D)} {n:Nat} {d r:D} (h:FW step n d=some r):CN step d=r:=Ai.run h
theorem FH (step:D→Option (D ⊕ D)) (d:D):CN step d=.row []∨∃n,FW step n d=some (CN step d):=Ai.or step d
theorem QQ {step:D→Option (D ⊕ D)} {d r:D} (h:step d=some (.inr r)):CN step d=r:=Fd (n:=1) (by simp [FW,h])
theorem RH {step:D→Option (D ⊕ D)} {d a:D} (h:step d=some (.inl a)):CN step d=CN step a:=by
 rcases FH step a with q|⟨n,hn⟩
 ·rcases FH step d with c|⟨m,b⟩
  ·rw [q,c]
  ·cases m with
   |zero=>cases b
   |succ m=>
    simp only [FW,h] at b;exact (Fd b).symm
 ·exact Fd (n:=n+1) (by simp only [FW,h];exact hn)
end
structure Pt where
 key:Option Nat
 nt:Nat
 nv:Nat
 todo:List AI
 tmps:T AV
 pre:List (Option Aj)
 facts:List (SB×Bool)
 defs:List Nat:=[]
 deriving Inhabited
structure Sh where
 m:Nat
 res:AV
 post:List (Option Aj)
 keep:List Nat
 keepC:List (Nat×List Nat):=[]
 deriving Inhabited
structure Dec where
 g:Nat
 f:FuncId
 p:Nat
 pts:List Pt
 shs:List Sh
 deriving Inhabited
inductive Plf where
 |stuck
 |done (s:Nat) (parts:List SE)
 |next (j:Nat) (θ:List SE)
 deriving Inhabited
def dG:List SE→SE
 |[]=>.rnil
 |x::r=>.rcons x (dG r)
def stE (i:Nat) (a:List SE):SE:=.rcons (.c i) (dG a)
def DA:Nat→Nat→List SE
 |_,0=>[]
 |i,n+1=>.var i::DA (i+1) n
def QA (g j:Nat) (a:List SE) (s:Nat):SE:=.eql (.sel (.app g (stE j a)) 0) (.c (s+1:Nat))
theorem O4 (V:Val):∀l:List SE,Ab V (dG l)=.row (l.map (Ab V))
 |[]=>rfl
 |x::r=>by simp only [dG,Ab,O4 V r,D.cells,i6]
theorem Jz (V:Val) (i:Nat) (l:List SE):Ab V (stE i l)=.row (.int i::l.map (Ab V)):=by
 simp only [stE,Ab,O4,D.cells]
theorem Gy (V:Val):∀(n i:Nat),(DA i n).map (Ab V)=(List.range n).map fun j=>V.d (i+j)
 |0,i=>rfl
 |n+1,i=>by
  simp only [DA,i6,Gy V n (i+1),List.range_succ_eq_map,List.map_map];refine congr (congrArg _ ?_) ?_
  ·simp [Ab]
  ·apply List.map_congr_left;intro j _;show V.d (i+1+j)=V.d (i+(j+1));congr 1;omega
def mV (g:Nat) (st:SE):Nat→Nat→List SE
 |_,0=>[]
 |j,n+1=>.sel (.app g st) j::mV g st (j+1) n
def Te:Nat→Nat→List Nat
 |_,0=>[]
 |i,n+1=>i::Te (i+1) n
def gZ [Facts] (a:List SE) (b:List Nat):Option Aj→Option Aj
 |some x=>x.inst a b
 |none=>none
def cellsOf (i:Nat):List (Nat×List Nat)→List Nat
 |[]=>[]
 | (j,l)::r=>match Nat.beq i j with
  |true=>l
  |false=>cellsOf i r
def ZN (c:T AV):List Nat→T AV→T AV
 |[],t=>t
 |j::r,t=>match c.get j with
  |some a=>ZN c r (t.set j a)
  |none=>ZN c r t
def yI (l:List Nat) (y:Aj) (x:Option Aj):Option Aj:=match l with
 |[]=>x
 |_=>match x,y with
  |some (.cells n c),.cells _ d=>some (.cells n (ZN d l c))
  |x,_=>x
def Qw [Facts] (a:List SE) (b:List Nat) (keep:List Nat) (keepC:List (Nat×List Nat)):Nat→Nat→List (Option Aj)→List (Option Aj)→List (Option Aj)
 |_,0,_,_=>[]
 |i,n+1,x::c,y::d=>(match y with
  |some y=>(match NQ i keep with
   |true=>some y
   |false=>yI (cellsOf i keepC) y (gZ a b x))
  |none=>none)::Qw a b keep keepC (i+1) n c d
 |i,n+1,_,_=>none::Qw a b keep keepC (i+1) n [] []
@[reducible] def PT:Facts:=⟨[]⟩
def Cz (d:Dec) (i:Nat) (a:Pt) (s:Nat) (b:Sh):Cut:=
 let c:=mV d.g (stE i (DA 0 a.nv)) 1 b.m
 let e:=Te 0 d.p++Te a.pre.length (b.post.length-d.p)
 {key:=a.key,fn:=d.f,nt:=a.nt,nv:=a.nv,todo:=a.todo,tmps:=a.tmps,pre:=a.pre,facts:=a.facts++[(QA d.g i (DA 0 a.nv) s,true)],
  res:=@AV.inst PT c e b.res,post:=@Qw PT c e b.keep b.keepC 0 d.p b.post a.pre++List.replicate (a.pre.length-d.p) none++(b.post.drop d.p).map (@gZ PT c e),ent:=d.p,defs:=a.defs}
def Tq:SE→SE
 |.and x (.bc true)=>x
 |x=>x
theorem XO (V:Val) (x:SE):Ah V (Tq x)=Ah V x:=by
 unfold Tq;split
 ·rename_i x;show Ah V x=((Ah V x)&&true);rw [g6]
 ·rfl
def UV (F:List (SB×Bool)) (g:Nat) (st:SE) (f:Nat→SE) (a:SE) (p:SE×SE):Bool:=
 match ((Bq g st f p.1).norm).same ((Bq g st f p.2).norm) with
 |true=>true
 |false=>match p.2.norm with
  |.bc c=>p.1.isB&&(match AW F (Tq p.1) with
   |some d=>d==c
   |none=>c&&p.1.norm.same a.norm)
  |_=>false
def G3 (F:List (SB×Bool)) (g:Nat) (st:SE) (f:Nat→SE) (a:SE):Obs→Bool
 |[]=>true
 |p::r=>match UV F g st f a p with
  |true=>G3 F g st f a r
  |false=>false
def jT [Facts] (E:Env) (p a:AV) (h:Aa):AV×Aa:=
 match p,a with
 |.tuple c,.tuple d=>match RC E c d h with
  | (b,e)=>(.tuple b,e)
 |p,a=>QU E p a h
theorem cP {U:Unk} {E:Env} (hE:OK E) {w:World} {p a f:AV} {v:Value} {d:Ren} {h h':Aa} (g:HR d h.blk.get w) (i:VR d a v) (b:jT E p a h=(f,h')) :
  h'.nx=h.nx∧∃c:Ren,VR c f v∧HR c h'.blk.get w∧Ext d c h h' w w:=by
 unfold jT at b;split at b
 ·rename_i q r;split at b;rename_i e s k;cases b;cases i with
  |tuple _ l e1 m=>
   obtain ⟨hn,c,j,n,o⟩:=Qs hE g ⟨e1,m⟩ k;exact ⟨hn,c,.tuple e l j.1 j.2,n,o⟩
 ·exact Ry hE g i b
def LJ [Facts] (E:Env) (c:Cut) (v:AV) (h:Aa):AV×Aa:=match jT E c.res v h with
 | (v,h)=>(v,Ex E c.post 0 (H8 E c.post h (He c.res v ⟨.nil,idT c.pre.length .nil⟩)).b h)
theorem TU {U:Unk} {E:Env} (hE:OK E) {w:World} {c:Cut} {a e:AV} {v:Value} {f:Ren} {h h':Aa} (j:HR f h.blk.get w) (k:VR f a v) (g:LJ E c a h=(e,h')) :
  h'.nx=h.nx∧∃d:Ren,VR d e v∧HR d h'.blk.get w∧Ext f d h h' w w:=by
 unfold LJ at g;split at g;rename_i x i l;cases g;obtain ⟨n1,d,m,n,o⟩:=cP hE j k l;obtain ⟨n2,p,r1,r2⟩:=Ce hE c.post 0 (H8 E c.post i (He c.res e ⟨.nil,idT c.pre.length .nil⟩)).b i d n;exact ⟨by omega,p,m.mono r2.le,r1,o.trans r2 (fun b r q=>by omega)⟩
def LK [Facts] (E:Env) (c:Cut) (s:AS):AS:={s with h:=Ex E c.pre 0 (H8 E c.pre s.h (SF c s)).b s.h}
def Wg:List SE→List SE→Bool
 |[],[]=>true
 |a::l,b::m=>a.norm.same b.norm&&Wg l m
 |_,_=>false
def mH (s:Nat) (cs:List SE):Nat→SE
 |0=>.c (s+1:Nat)
 |k+1=>cs.getD k (.bc false)
def ur (g j:Nat) (a:List SE) (k:Nat):SE:=.sel (.app g (stE j a)) k
def Qj (E:Env) (d:Dec) (i:Nat) (a:Pt) (F:List (SB×Bool)) (l:Lf) (m:Plf) (s:Nat) (b:Sh):Bool:=
 match m,l with
 |.stuck,_=>true
 |.done n cs,.done v h=>match Nat.beq n s with
  |false=>true
  |true=>match @LJ ⟨F⟩ E (Cz d i a s b) v h with
   | (v,h)=>match @Vk ⟨F⟩ E (Cz d i a s b) v h with
    |some o=>G3 F d.g (stE i (DA 0 a.nv)) (mH s cs) (.c 0) o
    |none=>false
 |.next j e,.cut s0=>match d.pts[j]? with
  |some k=>match @ZO ⟨F⟩ E (Cz d j k s b) (@LK ⟨F⟩ E (Cz d j k s b) s0) with
   |some (f,x,h',o1)=>match Wg f e,@Vk ⟨F⟩ E (Cz d i a s b) x h' with
    |true,some o2=>G3 F d.g (stE i (DA 0 a.nv)) (ur d.g j e) (QA d.g j e s) (o1++o2)
    |_,_=>false
   |none=>false
  |none=>false
 |_,_=>false
def FG (E:Env) (d:Dec) (i:Nat) (a:Pt) (F:List (SB×Bool)) (l:Lf) (b:Plf):Nat→List Sh→Bool
 |_,[]=>true
 |s,c::r=>match Qj E d i a F l b s c with
  |true=>FG E d i a F l b (s+1) r
  |false=>false
def IO (n m:Nat):List SE→Bool
 |[]=>true
 |a::l=>a.fits n m&&IO n m l
def Plf.fits (n m:Nat):Plf→Bool
 |.stuck=>true
 |.done _ cs=>IO n m cs
 |.next _ j=>IO n m j
def Eg (E:Env) (d:Dec) (i:Nat) (c:Pt):List (SB×Bool)→Tr Lf→Tr Plf→Option (List (Nat×List AI))
 |_,_,.leaf .stuck=>some []
 |F,.leaf l,.leaf f=>match FG E d i c F l f 0 d.shs&&f.fits c.nv d.g with
  |true=>some (match f,l with
   |.next j _,.cut s0=>[(j,s0.fr.todo)]
   |_,_=>[])
  |false=>none
 |F,.split e a b,.split h k m=>match e.same h&&e.fits c.nv d.g with
  |true=>match Eg E d i c ((e,true)::F) a k,Eg E d i c ((e,false)::F) b m with
   |some x,some y=>some (x++y)
   |_,_=>none
  |false=>none
 |_,_,_=>none
def Pt.st (j:Pt) (d:Dec):AS:={fr:={fn:=d.f,nt:=j.nt,tmps:=j.tmps,todo:=j.todo,defers:=Ke j.defs,mode:=.run,kind:=.normal,round:=none},cs:=[],h:={blk:=Bl j.pre,nx:=j.pre.length,log:=[]}}
def Ag (E:Env) (a:List Nat) (N:Nat) (d:Dec) (T:List (Tr Plf)) (i:Nat):Option (List (Nat×List AI)):=
 match d.pts[i]?,T[i]? with
 |some b,some t=>match CO E a d.f N b.facts (b.st d) with
  |some r=>Eg E d i b b.facts r t
  |none=>none
 |_,_=>none
def stD (i nv:Nat) (V:Val):D:=.row (.int i::(List.range nv).map V.d)
def DD (G:Nat→D→D) (a:List D):Val:=⟨fun j=>a.getD j default,G⟩
def D5 (V:Val):Plf→Option (D ⊕ D)
 |.stuck=>none
 |.done s cs=>some (.inr (.row (.int (s+1:Nat)::cs.map (Ab V))))
 |.next j a=>some (.inl (.row (.int j::a.map (Ab V))))
def Dt (T:List (Tr Plf)) (G:Nat→D→D):D→Option (D ⊕ D)
 |.row (.int (.ofNat i)::a)=>match T[i]? with
  |some t=>D5 (DD G a) (t.get (DD G a))
  |none=>none
 |_=>none
theorem SS (V:Val):∀{a b:List SE},Wg a b=true→a.map (Ab V)=b.map (Ab V)
 |[],[],_=>rfl
 |x::a,y::b,h=>by
  simp only [Wg,B1] at h;have:=congrArg (Ab V) (SE.same_ok (U:=Bm) h.1);rw [C3,C3] at this;simp only [i6,this,SS V h.2]
 |[],_::_,h=>by cases h
 |_::_,[],h=>by cases h
theorem EI {n m:Nat} {V W:Val} (h:V.Alike n m W):∀{l:List SE},IO n m l=true→l.map (Ab V)=l.map (Ab W)
 |[],_=>rfl
 |a::l,b=>by
  simp only [IO,B1] at b;simp only [i6,SE.fits_ok h a b.1,EI h b.2]
theorem Xe {F:List (SB×Bool)} {g:Nat} {st:SE} {f:Nat→SE} {b:SE} {V:Val} (l:Ca V F) (i:∀j,Ab V (f j)=Ab V (.sel (.app g st) j)) (e:b=.c 0∨Ab V b=.bool true) {p:SE×SE} (h:UV F g st f b p=true):Ab V p.1=Ab V p.2:=by
 unfold UV at h;split at h
 ·rename_i hs;have:=SE.same_ok (U:=Bm) hs;have q:=congrArg (Ab V) this
  rwa [C3,C3,VO i,VO i] at q
 ·split at h
  ·rename_i c m;simp only [B1] at h;obtain ⟨n,h⟩:=h;have e1:=PH V n;have k:=C3 V p.2;rw [m] at k;rw [←k,e1];show D.bool _=D.bool c
   congr 1
   split at h
   ·rename_i d o;have:=AA (U:=Bm) (V:=V) l o;rw [XO] at this;have a:=eq_of_beq h;subst a;exact this
   ·simp only [B1] at h;have a:=congrArg (Ab V) (SE.same_ok (U:=Bm) h.2);rw [C3,C3] at a;have r:c=true:=h.1;subst r;rcases e with q|q
    ·rw [q,e1] at a;cases a
    ·rw [a,q];rfl
  ·cases h
theorem Hv {F:List (SB×Bool)} {g:Nat} {st:SE} {f:Nat→SE} {e:SE} {V:Val} (k:Ca V F) (l:∀j,Ab V (f j)=Ab V (.sel (.app g st) j)) (d:e=.c 0∨Ab V e=.bool true):∀{o:Obs},G3 F g st f e o=true→o.holds V
 |[],_=>fun a b i=>by cases i
 |p::r,h=>by
  simp only [G3] at h;split at h
  ·rename_i hp;intro a b i;rcases F5.1 i with q|q
   ·have:=Xe k l d hp;rw [←q] at this;exact this
   ·exact Hv k l d h a b q
  ·cases h
theorem UP {E:Env} {d:Dec} {i:Nat} {n:Pt} {V W:Val} (u:V.Alike n.nv d.g W):∀{r:Tr Lf} {t:Tr Plf} {F:List (SB×Bool)} {o:List (Nat×List AI)},Eg E d i n F r t=some o→
  t.get W=.stuck∨(FG E d i n (r.way V F).2 (r.way V F).1 (t.get W) 0 d.shs=true∧(t.get W).fits n.nv d.g=true∧∀j f s0,t.get W=.next j f→(r.way V F).1=.cut s0→(j,s0.fr.todo)∈o):=by
 intro r t
 induction t generalizing r with
 |leaf A=>
  intro F o h;cases A with
  |stuck=>exact .inl rfl
  |done s cs=>
   right;cases r with
   |split=>simp [Eg] at h
   |leaf l=>
    simp only [Eg] at h;split at h
    ·rename_i c;simp only [B1] at c;exact ⟨c.1,c.2,fun j f s0 q=>by cases q⟩
    ·cases h
  |next j f=>
   right;cases r with
   |split=>simp [Eg] at h
   |leaf l=>
    simp only [Eg] at h;split at h
    ·rename_i c;simp only [B1] at c;refine ⟨c.1,c.2,fun I B s0 m k=>?_⟩
     cases m;simp only [Tr.way] at k;subst k;cases h;simp
    ·cases h
 |split e a b v w=>
  intro F o h;cases r with
  |leaf l=>cases l<;>simp [Eg] at h
  |split p J K=>
   simp only [Eg] at h;split at h
   ·rename_i c;simp only [B1] at c;have C:=SE.same_ok (U:=Bm) c.1;subst C;have D:Ah W p=Ah V p:=by unfold Ah;rw [SE.fits_ok u p c.2]
    split at h
    ·rename_i x y G H;cases h;simp only [Tr.get,Tr.way,D];cases L:Ah V p with
     |true=>
      rcases v G with q|⟨m,k,z⟩
      ·exact .inl q
      ·exact .inr ⟨m,k,fun j f s0 z1 z2=>by simp [z j f s0 z1 z2]⟩
     |false=>
      rcases w H with q|⟨m,k,z⟩
      ·exact .inl q
      ·exact .inr ⟨m,k,fun j f s0 z1 z2=>by simp [z j f s0 z1 z2]⟩
    ·cases h
   ·cases h
theorem I7 {E:Env} {d:Dec} {i:Nat} {c:Pt} {F:List (SB×Bool)} {l:Lf} {e:Plf}:∀{shs:List Sh} {s0:Nat},FG E d i c F l e s0 shs=true→∀(s:Nat) b,shs[s]?=some b→Qj E d i c F l e (s0+s) b=true
 |[],s0,_,s,b,h=>by simp at h
 |a::r,s0,h,s,b,hs=>by
  simp only [FG] at h;split at h
  ·rename_i f;cases s with
   |zero=>simp only [D1,A1] at hs;subst hs;exact f
   |succ s=>
    simp only [EQ] at hs;have:=I7 h s b hs
    rwa [show s0+1+s=s0+(s+1) by omega] at this
  ·cases h
structure Ti (P:Program) (f0:FuncId) (base:List Frame) (K:Frame→World→Value→World→Prop):Prop where
 pre:∀c c' w w1 v w',Steps P (lone c base w) (lone c' base w1)→K c' w1 v w'→K c w v w'
 ends:∀c w v w',Qk P c w true v w'→c.fn=f0→c.roundOf=none→K c w v w'
def Cut.AtK (P:Program) (G:Nat→D→D) (c:Cut) (V:Val) (K:Frame→World→Value→World→Prop):Prop:=
 ∀(v:Vals),v.V=V→v.K=(Env.of P).kinds→V.fn=G→Ca V c.facts→∀(ρ:Ren) (C:Frame) (w:World),FrR ρ c.fr C→HR ρ c.h.blk.get w→Bz ρ c.pre.length→
  ∃j I r,K C w I r∧VR j c.res I∧HR j c.h'.blk.get r∧Ext ρ j c.h c.h' w r
section
variable {E:Env} {G:Nat→D→D} (hE:∀[U:Unk],U.K=(Env.of E.P).kinds→OK E) {v:Vals} (hK:v.K=(Env.of E.P).kinds)
include hE hK
theorem ZP (hG:v.V.fn=G) {F:List (SB×Bool)} (c:Ca v.V F) {d:Cut} {s:AS} {f:List SE} {x:AV} {h':Aa} {o:Obs} (n:@ZO ⟨F⟩ E d s=some (f,x,h',o)) (ho:o.holds v.V) {K:Frame→World→Value→World→Prop} (O:d.AtK E.P G (v.V.inst f) K) (Q:s.fr.todo=d.todo)
  {g:Ren} {j:Frame} {w:World} (H:SR g s j [] w) (R:WF s.h) (q:Bz g s.h.nx):
  ∃I M J,K j w M J∧VR I x M∧HR I h'.blk.get J∧Ext g I s.h h' w J:=by
 have S:@OK (Bt v F c) E:=hE (U:=Bt v F c) hK;unfold ZO at n;split at n;rename_i m h1 T;simp only at n;split at n
 ·rename_i hc;split at n
  ·rename_i o1 t X ht;simp only [A1,E5] at n;obtain ⟨rfl,rfl,rfl,rfl⟩:=n;obtain ⟨oa,ob,Y,r,rfl⟩:=B0 X;obtain ⟨Z,k⟩:=Obs.append ho;obtain ⟨aa,u⟩:=Obs.append Z;generalize ad:IU m.v 0 d.nv=f at *;generalize ae:Jl m.b 0 d.pre.length=l at *;have e2:(@AT ⟨F⟩ E d.pre 0 (@H8 ⟨F⟩ E d.pre s.h (SF d s)) s.h).2=h1:=by rw [T]
   obtain ⟨q1,q2,q3⟩:=BC (U:=Bt v F c) (E:=E) d.pre 0 (@H8 ⟨F⟩ E d.pre s.h (SF d s)) s.h H.h R (fun b b1 _=>q b b1)
   rw [e2] at q1 q2 q3;simp only [B1] at hc;obtain ⟨⟨⟨⟨⟨⟨⟨⟨⟨c1,c2⟩,c3⟩,c4⟩,c5⟩,c6⟩,c7⟩,c8⟩,c9⟩,c10⟩:=hc;have a:=L4 k;have hV:(Dp (Bt v F c) d.facts f a).V=(Bt v F c).V.inst f:=rfl;have A:(Dp (Bt v F c) d.facts f a).K=(Bt v F c).K:=rfl;have ab:=MW c2;have af:=(D3 (U:=Bt v F c) (W:=Dp (Bt v F c) d.facts f a) hV A d.pre l ob r u).1;have p2:=HR.toPat (U:=Bt v F c) (W:=Dp (Bt v F c) d.facts f a) hV A S q1 r u c1;have L:Bz g h1.nx:=Bz.ext q q2
   have B:Bz (g.back l) d.pre.length:=by
    intro b N;have:l[b]?=none:=E4 (by omega)
    simp [Ren.back,this]
   have e:=H.fr
   have ac:@FrR (Dp (Bt v F c) d.facts f a).toVals (g.back l) d.fr j:=by
    refine @FrR.mk (Dp (Bt v F c) d.facts f a).toVals (g.back l) d.fr j ?_ (@TR.mk (Dp (Bt v F c) d.facts f a).toVals (g.back l) _ _ _ ?_ (fun i y hy=>?_)) ?_ ?_ ?_ ?_ ?_
    ·rw [e.fn];exact F7 c4
    ·rw [e.tm.size];exact F7 c5
    ·obtain ⟨z,z1,z2⟩:=MB (U:=Bt v F c) (W:=Dp (Bt v F c) d.facts f a) hV A (ρ:=g) d.tmps s.fr.tmps oa Y aa i y hy;exact z2 _ (e.tm.get i z z1)
    ·show @IL (Dp (Bt v F c) d.facts f a).toVals (g.back l) d.todo j.todo;rw [←Q];exact RK c10 e.todo
    ·exact Ok c6 e.defers
    ·have hm:=e.mode;show @MR (Dp (Bt v F c) d.facts f a).toVals (g.back l) .run j.mode;cases p:s.fr.mode with
     |run=>rw [p] at hm;generalize j.mode=mm at hm;cases hm;exact @MR.run (Dp (Bt v F c) d.facts f a).toVals (g.back l)
     |ret=>rw [p] at c7;cases c7
     |panic=>rw [p] at c7;cases c7
    ·have hk:=e.kind;show j.kind=.normal;rw [hk];cases p:s.fr.kind with
     |normal=>rfl
     |_=>rw [p] at c8;cases c8
    ·have C:=e.round;show RR (g.back l) none j.roundOf;cases p:s.fr.round with
     |none=>rw [p] at C;cases hz:j.roundOf with|none=>trivial|some=>rw [hz] at C;exact C.elim
     |some=>rw [p] at c9;cases c9
   obtain ⟨ag,M,J,r1,r2,r3,r4⟩:=O (Dp (Bt v F c) d.facts f a).toVals rfl hK hG a (g.back l) j w ac p2 B;obtain ⟨I,t1,t2,t3⟩:=Vn (U:=Bt v F c) (E:=E) (FF:=d.facts) a rfl rfl r u c1 ab (XA c3) ht q1 q3 (fun b N _=>L b N) r2 r3 r4
   exact ⟨I,M,J,r1,t1,t2,q2.trans t3 (fun b N _=>q b N)⟩
  ·cases n
 ·cases n
end
theorem Pf (t:T SE):∀(n i:Nat),(IU t i n).length=n
 |0,_=>rfl
 |n+1,i=>by simp [IU,Pf t n]
theorem bD [Facts] {E:Env} {c:Cut} {s:AS} {b:List SE} {x:AV} {h:Aa} {o:Obs} (a:ZO E c s=some (b,x,h,o)):b.length=c.nv:=by
 unfold ZO at a;split at a;simp only at a;split at a
 ·split at a
  ·simp only [A1,E5] at a;rw [←a.1,Pf]
  ·cases a
 ·cases a
def TS (r:D):Int:=(r.cells.getD 0 default).toInt
theorem Zk [Ai] {E:Env} {G:Nat→D→D} (hE:∀[U:Unk],U.K=(Env.of E.P).kinds→OK E) (hO:Ad E G) {d:Dec} {T:List (Tr Plf)} {ae:List Nat} {N:Nat} (hg:∀x,G d.g x=CN (Dt T G) x)
  (af:∀(i:Nat) m,d.pts[i]?=some m→∃js,Ag E ae N d T i=some js∧∀j td,(j,td)∈js→∀B,d.pts[j]?=some B→td=B.todo) :
  ∀(n i:Nat) (m:Pt) (s:Nat) (C:Sh),d.pts[i]?=some m→d.shs[s]?=some C→∀(V:Val) (r:D),V.fn=G→FW (Dt T G) n (stD i m.nv V)=some r→TS r=(s+1:Nat)→∀(H:List Frame) (K:Frame→World→Value→World→Prop),Ti E.P d.f H K→(Cz d i m s C).AtK E.P G V K:=by
 intro n
 induction n with
 |zero=>intro i m s C _ _ V r _ h;cases h
 |succ n ih=>
  intro i m s C ag ah V r a8 a ab H KK R v as hK hG S ρ cf w au hr A;subst as;have av:Ca v.V m.facts:=fun e b hm=>S e b (by simp [Cz,hm])
  obtain ⟨js,p,aw⟩:=af i m ag;unfold Ag at p;rw [ag] at p;split at p
  ·rename_i a9 t ai ht;cases ai;split at p
   ·rename_i tr ax;have y:=dh hE hO hK hG H N m.facts (m.st d) tr ax av ρ cf [] w ⟨au,.nil,hr⟩ (Kc _ _) A;have O:v.V.Alike m.nv d.g (DD G ((List.range m.nv).map v.V.d)):=⟨fun j hj=>by simp [DD,A4,hj],fun j _=>by rw [hG];rfl⟩
    have Q:Ab v.V (stE i (DA 0 m.nv))=stD i m.nv v.V:=by
     rw [Jz,Gy];simp [stD]
    have u:Dt T G (stD i m.nv v.V)=D5 (DD G ((List.range m.nv).map v.V.d)) (t.get (DD G ((List.range m.nv).map v.V.d))):=by
     show (match T[i]? with
      |some t=>D5 (DD G _) (t.get (DD G _))
      |none=>none)=_
     rw [ht]
    have I:CN (Dt T G) (stD i m.nv v.V)=r:=Fd a;generalize hW:DD G ((List.range m.nv).map v.V.d)=W at O u;rcases UP (E:=E) (d:=d) (i:=i) O p with X|⟨q,z,J⟩
    ·simp only [FW,u,X,D5] at a;cases a
    ·generalize ba:tr.way v.V m.facts=lf at y q J;obtain ⟨l,F⟩:=lf;simp only at y q J;have hl:=I7 q s C ah;simp only [R2] at hl;generalize bb:t.get W=dl at u z hl J;unfold Qj at hl;split at hl
     ·simp only [FW,u,D5] at a;cases a
     ·
      rename_i s' cs x h;simp only [FW,u,D5] at a;cases a
      have ay:s'=s:=by
       have:((s'+1:Nat):Int)=(s+1:Nat):=ab;omega
      subst ay;rw [Nat.beq_refl] at hl;simp only at hl;generalize az:@LJ ⟨F⟩ E (Cz d i m s' C) x h=pe at hl;obtain ⟨x2,h2⟩:=pe;simp only at hl;split at hl
      ·rename_i o ho;obtain ⟨L,σ,bd,v',w1,w',q1,qf,qr,q2,Y,q4,q5⟩:=y;have aj:cs.map (Ab v.V)=cs.map (Ab W):=EI O z
       have ac:o.holds v.V:=Hv L (fun j=>by
        show _=(v.V.fn d.g (Ab v.V (stE i (DA 0 m.nv)))).cells.getD j default;rw [Q,hG,hg,I];cases j with
        |zero=>rfl
        |succ j=>
         show Ab v.V (cs.getD j (.bc false))=(cs.map (Ab W)).getD j default;rw [←aj];simp only [A4,P8];cases cs[j]?<;>rfl) (.inl rfl) hl
       obtain ⟨pn,ad,p0,p1,p2⟩:=TU (U:=Bt v F L) (hE (U:=Bt v F L) hK) q4 Y az;have Y:=p0;have a7:Bz σ h.nx:=Bz.ext (h:=(m.st d).h) A q5;have q5:=q5.trans p2 (fun b hb a0=>A b hb)
       have q4:=p1;have a1:=Ext.wf (U:=Bt v F L) q5 (Kc _ _);obtain ⟨τ,r1,r2,r3⟩:=Zg (c:=Cz d i m s' C) hE hK L ho ac Y q4 a1 q5 A;exact ⟨τ,v',w',R.pre _ _ _ _ _ _ q1 (R.ends _ _ _ _ q2 qf qr),r1,r2,r3⟩
      ·cases hl
     ·
      rename_i j θ s0;simp only [FW,u,D5] at a;split at hl
      ·rename_i B ak;split at hl
       ·rename_i M x h o1 hu;split at hl
        ·rename_i o2 a2 a3;have al:=SS v.V a2;obtain ⟨L,aj,σ,c',w1,q1,q2,Y⟩:=y;have am:M.length=B.nv:=@bD ⟨F⟩ _ _ _ _ _ _ _ hu
         have X:(D.row (.int j::θ.map (Ab W)))=stD j B.nv (v.V.inst M):=by
          have:=EI O (l:=θ) z;rw [←this,←al];unfold stD
          congr 2
          apply List.ext_getElem
          ·simp [am]
          ·intro k h1 h2;simp only [List.getElem_map,List.getElem_range,Val.inst];have:k<M.length:=by simpa using h1
           simp [A4,this]
         have Z:Ab v.V (stE j θ)=stD j B.nv (v.V.inst M):=by
          rw [Jz,EI O (l:=θ) z,X]
         rw [X] at a;have an:CN (Dt T G) (stD j B.nv (v.V.inst M))=r:=Fd a
         have ac:(o1++o2).holds v.V:=Hv L (fun k=>by
          show (v.V.fn d.g (Ab v.V (stE j θ))).cells.getD k default=(v.V.fn d.g (Ab v.V (stE i (DA 0 m.nv)))).cells.getD k default;rw [Z,Q,hG,hg,hg,an,I]) (.inr (by
          show D.bool ((((v.V.fn d.g (Ab v.V (stE j θ))).cells.getD 0 default).toInt)==((s+1:Nat):Int))=_;rw [Z,hG,hg,an];have:(r.cells.getD 0 default).toInt=((s+1:Nat):Int):=ab;rw [this];simp)) hl
         obtain ⟨ao,ap⟩:=Obs.append ac;have a4:=ih j B s C ak ah (v.V.inst M) r hG a ab H KK R;have a5:s0.fr.todo=(Cz d j B s C).todo:=aw j _ (J j θ s0 rfl rfl) B ak;obtain ⟨pn,ad,p1,p2⟩:=Ce (U:=Bt v F L) (hE (U:=Bt v F L) hK) (Cz d j B s C).pre 0 (@H8 ⟨F⟩ E (Cz d j B s C).pre s0.h (SF (Cz d j B s C) s0)).b s0.h σ q2.h;have q2:SR ad (@LK ⟨F⟩ E (Cz d j B s C) s0) c' [] w1:=⟨q2.fr.mono p2.le,q2.cs.mono p2.le,p1⟩;have Y:=Y.trans p2 (fun b hb a0=>A b hb)
         have aa:WF (@LK ⟨F⟩ E (Cz d j B s C) s0).h:=Ext.wf (U:=Bt v F L) Y (Kc _ _);have aq:Bz ad (@LK ⟨F⟩ E (Cz d j B s C) s0).h.nx:=Bz.ext (h:=(m.st d).h) A Y;obtain ⟨τ,v',w',r1,r2,r3,r4⟩:=ZP hE hK hG L hu ao a4 a5 q2 aa aq;have he:Ext ρ τ (m.st d).h h w w':=Y.trans r4 (fun b hb _=>A b hb)
         have ar:WF h:=Ext.wf (U:=Bt v F L) r4 aa;obtain ⟨a6,t1,t2,t3⟩:=Zg (c:=Cz d i m s C) hE hK L a3 ap r2 r3 ar he A;exact ⟨a6,v',w',R.pre _ _ _ _ _ _ q1 r1,t1,t2,t3⟩
        ·cases hl
       ·cases hl
      ·cases hl
     ·cases hl
   ·cases p
  ·cases p
theorem WU (P:Program) (d:FuncId) (c0:Frame) (a:List Frame):Ti P d (c0::a) (fun e w v b=>Cm P (lone e (c0::a) w) c0 a true v b):=
 ⟨fun c f w w1 v b h k=>Steps.trans h k,fun c w v b h _ _=>Steps.one (h.back c0 a)⟩
theorem bR (P:Program) (d:FuncId) (a:List Frame):Ti P d a (fun f w v b=>∃fr,Steps P (lone f a w) (lone fr a b)∧fr.fn=d∧fr.leaving P b (.returned v)):=
 ⟨fun c j w w1 v b h ⟨fr,k1,k2,k3⟩=>⟨fr,Steps.trans h k1,k2,k3⟩,fun c w v b h g i=>by
  obtain ⟨e,q⟩:=h.leaves i;subst e;exact ⟨c,Steps.refl _ _,g,q⟩⟩
def Am (E:Env) (f nv:Nat) (args:List AV) (pre:List (Option Aj)) (facts:List (SB×Bool)):Pt:=
 {key:=none,nt:=(Fr E f args).nt,nv,todo:=(Fr E f args).todo,tmps:=(Fr E f args).tmps,pre,facts}
def Dec.sm (d:Dec) (args:List AV) (j:Pt) (s:Nat) (r:Sh):Sm:=
 let c:=Cz d 0 j s r
 {f:=d.f,nv:=j.nv,args,pre:=j.pre,facts:=c.facts,res:=c.res,post:=c.post}
theorem Td (r:D) (h:r=.row []):TS r=0:=by subst h;rfl
theorem Dec.sm_ok [Ai] {E:Env} {G:Nat→D→D} (hE:∀[U:Unk],U.K=(Env.of E.P).kinds→OK E) (hO:Ad E G) {d:Dec} {T:List (Tr Plf)} {I:List Nat} {N:Nat} (hg:∀x,G d.g x=CN (Dt T G) x)
  (J:∀(i:Nat) pt,d.pts[i]?=some pt→∃js,Ag E I N d T i=some js∧∀j td,(j,td)∈js→∀pj,d.pts[j]?=some pj→td=pj.todo)
  {nv:Nat} {args:List AV} {pre:List (Option Aj)} {facts:List (SB×Bool)} (av:d.pts[0]?=some (Am E d.f nv args pre facts)) (ab:(BT E d.f args .normal).isSome=true) {s:Nat} {sh:Sh} (bd:d.shs[s]?=some sh) :
  (d.sm args (Am E d.f nv args pre facts) s sh).Valid E.P G:=by
 refine AE.sm_ok hE ab (fun V hG hf=>?_)
 have bm:Ca V (Cz d 0 (Am E d.f nv args pre facts) s sh).facts:=hf;have hs:=bm (QA d.g 0 (DA 0 nv) s) true (by simp [Cz,Am])
 have bs:Ab V (stE 0 (DA 0 nv))=stD 0 nv V:=by rw [Jz,Gy];simp [stD]
 have ar:TS (CN (Dt T G) (stD 0 nv V))=(s+1:Nat):=by
  have:((((V.fn d.g (Ab V (stE 0 (DA 0 nv)))).cells.getD 0 default).toInt)==((s+1:Nat):Int))=true:=hs;rw [bs,hG,hg] at this;exact eq_of_beq this
 rcases FH (Dt T G) (stD 0 nv V) with q|⟨n,hn⟩
 ·rw [Td _ q] at ar;omega
 ·intro v bv hK b0 r ρ cf w b4 hr b5 c0 C;exact Zk hE hO hg J n 0 _ s sh av bd V _ hG hn ar (c0::C) _ (WU E.P d.f c0 C) v bv hK b0 r ρ cf w b4 hr b5
def Ac:List (Nat×AV)→T AV
 |[]=>.nil
 | (i,a)::r=>(Ac r).set i a
def El (key:Nat):Code→List AI→Option (List AI)
 |.seq a b,k=>match El key a (.code b::k) with
  |some l=>some l
  |none=>El key b k
 |.cond _ a b,k=>match El key a k with
  |some l=>some l
  |none=>El key b k
 |.block id b,k=>El key b (.inBlock id::k)
 |.loop b,k=>match V2 [key] b with
  |true=>some (.code b::.inLoop b::k)
  |false=>El key b (.inLoop b::k)
 |.scope b,k=>El key b (.inScope b::k)
 |_,_=>none
def Fl (key:Nat):Code→List AI→Option (List AI)
 |.seq a b,k=>match Fl key a (.code b::k) with
  |some l=>some l
  |none=>Fl key b k
 |.cond _ a b,k=>match Fl key a k with
  |some l=>some l
  |none=>Fl key b k
 |.block id b,k=>Fl key b (.inBlock id::k)
 |.loop b,k=>Fl key b (.inLoop b::k)
 |.scope b,k=>Fl key b (.inScope b::k)
 |.region id ops d,k=>match Nat.beq id key with
  |true=>some (.code (.region id ops d)::k)
  |false=>none
 |_,_=>none
def CW (key:Nat):Code→Option (List Tmp×Code×Code)
 |.seq a b=>match CW key a with
  |some l=>some l
  |none=>CW key b
 |.cond _ a b=>match CW key a with
  |some l=>some l
  |none=>CW key b
 |.block _ b=>CW key b
 |.loop b=>CW key b
 |.scope b=>CW key b
 |.rangeFunc _ c a b=>match V2 [key] (.seq a b) with
  |true=>some (c.toList,a,b)
  |false=>CW key b
 |_=>none
def GE (E:Env) (f:FuncId) (key:Nat) (st:LoopState) (pending:Option Code) (nt:Nat) (tmps:List (Nat×AV)) (d:Nat):Aj:=match E.fn.get f with
 |some fn=>match fn.body with
  |some b=>match CW key b with
   |some (a,c,e)=>.loop st pending f nt (Ac tmps) a c e d
   |none=>.deferred none
  |none=>.deferred none
 |none=>.deferred none
def YD (E:Env) (f:FuncId) (key:Nat):List AI:=match E.fn.get f with
 |some fn=>match fn.body with
  |some b=>match (match Nat.ble 1000000 key with|true=>Fl (key-1000000) b []|false=>El key b []) with
   |some l=>l
   |none=>[]
  |none=>[]
 |none=>[]
def Ax (E:Env) (f nt key nv:Nat) (tmps:List (Nat×AV)) (pre:List (Option Aj)) (facts:List (SB×Bool)) (defs:List Nat):Pt:=
 {key:=some key,nt,nv,todo:=YD E f key,tmps:=Ac tmps,pre,facts,defs}
open Go.RowKit
def W9 (o:Option Nat) (P:Program) (ts:List TypeId) (b:List D):Prop:=∃a cs M,BI (Env.of P) ts=some a∧DVL (Env.of P).kinds M a cs b∧(Can a b∧PP (Env.of P).kinds 9 a b)∧ShL (Env.of P).kinds o 9 a b
def QI (P:Program) (ts:List TypeId) (a:List D):Prop:=∃ks cs M,BI (Env.of P) ts=some ks∧DVL (Env.of P).kinds M ks cs a∧Can ks a∧PP (Env.of P).kinds 9 ks a
def M8:Sh:={m:=1,res:=.sb true (.var 0),post:=[],keep:=[]}
def Ct (E:Env) (ts:List TypeId):List (SB×Bool):=match BI E ts with
 |some a=>CI 0 a
 |none=>[]
def Ga (E:Env) (ts:List TypeId):Nat:=match BI E ts with
 |some a=>a.length
 |none=>0
def HL (E:Env) (ts:List TypeId):List AV:=match @GD ⟨Ct E ts⟩ E 0 ts with
 |some l=>l
 |none=>[]
def MO (E:Env) (f:FuncId) (ts:List TypeId):Pt:=Am E f (Ga E ts) (HL E ts) [] (Ct E ts)
def aA (E:Env) (f:FuncId) (ts:List TypeId) (L:List TypeId):Bool:=
 HY E L L&&(match BI E ts with
  |some a=>a.all (RJ L)
  |none=>false)&&(@GD ⟨Ct E ts⟩ E 0 ts).isSome&&(BT E f (HL E ts) .normal).isSome
section
variable {E:Env} {L:List TypeId} {H:Type} {enc:TypeId×Value→H} {w:World} {base:Nat} {sp:Nat→Bool} {held:Bool}
theorem fA [Ai] {G:Nat→D→D} (hE:∀[U:Unk],U.K=(Env.of E.P).kinds→OK E) (m:E.kinds=(Env.of E.P).kinds) (hO:Ad E G) {d:Dec} {T:List (Tr Plf)} {O:List Nat} {N:Nat} (hg:∀x,G d.g x=CN (Dt T G) x)
  (Q:∀(i:Nat) pt,d.pts[i]?=some pt→∃js,Ag E O N d T i=some js∧∀j td,(j,td)∈js→∀pj,d.pts[j]?=some pj→td=pj.todo)
  {ts:List TypeId} (ac:d.pts[0]?=some (MO E d.f ts)) (ad:d.shs[0]?=some M8) (B:aA E d.f ts L=true) (ae:BI E ts=BI (Env.of E.P) ts)
  {o:Option Nat} (s:∀a,W9 o E.P ts a→G d.g (.row (.int 0::a))=.row [.int 1,.bool true])
  {vs:List Value} {ds:List (DataW H)} {ps:List MemPlace} (af:BP o ds) (hA:DataW.TrodAll enc E.P w base sp held ts vs ds ps) (S:∀(j:Nat) t v,ts[j]?=some t→vs[j]?=some v→∃r b0,Value.okWide E.P w r b0 t v) :
  Calls E.P d.f vs.toArray w fun e W'=>e=.returned (.bool true)∧Below w.heap.size w W':=by
 unfold aA at B;simp only [B1] at B;obtain ⟨⟨⟨hL,C⟩,y⟩,z⟩:=B;split at C
 ·rename_i W J;obtain ⟨cs,a,q1,qc,q2⟩:=fw (U:=YB E.P) (hE (U:=YB E.P) rfl) hL (o:=o) ts vs ds ps W hA S J C af;have X:W.length=a.length:=q1.len.2;have ag:Ga E ts=a.length:=by unfold Ga;rw [J];exact X
  have ah:Ct E ts=CI 0 W:=by unfold Ct;rw [J]
  have Y:Ca (DY G a) (Ct E ts):=by
   rw [ah];exact Ih (U:=YB E.P) W cs a 0 (fun i hi=>by simp [DY]) q1
  intro Z;cases F:BT E d.f (HL E ts) .normal with
  |none=>rw [F] at z;cases z
  |some fr=>
   have ai:stD 0 (Ga E ts) (DY G a)=.row (.int 0::a):=by
    unfold stD;rw [ag]
    congr 2
    apply List.ext_getElem
    ·simp
    ·intro k h1 h2;simp [DY,A4,h2]
   have l:=s a ⟨W,cs,Hs w,by rw [←ae];exact J,by rw [←m];exact q1,⟨qc.1.1,by rw [←m];exact qc.1.2⟩,by rw [←m];exact qc.2⟩
   rw [hg,←ai] at l;rcases FH (Dt T G) (stD 0 (Ga E ts) (DY G a)) with q|⟨n,hn⟩
   ·rw [q] at l;cases l
   ·rw [l] at hn;have aj:=Zk hE hO hg Q n 0 _ 0 M8 ac ad (DY G a) _ rfl hn rfl Z _ (bR E.P d.f Z)
    let A:Vals:={V:=DY G a,K:=E.kinds,R:=[],hR:=fun _ _ _ _ _ h=>(by cases h)}
    have aa:Ab (DY G a) (stE 0 (DA 0 (Ga E ts)))=stD 0 (Ga E ts) (DY G a):=by
     rw [Jz,Gy];simp [stD]
    have p:(DY G a).fn d.g (Ab (DY G a) (stE 0 (DA 0 (Ga E ts))))=.row [.int 1,.bool true]:=by
     rw [aa,←l];exact hg _
    have u:Ca A.V (Cz d 0 (MO E d.f ts) 0 M8).facts:=by
     intro e b hm;have ak:(e,b)∈Ct E ts++[(QA d.g 0 (DA 0 (Ga E ts)) 0,true)]:=hm;rcases eq.1 ak with q|q
     ·exact Y e b q
     ·simp only [Ts,E5] at q;obtain ⟨rfl,rfl⟩:=q;show ((((DY G a).fn d.g (Ab (DY G a) (stE 0 (DA 0 (Ga E ts))))).cells.getD 0 default).toInt==((0+1:Nat):Int))=true;rw [p];rfl
    have I:@VL A ⟨fun _=>none,Hs w⟩ (HL E ts) vs:=by
     cases hs:@GD ⟨Ct E ts⟩ E 0 ts with
     |none=>rw [hs] at y;cases y
     |some as=>
      have e1:HL E ts=as:=by unfold HL;rw [hs]
      rw [e1];exact q2 {facts:=Ct E ts,toVals:=A,ok:=Y} 0 as ⟨fun _=>none,Hs w⟩ rfl rfl (fun i hi=>by show (DY G a).d (0+i)=_;simp [DY]) hs
    have al:=hE (U:={facts:=Ct E ts,toVals:=A,ok:=Y}) m;have ab:=Ec (U:={facts:=Ct E ts,toVals:=A,ok:=Y}) al F I
    have am:(Cz d 0 (MO E d.f ts) 0 M8).fr=fr:=by
     have M:=F;unfold BT at M;split at M
     ·rename_i fn an;split at M
      ·rename_i c hc;cases M;simp [Cut.fr,Cz,MO,Am,Fr,BT,an,hc,Ke]
      ·cases M
     ·cases M
    obtain ⟨σ,v',w',⟨ao,k1,k2,k3⟩,r1,r2,r3⟩:=aj A rfl m rfl u ⟨fun _=>none,Hs w⟩ _ w (by rw [am];exact ab) (Zl (U:={facts:=Ct E ts,toVals:=A,ok:=Y}) w) (fun b _=>rfl)
    have ap:v'=.bool true:=by
     have e2:(Cz d 0 (MO E d.f ts) 0 M8).res=.sb true (.sel (.app d.g (stE 0 (DA 0 (Ga E ts)))) 1):=rfl;rw [e2] at r1;cases r1
     have:Ah A.V (.sel (.app d.g (stE 0 (DA 0 (Ga E ts)))) 1)=true:=by
      show (((DY G a).fn d.g (Ab (DY G a) (stE 0 (DA 0 (Ga E ts))))).cells.getD 1 default).toBool=true;rw [p];rfl
     rw [this];rfl
    subst ap;exact ⟨.returned (.bool true),w',ao,⟨rfl,r3.calm.os,r3.calm.tape,r3.calm.output,r3.calm.size,fun k J=>r3.kept k J (fun b base h=>by cases h)⟩,k1,k2,k3⟩
 ·cases C
end
theorem R7 [Ai] {H:Type} {enc:TypeId×Value→H} {a:Assume} {C:Checked} {os:Os} {fn:Func} {s:ChangeSpec} {n:List PathCond} {apart:Bool} {L:List TypeId} {tb:TypeId} {l:List Orc} {m:List Sm} {G:Nat→D→D} {d:Dec} {T:List (Tr Plf)} {keys:List Nat} {N:Nat}
  (own:ownKnob C.prog.godebug=none) (u:os.Started) (z:C.prog.inits.idxOf? d.f=none) (X:C.prog.funcs[d.f]?=some fn)
  (witness:∃(w:World) (tape:Tape) (i:Input),w.os=os∧(w.forCall tape i).Shaped C.prog∧i.vars=[]∧Input.okWide C.prog (w.forCall tape i) .any w.heap.size d.f i∧
   s.pre6 enc C.prog fn n apart (w.forCall tape i).memory i.args∧a.holds C.prog (lone (Frame.enter C.prog d.f i.args .normal) [] (w.forCall tape i)))
  (hl:laidOutB C.prog=true) (hr:∀t∈fn.params.toList,C.prog.readableRec t=true∧t<C.prog.types.size) (y:s.vars=[])
  (B:∀F:List (DataW H),F.length=fn.params.toList.length→s.fn H F={results:=[.lit (.bool true)],args:=F})
  (J:fn.resultTypes = #[tb]) (hb:C.prog.underlying tb=some .bool) (hE:∀[U:Unk],U.K=(Env.of C.prog).kinds→OK (Env.ofS C.prog l m)) (hO:Ad (Env.ofS C.prog l m) G)
  (hg:∀x,G d.g x=CN (Dt T G) x) (O:∀(i:Nat) pt,d.pts[i]?=some pt→∃js,Ag (Env.ofS C.prog l m) keys N d T i=some js∧∀j td,(j,td)∈js→∀pj,d.pts[j]?=some pj→td=pj.todo)
  (Y:d.pts[0]?=some (MO (Env.ofS C.prog l m) d.f fn.params.toList)) (Z:d.shs[0]?=some M8) (aa:aA (Env.ofS C.prog l m) d.f fn.params.toList L=true)
  (A:∀S,QI C.prog fn.params.toList S→G d.g (.row (.int 0::S))=.row [.int 1,.bool true]) :
  ReturnsInHanded a C os d.f .any (s.pre6 enc C.prog fn n apart) (s.post enc C.prog fn apart true false false):=by
 refine returnsInHanded_of_change own u z X witness ?_;intro W ad args F gs V P hW ae _;have Q:=hW;obtain ⟨p,q,hA,hV,rfl,af,ag⟩:=hW;rw [y] at hV
 have ab:gs=[]∧q=[]:=by
  cases gs with
  |nil=>exact ⟨rfl,hV⟩
  |cons=>simp [DataW.TrodVars] at hV
 obtain ⟨rfl,rfl⟩:=ab;have R:=Lb hA;have I:=B F R
 have ac:BI (Env.ofS C.prog l m) fn.params.toList=BI (Env.of C.prog) fn.params.toList:=by
  generalize fn.params.toList=ts
  induction ts with
  |nil=>rfl
  |cons t r ih=>simp only [BI];rw [ih];rfl
 refine (fA (E:=Env.ofS C.prog l m) hE rfl hO hg O Y Z aa ac (o:=none) (fun S ⟨ks,cs,M,a,b,c,_⟩=>A S ⟨ks,cs,M,a,b,c.1,c.2⟩) (BP.none F) hA (fun j t v ht hv=>⟨_,_,P j t v (by simpa using ht) (by simpa using hv)⟩)).mono ?_
 rintro e W' ⟨rfl,k⟩
 refine ⟨.bool true,rfl,F,[],p++[],[],p,[],Q,?_,?_,?_,k.frame _,fun h=>by cases h⟩
 ·rw [i0,I,J];exact ⟨[],[],shut_bool hb true,rfl,rfl⟩
 ·rw [i0,I];exact Ij hl k hr hA (fun x hx=>Q.lt x (by simp [hx]))
 ·rw [i0,I,y];rfl
end Go.AE
namespace Go.AE
def jl (d:Dec):List Nat→List (Nat×List AI)
 |[]=>[]
 |j::r=>(j,(d.pts.getD j default).todo)::jl d r
def Av (E:Env) (a:List Nat) (N:Nat) (d:Dec) (T:List (Tr Plf)):Prop:=
 ∀(i:Nat) b,d.pts[i]?=some b→∃l,Ag E a N d T i=some (jl d l)
theorem Zd {d:Dec}:∀{l:List Nat} {j:Nat} {c:List AI},(j,c)∈jl d l→∀b,d.pts[j]?=some b→c=b.todo
 |[],j,c,h,b,hp=>by cases h
 |a::r,j,c,h,b,hp=>by
  rcases F5.1 h with q|q
  ·cases q;simp [A4,hp]
  ·exact Zd q b hp
theorem Av.chk {E:Env} {keys:List Nat} {N:Nat} {d:Dec} {T:List (Tr Plf)} (h:Av E keys N d T) (i:Nat) (I:Pt) (hp:d.pts[i]?=some I) :
  ∃J,Ag E keys N d T i=some J∧∀j C,(j,C)∈J→∀r,d.pts[j]?=some r→C=r.todo:=by
 obtain ⟨l,hl⟩:=h i I hp;exact ⟨_,hl,fun j C hm r hj=>Zd hm r hj⟩
def Tr.appsLt (m:Nat):Tr Plf→Bool
 |.leaf .stuck=>true
 |.leaf (.done _ cs)=>IO 1000 m cs
 |.leaf (.next _ j)=>IO 1000 m j
 |.split e a b=>e.fits 1000 m&&a.appsLt m&&b.appsLt m
def OY (m:Nat):List (Tr Plf)→Bool
 |[]=>true
 |t::r=>t.appsLt m&&OY m r
def ID:Nat→List (List (Tr Plf))→Bool
 |_,[]=>true
 |m,t::r=>OY m t&&ID (m+1) r
def gAt [Ai] (a:List (List (Tr Plf))):Nat→Nat→D→D
 |0,_,_=>.row []
 |n+1,k,x=>if k=n then CN (Dt (a.getD n []) (gAt a n)) x else gAt a n k x
def Ak [Ai] (a:List (List (Tr Plf))):Nat→D→D:=gAt a a.length
theorem QB [Ai] (a:List (List (Tr Plf))) {k:Nat} (x:D):∀{n:Nat},k<n→gAt a n k x=gAt a (k+1) k x
 |0,h=>by omega
 |n+1,h=>by
  by_cases c:k=n
  ·subst c;rfl
  ·have:gAt a (n+1) k x=gAt a n k x:=by show (if k=n then _ else _)=_;rw [if_neg c]
   rw [this];exact QB a x (by omega)
theorem Tw {m:Nat} {V W:Val} (k:V.d=W.d) (n:∀i,i<m→V.fn i=W.fn i):∀{t:Tr Plf},t.appsLt m=true→D5 V (t.get V)=D5 W (t.get W):=by
 have c:V.Alike 1000 m W:=⟨fun i _=>by rw [k],n⟩
 intro t
 induction t with
 |leaf l=>
  intro h;cases l with
  |stuck=>rfl
  |done s cs=>simp only [Tr.get,D5];rw [EI c h]
  |next j p=>simp only [Tr.get,D5];rw [EI c h]
 |split e a b f g=>
  intro h;simp only [Tr.appsLt,B1] at h;have o:Ah V e=Ah W e:=by unfold Ah;rw [SE.fits_ok c e h.1.1]
  simp only [Tr.get,o];cases Ah W e with
  |true=>exact f h.1.2
  |false=>exact g h.2
theorem bq {m:Nat} {G H:Nat→D→D} (c:∀i,i<m→G i=H i) {T:List (Tr Plf)} (d:OY m T=true):Dt T G=Dt T H:=by
 have key:∀(T:List (Tr Plf)),OY m T=true→∀(i:Nat) t,T[i]?=some t→t.appsLt m=true:=by
  intro T
  induction T with
  |nil=>intro _ i t h;simp at h
  |cons a r e=>
   intro h i t hi;simp only [OY,B1] at h;cases i with
   |zero=>simp only [D1,A1] at hi;subst hi;exact h.1
   |succ i=>exact e h.2 i t (by simpa using hi)
 funext x
 unfold Dt;split
 ·rename_i i b;split
  ·rename_i t f;exact Tw (m:=m) (V:=DD G b) (W:=DD H b) rfl (fun i hi=>c i hi) (key T d i t f)
  ·rfl
 ·rfl
theorem LY:∀{c:List (List (Tr Plf))} {m:Nat},ID m c=true→∀(k:Nat) T,c[k]?=some T→OY (m+k) T=true
 |[],m,_,k,T,h=>by simp at h
 |a::r,m,h,k,T,b=>by
  simp only [ID,B1] at h;cases k with
  |zero=>simp only [D1,A1] at b;subst b;exact h.1
  |succ k=>
   have:=LY h.2 k T (by simpa using b)
   rwa [show m+1+k=m+(k+1) by omega] at this
theorem An [Ai] {a:List (List (Tr Plf))} (h:ID 0 a=true) {k:Nat} {T:List (Tr Plf)} (b:a[k]?=some T) (x:D):Ak a k x=CN (Dt T (Ak a)) x:=by
 have c:k<a.length:=(B3.1 b).1;have d:=LY h k T b;rw [R2] at d
 have e1:Ak a k x=CN (Dt T (gAt a k)) x:=by
  unfold Ak;rw [QB a x c];show (if k=k then _ else _)=_
  rw [if_pos rfl];simp [A4,b]
 rw [e1,bq (fun i hi=>?_) d]
 funext y
 unfold Ak;rw [QB a y hi,QB a y (show i<a.length by omega)]
def Dec.smL (d:Dec) (args:List AV) (j:Pt):Nat→List Sh→List Sm
 |_,[]=>[]
 |s,C::r=>d.sm args j s C::d.smL args j (s+1) r
theorem Ad.decL [Ai] {P:Program} {l:List Orc} {m:List Sm} {G:Nat→D→D} (hE:∀[U:Unk],U.K=(Env.of P).kinds→OK (Env.ofS P l m)) (hO:Ad (Env.ofS P l m) G) {d:Dec} {T:List (Tr Plf)} {j:List Nat} {N:Nat} (hg:∀x,G d.g x=CN (Dt T G) x)
  (C:Av (Env.ofS P l m) j N d T) {nv:Nat} {args:List AV} {pre:List (Option Aj)} {facts:List (SB×Bool)} (ab:d.pts[0]?=some (Am (Env.of P) d.f nv args pre facts)) (I:(BT (Env.of P) d.f args .normal).isSome=true) :
  Ad (Env.ofS P l (d.smL args (Am (Env.of P) d.f nv args pre facts) 0 d.shs++m)) G:=by
 have key:∀(shs:List Sh) (s0:Nat),(∀(i:Nat) J,shs[i]?=some J→d.shs[s0+i]?=some J)→∀x∈d.smL args (Am (Env.of P) d.f nv args pre facts) s0 shs,x.Valid P G:=by
  intro shs
  induction shs with
  |nil=>intro s0 _ x hx;cases hx
  |cons J r ih=>
   intro s0 hs x hx;rcases F5.1 hx with q|q
   ·subst q;exact Dec.sm_ok (E:=Env.ofS P l m) hE hO hg C.chk ab I (hs 0 J rfl)
   ·exact ih (s0+1) (fun i ar hi=>by have:=hs (i+1) ar (by simpa using hi);rwa [show s0+(i+1)=s0+1+i by omega] at this) x q
 refine ⟨hO.orc,fun x hx=>?_⟩
 rcases eq.1 hx with q|q
 ·exact key d.shs 0 (fun i J hi=>by rw [R2];exact hi) x q
 ·exact hO.sms x q
abbrev iV (n:Nat):AV:=.si .i64 (.var n)
abbrev sV (n:Nat):AV:=.ss (.var n)
abbrev bV (n:Nat):AV:=.sb true (.var n)
abbrev dV (e:TypeId) (n:Nat):AV:=.dat e (.var n)
abbrev aV (b a n m:Nat):AV:=.asl b a (.lenL (.var n)) (.var m)
abbrev tO (l:List (Nat×AV)):Option Aj:=some (.cells l.length (Ac l))
abbrev rV (e:TypeId) (n:Nat):Option Aj:=some (.arr e (.var n))
class Pg (p:outParam Program) (l:outParam (List Orc)):Prop where
 it:True
abbrev E0 {p:Program} {l:List Orc} [Pg p l]:Env:=Env.of p
abbrev EF {p:Program} {l:List Orc} [Pg p l] (m:Env→List Sm):Env:=Env.ofS p l (m E0)
def rl:List SE→SE
 |[]=>.rnil
 |x::r=>.rcons x (rl r)
def us:Nat→Nat→List SE
 |_,0=>[]
 |a,n+1=>.var a::us (a+1) n
section
variable {E:Env} {keys:List Nat} {N:Nat} {d:Dec} {T:List (Tr Plf)}
theorem dkN {n:Nat} (h:d.pts.length=n) (H:∀i,i<n→∃l,Ag E keys N d T i=some (jl d l)):Av E keys N d T:=fun i a hp=>H i (by
 rcases F8 i n with q|q
 ·exact q
 ·rw [E4 (by omega)] at hp
  cases hp)
theorem dk1 {x0:List Nat} (h:d.pts.length=1) (a:Ag E keys N d T 0=some (jl d x0)):Av E keys N d T:=dkN h fun i hi=>match i,hi with
 |0,_=>⟨_,a⟩
 |i+1,hi=>absurd hi (by omega)
theorem dk2 {x0 x1:List Nat} (h:d.pts.length=2) (a:Ag E keys N d T 0=some (jl d x0)) (b:Ag E keys N d T 1=some (jl d x1)):Av E keys N d T:=dkN h fun i hi=>match i,hi with
 |0,_=>⟨_,a⟩
 |1,_=>⟨_,b⟩
 |i+2,hi=>absurd hi (by omega)
theorem dk3 {x0 x1 x2:List Nat} (h:d.pts.length=3) (a:Ag E keys N d T 0=some (jl d x0)) (b:Ag E keys N d T 1=some (jl d x1)) (c:Ag E keys N d T 2=some (jl d x2)):Av E keys N d T:=dkN h fun i hi=>match i,hi with
 |0,_=>⟨_,a⟩
 |1,_=>⟨_,b⟩
 |2,_=>⟨_,c⟩
 |i+3,hi=>absurd hi (by omega)
theorem dk4 {x0 x1 x2 x3:List Nat} (h:d.pts.length=4) (a:Ag E keys N d T 0=some (jl d x0)) (b:Ag E keys N d T 1=some (jl d x1)) (c:Ag E keys N d T 2=some (jl d x2)) (e:Ag E keys N d T 3=some (jl d x3)):Av E keys N d T:=dkN h fun i hi=>match i,hi with
 |0,_=>⟨_,a⟩
 |1,_=>⟨_,b⟩
 |2,_=>⟨_,c⟩
 |3,_=>⟨_,e⟩
 |i+4,hi=>absurd hi (by omega)
theorem dk5 {x0 x1 x2 x3 x4:List Nat} (h:d.pts.length=5) (a:Ag E keys N d T 0=some (jl d x0)) (b:Ag E keys N d T 1=some (jl d x1)) (c:Ag E keys N d T 2=some (jl d x2)) (e:Ag E keys N d T 3=some (jl d x3)) (f:Ag E keys N d T 4=some (jl d x4)):Av E keys N d T:=dkN h fun i hi=>match i,hi with
 |0,_=>⟨_,a⟩
 |1,_=>⟨_,b⟩
 |2,_=>⟨_,c⟩
 |3,_=>⟨_,e⟩
 |4,_=>⟨_,f⟩
 |i+5,hi=>absurd hi (by omega)
theorem dk8 {x0 x1 x2 x3 x4 x5 x6 x7:List Nat} (h:d.pts.length=8) (a:Ag E keys N d T 0=some (jl d x0)) (b:Ag E keys N d T 1=some (jl d x1)) (c:Ag E keys N d T 2=some (jl d x2)) (e:Ag E keys N d T 3=some (jl d x3)) (f:Ag E keys N d T 4=some (jl d x4)) (g:Ag E keys N d T 5=some (jl d x5)) (j:Ag E keys N d T 6=some (jl d x6)) (k:Ag E keys N d T 7=some (jl d x7)):Av E keys N d T:=dkN h fun i hi=>match i,hi with
 |0,_=>⟨_,a⟩
 |1,_=>⟨_,b⟩
 |2,_=>⟨_,c⟩
 |3,_=>⟨_,e⟩
 |4,_=>⟨_,f⟩
 |5,_=>⟨_,g⟩
 |6,_=>⟨_,j⟩
 |7,_=>⟨_,k⟩
 |i+8,hi=>absurd hi (by omega)
end
end Go.AE

