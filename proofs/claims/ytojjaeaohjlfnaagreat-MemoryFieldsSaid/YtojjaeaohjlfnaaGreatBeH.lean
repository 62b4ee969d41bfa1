/- What is proved here: an evaluator of the model's steps that the kernel can run, and that whatever it answers is what the model does (part 8 of 8: AeTop, AeVc1, AeVc2, AeVc3, AeDec1, AeDec2, AeDec3, AeDec4, AeDec5, AeShort, AeGlob). Conditions: those that each theorem states; they hold of no one program. -/
import Derived.Test.YtojjaeaohjlfnaaGreatBeG
import Derived.Carry
import Derived.Handed
import Derived.JoinedCond
set_option linter.unusedVariables false
set_option linter.unusedSectionVars false
set_option linter.unusedSimpArgs false
namespace Go.AE
variable [Gl:AH]
open Go.RowKit
def YK [Facts] (j:Nat):Kd→AV
 |.int k=>mkI k (.var j)
 |.bool=>mkB true (.var j)
 |.str=>.ss (.var j)
 |.slice e=>.dat e (.var j)
def Ji [Facts]:Nat→List Kd→List AV
 |_,[]=>[]
 |j,k::ks=>YK j k::Ji (j+1) ks
def JI:TypeDesc→Bool
 |.struct _=>true
 |_=>false
def FM [Facts] (E:Env):Nat→List TypeId→Option (List AV)
 |_,[]=>some []
 |j,t::ts=>match E.desc t,E.kinds0 t with
  |some d,some ks=>match FM E (j+ks.length) ts with
   |some r=>match JI d with
    |true=>some (.agg (Ji j ks)::r)
    |false=>match Ji j ks with
     |[a]=>some (a::r)
     |_=>none
   |none=>none
  |_,_=>none
def By (E:Env):List TypeId→Option (List Kd)
 |[]=>some []
 |t::ts=>match E.kinds0 t,By E ts with
  |some ks,some l=>some (ks++l)
  |_,_=>none
def Cf:Nat→List Kd→List (SB×Bool)
 |_,[]=>[]
 |j,.int k::r=>match decide (k=.i64) with
  |true=>Cf (j+1) r
  |false=>(.lss (.var j) (.c k.min),false)::(.lss (.c k.max) (.var j),false)::Cf (j+1) r
 |j,_::r=>Cf (j+1) r
def inL (e:TypeId):List TypeId→Bool
 |[]=>false
 |f::r=>Nat.beq e f||inL e r
def P8 (L:List TypeId):Kd→Bool
 |.slice e=>inL e L
 |_=>true
def GZ (E:Env) (L:List TypeId):List TypeId→Bool
 |[]=>true
 |e::r=>match E.kinds0 e with
  |some ks=>!ks.isEmpty&&ks.all (P8 L)&&GZ E L r
  |none=>false
inductive DT where
 |leaf
 |split (e:SB) (t f:DT)
def C8 (fn:Nat→D→D) (a:List D):Val:={d:=fun j=>a.getD j default,fn}
@[reducible] def Vu (P:Program):Unk:={facts:=[],V:=C8 (fun _ d=>d) [],K:=(Env.of P).kinds,R:=[],hR:=fun _ _ _ _ _ h=>by (cases h),ok:=by simp}
def DVL (K:TypeId→Option (List Kd)) (M:Nat→Option (Array Value)):List Kd→List Value→List D→Prop
 |[],[],[]=>True
 |k::ks,v::a,d::b=>DV K M k v d∧DVL K M ks a b
 |_,_,_=>False
theorem DVL.len {K:TypeId→Option (List Kd)} {M:Nat→Option (Array Value)}:∀{ks:List Kd} {l:List Value} {r:List D},DVL K M ks l r→ks.length=l.length∧ks.length=r.length
 |[],[],[],_=>⟨rfl,rfl⟩
 |_::_,_::_,_::_,h=>by have:=DVL.len h.2;simp [this.1.symm,this.2.symm]
def Can:List Kd→List D→Prop
 |.int _::ks,d::a=>(∃n,d=.int n)∧Can ks a
 |.bool::ks,d::a=>(∃n,d=.bool n)∧Can ks a
 |.str::ks,d::a=>(∃n,d=.str n)∧Can ks a
 |.slice _::ks,_::a=>Can ks a
 |_,_=>True
def Gy (K:TypeId→Option (List Kd)):Nat→Kd→D→Prop
 |_,.int _,d=>∃n,d=.int n
 |_,.bool,d=>∃b,d=.bool b
 |_,.str,d=>∃s,d=.str s
 |0,.slice _,_=>True
 |m+1,.slice e,d=>∃a rows,d=.slc a rows∧(a=true→rows=[])∧∀ks,K e=some ks→∀r∈rows,∃cs,r=.row cs∧cs.length=ks.length∧∀(j:Nat) kd,ks[j]?=some kd→Gy K m kd (cs.getD j default)
def Od (K:TypeId→Option (List Kd)) (m:Nat) (ks:List Kd) (a:List D):Prop:=∀(j:Nat) kd,ks[j]?=some kd→Gy K m kd (a.getD j default)
def leB (o:Option Nat) (n:Nat):Prop:=∀b,o=some b→n≤b
def ShK (K:TypeId→Option (List Kd)) (o:Option Nat):Nat→Kd→D→Prop
 |_,.int _,_=>True
 |_,.bool,_=>True
 |_,.str,d=>leB o d.toStr.data.toList.length
 |0,.slice _,_=>True
 |m+1,.slice e,d=>leB o d.rows.length∧∀ks,K e=some ks→∀i,i<d.rows.length→∀(j:Nat) kd,ks[j]?=some kd→ShK K o m kd ((d.rows.getD i default).cells.getD j default)
def ShL (K:TypeId→Option (List Kd)) (o:Option Nat) (m:Nat) (ks:List Kd) (a:List D):Prop:=∀(j:Nat) kd,ks[j]?=some kd→ShK K o m kd (a.getD j default)
mutual
def Bl {H:Type} (o:Option Nat):DataW H→Prop
 |.lit (.string bytes)=>leB o bytes.length
 |.lit _=>True
 |.nil=>True
 |.ptr _=>True
 |.slice a _=>leB o a.length∧BC o a
 |.agg parts=>BC o parts
 |.iface _ _=>True
 |.map _=>True
 |.held _=>True
def BC {H:Type} (o:Option Nat):List (DataW H)→Prop
 |[]=>True
 |d::r=>Bl o d∧BC o r
end
mutual
theorem Bl.none {H:Type}:∀d:DataW H,Bl none d
 |.lit (.string _)=>by rw [Bl];intro b I;cases I
 |.lit (.bool _)=>by simp [Bl]
 |.lit (.int _ _)=>by simp [Bl]
 |.lit (.float _ _)=>by simp [Bl]
 |.lit .nil=>by simp [Bl]
 |.nil=>by simp [Bl]
 |.ptr _=>by simp [Bl]
 |.slice t _=>by rw [Bl];exact ⟨fun b I=>(by cases I),BC.none t⟩
 |.agg parts=>by rw [Bl];exact BC.none parts
 |.iface _ _=>by simp [Bl]
 |.map _=>by simp [Bl]
 |.held _=>by simp [Bl]
theorem BC.none {H:Type}:∀l:List (DataW H),BC none l
 |[]=>by simp [BC]
 |d::r=>by rw [BC];exact ⟨Bl.none d,BC.none r⟩
end
theorem BC.get {H:Type} {o:Option Nat}:∀{l:List (DataW H)} {i:Nat} {d:DataW H},BC o l→l[i]?=some d→Bl o d
 |x::l,0,d,h,hi=>by
  simp only [List.getElem?_cons_zero,Option.some.injEq] at hi;subst hi;rw [BC] at h;exact h.1
 |x::l,i+1,d,h,hi=>by
  rw [BC] at h;exact h.2.get (by simpa using hi)
 |[],i,d,h,hi=>by simp at hi
theorem DV.canK {K:TypeId→Option (List Kd)} {M:Nat→Option (Array Value)} {o:Option Nat}:∀(m:Nat) (kd:Kd) (v:Value) (d:D),DV K M kd v d→∃d',DV K M kd v d'∧Gy K m kd d'∧(ShK K o m kd d→ShK K o m kd d')
 |m,.int k,v,d,h=>by
  cases h with
  |int _ n _ hr q=>exact ⟨.int n,.int k n _ hr rfl,by cases m<;>exact ⟨n,rfl⟩,fun _=>by cases m<;>trivial⟩
 |m,.bool,v,d,h=>by
  cases h with
  |bool b _ q=>exact ⟨.bool b,.bool b _ rfl,by cases m<;>exact ⟨b,rfl⟩,fun _=>by cases m<;>trivial⟩
 |m,.str,v,d,h=>by
  cases h with
  |str b _ q=>exact ⟨.str b,.str b _ rfl,by cases m<;>exact ⟨b,rfl⟩,fun hs=>by cases m<;>(simp only [ShK] at hs ⊢;rw [q] at hs;exact hs)⟩
 |0,.slice e,v,d,h=>⟨d,h,trivial,fun h=>h⟩
 |m+1,.slice e,v,d,h=>by
  cases h with
  |nil _ _ h1 h2=>exact ⟨.slc true [],.nil e _ rfl rfl,⟨true,[],rfl,fun _=>rfl,fun _ _ r hr=>by cases hr⟩,fun _=>⟨fun b _=>Nat.zero_le b,fun ks _ i hi=>absurd hi (Nat.not_lt_zero i)⟩⟩
  |empty _ a J _ h1 h2=>exact ⟨.slc false [],.empty e a J _ rfl rfl,⟨false,[],rfl,fun _=>rfl,fun _ _ r hr=>by cases hr⟩,fun _=>⟨fun b _=>Nat.zero_le b,fun ks _ i hi=>absurd hi (Nat.not_lt_zero i)⟩⟩
  |slc _ b off n J _ ks arr hk ha hn hc h1 an bd hv=>
   classical
   have key:∀i j,∃x,∀kd,i<n→ks[j]?=some kd→DV K M kd (arr.getD (off+i*ks.length+j) Go.undef) x∧Gy K m kd x∧(ShK K o m kd ((d.rows.getD i default).cells.getD j default)→ShK K o m kd x):=by
    intro i j;cases t:ks[j]? with
    |none=>exact ⟨default,fun kd _ h=>by cases h⟩
    |some kd=>
     by_cases hi:i<n
     ·obtain ⟨x,q1,q2⟩:=DV.canK m kd _ _ (hv i j kd hi t);exact ⟨x,fun bm _ h=>by cases h;exact ⟨q1,q2⟩⟩
     ·exact ⟨default,fun kd _ h=>absurd ‹i<n› hi⟩
   let f:Nat→Nat→D:=fun i j=>Classical.choose (key i j)
   have hf:∀i j kd,i<n→ks[j]?=some kd→DV K M kd (arr.getD (off+i*ks.length+j) Go.undef) (f i j)∧Gy K m kd (f i j)∧(ShK K o m kd ((d.rows.getD i default).cells.getD j default)→ShK K o m kd (f i j)):=fun i j=>Classical.choose_spec (key i j)
   have hr:∀i,i<n→((List.range n).map fun i=>D.row ((List.range ks.length).map (f i))).getD i default=.row ((List.range ks.length).map (f i)):=by
    intro i hi;simp [List.getD_eq_getElem?_getD,hi]
   have l:∀i j,j<ks.length→((List.range ks.length).map (f i)).getD j default=f i j:=by
    intro i j t;simp [List.getD_eq_getElem?_getD,t]
   have ab:∀{j:Nat} {kd:Kd},ks[j]?=some kd→j<ks.length:=fun h=>(List.getElem?_eq_some_iff.1 h).1
   refine ⟨.slc false ((List.range n).map fun i=>.row ((List.range ks.length).map (f i))),.slc e b off n J _ ks arr hk ha (by show (List.map _ _).length=n;simp) hc rfl an (fun i hi=>?_) (fun i j kd hi t=>?_),⟨false,_,rfl,(fun h=>by cases h),fun ar I r av=>?_⟩,fun hs=>⟨?_,fun ar I i hi j kd t=>?_⟩⟩
   ·show (((List.range n).map fun i=>D.row ((List.range ks.length).map (f i))).getD i default).cells.length=_
    rw [hr i hi];simp [D.cells]
   ·show DV K M kd _ ((((List.range n).map fun i=>D.row ((List.range ks.length).map (f i))).getD i default).cells.getD j default)
    rw [hr i hi];show DV K M kd _ (((List.range ks.length).map (f i)).getD j default);rw [l i j (ab t)];exact (hf i j kd hi t).1
   ·rw [hk] at I;cases I;obtain ⟨i,hi,e⟩:=List.mem_map.1 av;refine ⟨_,e.symm,by simp,fun j kd t=>?_⟩
    rw [l i j (ab t)];exact (hf i j kd (List.mem_range.1 hi) t).2.1
   ·have e:(D.slc false ((List.range n).map fun i=>D.row ((List.range ks.length).map (f i)))).rows.length=d.rows.length:=by rw [hn];simp [D.rows]
    rw [e];exact hs.1
   ·rw [hk] at I;cases I
    have al:i<n:=by
     have:i<((List.range n).map fun i=>D.row ((List.range ks.length).map (f i))).length:=hi
     simpa using this
    show ShK K o m kd ((((List.range n).map fun i=>D.row ((List.range ks.length).map (f i))).getD i default).cells.getD j default)
    rw [hr i al];show ShK K o m kd (((List.range ks.length).map (f i)).getD j default);rw [l i j (ab t)];exact (hf i j kd al t).2.2 (hs.2 ks hk i (by rw [hn];exact al) j kd t)
theorem DVL.can {K:TypeId→Option (List Kd)} {M:Nat→Option (Array Value)} {o:Option Nat}:∀{ks:List Kd} {cs:List Value} {xs:List D},DVL K M ks cs xs→ShL K o 9 ks xs→∃r,DVL K M ks cs r∧(Can ks r∧Od K 9 ks r)∧ShL K o 9 ks r
 |[],[],[],h,_=>⟨[],h,⟨trivial,fun j kd h=>by simp at h⟩,fun j kd h=>by simp at h⟩
 |k::ks,v::vs,d::ds,h,J=>by
  obtain ⟨r,h1,⟨t,h3⟩,h4⟩:=DVL.can (o:=o) h.2 (fun j kd l=>by simpa using J (j+1) kd (by simpa using l))
  obtain ⟨d',q1,I,q3⟩:=DV.canK (o:=o) 9 k v d h.1;refine ⟨d'::r,⟨q1,h1⟩,⟨?_,fun j kd l=>?_⟩,fun j kd l=>?_⟩
  rotate_left 2
  ·cases j with
   |zero=>simp only [List.getElem?_cons_zero,Option.some.injEq] at l;subst l;exact q3 (J 0 k rfl)
   |succ j=>simpa using h4 j kd (by simpa using l)
  ·cases k with
   |int k=>exact ⟨I,t⟩
   |bool=>exact ⟨I,t⟩
   |str=>exact ⟨I,t⟩
   |slice e=>exact t
  ·cases j with
   |zero=>simp only [List.getElem?_cons_zero,Option.some.injEq] at l;subst l;exact I
   |succ j=>simpa using h3 j kd (by simpa using l)
theorem ShL.append {K:TypeId→Option (List Kd)} {o:Option Nat} {m:Nat} {ks ks':List Kd} {xs xs':List D} (r:ks.length=xs.length) (h:ShL K o m ks xs) (h':ShL K o m ks' xs'):ShL K o m (ks++ks') (xs++xs'):=by
 intro j kd l;rcases Nat.lt_or_ge j ks.length with c|c
 ·rw [List.getElem?_append_left c] at l;have:=h j kd l;simpa [List.getD_eq_getElem?_getD,List.getElem?_append_left (show j<xs.length by omega)] using this
 ·rw [List.getElem?_append_right c] at l;have:=h' (j-ks.length) kd l;simpa [List.getD_eq_getElem?_getD,List.getElem?_append_right (show xs.length≤j by omega),←r] using this
theorem Od.append {K:TypeId→Option (List Kd)} {m:Nat} {ks ks':List Kd} {xs xs':List D} (r:ks.length=xs.length) (h:Od K m ks xs) (h':Od K m ks' xs'):Od K m (ks++ks') (xs++xs'):=by
 intro j kd l;rcases Nat.lt_or_ge j ks.length with c|c
 ·rw [List.getElem?_append_left c] at l;have:=h j kd l;simpa [List.getD_eq_getElem?_getD,List.getElem?_append_left (show j<xs.length by omega)] using this
 ·rw [List.getElem?_append_right c] at l;have:=h' (j-ks.length) kd l;simpa [List.getD_eq_getElem?_getD,List.getElem?_append_right (show xs.length≤j by omega),←r] using this
theorem Can.append {K:TypeId→Option (List Kd)} {M:Nat→Option (Array Value)}:∀{ks ks':List Kd} {cs:List Value} {xs xs':List D},DVL K M ks cs xs→Can ks xs→Can ks' xs'→Can (ks++ks') (xs++xs')
 |[],_,[],[],_,_,_,h'=>h'
 |.int _::_,_,_::_,_::_,_,l,h,h'=>⟨h.1,Can.append l.2 h.2 h'⟩
 |.bool::_,_,_::_,_::_,_,l,h,h'=>⟨h.1,Can.append l.2 h.2 h'⟩
 |.str::_,_,_::_,_::_,_,l,h,h'=>⟨h.1,Can.append l.2 h.2 h'⟩
 |.slice _::ks,ks',_::cs,_::xs,xs',l,h,h'=>Can.append (ks:=ks) (ks':=ks') (cs:=cs) (xs:=xs) (xs':=xs') l.2 h h'
theorem DVL.append {K:TypeId→Option (List Kd)} {M:Nat→Option (Array Value)}:∀{ks ks':List Kd} {t l:List Value} {I r:List D},DVL K M ks t I→DVL K M ks' l r→DVL K M (ks++ks') (t++l) (I++r)
 |[],_,[],_,[],_,_,h=>h
 |_::_,_,_::_,_,_::_,_,h,h'=>⟨h.1,DVL.append h.2 h'⟩
theorem DVL.get {K:TypeId→Option (List Kd)} {M:Nat→Option (Array Value)}:∀{ks:List Kd} {r:List Value} {t:List D},DVL K M ks r t→∀{j:Nat} {k:Kd} {d:D},ks[j]?=some k→t[j]?=some d→∃v,r[j]?=some v∧DV K M k v d
 |[],[],[],_,j,k,d,h,_=>by simp at h
 |_::_,_::_,_::_,h,0,k,d,l,h2=>by
  simp only [List.getElem?_cons_zero,Option.some.injEq] at l h2;subst l;subst h2;exact ⟨_,rfl,h.1⟩
 |_::_,_::_,_::_,h,j+1,k,d,l,h2=>by
  simp only [List.getElem?_cons_succ] at l h2 ⊢;exact DVL.get h.2 l h2
theorem Kf [U:Unk] (ρ:Ren):∀(ks:List Kd) (q:List Value) (g:List D) (j:Nat),(∀i,i<g.length→U.V.d (j+i)=g.getD i default)→DVL U.K ρ.imm ks q g→VL ρ (Ji j ks) q
 |[],[],[],_,_,_=>VL.nil ρ
 |k::ks,v::q,d::g,j,hi,h=>by
  have h0:U.V.d j=d:=by have:=hi 0 (by simp);simpa using this
  refine VL.cons ?_ (Kf ρ ks q g (j+1) (fun i A=>by have:=hi (i+1) (by simp;omega);rw [show j+1+i=j+(i+1) by omega,this];simp) h.2)
  have l:=h.1;have u:Ab U.V (.var j)=d:=h0;rw [←u] at l;generalize f:Ab U.V (.var j)=B at l;cases l with
  |int k n _ hr m=>
   have:=B9 ρ k (.var j);have e:Ac U.V (.var j)=n:=by unfold Ac;rw [f];exact m
   rw [e] at this;exact this
  |bool b _ m=>
   have:=GA ρ true (.var j);have e:(Ad U.V (.var j)==true)=b:=by unfold Ad;rw [f,m];cases b<;>rfl
   rw [e] at this;exact this
  |str s _ m=>
   have:=VR.ss (ρ:=ρ) (.var j);have e:AR U.V (.var j)=s:=by unfold AR;rw [f];exact m
   rw [e] at this;exact this
  |nil e _ o r=>exact .dat e (.var j) _ _ _ (by rw [f];exact .nil e _ o r)
  |empty e a c _ o r=>exact .dat e (.var j) _ _ _ (by rw [f];exact .empty e a c _ o r)
  |slc e b off n c _ ks arr l w x y o t p z=>exact .dat e (.var j) _ _ _ (by rw [f];exact .slc e b off n c _ ks arr l w x y o t p z)
theorem Hg [U:Unk] {K:TypeId→Option (List Kd)} {M:Nat→Option (Array Value)} {V:Val}:∀(ks:List Kd) (g:List Value) (c:List D) (j:Nat),(∀i,i<c.length→V.d (j+i)=c.getD i default)→DVL K M ks g c→∀e b,(e,b)∈Cf j ks→Ad V e=b
 |[],[],[],_,_,_,e,b,a=>by simp [Cf] at a
 |k::ks,v::g,d::c,j,hi,h,e,b,a=>by
  have h0:V.d j=d:=by have:=hi 0 (by simp);simpa using this
  have ih:=Hg ks g c (j+1) (fun i p=>by have:=hi (i+1) (by simp;omega);rw [show j+1+i=j+(i+1) by omega,this];simp) h.2 e b
  have l:=h.1;cases l with
  |int k n _ hr o=>
   have m:(Ab V (.var j)).toInt=n:=by simp only [Ab,h0];exact o
   simp only [Cf] at a;split at a
   ·exact ih a
   ·rename_i l;have f:=hr.resolve_left (by simpa using l)
    simp only [List.mem_cons,Prod.mk.injEq] at a;rcases a with ⟨rfl,rfl⟩|⟨rfl,rfl⟩|a
    ·rw [Av,decide_eq_false_iff_not];simp only [Ac];rw [m];show ¬_<_;have:=f.1;have:=f.2;simp only [Ab,D.toInt];omega
    ·rw [Av,decide_eq_false_iff_not];simp only [Ac];rw [m];show ¬_<_;have:=f.1;have:=f.2;simp only [Ab,D.toInt];omega
    ·exact ih a
  |bool=>exact ih a
  |str=>exact ih a
  |nil=>exact ih a
  |empty=>exact ih a
  |slc=>exact ih a
def FG (w:World) (k:Nat):Option (Array Value):=match w.heap[k]? with
 |some (.cells c _ _)=>some c
 |_=>none
theorem Ns {w:World} {a:Addr} {v:Value} (h:w.cell? a=some v):∃arr,FG w a.block=some arr∧a.spot=none∧arr[a.off]?=some v:=by
 unfold World.cell? at h;unfold FG;split at h
 ·rename_i c _ _ d;rw [d];split at h
  ·cases h
  ·rename_i b;refine ⟨c,rfl,?_,h⟩;cases e:a.spot with
   |none=>rfl
   |some x=>rw [e] at b;simp at b
 ·cases h
theorem K9 {w:World} {base n:Nat} {a:Addr} {cs:List Value} (h:w.cells? base a n=some cs) (o:0<n):∃arr,FG w a.block=some arr∧a.spot=none∧cs.length=n∧∀j,j<n→arr[a.off+j]?=cs[j]?:=by
 unfold World.cells? at h;split at h
 ·have g:cs.length=n:=by simpa using mapM_some_length h
  have i:∀j,j<n→w.cell? (a.add j)=cs[j]?:=fun j c=>mapM_some_get h j j (by simp [c])
  have h0:=i 0 o;have k:a.add 0=a:=by simp [Addr.add]
  rw [k] at h0;have d:cs[0]?=some cs[0]:=by simp
  rw [d] at h0;obtain ⟨arr,e,p,q⟩:=Ns h0;refine ⟨arr,e,p,g,fun j c=>?_⟩
  have b:=i j c;have f:cs[j]?=some cs[j]:=by simp [g,c]
  rw [f] at b ⊢;obtain ⟨l,p1,p2,p3⟩:=Ns b;by_cases m:j=0
  ·subst m;rw [k] at p1 p3;rw [e] at p1;cases p1;exact p3
  ·simp only [Addr.add,if_neg m] at p1 p3;rw [e] at p1;cases p1;exact p3
 ·cases h
theorem J4 {P:Nat→D→Prop}:∀(n:Nat),(∀i,i<n→∃d,P i d)→∃l:List D,l.length=n∧∀i,i<n→∃d,l[i]?=some d∧P i d
 |0,_=>⟨[],rfl,fun i hi=>by omega⟩
 |n+1,h=>by
  obtain ⟨l,a,b⟩:=J4 n (fun i hi=>h i (by omega))
  obtain ⟨d,c⟩:=h n (by omega)
  refine ⟨l++[d],by simp [a],fun i hi=>?_⟩
  by_cases e:i<n
  ·obtain ⟨x,f,g⟩:=b i e;exact ⟨x,by rw [List.getElem?_append_left (by omega)];exact f,g⟩
  ·have:i=n:=by omega
   subst this;exact ⟨d,by rw [List.getElem?_append_right (by omega),a];simp,c⟩
theorem L6 {a:TypeId→Nat→Bool} {b c:TypeId→Option (List Kd)} (h:∀t ks,b t=some ks→c t=some ks):∀(d:List Field) (off:Nat) (ks:List Kd),EA a b d off=some ks→EA a c d off=some ks
 |[],_,_,q=>q
 |f::r,off,ks,q=>by
  simp only [EA] at q ⊢;split at q
  ·rename_i k e g;rw [h _ _ g];split at q
   ·rename_i l2 i j;simp only [e,i,L6 h r _ _ j];exact q
   ·cases q
  ·cases q
theorem NO {desc:TypeId→Option TypeDesc} {a:TypeId→Nat→Bool}:∀(n:Nat) (t:TypeId) (ks:List Kd),DK false desc a n t=some ks→DK true desc a n t=some ks
 |0,_,_,h=>h
 |n+1,t,ks,h=>by
  have key:∀l,JB false a (DK false desc a n) (desc t)=some l→JB true a (DK true desc a n) (desc t)=some l:=by
   intro l q;cases b:desc t with
   |none=>rw [b] at q;exact q
   |some d=>
    rw [b] at q;cases d<;>first|exact q|skip
    ·simp [JB] at q
    ·exact L6 (NO n) _ _ _ q
  simp only [DK] at h ⊢;split at h
  ·rename_i l c;rw [key l c];exact h
  ·cases h
theorem Vc {E:Env} {t:TypeId} {ks:List Kd} (h:E.kinds0 t=some ks):E.kinds t=some ks:=NO 20 t ks h
theorem Wc {E:Env} {L:List TypeId}:∀{l:List TypeId} {e:TypeId},GZ E L l=true→inL e l=true→∃ks,E.kinds0 e=some ks∧ks≠[]∧ks.all (P8 L)=true
 |[],e,_,h=>by simp [inL] at h
 |f::r,e,a,h=>by
  simp only [GZ] at a;split at a
  ·rename_i ks b;simp only [Bool.and_eq_true,Bool.not_eq_true',List.isEmpty_eq_false_iff] at a;simp only [inL,Bool.or_eq_true] at h;rcases h with h|h
   ·rw [Ay h];exact ⟨ks,b,a.1.1,a.1.2⟩
   ·exact Wc a.2 h
  ·cases a
section
variable {E:Env} {L:List TypeId} {H:Type} {enc:TypeId×Value→H} {w:World} {base:Nat} {sp:Nat→Bool} {held:Bool}
theorem Hz [U:Unk] (hE:OK E) {t:TypeId} {n:Nat} (h:E.szIs t n=true):E.P.cellsOf t=n:=by
 unfold Env.szIs at h;cases hi:E.ty.get t with
 |none=>rw [hi] at h;cases h
 |some i=>rw [hi] at h;simp [Program.cellsOf,hE.ty t i hi,Ay h]
theorem Sp [U:Unk] (hE:OK E) {rec_:TypeId→Option (List Kd)} {o:Option Nat} {m:Nat} {cs:List Value} (b:∀t ks cs x,rec_ t=some ks→ks.all (P8 L)=true→DataW.trod enc E.P w base sp held m t cs=some x→Bl o x.1→∃c,DVL E.kinds (FG w) ks cs c∧∀q,ShL E.kinds o q ks c) :
  ∀(g:List Field) (off:Nat) (ks:List Kd),EA E.szIs rec_ g off=some ks→ks.all (P8 L)=true→(∀f∈g,∃x,DataW.trod enc E.P w base sp held m f.type ((cs.drop f.offset).take (E.P.cellsOf f.type))=some x∧Bl o x.1)→∃c,DVL E.kinds (FG w) ks ((cs.drop off).take ks.length) c∧∀q,ShL E.kinds o q ks c:=by
 intro g
 induction g with
 |nil=>intro off ks h _ _;simp [EA] at h;subst h;exact ⟨[],by simp [DVL],fun q j kd h=>by simp at h⟩
 |cons f r ih=>
  intro off ks h a s;simp only [EA] at h;split at h
  ·rename_i k1 u v;split at h
   ·rename_i l y z;cases h;rw [List.all_append,Bool.and_eq_true] at a;obtain ⟨x,i,k⟩:=s f (by simp)
    have d:=Ay u;have n:=Hz hE y;obtain ⟨d1,p,A⟩:=b _ _ _ _ v a.1 i k;rw [n,d] at p;obtain ⟨d2,B,C⟩:=ih _ _ z a.2 (fun f D=>s f (by simp [D]))
    have e:(cs.drop off).take (k1++l).length=(cs.drop off).take k1.length++(cs.drop (off+k1.length)).take l.length:=by
     rw [List.length_append,List.take_add,List.drop_drop]
    rw [e];exact ⟨d1++d2,p.append B,fun q=>(A q).append p.len.2 (C q)⟩
   ·cases h
  ·cases h
theorem Xm [U:Unk] (hE:OK E) (hL:GZ E L L=true) {o:Option Nat}:∀(m n:Nat) (t:TypeId) (ks:List Kd) (cs:List Value) (x:DataW H×List MemPlace),DK false E.desc E.szIs n t=some ks→ks.all (P8 L)=true→DataW.trod enc E.P w base sp held m t cs=some x→Bl o x.1→∃g,DVL E.kinds (FG w) ks cs g∧∀q,ShL E.kinds o q ks g:=by
  intro m
  have one:∀{kd:Kd} {d:D},(∀q,ShK E.kinds o q kd d)→∀q,ShL E.kinds o q [kd] [d]:=by
    intro kd d h q j al z;cases j with
    |zero=>simp only [List.getElem?_cons_zero,Option.some.injEq] at z;subst z;exact h q
    |succ j=>simp at z
  induction m using Nat.strongRecOn with
  |_ m ih=>
    intro n t ks cs x h0 C r p;obtain ⟨aa,n',rfl,h⟩:=kinds_size h0;clear h0;cases hd:E.desc t with
    |none=>rw [hd] at h;cases h
    |some d=>
      have K:=hE.und hd;rw [hd] at h;cases m with
      |zero=>simp [DataW.trod] at r
      |succ m=>
      cases d<;>first | (cases h;done)|skip
      case bool=>
        cases h;unfold DataW.trod at r;rw [K] at r;split at r<;>simp_all
        exact ⟨[.bool _],⟨.bool _ _ rfl,trivial⟩,one fun q=>by cases q<;>trivial⟩
      case int k=>
        cases h;unfold DataW.trod at r;rw [K] at r
        have go:∀{M:IntKind} {n:Int},(M=k∧(Lit.int k n).wf=true)→∃g,DVL E.kinds (FG w) [.int k] [.int M n] g∧∀q,ShL E.kinds o q [.int k] g:=by
          rintro M n ⟨rfl,hw⟩
          have hb:M.min≤n∧n≤M.max:=by simpa [Lit.wf] using hw
          exact ⟨[.int n],⟨.int _ _ _ (.inr hb) rfl,trivial⟩,one fun q=>by cases q<;>trivial⟩
        split at r<;>first | (cases r;done)|skip
        all_goals
          first
            | (split at r
               · rename_i hq;simp_all
               · cases r)
            |simp_all
      case string=>
        cases h;unfold DataW.trod at r;rw [K] at r;split at r<;>first | (simp at r;done)|skip
        all_goals first
          | (rename_i hh;cases hh;done)
          | (rename_i hh _;cases hh;done)
          |skip
        all_goals
          rename_i s _;split at r
          · simp only [Option.some.injEq] at r
            subst r;exact ⟨[.str s],⟨.str _ _ rfl,trivial⟩,one fun q=>by cases q<;>(simp only [Bl] at p;exact p)⟩
          · cases r
      case slice e=>
        cases h;simp only [List.all_cons,List.all_nil,Bool.and_true,P8] at C;obtain ⟨ke,A,ab,N⟩:=Wc hL C;have F:=Vc A;rcases DataW.trod_slice K r with ⟨rfl,_⟩|⟨a,len,O,l,rest,q,hq,rfl,Q,hb,hl,hc,u,R,_,_⟩
        · exact ⟨[.slc true []],⟨.nil e _ rfl rfl,trivial⟩,one fun q=>by cases q<;>first|trivial|exact ⟨fun b _=>Nat.zero_le b,fun _ _ i hi=>absurd hi (Nat.not_lt_zero i)⟩⟩
        · by_cases h0:len=0
          · subst h0
            exact ⟨[.slc false []],⟨.empty e a O _ rfl rfl,trivial⟩,one fun q=>by cases q<;>first|trivial|exact ⟨fun b _=>Nat.zero_le b,fun _ _ i hi=>absurd hi (Nat.not_lt_zero i)⟩⟩
          · have ac:E.P.cellsOf e=ke.length:=Hz hE (kinds_size F).1
            have B:0<ke.length:=by cases ke with|nil=>exact absurd rfl ab|cons=>simp
            rw [ac] at R
            obtain ⟨rows,r1,r2⟩:=J4 (P:=fun i d=>∃g cells,d=.row g∧w.cells? base (a.add (i*ke.length)) ke.length=some cells∧DVL E.kinds (FG w) ke cells g∧∀q,ShL E.kinds o q ke g) len (by
              intro i hi;have:=R i hi;have he:l[i]?=some l[i]:=by simp [u,hi]
              rw [he] at this;simp only [Option.bind_eq_some_iff] at this;obtain ⟨cells,c1,c2⟩:=this
              have ad:Bl o (l[i]).1:=by
                rw [Q] at p;simp only [Bl] at p;exact p.2.get (i:=i) (by simp [u,hi])
              obtain ⟨g,ae,S⟩:=ih q (by omega) 20 e ke cells _ A N c2 ad
              exact ⟨.row g,g,cells,rfl,c1,ae,S⟩)
            obtain ⟨_,_,am,Z,_,c0,_⟩:=r2 0 (by omega)
            have ea:a.add (0*ke.length)=a:=by simp [Addr.add]
            rw [ea] at c0;obtain ⟨arr,s1,s2,_,s4⟩:=K9 c0 B;have T:a=⟨a.block,a.off,none⟩:=by cases a;simp at s2;simp [s2]
            have key:∀i,i<len→∃g cells,rows[i]?=some (.row g)∧(DVL E.kinds (FG w) ke cells g∧∀q,ShL E.kinds o q ke g)∧∀j,j<ke.length→arr[a.off+i*ke.length+j]?=cells[j]?:=by
              intro i hi;obtain ⟨d,G,g,cells,y,V,g4,g5⟩:=r2 i hi;subst y;refine ⟨g,cells,G,⟨g4,g5⟩,?_⟩;obtain ⟨ak,t1,t2,_,t4⟩:=K9 V B;by_cases hz:i*ke.length=0
              · rw [hz] at t1 t4 ⊢
                have e0:a.add 0=a:=by simp [Addr.add]
                rw [e0] at t1 t4;rw [s1] at t1;cases t1;simpa using t4
              · simp only [Addr.add,if_neg hz] at t1 t4
                rw [s1] at t1;cases t1;exact t4
            refine ⟨[.slc false rows],⟨?_,trivial⟩,one fun q=>by
              cases q with
              |zero=>trivial
              |succ q=>
                refine ⟨by
                  rw [Q] at p;simp only [Bl] at p;have e:(D.slc false rows).rows.length=l.length:=by rw [u];exact r1
                  rw [e];exact (show (l.map (·.1)).length=l.length from List.length_map _)▸p.1,fun af ag i hi j kd z=>?_⟩
                have ah:af=ke:=Option.some.inj (ag.symm.trans F);subst ah;have I:i<len:=by have:i<rows.length:=hi;omega
                obtain ⟨g,cells,G,⟨_,y⟩,_⟩:=key i I;have W:(D.rows (.slc false rows)).getD i default=.row g:=by simp [D.rows,List.getD_eq_getElem?_getD,G]
                rw [W];exact y q j kd z⟩
            rw [T];refine .slc e a.block a.off len O (.slc false rows) ke arr F s1 r1 hl rfl ?_ (fun i hi=>?_) ?_
            · obtain ⟨g,cells,_,⟨y,_⟩,V⟩:=key (len-1) (by omega)
              have:=V (ke.length-1) (by omega)
              have an:=y.len.1;have ai:cells[ke.length-1]?=some (cells[ke.length-1]'(by omega)):=by simp
              rw [ai] at this;have ao:=(Array.getElem?_eq_some_iff.1 this).1
              have:len*ke.length=(len-1)*ke.length+ke.length:=by
                rw [←Nat.succ_mul];congr 1;omega
              omega
            · obtain ⟨g,cells,G,⟨y,_⟩,_⟩:=key i hi
              have W:(D.rows (.slc false rows)).getD i default=.row g:=by simp [D.rows,List.getD_eq_getElem?_getD,G]
              rw [W];exact y.len.2.symm
            · intro i j kd hi z
              obtain ⟨g,cells,G,⟨y,_⟩,V⟩:=key i hi;have W:(D.rows (.slc false rows)).getD i default=.row g:=by simp [D.rows,List.getD_eq_getElem?_getD,G]
              rw [W];have X:j<ke.length:=(List.getElem?_eq_some_iff.1 z).1
              have aj:g[j]?=some ((D.cells (.row g)).getD j default):=by
                have:j<g.length:=by rw [←y.len.2];exact X
                simp [D.cells,List.getD_eq_getElem?_getD,this]
              obtain ⟨v,v1,v2⟩:=y.get z aj;have:=V j X;rw [v1] at this;have ev:arr.getD (a.off+i*ke.length+j) Go.undef=v:=by simp [Array.getD_eq_getD_getElem?,this]
              rw [ev];exact v2
      case struct fs=>
        simp only [JB] at h;obtain ⟨xs,q,e1,e2,e3,e4,e5⟩:=DataW.trod_struct K r;rw [e2] at p;simp only [Bl] at p
        obtain ⟨g,this,J⟩:=Sp hE (L:=L) (o:=o) (m:=q) (cs:=cs) (fun t ks cs x a b c d=>ih q (by omega) n' t ks cs x a b c d) fs.toList 0 ks h C (fun f hf=>by
          obtain ⟨i,hi,rfl⟩:=List.getElem_of_mem hf;have I:i<fs.size:=by simpa using hi
          have h5:=e5 i fs[i] (by simp [I])
          have Y:i<xs.length:=by omega
          exact ⟨xs[i],by simpa [Y] using h5,p.get (i:=i) (by simp [Y])⟩)
        have u:cs.length=ks.length:=by rw [e3,Hz hE aa]
        rw [List.drop_zero,←u,List.take_length] at this;exact ⟨g,this,J⟩
theorem YY [U:Unk] (hE:OK E) (hL:GZ E L L=true) {o:Option Nat}:∀(ts:List TypeId) (g:List Value) (k:List (DataW H)) (O:List MemPlace) (ks:List Kd),DataW.TrodAll enc E.P w base sp held ts g k O→
  (∀(j:Nat) t v,ts[j]?=some t→g[j]?=some v→∃r X,Value.okWide E.P w r X t v)→By E ts=some ks→ks.all (P8 L)=true→BC o k→
  ∃(cs:List Value) (m:List D),DVL E.kinds (FG w) ks cs m∧((Can ks m∧Od E.kinds 9 ks m)∧ShL E.kinds o 9 ks m)∧∀(U:Unk) (j:Nat) (args:List AV) (s:Ren),U.K=E.kinds→s.imm=FG w→(∀i,i<m.length→U.V.d (j+i)=m.getD i default)→FM E j ts=some args→VL s args g:=by
 intro ts
 induction ts with
 |nil=>
  intro g k O ks z f u _ _;cases g with
  |nil=>
   simp [By] at u;subst u;exact ⟨[],[],trivial,⟨⟨trivial,fun j kd h=>by simp at h⟩,fun j kd h=>by simp at h⟩,fun U j args s _ _ _ b=>by simp [FM] at b;subst b;exact VL.nil s⟩
  |cons=>cases k<;>simp [DataW.TrodAll] at z
 |cons t ts ih=>
  intro g k O ks z f u x A;cases g with
  |nil=>cases k<;>simp [DataW.TrodAll] at z
  |cons v g=>
   cases k with
   |nil=>simp [DataW.TrodAll] at z
   |cons d k=>
    obtain ⟨p,q,⟨B,hx⟩,Q,_⟩:=z;simp only [By] at u;split at u
    ·rename_i k1 l y hl;cases u;rw [List.all_append,Bool.and_eq_true] at x;obtain ⟨cs,m,q1,qc,q2⟩:=ih g k q l Q (fun j t v ht hv=>f (j+1) t v (by simpa using ht) (by simpa using hv)) hl x.2 A.2
     obtain ⟨x0,C,F⟩:=Xm hE hL (o:=o) B 20 t k1 _ _ y x.1 hx A.1;obtain ⟨x1,c,G,I⟩:=C.can (F 9);refine ⟨v.cells.toList++cs,x1++m,c.append q1,⟨⟨Can.append c G.1 qc.1.1,G.2.append c.len.2 qc.1.2⟩,I.append c.len.2 qc.2⟩,?_⟩;intro Y j args s hK Z n b;obtain ⟨r,X,e⟩:=f 0 t v rfl rfl;have aa:k1.length=x1.length:=c.len.2;simp only [FM] at b;split at b
     ·rename_i d0 ab hd J;rw [y] at J;cases J;have R:=OK.und (U:=U) hE hd;clear ih;split at b
      ·rename_i rr S
       have tail:=q2 Y (j+k1.length) rr s hK Z (fun i hi=>by
        have:=n (x1.length+i) (by simp only [List.length_append];omega)
        rw [show j+k1.length+i=j+(x1.length+i) by omega,this]
        simp [List.getD_eq_getElem?_getD,List.getElem?_append_right]) S
       have head:=Kf (U:=Y) s k1 v.cells.toList x1 j (fun i hi=>by
        have:=n i (by simp only [List.length_append];omega)
        rw [this];simp [List.getD_eq_getElem?_getD,List.getElem?_append_left hi]) (by rw [hK,Z];exact c)
       split at b
       ·rename_i T;cases b;refine VL.cons ?_ tail;cases d0<;>simp [JI] at T
        unfold Value.okWide at e;rw [R] at e;obtain ⟨M,rfl,_⟩:=e;exact .agg _ M.toList head.1 head.2
       ·rename_i T;split at b
        ·rename_i a N;cases b;refine VL.cons ?_ tail;rw [N] at head
         have W:v.cells.toList=[v]:=by
          cases v<;>first|rfl|skip
          rename_i M
          exfalso
          unfold Value.okWide at e;rw [R] at e;obtain ⟨_,_,_,y⟩:=kinds_size y;rw [hd] at y;cases d0<;>simp [JI] at T<;>first | (cases y;done)|skip
          all_goals simp [Cell.okWide,Cell.ok,R] at e
         rw [W] at head;obtain ⟨v',r',e1,e2,_⟩:=head.cons_inv;cases e1;exact e2
        ·cases b
      ·cases b
     ·cases b
    ·cases u
theorem HY.none (h:Gl.tab=.nil) (M:Nat→Option (Array Value)):HY M:=fun g l r=>by rw [h,T.get_nil] at r;cases r
theorem V7 [U:Unk] (w:World) (a:HY (FG w)):HR ⟨fun _=>none,FG w⟩ (T.nil:T Ag).get w:=by
 refine ⟨fun b base h=>(by cases h),fun b base x h=>(by cases h),fun b i base d _ h=>(by cases h),fun k arr h=>?_,fun k arr b base _ h=>(by cases h),a⟩
 simp only [FG] at h;split at h
 ·rename_i c e f g;cases h;exact ⟨e,f,g⟩
 ·cases h
end
theorem Kn {H:Type} {enc:TypeId×Value→H} {P:Program} {w:World} {base:Nat} {c:Nat→Bool} {a:Bool}:∀{ts:List TypeId} {d:List Value} {b:List (DataW H)} {e:List MemPlace},DataW.TrodAll enc P w base c a ts d b e→b.length=ts.length
 |[],[],[],_,_=>rfl
 |_::_,_::_,_::_,_,⟨_,_,_,h,_⟩=>by simp [Kn h]
 |[],_::_,_,_,h=>by simp [DataW.TrodAll] at h
 |[],[],_::_,_,h=>by simp [DataW.TrodAll] at h
 |_::_,[],_,_,h=>by simp [DataW.TrodAll] at h
 |_::_,_::_,[],_,h=>by simp [DataW.TrodAll] at h
theorem Hl {H:Type} {enc:TypeId×Value→H} {P:Program} (i:laidOutB P=true) {W j:World} (k:Below W.heap.size W j):∀{ts:List TypeId} {e:List Value} {f:List (DataW H)} {c:List MemPlace},
  (∀t∈ts,P.readableRec t=true∧t<P.types.size)→DataW.TrodAll enc P W 0 (fun _=>true) true ts e f c→(∀x∈c,x.block<W.heap.size)→DataW.TrodAll enc P j 0 (fun b=>decide (b<W.heap.size)) true ts e f c
 |[],[],[],_,_,h,_=>h
 |t::ts,v::e,d::f,c,hr,⟨p,q,l,m,n⟩,a=>by
  subst n;exact ⟨p,q,Below.trod i (hr t (by simp)).1 (hr t (by simp)).2 l k (fun x g=>a x (by simp [g])),Hl i k (fun t o=>hr t (by simp [o])) m (fun x g=>a x (by simp [g])),rfl⟩
 |[],_::_,_,_,_,h,_=>by simp [DataW.TrodAll] at h
 |[],[],_::_,_,_,h,_=>by simp [DataW.TrodAll] at h
 |_::_,[],_,_,_,h,_=>by simp [DataW.TrodAll] at h
 |_::_,_::_,[],_,_,h,_=>by simp [DataW.TrodAll] at h
end Go.AE
namespace Go.AE
variable [Gl:AH]
def BO:Code→Option Nat
 |.region id _ _=>some id
 |.seq a b=>match BO a with
  |some i=>some i
  |none=>BO b
 |.cond _ a b=>match BO a with
  |some i=>some i
  |none=>BO b
 |.block _ b=>BO b
 |.loop b=>BO b
 |.scope b=>BO b
 |_=>none
def TL (keys:List Nat) (c:Code):Bool:=match BO c with
 |some i=>MG i keys
 |none=>false
def ZV (keys:List Nat) (s:AS):Bool:=
 match s.cs,s.fr.mode,s.fr.todo with
 |[],.run,.code (.loop b)::_=>TL keys b
 |[],.run,.inLoop b::_=>TL keys b
 |_,_,_=>false
def aJ:AV→Option SB
 |.sb _ e=>some e
 |_=>none
def orE (a b:Option SB):Option SB:=match a with
 |some x=>some x
 |none=>b
def ask [U:Facts] (e:SB):Option SB:=match AM U.facts e with
 |none=>some e
 |some _=>none
def Qp [Facts] (i n:SE):Option SB:=orE (ask (.lss i (.c 0))) (ask (.lss i n))
def Nh [Facts] (a:List SE):List (SB×Bool)→Option SB
 |[]=>none
 | (e,_)::r=>orE (ask (e.inst a)) (Nh a r)
inductive W7 where
 |ask (e:SB)
 |no
 |free
 deriving Inhabited
def Vl:Obs→Bool
 |[]=>true
 | (a,.bc true)::r=>a.isB&&Vl r
 |_=>false
def TB [Facts]:Obs→Option SB
 |[]=>none
 | (a,_)::r=>orE (ask a) (TB r)
def To:List AV→List AV→Bool
 |[],[]=>true
 |a::l,b::m=>(match a,b with
  |.func (.yield i) _ _,.func (.yield j) _ _=>Nat.beq i j
  |a,b=>Bs a b)&&To l m
 |_,_=>false
def WL:Option (List AV)→List AV→Bool
 |some l,m=>To l m
 |none,_=>true
def PA [Facts] (E:Env) (f:FuncId) (args:List AV) (h:Aa):Option (List AV)→List Sm→W7
  |_,[]=>.free
  |g,s::r=>match Nat.beq s.f f&&WL g s.args with
    |true=>match PO E s args h with
     | (a,h0)=>match AQ E s.pre 0 (G8 E s.pre h0 (Es s.args a ⟨.nil,.nil⟩)) h0 with
      | (m,c)=>match DQ (FZ (HT m.v 0 s.nv) (IG m.b 0 s.pre.length) s.args a) (Eo E (HT m.v 0 s.nv) (IG m.b 0 s.pre.length) c s.pre (IG m.b 0 s.pre.length)) with
        |some o=>match Vl o with
          |true=>match orE (TB o) (Nh (HT m.v 0 s.nv) s.facts) with
            |some e=>.ask e
            |none=>match PA E f args h (some s.args) r with
              |.free=>.no
              |x=>x
          |false=>PA E f args h g r
        |none=>PA E f args h g r
    |false=>PA E f args h g r
def Vp [Facts] (E:Env) (f:FuncId) (args:List AV) (h:Aa) (l:List Sm):W7:=PA E f args h none l
def Nn [Facts] (E:Env) (f:Nat):Ask→Aa→Option (Bool×AV×Aa):=fun a h=>match a with
 |.enter g args=>match J1 E g args h with
  |some r=>some r
  |none=>match args.isEmpty,Vp E g args h E.sms with
   |true,.ask _=>none
   |true,.no=>none
   |_,_=>match Bb E g args .normal with
    |some fr=>FQ E f fr.fn true {fr,cs:=[],h}
    |none=>none
 |.round l args=>match GD l args h with
  |some fr=>FQ E f fr.fn true {fr,cs:=[],h}
  |none=>none
def IP [Facts] (h:Aa):AV→Option SB
 |.asl b _ n _=>match h.blk.get b with
  |some (.arr _ y)=>match KX n y with
   |true=>none
   |false=>ask (.eql n (.lenL y))
  |_=>none
 |_=>none
def Si [Facts] (E:Env) (ts:List TypeId) (args:List AV) (h:Aa):Option SB:=
 match ts,args with
 |t::_,[s,x]=>match E.desc t with
  |some (.slice e)=>match E.kinds e with
   |some ks=>orE (orE (IP h s) (IP h x)) <| match T2 e ks (Gc E e x (Gc E e s h)) s with
    |some (a,_,_)=>match X0 e ks (Gc E e x (Gc E e s h)) a x with
     |some (_,m)=>orE (ask (.lss (.lenL a) (.c 1073741824))) (ask (.lss m (.c 1048576)))
     |none=>none
    |none=>none
   |none=>none
  |_=>none
 |_,_=>none
def On [Facts] (a:Bool):SE→List AV→Option SB
 |_,[]=>none
 |x,y::r=>match toI y with
  |some (_,b)=>match (match a with|true=>AM Facts.facts (.lss x b)|false=>AM Facts.facts (.lss b x)) with
   |some true=>On a b r
   |some false=>On a x r
   |none=>some (match a with|true=>.lss x b|false=>.lss b x)
  |none=>none
def P1 [Facts] (b:Bool):List AV→Option SB
 |y::r=>match toI y with
  |some (_,a)=>On b a r
  |none=>none
 |[]=>none
def Tj [Facts] (E:Env) (t:TypeId) (k:AV):List Aj→Option SB
 |[]=>none
 |e::r=>match eqK E t k e.key with
  |some true=>none
  |some false=>Tj E t k r
  |none=>HA E 10000 t k e.key
def Ty [Facts] (E:Env) (t:TypeId) (m k:AV) (h:Aa):Option SB:=
 match Kk E t,m with
 |some (d,e,a,b),.map r=>match Vd d e a b (h.blk.get r),Q8 a k with
  |some x,some f=>ask (.lss (.mIdx a x f) (.c 0))
  |_,_=>none
 |_,_=>none
def VB [Facts] (n:SE):Option SE→Option SE→Option SB
 |some l,some u=>orE (ask (.lss l (.c 0))) (orE (ask (.lss u l)) (ask (.lss n u)))
 |_,_=>none
def WR [U:Facts] (e:SE):Nat→Nat→Option SB
 |0,_=>none
 |n+1,j=>match AM U.facts (.eql e (.c j)) with
  |some true=>none
  |some false=>WR e n (j+1)
  |none=>some (.eql e (.c j))
def Ii [Facts] (n:Nat):AV→Option SB
 |.si _ e=>match Nat.ble n 64 with
  |true=>WR e n 0
  |false=>none
 |_=>none
def I4 [Facts] (n:Nat):Option AV→Option SB
 |some a=>Ii n a
 |none=>none
def Wv [U:Facts] (E:Env) (t:TypeId) (d x:AV) (h:Aa):Option SB:=
 match E.desc t,d with
 |some (.slice e),.slice _ _ n _=>match Q7 e h x with
  |some y=>match AM U.facts (.lss (.lenL y) (.c n)) with
   |some true=>Ii n (.si .i64 (.lenL y))
   |some false=>none
   |none=>some (.lss (.lenL y) (.c n))
  |none=>IP h x
 |_,_=>none
def MV [Facts]:SE→Option SB
 |.strc _ _=>none
 |e=>ask (.lss (.lenS e) (.c 4611686018427387904))
def Oa (E:Env) (t:TypeId):Nat:=match E.desc t with
 |some (.array n _)=>n
 |_=>0
def IS [Facts]:AV→Option SB
 |.nmap _ a=>ask a
 |.iface _ (.nmap _ a)=>ask a
 |_=>none
def Mh [Facts]:List AV→Option SB
 |[]=>none
 |a::r=>orE (IS a) (Mh r)
def Yd [Facts] (tmps:T AV):Op→Option SB
 |.lookup _ m _ _=>IS (Af tmps m)
 |.mapUpdate _ m _ _=>IS (Af tmps m)
 |.mapEntry _ m _=>IS (Af tmps m)
 |.range _ x=>IS (Af tmps x)
 |.call c=>match c.callee with
  |.builtin .append=>none
  |.builtin _=>Mh (c.args.toList.map (Af tmps))
  |.value _=>Mh (c.args.toList.map (Af tmps))
  |_=>none
 |_=>none
def XP [Facts] (E:Env) (tmps:T AV) (h:Aa) (g:Op):Option SB:=
 match g with
 |.pick c _ _=>aJ (Af tmps c)
 |.binOp .add _ x y _=>match QD (Af tmps x),QD (Af tmps y) with
  |some a,some b=>orE (MV a) (MV b)
  |_,_=>none
 |.binOp _ _ x y _=>match Af tmps x,Af tmps y with
  |.sb _ a,.sb _ b=>orE (ask a) (ask b)
  |_,.si _ b=>ask (.eql b (.c 0))
  |_,_=>none
 |.makeSlice _ l _=>match Af tmps l with
  |.si _ n=>orE (ask (.lss n (.c 0))) (ask (.lss n (.c 1048577)))
  |_=>none
 |.indexAddr _ x i=>match Af tmps x,toI (Af tmps i) with
  |.dat _ y,some (_,j)=>Qp j (.lenL (Cr y))
  |.asl _ _ n _,some (_,j)=>Qp j n
  |.slice _ _ n _,_=>Ii n (Af tmps i)
  |.ptr _ _,_=>match g with
   |.indexAddr t _ _=>Ii (Oa E t) (Af tmps i)
   |_=>none
  |_,_=>none
 |.load _ a=>match Af tmps a with
  |.aptr b _ i _=>match h.blk.get b with
   |some (.arr _ y)=>Qp i (.lenL (Cr y))
   |_=>none
  |_=>none
 |.store _ a _=>match Af tmps a with
  |.aptr b _ i _=>match h.blk.get b with
   |some (.arr _ y)=>Qp i (.lenL (Cr y))
   |_=>none
  |_=>none
 |.index _ x i=>match Af tmps x,toI (Af tmps i) with
  |.ss y,some (_,j)=>Qp j (.lenS y)
  |.agg _,_=>match g with
   |.index t _ _=>Ii (Oa E t) (Af tmps i)
   |_=>none
  |_,_=>none
 |.convert _ _ x=>IP h (Af tmps x)
 |.slice _ x lo hi _=>match Af tmps x with
  |.dat _ y=>VB (.lenL y) (G6 (.c 0) (A5 tmps lo)) (G6 (.lenL y) (A5 tmps hi))
  |.ss y=>VB (.lenS y) (G6 (.c 0) (A5 tmps lo)) (G6 (.lenS y) (A5 tmps hi))
  |.asl b o n p=>orE (IP h (.asl b o n p)) (match h.blk.get b with
   |some (.arr _ y)=>VB (.lenL y) (G6 (.c 0) (A5 tmps lo)) (G6 (.lenL y) (A5 tmps hi))
   |_=>none)
  |.slice _ _ n _=>orE (I4 (n+1) (A5 tmps lo)) (I4 (n+1) (A5 tmps hi))
  |.ptr _ _=>match g with
   |.slice t _ _ _ _=>orE (I4 (Oa E t+1) (A5 tmps lo)) (I4 (Oa E t+1) (A5 tmps hi))
   |_=>none
  |_=>none
 |.lookup t m k _=>match E.desc t,Af tmps m with
  |some (.map q _),.map r=>match h.blk.get r with
   |some (.map o _)=>Tj E q (Af tmps k) o
   |some (.dmap _ _ _)=>Ty E t (Af tmps m) (Af tmps k) h
   |_=>none
  |_,_=>none
 |.mapUpdate t m k _=>match OX (Af tmps k)||YI (TP h (Af tmps m)) with
  |true=>Ty E t (Af tmps m) (Af tmps k) h
  |false=>none
 |.mapEntry t m k=>match OX (Af tmps k)||YI (TP h (Af tmps m)) with
  |true=>Ty E t (Af tmps m) (Af tmps k) h
  |false=>none
 |.call c=>match c.callee with
  |.builtin .max=>P1 true (c.args.toList.map (Af tmps))
  |.builtin .min=>P1 false (c.args.toList.map (Af tmps))
  |.builtin .delete=>match c.argTypes.toList,c.args.toList.map (Af tmps) with
   |t::_,[m,k]=>match KJ E t m k h with
    |some _=>none
    |none=>Ty E t m k h
   |_,_=>none
  |.builtin .copy=>match c.argTypes.toList,c.args.toList.map (Af tmps) with
   |t::_,[d,x]=>match Tp E t d x h with
    |some _=>none
    |none=>Wv E t d x h
   |_,_=>none
  |.builtin .append=>Si E c.argTypes.toList (c.args.toList.map (Af tmps)) h
  |.builtin _=>none
  |_=>match aop E tmps h g with
   |.enter f args _=>match Vp E f args h E.sms with
    |.ask e=>some e
    |_=>none
   |_=>none
 |_=>none
def bM [Facts] (E:Env) (tmps:T AV) (h:Aa) (a:Op):Option SB:=orE (Yd tmps a) (XP E tmps h a)
def Xu [Facts] (E:Env) (s:AS):W7:=
 match E.sms.isEmpty with
 |true=>.free
 |false=>match s.fr.mode,s.fr.todo with
  |.run,.ops all (o::_)::_=>match Ms o.op with
   |true=>.free
   |false=>match Be all o s.fr.tmps with
    |some true=>match aop E s.fr.tmps s.h o.op with
     |.enter f args _=>Vp E f args s.h E.sms
     |_=>.free
    |_=>.free
  |.run,.code (.rangeFunc f params assign body)::k=>match D3 E s f params.toList assign body k with
   |some (g,args,a,_)=>Vp E g args a E.sms
   |none=>.free
  |_,_=>.free
def Ve (all:Array Oper) (o:Oper) (tmps:T AV):Option SB:=match o.guard with
 |some (j,_)=>match all.toList[j]? with
  |some g=>match g.dst with
   |some d=>match tmps.get d with
    |some v=>aJ v
    |none=>none
   |none=>none
  |none=>none
 |none=>none
def ZE [Facts] (E:Env) (all:Array Oper) (o:Oper) (tmps:T AV) (h:Aa):Option SB:=
 match Be all o tmps with
 |none=>Ve all o tmps
 |some _=>bM E tmps h o.op
mutual
def Tq [Facts] (E:Env):Nat→AS→Option SB
 |0,_=>none
 |n+1,s=>match s.fr.todo with
  |.code (.cond c _ _)::_=>aJ (Af s.fr.tmps c)
  |.ops all (o::_)::_=>ZE E all o s.fr.tmps s.h
  |.code (.region _ ops true)::_=>QP E n ops s.fr.nt ops.toList [] s.fr.tmps s.h
  |_=>none
def KL [Facts] (E:Env):Nat→AS→Option SB
 |0,_=>none
 |n+1,s=>match QT E s with
  |some i=>KL E n i
  |none=>match Xu E s with
   |.ask e=>some e
   |.no=>none
   |.free=>match A4 E s with
    |.next i=>KL E n i
    |.draw s ops k=>match BI E (Nn E n) ops s.fr.nt ops.toList [] s.fr.tmps s.h with
     |some (none,tmps,h)=>KL E n {s with fr:={s.fr with tmps,todo:=k},h}
     |_=>Tq E n s
    |_=>Tq E n s
def QP [Facts] (E:Env):Nat→Array Oper→Nat→List Oper→List Rc→T AV→Aa→Option SB
 |0,_,_,_,_,_,_=>none
 |_+1,_,_,[],_,_,_=>none
 |n+1,all,nt,o::rest,b,tmps,h=>match Da E (Nn E n) all o (AY tmps (Bf all o)) h with
  |some d=>match El nt tmps o.dst d.v with
   |some a=>QP E n all nt rest b a (AU h d.g)
   |none=>none
  |none=>match ZE E all o (AY tmps (Bf all o)) h with
   |some e=>some e
   |none=>match aop E tmps h o.op with
    |.enter f args _=>match Vp E f args h E.sms with
     |.ask e=>some e
     |.no=>none
     |.free=>match Bb E f args .normal with
      |some fr=>KL E n {fr,cs:=[],h}
      |none=>none
    |_=>none
end
inductive YL where
 |cut (F:List (SB×Bool)) (s:AS)
 |done (F:List (SB×Bool)) (v:AV) (h:Aa)
 |stuck (F:List (SB×Bool))
 deriving Inhabited
def BA (V:Val) (F:List (SB×Bool)):Prop:=∀e b,(e,b)∈F→Ad V e=b
def Bj (ρ:Ren) (n:Nat):Prop:=∀b,n≤b→ρ b=none
@[reducible] def Bg (v:Vals) (F:List (SB×Bool)) (h:BA v.V F):Unk:={facts:=F,toVals:=v,ok:=h}
theorem Bj.ext [v:Vals] {ρ l:Ren} {h h':Aa} {w r:World} (t:Bj ρ h.nx) (e:Ext ρ l h h' w r):Bj l h'.nx:=by
 intro b J;have:=e.nx;cases I:l b with
 |none=>rfl
 |some base=>
  rcases e.new b base I with q|⟨_,q,_⟩
  ·rw [t b (by omega)] at q;cases q
  ·omega
def YL.Good [v:Vals] (P:Program) (J:Ren) (s:AS) (c:Frame) (t:List Frame) (w:World) (base:List Frame):YL→Prop
 |.cut F I=>BA v.V F∧I.cs=[]∧∃r c' l,Steps P (lone c (t++base) w) (lone c' base l)∧SR r I c' [] l∧Ext J r s.h I.h w l
 |.done F x h=>BA v.V F∧∃r cf v' w1 l,Steps P (lone c (t++base) w) (lone cf base w1)∧IM P cf w1 true v' l∧VR r x v'∧HR r h.blk.get l∧Ext J r s.h h w l
 |.stuck F=>BA v.V F
theorem YL.Good.pre [v:Vals] {P:Program} {ρ σ:Ren} {s s':AS} {c c':Frame} {t r:List Frame} {w I:World} {base:List Frame} {l:YL} (hs:Steps P (lone c (t++base) w) (lone c' (r++base) I)) (he:Ext ρ σ s.h s'.h w I) (hf:Bj ρ s.h.nx)
  (h:l.Good P σ s' c' r I base):l.Good P ρ s c t w base:=by
 cases l with
 |cut F s2=>
  obtain ⟨J,h2,τ,c2,w2,q1,q2,q3⟩:=h;exact ⟨J,h2,τ,c2,w2,Steps.trans hs q1,q2,he.trans q3 (fun b hb _=>hf b hb)⟩
 |done F x h2=>
  obtain ⟨J,τ,cf,v',w1,w2,q1,q2,q3,q4,q5⟩:=h;exact ⟨J,τ,cf,v',w1,w2,Steps.trans hs q1,q2,q3,q4,he.trans q5 (fun b hb _=>hf b hb)⟩
 |stuck F=>exact h
theorem Pm {U:Unk} {E:Env} (hE:OK E) (hO:Ah E U.V.fn) (n:Nat):Db E (Nn E n):=by
 have q:∀(fr:AF) (g d:Aa) (ok:Bool) (v:AV) (e:Ren) (i:Frame) (w:World),FrR e fr i→HR e g.blk.get w→WF g→FQ E n fr.fn true {fr,cs:=[],h:=g}=some (ok,v,d)→AG e g.nx d.nx→
   ∀(c0:Frame) (base:List Frame),∃j m k,BH E.P (lone i (c0::base) w) c0 base ok m k∧VR j v m∧HR j d.blk.get k∧Ext e j g d w k:=by
  intro fr g d ok v e i w c hr hwf b a c0 base;obtain ⟨j,t,m,w1,k,u,B,C,x,y,z,A⟩:=VY hE hO n fr.fn true {fr,cs:=[],h:=g} e i [] w ok v d ⟨c,.nil,hr⟩ hwf b a (c0::base);refine ⟨j,m,k,?_,y,z,A⟩;have:=Steps.trans u (Steps.one (x.back c0 base));cases ok<;>exact this
 refine ⟨?_,?_⟩
 ·intro D args o g d ok v e w s hr hwf b a;simp only [Nn] at b;split at b
  ·rename_i r f;cases b;exact Ei hE hO f s hr hwf a
  ·split at b
   ·cases b
   ·cases b
   ·split at b
    ·rename_i fr c;exact q fr g d ok v e _ w (B2 hE c s) hr hwf b a
    ·cases b
 ·intro l args g d ok v e w hr hwf b a;simp only [Nn] at b;split at b
  ·rename_i fr c;exact ⟨fr,c,fun i p=>q fr g d ok v e i w p hr hwf b a⟩
  ·cases b
end Go.AE
namespace Go.AE
variable [Gl:AH]
instance adLit {n:Nat}:OfNat AD n:=⟨{fn:=none,coll:=n,captured:=[],args:=[]}⟩
structure Cut where
 key:Option Nat
 fn:FuncId
 nt:Nat
 nv:Nat
 todo:List AI
 tmps:T AV
 pre:List (Option Ag)
 facts:List (SB×Bool)
 res:AV
 post:List (Option Ag)
 ent:Nat:=0
 defs:List AD:=[]
 deriving Inhabited
def JO (l:List AD):List AD:=l
def ZA (c:List SE) (b:List Nat) (d a:AD):Bool:=
 match d.fn,a.fn with
 |none,none=>toB b d.coll a.coll
 |some f,some g=>Y6 b f g&&O9 (FZ c b d.captured a.captured)&&O9 (FZ c b d.args a.args)
 |_,_=>false
def O1 (b:List SE) (c:List Nat):List AD→List AD→Bool
 |[],[]=>true
 |d::r,a::l=>ZA b c d a&&O1 b c r l
 |_,_=>false
def VS:List (Option Ag)→Nat→Nat→T Nat→T Nat
 |some _::r,i,n+1,t=>VS r (i+1) n (t.set i i)
 |none::r,i,n+1,t=>VS r (i+1) n t
 |_,_,_,t=>t
def Cut.fr (c:Cut):AF:={fn:=c.fn,nt:=c.nt,tmps:=c.tmps,todo:=c.todo,defers:=JO c.defs,mode:=.run,kind:=.normal,round:=none}
def Cut.h (c:Cut):Aa:={blk:=A8 c.pre,nx:=c.pre.length,log:=[]}
def Cut.st (c:Cut):AS:={fr:=c.fr,cs:=[],h:=c.h}
def Cut.h' (c:Cut):Aa:={blk:=A8 c.post,nx:=c.post.length,log:=List.range c.pre.length}
def YJ (d a:AD) (m:Bd):Bd:=
 match d.fn with
 |none=>m.blk d.coll a.coll
 |some _=>Es d.args a.args (Es d.captured a.captured m)
def QO:List AD→List AD→Bd→Bd
 |d::r,a::l,m=>QO r l (YJ d a m)
 |_,_,m=>m
def QI (c:Cut) (s:AS):Bd:=QO c.defs s.fr.defers (PF c.tmps s.fr.tmps ⟨.nil,VS c.pre 0 c.ent .nil⟩)
def Cut.At (P:Program) (G:Nat→D→D) (c:Cut) (V:Val):Prop:=
 ∀(v:Vals),v.V=V→v.K=(Env.of P).kinds→V.fn=G→BA V c.facts→∀(ρ:Ren) (t:Frame) (w:World),FrR ρ c.fr t→HR ρ c.h.blk.get w→Bj ρ c.pre.length→
  ∀(c0:Frame) (base:List Frame),∃l I r,BH P (lone t (c0::base) w) c0 base true I r∧VR l c.res I∧HR l c.h'.blk.get r∧Ext ρ l c.h c.h' w r
structure VC where
 F:List (SB×Bool)
 obs:Obs
 rec_:Option (Nat×List SE×List AI)
 deriving Inhabited
def idT:Nat→T Nat→T Nat
 |0,t=>t
 |n+1,t=>idT n (t.set n n)
def Tz:Nat→Nat→List Nat→Bool
 |_,0,_=>true
 |i,n+1,b::r=>Nat.beq b i&&Tz (i+1) n r
 |_,_+1,[]=>false
def OA:List (Option Ag)→Bool
 |[]=>true
 |some _::r=>OA r
 |none::_=>false
def Tf [Facts] (E:Env) (c:Cut) (v:AV) (h:Aa):Option Obs:=
 match AQ E c.post 0 (G8 E c.post h (Gp c.res v ⟨.nil,idT c.pre.length .nil⟩)) h with
 | (m,d)=>
  let a:=IG m.b 0 c.post.length
  DO (Tz 0 c.pre.length a&&(FC c.post a&&OA (c.post.drop c.pre.length))&&Nat.ble c.pre.length c.post.length) (DQ (CO [] a c.res v) (Eo E [] a d c.post a))
def SS:List AI→Bool
 |[]=>true
 |.inRange _::_=>false
 |.endRange _::_=>false
 |.rest::_=>false
 |.dead::_=>false
 |.beginRound::_=>false
 |_::r=>SS r
def Hd.isRun:Hd→Bool
 |.run=>true
 |_=>false
def Wi:CallKind→Bool
 |.normal=>true
 |_=>false
def Je (a:List SE):List (SB×Bool)→Obs
 |[]=>[]
 | (e,b)::r=>(e.inst a,.bc b)::Je a r
def Ws [Facts] (E:Env) (c:Cut) (s:AS):Option (List SE×AV×Aa×Obs):=
 match AQ E c.pre 0 (G8 E c.pre s.h (QI c s)) s.h with
 | (m,d)=>
  let e:=HT m.v 0 c.nv
  let a:=IG m.b 0 c.pre.length
  match E3 a&&M7 d.nx a&&Nat.ble c.pre.length c.post.length&&Nat.beq s.fr.fn c.fn&&Nat.beq s.fr.nt c.nt&&O1 e a c.defs s.fr.defers&&s.fr.mode.isRun&&Wi s.fr.kind&&s.fr.round.isNone&&SS s.fr.todo with
  |true=>match DQ (leT e a c.tmps s.fr.tmps) (Eo E e a d c.pre a),DZ e (a++Dg d.nx (c.post.length-c.pre.length)) c.post (a++Dg d.nx (c.post.length-c.pre.length)) d.blk with
   |some o,some t=>some (e,c.res.inst e (a++Dg d.nx (c.post.length-c.pre.length)),{blk:=t,nx:=d.nx+(c.post.length-c.pre.length),log:=a++d.log},o++Je e c.facts)
   |_,_=>none
  |false=>none
theorem Mk:∀{l:List (Option Ag)},OA l=true→∀i,i<l.length→∃x,l[i]?=some (some x)
 |[],_,i,h=>by simp at h
 |some x::r,h,i,hi=>by
  cases i with
  |zero=>exact ⟨x,rfl⟩
  |succ i=>simpa using Mk (l:=r) h i (by simpa using hi)
 |none::_,h,_,_=>by cases h
theorem PC:∀(n i:Nat) (l:List Nat),Tz i n l=true→∀j,j<n→l[j]?=some (i+j)
 |0,i,l,h,j,a=>by omega
 |n+1,i,[],h,j,a=>by cases h
 |n+1,i,b::r,h,j,a=>by
  simp only [Tz,Bool.and_eq_true] at h;cases j with
  |zero=>simp [Nat.eq_of_beq_eq_true h.1]
  |succ j=>
   have:=PC n (i+1) r h.2 j (by omega)
   simp only [List.getElem?_cons_succ,this]
   congr 1;omega
theorem Ld {V:Val} {d:List SE}:∀{l:List (SB×Bool)},(Je d l).holds V→BA (V.inst d) l
 |[],h,e,b,f=>by cases f
 | (x,c)::r,h,e,b,f=>by
  rcases List.mem_cons.1 f with q|q
  ·cases q;have:=h (x.inst d) (.bc c) (by simp [Je])
   unfold Ad;rw [←B4,this];rfl
  ·exact Ld (fun a g h'=>h a g (by simp [Je,h'])) e b q
theorem P9 {v u:Vals} {ρ c:Ren}:∀{l:List AI} {b:List Item},SS l=true→@IL v ρ l b→@IL u c l b
 |[],b,h,hi=>by cases hi;exact .nil
 |a::r,b,h,hi=>by
  cases hi with
  |cons d hr=>
   cases d<;>simp only [SS,Bool.false_eq_true] at h<;>first | (cases h;done)|skip
   all_goals exact .cons (by constructor<;>assumption) (P9 h hr)
  |rest=>cases h
theorem M1 {U W:Unk} {p:List SE} (hV:W.V=U.V.inst p) (hK:W.K=U.K) {q:List Nat} {ρ:Ren}:∀{s:List AD} {l:List AD} {j:List Deferred},O1 p q s l=true→@DL U.toVals ρ l j→@DL W.toVals (ρ.back q) (JO s) j
 |[],[],[],_,_=>trivial
 |[],[],_::_,_,h=>h.elim
 |d::r,a::l,[],_,h=>h.elim
 |d::r,a::l,B::j,h,t=>by
  simp only [O1,Bool.and_eq_true] at h;obtain ⟨b,u⟩:=h;refine ⟨?_,M1 hV hK u t.2⟩;have e:=t.1;unfold DR at e ⊢;unfold ZA at b;cases i:d.fn with
  |none=>
   cases c:a.fn with
   |none=>
    rw [i,c] at b;rw [c] at e;obtain ⟨base,k,m⟩:=e;exact ⟨base,by rw [E2 b];exact k,m⟩
   |some g=>rw [i,c] at b;cases b
  |some f=>
   cases c:a.fn with
   |none=>rw [i,c] at b;cases b
   |some g=>
    rw [i,c] at b;rw [c] at e;simp only [Bool.and_eq_true] at b;obtain ⟨⟨v,w⟩,b3⟩:=b;obtain ⟨n,x,y,k,m,z,A⟩:=e;exact ⟨n,x,y,S6 hV hK v k,DB hV hK _ _ _ _ (Na w) (fun _ _ o=>by cases o) m,DB hV hK _ _ _ _ (Na b3) (fun _ _ o=>by cases o) z,A⟩
 |[],_::_,_,h,_=>by cases h
 |_::_,[],_,h,_=>by cases h
section
variable {E:Env} {G:Nat→D→D} (hE:∀[U:Unk],U.K=(Env.of E.P).kinds→OK E) {v:Vals} (hK:v.K=(Env.of E.P).kinds)
include hE hK
theorem V2 {F:List (SB×Bool)} (i:BA v.V F) {c:Cut} {x:AV} {S:Value} {h:Aa} {R u:Ren} {w M:World} {o:Obs} (t:@Tf ⟨F⟩ E c x h=some o) (ho:o.holds v.V) (hv:VR u x S) (hr:HR u h.blk.get M) (hwf:WF h) (he:Ext R u c.h h w M) (A:Bj R c.pre.length) :
  ∃T,VR T c.res S∧HR T c.h'.blk.get M∧Ext R T c.h c.h' w M:=by
 have X:@OK _ (Bg v F i) E:=hE (U:=Bg v F i) hK;have C:Bj u h.nx:=Bj.ext (h:=c.h) A he;unfold Tf at t;split at t;rename_i m h1 Y;obtain ⟨hc,t⟩:=A2 t;obtain ⟨o1,o2,Z,N,rfl⟩:=BK t;obtain ⟨aa,O⟩:=Obs.append ho;generalize af:IG m.b 0 c.post.length=L at *;have e2:(@AQ ⟨F⟩ E c.post 0 (@G8 ⟨F⟩ E c.post h (Gp c.res x ⟨.nil,idT c.pre.length .nil⟩)) h).2=h1:=by rw [Y]
 obtain ⟨q1,q2,q3⟩:=Bn (U:=Bg v F i) (E:=E) c.post 0 (@G8 ⟨F⟩ E c.post h (Gp c.res x ⟨.nil,idT c.pre.length .nil⟩)) h hr hwf (fun b b1 _=>C b b1)
 rw [e2] at q1 q2 q3;have f:Ext R u c.h h1 w M:=he.trans q2 (fun b l _=>A b l)
 simp only [Bool.and_eq_true] at hc;obtain ⟨⟨H,ab,Q⟩,n⟩:=hc;have H:=PC _ _ _ H;have n:c.pre.length≤c.post.length:=Nat.le_of_ble_eq_true n;have hV:(Bg v F i).V=(Bg v F i).V.inst []:=rfl;have p1:=G5 (U:=Bg v F i) (W:=Bg v F i) hV rfl c.res x o1 S Z aa hv;have p2:=HR.toPatL (U:=Bg v F i) (W:=Bg v F i) hV rfl X q1 N O ab;obtain ⟨l1,l2⟩:=De (U:=Bg v F i) (W:=Bg v F i) hV rfl c.post L o2 N O;have g:∀j,j<c.pre.length→L[j]?=some j:=fun j hj=>by have:=H j hj;simpa using this
 refine ⟨u.back L,p1,p2,⟨⟨fun b base l=>?_,fun k a hk=>f.le.imm k a hk⟩,n,fun b base l=>?_,f.calm,f.kept,⟨List.range c.pre.length,by simp [Cut.h',Cut.h],fun b l hr=>?_⟩,fun b l=>?_,f.imm⟩⟩
 ·have I:b<c.pre.length:=by
   rcases Nat.lt_or_ge b c.pre.length with q|q
   ·exact q
   ·rw [A b q] at l;cases l
  show (L[b]?).bind u.m=some base;rw [g b I];exact f.le.m b base l
 ·have B:(L[b]?).bind u.m=some base:=l;cases e:L[b]? with
  |none=>rw [e] at B;cases B
  |some d=>
   rw [e] at B;have J:u d=some base:=B;rcases f.new d base J with q|⟨a1,a2,a3⟩
   ·have I:d<c.pre.length:=by
     rcases Nat.lt_or_ge d c.pre.length with p|p
     ·exact p
     ·rw [A d p] at q;cases q
    rcases Nat.lt_or_ge b c.pre.length with p|p
    ·rw [g b p] at e;cases e;exact .inl q
    ·have ag:=(List.getElem?_eq_some_iff.1 e).1;have ac:b<c.post.length:=by omega
     obtain ⟨y,hy⟩:=Mk Q (b-c.pre.length) (by simp;omega)
     rw [List.getElem?_drop,show c.pre.length+(b-c.pre.length)=b by omega] at hy
     obtain ⟨d',z,_,a1,a2,_,_⟩:=l2 b y hy;rw [e] at a1;cases a1;refine .inr ⟨p,ac,.inr ⟨d,base,q,?_,rfl⟩⟩;rcases f.live d (by rw [a2];exact Option.some_ne_none _) with r|⟨r,_⟩
     ·exact r
     ·have:c.pre.length≤d:=r;omega
   ·have ad:c.pre.length≤b:=by
     rcases Nat.lt_or_ge b c.pre.length with p|p
     ·rw [g b p] at e;cases e;have:c.pre.length≤b:=a1;omega
     ·exact p
    have I:=(List.getElem?_eq_some_iff.1 e).1;exact .inr ⟨ad,by show b<c.post.length;omega,a3⟩
 ·have ae:c.pre.length≤b:=by
   rcases Nat.lt_or_ge b c.pre.length with q|q
   ·exact absurd (List.mem_range.2 q) l
   ·exact q
  have J:c.post.length≤b:=by
   rcases hr with q|q
   ·have:b<c.pre.length:=q;omega
   ·exact q
  show (A8 c.post).get b=(A8 c.pre).get b;rw [Cj,Cj,List.getElem?_eq_none J,List.getElem?_eq_none ae]
 ·have s:(A8 c.post).get b≠none:=l;rw [Cj] at s;cases t:c.post[b]? with
  |none=>rw [t] at s;exact absurd rfl s
  |some ox=>
   cases ox with
   |none=>rw [t] at s;exact absurd rfl s
   |some y=>
    obtain ⟨d,z,_,a1,a2,_,_⟩:=l2 b y t;rcases Nat.lt_or_ge b c.pre.length with q|q
    ·rw [g b q] at a1;cases a1;rcases f.live b (by rw [a2];exact Option.some_ne_none _) with r|⟨r,_⟩
     ·exact .inl r
     ·have:c.pre.length≤b:=r;omega
    ·exact .inr ⟨q,(List.getElem?_eq_some_iff.1 t).1⟩
end
end Go.AE
namespace Go.AE
variable [Gl:AH]
structure VC.Holds (G:Nat→D→D) (Pre:Nat→Val→Prop) (μ:Nat→Val→Nat) (i:Nat) (V:Val) (vc:VC):Prop where
 obs:vc.obs.holds V
 rec_:∀j θ td,vc.rec_=some (j,θ,td)→Pre j (V.inst θ)∧μ j (V.inst θ)<μ i V
theorem JN (l:List (Option Ag)) (n:List Nat):WF {blk:=A8 l,nx:=l.length,log:=n}:=by
 intro b a;show (A8 l).get b=none;rw [Cj,List.getElem?_eq_none a];rfl
def Cut.sm (c:Cut) (args:List AV):Sm:={f:=c.fn,nv:=c.nv,args,pre:=c.pre,facts:=c.facts,res:=c.res,post:=c.post}
def D2 (E:Env) (f:FuncId) (args:List AV):AF:=match Bb E f args .normal with
 |some fr=>fr
 |none=>default
def Fm (E:Env) (f:FuncId) (nv:Nat) (args:List AV) (pre:List (Option Ag)) (facts:List (SB×Bool)) (res:AV) (post:List (Option Ag)):Cut:=
 {key:=none,fn:=f,nt:=(D2 E f args).nt,nv,todo:=(D2 E f args).todo,tmps:=(D2 E f args).tmps,pre,facts,res,post}
theorem sm_ok {E:Env} {G:Nat→D→D} (hE:∀[U:Unk],U.K=(Env.of E.P).kinds→OK E) {f nv:Nat} {args:List AV} {pre:List (Option Ag)} {facts:List (SB×Bool)} {res:AV} {post:List (Option Ag)} (k:(Bb E f args .normal).isSome=true)
  (h:∀V:Val,V.fn=G→BA V facts→(Fm E f nv args pre facts res post).At E.P G V):Sm.Valid E.P G {f,nv,args,pre,facts,res,post}:=by
 intro U hK l a m w d n hr g c0 base;cases b:Bb E f args .normal with
 |none=>rw [b] at k;cases k
 |some fr=>
  have i:=B2 (hE hK) b n
  have e:(Fm E f nv args pre facts res post).fr=fr:=by
   unfold Bb at b;split at b
   ·rename_i fn j;split at b
    ·rename_i c o;cases b;simp [Cut.fr,Fm,D2,Bb,j,o,JO]
    ·cases b
   ·cases b
  exact h U.V l a U.toVals rfl hK l a m _ w (by rw [e];exact i) hr g c0 base
end Go.AE
namespace Go.AE
variable [Gl:AH]
inductive Tr (α:Type) where
 |leaf (a:α)
 |split (e:SB) (t f:Tr α)
 deriving Inhabited
inductive Lf where
 |cut (s:AS)
 |done (ok:Bool) (v:AV) (h:Aa)
 |stuck
 deriving Inhabited
def Lf.Good [v:Vals] (P:Program) (f0:FuncId) (ρ:Ren) (s:AS) (c:Frame) (t:List Frame) (w:World) (base:List Frame) (F:List (SB×Bool)):Lf→Prop
 |.cut J=>BA v.V F∧J.cs=[]∧∃r c' l,Steps P (lone c (t++base) w) (lone c' base l)∧SR r J c' [] l∧Ext ρ r s.h J.h w l
 |.done ok x h=>BA v.V F∧∃r I v' w1 l,Steps P (lone c (t++base) w) (lone I base w1)∧I.fn=f0∧I.roundOf=none∧IM P I w1 ok v' l∧VR r x v'∧HR r h.blk.get l∧Ext ρ r s.h h w l
 |.stuck=>BA v.V F
theorem Lf.Good.pre [v:Vals] {P:Program} {f0:FuncId} {ρ σ:Ren} {s s':AS} {c c':Frame} {t r:List Frame} {w I:World} {base:List Frame} {F:List (SB×Bool)} {l:Lf} (hs:Steps P (lone c (t++base) w) (lone c' (r++base) I)) (he:Ext ρ σ s.h s'.h w I) (hf:Bj ρ s.h.nx)
  (h:l.Good P f0 σ s' c' r I base F):l.Good P f0 ρ s c t w base F:=by
 cases l with
 |cut s2=>
  obtain ⟨J,h2,τ,c2,w2,q1,q2,q3⟩:=h;exact ⟨J,h2,τ,c2,w2,Steps.trans hs q1,q2,he.trans q3 (fun b hb _=>hf b hb)⟩
 |done ok x h2=>
  obtain ⟨J,τ,cf,v',w1,w2,q1,q2,q3,q4,q5,q6,q7⟩:=h;exact ⟨J,τ,cf,v',w1,w2,Steps.trans hs q1,q2,q3,q4,q5,q6,he.trans q7 (fun b hb _=>hf b hb)⟩
 |stuck=>exact h
def Qh (e:SB):Option (Tr Lf)→Option (Tr Lf)→Option (Tr Lf)
 |some a,some b=>some (.split e a b)
 |_,_=>none
def Tr.way {l:Type} (V:Val):Tr l→List (SB×Bool)→l×List (SB×Bool)
 |.leaf a,F=>(a,F)
 |.split e t f,F=>match Ad V e with
  |true=>t.way V ((e,true)::F)
  |false=>f.way V ((e,false)::F)
def Tr.get {l:Type} (V:Val):Tr l→l
 |.leaf a=>a
 |.split e t f=>match Ad V e with
  |true=>t.get V
  |false=>f.get V
def Z1 (keys:List Nat) (s:AS):Bool:=
 match s.cs,s.fr.mode,s.fr.todo with
 |[],.run,.code (.region id _ _)::_=>MG (id+1000000) keys
 |_,_,_=>false
def G9 (E:Env) (keys:List Nat) (a:FuncId):Nat→List (SB×Bool)→AS→Option (Tr Lf)
 |0,_,_=>some (.leaf .stuck)
 |n+1,F,s=>
  let part (_:Unit):Option (Tr Lf):=match @Tq ⟨F⟩ E n s with
   |some e=>match AM F e with
    |none=>Qh e (G9 E keys a n ((e,true)::F) s) (G9 E keys a n ((e,false)::F) s)
    |some _=>some (.leaf .stuck)
   |none=>some (.leaf .stuck)
  match @QT ⟨F⟩ E s with
  |some c=>G9 E keys a n F c
  |none=>match @Xu ⟨F⟩ E s with
  |.ask e=>Qh e (G9 E keys a n ((e,true)::F) s) (G9 E keys a n ((e,false)::F) s)
  |.no=>some (.leaf .stuck)
  |.free=>match @A4 ⟨F⟩ E s with
   |.next c=>match ZV keys s with
    |true=>some (.leaf (.cut c))
    |false=>match Z1 keys c with
     |true=>some (.leaf (.cut c))
     |false=>G9 E keys a n F c
   |.done ok v h=>match s.fr.round.isNone&&Nat.beq s.fr.fn a with
    |true=>some (.leaf (.done ok v h))
    |false=>some (.leaf .stuck)
   |.draw b ops k=>match @BI ⟨F⟩ E (@Nn ⟨F⟩ E n) ops b.fr.nt ops.toList [] b.fr.tmps b.h with
    |some (none,tmps,h)=>G9 E keys a n F {b with fr:={b.fr with tmps,todo:=k},h}
    |some (some v,tmps,h)=>G9 E keys a n F {b with fr:={b.fr with tmps,todo:=.dead::k,mode:=.panic [(v,false)]},h}
    |none=>part ()
   |.bad _=>part ()
theorem X5 {E:Env} {keys:List Nat} {R:FuncId} {G:Nat→D→D} (hE:∀[U:Unk],U.K=(Env.of E.P).kinds→OK E) (hO:Ah E G) [v:Vals] (hK:v.K=(Env.of E.P).kinds) (hG:v.V.fn=G) (base:List Frame) :
  ∀(n:Nat) (F:List (SB×Bool)) (s:AS) (t:Tr Lf),G9 E keys R n F s=some t→BA v.V F→∀(y:Ren) (c:Frame) (f:List Frame) (w:World),SR y s c f w→WF s.h→Bj y s.h.nx→(t.way v.V F).1.Good E.P R y s c f w base (t.way v.V F).2:=by
 subst hG;intro n
 induction n with
 |zero=>intro F s t h g y c f w _ _ _;cases h;exact g
 |succ n ih=>
  intro F s t j g y c f w l hwf A;have r:@OK _ (Bg v F g) E:=hE (U:=Bg v F g) hK;have S:∀m,AG y s.h.nx m:=fun m b Y _=>A b Y
  simp only [G9] at j
  generalize i:(match @Tq ⟨F⟩ E n s with
   |some e=>match AM F e with
    |none=>Qh e (G9 E keys R n ((e,true)::F) s) (G9 E keys R n ((e,false)::F) s)
    |some _=>some (.leaf .stuck)
   |none=>some (.leaf .stuck))=pt at j
  have B:∀e,Qh e (G9 E keys R n ((e,true)::F) s) (G9 E keys R n ((e,false)::F) s)=some t→(t.way v.V F).1.Good E.P R y s c f w base (t.way v.V F).2:=by
   intro e W;unfold Qh at W;split at W
   ·rename_i a b ha Y;cases W;simp only [Tr.way];cases he:Ad v.V e with
    |true=>
     exact ih _ _ _ ha (fun e' b' X=>by
      rcases List.mem_cons.1 X with q|q
      ·cases q;exact he
      ·exact g e' b' q) y c f w l hwf A
    |false=>
     exact ih _ _ _ Y (fun e' b' X=>by
      rcases List.mem_cons.1 X with q|q
      ·cases q;exact he
      ·exact g e' b' q) y c f w l hwf A
   ·cases W
  have Z:pt=some t→(t.way v.V F).1.Good E.P R y s c f w base (t.way v.V F).2:=by
   intro W;subst W;split at i
   ·rename_i e _;split at i
    ·exact B e i
    ·cases i;exact g
   ·cases i;exact g
  have go:∀(C:AS) (u:Ren) (T:Frame) (d:List Frame) (w1:World),Steps E.P (lone c (f++base) w) (lone T (d++base) w1)→SR u C T d w1→Ext y u s.h C.h w w1→G9 E keys R n F C=some t→(t.way v.V F).1.Good E.P R y s c f w base (t.way v.V F).2:=by
   intro C u T d w1 h1 h2 h3 h4;exact (ih F C t h4 g u T d w1 h2 (Ext.wf (U:=Bg v F g) h3 hwf) (A.ext h3)).pre h1 h3 A
  split at j
  ·rename_i C aa;obtain ⟨u,H,d,I,J,z,L⟩:=KY (U:=Bg v F g) r hO l hwf aa (S _) base;exact go C u H d I J z L j
  split at j
  ·exact B _ j
  ·cases j;exact g
  ·split at j
   ·rename_i C o;obtain ⟨u,H,d,I,J,z,L⟩:=Gx (U:=Bg v F g) (base:=base) r l o (S _);split at j
    ·rename_i M;cases j
     have N:C.cs=[]:=by
      unfold ZV at M;split at M
      ·rename_i e1 e2 e3;simp only [A4,e2,e3] at o;cases o;exact e1
      ·rename_i e1 e2 e3;simp only [A4,e2,e3] at o;cases o;exact e1
      ·cases M
     have O:d=[]:=by
      have:=z.cs;rw [N] at this;cases this;rfl
     subst O;exact ⟨g,N,u,H,I,Steps.one J,z,L⟩
    ·split at j
     ·rename_i Q;cases j
      have N:C.cs=[]:=by
       unfold Z1 at Q;split at Q
       ·assumption
       ·cases Q
      have O:d=[]:=by
       have:=z.cs;rw [N] at this;cases this;rfl
      subst O;exact ⟨g,N,u,H,I,Steps.one J,z,L⟩
     ·exact go C u H d I (Steps.one J) z L j
   ·rename_i ac v' h' o;split at j
    ·rename_i Y;cases j;obtain ⟨rfl,x,I,J,z,L,q4⟩:=HJ (U:=Bg v F g) r l o;obtain ⟨b2,b3⟩:=An (U:=Bg v F g) Y;have p:=l.fr.round;rw [Option.isNone_iff_eq_none] at b2;rw [b2] at p
     have ab:c.roundOf=none:=by
      cases hz:c.roundOf with
      |none=>rfl
      |some=>rw [hz] at p;exact p.elim
     exact ⟨g,y,c,x,w,I,Steps.refl _ _,l.fr.fn.trans (Ay b3),ab,q4,J,z,L⟩
    ·cases j;exact g
   ·rename_i s2 ops k o;obtain ⟨rfl,X,id,ht⟩:=CI (U:=Bg v F g) o;split at j
    ·rename_i tmps h1 hd;obtain ⟨u,T,I,J,z,L⟩:=FN (U:=Bg v F g) r (Pm (U:=Bg v F g) r hO n) l hwf X ht hd (S _) base;exact go _ u T f I J z L j
    ·rename_i tmps h1 hd;obtain ⟨u,T,I,J,z,L⟩:=FN (U:=Bg v F g) r (Pm (U:=Bg v F g) r hO n) l hwf X ht hd (S _) base;exact go _ u T f I J z L j
    ·exact Z j
   ·exact Z j
end Go.AE
namespace Go.AE
variable [Gl:AH]
def SE.fits (n m:Nat):SE→Bool
 |.c _=>true
 |.var i=>Nat.blt i n
 |.lenS a=>a.fits n m
 |.lenL a=>a.fits n m
 |.arith _ _ a b=>a.fits n m&&b.fits n m
 |.conv _ a=>a.fits n m
 |.lss a b=>a.fits n m&&b.fits n m
 |.eql a b=>a.fits n m&&b.fits n m
 |.eqS a _ _=>a.fits n m
 |.eqSS a b=>a.fits n m&&b.fits n m
 |.isNil a=>a.fits n m
 |.bc _=>true
 |.neg a=>a.fits n m
 |.and a b=>a.fits n m&&b.fits n m
 |.nilIs a b=>a.fits n m&&b.fits n m
 |.strc _ _=>true
 |.strAt a b=>a.fits n m&&b.fits n m
 |.strCat a b=>a.fits n m&&b.fits n m
 |.strSub a b x=>a.fits n m&&b.fits n m&&x.fits n m
 |.cell a i _=>a.fits n m&&i.fits n m
 |.sel a _=>a.fits n m
 |.nilL=>true
 |.emptyL=>true
 |.snoc a r=>a.fits n m&&r.fits n m
 |.upd a i _ x=>a.fits n m&&i.fits n m&&x.fits n m
 |.rep a b=>a.fits n m&&b.fits n m
 |.cat a b=>a.fits n m&&b.fits n m
 |.sub a b x=>a.fits n m&&b.fits n m&&x.fits n m
 |.rnil=>true
 |.rcons a b=>a.fits n m&&b.fits n m
 |.app f a=>Nat.blt f m&&a.fits n m
 |.bytes a=>a.fits n m
 |.ofBytes a=>a.fits n m
 |.mIdx _ a k=>a.fits n m&&k.fits n m
 |.rmv a i=>a.fits n m&&i.fits n m
structure Val.Alike (n m:Nat) (V W:Val):Prop where
 d:∀i,i<n→V.d i=W.d i
 fn:∀i,i<m→V.fn i=W.fn i
theorem SE.fits_ok {n m:Nat} {V W:Val} (h:V.Alike n m W):∀e:SE,e.fits n m=true→Ab V e=Ab W e:=by
 intro e
 induction e<;>intro l<;>(try simp only [SE.fits,Bool.and_eq_true] at l)<;>simp only [Ab]
 case var i=>exact h.d i (by simpa [Nat.blt_eq] using l)
 case app f x ih=>rw [ih l.2,h.fn f (by simpa [Nat.blt_eq] using l.1)]
 all_goals simp_all only [forall_const]
def j8 (g:Nat) (st:SE):SE→Bool
 |.app b a=>Nat.beq g b&&st.same a
 |_=>false
def Bc (g:Nat) (st:SE) (f:Nat→SE):SE→SE
 |.sel a j=>match j8 g st a with
  |true=>f j
  |false=>.sel (Bc g st f a) j
 |.c n=>.c n
 |.var i=>.var i
 |.lenS a=>.lenS (Bc g st f a)
 |.lenL a=>.lenL (Bc g st f a)
 |.arith d k a b=>.arith d k (Bc g st f a) (Bc g st f b)
 |.conv k a=>.conv k (Bc g st f a)
 |.lss a b=>.lss (Bc g st f a) (Bc g st f b)
 |.eql a b=>.eql (Bc g st f a) (Bc g st f b)
 |.eqS a l b=>.eqS (Bc g st f a) l b
 |.eqSS a b=>.eqSS (Bc g st f a) (Bc g st f b)
 |.isNil a=>.isNil (Bc g st f a)
 |.bc b=>.bc b
 |.neg a=>.neg (Bc g st f a)
 |.and a b=>.and (Bc g st f a) (Bc g st f b)
 |.nilIs a b=>.nilIs (Bc g st f a) (Bc g st f b)
 |.strc l b=>.strc l b
 |.strAt a i=>.strAt (Bc g st f a) (Bc g st f i)
 |.strCat a b=>.strCat (Bc g st f a) (Bc g st f b)
 |.strSub a lo hi=>.strSub (Bc g st f a) (Bc g st f lo) (Bc g st f hi)
 |.cell a i j=>.cell (Bc g st f a) (Bc g st f i) j
 |.nilL=>.nilL
 |.emptyL=>.emptyL
 |.snoc a r=>.snoc (Bc g st f a) (Bc g st f r)
 |.upd a i j x=>.upd (Bc g st f a) (Bc g st f i) j (Bc g st f x)
 |.rep n r=>.rep (Bc g st f n) (Bc g st f r)
 |.cat a b=>.cat (Bc g st f a) (Bc g st f b)
 |.sub a lo hi=>.sub (Bc g st f a) (Bc g st f lo) (Bc g st f hi)
 |.rnil=>.rnil
 |.rcons x r=>.rcons (Bc g st f x) (Bc g st f r)
 |.app h x=>.app h (Bc g st f x)
 |.bytes a=>.bytes (Bc g st f a)
 |.ofBytes a=>.ofBytes (Bc g st f a)
 |.mIdx ks a k=>.mIdx ks (Bc g st f a) (Bc g st f k)
 |.rmv a i=>.rmv (Bc g st f a) (Bc g st f i)
theorem TD {V:Val} {g:Nat} {st:SE} {f:Nat→SE} (b:∀j,Ab V (f j)=Ab V (.sel (.app g st) j)):∀e:SE,Ab V (Bc g st f e)=Ab V e:=by
 intro e
 induction e
 case sel a j ih=>
  simp only [Bc];split
  ·rename_i h;rw [b];cases a<;>simp only [j8,Bool.false_eq_true,Bool.and_eq_true] at h
   rw [Ay h.1,SE.same_ok (U:=G7) h.2]
  ·simp only [Ab,ih]
 all_goals simp_all only [Bc,Ab]
def Fk (step:D→Option (D ⊕ D)):Nat→D→Option D
 |0,_=>none
 |n+1,d=>match step d with
  |none=>none
  |some (.inr r)=>some r
  |some (.inl a)=>Fk step n a
theorem Ng {step:D→Option (D ⊕ D)}:∀{n m:Nat} {d r s:D},Fk step n d=some r→Fk step m d=some s→r=s
 |0,_,_,_,_,h,_=>by cases h
 |_+1,0,_,_,_,_,h=>by cases h
 |n+1,m+1,d,r,s,h,k=>by
  simp only [Fk] at h k;split at h
  ·cases h
  ·rename_i x a;rw [a] at k;cases h;cases k;rfl
  ·rename_i b a;rw [a] at k;exact Ng h k
class Ax where
 f:(D→Option (D ⊕ D))→D→D
 run:∀{step:D→Option (D ⊕ D)} {n:Nat} {d r:D},Fk step n d=some r→f step d=r
 or:∀(step:D→Option (D ⊕ D)) (d:D),f step d=.row []∨∃n,Fk step n d=some (f step d)
theorem XH:Nonempty Ax:=by
 classical
 have key:∀(step:D→Option (D ⊕ D)) (d:D),∃r,(∀n s,Fk step n d=some s→r=s)∧(r=.row []∨∃n,Fk step n d=some r):=by
  intro step d;by_cases h:∃r n,Fk step n d=some r
  ·obtain ⟨r,n,hr⟩:=h;exact ⟨r,fun m s a=>Ng hr a,.inr ⟨n,hr⟩⟩
  ·exact ⟨.row [],fun m s a=>absurd ⟨s,m,a⟩ h,.inl rfl⟩
 exact ⟨⟨fun step d=>Classical.choose (key step d),fun {step n d r} h=>(Classical.choose_spec (key step d)).1 n r h,fun step d=>(Classical.choose_spec (key step d)).2⟩⟩
section
variable [Ax]
def Cg (step:D→Option (D ⊕ D)) (d:D):D:=Ax.f step d
theorem Ev {step:D→Option (D ⊕ D)} {n:Nat} {d r:D} (h:Fk step n d=some r):Cg step d=r:=Ax.run h
theorem E9 (step:D→Option (D ⊕ D)) (d:D):Cg step d=.row []∨∃n,Fk step n d=some (Cg step d):=Ax.or step d
theorem Pn {step:D→Option (D ⊕ D)} {d r:D} (h:step d=some (.inr r)):Cg step d=r:=Ev (n:=1) (by simp [Fk,h])
theorem P5 {step:D→Option (D ⊕ D)} {d a:D} (h:step d=some (.inl a)):Cg step d=Cg step a:=by
 rcases E9 step a with q|⟨n,c⟩
 ·rcases E9 step d with e|⟨m,b⟩
  ·rw [q,e]
  ·cases m with
   |zero=>cases b
   |succ m=>
    simp only [Fk,h] at b;exact (Ev b).symm
 ·exact Ev (n:=n+1) (by simp only [Fk,h];exact c)
end
end Go.AE
namespace Go.AE
variable [Gl:AH]
structure Pt where
 key:Option Nat
 nt:Nat
 nv:Nat
 todo:List AI
 tmps:T AV
 pre:List (Option Ag)
 facts:List (SB×Bool)
 defs:List AD:=[]
 deriving Inhabited
structure Sh where
 m:Nat
 res:AV
 post:List (Option Ag)
 keep:List Nat
 keepC:List (Nat×List Nat):=[]
 ok:Bool:=true
 deriving Inhabited
structure Dec where
 g:Nat
 f:FuncId
 p:Nat
 pts:List Pt
 shs:List Sh
 deriving Inhabited
inductive Plf where
 |stuck
 |done (s:Nat) (parts:List SE)
 |next (j:Nat) (θ:List SE)
 deriving Inhabited
def Ym:List SE→SE
 |[]=>.rnil
 |x::r=>.rcons x (Ym r)
def stE (i:Nat) (a:List SE):SE:=.rcons (.c i) (Ym a)
def CW:Nat→Nat→List SE
 |_,0=>[]
 |i,n+1=>.var i::CW (i+1) n
def Pa (g j:Nat) (a:List SE) (s:Nat):SE:=.eql (.sel (.app g (stE j a)) 0) (.c (s+1:Nat))
theorem NA (V:Val):∀l:List SE,Ab V (Ym l)=.row (l.map (Ab V))
 |[]=>rfl
 |x::r=>by simp only [Ym,Ab,NA V r,D.cells,List.map_cons]
theorem IV (V:Val) (i:Nat) (l:List SE):Ab V (stE i l)=.row (.int i::l.map (Ab V)):=by
 simp only [stE,Ab,NA,D.cells]
theorem FE (V:Val):∀(n i:Nat),(CW i n).map (Ab V)=(List.range n).map fun j=>V.d (i+j)
 |0,i=>rfl
 |n+1,i=>by
  simp only [CW,List.map_cons,FE V n (i+1),List.range_succ_eq_map,List.map_map];refine congr (congrArg _ ?_) ?_
  ·simp [Ab]
  ·apply List.map_congr_left;intro j _;show V.d (i+1+j)=V.d (i+(j+1));congr 1;omega
def dq (g:Nat) (st:SE):Nat→Nat→List SE
 |_,0=>[]
 |j,n+1=>.sel (.app g st) j::dq g st (j+1) n
def Rf:Nat→Nat→List Nat
 |_,0=>[]
 |i,n+1=>i::Rf (i+1) n
def ZQ [Facts] (a:List SE) (b:List Nat):Option Ag→Option Ag
 |some x=>x.inst a b
 |none=>none
def cellsOf (i:Nat):List (Nat×List Nat)→List Nat
 |[]=>[]
 | (j,l)::r=>match Nat.beq i j with
  |true=>l
  |false=>cellsOf i r
def Wr (c:T AV):List Nat→T AV→T AV
 |[],t=>t
 |j::r,t=>match c.get j with
  |some a=>Wr c r (t.set j a)
  |none=>Wr c r t
def kD (l:List Nat) (y:Ag) (x:Option Ag):Option Ag:=match l with
 |[]=>x
 |_=>match x,y with
  |some (.cells n c),.cells _ d=>some (.cells n (Wr d l c))
  |x,_=>x
def O4 [Facts] (a:List SE) (b:List Nat) (keep:List Nat) (keepC:List (Nat×List Nat)):Nat→Nat→List (Option Ag)→List (Option Ag)→List (Option Ag)
 |_,0,_,_=>[]
 |i,n+1,x::c,y::d=>(match y with
  |some y=>(match MG i keep with
   |true=>some y
   |false=>kD (cellsOf i keepC) y (ZQ a b x))
  |none=>none)::O4 a b keep keepC (i+1) n c d
 |i,n+1,_,_=>none::O4 a b keep keepC (i+1) n [] []
@[reducible] def Oi:Facts:=⟨[]⟩
def B6 (d:Dec) (i:Nat) (a:Pt) (s:Nat) (b:Sh):Cut:=
 let c:=dq d.g (stE i (CW 0 a.nv)) 1 b.m
 let e:=Rf 0 d.p++Rf a.pre.length (b.post.length-d.p)
 {key:=a.key,fn:=d.f,nt:=a.nt,nv:=a.nv,todo:=a.todo,tmps:=a.tmps,pre:=a.pre,facts:=a.facts++[(Pa d.g i (CW 0 a.nv) s,true)],
  res:=@AV.inst Oi c e b.res,post:=@O4 Oi c e b.keep b.keepC 0 d.p b.post a.pre++List.replicate (a.pre.length-d.p) none++(b.post.drop d.p).map (@ZQ Oi c e),ent:=d.p,defs:=a.defs}
def Ru:SE→SE
 |.and x (.bc true)=>x
 |x=>x
theorem U0 (V:Val) (x:SE):Ad V (Ru x)=Ad V x:=by
 unfold Ru;split
 ·rename_i x;show Ad V x=((Ad V x)&&true);rw [Bool.and_true]
 ·rfl
def SP (F:List (SB×Bool)) (g:Nat) (st:SE) (f:Nat→SE) (a:SE) (p:SE×SE):Bool:=
 match ((Bc g st f p.1).norm).same ((Bc g st f p.2).norm) with
 |true=>true
 |false=>match p.2.norm with
  |.bc c=>p.1.isB&&(match AM F (Ru p.1) with
   |some d=>d==c
   |none=>c&&p.1.norm.same a.norm)
  |_=>false
def Gf (F:List (SB×Bool)) (g:Nat) (st:SE) (f:Nat→SE) (a:SE):Obs→Bool
 |[]=>true
 |p::r=>match SP F g st f a p with
  |true=>Gf F g st f a r
  |false=>false
def aQ [Facts] (E:Env) (p a:AV) (h:Aa):AV×Aa:=
 match p,a with
 |.tuple c,.tuple d=>match P0 E c d h with
  | (b,e)=>(.tuple b,e)
 |p,a=>Pq E p a h
theorem XV {U:Unk} {E:Env} (hE:OK E) {w:World} {p a f:AV} {v:Value} {d:Ren} {h h':Aa} (hr:HR d h.blk.get w) (g:VR d a v) (b:aQ E p a h=(f,h')) :
  h'.nx=h.nx∧∃c:Ren,VR c f v∧HR c h'.blk.get w∧Ext d c h h' w w:=by
 unfold aQ at b;split at b
 ·rename_i r s;split at b;rename_i e t j;cases b;cases g with
  |tuple _ k l m=>
   obtain ⟨n,c,i,o,q⟩:=OY hE hr ⟨l,m⟩ j;exact ⟨n,c,.tuple e k i.1 i.2,o,q⟩
 ·exact PT hE hr g b
def KN [Facts] (E:Env) (c:Cut) (v:AV) (h:Aa):AV×Aa:=match aQ E c.res v h with
 | (v,h)=>(v,DU E c.post 0 (G8 E c.post h (Gp c.res v ⟨.nil,idT c.pre.length .nil⟩)).b h)
theorem RV {U:Unk} {E:Env} (hE:OK E) {w:World} {c:Cut} {a e:AV} {v:Value} {f:Ren} {h h':Aa} (hr:HR f h.blk.get w) (k:VR f a v) (g:KN E c a h=(e,h')) :
  h'.nx=h.nx∧∃d:Ren,VR d e v∧HR d h'.blk.get w∧Ext f d h h' w w:=by
 unfold KN at g;split at g;rename_i x i l;cases g;obtain ⟨s,d,m,n,o⟩:=XV hE hr k l;obtain ⟨t,p,q,j⟩:=Bw hE c.post 0 (G8 E c.post i (Gp c.res e ⟨.nil,idT c.pre.length .nil⟩)).b i d n;exact ⟨by omega,p,m.mono j.le,q,o.trans j (fun b u r=>by omega)⟩
def KQ [Facts] (E:Env) (c:Cut) (s:AS):AS:={s with h:=DU E c.pre 0 (G8 E c.pre s.h (QI c s)).b s.h}
def TX:List SE→List SE→Bool
 |[],[]=>true
 |a::l,b::m=>a.norm.same b.norm&&TX l m
 |_,_=>false
def dm (s:Nat) (cs:List SE):Nat→SE
 |0=>.c (s+1:Nat)
 |k+1=>cs.getD k (.bc false)
def ix (g j:Nat) (a:List SE) (k:Nat):SE:=.sel (.app g (stE j a)) k
def OO (E:Env) (d:Dec) (i:Nat) (b:Pt) (F:List (SB×Bool)) (l:Lf) (m:Plf) (s:Nat) (a:Sh):Bool:=
  match m,l with
  |.stuck,_=>true
  |.done n cs,.done ok v h=>match Nat.beq n s with
    |false=>true
    |true=>match ok==a.ok with
     |false=>false
     |true=>match @KN ⟨F⟩ E (B6 d i b s a) v h with
      | (v,h)=>match @Tf ⟨F⟩ E (B6 d i b s a) v h with
        |some o=>Gf F d.g (stE i (CW 0 b.nv)) (dm s cs) (.c 0) o
        |none=>false
  |.next j e,.cut p=>match d.pts[j]? with
    |some k=>match @Ws ⟨F⟩ E (B6 d j k s a) (@KQ ⟨F⟩ E (B6 d j k s a) p) with
      |some (f,x,h',o1)=>match TX f e,@Tf ⟨F⟩ E (B6 d i b s a) x h' with
        |true,some o2=>Gf F d.g (stE i (CW 0 b.nv)) (ix d.g j e) (Pa d.g j e s) (o1++o2)
        |_,_=>false
      |none=>false
    |none=>false
  |_,_=>false
def E8 (E:Env) (d:Dec) (i:Nat) (a:Pt) (F:List (SB×Bool)) (l:Lf) (b:Plf):Nat→List Sh→Bool
 |_,[]=>true
 |s,c::r=>match OO E d i a F l b s c with
  |true=>E8 E d i a F l b (s+1) r
  |false=>false
def HM (n m:Nat):List SE→Bool
 |[]=>true
 |a::l=>a.fits n m&&HM n m l
def Plf.fits (n m:Nat):Plf→Bool
 |.stuck=>true
 |.done _ cs=>HM n m cs
 |.next _ l=>HM n m l
def Du (E:Env) (d:Dec) (i:Nat) (c:Pt):List (SB×Bool)→Tr Lf→Tr Plf→Option (List (Nat×List AI))
 |_,_,.leaf .stuck=>some []
 |F,.leaf l,.leaf f=>match E8 E d i c F l f 0 d.shs&&f.fits c.nv d.g with
  |true=>some (match f,l with
   |.next j _,.cut h=>[(j,h.fr.todo)]
   |_,_=>[])
  |false=>none
 |F,.split e a b,.split k m n=>match e.same k&&e.fits c.nv d.g with
  |true=>match Du E d i c ((e,true)::F) a m,Du E d i c ((e,false)::F) b n with
   |some x,some y=>some (x++y)
   |_,_=>none
  |false=>none
 |_,_,_=>none
def Pt.st (l:Pt) (d:Dec):AS:={fr:={fn:=d.f,nt:=l.nt,tmps:=l.tmps,todo:=l.todo,defers:=JO l.defs,mode:=.run,kind:=.normal,round:=none},cs:=[],h:={blk:=A8 l.pre,nx:=l.pre.length,log:=[]}}
def Ao (E:Env) (keys:List Nat) (N:Nat) (d:Dec) (T:List (Tr Plf)) (i:Nat):Option (List (Nat×List AI)):=
 match d.pts[i]?,T[i]? with
 |some a,some t=>match G9 E keys d.f N a.facts (a.st d) with
  |some r=>Du E d i a a.facts r t
  |none=>none
 |_,_=>none
def stD (i nv:Nat) (V:Val):D:=.row (.int i::(List.range nv).map V.d)
def KB (G:Nat→D→D) (a:List D):Val:=⟨fun j=>a.getD j default,G⟩
def Dh (V:Val):Plf→Option (D ⊕ D)
 |.stuck=>none
 |.done s cs=>some (.inr (.row (.int (s+1:Nat)::cs.map (Ab V))))
 |.next j a=>some (.inl (.row (.int j::a.map (Ab V))))
def CP (T:List (Tr Plf)) (G:Nat→D→D):D→Option (D ⊕ D)
 |.row (.int (.ofNat i)::a)=>match T[i]? with
  |some t=>Dh (KB G a) (t.get (KB G a))
  |none=>none
 |_=>none
theorem QR (V:Val):∀{a b:List SE},TX a b=true→a.map (Ab V)=b.map (Ab V)
 |[],[],_=>rfl
 |x::a,y::b,h=>by
  simp only [TX,Bool.and_eq_true] at h;have:=congrArg (Ab V) (SE.same_ok (U:=G7) h.1);rw [Cs,Cs] at this;simp only [List.map_cons,this,QR V h.2]
 |[],_::_,h=>by cases h
 |_::_,[],h=>by cases h
theorem D4 {n m:Nat} {V W:Val} (h:V.Alike n m W):∀{l:List SE},HM n m l=true→l.map (Ab V)=l.map (Ab W)
 |[],_=>rfl
 |a::l,b=>by
  simp only [HM,Bool.and_eq_true] at b;simp only [List.map_cons,SE.fits_ok h a b.1,D4 h b.2]
theorem UH {F:List (SB×Bool)} {g:Nat} {st:SE} {f:Nat→SE} {b:SE} {V:Val} (m:BA V F) (i:∀j,Ab V (f j)=Ab V (.sel (.app g st) j)) (e:b=.c 0∨Ab V b=.bool true) {p:SE×SE} (h:SP F g st f b p=true):Ab V p.1=Ab V p.2:=by
 unfold SP at h;split at h
 ·rename_i n;have:=SE.same_ok (U:=G7) n;have q:=congrArg (Ab V) this
  rwa [Cs,Cs,TD i,TD i] at q
 ·split at h
  ·rename_i c o;simp only [Bool.and_eq_true] at h;obtain ⟨r,h⟩:=h;have k:=Ob V r;have l:=Cs V p.2;rw [o] at l;rw [←l,k];show D.bool _=D.bool c
   congr 1
   split at h
   ·rename_i d s;have:=As (U:=G7) (V:=V) m s;rw [U0] at this;have a:=eq_of_beq h;subst a;exact this
   ·simp only [Bool.and_eq_true] at h;have a:=congrArg (Ab V) (SE.same_ok (U:=G7) h.2);rw [Cs,Cs] at a;have t:c=true:=h.1;subst t;rcases e with q|q
    ·rw [q,k] at a;cases a
    ·rw [a,q];rfl
  ·cases h
theorem GG {F:List (SB×Bool)} {g:Nat} {st:SE} {f:Nat→SE} {e:SE} {V:Val} (k:BA V F) (l:∀j,Ab V (f j)=Ab V (.sel (.app g st) j)) (d:e=.c 0∨Ab V e=.bool true):∀{o:Obs},Gf F g st f e o=true→o.holds V
 |[],_=>fun a b i=>by cases i
 |p::r,h=>by
  simp only [Gf] at h;split at h
  ·rename_i m;intro a b i;rcases List.mem_cons.1 i with q|q
   ·have:=UH k l d m;rw [←q] at this;exact this
   ·exact GG k l d h a b q
  ·cases h
theorem SJ {E:Env} {d:Dec} {i:Nat} {o:Pt} {V W:Val} (v:V.Alike o.nv d.g W):∀{r:Tr Lf} {t:Tr Plf} {F:List (SB×Bool)} {p:List (Nat×List AI)},Du E d i o F r t=some p→
  t.get W=.stuck∨(E8 E d i o (r.way V F).2 (r.way V F).1 (t.get W) 0 d.shs=true∧(t.get W).fits o.nv d.g=true∧∀j k f,t.get W=.next j k→(r.way V F).1=.cut f→(j,f.fr.todo)∈p):=by
 intro r t
 induction t generalizing r with
 |leaf B=>
  intro F p h;cases B with
  |stuck=>exact .inl rfl
  |done s cs=>
   right;cases r with
   |split=>simp [Du] at h
   |leaf l=>
    simp only [Du] at h;split at h
    ·rename_i c;simp only [Bool.and_eq_true] at c;exact ⟨c.1,c.2,fun j k f q=>by cases q⟩
    ·cases h
  |next j k=>
   right;cases r with
   |split=>simp [Du] at h
   |leaf l=>
    simp only [Du] at h;split at h
    ·rename_i c;simp only [Bool.and_eq_true] at c;refine ⟨c.1,c.2,fun J C f n m=>?_⟩
     cases n;simp only [Tr.way] at m;subst m;cases h;simp
    ·cases h
 |split e a b w z=>
  intro F p h;cases r with
  |leaf l=>cases l<;>simp [Du] at h
  |split u K L=>
   simp only [Du] at h;split at h
   ·rename_i c;simp only [Bool.and_eq_true] at c;have D:=SE.same_ok (U:=G7) c.1;subst D;have G:Ad W u=Ad V u:=by unfold Ad;rw [SE.fits_ok v u c.2]
    split at h
    ·rename_i x y H I;cases h;simp only [Tr.get,Tr.way,G];cases M:Ad V u with
     |true=>
      rcases w H with q|⟨n,m,A⟩
      ·exact .inl q
      ·exact .inr ⟨n,m,fun j k f z1 z2=>by simp [A j k f z1 z2]⟩
     |false=>
      rcases z I with q|⟨n,m,A⟩
      ·exact .inl q
      ·exact .inr ⟨n,m,fun j k f z1 z2=>by simp [A j k f z1 z2]⟩
    ·cases h
   ·cases h
theorem In {E:Env} {d:Dec} {i:Nat} {f:Pt} {F:List (SB×Bool)} {l:Lf} {g:Plf}:∀{shs:List Sh} {b:Nat},E8 E d i f F l g b shs=true→∀(s:Nat) c,shs[s]?=some c→OO E d i f F l g (b+s) c=true
 |[],b,_,s,c,h=>by simp at h
 |a::r,b,h,s,c,e=>by
  simp only [E8] at h;split at h
  ·rename_i j;cases s with
   |zero=>simp only [List.getElem?_cons_zero,Option.some.injEq] at e;subst e;exact j
   |succ s=>
    simp only [List.getElem?_cons_succ] at e;have:=In h s c e
    rwa [show b+1+s=b+(s+1) by omega] at this
  ·cases h
structure Rl (P:Program) (f0:FuncId) (base:List Frame) (ok:Bool) (K:Frame→World→Value→World→Prop):Prop where
 pre:∀c c' w w1 v w',Steps P (lone c base w) (lone c' base w1)→K c' w1 v w'→K c w v w'
 ends:∀c w v w',IM P c w ok v w'→c.fn=f0→c.roundOf=none→K c w v w'
def Cut.AtK (P:Program) (G:Nat→D→D) (c:Cut) (V:Val) (K:Frame→World→Value→World→Prop):Prop:=
 ∀(v:Vals),v.V=V→v.K=(Env.of P).kinds→V.fn=G→BA V c.facts→∀(ρ:Ren) (t:Frame) (w:World),FrR ρ c.fr t→HR ρ c.h.blk.get w→Bj ρ c.pre.length→
  ∃l I r,K t w I r∧VR l c.res I∧HR l c.h'.blk.get r∧Ext ρ l c.h c.h' w r
section
variable {E:Env} {G:Nat→D→D} (hE:∀[U:Unk],U.K=(Env.of E.P).kinds→OK E) {v:Vals} (hK:v.K=(Env.of E.P).kinds)
include hE hK
theorem Wt (hG:v.V.fn=G) {F:List (SB×Bool)} (c:BA v.V F) {d:Cut} {s:AS} {e:List SE} {x:AV} {h':Aa} {o:Obs} (n:@Ws ⟨F⟩ E d s=some (e,x,h',o)) (ho:o.holds v.V) {K:Frame→World→Value→World→Prop} (O:d.AtK E.P G (v.V.inst e) K) (Q:s.fr.todo=d.todo)
  {g:Ren} {j:Frame} {w:World} (H:SR g s j [] w) (hwf:WF s.h) (r:Bj g s.h.nx):
  ∃I M J,K j w M J∧VR I x M∧HR I h'.blk.get J∧Ext g I s.h h' w J:=by
 have R:@OK _ (Bg v F c) E:=hE (U:=Bg v F c) hK;unfold Ws at n;split at n;rename_i m h1 S;simp only at n;split at n
 ·rename_i hc;split at n
  ·rename_i o1 t T ht;simp only [Option.some.injEq,Prod.mk.injEq] at n;obtain ⟨rfl,rfl,rfl,rfl⟩:=n;obtain ⟨oa,ob,X,u,rfl⟩:=BK T;obtain ⟨Y,k⟩:=Obs.append ho;obtain ⟨Z,A⟩:=Obs.append Y;generalize ac:HT m.v 0 d.nv=e at *;generalize ad:IG m.b 0 d.pre.length=l at *;have e2:(@AQ ⟨F⟩ E d.pre 0 (@G8 ⟨F⟩ E d.pre s.h (QI d s)) s.h).2=h1:=by rw [S]
   obtain ⟨q1,q2,q3⟩:=Bn (U:=Bg v F c) (E:=E) d.pre 0 (@G8 ⟨F⟩ E d.pre s.h (QI d s)) s.h H.h hwf (fun b b1 _=>r b b1)
   rw [e2] at q1 q2 q3;simp only [Bool.and_eq_true] at hc;obtain ⟨⟨⟨⟨⟨⟨⟨⟨⟨c1,c2⟩,c3⟩,c4⟩,c5⟩,c6⟩,c7⟩,c8⟩,c9⟩,c10⟩:=hc;have a:=Ld k;have hV:(CA (Bg v F c) d.facts e a).V=(Bg v F c).V.inst e:=rfl;have p:(CA (Bg v F c) d.facts e a).K=(Bg v F c).K:=rfl;have aa:=LW c2;have ae:=(De (U:=Bg v F c) (W:=CA (Bg v F c) d.facts e a) hV p d.pre l ob u A).1;have p2:=HR.toPat (U:=Bg v F c) (W:=CA (Bg v F c) d.facts e a) hV p R q1 u A c1;have L:Bj g h1.nx:=Bj.ext r q2
   have B:Bj (g.back l) d.pre.length:=by
    intro b N;have:l[b]?=none:=List.getElem?_eq_none (by omega)
    simp [Ren.back,this]
   have f:=H.fr
   have ab:@FrR (CA (Bg v F c) d.facts e a).toVals (g.back l) d.fr j:=by
    refine @FrR.mk (CA (Bg v F c) d.facts e a).toVals (g.back l) d.fr j ?_ (@TR.mk (CA (Bg v F c) d.facts e a).toVals (g.back l) _ _ _ ?_ (fun i y hy=>?_)) ?_ ?_ ?_ ?_ ?_
    ·rw [f.fn];exact Nat.eq_of_beq_eq_true c4
    ·rw [f.tm.size];exact Nat.eq_of_beq_eq_true c5
    ·obtain ⟨z,z1,z2⟩:=LG (U:=Bg v F c) (W:=CA (Bg v F c) d.facts e a) hV p (ρ:=g) d.tmps s.fr.tmps oa X Z i y hy;exact z2 _ (f.tm.get i z z1)
    ·show @IL (CA (Bg v F c) d.facts e a).toVals (g.back l) d.todo j.todo;rw [←Q];exact P9 c10 f.todo
    ·exact M1 (U:=Bg v F c) (W:=CA (Bg v F c) d.facts e a) hV p c6 f.defers
    ·have hm:=f.mode;show @MR (CA (Bg v F c) d.facts e a).toVals (g.back l) .run j.mode;cases q:s.fr.mode with
     |run=>rw [q] at hm;generalize j.mode=mm at hm;cases hm;exact @MR.run (CA (Bg v F c) d.facts e a).toVals (g.back l)
     |ret=>rw [q] at c7;cases c7
     |panic=>rw [q] at c7;cases c7
    ·have hk:=f.kind;show j.kind=.normal;rw [hk];cases q:s.fr.kind with
     |normal=>rfl
     |_=>rw [q] at c8;cases c8
    ·have C:=f.round;show RR (g.back l) none j.roundOf;cases q:s.fr.round with
     |none=>rw [q] at C;cases hz:j.roundOf with|none=>trivial|some=>rw [hz] at C;exact C.elim
     |some=>rw [q] at c9;cases c9
   obtain ⟨af,M,J,r1,r2,r3,r4⟩:=O (CA (Bg v F c) d.facts e a).toVals rfl hK hG a (g.back l) j w ab p2 B;obtain ⟨I,t1,t2,t3⟩:=Ti (U:=Bg v F c) (E:=E) (FF:=d.facts) a rfl rfl u A c1 aa (Nat.le_of_ble_eq_true c3) ht q1 q3 (fun b N _=>L b N) r2 r3 r4
   exact ⟨I,M,J,r1,t1,t2,q2.trans t3 (fun b N _=>r b N)⟩
  ·cases n
 ·cases n
end
theorem NI (t:T SE):∀(n i:Nat),(HT t i n).length=n
 |0,_=>rfl
 |n+1,i=>by simp [HT,NI t n]
theorem XA [Facts] {E:Env} {c:Cut} {s:AS} {b:List SE} {x:AV} {h:Aa} {o:Obs} (a:Ws E c s=some (b,x,h,o)):b.length=c.nv:=by
 unfold Ws at a;split at a;simp only at a;split at a
 ·split at a
  ·simp only [Option.some.injEq,Prod.mk.injEq] at a;rw [←a.1,NI]
  ·cases a
 ·cases a
def RS (r:D):Int:=(r.cells.getD 0 default).toInt
theorem V6 [Ax] {E:Env} {G:Nat→D→D} (hE:∀[U:Unk],U.K=(Env.of E.P).kinds→OK E) (hO:Ah E G) {d:Dec} {T:List (Tr Plf)} {keys:List Nat} {N:Nat} (hg:∀x,G d.g x=Cg (CP T G) x)
  (ag:∀(i:Nat) m,d.pts[i]?=some m→∃js,Ao E keys N d T i=some js∧∀j td,(j,td)∈js→∀H,d.pts[j]?=some H→td=H.todo) :
  ∀(n i:Nat) (m:Pt) (s:Nat) (B:Sh),d.pts[i]?=some m→d.shs[s]?=some B→∀(V:Val) (r:D),V.fn=G→Fk (CP T G) n (stD i m.nv V)=some r→RS r=(s+1:Nat)→∀(base:List Frame) (K:Frame→World→Value→World→Prop),Rl E.P d.f base B.ok K→(B6 d i m s B).AtK E.P G V K:=by
 intro n
 induction n with
 |zero=>intro i m s B _ _ V r _ h;cases h
 |succ n ih=>
  intro i m s B ah ai V r a9 a ac base KK R v av hK hG S ρ cf w aw hr C;subst av;have ax:BA v.V m.facts:=fun e b hm=>S e b (by simp [B6,hm])
  obtain ⟨js,p,ay⟩:=ag i m ah;unfold Ao at p;rw [ah] at p;split at p
  ·rename_i ba t aj ht;cases aj;split at p
   ·rename_i tr az;have z:=X5 hE hO hK hG base N m.facts (m.st d) tr az ax ρ cf [] w ⟨aw,.nil,hr⟩ (JN _ _) C;have O:v.V.Alike m.nv d.g (KB G ((List.range m.nv).map v.V.d)):=⟨fun j hj=>by simp [KB,List.getD_eq_getElem?_getD,hj],fun j _=>by rw [hG];rfl⟩
    have Q:Ab v.V (stE i (CW 0 m.nv))=stD i m.nv v.V:=by
     rw [IV,FE];simp [stD]
    have y:CP T G (stD i m.nv v.V)=Dh (KB G ((List.range m.nv).map v.V.d)) (t.get (KB G ((List.range m.nv).map v.V.d))):=by
     show (match T[i]? with
      |some t=>Dh (KB G _) (t.get (KB G _))
      |none=>none)=_
     rw [ht]
    have I:Cg (CP T G) (stD i m.nv v.V)=r:=Ev a;generalize hW:KB G ((List.range m.nv).map v.V.d)=W at O y;rcases SJ (E:=E) (d:=d) (i:=i) O p with X|⟨q,A,J⟩
    ·simp only [Fk,y,X,Dh] at a;cases a
    ·generalize bb:tr.way v.V m.facts=lf at z q J;obtain ⟨l,F⟩:=lf;simp only at z q J;have u:=In q s B ai;simp only [Nat.zero_add] at u;generalize bd:t.get W=dl at y A u J;unfold OO at u;split at u
     ·simp only [Fk,y,Dh] at a;cases a
     ·
      rename_i s' cs be x h;simp only [Fk,y,Dh] at a;cases a
      have a0:s'=s:=by
       have:((s'+1:Nat):Int)=(s+1:Nat):=ac;omega
      subst a0;rw [Nat.beq_refl] at u;simp only at u;split at u
      ·cases u
      rename_i ad;have ad:=eq_of_beq ad;generalize a1:@KN ⟨F⟩ E (B6 d i m s' B) x h=pe at u;obtain ⟨x2,h2⟩:=pe;simp only at u;split at u
      ·rename_i o ho;obtain ⟨L,σ,bf,v',w1,w',q1,qf,qr,q2,Y,q4,q5⟩:=z;have ak:cs.map (Ab v.V)=cs.map (Ab W):=D4 O A
       have ae:o.holds v.V:=GG L (fun j=>by
        show _=(v.V.fn d.g (Ab v.V (stE i (CW 0 m.nv)))).cells.getD j default;rw [Q,hG,hg,I];cases j with
        |zero=>rfl
        |succ j=>
         show Ab v.V (cs.getD j (.bc false))=(cs.map (Ab W)).getD j default;rw [←ak];simp only [List.getD_eq_getElem?_getD,List.getElem?_map];cases cs[j]?<;>rfl) (.inl rfl) u
       obtain ⟨pn,af,p0,p1,p2⟩:=RV (U:=Bg v F L) (hE (U:=Bg v F L) hK) q4 Y a1;have Y:=p0;have a8:Bj σ h.nx:=Bj.ext (h:=(m.st d).h) C q5;have q5:=q5.trans p2 (fun b hb a2=>C b hb)
       have q4:=p1;have hwf:=Ext.wf (U:=Bg v F L) q5 (JN _ _);obtain ⟨τ,r1,r2,r3⟩:=V2 (c:=B6 d i m s' B) hE hK L ho ae Y q4 hwf q5 C;exact ⟨τ,v',w',R.pre _ _ _ _ _ _ q1 (R.ends _ _ _ _ (ad▸q2) qf qr),r1,r2,r3⟩
      ·cases u
     ·
      rename_i j θ Z;simp only [Fk,y,Dh] at a;split at u
      ·rename_i H al;split at u
       ·rename_i M x h o1 hu;split at u
        ·rename_i o2 a3 a4;have am:=QR v.V a3;obtain ⟨L,ak,σ,c',w1,q1,q2,Y⟩:=z;have an:M.length=H.nv:=@XA _ ⟨F⟩ _ _ _ _ _ _ _ hu
         have X:(D.row (.int j::θ.map (Ab W)))=stD j H.nv (v.V.inst M):=by
          have:=D4 O (l:=θ) A;rw [←this,←am];unfold stD
          congr 2
          apply List.ext_getElem
          ·simp [an]
          ·intro k h1 h2;simp only [List.getElem_map,List.getElem_range,Val.inst];have:k<M.length:=by simpa using h1
           simp [List.getD_eq_getElem?_getD,this]
         have aa:Ab v.V (stE j θ)=stD j H.nv (v.V.inst M):=by
          rw [IV,D4 O (l:=θ) A,X]
         rw [X] at a;have ao:Cg (CP T G) (stD j H.nv (v.V.inst M))=r:=Ev a
         have ae:(o1++o2).holds v.V:=GG L (fun k=>by
          show (v.V.fn d.g (Ab v.V (stE j θ))).cells.getD k default=(v.V.fn d.g (Ab v.V (stE i (CW 0 m.nv)))).cells.getD k default;rw [aa,Q,hG,hg,hg,ao,I]) (.inr (by
          show D.bool ((((v.V.fn d.g (Ab v.V (stE j θ))).cells.getD 0 default).toInt)==((s+1:Nat):Int))=_;rw [aa,hG,hg,ao];have:(r.cells.getD 0 default).toInt=((s+1:Nat):Int):=ac;rw [this];simp)) u
         obtain ⟨ap,aq⟩:=Obs.append ae;have a5:=ih j H s B al ai (v.V.inst M) r hG a ac base KK R;have a6:Z.fr.todo=(B6 d j H s B).todo:=ay j _ (J j θ Z rfl rfl) H al;obtain ⟨pn,af,p1,p2⟩:=Bw (U:=Bg v F L) (hE (U:=Bg v F L) hK) (B6 d j H s B).pre 0 (@G8 ⟨F⟩ E (B6 d j H s B).pre Z.h (QI (B6 d j H s B) Z)).b Z.h σ q2.h;have q2:SR af (@KQ ⟨F⟩ E (B6 d j H s B) Z) c' [] w1:=⟨q2.fr.mono p2.le,q2.cs.mono p2.le,p1⟩;have Y:=Y.trans p2 (fun b hb a2=>C b hb)
         have ab:WF (@KQ ⟨F⟩ E (B6 d j H s B) Z).h:=Ext.wf (U:=Bg v F L) Y (JN _ _);have ar:Bj af (@KQ ⟨F⟩ E (B6 d j H s B) Z).h.nx:=Bj.ext (h:=(m.st d).h) C Y;obtain ⟨τ,v',w',r1,r2,r3,r4⟩:=Wt hE hK hG L hu ap a5 a6 q2 ab ar;have he:Ext ρ τ (m.st d).h h w w':=Y.trans r4 (fun b hb _=>C b hb)
         have au:WF h:=Ext.wf (U:=Bg v F L) r4 ab;obtain ⟨a7,t1,t2,t3⟩:=V2 (c:=B6 d i m s B) hE hK L a4 aq r2 r3 au he C;exact ⟨a7,v',w',R.pre _ _ _ _ _ _ q1 r1,t1,t2,t3⟩
        ·cases u
       ·cases u
      ·cases u
     ·cases u
   ·cases p
  ·cases p
def Cut.AtO (P:Program) (G:Nat→D→D) (c:Cut) (V:Val) (ok:Bool):Prop:=
 ∀(v:Vals),v.V=V→v.K=(Env.of P).kinds→V.fn=G→BA V c.facts→∀(ρ:Ren) (t:Frame) (w:World),FrR ρ c.fr t→HR ρ c.h.blk.get w→Bj ρ c.pre.length→
  ∀(c0:Frame) (base:List Frame),∃l I r,BH P (lone t (c0::base) w) c0 base ok I r∧VR l c.res I∧HR l c.h'.blk.get r∧Ext ρ l c.h c.h' w r
theorem sm_okK {E:Env} {G:Nat→D→D} (hE:∀[U:Unk],U.K=(Env.of E.P).kinds→OK E) {f nv:Nat} {args:List AV} {pre:List (Option Ag)} {facts:List (SB×Bool)} {res:AV} {post:List (Option Ag)} {ok:Bool} (k:(Bb E f args .normal).isSome=true)
  (h:∀V:Val,V.fn=G→BA V facts→(Fm E f nv args pre facts res post).AtO E.P G V ok):Sm.Valid E.P G {f,nv,args,pre,facts,res,post,ok}:=by
 intro U hK l a m w d n hr g c0 base;cases b:Bb E f args .normal with
 |none=>rw [b] at k;cases k
 |some fr=>
  have i:=B2 (hE hK) b n
  have e:(Fm E f nv args pre facts res post).fr=fr:=by
   unfold Bb at b;split at b
   ·rename_i fn j;split at b
    ·rename_i c o;cases b;simp [Cut.fr,Fm,D2,Bb,j,o,JO]
    ·cases b
   ·cases b
  exact h U.V l a U.toVals rfl hK l a m _ w (by rw [e];exact i) hr g c0 base
theorem Uu (P:Program) (b:FuncId) (c0:Frame) (base:List Frame) (ok:Bool):Rl P b (c0::base) ok (fun d w v a=>BH P (lone d (c0::base) w) c0 base ok v a):=by
 cases ok<;>exact ⟨fun c e w w1 v a h k=>Steps.trans h k,fun c w v a h _ _=>Steps.one (h.back c0 base)⟩
theorem XI (P:Program) (b:FuncId) (base:List Frame):Rl P b base true (fun d w v a=>∃fr,Steps P (lone d base w) (lone fr base a)∧fr.fn=b∧fr.leaving P a (.returned v)):=
 ⟨fun c g w w1 v a h ⟨fr,k1,k2,k3⟩=>⟨fr,Steps.trans h k1,k2,k3⟩,fun c w v a h f hr=>by
  obtain ⟨e,q⟩:=h.leaves hr;subst e;exact ⟨c,Steps.refl _ _,f,q⟩⟩
def Ar (E:Env) (f nv:Nat) (args:List AV) (pre:List (Option Ag)) (facts:List (SB×Bool)):Pt:=
 {key:=none,nt:=(D2 E f args).nt,nv,todo:=(D2 E f args).todo,tmps:=(D2 E f args).tmps,pre,facts}
def Dec.sm (d:Dec) (args:List AV) (l:Pt) (s:Nat) (r:Sh):Sm:=
 let c:=B6 d 0 l s r
 {f:=d.f,nv:=l.nv,args,pre:=l.pre,facts:=c.facts,res:=c.res,post:=c.post,ok:=r.ok}
theorem Re (r:D) (h:r=.row []):RS r=0:=by subst h;rfl
theorem Dec.sm_ok [Ax] {E:Env} {G:Nat→D→D} (hE:∀[U:Unk],U.K=(Env.of E.P).kinds→OK E) (hO:Ah E G) {d:Dec} {T:List (Tr Plf)} {keys:List Nat} {N:Nat} (hg:∀x,G d.g x=Cg (CP T G) x)
  (r:∀(i:Nat) pt,d.pts[i]?=some pt→∃js,Ao E keys N d T i=some js∧∀j td,(j,td)∈js→∀pj,d.pts[j]?=some pj→td=pj.todo)
  {nv:Nat} {args:List AV} {pre:List (Option Ag)} {facts:List (SB×Bool)} (ab:d.pts[0]?=some (Ar E d.f nv args pre facts)) (t:(Bb E d.f args .normal).isSome=true) {s:Nat} {I:Sh} (al:d.shs[s]?=some I) :
  (d.sm args (Ar E d.f nv args pre facts) s I).Valid E.P G:=by
 refine AE.sm_okK hE t (fun V hG hf=>?_)
 have an:BA V (B6 d 0 (Ar E d.f nv args pre facts) s I).facts:=hf;have hs:=an (Pa d.g 0 (CW 0 nv) s) true (by simp [B6,Ar])
 have ar:Ab V (stE 0 (CW 0 nv))=stD 0 nv V:=by rw [IV,FE];simp [stD]
 have J:RS (Cg (CP T G) (stD 0 nv V))=(s+1:Nat):=by
  have:((((V.fn d.g (Ab V (stE 0 (CW 0 nv)))).cells.getD 0 default).toInt)==((s+1:Nat):Int))=true:=hs;rw [ar,hG,hg] at this;exact eq_of_beq this
 rcases E9 (CP T G) (stD 0 nv V) with q|⟨n,hn⟩
 ·rw [Re _ q] at J;omega
 ·intro v av hK bd l ρ cf w bm hr bn c0 base;exact V6 hE hO hg r n 0 _ s I ab al V _ hG hn J (c0::base) _ (Uu E.P d.f c0 base I.ok) v av hK bd l ρ cf w bm hr bn
def Al:List (Nat×AV)→T AV
 |[]=>.nil
 | (i,a)::r=>(Al r).set i a
def DD (key:Nat):Code→List AI→Option (List AI)
 |.seq a b,k=>match DD key a (.code b::k) with
  |some l=>some l
  |none=>DD key b k
 |.cond _ a b,k=>match DD key a k with
  |some l=>some l
  |none=>DD key b k
 |.block id b,k=>DD key b (.inBlock id::k)
 |.loop b,k=>match TL [key] b with
  |true=>some (.code b::.inLoop b::k)
  |false=>DD key b (.inLoop b::k)
 |.scope b,k=>DD key b (.inScope b::k)
 |_,_=>none
def EJ (key:Nat):Code→List AI→Option (List AI)
 |.seq a b,k=>match EJ key a (.code b::k) with
  |some l=>some l
  |none=>EJ key b k
 |.cond _ a b,k=>match EJ key a k with
  |some l=>some l
  |none=>EJ key b k
 |.block id b,k=>EJ key b (.inBlock id::k)
 |.loop b,k=>EJ key b (.inLoop b::k)
 |.scope b,k=>EJ key b (.inScope b::k)
 |.region id ops d,k=>match Nat.beq id key with
  |true=>some (.code (.region id ops d)::k)
  |false=>none
 |_,_=>none
def Co (key:Nat):Code→Option (List Tmp×Code×Code)
 |.seq a b=>match Co key a with
  |some l=>some l
  |none=>Co key b
 |.cond _ a b=>match Co key a with
  |some l=>some l
  |none=>Co key b
 |.block _ b=>Co key b
 |.loop b=>Co key b
 |.scope b=>Co key b
 |.rangeFunc _ c a b=>match TL [key] (.seq a b) with
  |true=>some (c.toList,a,b)
  |false=>Co key b
 |_=>none
def B7 (E:Env) (f:FuncId) (key:Nat) (st:LoopState) (pending:Option Code) (nt:Nat) (tmps:List (Nat×AV)) (d:Nat):Ag:=match E.fn.get f with
 |some fn=>match fn.body with
  |some b=>match Co key b with
   |some (c,a,e)=>.loop st pending f nt (Al tmps) c a e d
   |none=>.deferred none
  |none=>.deferred none
 |none=>.deferred none
def Ic (E:Env) (f:FuncId) (key:Nat):List AI:=match E.fn.get f with
 |some fn=>match fn.body with
  |some b=>match (match Nat.ble 1000000 key with|true=>EJ (key-1000000) b []|false=>DD key b []) with
   |some l=>l
   |none=>[]
  |none=>[]
 |none=>[]
def AW (E:Env) (f nt key nv:Nat) (tmps:List (Nat×AV)) (pre:List (Option Ag)) (facts:List (SB×Bool)) (defs:List AD):Pt:=
 {key:=some key,nt,nv,todo:=Ic E f key,tmps:=Al tmps,pre,facts,defs}
end Go.AE
namespace Go.AE
variable [Gl:AH]
open Go.RowKit
def UD (o:Option Nat) (P:Program) (ts:List TypeId) (a:List D):Prop:=∃ks cs M,By (Env.of P) ts=some ks∧DVL (Env.of P).kinds M ks cs a∧(Can ks a∧Od (Env.of P).kinds 9 ks a)∧ShL (Env.of P).kinds o 9 ks a
def Pi (P:Program) (ts:List TypeId) (a:List D):Prop:=∃ks cs M,By (Env.of P) ts=some ks∧DVL (Env.of P).kinds M ks cs a∧Can ks a∧Od (Env.of P).kinds 9 ks a
def L8:Sh:={m:=1,res:=.sb true (.var 0),post:=[],keep:=[]}
def BY (E:Env) (ts:List TypeId):List (SB×Bool):=match By E ts with
 |some ks=>Cf 0 ks
 |none=>[]
def Fo (E:Env) (ts:List TypeId):Nat:=match By E ts with
 |some ks=>ks.length
 |none=>0
def GQ (E:Env) (ts:List TypeId):List AV:=match @FM ⟨BY E ts⟩ E 0 ts with
 |some l=>l
 |none=>[]
def LM (E:Env) (f:FuncId) (ts:List TypeId):Pt:=Ar E f (Fo E ts) (GQ E ts) [] (BY E ts)
def W0 (E:Env) (f:FuncId) (ts:List TypeId) (L:List TypeId):Bool:=
 GZ E L L&&(match By E ts with
  |some ks=>ks.all (P8 L)
  |none=>false)&&(@FM ⟨BY E ts⟩ E 0 ts).isSome&&(Bb E f (GQ E ts) .normal).isSome
section
variable {E:Env} {L:List TypeId} {H:Type} {enc:TypeId×Value→H} {w:World} {base:Nat} {sp:Nat→Bool} {held:Bool}
theorem Y1 [Ax] {G:Nat→D→D} (hE:∀[U:Unk],U.K=(Env.of E.P).kinds→OK E) (m:E.kinds=(Env.of E.P).kinds) (hO:Ah E G) {d:Dec} {T:List (Tr Plf)} {keys:List Nat} {N:Nat} (hg:∀x,G d.g x=Cg (CP T G) x)
  (O:∀(i:Nat) pt,d.pts[i]?=some pt→∃js,Ao E keys N d T i=some js∧∀j td,(j,td)∈js→∀pj,d.pts[j]?=some pj→td=pj.todo)
  {ts:List TypeId} (ac:d.pts[0]?=some (LM E d.f ts)) (ad:d.shs[0]?=some L8) (B:W0 E d.f ts L=true) (ae:By E ts=By (Env.of E.P) ts)
  {o:Option Nat} (s:∀a,UD o E.P ts a→G d.g (.row (.int 0::a))=.row [.int 1,.bool true])
  {Q:List Value} {ds:List (DataW H)} {ps:List MemPlace} (af:BC o ds) (hA:DataW.TrodAll enc E.P w base sp held ts Q ds ps) (S:∀(j:Nat) t v,ts[j]?=some t→Q[j]?=some v→∃r b0,Value.okWide E.P w r b0 t v) (ag:HY (FG w)) :
  Calls E.P d.f Q.toArray w fun e W'=>e=.returned (.bool true)∧Below w.heap.size w W':=by
 unfold W0 at B;simp only [Bool.and_eq_true] at B;obtain ⟨⟨⟨hL,C⟩,y⟩,z⟩:=B;split at C
 ·rename_i ks J;obtain ⟨cs,a,q1,qc,q2⟩:=YY (U:=Vu E.P) (hE (U:=Vu E.P) rfl) hL (o:=o) ts Q ds ps ks hA S J C af;have W:ks.length=a.length:=q1.len.2;have ah:Fo E ts=a.length:=by unfold Fo;rw [J];exact W
  have ai:BY E ts=Cf 0 ks:=by unfold BY;rw [J]
  have X:BA (C8 G a) (BY E ts):=by
   rw [ai];exact Hg (U:=Vu E.P) ks cs a 0 (fun i hi=>by simp [C8]) q1
  intro Y;cases F:Bb E d.f (GQ E ts) .normal with
  |none=>rw [F] at z;cases z
  |some fr=>
   have aj:stD 0 (Fo E ts) (C8 G a)=.row (.int 0::a):=by
    unfold stD;rw [ah]
    congr 2
    apply List.ext_getElem
    ·simp
    ·intro k h1 h2;simp [C8,List.getD_eq_getElem?_getD,h2]
   have l:=s a ⟨ks,cs,FG w,by rw [←ae];exact J,by rw [←m];exact q1,⟨qc.1.1,by rw [←m];exact qc.1.2⟩,by rw [←m];exact qc.2⟩
   rw [hg,←aj] at l;rcases E9 (CP T G) (stD 0 (Fo E ts) (C8 G a)) with q|⟨n,hn⟩
   ·rw [q] at l;cases l
   ·rw [l] at hn;have ak:=V6 hE hO hg O n 0 _ 0 L8 ac ad (C8 G a) _ rfl hn rfl Y _ (XI E.P d.f Y)
    let A:Vals:={V:=C8 G a,K:=E.kinds,R:=[],hR:=fun _ _ _ _ _ h=>(by cases h)}
    have Z:Ab (C8 G a) (stE 0 (CW 0 (Fo E ts)))=stD 0 (Fo E ts) (C8 G a):=by
     rw [IV,FE];simp [stD]
    have p:(C8 G a).fn d.g (Ab (C8 G a) (stE 0 (CW 0 (Fo E ts))))=.row [.int 1,.bool true]:=by
     rw [Z,←l];exact hg _
    have u:BA A.V (B6 d 0 (LM E d.f ts) 0 L8).facts:=by
     intro e b hm;have al:(e,b)∈BY E ts++[(Pa d.g 0 (CW 0 (Fo E ts)) 0,true)]:=hm;rcases List.mem_append.1 al with q|q
     ·exact X e b q
     ·simp only [List.mem_singleton,Prod.mk.injEq] at q;obtain ⟨rfl,rfl⟩:=q;show ((((C8 G a).fn d.g (Ab (C8 G a) (stE 0 (CW 0 (Fo E ts))))).cells.getD 0 default).toInt==((0+1:Nat):Int))=true;rw [p];rfl
    have I:@VL A ⟨fun _=>none,FG w⟩ (GQ E ts) Q:=by
     cases hs:@FM ⟨BY E ts⟩ E 0 ts with
     |none=>rw [hs] at y;cases y
     |some aa=>
      have e1:GQ E ts=aa:=by unfold GQ;rw [hs]
      rw [e1];exact q2 {facts:=BY E ts,toVals:=A,ok:=X} 0 aa ⟨fun _=>none,FG w⟩ rfl rfl (fun i hi=>by show (C8 G a).d (0+i)=_;simp [C8]) hs
    have am:=hE (U:={facts:=BY E ts,toVals:=A,ok:=X}) m;have ab:=B2 (U:={facts:=BY E ts,toVals:=A,ok:=X}) am F I
    have an:(B6 d 0 (LM E d.f ts) 0 L8).fr=fr:=by
     have M:=F;unfold Bb at M;split at M
     ·rename_i fn ao;split at M
      ·rename_i c hc;cases M;simp [Cut.fr,B6,LM,Ar,D2,Bb,ao,hc,JO]
      ·cases M
     ·cases M
    obtain ⟨σ,v',w',⟨ap,k1,k2,k3⟩,r1,r2,r3⟩:=ak A rfl m rfl u ⟨fun _=>none,FG w⟩ _ w (by rw [an];exact ab) (V7 (U:={facts:=BY E ts,toVals:=A,ok:=X}) w ag) (fun b _=>rfl)
    have aq:v'=.bool true:=by
     have e2:(B6 d 0 (LM E d.f ts) 0 L8).res=.sb true (.sel (.app d.g (stE 0 (CW 0 (Fo E ts)))) 1):=rfl;rw [e2] at r1;cases r1
     have:Ad A.V (.sel (.app d.g (stE 0 (CW 0 (Fo E ts)))) 1)=true:=by
      show (((C8 G a).fn d.g (Ab (C8 G a) (stE 0 (CW 0 (Fo E ts))))).cells.getD 1 default).toBool=true;rw [p];rfl
     rw [this];rfl
    subst aq;exact ⟨.returned (.bool true),w',ap,⟨rfl,r3.calm.os,r3.calm.tape,r3.calm.output,r3.calm.size,fun k J=>r3.kept k J (fun b base h=>by cases h)⟩,k1,k2,k3⟩
 ·cases C
end
theorem Qu [Ax] {H:Type} {enc:TypeId×Value→H} {a:Assume} {C:Checked} {os:Os} {fn:Func} {s:ChangeSpec} {n:List PathCond} {apart:Bool} {L:List TypeId} {tb:TypeId} {l:List Orc} {m:List Sm} {G:Nat→D→D} {d:Dec} {T:List (Tr Plf)} {keys:List Nat} {N:Nat}
  (X:ownKnob C.prog.godebug=none) (u:os.Started) (z:C.prog.inits.idxOf? d.f=none) (Y:C.prog.funcs[d.f]?=some fn)
  (witness:∃(w:World) (tape:Tape) (i:Input),w.os=os∧(w.forCall tape i).Shaped C.prog∧i.vars=[]∧Input.okWide C.prog (w.forCall tape i) .any w.heap.size d.f i∧
   s.pre6 enc C.prog fn n apart (w.forCall tape i).memory i.args∧a.holds C.prog (lone (Frame.enter C.prog d.f i.args .normal) [] (w.forCall tape i)))
  (hl:laidOutB C.prog=true) (hr:∀t∈fn.params.toList,C.prog.readableRec t=true∧t<C.prog.types.size) (y:s.vars=[])
  (B:∀F:List (DataW H),F.length=fn.params.toList.length→s.fn H F={results:=[.lit (.bool true)],args:=F})
  (J:fn.resultTypes = #[tb]) (hb:C.prog.underlying tb=some .bool) (hE:∀[U:Unk],U.K=(Env.of C.prog).kinds→OK (Env.ofS C.prog l m)) (hO:Ah (Env.ofS C.prog l m) G)
  (hg:∀x,G d.g x=Cg (CP T G) x) (O:∀(i:Nat) pt,d.pts[i]?=some pt→∃js,Ao (Env.ofS C.prog l m) keys N d T i=some js∧∀j td,(j,td)∈js→∀pj,d.pts[j]?=some pj→td=pj.todo)
  (Z:d.pts[0]?=some (LM (Env.ofS C.prog l m) d.f fn.params.toList)) (aa:d.shs[0]?=some L8) (ab:W0 (Env.ofS C.prog l m) d.f fn.params.toList L=true)
  (A:∀S,Pi C.prog fn.params.toList S→G d.g (.row (.int 0::S))=.row [.int 1,.bool true]) (ac:Gl.tab=.nil) :
  ReturnsInHanded a C os d.f .any (s.pre6 enc C.prog fn n apart) (s.post enc C.prog fn apart true false false):=by
 refine returnsInHanded_of_change X u z Y witness ?_;intro W base args F gs V P hW af _;have Q:=hW;obtain ⟨p,q,hA,hV,rfl,ag,ah⟩:=hW;rw [y] at hV
 have ad:gs=[]∧q=[]:=by
  cases gs with
  |nil=>exact ⟨rfl,hV⟩
  |cons=>simp [DataW.TrodVars] at hV
 obtain ⟨rfl,rfl⟩:=ad;have R:=Kn hA;have I:=B F R
 have ae:By (Env.ofS C.prog l m) fn.params.toList=By (Env.of C.prog) fn.params.toList:=by
  generalize fn.params.toList=ts
  induction ts with
  |nil=>rfl
  |cons t r ih=>simp only [By];rw [ih];rfl
 refine (Y1 (E:=Env.ofS C.prog l m) hE rfl hO hg O Z aa ab ae (o:=none) (fun S ⟨ks,cs,M,a,b,c,_⟩=>A S ⟨ks,cs,M,a,b,c.1,c.2⟩) (BC.none F) hA (fun j t v ht hv=>⟨_,_,P j t v (by simpa using ht) (by simpa using hv)⟩) (HY.none ac _)).mono ?_
 rintro e W' ⟨rfl,k⟩
 refine ⟨.bool true,rfl,F,[],p++[],[],p,[],Q,?_,?_,?_,k.frame _,fun h=>by cases h⟩
 ·rw [List.append_nil,I,J];exact ⟨[],[],shut_bool hb true,rfl,rfl⟩
 ·rw [List.append_nil,I];exact Hl hl k hr hA (fun x hx=>Q.lt x (by simp [hx]))
 ·rw [List.append_nil,I,y];rfl
end Go.AE
namespace Go.AE
variable [Gl:AH]
def jl (d:Dec):List Nat→List (Nat×List AI)
 |[]=>[]
 |j::r=>(j,(d.pts.getD j default).todo)::jl d r
def AO (E:Env) (keys:List Nat) (N:Nat) (d:Dec) (T:List (Tr Plf)):Prop:=
 ∀(i:Nat) a,d.pts[i]?=some a→∃l,Ao E keys N d T i=some (jl d l)
theorem V0 {d:Dec}:∀{l:List Nat} {j:Nat} {td:List AI},(j,td)∈jl d l→∀b,d.pts[j]?=some b→td=b.todo
 |[],j,td,h,b,c=>by cases h
 |a::r,j,td,h,b,c=>by
  rcases List.mem_cons.1 h with q|q
  ·cases q;simp [List.getD_eq_getElem?_getD,c]
  ·exact V0 q b c
theorem AO.chk {E:Env} {keys:List Nat} {N:Nat} {d:Dec} {T:List (Tr Plf)} (h:AO E keys N d T) (i:Nat) (t:Pt) (J:d.pts[i]?=some t) :
  ∃I,Ao E keys N d T i=some I∧∀j td,(j,td)∈I→∀r,d.pts[j]?=some r→td=r.todo:=by
 obtain ⟨l,hl⟩:=h i t J;exact ⟨_,hl,fun j td hm r hj=>V0 hm r hj⟩
def Tr.appsLt (m:Nat):Tr Plf→Bool
 |.leaf .stuck=>true
 |.leaf (.done _ cs)=>HM 1000 m cs
 |.leaf (.next _ l)=>HM 1000 m l
 |.split e a b=>e.fits 1000 m&&a.appsLt m&&b.appsLt m
def Nu (m:Nat):List (Tr Plf)→Bool
 |[]=>true
 |t::r=>t.appsLt m&&Nu m r
def HC:Nat→List (List (Tr Plf))→Bool
 |_,[]=>true
 |m,t::r=>Nu m t&&HC (m+1) r
def gAt [Ax] (a:List (List (Tr Plf))):Nat→Nat→D→D
 |0,_,_=>.row []
 |n+1,k,x=>if k=n then Cg (CP (a.getD n []) (gAt a n)) x else gAt a n k x
def Aq [Ax] (a:List (List (Tr Plf))):Nat→D→D:=gAt a a.length
theorem Pb [Ax] (a:List (List (Tr Plf))) {k:Nat} (x:D):∀{n:Nat},k<n→gAt a n k x=gAt a (k+1) k x
 |0,h=>by omega
 |n+1,h=>by
  by_cases c:k=n
  ·subst c;rfl
  ·have:gAt a (n+1) k x=gAt a n k x:=by show (if k=n then _ else _)=_;rw [if_neg c]
   rw [this];exact Pb a x (by omega)
theorem Rx {m:Nat} {V W:Val} (k:V.d=W.d) (n:∀i,i<m→V.fn i=W.fn i):∀{t:Tr Plf},t.appsLt m=true→Dh V (t.get V)=Dh W (t.get W):=by
 have c:V.Alike 1000 m W:=⟨fun i _=>by rw [k],n⟩
 intro t
 induction t with
 |leaf l=>
  intro h;cases l with
  |stuck=>rfl
  |done s cs=>simp only [Tr.get,Dh];rw [D4 c h]
  |next j p=>simp only [Tr.get,Dh];rw [D4 c h]
 |split e a b f g=>
  intro h;simp only [Tr.appsLt,Bool.and_eq_true] at h;have o:Ad V e=Ad W e:=by unfold Ad;rw [SE.fits_ok c e h.1.1]
  simp only [Tr.get,o];cases Ad W e with
  |true=>exact f h.1.2
  |false=>exact g h.2
theorem Xn {m:Nat} {G H:Nat→D→D} (c:∀i,i<m→G i=H i) {T:List (Tr Plf)} (d:Nu m T=true):CP T G=CP T H:=by
 have key:∀(T:List (Tr Plf)),Nu m T=true→∀(i:Nat) t,T[i]?=some t→t.appsLt m=true:=by
  intro T
  induction T with
  |nil=>intro _ i t h;simp at h
  |cons a r ih=>
   intro h i t hi;simp only [Nu,Bool.and_eq_true] at h;cases i with
   |zero=>simp only [List.getElem?_cons_zero,Option.some.injEq] at hi;subst hi;exact h.1
   |succ i=>exact ih h.2 i t (by simpa using hi)
 funext x
 unfold CP;split
 ·rename_i i b;split
  ·rename_i t e;exact Rx (m:=m) (V:=KB G b) (W:=KB H b) rfl (fun i hi=>c i hi) (key T d i t e)
  ·rfl
 ·rfl
theorem K8:∀{c:List (List (Tr Plf))} {m:Nat},HC m c=true→∀(k:Nat) T,c[k]?=some T→Nu (m+k) T=true
 |[],m,_,k,T,h=>by simp at h
 |a::r,m,h,k,T,b=>by
  simp only [HC,Bool.and_eq_true] at h;cases k with
  |zero=>simp only [List.getElem?_cons_zero,Option.some.injEq] at b;subst b;exact h.1
  |succ k=>
   have:=K8 h.2 k T (by simpa using b)
   rwa [show m+1+k=m+(k+1) by omega] at this
theorem Aw [Ax] {a:List (List (Tr Plf))} (h:HC 0 a=true) {k:Nat} {T:List (Tr Plf)} (b:a[k]?=some T) (x:D):Aq a k x=Cg (CP T (Aq a)) x:=by
 have c:k<a.length:=(List.getElem?_eq_some_iff.1 b).1;have d:=K8 h k T b;rw [Nat.zero_add] at d
 have e:Aq a k x=Cg (CP T (gAt a k)) x:=by
  unfold Aq;rw [Pb a x c];show (if k=k then _ else _)=_
  rw [if_pos rfl];simp [List.getD_eq_getElem?_getD,b]
 rw [e,Xn (fun i hi=>?_) d]
 funext y
 unfold Aq;rw [Pb a y hi,Pb a y (show i<a.length by omega)]
def Dec.smL (d:Dec) (args:List AV) (l:Pt):Nat→List Sh→List Sm
 |_,[]=>[]
 |s,t::r=>d.sm args l s t::d.smL args l (s+1) r
theorem Ah.decL [Ax] {P:Program} {l:List Orc} {m:List Sm} {G:Nat→D→D} (hE:∀[U:Unk],U.K=(Env.of P).kinds→OK (Env.ofS P l m)) (hO:Ah (Env.ofS P l m) G) {d:Dec} {T:List (Tr Plf)} {keys:List Nat} {N:Nat} (hg:∀x,G d.g x=Cg (CP T G) x)
  (I:AO (Env.ofS P l m) keys N d T) {nv:Nat} {args:List AV} {pre:List (Option Ag)} {facts:List (SB×Bool)} (ab:d.pts[0]?=some (Ar (Env.of P) d.f nv args pre facts)) (J:(Bb (Env.of P) d.f args .normal).isSome=true) :
  Ah (Env.ofS P l (d.smL args (Ar (Env.of P) d.f nv args pre facts) 0 d.shs++m)) G:=by
 have key:∀(shs:List Sh) (t:Nat),(∀(i:Nat) sh,shs[i]?=some sh→d.shs[t+i]?=some sh)→∀x∈d.smL args (Ar (Env.of P) d.f nv args pre facts) t shs,x.Valid P G:=by
  intro shs
  induction shs with
  |nil=>intro t _ x hx;cases hx
  |cons sh r ih=>
   intro t hs x hx;rcases List.mem_cons.1 hx with q|q
   ·subst q;exact Dec.sm_ok (E:=Env.ofS P l m) hE hO hg I.chk ab J (hs 0 sh rfl)
   ·exact ih (t+1) (fun i al hi=>by have:=hs (i+1) al (by simpa using hi);rwa [show t+(i+1)=t+1+i by omega] at this) x q
 refine ⟨hO.orc,fun x hx=>?_⟩
 rcases List.mem_append.1 hx with q|q
 ·exact key d.shs 0 (fun i sh hi=>by rw [Nat.zero_add];exact hi) x q
 ·exact hO.sms x q
end Go.AE
namespace Go.AE
variable [Gl:AH]
abbrev iV (n:Nat):AV:=.si .i64 (.var n)
abbrev sV (n:Nat):AV:=.ss (.var n)
abbrev bV (n:Nat):AV:=.sb true (.var n)
abbrev dV (e:TypeId) (n:Nat):AV:=.dat e (.var n)
abbrev aV (b a n m:Nat):AV:=.asl b a (.lenL (.var n)) (.var m)
abbrev tO (l:List (Nat×AV)):Option Ag:=some (.cells l.length (Al l))
abbrev rV (e:TypeId) (n:Nat):Option Ag:=some (.arr e (.var n))
class Pg (p:outParam Program) (l:outParam (List Orc)):Prop where
 it:True
abbrev E0 {p:Program} {l:List Orc} [Pg p l]:Env:=Env.of p
abbrev EF {p:Program} {l:List Orc} [Pg p l] (m:Env→List Sm):Env:=Env.ofS p l (m E0)
def rl:List SE→SE
 |[]=>.rnil
 |x::r=>.rcons x (rl r)
def us:Nat→Nat→List SE
 |_,0=>[]
 |a,n+1=>.var a::us (a+1) n
section
variable {E:Env} {keys:List Nat} {N:Nat} {d:Dec} {T:List (Tr Plf)}
theorem dkN {n:Nat} (h:d.pts.length=n) (H:∀i,i<n→∃l,Ao E keys N d T i=some (jl d l)):AO E keys N d T:=fun i b a=>H i (by
 rcases Nat.lt_or_ge i n with q|q
 ·exact q
 ·rw [List.getElem?_eq_none (by omega)] at a
  cases a)
theorem dk1 {x0:List Nat} (h:d.pts.length=1) (h0:Ao E keys N d T 0=some (jl d x0)):AO E keys N d T:=dkN h fun i hi=>match i,hi with
 |0,_=>⟨_,h0⟩
 |i+1,hi=>absurd hi (by omega)
theorem dk2 {x0 x1:List Nat} (h:d.pts.length=2) (h0:Ao E keys N d T 0=some (jl d x0)) (a:Ao E keys N d T 1=some (jl d x1)):AO E keys N d T:=dkN h fun i hi=>match i,hi with
 |0,_=>⟨_,h0⟩
 |1,_=>⟨_,a⟩
 |i+2,hi=>absurd hi (by omega)
theorem dk3 {x0 x1 x2:List Nat} (h:d.pts.length=3) (h0:Ao E keys N d T 0=some (jl d x0)) (a:Ao E keys N d T 1=some (jl d x1)) (b:Ao E keys N d T 2=some (jl d x2)):AO E keys N d T:=dkN h fun i hi=>match i,hi with
 |0,_=>⟨_,h0⟩
 |1,_=>⟨_,a⟩
 |2,_=>⟨_,b⟩
 |i+3,hi=>absurd hi (by omega)
end
end Go.AE
namespace Go.AE
instance gl0:AH:=⟨.nil⟩
end Go.AE

