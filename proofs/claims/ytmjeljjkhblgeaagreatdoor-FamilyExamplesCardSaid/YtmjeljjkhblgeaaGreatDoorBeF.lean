/- What is proved here: an evaluator of the model's steps that the kernel can run, and that whatever it answers is what the model does (part 6 of 8: AeSum, AeRng, AeEval, AeTail, AeRun3, AeOrc, AeMove). Conditions: those that each theorem states; they hold of no one program. -/
import Derived.Test.YtmjeljjkhblgeaaGreatDoorBeE
set_option linter.unusedVariables false
set_option linter.unusedSectionVars false
set_option linter.unusedSimpArgs false
namespace Go.AE
variable [Gl:Au]
structure Bd where
 v:T SE
 b:T Nat
 deriving Inhabited
def Bd.var (m:Bd) (e x:SE):Bd:=match e with
 |.var i=>match m.v.get i with
  |none=>{v:=m.v.set i x,b:=m.b}
  |some _=>m
 |_=>m
def Bd.blk (m:Bd) (b c:Nat):Bd:=match m.b.get b with
 |none=>{v:=m.v,b:=m.b.set b c}
 |some _=>m
mutual
def E7:AV→AV→Bd→Bd
 |.ptr b _,.ptr c _,m=>m.blk b c
 |.slice b _ _ _,.slice c _ _ _,m=>m.blk b c
 |.map b,.map c,m=>m.blk b c
 |.func (.yield l) f c,.func (.yield l') f' c',m=>DK c c' (DK f f' (m.blk l l'))
 |.func _ f c,.func _ f' c',m=>DK c c' (DK f f' m)
 |.iface _ v,.iface _ v',m=>E7 v v' m
 |.agg l,.agg l',m=>DK l l' m
 |.tuple l,.tuple l',m=>DK l l' m
 |.sb p e,.sb p' e',m=>m.var e (match p==p' with|true=>e'|false=>.neg e')
 |.sb p e,.bool b,m=>m.var e (.bc (b==p))
 |.si _ e,.si _ e',m=>m.var e e'
 |.si _ e,.int _ n,m=>m.var e (.c n)
 |.ss e,.ss e',m=>m.var e e'
 |.ss e,.str l b,m=>m.var e (.strc l b)
 |.dat _ x,.dat _ x',m=>m.var x x'
 |.dat _ x,.slice0,m=>m.var x .nilL
 |.asl b _ n nl,.asl c _ n' nl',m=>((m.blk b c).var n n').var nl nl'
 |.asl b _ n nl,.slice c _ n' _,m=>((m.blk b c).var n (.c n')).var nl (.bc false)
 |.asl _ _ n nl,.slice0,m=>(m.var n (.c 0)).var nl (.bc true)
 |.asl _ _ n nl,.eslc nl',m=>(m.var n (.c 0)).var nl nl'
 |.eslc nl,.eslc nl',m=>m.var nl nl'
 |.eslc nl,.slice0,m=>m.var nl (.bc true)
 |.nmap b nl,.nmap c nl',m=>(m.blk b c).var nl nl'
 |.nmap b nl,.map c,m=>(m.blk b c).var nl (.bc false)
 |.nmap _ nl,.map0,m=>m.var nl (.bc true)
 |_,_,m=>m
termination_by structural a=>a
def DK:List AV→List AV→Bd→Bd
 |a::l,b::k,m=>DK l k (E7 a b m)
 |_,_,m=>m
termination_by structural l=>l
end
def Nd:T AV→T AV→Bd→Bd
 |.node v l r,.node v' l' r',m=>Nd r r' (Nd l l' (match v,v' with
  |some a,some b=>E7 a b m
  |_,_=>m))
 |_,_,m=>m
def P1 [Facts] (E:Env):Ac→Ac→Bd→Bd
 |.cells _ c,.cells _ c',m=>Nd c c' m
 |.loop _ _ _ _ t _ _ _ d,.loop _ _ _ _ t' _ _ _ d',m=>Nd t t' (m.blk d d')
 |.arr _ x,.arr _ x',m=>m.var x x'
 |.dmap _ _ x,.dmap _ _ x',m=>m.var x x'
 |.dmap k v x,.map es _,m=>match E.kinds k,E.kinds v with
  |some kks,some vks=>match KB kks vks .emptyL es with
   |some y=>m.var x y
   |none=>m
  |_,_=>m
 |.arr e x,.cells n c,m=>match E.kinds e with
  |some ks=>match c.range 0 n with
   |some l=>match C8 ks (n/ks.length) .emptyL l with
    |some y=>m.var x y
    |none=>m
   |none=>m
  |none=>m
 |_,_,m=>m
def KA [Facts] (E:Env) (h:Aa):List (Option Ac)→Nat→Bd→Bd
 |[],_,m=>m
 |none::r,i,m=>KA E h r (i+1) m
 |some x::r,i,m=>match m.b.get i with
  |some c=>match h.blk.get c with
   |some y=>KA E h r (i+1) (P1 E x y m)
   |none=>KA E h r (i+1) m
  |none=>KA E h r (i+1) m
def F0 [Facts] (E:Env) (l:List (Option Ac)) (h:Aa) (m:Bd):Bd:=match l with
 |[]=>m
 |[_]=>m
 |_=>KA E h l 0 (KA E h l 0 (KA E h l 0 m))
def AC [Facts] (E:Env):List (Option Ac)→Nat→Bd→Aa→Bd×Aa
 |[],_,m,h=>(m,h)
 |none::r,i,m,h=>match m.b.get i with
  |some _=>AC E r (i+1) m h
  |none=>AC E r (i+1) (m.blk i h.nx) {h with nx:=h.nx+1}
 |some x::r,i,m,h=>match m.b.get i with
  |some c=>match h.blk.get c with
   |some y=>AC E r (i+1) (P1 E x y m) h
   |none=>AC E r (i+1) m h
  |none=>match x with
   |.arr e y=>AC E r (i+1) ((m.blk i h.nx).var y .nilL) (h.new (.arr e .nilL))
   |.dmap k v y=>AC E r (i+1) ((m.blk i h.nx).var y .emptyL) (h.new (.dmap k v .emptyL))
   |_=>AC E r (i+1) m h
def GJ (t:T SE):Nat→Nat→List SE
 |_,0=>[]
 |i,n+1=>(match t.get i with|some x=>x|none=>.c 0)::GJ t (i+1) n
def Ha (t:T Nat):Nat→Nat→List Nat
 |_,0=>[]
 |i,n+1=>(match t.get i with|some x=>x|none=>0)::Ha t (i+1) n
def K3 (n:Nat):List Nat→Bool
 |[]=>true
 |b::r=>Nat.blt b n&&K3 n r
def CH (nx:Nat):Nat→List Nat
 |0=>[]
 |m+1=>nx::CH (nx+1) m
def G2 [U:Facts] (θ:List SE):List (SB×Bool)→Bool
 |[]=>true
 | (e,b)::r=>(match Az U.facts (e.inst θ) with
  |some c=>c==b
  |none=>false)&&G2 θ r
def Dj [Facts] (θ:List SE) (β:List Nat):List (Option Ac)→List Nat→T Ac→Option (T Ac)
 |[],[],t=>some t
 |none::r,b::bs,t=>Dj θ β r bs (t.del b)
 |some x::r,b::bs,t=>match x.inst θ β with
  |some y=>Dj θ β r bs (t.set b y)
  |none=>none
 |_,_,_=>none
def MN:Option Obs→Bool
 |some []=>true
 |_=>false
def QA [Facts]:Obs→Bool
 |[]=>true
 | (a,.bc true)::r=>a.isB&&JK a&&QA r
 |_=>false
def HP [Facts]:Option Obs→Bool
 |some o=>QA o
 |none=>false
theorem Tj {U:Unk}:∀{o:Obs},@QA U.toFacts o=true→o.holds U.V:=by
 intro o
 induction o with
 |nil=>intro _ a b hm;cases hm
 |cons p r ih=>
  intro h;unfold QA at h;split at h
  ·rename_i heq;cases heq
  ·rename_i x r' heq;cases heq;simp only [Bool.and_eq_true] at h;intro a b hm;rcases List.mem_cons.1 hm with q|q
   ·cases q;have h1:=h.1.2;unfold JK at h1;split at h1
    ·rename_i hd;have:=An U.ok hd;rw [LX U.V h.1.1];show D.bool (Ai U.V x)=_;rw [this];rfl
    ·cases h1
   ·exact ih h.2 a b q
  ·cases h
theorem Lq {U:Unk} {o:Option Obs} (h:@HP U.toFacts o=true):∃l,o=some l∧l.holds U.V:=by
 unfold HP at h;split at h
 ·exact ⟨_,rfl,Tj h⟩
 ·cases h
def Q4 (old new:T Ac):List Nat→List Nat
 |[]=>[]
 |b::r=>match eqO Nu (old.get b) (new.get b) with
  |true=>Q4 old new r
  |false=>b::Q4 old new r
theorem Mw {old new:T Ac}:∀{l:List Nat} {b:Nat},b∈l→b∉Q4 old new l→new.get b=old.get b
 |c::r,b,h,hn=>by
  simp only [Q4] at hn;split at hn
  ·rename_i he;rcases List.mem_cons.1 h with q|q
   ·subst q;exact (Sa (fun _ _=>JG) he).symm
   ·exact Mw q hn
  ·rcases List.mem_cons.1 h with q|q
   ·subst q;exact absurd (by simp) hn
   ·exact Mw q (fun c=>hn (by simp [c]))
def OF [Facts] (E:Env) (s:Sm) (θ:List SE) (β:List Nat) (args:List AV) (h:Aa):Option (AV×Aa):=
 match HP (EW θ β s.args args)&&HP (DG E θ β h s.pre β)&&Eb β&&K3 h.nx β&&G2 θ s.facts&&Nat.ble s.pre.length s.post.length with
 |true=>
  match Dj θ (β++CH h.nx (s.post.length-s.pre.length)) s.post (β++CH h.nx (s.post.length-s.pre.length)) h.blk with
  |some t=>some (s.res.inst θ (β++CH h.nx (s.post.length-s.pre.length)),{blk:=t,nx:=h.nx+(s.post.length-s.pre.length),log:=Q4 h.blk t β++h.log})
  |none=>none
 |false=>none
def fj:AV→Kd
 |.dat e _=>.slice e
 |_=>.bool
def M0 [Facts] (E:Env) (p a:AV) (h:Aa):AV×Aa:=
 match p,a with
 |.agg qs,.agg xs=>match G9 E (qs.map fj) xs h with
  | (xs',h1)=>(.agg xs',h1)
 |p,a=>IV E (fj p) a h
def Nv [Facts] (E:Env):List AV→List AV→Aa→List AV×Aa
 |p::ps,a::l,h=>match M0 E p a h with
  | (a',h1)=>match Nv E ps l h1 with
   | (l',h2)=>(a'::l',h2)
 |_,l,h=>(l,h)
def Dg [Facts] (E:Env):List (Option Ac)→Nat→T Nat→Aa→Aa
 |[],_,_,h=>h
 |some (.arr e _)::r,i,b,h=>match b.get i,E.kinds e with
  |some c,some ks=>match E1 ks with
   |true=>match h.blk.get c with
    |some (.cells _ _)=>Dg E r (i+1) b (Gi E e c h)
    |_=>Dg E r (i+1) b h
   |false=>Dg E r (i+1) b h
  |_,_=>Dg E r (i+1) b h
 |some (.cells n pc)::r,i,b,h=>match b.get i,pc.range 0 n with
  |some c,some l=>match E1 (Lp l) with
   |true=>Dg E r (i+1) b (Dw E (Lp l) c h)
   |false=>Dg E r (i+1) b h
  |_,_=>Dg E r (i+1) b h
 |_::r,i,b,h=>Dg E r (i+1) b h
def Nk [Facts] (E:Env) (s:Sm) (args:List AV) (h:Aa):List AV×Aa:=match Nv E s.args args h with
 | (args,h)=>(args,Dg E s.pre 0 (F0 E s.pre h (DK s.args args ⟨.nil,.nil⟩)).b h)
def OB:AV→Bool
 |.bool _=>true
 |.int _ _=>true
 |.str _ _=>true
 |.sb _ _=>true
 |.si _ _=>true
 |.ss _=>true
 |_=>false
def Mq:AV→Bool
 |.tuple l=>l.all OB
 |a=>OB a
def Wb (s:Sm) (h:Aa) (r:AV×Aa):AV×Aa:=match s.pre,s.post,Mq r.1 with
 |[],[],true=>(r.1,h)
 |_,_,_=>r
def R8 [Facts] (E:Env) (s:Sm) (args:List AV) (h0:Aa):Option (AV×Aa):=
 match Nk E s args h0 with
 | (args,h)=>match AC E s.pre 0 (F0 E s.pre h (DK s.args args ⟨.nil,.nil⟩)) h with
  | (m,h1)=>match OF E s (GJ m.v 0 s.nv) (Ha m.b 0 s.pre.length) args h1 with
   |some r=>some (Wb s h0 r)
   |none=>none
def J1 [Facts] (E:Env):List Sm→FuncId→List AV→Aa→Option (Bool×AV×Aa)
 |[],_,_,_=>none
 |s::r,f,args,h=>match Nat.beq s.f f with
  |true=>match R8 E s args h with
   |some (v,g)=>some (s.ok,v,g)
   |none=>J1 E r f args h
  |false=>J1 E r f args h
def Sm.Valid (P:Program) (F:Nat→D→D) (s:Sm):Prop:=
 ∀[U:Unk],U.K=(Env.of P).kinds→U.V.fn=F→(∀e b,(e,b)∈s.facts→Ai U.V e=b)→∀(ρ:Ren) (w:World) (args':List Value),VL ρ s.args args'→HR ρ (AW s.pre).get w→(∀b,s.pre.length≤b→ρ b=none)→
  ∀(c0:Frame) (base:List Frame),∃σ v' w',BK P (lone (Frame.enter P s.f args'.toArray .normal) (c0::base) w) c0 base s.ok v' w'∧VR σ s.res v'∧HR σ (AW s.post).get w'∧
   Ext ρ σ {blk:=AW s.pre,nx:=s.pre.length,log:=[]} {blk:=AW s.post,nx:=s.post.length,log:=List.range s.pre.length} w w'
theorem K6 {o:Option Obs} (h:MN o=true):o=some []:=by
 unfold MN at h;split at h
 ·rfl
 ·cases h
theorem JM:∀(m nx i:Nat),(CH nx m)[i]?=if i<m then some (nx+i) else none
 |0,nx,i=>by simp [CH]
 |m+1,nx,i=>by
  cases i with
  |zero=>simp [CH]
  |succ i=>
   simp only [CH,List.getElem?_cons_succ,JM m (nx+1) i];by_cases c:i<m
   ·rw [if_pos c,if_pos (by omega)];congr 1;omega
   ·rw [if_neg c,if_neg (by omega)]
theorem J5 {n:Nat}:∀{l:List Nat},K3 n l=true→∀b∈l,b<n
 |[],_,b,hb=>by cases hb
 |c::r,h,b,hb=>by
  simp only [K3,Bool.and_eq_true] at h;rcases List.mem_cons.1 hb with rfl|hb
  ·simpa [Nat.blt_eq] using h.1
  ·exact J5 h.2 b hb
theorem BB {U:Unk} {θ:List SE}:∀{l:List (SB×Bool)},@G2 U.toFacts θ l=true→∀e b,(e,b)∈l→Ai (U.V.inst θ) e=b
 |[],_,e,b,h=>by cases h
 | (x,c)::r,h,e,b,hm=>by
  simp only [G2,Bool.and_eq_true] at h;rcases List.mem_cons.1 hm with q|q
  ·cases q;have h1:=h.1;split at h1
   ·rename_i d hd;have:=@An _ U U.V _ U.ok _ _ hd;rw [Em] at this;rw [this];exact eq_of_beq h1
   ·cases h1
  ·exact BB h.2 e b q
theorem OM [Facts] {θ:List SE} {β:List Nat}:∀(l:List (Option Ac)) (bs:List Nat) (t t':T Ac),Dj θ β l bs t=some t'→(∀(i j b:Nat),bs[i]?=some b→bs[j]?=some b→i=j)→
  (∀c,c∉bs→t'.get c=t.get c)∧∀(i c:Nat),bs[i]?=some c→(l[i]?=some none∧t'.get c=none)∨∃(x y:Ac),l[i]?=some (some x)∧x.inst θ β=some y∧t'.get c=some y:=by
 intro l
 induction l with
 |nil=>
  intro bs t t' h hd;cases bs with
  |nil=>simp only [Dj,Option.some.injEq] at h;subst h;exact ⟨fun _ _=>rfl,fun i c hc=>by simp at hc⟩
  |cons=>cases h
 |cons o r ih=>
  intro bs t t' h hd;cases bs with
  |nil=>cases o<;>cases h
  |cons b bs=>
   have hb:b∉bs:=by
    intro hm;obtain ⟨j,hj,e⟩:=List.getElem_of_mem hm;have:=hd 0 (j+1) b rfl (by simp [hj,e])
    omega
   have hd':∀(i j b:Nat),bs[i]?=some b→bs[j]?=some b→i=j:=fun i j c hi hj=>by
    have:=hd (i+1) (j+1) c (by simpa using hi) (by simpa using hj)
    omega
   cases o with
   |none=>
    simp only [Dj] at h;obtain ⟨q1,q2⟩:=ih bs _ t' h hd';refine ⟨fun c hc=>?_,fun i c hc=>?_⟩
    ·simp only [List.mem_cons,not_or] at hc;rw [q1 c hc.2,T.get_del,if_neg (fun e=>hc.1 e.symm)]
    ·cases i with
     |zero=>
      simp only [List.getElem?_cons_zero,Option.some.injEq] at hc;subst hc;exact .inl ⟨rfl,by rw [q1 _ hb,T.get_del,if_pos rfl]⟩
     |succ i=>
      simp only [List.getElem?_cons_succ] at hc ⊢;exact q2 i c hc
   |some x=>
    simp only [Dj] at h;split at h
    ·rename_i y hy;obtain ⟨q1,q2⟩:=ih bs _ t' h hd';refine ⟨fun c hc=>?_,fun i c hc=>?_⟩
     ·simp only [List.mem_cons,not_or] at hc;rw [q1 c hc.2,T.get_set,if_neg (fun e=>hc.1 e.symm)]
     ·cases i with
      |zero=>
       simp only [List.getElem?_cons_zero,Option.some.injEq] at hc;subst hc;exact .inr ⟨x,y,rfl,hy,by rw [q1 _ hb,T.get_set,if_pos rfl]⟩
      |succ i=>
       simp only [List.getElem?_cons_succ] at hc ⊢;exact q2 i c hc
    ·cases h
@[reducible] def B7 (U:Unk) (F:List (SB×Bool)) (θ:List SE) (h:∀e b,(e,b)∈F→Ai (U.V.inst θ) e=b):Unk:={facts:=F,V:=U.V.inst θ,K:=U.K,R:=[],hR:=fun _ _ _ _ _ h=>(by cases h),ok:=h}
theorem P6 {U:Unk} {E:Env} {FF:List (SB×Bool)} {θ:List SE} {β:List Nat} (hok:∀e b,(e,b)∈FF→Ai (U.V.inst θ) e=b) {pre post:List (Option Ac)} {res:AV} {o:Obs} {h:Aa} {t:T Ac} {ρ σ:Ren} {w w':World} {v':Value} {n0 n1:Nat} (hn0:pre.length=n0) (hn1:post.length=n1)
  (ho2:DG E θ β h pre β=some o) (hoh:o.holds U.V) (hnd:Eb β=true) (hlt:∀b∈β,b<h.nx) (hlen:n0≤n1) (ht:Dj θ (β++CH h.nx (n1-n0)) post (β++CH h.nx (n1-n0)) h.blk=some t)
  (hr:HR ρ h.blk.get w) (hwf:∀b,h.nx≤b→h.blk.get b=none) (hfree:Ax ρ h.nx (h.nx+(n1-n0)))
  (q2:@VR (B7 U FF θ hok).toVals σ res v') (q3:@HR _ (B7 U FF θ hok).toVals σ (AW post).get w') (q4:Ext (ρ.back β) σ {blk:=AW pre,nx:=pre.length,log:=[]} {blk:=AW post,nx:=post.length,log:=List.range pre.length} w w') :
  ∃τ,VR τ (res.inst θ (β++CH h.nx (n1-n0))) v'∧HR τ t.get w'∧Ext ρ τ h {blk:=t,nx:=h.nx+(n1-n0),log:=β++h.log} w w':=by
 have hV:(B7 U FF θ hok).V=U.V.inst θ:=rfl;have hK:(B7 U FF θ hok).K=U.K:=rfl;have hbl:pre.length=β.length:=(CF (U:=U) (W:=B7 U FF θ hok) hV hK pre β o ho2 hoh).1;have hblk:=(CF (U:=U) (W:=B7 U FF θ hok) hV hK pre β o ho2 hoh).2
 have hback:∀b,pre.length≤b→(ρ.back β).m b=none:=by
  intro b hb;have:β[b]?=none:=List.getElem?_eq_none (by omega)
  simp [Ren.back,this]
 have hbn:β.length=n0:=by omega
 have gb:∀(i:Nat),(β++CH h.nx (n1-n0))[i]?=if i<n0 then β[i]? else if i<n1 then some (h.nx+(i-n0)) else none:=by
  intro i;by_cases c:i<n0
  ·rw [if_pos c,List.getElem?_append_left (by omega)]
  ·rw [if_neg c,List.getElem?_append_right (by omega),JM,hbn]
   by_cases c2:i<n1
   ·rw [if_pos c2,if_pos (by omega)]
   ·rw [if_neg c2,if_neg (by omega)]
 have gdist:∀(i j b:Nat),(β++CH h.nx (n1-n0))[i]?=some b→(β++CH h.nx (n1-n0))[j]?=some b→i=j:=by
  intro i j b hi hj;rw [gb] at hi hj;by_cases c:i<n0
  ·rw [if_pos c] at hi;have:=hlt b (List.mem_of_getElem? hi);by_cases d:j<n0
   ·rw [if_pos d] at hj;exact Ll hnd hi hj
   ·rw [if_neg d] at hj;split at hj
    ·cases hj;omega
    ·cases hj
  ·rw [if_neg c] at hi;split at hi
   ·cases hi;by_cases d:j<n0
    ·rw [if_pos d] at hj;have:=hlt _ (List.mem_of_getElem? hj);omega
    ·rw [if_neg d] at hj;split at hj
     ·simp only [Option.some.injEq] at hj;omega
     ·cases hj
   ·cases hi
 obtain ⟨t1,t2⟩:=@OM _ U.toFacts θ _ _ _ _ _ ht gdist
 let τ:Ren:=⟨fun c=>if h.nx≤c∧c<h.nx+(n1-n0) then σ (n0+(c-h.nx)) else ρ c,σ.imm⟩
 have τold:∀c,c<h.nx→τ c=ρ c:=fun c hc=>by show (if _ then _ else _)=_;rw [if_neg (by omega)]
 have τnew:∀i,n0≤i→i<n1→τ (h.nx+(i-n0))=σ i:=fun i h1 h2=>by
  show (if _ then _ else _)=_
  rw [if_pos (by omega)];congr 1;omega
 have hle0:=q4.le
 have back:∀b base,(ρ.back β).m b=some base→∃c,β[b]?=some c∧ρ c=some base:=by
  intro b base hb;simp only [Ren.back] at hb;cases hc:β[b]? with
  |none=>rw [hc] at hb;cases hb
  |some c=>rw [hc] at hb;exact ⟨c,rfl,hb⟩
 have preLive:∀b,(AW pre).get b≠none→∃c y,β[b]?=some c∧h.blk.get c=some y:=by
  intro b hb;rw [BV] at hb;cases hx:pre[b]? with
  |none=>rw [hx] at hb;exact absurd rfl hb
  |some ox=>
   cases ox with
   |none=>rw [hx] at hb;exact absurd rfl hb
   |some x=>
    obtain ⟨c,y,o',a1,a2,a3,a4⟩:=hblk b x hx;exact ⟨c,y,a1,a2⟩
 have hle:ρ.le τ:=by
  refine ⟨fun c base hc=>?_,fun k a hk=>hle0.imm k a hk⟩
  show (if _ then _ else _)=_
  rw [if_neg ?_]
  ·exact hc
  ·intro hcr;rw [hfree c hcr.1 hcr.2] at hc;cases hc
 have hβ:∀b base,σ b=some base→τ ((β++CH h.nx (n1-n0)).getD b 0)=some base:=by
  intro b bs hb;rcases q4.new b bs hb with hq|⟨a1,a2,_⟩
  ·obtain ⟨c,c1,c2⟩:=back b bs hq;have hbl':b<n0:=by have:=(List.getElem?_eq_some_iff.1 c1).1;omega
   have e:(β++CH h.nx (n1-n0)).getD b 0=c:=by rw [List.getD_eq_getElem?_getD,gb,if_pos hbl',c1];rfl
   rw [e,τold c (hlt c (List.mem_of_getElem? c1))];exact c2
  ·simp only [hn0,hn1] at a1 a2;have e:(β++CH h.nx (n1-n0)).getD b 0=h.nx+(b-n0):=by rw [List.getD_eq_getElem?_getD,gb,if_neg (by omega),if_pos a2];rfl
   rw [e,τnew b a1 a2];exact hb
 have kinds:∀c y,t.get c=some y→(∃i x,(β++CH h.nx (n1-n0))[i]?=some c∧(AW post).get i=some x∧@Ac.inst U.toFacts θ (β++CH h.nx (n1-n0)) x=some y)∨(c∉β∧c<h.nx∧h.blk.get c=some y):=by
  intro c y hy;by_cases hm:c∈β++CH h.nx (n1-n0)
  ·obtain ⟨i,hi,e⟩:=List.getElem_of_mem hm;have hic:(β++CH h.nx (n1-n0))[i]?=some c:=List.getElem?_eq_some_iff.2 ⟨hi,e⟩;rcases t2 i c hic with ⟨_,q⟩|⟨x,y',a1,a2,a3⟩
   ·rw [q] at hy;cases hy
   ·rw [a3] at hy;cases hy;exact .inl ⟨i,x,hic,by rw [BV,a1];rfl,a2⟩
  ·rw [t1 c hm] at hy;refine .inr ⟨fun e=>hm (List.mem_append_left _ e),?_,hy⟩
   rcases Nat.lt_or_ge c h.nx with q|q
   ·exact q
   ·rw [hwf c q] at hy;cases hy
 have baseOf:∀i c bs,(β++CH h.nx (n1-n0))[i]?=some c→τ c=some bs→σ i=some bs:=by
  intro i c bs hi hc;rw [gb] at hi;by_cases d:i<n0
  ·rw [if_pos d] at hi;rw [τold c (hlt c (List.mem_of_getElem? hi))] at hc;exact hle0.m i bs (by show (β[i]?).bind ρ.m=some bs;rw [hi];exact hc)
  ·rw [if_neg d] at hi;split at hi
   ·rename_i d2;cases hi;rw [τnew i (by omega) d2] at hc;exact hc
   ·cases hi
 have given:∀b0 base0 c bs y,(ρ.back β).m b0=some base0→(AW pre).get b0≠none→c∉β→ρ c=some bs→h.blk.get c=some y→base0.cb≠bs.cb:=by
  intro b0 base0 c bs y h1 h2 h3 h4 h5;obtain ⟨c1,e1,e2⟩:=back b0 base0 h1;obtain ⟨c2,y2,e3,e4⟩:=preLive b0 h2;rw [e1] at e3;cases e3;exact hr.apart c1 c base0 bs (fun e=>h3 (e▸List.mem_of_getElem? e1)) e2 h4 (by rw [e4];exact Option.some_ne_none _) (by rw [h5];exact Option.some_ne_none _)
 have mixed:∀i c bs c' bs' y' x,(β++CH h.nx (n1-n0))[i]?=some c→(AW post).get i=some x→τ c=some bs→c'∉β→c'<h.nx→h.blk.get c'=some y'→τ c'=some bs'→bs.cb≠bs'.cb:=by
  intro i c bs c' bs' y' x hi hx hc h3 h4 h5 h6;rw [τold c' h4] at h6;have hσ:=baseOf i c bs hi hc;rcases q4.new i bs hσ with hq|⟨a1,a2,a3|⟨b0,base0,e1,e2,e3⟩⟩
  ·rcases q4.live i (by show (AW post).get i≠none;rw [hx];exact Option.some_ne_none _) with l|⟨l1,l2⟩
   ·exact given i bs c' bs' y' hq l h3 h6 h5
   ·simp only at l1;rw [hback i l1] at hq;cases hq
  ·have:=hr.lt c' bs' h6;omega
  ·rw [←e3];exact given b0 base0 c' bs' y' e1 e2 h3 h6 h5
 refine ⟨τ,EK (U:=U) (W:=B7 U FF θ hok) hV hK hβ (fun k a hk=>hk) res v' q2,⟨?_,?_,?_,?_,?_,hr.glob.mono hle.imm⟩,⟨hle,by show h.nx≤h.nx+_;omega,?_,q4.calm,?_,⟨β,rfl,?_⟩,?_,?_⟩⟩
 ·intro c bs hc;by_cases d:h.nx≤c∧c<h.nx+(n1-n0)
  ·have:τ c=σ (n0+(c-h.nx)):=by show (if _ then _ else _)=_;rw [if_pos d]
   rw [this] at hc;exact HR.lt (U:=(B7 U FF θ hok).toVals) q3 _ bs hc
  ·have:τ c=ρ c:=by show (if _ then _ else _)=_;rw [if_neg d]
   rw [this] at hc;have:=hr.lt c bs hc;have:=q4.calm.size;omega
 ·intro c bs y hc hy;rcases kinds c y hy with ⟨i,x,a1,a2,a3⟩|⟨a1,a2,a3⟩
  ·exact ON (U:=U) (W:=B7 U FF θ hok) hV hK hβ (fun k a hk=>hk) a3 (HR.blk (U:=(B7 U FF θ hok).toVals) q3 i bs x (baseOf i c bs a1 hc) a2)
  ·rw [τold c a2] at hc;have hk:=q4.kept bs.cb (hr.lt c bs hc) (fun b0 base0 hb0 hl0=>given b0 base0 c bs y hb0 hl0 a1 hc a3)
   rw [hk];exact (hr.blk c bs y hc a3).mono hle
 ·intro c c' bs bs' hne hc hc' h1 h2;cases hy:t.get c with
  |none=>exact absurd hy h1
  |some y=>
   cases hy':t.get c' with
   |none=>exact absurd hy' h2
   |some y'=>
    rcases kinds c y hy with ⟨i,x,a1,a2,a3⟩|⟨a1,a2,a3⟩
    ·rcases kinds c' y' hy' with ⟨i',x',b1,b2,b3⟩|⟨b1,b2,b3⟩
     ·exact HR.apart (U:=(B7 U FF θ hok).toVals) q3 i i' bs bs' (fun e=>by subst e;rw [a1] at b1;cases b1;exact hne rfl) (baseOf i c bs a1 hc) (baseOf i' c' bs' b1 hc') (by rw [a2];exact Option.some_ne_none _) (by rw [b2];exact Option.some_ne_none _)
     ·exact mixed i c bs c' bs' y' x a1 a2 hc b1 b2 b3 hc'
    ·rcases kinds c' y' hy' with ⟨i',x',b1,b2,b3⟩|⟨b1,b2,b3⟩
     ·exact (mixed i' c' bs' c bs y x' b1 b2 hc' a1 a2 a3 hc).symm
     ·rw [τold c a2] at hc;rw [τold c' b2] at hc';exact hr.apart c c' bs bs' hne hc hc' (by rw [a3];exact Option.some_ne_none _) (by rw [b3];exact Option.some_ne_none _)
 ·intro k arr hk;exact HR.imm (U:=(B7 U FF θ hok).toVals) q3 k arr hk
 ·intro k arr c bs hk hc hl;cases hy:t.get c with
  |none=>exact absurd hy hl
  |some y=>
   rcases kinds c y hy with ⟨i,x,a1,a2,a3⟩|⟨a1,a2,a3⟩
   ·exact HR.off (U:=(B7 U FF θ hok).toVals) q3 k arr i bs hk (baseOf i c bs a1 hc) (by rw [a2];exact Option.some_ne_none _)
   ·rw [τold c a2] at hc;have hl3:h.blk.get c≠none:=by rw [a3];exact Option.some_ne_none _
    rcases q4.imm k arr hk with e|e|⟨b0,base0,e1,e2,e3⟩
    ·exact hr.off k arr c bs e hc hl3
    ·have:=hr.lt c bs hc;omega
    ·rw [←e3];exact (given b0 base0 c bs y e1 e2 a1 hc a3).symm
 ·intro c bs hc;by_cases d:h.nx≤c∧c<h.nx+(n1-n0)
  ·have e:τ c=σ (n0+(c-h.nx)):=by show (if _ then _ else _)=_;rw [if_pos d]
   rw [e] at hc;refine .inr ⟨d.1,d.2,?_⟩;rcases q4.new _ bs hc with hq|⟨_,_,a3|⟨b0,base0,e1,e2,e3⟩⟩
   ·rw [hback _ (by omega)] at hq;cases hq
   ·exact .inl a3
   ·obtain ⟨c1,x1,x2⟩:=back b0 base0 e1;obtain ⟨c2,y2,x3,x4⟩:=preLive b0 e2;rw [x1] at x3;cases x3;exact .inr ⟨c1,base0,x2,by rw [x4];exact Option.some_ne_none _,e3⟩
  ·have e:τ c=ρ c:=by show (if _ then _ else _)=_;rw [if_neg d]
   rw [e] at hc;exact .inl hc
 ·intro k hk hno;refine q4.kept k hk (fun b0 base0 e1 e2=>?_)
  obtain ⟨c1,x1,x2⟩:=back b0 base0 e1;obtain ⟨c2,y2,x3,x4⟩:=preLive b0 e2;rw [x1] at x3;cases x3;exact hno c1 base0 x2 (by rw [x4];exact Option.some_ne_none _)
 ·intro b hb hrange;refine t1 b (fun hm=>?_)
  rcases List.mem_append.1 hm with q|q
  ·exact hb q
  ·obtain ⟨i,hi,e⟩:=List.getElem_of_mem q;have hi':(CH h.nx (n1-n0))[i]?=some b:=by simp [hi,e]
   rw [JM] at hi';split at hi'
   ·cases hi';simp only at hrange;omega
   ·cases hi'
 ·intro b hb;show h.blk.get b≠none∨(h.nx≤b∧b<h.nx+(n1-n0));cases hy:t.get b with
  |none=>exact absurd hy hb
  |some y=>
   rcases kinds b y hy with ⟨i,x,a1,a2,a3⟩|⟨a1,a2,a3⟩
   ·rw [gb] at a1;by_cases d:i<n0
    ·rw [if_pos d] at a1;rcases q4.live i (by show (AW post).get i≠none;rw [a2];exact Option.some_ne_none _) with l|⟨l1,_⟩
     ·obtain ⟨c2,y2,x3,x4⟩:=preLive i l;rw [a1] at x3;cases x3;exact .inl (by rw [x4];exact Option.some_ne_none _)
     ·simp only at l1;omega
    ·rw [if_neg d] at a1;split at a1
     ·cases a1;exact .inr (by omega)
     ·cases a1
   ·exact .inl (by rw [a3];exact Option.some_ne_none _)
 ·intro k arr hk;rcases q4.imm k arr hk with e|e|⟨b0,base0,e1,e2,e3⟩
  ·exact .inl e
  ·exact .inr (.inl e)
  ·obtain ⟨c1,x1,x2⟩:=back b0 base0 e1;obtain ⟨c2,y2,x3,x4⟩:=preLive b0 e2;rw [x1] at x3;cases x3;exact .inr (.inr ⟨c1,base0,x2,by rw [x4];exact Option.some_ne_none _,e3⟩)
theorem QG {U:Unk} {E:Env} (hE:OK E) {F:Nat→D→D} (hF:U.V.fn=F) {s:Sm} (hs:s.Valid E.P F) {θ:List SE} {β:List Nat} {args:List AV} {args':List Value} {h h':Aa} {v:AV} {ρ:Ren} {w:World}
  (hx:OF E s θ β args h=some (v,h')) (ha:VL ρ args args') (hr:HR ρ h.blk.get w) (hwf:∀b,h.nx≤b→h.blk.get b=none) (hfree:Ax ρ h.nx h'.nx) (c0:Frame) (base:List Frame) :
  ∃τ v' w',BK E.P (lone (Frame.enter E.P s.f args'.toArray .normal) (c0::base) w) c0 base s.ok v' w'∧VR τ v v'∧HR τ h'.blk.get w'∧Ext ρ τ h h' w w':=by
 unfold OF at hx;split at hx
 ·rename_i hc;split at hx
  ·rename_i t ht;simp only [Option.some.injEq,Prod.mk.injEq] at hx;obtain ⟨rfl,rfl⟩:=hx;obtain ⟨hc,hlen⟩:=Am hc;obtain ⟨hc,hfc⟩:=Am hc;obtain ⟨hc,hlt⟩:=Am hc;obtain ⟨hc,hnd⟩:=Am hc;obtain ⟨ho1,ho2⟩:=Am hc;obtain ⟨l1,ho1,hl1⟩:=Lq ho1;obtain ⟨l2,ho2,hl2⟩:=Lq ho2;have hlen:=Cs hlen;have hlt:=J5 hlt;have hV:(B7 U s.facts θ (BB hfc)).V=U.V.inst θ:=rfl;have hK:(B7 U s.facts θ (BB hfc)).K=U.K:=rfl;have hbl:s.pre.length=β.length:=(CF (U:=U) (W:=B7 U s.facts θ (BB hfc)) hV hK s.pre β _ ho2 hl2).1;have p1:=C2 (U:=U) (W:=B7 U s.facts θ (BB hfc)) hV hK s.args args _ args' ho1 hl1 ha;have p2:=HR.toPat (U:=U) (W:=B7 U s.facts θ (BB hfc)) hV hK hE hr ho2 hl2 hnd
   have hback:∀b,s.pre.length≤b→(ρ.back β).m b=none:=by
    intro b hb;have:β[b]?=none:=List.getElem?_eq_none (by omega)
    simp [Ren.back,this]
   obtain ⟨σ,v',w',q1,q2,q3,q4⟩:=hs (U:=B7 U s.facts θ (BB hfc)) hE.kd hF (BB hfc) (ρ.back β) w args' p1 p2 hback c0 base;obtain ⟨τ,r1,r2,r3⟩:=P6 (U:=U) (E:=E) (FF:=s.facts) (BB hfc) rfl rfl ho2 hl2 hnd hlt hlen ht hr hwf hfree q2 q3 q4;refine ⟨τ,v',w',q1,r1,r2,{r3 with log:=⟨Q4 h.blk t β,rfl,fun b hb hr=>?_⟩}⟩
   by_cases hm:b∈β
   ·exact Mw hm hb
   ·obtain ⟨l,e1,e2⟩:=r3.log;have e1:β++h.log=l++h.log:=e1;have:=List.append_cancel_right e1;subst this;exact e2 b hm hr
  ·cases hx
 ·cases hx
theorem Bc [Facts] {E:Env}:∀(l:List (Option Ac)) (i:Nat) (m:Bd) (h:Aa),h.nx≤(AC E l i m h).2.nx
 |[],_,_,_=>Nat.le_refl _
 |none::r,i,m,h=>by
  simp only [AC];split
  ·exact Bc r (i+1) m h
  ·exact Nat.le_trans (Nat.le_succ _) (Bc (E:=E) r (i+1) (m.blk i h.nx) {h with nx:=h.nx+1})
 |some x::r,i,m,h=>by
  simp only [AC];split
  ·split
   ·exact Bc r (i+1) _ h
   ·exact Bc r (i+1) _ h
  ·split
   ·rename_i e y;have:=Bc (E:=E) r (i+1) ((m.blk i h.nx).var y .nilL) (h.new (.arr e .nilL));exact Nat.le_trans (Nat.le_succ _) this
   ·rename_i k v y;have:=Bc (E:=E) r (i+1) ((m.blk i h.nx).var y .emptyL) (h.new (.dmap k v .emptyL));exact Nat.le_trans (Nat.le_succ _) this
   ·exact Bc r (i+1) _ h
theorem A9 {U:Unk} {E:Env} {ρ:Ren} {w:World}:∀(l:List (Option Ac)) (i:Nat) (m:Bd) (h:Aa),HR ρ h.blk.get w→WF h→Ax ρ h.nx (AC E l i m h).2.nx→
  HR ρ (AC E l i m h).2.blk.get w∧Ext ρ ρ h (AC E l i m h).2 w w∧WF (AC E l i m h).2
 |[],_,_,h,hr,hwf,_=>⟨hr,Ext.refl _ _ _,hwf⟩
 |none::r,i,m,h,hr,hwf,hf=>by
  simp only [AC] at hf ⊢;split at hf
  ·exact A9 r (i+1) m h hr hwf hf
  ·have hn:=Bc (E:=E) r (i+1) (m.blk i h.nx) {h with nx:=h.nx+1}
   have e0:Ext ρ ρ h {h with nx:=h.nx+1} w w:=⟨Ren.le_refl ρ,Nat.le_succ _,fun _ _ e=>.inl e,Fq.refl w,fun _ _ _=>rfl,⟨[],rfl,fun _ _ _=>rfl⟩,fun _ e=>.inl e,fun _ _ e=>.inl e⟩
   obtain ⟨q1,q2,q3⟩:=A9 r (i+1) (m.blk i h.nx) {h with nx:=h.nx+1} hr (e0.wf hwf) (e0.free hf)
   exact ⟨q1,e0.trans q2 hf,q3⟩
 |some x::r,i,m,h,hr,hwf,hf=>by
  simp only [AC] at hf ⊢;split at hf
  ·split at hf
   ·exact A9 r (i+1) _ h hr hwf hf
   ·exact A9 r (i+1) _ h hr hwf hf
  ·split at hf
   ·rename_i e y;have hn:=Bc (E:=E) r (i+1) ((m.blk i h.nx).var y .nilL) (h.new (.arr e .nilL));have hn1:(h.new (.arr e .nilL)).nx=h.nx+1:=rfl;obtain ⟨p1,p2⟩:=HR.phantom hr (hf h.nx (Nat.le_refl _) (by omega)) (.arr e .nilL)
    obtain ⟨q1,q2,q3⟩:=A9 r (i+1) _ _ p1 (p2.wf hwf) (p2.free hf);exact ⟨q1,p2.trans q2 hf,q3⟩
   ·rename_i k v y;have hn:=Bc (E:=E) r (i+1) ((m.blk i h.nx).var y .emptyL) (h.new (.dmap k v .emptyL));have hn1:(h.new (.dmap k v .emptyL)).nx=h.nx+1:=rfl;obtain ⟨p1,p2⟩:=HR.phantom hr (hf h.nx (Nat.le_refl _) (by omega)) (.dmap k v .emptyL)
    obtain ⟨q1,q2,q3⟩:=A9 r (i+1) _ _ p1 (p2.wf hwf) (p2.free hf);exact ⟨q1,p2.trans q2 hf,q3⟩
   ·exact A9 r (i+1) _ h hr hwf hf
theorem Np {U:Unk} {E:Env} (hE:OK E) {w:World} {p a a':AV} {v:Value} {ρ:Ren} {h h':Aa} (hr:HR ρ h.blk.get w) (ha:VR ρ a v) (hx:M0 E p a h=(a',h')) :
  h'.nx=h.nx∧∃σ:Ren,VR σ a' v∧HR σ h'.blk.get w∧Ext ρ σ h h' w w:=by
 unfold M0 at hx;split at hx
 ·rename_i qs xs;split at hx;rename_i xs' h1 hf;cases hx;cases ha with
  |agg _ l' e1 e2=>
   obtain ⟨hn,σ,q1,q2,q3⟩:=Jm hE hr ⟨e1,e2⟩ hf;exact ⟨hn,σ,.agg xs' l' q1.1 q1.2,q2,q3⟩
 ·exact ⟨Mm hx,Jj hE hr ha hx⟩
theorem MD {U:Unk} {E:Env} (hE:OK E) {w:World}:∀{ps l l':List AV} {vs:List Value} {ρ:Ren} {h h':Aa},HR ρ h.blk.get w→VL ρ l vs→Nv E ps l h=(l',h')→
  h'.nx=h.nx∧∃σ:Ren,VL σ l' vs∧HR σ h'.blk.get w∧Ext ρ σ h h' w w
 |[],l,l',vs,ρ,h,h',hr,hv,hx=>by
  cases l<;>(simp only [Nv] at hx;cases hx;exact ⟨rfl,ρ,hv,hr,Ext.refl _ _ _⟩)
 |k::ks,[],l',vs,ρ,h,h',hr,hv,hx=>by
  simp only [Nv] at hx;cases hx;exact ⟨rfl,ρ,hv,hr,Ext.refl _ _ _⟩
 |k::ks,a::l,l',vs,ρ,h,h',hr,hv,hx=>by
  obtain ⟨v,r,rfl,h1,h2⟩:=hv.cons_inv;simp only [Nv] at hx;generalize hf1:M0 E k a h=p1 at hx;obtain ⟨a1,h3⟩:=p1;simp only at hx;generalize hf2:Nv E ks l h3=p2 at hx;obtain ⟨l1,h4⟩:=p2;simp only at hx;cases hx;obtain ⟨hn1,σ,q1,q2,q3⟩:=Np hE hr h1 hf1;obtain ⟨hn2,τ,r1,r2,r3⟩:=MD hE q2 (h2.mono q3.le) hf2;refine ⟨by omega,τ,VL.cons (q1.mono r3.le) r1,r2,q3.trans r3 (fun b hb hb2=>by omega)⟩
theorem Bh {U:Unk} {E:Env} (hE:OK E) {w:World}:∀(l:List (Option Ac)) (i:Nat) (b:T Nat) (h:Aa) (ρ:Ren),HR ρ h.blk.get w→(Dg E l i b h).nx=h.nx∧∃σ:Ren,HR σ (Dg E l i b h).blk.get w∧Ext ρ σ h (Dg E l i b h) w w
 |[],_,_,h,ρ,hr=>⟨rfl,ρ,hr,Ext.refl _ _ _⟩
 |some (.arr e x)::r,i,b,h,ρ,hr=>by
  have next:=Bh hE r (i+1) b h ρ hr;simp only [Dg];split
  ·rename_i c ks hbc hke;split
   ·split
    ·obtain ⟨n1,σ,q1,q2⟩:=LK (e:=e) (b:=c) hE hr;obtain ⟨n2,τ,r1,r2⟩:=Bh hE r (i+1) b (Gi E e c h) σ q1;exact ⟨by omega,τ,r1,q2.trans r2 (fun d h1 h2=>by omega)⟩
    ·exact next
   ·exact next
  ·exact next
 |none::r,i,b,h,ρ,hr=>Bh hE r (i+1) b h ρ hr
 |some (.cells n pc)::r,i,b,h,ρ,hr=>by
  have next:=Bh hE r (i+1) b h ρ hr;simp only [Dg];split
  ·rename_i c l hbc hl;split
   ·obtain ⟨n1,σ,q1,q2⟩:=IA (ks:=Lp l) (b:=c) hE hr;obtain ⟨n2,τ,r1,r2⟩:=Bh hE r (i+1) b (Dw E (Lp l) c h) σ q1;exact ⟨by omega,τ,r1,q2.trans r2 (fun d h1 h2=>by omega)⟩
   ·exact next
  ·exact next
 |some (.map _ _)::r,i,b,h,ρ,hr=>Bh hE r (i+1) b h ρ hr
 |some (.dmap _ _ _)::r,i,b,h,ρ,hr=>Bh hE r (i+1) b h ρ hr
 |some (.dmapS _ _ _ _ _)::r,i,b,h,ρ,hr=>Bh hE r (i+1) b h ρ hr
 |some (.loop _ _ _ _ _ _ _ _ _)::r,i,b,h,ρ,hr=>Bh hE r (i+1) b h ρ hr
 |some (.deferred _)::r,i,b,h,ρ,hr=>Bh hE r (i+1) b h ρ hr
 |some (.mapIter _ _ _ _)::r,i,b,h,ρ,hr=>Bh hE r (i+1) b h ρ hr
 |some (.strIter _ _ _)::r,i,b,h,ρ,hr=>Bh hE r (i+1) b h ρ hr
theorem T0 {U:Unk} {E:Env} (hE:OK E) {w:World} {s:Sm} {l l':List AV} {vs:List Value} {ρ:Ren} {h h':Aa} (hr:HR ρ h.blk.get w) (hv:VL ρ l vs) (hx:Nk E s l h=(l',h')) :
  h'.nx=h.nx∧∃σ:Ren,VL σ l' vs∧HR σ h'.blk.get w∧Ext ρ σ h h' w w:=by
 unfold Nk at hx;split at hx;rename_i args h1 hf;cases hx;obtain ⟨n1,σ,q1,q2,q3⟩:=MD hE hr hv hf;obtain ⟨n2,τ,r1,r2⟩:=Bh hE s.pre 0 (F0 E s.pre h1 (DK s.args l' ⟨.nil,.nil⟩)).b h1 σ q2;exact ⟨by omega,τ,q1.mono r2.le,r1,q3.trans r2 (fun b hb hb2=>by omega)⟩
theorem JB {U:Unk} {a:AV} {v:Value} {ρ σ:Ren} (h:OB a=true) (hv:VR ρ a v):VR σ a v:=by
 cases hv with
 |bool b=>exact .bool b
 |int k n=>exact .int k n
 |str s=>exact .str s
 |sb p e=>exact .sb p e
 |si k e=>exact .si k e
 |ss x=>exact .ss x
 |_=>cases h
theorem PN {U:Unk} {a:AV} {v:Value} {ρ σ:Ren} (h:Mq a=true) (hv:VR ρ a v):VR σ a v:=by
 unfold Mq at h;split at h
 ·rename_i l;cases hv with
  |tuple _ l' h1 h2=>exact .tuple l l' h1 fun i a v ha hv=>JB (List.all_eq_true.mp h a (List.mem_of_getElem? ha)) (h2 i a v ha hv)
 ·exact JB h hv
theorem HR.still {U:Unk} {ρ:Ren} {g:Nat→Option Ac} {w w':World} (hr:HR ρ g w) (hs:w.heap.size≤w'.heap.size) (hk:∀k,k<w.heap.size→w'.heap[k]?=w.heap[k]?):HR ρ g w':=by
 refine ⟨fun b base hb=>Nat.lt_of_lt_of_le (hr.lt b base hb) hs,fun b base x hb hx=>?_,hr.apart,fun k arr hi=>?_,hr.off,hr.glob⟩
 ·rw [hk _ (hr.lt b base hb)];exact hr.blk b base x hb hx
 ·rw [hk _ (hr.immLt hi)];exact hr.imm k arr hi
theorem Up {U:Unk} {E:Env} (hE:OK E) {F:Nat→D→D} (hF:U.V.fn=F) {s:Sm} (hs:s.Valid E.P F) {θ:List SE} {β:List Nat} {args:List AV} {args':List Value} {h h0 h':Aa} {v:AV} {ρ ρ0:Ren} {w:World}
  (hx:OF E s θ β args h=some (v,h')) (p1:s.pre=[]) (p2:s.post=[]) (p3:Mq v=true) (hβ:β=[]) (ha:VL ρ args args') (hr:HR ρ h.blk.get w) (hr0:HR ρ0 h0.blk.get w) (c0:Frame) (base:List Frame) :
  ∃τ v' w',BK E.P (lone (Frame.enter E.P s.f args'.toArray .normal) (c0::base) w) c0 base s.ok v' w'∧VR τ v v'∧HR τ h0.blk.get w'∧Ext ρ0 τ h0 h0 w w':=by
 subst hβ
 have hx2:∃g,OF E s θ [] args {h with blk:=.nil}=some (v,g)∧g.nx=h.nx:=by
  unfold OF at hx ⊢;rw [p1,p2] at hx ⊢;split at hx
  ·rename_i hc;have hc2:(HP (EW θ [] s.args args)&&HP (DG E θ [] {h with blk:=.nil} [] [])&&Eb []&&K3 h.nx []&&G2 θ s.facts&&Nat.ble ([]:List (Option Ac)).length ([]:List (Option Ac)).length)=true:=hc
   rw [hc2];split at hx
   ·simp only [Option.some.injEq,Prod.mk.injEq] at hx;obtain ⟨rfl,rfl⟩:=hx;exact ⟨_,rfl,rfl⟩
   ·cases hx
  ·cases hx
 obtain ⟨g,hx2,hn⟩:=hx2;have e0:∀b,({h with blk:=T.nil}:Aa).blk.get b=none:=fun b=>by exact T.get_nil b
 have hr2:HR ρ ({h with blk:=T.nil}:Aa).blk.get w:=hr.restrict fun b=>.inl (e0 b)
 obtain ⟨τ,v',w',q1,q2,_,q4⟩:=QG hE hF hs hx2 ha hr2 (fun b _=>e0 b) (fun b b1 b2=>by rw [hn] at b2;exact absurd b2 (Nat.not_lt.2 b1)) c0 base
 have kp:∀k,k<w.heap.size→w'.heap[k]?=w.heap[k]?:=fun k hk=>q4.kept k hk fun b base _ hl=>absurd (e0 b) hl
 have cm:=q4.calm;exact ⟨ρ0,v',w',q1,PN p3 q2,hr0.still cm.size kp,⟨Ren.le_refl ρ0,Nat.le_refl _,fun _ _ e=>.inl e,cm,fun k hk _=>kp k hk,⟨[],rfl,fun _ _ _=>rfl⟩,fun _ e=>.inl e,fun _ _ e=>.inl e⟩⟩
theorem He {U:Unk} {E:Env} (hE:OK E) {F:Nat→D→D} (hF:U.V.fn=F) {f:FuncId} {args:List AV} {args':List Value} {h g:Aa} {ok:Bool} {v:AV} {ρ:Ren} {w:World}:∀{l:List Sm},(∀s∈l,s.Valid E.P F)→J1 E l f args h=some (ok,v,g)→VL ρ args args'→HR ρ h.blk.get w→WF h→Ax ρ h.nx g.nx→
  ∀(c0:Frame) (base:List Frame),∃σ v' w',BK E.P (lone (Frame.enter E.P f args'.toArray .normal) (c0::base) w) c0 base ok v' w'∧VR σ v v'∧HR σ g.blk.get w'∧Ext ρ σ h g w w'
 |[],_,hx,_,_,_,_=>by simp [J1] at hx
 |s::r,hO,hx,ha,hr,hwf,hfree=>by
  simp only [J1] at hx;split at hx
  ·rename_i hb;have e1:=Aq hb;subst e1;split at hx
   ·rename_i xv xg hap;simp only [Option.some.injEq,Prod.mk.injEq] at hx;obtain ⟨rfl,rfl,rfl⟩:=hx;unfold R8 at hap;split at hap;rename_i args0 h0 hfz;split at hap;rename_i m h1 hbd;have hfz:Nk E s args h=(args0,h0):=hfz;obtain ⟨hn0,σ0,z1,z2,z3⟩:=T0 hE hr ha hfz;have hwf0:WF h0:=z3.wf hwf;have e2:(AC E s.pre 0 (F0 E s.pre h0 (DK s.args args0 ⟨.nil,.nil⟩)) h0).2=h1:=by rw [hbd]
    split at hap;rotate_left
    ·cases hap
    rename_i r0 hap0;obtain ⟨v0,g0⟩:=r0;have hap:=Option.some.inj hap;unfold Wb at hap;split at hap
    ·rename_i p1 p2 p3;simp only [Prod.mk.injEq] at hap;obtain ⟨rfl,rfl⟩:=hap;intro c0 base;have hb0:h1=h0:=by rw [←e2,p1];rfl
     subst hb0;exact Up hE hF (hO s (by simp)) (args:=args0) (h:=h1) hap0 p1 p2 p3 (by rw [p1];rfl) z1 z2 hr c0 base
    simp only [Prod.mk.injEq] at hap;obtain ⟨rfl,rfl⟩:=hap;have hap:=hap0
    have hnx:h1.nx≤g0.nx:=by
     unfold OF at hap;split at hap
     ·split at hap
      ·simp only [Option.some.injEq,Prod.mk.injEq] at hap;obtain ⟨_,rfl⟩:=hap;show h1.nx≤h1.nx+_;omega
      ·cases hap
     ·cases hap
    have hfree0:Ax σ0 h0.nx g0.nx:=z3.free hfree;obtain ⟨q1,q2,q3⟩:=A9 (E:=E) s.pre 0 (F0 E s.pre h0 (DK s.args args0 ⟨.nil,.nil⟩)) h0 z2 hwf0 (fun b b1 b2=>hfree0 b b1 (by rw [e2] at b2;omega))
    rw [e2] at q1 q2 q3;intro c0 base;obtain ⟨τ,v',w',r1,r2,r3,r4⟩:=QG hE hF (hO s (by simp)) hap z1 q1 q3 (q2.free hfree0) c0 base
    exact ⟨τ,v',w',r1,r2,r3,z3.trans (q2.trans r4 hfree0) hfree⟩
   ·exact He hE hF (fun e he=>hO e (by simp [he])) hx ha hr hwf hfree
  ·exact He hE hF (fun e he=>hO e (by simp [he])) hx ha hr hwf hfree
end Go.AE
namespace Go.AE
variable [Gl:Au]
def Dm [Facts] (E:Env) (s:AS) (f:Operand) (params:List Tmp) (assign body:Code) (k:List AI):Option (FuncId×List AV×Aa×AF):=
 match PW s.fr s.h with
 |some (d,h1,mark)=>match Ah s.fr.tmps f with
  |.func fn first captured=>match Bz E fn captured (first++[.func (.yield h1.nx) [] []]) (h1.new (.loop .ready none s.fr.fn s.fr.nt s.fr.tmps params assign body d)) with
   |.enter g args _=>some (g,args,h1.new (.loop .ready none s.fr.fn s.fr.nt s.fr.tmps params assign body d),{s.fr with todo:=.inRange h1.nx::k,defers:=mark++s.fr.defers})
   |_=>none
  |_=>none
 |none=>none
variable [U:Unk]
section
variable {E:Env} (hE:OK E) {ρ:Ren} {w:World} {c:Frame} {ccs:List Frame} {s:AS}
include hE
theorem PD {base:List Frame} {fr0:Frame} {w0:World} {h h':Aa} {sm:Sem Next} {g:FuncId} {args:List AV} {f:AF}
  (hst:(stepG E.P true {frame:=fr0,callers:=ccs++base,status:=.running,dying:=none} w0).bare=(stepG.apply E.P true c (ccs++base) none sm w).bare)
  (hd:DQ E ρ h w sm (.enter g args h')) (hf:FrR ρ f c):∃args':List Value,VL ρ args args'∧step E.P (lone fr0 (ccs++base) w0)=.next (lone (Frame.enter E.P g args'.toArray .normal) (c::(ccs++base)) w):=by
 obtain ⟨rfl,args',ha,hrun⟩:=hd;refine ⟨args',ha,step_lone_go ?_⟩;rw [hst];have ht:=hf.todo;simp only [stepG.apply,Sem.runT_eq,hrun,if_true,GStep.bare_after,GStep.bare_go];generalize c.todo=td at ht;generalize f.todo=fd at ht;cases ht with
 |nil=>rfl
 |cons a _=>cases a<;>rfl
 |rest=>
  generalize hq:U.R=r;cases r with
  |nil=>rfl
  |cons x k=>cases x<;>first|rfl|exact absurd hq (U.hR _ _ _ _ _)
theorem GK (hsr:SR ρ s c ccs w) (hm:c.mode=.run) {fo:Operand} {params:Array Tmp} {assign body:Code} {k:List AI} {k':List Item} (hk:IL ρ k k') (ht:c.todo=.code (.rangeFunc fo params assign body)::k')
  {g:FuncId} {args:List AV} {h3:Aa} {fr':AF} (hx:Dm E s fo params.toList assign body k=some (g,args,h3,fr')) (hfree:Ax ρ s.h.nx h3.nx) (base:List Frame) :
  ∃σ c' args' w1,step E.P (lone c (ccs++base) w)=.next (lone (Frame.enter E.P g args'.toArray .normal) (c'::(ccs++base)) w1)∧VL σ args args'∧FrR σ fr' c'∧HR σ h3.blk.get w1∧Ext ρ σ s.h h3 w w1:=by
 unfold Dm at hx;split at hx
 ·rename_i d h1 mark hcoll;split at hx
  ·rename_i fn first captured hev;split at hx
   ·rename_i g2 args2 h32 hiv;cases hx;have hn1:(h1.new (.loop .ready none s.fr.fn s.fr.nt s.fr.tmps params.toList assign body d)).nx=h1.nx+1:=rfl;obtain ⟨σ,w1,bd,mark',q1,q2,q3,q4,q5⟩:=Oi (E:=E) hsr.h hsr.fr hcoll (fun b h1 h2=>hfree b h1 (by simp only [hn1];omega))
    have hfr:=hsr.fr.mono q5.le;have hfree1:σ h1.nx=none:=(q5.free hfree) h1.nx (Nat.le_refl _) (by simp only [hn1];omega)
    have hle:=Ren.le_upd hfree1 ⟨w1.heap.size,0,0⟩;obtain ⟨p1,p2⟩:=q4.new hfree1 (.loop .ready none s.fr.fn s.fr.nt s.fr.tmps params.toList assign body d)
     (.loop {state:=.ready,pending:=none,fn:=c.fn,tmps:=c.tmps,params:=params,assign:=assign,body:=body,defers:=bd.cb}) 0
     ⟨c.tmps,bd,hle.m _ _ q2,hfr.tm.mono hle,by rw [hfr.fn]⟩
     {w1 with heap:=w1.heap.push (.loop {state:=.ready,pending:=none,fn:=c.fn,tmps:=c.tmps,params:=params,assign:=assign,body:=body,defers:=bd.cb})} rfl rfl rfl rfl
    have hu:(σ.upd h1.nx ⟨w1.heap.size,0,0⟩) h1.nx=some ⟨w1.heap.size,0,0⟩:=by simp [Ren.upd]
    have hrun:(Instr.enterLoop c.fn c.tmps params assign body c.roundOf).run E.P w=.ok (w1.heap.size,mark') {w1 with heap:=w1.heap.push (.loop {state:=.ready,pending:=none,fn:=c.fn,tmps:=c.tmps,params:=params,assign:=assign,body:=body,defers:=bd.cb})}:=by
     cases hro:c.roundOf with
     |some l=>
      rw [hro] at q1;simp only [JP,Sem.run_bind,Sem.run_pure] at q1;simp only [Instr.enterLoop,Sem.run_bind,Sem.run_pure,run_newObj,Result.andThen_ok];cases hG:(Instr.getLoop l).run E.P w with
      |ok a w2=>
       rw [hG] at q1;simp only [Result.andThen_ok,Result.ok.injEq,Prod.mk.injEq] at q1 ⊢;obtain ⟨⟨e1,e2⟩,e3⟩:=q1;rw [e1,e2,e3];exact ⟨⟨rfl,rfl⟩,rfl⟩
      |halt x w2=>rw [hG] at q1;cases q1
     |none=>
      rw [hro] at q1;simp only [JP,Sem.run_bind,Sem.run_pure,run_newObj,Result.andThen_ok,Result.ok.injEq,Prod.mk.injEq] at q1;obtain ⟨⟨e1,e2⟩,e3⟩:=q1;simp only [Instr.enterLoop,Sem.run_bind,Sem.run_pure,run_newObj,Result.andThen_ok];rw [←e1,←e2,←e3]
    have hf2:=hfr.mono hle;have hv:=hf2.evR fo;rw [hev] at hv;generalize hcv:c.eval fo=cv at hv;cases hv with
    |func _ fn' _ _ f' c' r1 r2 r3 r4 r5=>
     have ha:VL (σ.upd h1.nx ⟨w1.heap.size,0,0⟩) (first++[.func (.yield h1.nx) [] []]) (f'++[.func (.yield w1.heap.size) #[] #[]]):=
      VL.append ⟨r2,r3⟩ (VL.cons (.func _ _ [] [] [] [] ⟨_,hu,rfl⟩ rfl (by simp) rfl (by simp)) (VL.nil _))
     have hdoes:=Ds hE p1 r1 ⟨r4,r5⟩ ha;rw [hiv] at hdoes
     have hfrr:FrR (σ.upd h1.nx ⟨w1.heap.size,0,0⟩) {s.fr with todo:=.inRange h1.nx::k,defers:=mark++s.fr.defers} {c with todo:=.inRangeFunc w1.heap.size::k',defers:=mark'++c.defers}:=
      ⟨hf2.fn,hf2.tm,.cons (.inRange _ _ hu) ((hk.mono q5.le).mono hle),(q3.mono hle).append hf2.defers,hf2.mode,hf2.kind,hf2.round⟩
     obtain ⟨args',e1,e2⟩:=PD hE (base:=base) (c:={c with todo:=.inRangeFunc w1.heap.size::k',defers:=mark'++c.defers})
      (f:={s.fr with todo:=.inRange h1.nx::k,defers:=mark++s.fr.defers}) (IG hm ht hrun) (hdoes.congr (by
       have hcv2:c.eval (.const (.func (.yield w1.heap.size) #[] #[]))=.func (.yield w1.heap.size) #[] #[]:=rfl;simp [resolve,hcv,hcv2,Deferred.ofValue])) hfrr
     exact ⟨_,_,args',_,e2,e1,hfrr,p1,q5.trans p2 hfree⟩
   ·cases hx
  ·cases hx
 ·cases hx
end
end Go.AE
namespace Go.AE
variable [Gl:Au]
def K4:List Orc→FuncId→List AV→Aa→Option (Bool×AV×Aa)
 |[],_,_,_=>none
 |e::r,f,args,h=>match Nat.beq e.f f&&(Nat.beq e.nx h.nx||(Nat.beq (e.nx%4096) 0&&Nat.ble h.nx e.nx))&&F7 e.args args&&NK e.part h.blk with
  |true=>some (e.ok,e.v,AK {h with nx:=e.nx} {blk:=e.out,nx:=e.nx',log:=e.wr})
  |false=>K4 r f args h
def Ud [U:Facts]:AV→AV
 |.ss x=>match NS x U.facts with
  |some (l,b)=>.str l b
  |none=>.ss x
 |a=>a
def ssA:AV→Bool
 |.ss _=>true
 |_=>false
def Il [Facts] (E:Env) (f:FuncId) (args:List AV) (h:Aa):Option (Bool×AV×Aa):=
 match E.ox.get f with
 |some l=>(match K4 l f args h with
  |some r=>some r
  |none=>match (match args.any ssA with
   |true=>K4 l f (args.map Ud) h
   |false=>none) with
   |some r=>some r
   |none=>match J1 E E.sms f args h with
    |some r=>some r
    |none=>none)
 |none=>match J1 E E.sms f args h with
  |some r=>some r
  |none=>none
def PT (h:Aa):AV→AV
 |.slice b 0 n es=>match h.blk.get b with
  |some (.arr _ _)=>.asl b es (.c n) (.bc false)
  |_=>.slice b 0 n es
 |x=>x
def kI (h:Aa):AV→Bool
 |.slice b 0 _ _=>match h.blk.get b with
  |some (.arr _ _)=>true
  |_=>false
 |_=>false
def T.anyA {α:Type} (f:α→Bool):T α→Bool
 |.nil=>false
 |.node v l r=>(match v with|some x=>f x|none=>false)||l.anyA f||r.anyA f
def QO (h:Aa) (fr:AF):AF:=match fr.tmps.anyA (kI h) with
 |true=>{fr with tmps:=fr.tmps.mapA (PT h)}
 |false=>fr
def TJ [Facts] (E:Env) (s:AS) (all:Array Oper) (o:Oper) (r:List Oper):Option AS:=
 match o.op,r,o.dst with
 |.slice t x (some lo) none none,o2::_,some d=>match o2.op with
  |.call c=>match c.callee,c.argTypes.toList,c.args.toList with
   |.builtin .clear,[t1],[.tmp d']=>match Ah s.fr.tmps x,toI (Ah s.fr.tmps lo) with
    |.asl b es n nl,some (_,l)=>match E.desc t,E.desc t1,s.h.blk.get b with
     |some (.slice e),some (.slice e1),some (.arr e2 y)=>match E.zero e,E.kinds e with
      |some z,some ks=>match Nat.beq d d'&&(Nat.beq e e1&&(Nat.beq e e2&&(Nat.beq z.cells.length es&&(Nat.beq es ks.length&&(DF z.cells&&(E.szIs e es&&(DM n y&&inB l n n))))))) with
       |true=>match A1 all o s.fr.tmps,AP s.fr .top with
        |some true,some fr1=>match A1 all o2 fr1.tmps,AP fr1 .top with
         |some true,some fr2=>some {s with fr:=fr2,h:=s.h.put b (.arr e (.sub y (.c 0) l))}
         |_,_=>none
        |_,_=>none
       |false=>none
      |_,_=>none
     |_,_,_=>none
    |_,_=>none
   |_,_,_=>none
  |_=>none
 |_,_,_=>none
def TL [Facts] (t:T AV):List Tmp→Option (Tmp×AV)
 |[]=>none
 |i::r=>match t.get i with
  |some (.nmap b nl)=>match TI (.nmap b nl) with
   |.nmap _ _=>TL t r
   |v=>some (i,v)
  |_=>TL t r
def pz [Facts] (s:AS):Option AS:=match s.fr.todo with
 |.ops all (o::_)::_=>match TL s.fr.tmps (A2 all o) with
  |some (i,v)=>some {s with fr:={s.fr with tmps:=s.fr.tmps.set i v}}
  |none=>none
 |_=>none
def Tl [Facts] (E:Env) (s:AS):Option AS:=
  match E.orc.isEmpty&&E.sms.isEmpty with
  |true=>none
  |false=>match s.fr.mode with
    |.run=>match s.fr.todo with
      |.ops all (o::r)::_=>match TJ E s all o r with
       |some s'=>some s'
       |none=>match Kt o.op with
        |false=>match A1 all o s.fr.tmps with
          |some true=>match aop E s.fr.tmps s.h o.op with
            |.enter g args _=>match Il E g args s.h with
              |some (true,v,h)=>match AP s.fr v with
                |some fr=>some {s with fr:=QO h fr,h}
                |none=>none
              |some (false,v,h)=>some {s with fr:=QO h {s.fr with mode:=.panic [(v,false)]},h}
              |none=>none
            |_=>none
          |_=>none
        |true=>none
      |.code (.rangeFunc f params assign body)::k=>match Dm E s f params.toList assign body k with
        |some (g,args,h3,fr')=>match Il E g args h3 with
          |some (true,v,h)=>match Nat.ble h3.nx h.nx,AP fr' v with
            |true,some fr=>some {s with fr:=QO h fr,h}
            |_,_=>none
          |some (false,v,h)=>match Nat.ble h3.nx h.nx with
            |true=>some {s with fr:=QO h {fr' with mode:=.panic [(v,false)]},h}
            |false=>none
          |none=>none
        |none=>none
      |_=>none
    |_=>none
def Oj [Facts] (E:Env) (s:AS):Option AS:=match pz s with
 |some s'=>some s'
 |none=>Tl E s
def P2 (n:Nat):List Out→Option (List AS)
 |[]=>some []
 |.next s::r=>match Nat.beq s.h.nx n,P2 n r with
  |true,some l=>some (s::l)
  |_,_=>none
 |_=>none
def SD [U:Facts] (E:Env) (s:AS):Option (List AS):=
 match s.fr.mode,s.fr.todo with
 |.run,.ops all (o::_)::_=>match A1 all o s.fr.tmps with
  |some true=>match o.op with
   |.next it false=>match Jk (Ah s.fr.tmps it) s.h with
    |some l=>P2 s.h.nx (l.map fun p=>Bi E s.fr s.cs (.val p.1 p.2))
    |none=>none
   |_=>none
  |_=>none
 |_,_=>none
def UH (ok:Bool) (v:AV) (n:Nat):List (Option (Bool×AV×Aa))→Bool
 |[]=>true
 |some (ok',v',h')::r=>(ok'==ok)&&Bg v' v&&Nat.beq h'.nx n&&UH ok v n r
 |none::_=>false
def LD (h:Aa):Nat→List Nat
 |0=>[]
 |n+1=>match h.blk.get n with
  |some _=>n::LD h n
  |none=>LD h n
def Th (s:AS):List (Option (Bool×AV×Aa))→Option (Bool×AV×Aa)
 |some (ok,v,h)::r=>match UH ok v h.nx r&&Nat.ble s.h.nx h.nx with
  |true=>some (ok,v,{blk:=.nil,nx:=h.nx,log:=LD s.h s.h.nx++s.h.log})
  |false=>none
 |_=>none
def Tz:List Oper→List Tmp
 |[]=>[]
 |o::r=>match o.dst with
  |some d=>d::Tz r
  |none=>Tz r
def Gb:Code→List Tmp
 |.region _ ops _=>Tz ops.toList
 |.seq a b=>Gb a++Gb b
 |.cond _ a b=>Gb a++Gb b
 |.block _ a=>Gb a
 |.loop a=>Gb a
 |.scope a=>Gb a
 |.rangeFunc _ ps a b=>ps.toList++(Gb a++Gb b)
 |_=>[]
def Sj:List AI→List Tmp
 |.inLoop b::_=>Gb b
 |_::k=>Sj k
 |[]=>[]
def Qr:List Tmp→T AV→T AV
 |[],t=>t
 |d::r,t=>Qr r (t.del d)
def Zr (n:Nat):Fn→Bool
 |.yield l=>Nat.blt l n
 |_=>true
mutual
def Fw (n:Nat):AV→Bool
 |.ptr b _=>Nat.blt b n
 |.slice b _ _ _=>Nat.blt b n
 |.map b=>Nat.blt b n
 |.func fn f c=>Zr n fn&&(D8 n f&&D8 n c)
 |.iface _ v=>Fw n v
 |.agg l=>D8 n l
 |.tuple l=>D8 n l
 |.asl b _ _ _=>Nat.blt b n
 |.aptr b _ _ _=>Nat.blt b n
 |.nmap b _=>Nat.blt b n
 |.stamp b=>Nat.blt b n
 |_=>true
termination_by structural a=>a
def D8 (n:Nat):List AV→Bool
 |[]=>true
 |a::l=>Fw n a&&D8 n l
termination_by structural l=>l
end
def T.allA {α:Type} (p:α→Bool):T α→Bool
 |.nil=>true
 |.node v l r=>(match v with|some x=>p x|none=>true)&&(l.allA p&&r.allA p)
def Vp (n:Nat):List Ak→Bool
 |[]=>true
 |e::r=>Fw n e.key&&(Fw n e.val&&Vp n r)
def UC (n:Nat):List AD→Bool
 |[]=>true
 |d::r=>(match d.fn with|some f=>Zr n f|none=>Nat.blt d.coll n)&&(D8 n d.captured&&(D8 n d.args&&UC n r))
def QF (n:Nat):Ac→Bool
 |.cells _ c=>c.allA (Fw n)
 |.arr _ _=>true
 |.map es _=>Vp n es
 |.dmap _ _ _=>true
 |.loop _ _ _ _ tmps _ _ _ d=>Nat.blt d n&&tmps.allA (Fw n)
 |.deferred none=>true
 |.deferred (some l)=>UC n l
 |.mapIter none _ _ _=>true
 |.mapIter (some m) _ _ _=>Nat.blt m n
 |.dmapS _ _ _ _ b=>Nat.blt b n
 |.strIter _ _ _=>true
def QT (S:AS):Bool:=S.fr.tmps.allA (Fw S.h.nx)&&S.h.blk.allA (QF S.h.nx)
def Dt:T AV→T AV→T AV
 |.node v l r,.node v' l' r'=>.node (match v with|some _=>v'|none=>none) (Dt l l') (Dt r r')
 |_,_=>.nil
def Ig:T AV→T AV→Bool
 |.nil,_=>true
 |.node v l r,.node v' l' r'=>(match v with
   |none=>true
   |some x=>(match v' with
    |some y=>Bg x y
    |none=>false))&&(Ig l l'&&Ig r r')
 |.node v l r,.nil=>v.isNone&&(Ig l .nil&&Ig r .nil)
def Uy:AI→AI→Bool
 |.code c,.code c'=>BU c c'
 |.inBlock i,.inBlock i'=>Nat.beq i i'
 |.inLoop c,.inLoop c'=>BU c c'
 |.inScope c,.inScope c'=>BU c c'
 |.ops a l,.ops a' l'=>IC J9 a a'&&EQ J9 l l'
 |_,_=>false
def Mv (f:AF):Bool:=f.defers.isEmpty&&((match f.mode with|.run=>true|_=>false)&&((match f.kind with|.normal=>true|_=>false)&&f.round.isNone))
def II (f g:AF):Bool:=Mv f&&(Mv g&&(Nat.beq f.fn g.fn&&(Nat.beq f.nt g.nt&&EQ Uy f.todo g.todo)))
def DD (b:Nat) (f:AF):Bool:=match f.mode,f.todo with
 |.run,.ops _ (o::_)::_=>match o.guard,o.op with
  |none,.next it false=>match Ah f.tmps it with
   |.ptr b' 0=>Nat.beq b' b
   |_=>false
  |_,_=>false
 |_,_=>false
def GS (b m clock born:Nat) (s:AS):Option AS:=match s.fr.mode,s.fr.todo with
 |.run,.ops _ (o::_)::_=>match o.guard,o.op with
  |none,.entry it=>match Ah s.fr.tmps it with
   |.ptr b' 0=>match Nat.beq b' b with
    |true=>match s.h.blk.get m with
     |some (.map es c)=>match Nat.beq c clock,NP born es with
      |true,some e=>match AP s.fr (.tuple [e.key,e.val]) with
       |some fr=>some {s with fr}
       |none=>none
      |_,_=>none
     |_=>none
    |false=>none
   |_=>none
  |_,_=>none
 |_,_=>none
def D9 [Facts] (E:Env) (callF:Ask→Aa→Option (Bool×AV×Aa)) (b m clock born:Nat):Nat→AS→Option AS
 |0,_=>none
 |f+1,s=>match s.cs.isEmpty&&DD b s.fr with
  |true=>some s
  |false=>match GS b m clock born s with
   |some s'=>D9 E callF b m clock born f s'
   |none=>match Oj E s with
    |some s'=>(match Nat.ble s.h.nx s'.h.nx with
     |true=>D9 E callF b m clock born f s'
     |false=>none)
    |none=>match AQ E s with
     |.next s'=>(match Nat.ble s.h.nx s'.h.nx with
      |true=>D9 E callF b m clock born f s'
      |false=>none)
     |.draw s2 ops k=>(match Br E callF ops s2.fr.nt ops.toList [] s2.fr.tmps s2.h with
      |some (none,tmps,h)=>D9 E callF b m clock born f {s2 with fr:={s2.fr with tmps,todo:=k},h}
      |_=>none)
     |_=>none
def Ey [Facts] (E:Env) (callF:Ask→Aa→Option (Bool×AV×Aa)) (F b m clock:Nat) (S:AS) (e:Ak):Option AS:=
 match AP S.fr (.tuple [.bool true,e.key,e.val]) with
 |some fr=>D9 E callF b m clock e.born F {fr,cs:=[],h:={S.h with log:=[]}}
 |none=>none
def Qc (nx:Nat) (t t':T Ac):List Nat→Bool
 |[]=>true
 |b::r=>(Nat.ble nx b||(match t.get b with
  |none=>true
  |some x=>match t'.get b with
   |some y=>Nu x y
   |none=>false))&&Qc nx t t' r
def Jv (S R:AS):Bool:=Ig S.fr.tmps R.fr.tmps&&Qc S.h.nx S.h.blk R.h.blk R.h.log
def EO (run:Ak→Option AS) (S:AS):List Ak→Option (Option (Ak×AS)×Nat)
 |[]=>some (none,S.h.nx)
 |e::r=>match run e,EO run S r with
  |some R,some (x,n)=>match R.cs.isEmpty&&(II S.fr R.fr&&Nat.ble S.h.nx R.h.nx),Jv S R,x with
   |true,true,x=>some (x,max n R.h.nx)
   |true,false,none=>some (some (e,R),max n R.h.nx)
   |_,_,_=>none
  |_,_=>none
def Jf (S:AS) (n:Nat):Option AS:=match AP S.fr (.tuple [.bool false]) with
 |some fr=>some {S with fr,h:={S.h with nx:=n}}
 |none=>none
def HK (n:Nat):List Ak→List Ak
 |[]=>[]
 |e::r=>match Nat.beq e.born n with
  |true=>HK n r
  |false=>e::HK n r
def bO (s:AS):Option (Nat×Nat×List Ak×Nat):=match s.fr.mode,s.fr.todo with
 |.run,.ops _ (o::_)::_=>match o.guard,o.op with
  |none,.next it false=>match Ah s.fr.tmps it with
   |.ptr b 0=>match s.h.blk.get b with
    |some (.mapIter (some m) since [] last)=>match s.h.blk.get m with
     |some (.map es clock)=>match Nat.beq last clock&&(IT since clock es&&(MB 0 es clock && !Nat.beq m b)) with
      |true=>some (b,m,es,clock)
      |false=>none
     |_=>none
    |_=>none
   |_=>none
  |_,_=>none
 |_,_=>none
def Tp [Facts] (E:Env) (callF:Ask→Aa→Option (Bool×AV×Aa)) (F b m clock:Nat) (es:List Ak) (e:Ak) (R:AS) (n:Nat) (S1:AS):Option AS:=
 match DD b S1.fr&&(QT S1 && !Gq m R.h.log),EO (Ey E callF F b m clock S1) S1 (HK e.born es) with
 |true,some (none,n1)=>Jf S1 (max n n1)
 |_,_=>none
def VW [Facts] (E:Env) (callF:Ask→Aa→Option (Bool×AV×Aa)) (F b m clock:Nat) (es:List Ak) (S:AS):Option AS:=
 match DD b S.fr&&QT S,EO (Ey E callF F b m clock S) S es with
 |true,some (none,n)=>Jf S n
 |true,some (some (e,R),n)=>Tp E callF F b m clock es e R n {fr:={S.fr with tmps:=Dt S.fr.tmps R.fr.tmps},cs:=S.cs,h:={R.h with log:=R.h.log++S.h.log}}
 |_,_=>none
def QE [Facts] (E:Env) (callF:Ask→Aa→Option (Bool×AV×Aa)) (F:Nat) (s:AS):Option AS:=match bO s with
 |none=>none
 |some (b,m,es,clock)=>VW E callF F b m clock es {s with fr:={s.fr with tmps:=Qr (Sj s.fr.todo) s.fr.tmps},h:=s.h.strike b}
def Ki [Facts] (E:Env) (run:FuncId→Bool→AS→Option (Bool×AV×Aa)) (a:Ask) (h:Aa):Option (Bool×AV×Aa):=match a with
 |.enter g args=>match Il E g args h with
  |some r=>some r
  |none=>match BO E g args .normal with
   |some fr=>run fr.fn true {fr,cs:=[],h}
   |none=>none
 |.round l args=>match Fl l args h with
  |some fr=>run fr.fn true {fr,cs:=[],h}
  |none=>none
def EP [Facts] (E:Env):Nat→FuncId→Bool→AS→Option (Bool×AV×Aa)
  |0,_,_,_=>none
  |f+1,f0,rd,s=>match Oj E s with
   |some s'=>(match Nat.ble s.h.nx s'.h.nx with
     |true=>EP E f f0 rd s'
     |false=>none)
   |none=>match AQ E s with
    |.next s'=>match Nat.ble s.h.nx s'.h.nx with
      |true=>EP E f f0 rd s'
      |false=>none
    |.done ok v h=>match Nat.ble s.h.nx h.nx&&Nat.beq s.fr.fn f0&&(rd||s.fr.round.isNone) with
      |true=>some (ok,v,h)
      |false=>none
    |.draw s ops k=>
      match Br E (Ki E (EP E f)) ops s.fr.nt ops.toList [] s.fr.tmps s.h with
      |some (none,tmps,h)=>EP E f f0 rd {s with fr:={s.fr with tmps,todo:=k},h}
      |some (some v,tmps,h)=>EP E f f0 rd {s with fr:={s.fr with tmps,todo:=.dead::k,mode:=.panic [(v,false)]},h}
      |none=>none
    |.bad _=>match QE E (Ki E (EP E f)) f s with
      |some s'=>(match Nat.ble s.h.nx s'.h.nx with
        |true=>EP E f f0 rd s'
        |false=>none)
      |none=>match SD E s with
        |some l=>Th s (l.map fun s'=>EP E f f0 rd s')
        |none=>none
def V5 [Facts] (E:Env) (n:Nat) (f:FuncId) (args:List AV) (h:Aa):Option (Bool×AV×Aa):=
 match BO E f args .normal with
 |some fr=>EP E n f false {fr,cs:=[],h}
 |none=>none
def Ph [Facts] (E:Env) (N:Nat) (e:Orc):Bool:=
 match V5 E N e.f e.args {blk:=e.part,nx:=e.nx,log:=[]} with
 |some (ok,v,g)=>(ok==e.ok)&&Bg v e.v&&NK e.out g.blk&&Nat.beq g.nx e.nx'&&Ti e.nx e.wr g.log
 |none=>false
end Go.AE
namespace Go.AE
variable [Gl:Au]
section
variable [U:Unk] {E:Env} (hE:OK E) {ρ:Ren} {h:Aa} {w:World}
include hE
theorem VH (hr:HR ρ h.blk.get w) {t t1 ty e:TypeId} {ks:List Kd} {z:AV} {b es:Nat} {n nl y l:SE} {xv lov:Value} {kd:IntKind} (hd:E.desc t=some (.slice e)) (hd1:E.desc t1=some (.slice e)) (hz:E.zero e=some z) (hk:E.kinds e=some ks)
  (hzl:z.cells.length=es) (hks:es=ks.length) (hza:DF z.cells=true) (hx:VR ρ (.asl b es n nl) xv) (hb:h.blk.get b=some (.arr e y)) (hs:E.szIs e es=true) (hn:DM n y=true) (hlo:lov=.int kd (Ag U.V l)) (hin:inB l n n=true) :
  ∃v w',(Instr.sliceAt t xv (some lov) none none).run E.P w=.ok v w∧(Builtin.clear_ #[t1] ty #[v]).run E.P w=.ok (.tuple #[]) w'∧HR ρ (h.put b (.arr e (.sub y (.c 0) l))).blk.get w'∧Ext ρ ρ h (h.put b (.arr e (.sub y (.c 0) l))) w w':=by
 obtain ⟨b0,b1,b2⟩:=H4 hin;have hfl:=Ev hn;have hu:=hE.run_und hd (w:=w);have hu1:=hE.run_und hd1 (w:=w);have e0:Ag U.V (.c 0)=0:=rfl
 have hrl:(Af U.V (.sub y (.c 0) l)).rows.length=(Ag U.V l).toNat:=by
  rw [Dy,e0];rw [Aj] at hfl;simp;omega
 have key:∀i,i<(Ag U.V l).toNat→(Af U.V (.sub y (.c 0) l)).rows.getD i default=(Af U.V y).rows.getD i default:=by
  intro i hi;rw [Dy,e0,JH (by simpa using hi)]
  congr 1
  simp
 have rows:∀{ks':List Kd} {co:Nat} {cur cur':Array Value},A6 U.K ρ.imm ks' cur co (Af U.V y).rows→cur'.size=cur.size→(∀j,j<co+(Ag U.V l).toNat*ks'.length→cur'.getD j Go.undef=cur.getD j Go.undef)→A6 U.K ρ.imm ks' cur' co (Af U.V (.sub y (.c 0) l)).rows:=by
  intro ks' co cur cur' hR hsz hc;rw [Aj] at hfl;have hle:(Ag U.V l).toNat≤(Af U.V y).rows.length:=by omega
  refine ⟨?_,fun i hi=>?_,fun i j kd hi hj=>?_⟩
  ·rw [hrl,hsz];have:=hR.1;have:=Nat.mul_le_mul_right ks'.length hle;omega
  ·rw [hrl] at hi;rw [key i hi];exact hR.2.1 i (by omega)
  ·rw [hrl] at hi;rw [key i hi,hc]
   ·exact hR.2.2 i j kd (by omega) hj
   ·have hjl:j<ks'.length:=(List.getElem?_eq_some_iff.1 hj).1;have:(i+1)*ks'.length≤(Ag U.V l).toNat*ks'.length:=Nat.mul_le_mul_right _ (by omega)
    rw [Nat.add_mul,Nat.one_mul] at this;omega
 have still:HR ρ (h.put b (.arr e (.sub y (.c 0) l))).blk.get w∧Ext ρ ρ h (h.put b (.arr e (.sub y (.c 0) l))) w w:=by
  refine hr.swap (by rw [hb];exact Option.some_ne_none _) _ fun base hρ=>?_
  obtain ⟨ks',cur,et,fz,q1,q2,q3,q4,q5⟩:=hr.blk b base _ hρ hb;exact ⟨ks',cur,et,fz,q1,q2,q3,q4,rows q5 rfl fun _ _=>rfl⟩
 have p1:(some lov=none∧l=.c 0)∨∃k,some lov=some (.int k (Ag U.V l)):=.inr ⟨kd,by rw [hlo]⟩
 cases hx with
 |aslEnd _ _ _ _ ad q0 qn=>
  have hl0:Ag U.V l=0:=by omega
  have q:=FQ (P:=E.P) (w:=w) (b:=true) (len:=0) (cap:=0) (u:=n) (du:=n) (hi':=none) (dl:=.c 0) p1 (.inl ⟨rfl,rfl⟩) rfl (by rw [q0];rfl) b0 b1 (by rw [q0];exact Int.le_refl _) (Nat.le_refl _)
  rw [hl0,q0] at q;refine ⟨.slice ad 0 0,w,?_,?_,still.1,still.2⟩
  ·simp [Instr.sliceAt,Instr.slice,hu,q,hE.run_szIs hs]
  ·cases ad<;>simp [Builtin.clear_,hu1]
 |asl _ _ _ _ cap base hρ q0 qc qz qn=>
  have q:=FQ (P:=E.P) (w:=w) (b:=true) (len:=(Ag U.V n).toNat) (cap:=cap) (u:=n) (du:=n) (hi':=none) (dl:=.c 0) p1 (.inl ⟨rfl,rfl⟩) rfl (by omega) b0 b1 (by omega) qc
  generalize hL:(Ag U.V l).toNat=L at *;generalize hN:(Ag U.V n).toNat=N at *;have hLN:L≤N:=by omega
  have hrun:(Instr.sliceAt t (.slice (some ⟨base.cb,base.co,none⟩) N cap) (some lov) none none).run E.P w=.ok (.slice (if cap=L then some ⟨base.cb,base.co,none⟩ else some ⟨base.cb,base.co+L*es,none⟩) (N-L) (cap-L)) w:=by
   simp [Instr.sliceAt,Instr.slice,hu,q,hE.run_szIs hs,BJ]
  by_cases hc:N-L=0
  ·rw [hc] at hrun;refine ⟨_,w,hrun,?_,still.1,still.2⟩;split<;>simp [Builtin.clear_,hu1]
  ·have hcap:cap≠L:=by omega
   rw [if_neg hcap] at hrun;obtain ⟨ks',cur,et,fz,q1,q2,q3,q4,q5⟩:=hr.blk b base _ hρ hb;have hk2:U.K e=some ks:=by rw [hE.kd,←hE.ke];exact hk
   rw [hk2] at q1;cases q1;obtain ⟨zv,z1,z2⟩:=hE.run_zero ρ hz w;have zc:=(Ay ρ z2).cells (Ba z2);have hzs:zv.cells.size=es:=by have:=zc.1;simp at this;omega
   have hone:∀v∈(Builtin.zeroCells zv.cells (N-L)).toList,v.oneCell'=true:=by
    intro v hv;have hm:=Gg hza zc;rw [Builtin.zeroCells] at hv;simp only [Array.toList_map,Array.toList_range,List.mem_map,List.mem_range] at hv;obtain ⟨i,hi,rfl⟩:=hv
    have hpos:0<zv.cells.size:=by
     rcases Nat.eq_zero_or_pos zv.cells.size with c|c
     ·rw [c] at hi;simp at hi
     ·exact c
    have hlt:i%zv.cells.size<zv.cells.size:=Nat.mod_lt _ hpos;have:zv.cells[i%zv.cells.size]! = zv.cells[i%zv.cells.size]:=by simp [hlt]
    rw [this];exact hm _ (by simp)
   have hlen:(Builtin.zeroCells zv.cells (N-L)).toList.length=(N-L)*es:=by
    rw [Builtin.zeroCells,hzs];simp
   have hfit:base.co+L*es+(N-L)*es≤cur.size:=by
    have e1:L*es+(N-L)*es=N*es:=by rw [←Nat.add_mul];congr 1;omega
    have e2:N*es≤cap*es:=Nat.mul_le_mul_right _ (by omega)
    omega
   obtain ⟨w',cur',r1,r2,r3,r4,r5,r6,r7,r8,r9⟩:=BN E.P base.cb (base.co+L*es) et fz (Builtin.zeroCells zv.cells (N-L)).toList 0 w cur q2 (by rw [hlen];omega) (by rw [q3];exact q4) hone
   refine ⟨_,w',hrun,?_,?_⟩
   ·obtain ⟨m,hm⟩:=Nat.exists_eq_succ_of_ne_zero hc;rw [hm] at r1 ⊢;simp [Builtin.clear_,hu1,z1,r1]
   ·refine hr.put hρ (by rw [hb];simp) _ w' ?_ r5 r6 r7 r8 r9
    refine ⟨ks,cur',et,fz,hk2,r2,by rw [r3,q3],q4,rows q5 r3 fun j hj=>?_⟩
    rw [Array.getD_eq_getD_getElem?,Array.getD_eq_getD_getElem?,r4 j,if_neg (by rw [←hks] at hj;omega)]
end
end Go.AE
namespace Go.AE
variable [Gl:Au]
variable [U:Unk]
theorem BY {E:Env} {callF:Ask→Aa→Option (Bool×AV×Aa)} {all:Array Oper} {nt:Nat}:∀(l:List Oper) (recs:List Rc) (tmps:T AV) (h:Aa) (r:Option AV) (tmps':T AV) (h':Aa),
  Br E callF all nt l recs tmps h=some (r,tmps',h')→h.nx≤h'.nx
 |[],recs,tmps,h,r,tmps',h',hd=>by
  simp only [Br,Option.some.injEq,Prod.mk.injEq] at hd;obtain ⟨_,_,rfl⟩:=hd;exact Nat.le_refl _
 |o::rest,recs,tmps,h,r,tmps',h',hd=>by
  simp only [Br] at hd;split at hd
  ·cases hd
  ·split at hd
   ·cases hd
   ·rename_i d _;split at hd
    ·cases hd
    ·rename_i hnx hok;have hle:h.nx≤d.g.nx:=Nat.le_of_ble_eq_true hnx;split at hd
     ·cases hd
     ·split at hd
      ·cases hd
      ·have:=BY rest _ _ _ _ _ _ hd;exact Nat.le_trans hle this
    ·rename_i hnx hok;have hle:h.nx≤d.g.nx:=Nat.le_of_ble_eq_true hnx;split at hd
     ·simp only [Option.some.injEq,Prod.mk.injEq] at hd;obtain ⟨_,_,rfl⟩:=hd;exact hle
     ·cases hd
theorem KU (n:Nat):∀(l:List Out) (r:List AS),P2 n l=some r→∀x∈l,∃s,x=.next s∧s∈r∧s.h.nx=n
 |[],r,h,x,hx=>by cases hx
 |y::l,r,h,x,hx=>by
  cases y with
  |next s=>
   simp only [P2] at h;split at h
   ·rename_i l' hn hl;cases h;rcases List.mem_cons.1 hx with rfl|hx
    ·exact ⟨s,rfl,List.mem_cons_self,Aq hn⟩
    ·obtain ⟨s',q1,q2,q3⟩:=KU n l l' hl x hx;exact ⟨s',q1,List.mem_cons_of_mem _ q2,q3⟩
   ·cases h
  |_=>cases h
theorem PX (ok:Bool) (v:AV) (n:Nat):∀(l:List (Option (Bool×AV×Aa))),UH ok v n l=true→∀x∈l,∃h',x=some (ok,v,h')∧h'.nx=n
 |[],_,x,hx=>by cases hx
 |none::l,h,x,hx=>by cases h
 |some (ok',v',h')::l,h,x,hx=>by
  simp only [UH] at h;obtain ⟨h,a4⟩:=Am h;obtain ⟨h,a3⟩:=Am h;obtain ⟨a1,a2⟩:=Am h;rcases List.mem_cons.1 hx with rfl|hx
  ·have e1:=eq_of_beq a1;have e2:=Dk _ _ a2;subst e1;subst e2;exact ⟨h',rfl,Aq a3⟩
  ·exact PX ok v n l a4 x hx
theorem JU (h:Aa):∀(n b:Nat),b<n→b∉LD h n→h.blk.get b=none
 |n+1,b,hb,hm=>by
  unfold LD at hm;cases q:h.blk.get n with
  |none=>
   rw [q] at hm;by_cases e:b=n
   ·subst e;exact q
   ·exact JU h n b (by omega) hm
  |some y=>
   rw [q] at hm;simp only [List.mem_cons,not_or] at hm;exact JU h n b (by omega) hm.2
theorem NX {s:AS} {l:List (Option (Bool×AV×Aa))} {ok:Bool} {v:AV} {h:Aa} (hx:Th s l=some (ok,v,h)) :
  h.blk=.nil∧h.log=LD s.h s.h.nx++s.h.log∧s.h.nx≤h.nx∧∀x∈l,∃h',x=some (ok,v,h')∧h'.nx=h.nx:=by
 unfold Th at hx;split at hx
 ·rename_i ok1 v1 h1 r;split at hx
  ·rename_i hc;obtain ⟨a1,a2⟩:=Am hc;simp only [Option.some.injEq,Prod.mk.injEq] at hx;obtain ⟨rfl,rfl,rfl⟩:=hx;refine ⟨rfl,rfl,Nat.le_of_ble_eq_true a2,fun x hx=>?_⟩
   rcases List.mem_cons.1 hx with rfl|hx
   ·exact ⟨h1,rfl,rfl⟩
   ·exact PX _ _ _ r a1 x hx
  ·cases hx
 ·cases hx
theorem Uu {E:Env} (hE:OK E) {ρ:Ren} {s:AS} {c:Frame} {ccs:List Frame} {w:World} (hsr:SR ρ s c ccs w) {l:List AS} (hx:SD E s=some l) (base:List Frame) :
  ∃s'∈l,s'.h.nx=s.h.nx∧AA E.P base ρ s.h c ccs w w s':=by
 unfold SD at hx;split at hx
 ·rename_i all o rest k hmf ht;split at hx
  ·rename_i hw;split at hx
   ·rename_i it hop;split at hx
    ·rename_i al hal;have hmode:=hsr.fr.mode;rw [hmf] at hmode
     have hm:c.mode=.run:=by
      generalize c.mode=x at hmode;cases hmode;rfl
     have htodo:=hsr.fr.todo;rw [ht] at htodo;obtain ⟨i,idx,k',e,ho,hmap,hk⟩:=htodo.ops_inv;have hwt:=Be hsr.fr.tm hw;have hd:c.roundOf=none∨∀cl,o.op≠.defer cl:=.inr (fun cl q=>by rw [hop] at q;cases q)
     obtain ⟨p,hp,σ,v,w',q1,q2,q3,q4⟩:=Jq (E:=E) (ty:=o.type) hsr.h (hsr.fr.evR it) hal;obtain ⟨s',hs',hmem,hnx⟩:=KU _ _ _ hx _ (List.mem_map.2 ⟨p,hp,rfl⟩);refine ⟨s',hmem,hnx,Ek (s:=execOp c.eval o) hE (by rw [CP hm e ho hwt hd]) ?_ hsr.h hsr.fr hsr.cs hm hs' (fun b h1 h2=>by omega)⟩
     intro hf;exact ⟨σ,v,w',.inl (by simp [execOp,hop,q1]),q2,q3,q4⟩
    ·cases hx
   ·cases hx
  ·cases hx
 ·cases hx
theorem BE {E:Env}:∀(f:Nat) (f0:FuncId) (rd:Bool) (s:AS) (ok:Bool) (v:AV) (h:Aa),EP E f f0 rd s=some (ok,v,h)→s.h.nx≤h.nx
 |0,f0,rd,s,ok,v,h,hx=>by cases hx
 |f+1,f0,rd,s,ok,v,h,hx=>by
  simp only [EP] at hx;split at hx
  ·split at hx
   ·rename_i hb;exact Nat.le_trans (Nat.le_of_ble_eq_true hb) (BE f f0 rd _ ok v h hx)
   ·cases hx
  split at hx
  ·split at hx
   ·rename_i hb;exact Nat.le_trans (Nat.le_of_ble_eq_true hb) (BE f f0 rd _ ok v h hx)
   ·cases hx
  ·split at hx
   ·rename_i hb;simp only [Option.some.injEq,Prod.mk.injEq] at hx;obtain ⟨_,_,rfl⟩:=hx;exact Nat.le_of_ble_eq_true (Am (Am hb).1).1
   ·cases hx
  ·rename_i s2 ops k hst;obtain ⟨rfl,_,_⟩:=Ce hst;split at hx
   ·rename_i hd;exact Nat.le_trans (BY _ _ _ _ _ _ _ hd) (BE f f0 rd _ ok v h hx)
   ·rename_i hd;exact Nat.le_trans (BY _ _ _ _ _ _ _ hd) (BE f f0 rd _ ok v h hx)
   ·cases hx
  ·split at hx
   ·split at hx
    ·rename_i hb;exact Nat.le_trans (Nat.le_of_ble_eq_true hb) (BE f f0 rd _ ok v h hx)
    ·cases hx
   ·split at hx
    ·exact (NX hx).2.2.1
    ·cases hx
section
variable {E:Env} (hE:OK E) {callF:Ask→Aa→Option (Bool×AV×Aa)} {ρ:Ren} {h:Aa} {w:World} {c:Frame} {ccs base:List Frame} {s:AS}
def T3 (s:AS) (r:Option AV) (tmps:T AV) (k:List AI) (h:Aa):AS:=
 match r with
 |none=>{s with fr:={s.fr with tmps,todo:=k},h}
 |some v=>{s with fr:={s.fr with tmps,todo:=.dead::k,mode:=.panic [(v,false)]},h}
theorem O4 {σ:Ren} {h g:Aa} {w w':World} (hwf:WF h) (hn:h.nx≤g.nx) (q3:HR σ g.blk.get w') (q4:Ext ρ σ (part h none) g w w'):HR σ (AK h g).blk.get w'∧Ext ρ σ h (AK h g) w w':=by
 obtain ⟨l,hl1,hl2⟩:=q4.log;have hl1':g.log=l:=by rw [hl1];exact List.append_nil l
 refine ⟨q3.weaken fun b x _ hx=>?_,⟨q4.le,hn,q4.new,q4.calm,q4.kept,⟨Bo h.nx g.log,rfl,fun b hb ho=>Cd hn hb ho⟩,fun b hb=>Fm hwf hn hb,q4.imm⟩⟩
 by_cases h1:b<h.nx
 ·by_cases h2:b∈Bo h.nx g.log
  ·rcases FD h2 with q|⟨_,q⟩
   ·rw [q] at hx;cases hx
   ·rw [←q];exact hx
  ·rw [Cd hn h2 (.inl h1)] at hx;rw [hl2 b (fun e=>h2 (BX.2 ⟨by rw [hl1'];exact e,h1⟩)) (.inl h1)]
   exact hx
 ·by_cases h2:b<g.nx
  ·rw [Gk hwf hn (by omega) h2] at hx;exact hx
  ·rw [FM hwf hn b (by show g.nx≤b;omega)] at hx;cases hx
include hE
theorem EM (hF:Dv E callF) (hsr:SR ρ s c ccs w) (hwf:WF s.h) (hm:s.fr.mode=.run) {id:Nat} {ops:Array Oper} {k:List AI} (ht:s.fr.todo=.code (.region id ops true)::k) {r:Option AV} {tmps:T AV}
  (hd:Br E callF ops s.fr.nt ops.toList [] s.fr.tmps s.h=some (r,tmps,h)) (hfree:Ax ρ s.h.nx h.nx) (base:List Frame) :
  ∃σ c' w',Steps E.P (lone c (ccs++base) w) (lone c' (ccs++base) w')∧SR σ (T3 s r tmps k h) c' ccs w'∧
   Ext ρ σ s.h h w w':=by
 have hmode:=hsr.fr.mode;rw [hm] at hmode
 have hcm:c.mode=.run:=by
  generalize c.mode=x at hmode;cases hmode;rfl
 have htodo:=hsr.fr.todo;rw [ht] at htodo;generalize hct:c.todo=td at htodo;cases htodo with|cons a hk=>
 rename_i k';cases a;obtain ⟨H,Tm,R,Dd,n,q1,q2,q3,q4,q5,q6⟩:=G4 _ _ _ _ _ _ _ hd;simp only [List.length_nil,Nat.zero_add] at q2 q3 q4 q5 q6;have X:BL E callF ops s.fr.nt H Tm R Dd n:=⟨fun j hj=>by obtain ⟨o,h1,h2⟩:=q4 j hj;exact ⟨o,by simpa using h1,h2⟩,by rw [q2];exact hwf⟩
 have hfree0:Ax ρ (H 0).nx h.nx:=by rw [q2];exact hfree
 have hle:n≤ops.size:=by
  cases hr:r with
  |none=>have:=(q5 hr).1;simp at this;omega
  |some v=>
   obtain ⟨o,h1,_⟩:=q6 v hr;have:=(List.getElem?_eq_some_iff.1 h1).1;simp at this;omega
 have hM:(H n).nx≤h.nx:=by
  cases hr:r with
  |none=>rw [(q5 hr).2.2];exact Nat.le_refl _
  |some v=>
   obtain ⟨o,h1,b,e1,e2,e3⟩:=q6 v hr;rw [e3];exact b.tx.nx
 have hbad:n<ops.size→∃o,ops[n]?=some o∧Bad E callF ops H Tm R Dd n o (ops.toList.drop (n+1)):=by
  intro hn;cases hr:r with
  |none=>have:=(q5 hr).1;simp at this;omega
  |some v=>
   obtain ⟨o,h1,b,_⟩:=q6 v hr;exact ⟨o,by simpa using h1,b⟩
 have hst:=Ur (P:=E.P) (cs:=ccs++base) (w:=w) hcm hct;rw [hE.mixed] at hst;have hsched:∀t,Region.schedule true ops t=Region.linearise.go .any ops ops.size t (Array.replicate ops.size false) []:=fun t=>rfl
 rw [hsched] at hst;generalize htape:w.tape w.drawn (.order c.fn id)=t at hst
 have hD0:∀i,(Array.replicate ops.size false).getD i false=false:=by
  intro i;rw [Array.getD_eq_getD_getElem?,Array.getElem?_replicate];split<;>rfl
 have htm0:TR ρ s.fr.nt (Tm 0) c.tmps:=by rw [q3];exact hsr.fr.tm
 have hh0:HR ρ (H 0).blk.get {w with drawn:=w.drawn+1}:=by rw [q2];exact hsr.h.same rfl
 have I0:Inv s.fr.nt H Tm R n h.nx ρ {w with drawn:=w.drawn+1} (fun i=>(Array.replicate ops.size false).getD i false) ρ c.tmps {w with drawn:=w.drawn+1}:=rU htm0 hh0 hfree0 hD0
 obtain ⟨rest,σ,tm',w1,D',r1,r2,r3,r4,r5⟩:=X.sched hE hF (cs:=ccs++base) (k:=k') hM hfree0 hle hbad ops.size t (Array.replicate ops.size false) ρ {w with drawn:=w.drawn+1}
  {c with todo:=.inRegion ops (Region.linearise.go .any ops ops.size t (Array.replicate ops.size false) [])::k'} hcm rfl (by simp) (by omega) I0
 obtain ⟨f1,f2,f3⟩:=X.final r1 r2;rw [q2] at f3;have f3':Ext ρ σ s.h (H n) w w1:=f3.drawn rfl rfl rfl rfl;have hfr:=hsr.fr.mono f3'.le;cases hr:r with
 |none=>
  obtain ⟨e1,e2,e3⟩:=q5 hr;have hn:n=ops.size:=by simpa using e1
  rw [r4 hn] at r3;subst e2;subst e3;refine ⟨σ,{c with tmps:=tm',todo:=k'},w1,Steps.head hst (Steps.trans r3 (Steps.one (Hz hcm rfl))),⟨⟨hfr.fn,f1,hk.mono f3'.le,hfr.defers,hfr.mode,hfr.kind,hfr.round⟩,hsr.cs.mono f3'.le,f2⟩,f3'⟩
 |some v=>
  obtain ⟨o,h1,b,e1,e2,e3⟩:=q6 v hr
  have hn:n<ops.size:=by
   have:=(List.getElem?_eq_some_iff.1 h1).1;simpa using this
  obtain ⟨rr,hrr⟩:=r5 hn;rw [hrr] at r3;have hfp:=Pp b.tx.did b.ok;have hpart:HR σ (part (H n) (Dd n).fp).blk.get w1:=by rw [hfp];exact f2
  have hlooks:TR σ s.fr.nt (AL (Tm n) (A2 ops o)) tm':=⟨f1.size,fun t x hx=>by
   obtain ⟨_,y,hy,rfl⟩:=CY _ _ _ _ hx;exact LQ (f1.get t y hy)⟩
  have hnx:h.nx=(Dd n).g.nx:=by rw [e3];rfl
  have hfreen:Ax σ (H n).nx (Dd n).g.nx:=by rw [←hnx];exact f3'.free hfree
  obtain ⟨τ,v',w2,p1,p2,p3,p4⟩:=LJ hE hF (cs:=ccs++base) (c:={c with tmps:=tm',todo:=.inRegion ops (n::rr)::k'}) b.tx.did (X.wfAt (Nat.le_refl _)) hcm rfl (by simpa using h1) hlooks hpart hfreen
  rw [b.ok] at p1;rw [hfp] at p4;obtain ⟨m1,m2⟩:=O4 (X.wfAt (Nat.le_refl _)) b.tx.nx p3 p4;rw [←e3] at m1 m2;have hfr2:=hfr.mono m2.le;subst e1;subst e2
  have eraise:({c with tmps:=tm',todo:=.inRegion ops (n::rr)::k'}:Frame).raise [{v:=v',recovered:=false}]={c with tmps:=tm',todo:=.inRegion ops (n::rr)::k',mode:=.panicking [{v:=v',recovered:=false}]}:=by
   simp [Frame.raise,hcm]
  simp only [BK] at p1;rw [eraise] at p1;exact ⟨τ,_,w2,Steps.head hst (Steps.trans r3 p1),⟨⟨hfr2.fn,f1.mono m2.le,.cons (.dead _ _) ((hk.mono f3'.le).mono m2.le),hfr2.defers,.panic _ _ ⟨p2,rfl,rfl,trivial⟩,hfr2.kind,hfr2.round⟩,(hsr.cs.mono f3'.le).mono m2.le,m1⟩,f3'.trans m2 hfree⟩
end
end Go.AE
namespace Go.AE
variable [Gl:Au]
theorem ET:∀{a b:T Ac},NK a b=true→∀i x,a.get i=some x→b.get i=some x
 |.nil,_,_,i,x,hx=>by simp [T.get_nil] at hx
 |.node v l r,.nil,h,_,_,_=>by simp [NK] at h
 |.node v l r,.node v' l' r',h,i,x,hx=>by
  simp only [NK,Bool.and_eq_true] at h;obtain ⟨⟨h1,h2⟩,h3⟩:=h;simp only [T.get_eq,T.get0] at hx ⊢;split at hx
  ·subst hx;simp only at h1;cases v' with
   |none=>simp at h1
   |some y=>rw [JG h1]
  ·split at hx
   ·rw [←T.get_eq] at hx ⊢;exact ET h2 _ _ hx
   ·rw [←T.get_eq] at hx ⊢;exact ET h3 _ _ hx
theorem QB {b:Nat}:∀{l:List Nat},Gq b l=true→b∈l
 |[],h=>by simp [Gq] at h
 |c::r,h=>by
  simp only [Gq,Bool.or_eq_true] at h;rcases h with h|h
  ·rw [Nat.eq_of_beq_eq_true h];simp
  ·simp [QB h]
theorem MV {nx:Nat} {wr:List Nat}:∀{l:List Nat},Ti nx wr l=true→∀b∈l,b<nx→b∈wr
 |[],_,b,hb,_=>by cases hb
 |c::r,h,b,hb,hlt=>by
  simp only [Ti,Bool.and_eq_true,Bool.or_eq_true] at h;simp only [List.mem_cons] at hb;rcases hb with rfl|hb
  ·rcases h.1 with h1|h1
   ·have:=Nat.le_of_ble_eq_true h1;omega
   ·exact QB h1
  ·exact MV h.2 b hb hlt
def Orc.Valid (P:Program) (F:Nat→D→D) (e:Orc):Prop:=
 ∀[U:Unk],U.K=(Env.of P).kinds→U.V.fn=F→∀(ρ:Ren) (w:World) (args':List Value),VL ρ e.args args'→HR ρ e.part.get w→WF {blk:=e.part,nx:=e.nx,log:=[]}→Ax ρ e.nx e.nx'→
  ∀(c0:Frame) (base:List Frame),∃σ v' w' g,BK P (lone (Frame.enter P e.f args'.toArray .normal) (c0::base) w) c0 base e.ok v' w'∧VR σ e.v v'∧HR σ g.blk.get w'∧
   Ext ρ σ {blk:=e.part,nx:=e.nx,log:=[]} g w w'∧(∀b x,e.out.get b=some x→g.blk.get b=some x)∧g.nx=e.nx'∧(∀b∈g.log,b<e.nx→b∈e.wr)
structure Ad (E:Env) (F:Nat→D→D):Prop where
 orc:∀e∈E.orc,e.Valid E.P F
 sms:∀s∈E.sms,s.Valid E.P F
variable [U:Unk]
theorem Pf {ρ σ:Ren} {h g:Aa} {w w':World} {p out:T Ac} {nx':Nat} {wr:List Nat} (hr:HR ρ h.blk.get w) (hwf:WF h) (hsub:∀b x,p.get b=some x→h.blk.get b=some x)
  (hfree:Ax ρ h.nx nx') (q3:HR σ g.blk.get w') (q4:Ext ρ σ {blk:=p,nx:=h.nx,log:=[]} g w w') (ho:∀b x,out.get b=some x→g.blk.get b=some x) (hn:g.nx=nx') (hl:∀b∈g.log,b<h.nx→b∈wr) :
  HR σ (AK h {blk:=out,nx:=nx',log:=wr}).blk.get w'∧Ext ρ σ h (AK h {blk:=out,nx:=nx',log:=wr}) w w':=by
 have hnx:h.nx≤nx':=by have:=q4.nx;rw [hn] at this;exact this
 have hps:∀b,p.get b≠none→h.blk.get b≠none:=by
  intro b hb;cases hp:p.get b with
  |none=>exact absurd hp hb
  |some x=>rw [hsub b x hp];exact Option.some_ne_none _
 have cls:∀b x,(AK h {blk:=out,nx:=nx',log:=wr}).blk.get b=some x→g.blk.get b=some x∨(b<h.nx∧p.get b=none∧h.blk.get b=some x):=by
  intro b x hx;by_cases h1:b<h.nx
  ·by_cases h2:b∈Bo h.nx wr
   ·rcases FD (h:=h) (g:={blk:=out,nx:=nx',log:=wr}) h2 with q|⟨_,q⟩
    ·rw [q] at hx;cases hx
    ·rw [q] at hx;exact .inl (ho b x hx)
   ·rw [Cd (h:=h) (g:={blk:=out,nx:=nx',log:=wr}) hnx h2 (.inl h1)] at hx;cases hp:p.get b with
    |none=>exact .inr ⟨h1,rfl,hx⟩
    |some y=>
     have e:=hsub b y hp;rw [hx] at e;cases e;obtain ⟨l,hl1,hl2⟩:=q4.log;have hl1':g.log=l:=by rw [hl1];exact List.append_nil l
     refine .inl ((hl2 b (fun e=>h2 (BX.2 ⟨hl b (by rw [hl1'];exact e) h1,h1⟩)) (.inl h1)).trans hp)
  ·by_cases h2:b<nx'
   ·rw [Gk (h:=h) (g:={blk:=out,nx:=nx',log:=wr}) hwf hnx (by omega) h2] at hx
    exact .inl (ho b x hx)
   ·rw [FM (h:=h) (g:={blk:=out,nx:=nx',log:=wr}) hwf hnx b (by show nx'≤b;omega)] at hx;cases hx
 have old:∀b base,σ b=some base→b<h.nx→ρ b=some base:=by
  intro b base hb hlt;rcases q4.new b base hb with e|⟨e,_⟩
  ·exact e
  ·exact absurd e (by show ¬h.nx≤b;omega)
 have LR:∀b b' base base' x x',σ b=some base→σ b'=some base'→g.blk.get b=some x→b'<h.nx→p.get b'=none→h.blk.get b'=some x'→base.cb≠base'.cb:=by
  intro b b' base base' x x' hb hb' hx hlt hp hx';have hb'':=old b' base' hb' hlt;have hne':h.blk.get b'≠none:=by rw [hx'];exact Option.some_ne_none _
  have hin:∀b0 base0,ρ b0=some base0→p.get b0≠none→base0.cb≠base'.cb:=fun b0 base0 h0 hp0=>
   hr.apart b0 b' base0 base' (fun e=>by subst e;exact hp0 hp) h0 hb'' (hps b0 hp0) hne'
  rcases q4.new b base hb with e|⟨_,_,e⟩
  ·rcases q4.live b (by rw [hx];exact Option.some_ne_none _) with l|⟨l1,l2⟩
   ·exact hin b base e l
   ·have:=hfree b l1 (by rw [←hn];exact l2)
    rw [this] at e;cases e
  ·rcases e with e|⟨b0,base0,e1,e2,e3⟩
   ·have:=hr.lt b' base' hb'';omega
   ·rw [←e3];exact hin b0 base0 e1 e2
 refine ⟨⟨q3.lt,fun b base x hb hx=>?_,fun b b' base base' hne hb hb' h1 h2=>?_,q3.imm,fun k arr b base hk hb hl=>?_,q3.glob⟩,⟨q4.le,hnx,fun b base hb=>?_,q4.calm,fun k hk hkk=>q4.kept k hk (fun b base hb hp=>hkk b base hb (hps b hp)),⟨Bo h.nx wr,rfl,fun b hb ho=>Cd (h:=h) (g:={blk:=out,nx:=nx',log:=wr}) hnx hb ho⟩,fun b hb=>Fm (h:=h) (g:={blk:=out,nx:=nx',log:=wr}) hwf hnx hb,fun k arr hk=>(q4.imm k arr hk).imp id (fun e=>e.imp id (fun ⟨b0,base0,x1,x2,x3⟩=>⟨b0,base0,x1,hps b0 x2,x3⟩))⟩⟩
 ·rcases cls b x hx with q|⟨hlt,hp,hh⟩
  ·exact q3.blk b base x hb q
  ·have hρ:=old b base hb hlt;have hk:=q4.kept base.cb (hr.lt b base hρ) (fun b' base' hb' hp'=>hr.apart b' b base' base (fun e=>by subst e;exact hp' hp) hb' hρ (hps b' hp') (by rw [hh];exact Option.some_ne_none _))
   rw [hk];exact (hr.blk b base x hρ hh).mono q4.le
 ·cases hx:(AK h {blk:=out,nx:=nx',log:=wr}).blk.get b with
  |none=>exact absurd hx h1
  |some x=>
   cases hx':(AK h {blk:=out,nx:=nx',log:=wr}).blk.get b' with
   |none=>exact absurd hx' h2
   |some x'=>
    rcases cls b x hx with q|⟨a1,a2,a3⟩
    ·rcases cls b' x' hx' with q'|⟨a1',a2',a3'⟩
     ·exact q3.apart b b' base base' hne hb hb' (by rw [q];exact Option.some_ne_none _) (by rw [q'];exact Option.some_ne_none _)
     ·exact LR b b' base base' x x' hb hb' q a1' a2' a3'
    ·rcases cls b' x' hx' with q'|⟨a1',a2',a3'⟩
     ·exact fun e=>LR b' b base' base x' x hb' hb q' a1 a2 a3 e.symm
     ·exact hr.apart b b' base base' hne (old b base hb a1) (old b' base' hb' a1') (by rw [a3];exact Option.some_ne_none _) (by rw [a3'];exact Option.some_ne_none _)
 ·cases hx:(AK h {blk:=out,nx:=nx',log:=wr}).blk.get b with
  |none=>exact absurd hx hl
  |some x=>
   rcases cls b x hx with q|⟨a1,a2,a3⟩
   ·exact q3.off k arr b base hk hb (by rw [q];exact Option.some_ne_none _)
   ·have hρ:=old b base hb a1;have hl3:h.blk.get b≠none:=by rw [a3];exact Option.some_ne_none _
    rcases q4.imm k arr hk with e|e|⟨b0,base0,e1,e2,e3⟩
    ·exact hr.off k arr b base e hρ hl3
    ·have:=hr.lt b base hρ;omega
    ·rw [←e3];exact (hr.apart b0 b base0 base (fun e=>by subst e;exact e2 a2) e1 hρ (hps b0 e2) hl3).symm
 ·rcases q4.new b base hb with e|⟨e1,e2,e3⟩
  ·exact .inl e
  ·exact .inr ⟨e1,by show b<nx';rw [←hn];exact e2,e3.imp id (fun ⟨b0,base0,x1,x2,x3⟩=>⟨b0,base0,x1,hps b0 x2,x3⟩)⟩
theorem Ext.skip {ρ σ:Ren} {h g:Aa} {n:Nat} {w w':World} (hn:h.nx≤n) (q:Ext ρ σ {h with nx:=n} g w w'):Ext ρ σ h g w w':=by
 obtain ⟨l,hl,hlb⟩:=q.log;have hq:n≤g.nx:=q.nx;exact ⟨q.le,Nat.le_trans hn hq,fun b base hb=>(q.new b base hb).imp id (fun ⟨a,c,d⟩=>⟨Nat.le_trans hn a,c,d⟩),q.calm,q.kept,⟨l,hl,fun b hb ho=>hlb b hb (ho.imp (fun x=>Nat.lt_of_lt_of_le x hn) id)⟩,fun b hb=>(q.live b hb).imp id (fun ⟨a,c⟩=>⟨Nat.le_trans hn a,c⟩),q.imm⟩
theorem MM {P:Program} {F:Nat→D→D} (hF:U.V.fn=F) {f:FuncId} {args:List AV} {args':List Value} {h g:Aa} {ok:Bool} {v:AV} {ρ:Ren} {w:World}:∀{l:List Orc},(∀e∈l,e.Valid P F)→U.K=(Env.of P).kinds→K4 l f args h=some (ok,v,g)→VL ρ args args'→HR ρ h.blk.get w→WF h→Ax ρ h.nx g.nx→
  ∀(c0:Frame) (base:List Frame),∃σ v' w',BK P (lone (Frame.enter P f args'.toArray .normal) (c0::base) w) c0 base ok v' w'∧VR σ v v'∧HR σ g.blk.get w'∧Ext ρ σ h g w w'
 |[],_,_,hx,_,_,_,_=>by simp [K4] at hx
 |e::r,hO,hK,hx,ha,hr,hwf,hfree=>by
  simp only [K4] at hx;split at hx
  ·rename_i hb;simp only [Bool.and_eq_true] at hb;obtain ⟨⟨⟨h1,h2⟩,h3⟩,h4⟩:=hb;have e1:=Nat.eq_of_beq_eq_true h1
   have e2:h.nx≤e.nx:=by
    simp only [Bool.or_eq_true,Bool.and_eq_true] at h2;rcases h2 with h2|h2
    ·exact Nat.le_of_eq (Nat.eq_of_beq_eq_true h2).symm
    ·exact Nat.le_of_ble_eq_true h2.2
   have e3:=Ef _ _ h3;subst e1;subst e3;cases hx;intro c0 base;have hfree0:Ax ρ h.nx e.nx':=hfree;have hfree':Ax ρ e.nx e.nx':=fun b h1 h2=>hfree0 b (Nat.le_trans e2 h1) h2
   have hwf':WF {h with nx:=e.nx}:=fun b hb=>hwf b (Nat.le_trans e2 hb)
   obtain ⟨σ,v',w',gg,a1,a2,a3,a4,a5,a6,a7⟩:=hO e (by simp) hK hF ρ w args' ha (hr.weaken (fun b x _ hx=>ET h4 b x hx)) (fun b hb=>by
    show e.part.get b=none;cases hp:e.part.get b with
    |none=>rfl
    |some x=>
     have q:=ET h4 b x hp;rw [hwf' b hb] at q;cases q) hfree' c0 base
   obtain ⟨m1,m2⟩:=Pf (h:={h with nx:=e.nx}) hr hwf' (ET h4) hfree' a3 a4 a5 a6 a7
   exact ⟨σ,v',w',a1,a2,m1,m2.skip e2⟩
  ·exact MM hF (fun e he=>hO e (by simp [he])) hK hx ha hr hwf hfree
section
variable {E:Env} (hE:OK E) (hO:Ad E U.V.fn) {ρ:Ren} {w:World} {c:Frame} {ccs:List Frame} {s s':AS}
include hE hO
omit hE hO in
theorem VP {x:AV} {v:Value} (hx:VR ρ x v):VR ρ (Ud x) v:=by
 unfold Ud;split
 ·rename_i x;split
  ·rename_i l b hl;have h:=Mn U.ok hl;rw [HO] at h;unfold strEq at h;simp only [Bool.and_eq_true] at h;have h1:=Nat.eq_of_beq_eq_true h.1;have h2:=Nat.eq_of_beq_eq_true h.2;cases hx;rw [←h1,←h2];exact .str _
  ·exact hx
 ·exact hx
omit hE hO in
theorem SQ {l:List AV} {l':List Value} (h:VL ρ l l'):VL ρ (l.map Ud) l':=by
 refine ⟨by simp [h.1],fun i a v ha hv=>?_⟩
 rw [List.getElem?_map] at ha;cases hl:l[i]? with
 |none=>rw [hl] at ha;cases ha
 |some x=>rw [hl] at ha;cases ha;exact VP (h.2 i x v hl hv)
theorem Dz {f:FuncId} {args:List AV} {args':List Value} {h g:Aa} {ok:Bool} {v:AV} (hx:Il E f args h=some (ok,v,g)) (ha:VL ρ args args') (hr:HR ρ h.blk.get w) (hwf:WF h) (hfree:Ax ρ h.nx g.nx) :
  ∀(c0:Frame) (base:List Frame),∃σ v' w',BK E.P (lone (Frame.enter E.P f args'.toArray .normal) (c0::base) w) c0 base ok v' w'∧VR σ v v'∧HR σ g.blk.get w'∧Ext ρ σ h g w w':=by
 unfold Il at hx;split at hx
 ·rename_i l hl;have hm:=hE.ox _ _ hl;split at hx
  ·rename_i r hr';cases hx;exact MM rfl (fun e he=>hO.orc e (hm e he)) hE.kd hr' ha hr hwf hfree
  ·split at hx
   ·rename_i r2 hs;cases hx;split at hs
    ·exact MM rfl (fun e he=>hO.orc e (hm e he)) hE.kd hs (SQ ha) hr hwf hfree
    ·cases hs
   ·split at hx
    ·rename_i r2 hs;cases hx;exact He hE rfl hO.sms hs ha hr hwf hfree
    ·cases hx
 ·split at hx
  ·rename_i r2 hs;cases hx;exact He hE rfl hO.sms hs ha hr hwf hfree
  ·cases hx
omit hE hO in
theorem TE {h:Aa} {a:AV} {v:Value} (ha:VR ρ a v):VR ρ (PT h a) v:=by
 unfold PT;split
 ·rename_i b n es;split
  ·cases ha with
   |slice _ _ _ _ cap base hb hc hz=>exact .asl b es (.c n) (.bc false) cap base hb (Int.natCast_nonneg _) (by simpa [Ag,Af,D.toInt] using hc) (by omega) rfl
   |sliceEnd _ _ _ a=>exact .aslEnd b es (.c (0:Nat)) (.bc false) (some a) rfl rfl
  ·exact ha
 ·exact ha
omit hE hO in
theorem Jb {h:Aa} {f:AF} {c:Frame} (hf:FrR ρ f c):FrR ρ (QO h f) c:=by
 unfold QO;split
 ·refine ⟨hf.fn,⟨hf.tm.size,fun i x hx=>?_⟩,hf.todo,hf.defers,hf.mode,hf.kind,hf.round⟩
  have hx:(f.tmps.mapA (PT h)).get i=some x:=hx;rw [T.get_mapA] at hx;cases hg:f.tmps.get i with
  |none=>rw [hg] at hx;cases hx
  |some y=>
   rw [hg] at hx;cases hx;exact TE (hf.tm.get i y hg)
 ·exact hf
omit hO in
theorem SP (hsr:SR ρ s c ccs w) (hm:s.fr.mode=.run) {all:Array Oper} {o:Oper} {r:List Oper} {k:List AI} (ht:s.fr.todo=.ops all (o::r)::k) (hx:TJ E s all o r=some s') (base:List Frame) :
  ∃σ c' ccs' w',Steps E.P (lone c (ccs++base) w) (lone c' (ccs'++base) w')∧SR σ s' c' ccs' w'∧Ext ρ σ s.h s'.h w w':=by
 unfold TJ at hx;split at hx
 ·rename_i t x lo o2 r2 d hop hdst;split at hx
  ·rename_i cc hop2;split at hx
   ·rename_i t1 d' hcal hats hargs;split at hx
    ·rename_i b es n nl kd l hex hel;split at hx
     ·rename_i e e1 e2 y hd hd1 hb;split at hx
      ·rename_i z ks hz hk;split at hx
       ·rename_i hc;split at hx
        ·rename_i fr1 hw1 hf1;split at hx
         ·rename_i fr2 hw2 hf2;cases hx;obtain ⟨c1,hc⟩:=Am hc;obtain ⟨c2,hc⟩:=Am hc;obtain ⟨c3,hc⟩:=Am hc;obtain ⟨c4,hc⟩:=Am hc;obtain ⟨c5,hc⟩:=Am hc;obtain ⟨c6,hc⟩:=Am hc;obtain ⟨c7,hc⟩:=Am hc;obtain ⟨c8,c9⟩:=Am hc;have q1:=Aq c1;have q2:=Aq c2;have q3:=Aq c3;subst q1 q2 q3;have htodo:=hsr.fr.todo;rw [ht] at htodo;obtain ⟨i,idx,k',ee,ho,hm',hkk⟩:=htodo.ops_inv;have hmode:=hsr.fr.mode;rw [hm] at hmode
          have hcm:c.mode=.run:=by
           generalize c.mode=x at hmode;cases hmode;rfl
          have ht':=hsr.fr.tm
          have hev:EvR ρ s.fr.tmps c.eval:=by
           intro x;have:=Hp ht' x;cases x<;>exact this
          have hvx:=hev x;rw [hex] at hvx;have hvl:=Ci (hev lo) hel;obtain ⟨v,w',r1,r2',r3,r4⟩:=VH hE hsr.h (ty:=o2.type) hd hd1 hz hk (Aq c4) (Aq c5) c6 hvx hb c7 c8 hvl c9;have hnd:∀cl,o.op≠.defer cl:=by intro cl e;rw [hop] at e;cases e
          have hnd2:∀cl,o2.op≠.defer cl:=by intro cl e;rw [hop2] at e;cases e
          have st1:step E.P (lone c (ccs++base) w)=.next (lone (c.finish v) (ccs++base) w):=PM hcm ee ho (Be ht' hw1) (.inr hnd) (.inl (by simp [execOp,hop,r1]))
          have fr1ok:=Bq hsr.fr hf1 (VR.top v)
          have ef:c.finish v={c with tmps:=Hc c.tmps o.dst v,todo:=.inRegion all idx::k'}:=by
           simp only [Frame.finish,ee,ho,Option.bind_some,Hc];cases o.dst<;>rfl
          have fm:fr1.mode=.run∧fr1.todo=.ops all (o2::r2)::k∧d<s.fr.nt:=by
           unfold AP at hf1;rw [ht] at hf1;simp only [hdst,DB] at hf1;split at hf1
           ·rename_i t' hp;cases hf1;split at hp
            ·rename_i hlt;exact ⟨hm,rfl,FY hlt⟩
            ·cases hp
           ·cases hf1
          obtain ⟨fm1,fm2,fm3⟩:=fm;have htodo2:=fr1ok.todo;rw [fm2] at htodo2;obtain ⟨i2,idx2,k2',ee2,ho2,_,_⟩:=htodo2.ops_inv;have hcm2:(c.finish v).mode=.run:=by rw [ef];exact hcm
          have hev2:(c.finish v).eval (.tmp d)=v:=by
           show (c.finish v).tmps.getD d Go.undef=v;rw [ef];show (Hc c.tmps o.dst v).getD d Go.undef=v;rw [hdst];have:d<c.tmps.size:=by rw [ht'.size];exact fm3
           simp [Hc,Array.getD_eq_getD_getElem?,this]
          have hrun2:(execOp (c.finish v).eval o2).run E.P w=.ok (.value (.tuple #[])) w':=by
           have a1:cc.argTypes = #[t1]:=by rw [←Array.toList_inj];exact hats
           have hmap:(cc.args.map (c.finish v).eval)=(cc.args.toList.map (c.finish v).eval).toArray:=by apply Array.ext';simp
           have ex:∃cs,execOp (c.finish v).eval o2=builtin .clear cc.argTypes o2.type cs (cc.args.toList.map (c.finish v).eval).toArray:=
            ⟨_,by unfold execOp;rw [hop2];simp only [resolve,hcal,pure_bind,invoke,hmap];rfl⟩
           obtain ⟨cs,ex⟩:=ex;rw [ex,a1,hargs];simp only [List.map_cons,List.map_nil,hev2];simp [builtin,r2']
          have st2:step E.P (lone (c.finish v) (ccs++base) w)=.next (lone ((c.finish v).finish (.tuple #[])) (ccs++base) w'):=PM hcm2 ee2 ho2 (Be fr1ok.tm hw2) (.inr hnd2) (.inl hrun2);have fr2ok:=Bq fr1ok hf2 (VR.top (.tuple #[]));exact ⟨ρ,(c.finish v).finish (.tuple #[]),ccs,w',Steps.head st1 (Steps.one st2),⟨fr2ok,hsr.cs,r3⟩,r4⟩
         ·cases hx
        ·cases hx
       ·cases hx
      ·cases hx
     ·cases hx
    ·cases hx
   ·cases hx
  ·cases hx
 ·cases hx
omit hE hO in
theorem NU {fr:AF} {c:Frame} {v:AV} {v':Value} (hf:FrR ρ fr c) (hm:c.mode=.run) (hv:VR ρ v v'):FrR ρ {fr with mode:=.panic [(v,false)]} (c.raise [{v:=v',recovered:=false}]):=by
 have e:c.raise [{v:=v',recovered:=false}]={c with mode:=.panicking [{v:=v',recovered:=false}]}:=by simp [Frame.raise,hm]
 rw [e];exact ⟨hf.fn,hf.tm,hf.todo,hf.defers,.panic _ _ ⟨hv,rfl,rfl,trivial⟩,hf.kind,hf.round⟩
omit hE hO in
theorem Jp {f:Operand} {params:List Tmp} {assign body:Code} {k:List AI} {g:FuncId} {args:List AV} {h3:Aa} {fr':AF} (hx:Dm E s f params assign body k=some (g,args,h3,fr')):fr'.mode=s.fr.mode:=by
 unfold Dm at hx;split at hx
 ·split at hx
  ·split at hx
   ·cases hx;rfl
   ·cases hx
  ·cases hx
 ·cases hx
theorem TT (hsr:SR ρ s c ccs w) (hwf:WF s.h) (hx:Tl E s=some s') (hfree:Ax ρ s.h.nx s'.h.nx) (base:List Frame) :
  ∃σ c' ccs' w',Steps E.P (lone c (ccs++base) w) (lone c' (ccs'++base) w')∧SR σ s' c' ccs' w'∧Ext ρ σ s.h s'.h w w':=by
 unfold Tl at hx;split at hx
 ·cases hx
 ·split at hx
  ·rename_i hm;split at hx
   ·rename_i all o r k ht;split at hx
    ·rename_i s'' htl;cases hx;exact SP hE hsr hm ht htl base
    split at hx
    ·rename_i hsim;split at hx
     ·rename_i hw;split at hx
      ·rename_i g args h1 hop;split at hx
       ·rename_i v h2 hfind;split at hx
        ·rename_i fr hfin;cases hx;have htodo:=hsr.fr.todo;rw [ht] at htodo;obtain ⟨i,idx,k',e,ho,hm',hk⟩:=htodo.ops_inv;have hmode:=hsr.fr.mode;rw [hm] at hmode
         have hcm:c.mode=.run:=by
          generalize c.mode=x at hmode;cases hmode;rfl
         have ht':=hsr.fr.tm
         have hev:EvR ρ s.fr.tmps c.eval:=by
          intro x;have:=Hp ht' x;cases x<;>exact this
         have hdoes:=H7 hE hsr.h hev o;rw [hop] at hdoes;obtain ⟨rfl,args',ha,hrun⟩:=hdoes
         have hnd:∀cl,o.op≠.defer cl:=by
          intro cl e;rw [e] at hop;simp only [aop] at hop;rcases CZ s.fr.tmps cl s.h with ⟨d,hq⟩|⟨y,hq⟩<;>(rw [hq] at hop;cases hop)
         obtain ⟨σ,v',w',q1,q2,q3,q4⟩:=Dz hE hO hfind ha hsr.h hwf hfree c (ccs++base);have hst:=J7 (cs:=ccs++base) (P:=E.P) hcm e ho (Be ht' hw) (.inr hnd) hrun;exact ⟨σ,c.finish v',ccs,w',Steps.head hst q1,⟨Jb (Bq (hsr.fr.mono q4.le) hfin q2),hsr.cs.mono q4.le,q3⟩,q4⟩
        ·cases hx
       ·rename_i v h2 hfind;cases hx;have htodo:=hsr.fr.todo;rw [ht] at htodo;obtain ⟨i,idx,k',e,ho,hm',hk⟩:=htodo.ops_inv;have hmode:=hsr.fr.mode;rw [hm] at hmode
        have hcm:c.mode=.run:=by
         generalize c.mode=x at hmode;cases hmode;rfl
        have ht':=hsr.fr.tm
        have hev:EvR ρ s.fr.tmps c.eval:=by
         intro x;have:=Hp ht' x;cases x<;>exact this
        have hdoes:=H7 hE hsr.h hev o;rw [hop] at hdoes;obtain ⟨rfl,args',ha,hrun⟩:=hdoes
        have hnd:∀cl,o.op≠.defer cl:=by
         intro cl e;rw [e] at hop;simp only [aop] at hop;rcases CZ s.fr.tmps cl s.h with ⟨d,hq⟩|⟨y,hq⟩<;>(rw [hq] at hop;cases hop)
        obtain ⟨σ,v',w',q1,q2,q3,q4⟩:=Dz hE hO hfind ha hsr.h hwf hfree c (ccs++base);have hst:=J7 (cs:=ccs++base) (P:=E.P) hcm e ho (Be ht' hw) (.inr hnd) hrun;exact ⟨σ,c.raise [{v:=v',recovered:=false}],ccs,w',Steps.head hst q1,⟨Jb (NU (hsr.fr.mono q4.le) hcm q2),hsr.cs.mono q4.le,q3⟩,q4⟩
       ·cases hx
      ·cases hx
     ·cases hx
    ·cases hx
   ·
    rename_i fo params assign body k ht;split at hx
    ·rename_i g args h3 fr' hrc;split at hx
     ·rename_i v h2 hfind;split at hx
      ·rename_i fr hble hfin;cases hx;have htodo:=hsr.fr.todo;rw [ht] at htodo;have hmode:=hsr.fr.mode;rw [hm] at hmode
       have hcm:c.mode=.run:=by
        generalize c.mode=x at hmode;cases hmode;rfl
       generalize hct:c.todo=td at htodo;cases htodo with
       |cons hc1 hk=>
        cases hc1;have hnx:h3.nx≤h2.nx:=Cs hble;obtain ⟨σ,c',args',w1,q1,q2,q3,q4,q5⟩:=GK hE hsr hcm hk hct hrc (fun b b1 b2=>hfree b b1 (by show b<h2.nx;omega)) base
        obtain ⟨τ,v',w',r1,r2,r3,r4⟩:=Dz hE hO hfind q2 q4 (q5.wf hwf) (q5.free hfree) c' (ccs++base);exact ⟨τ,c'.finish v',ccs,w',Steps.head q1 r1,⟨Jb (Bq (q3.mono r4.le) hfin r2),(hsr.cs.mono q5.le).mono r4.le,r3⟩,q5.trans r4 hfree⟩
      ·cases hx
     ·rename_i v h2 hfind;split at hx
      ·rename_i hble;cases hx;have htodo:=hsr.fr.todo;rw [ht] at htodo;have hmode:=hsr.fr.mode;rw [hm] at hmode
       have hcm:c.mode=.run:=by
        generalize c.mode=x at hmode;cases hmode;rfl
       generalize hct:c.todo=td at htodo;cases htodo with
       |cons hc1 hk=>
        cases hc1;have hnx:h3.nx≤h2.nx:=Cs hble;obtain ⟨σ,c',args',w1,q1,q2,q3,q4,q5⟩:=GK hE hsr hcm hk hct hrc (fun b b1 b2=>hfree b b1 (by show b<h2.nx;omega)) base
        obtain ⟨τ,v',w',r1,r2,r3,r4⟩:=Dz hE hO hfind q2 q4 (q5.wf hwf) (q5.free hfree) c' (ccs++base)
        have hm2:c'.mode=.run:=by
         have h1:=q3.mode;have h2:fr'.mode=.run:=by rw [Jp hrc,hm]
         rw [h2] at h1;generalize c'.mode=x at h1;cases h1;rfl
        exact ⟨τ,c'.raise [{v:=v',recovered:=false}],ccs,w',Steps.head q1 r1,⟨Jb (NU (q3.mono r4.le) hm2 r2),(hsr.cs.mono q5.le).mono r4.le,r3⟩,q5.trans r4 hfree⟩
      ·cases hx
     ·cases hx
    ·cases hx
   ·cases hx
  ·cases hx
omit hE hO in
theorem MH {ρ:Ren} {nt:Nat} {t:T AV} {a:Array Value} (h:TR ρ nt t a):∀{l:List Tmp} {i:Tmp} {v:AV},TL t l=some (i,v)→TR ρ nt (t.set i v) a
 |[],i,v,hx=>by cases hx
 |c::r,i,v,hx=>by
  unfold TL at hx;split at hx
  ·rename_i b nl hg;split at hx
   ·exact MH h hx
   ·cases hx;refine ⟨h.size,fun j x hj=>?_⟩
    rw [T.get_set] at hj;by_cases e:c=j
    ·subst e;rw [if_pos rfl] at hj;cases hj;exact LQ (h.get c _ hg)
    ·rw [if_neg e] at hj;exact h.get j x hj
  ·exact MH h hx
theorem Ji (hsr:SR ρ s c ccs w) (hwf:WF s.h) (hx:Oj E s=some s') (hfree:Ax ρ s.h.nx s'.h.nx) (base:List Frame) :
  ∃σ c' ccs' w',Steps E.P (lone c (ccs++base) w) (lone c' (ccs'++base) w')∧SR σ s' c' ccs' w'∧Ext ρ σ s.h s'.h w w':=by
 unfold Oj at hx;split at hx
 ·rename_i s1 hr;cases hx;unfold pz at hr;split at hr
  ·split at hr
   ·rename_i i v hl;cases hr;exact ⟨ρ,c,ccs,w,Steps.refl _ _,⟨⟨hsr.fr.fn,MH hsr.fr.tm hl,hsr.fr.todo,hsr.fr.defers,hsr.fr.mode,hsr.fr.kind,hsr.fr.round⟩,hsr.cs,hsr.h⟩,Ext.refl _ _ _⟩
   ·cases hr
  ·cases hr
 ·exact TT hE hO hsr hwf hx hfree base
end
end Go.AE
namespace Go.AE
variable [Gl:Au]
mutual
def mvA (d:Nat):AV→AV
 |.bool b=>.bool b
 |.int k n=>.int k n
 |.str l b=>.str l b
 |.ptr0=>.ptr0
 |.ptr b o=>.ptr (b+d) o
 |.slice0=>.slice0
 |.slice b o n es=>.slice (b+d) o n es
 |.map0=>.map0
 |.map b=>.map (b+d)
 |.nilFunc=>.nilFunc
 |.nilIface=>.nilIface
 |.iface t v=>.iface t (mvA d v)
 |.agg l=>.agg (mvL d l)
 |.tuple l=>.tuple (mvL d l)
 |_=>.top
def mvL (d:Nat):List AV→List AV
 |[]=>[]
 |a::r=>mvA d a::mvL d r
end
def We (d:Nat):List Ak→List Ak
 |[]=>[]
 |e::r=>{key:=mvA d e.key,val:=mvA d e.val,born:=e.born}::We d r
def mvK (d:Nat):Ac→Option Ac
 |.cells n c=>some (.cells n (c.mapA (mvA d)))
 |.map es k=>some (.map (We d es) k)
 |_=>none
def T.keys {α:Type} (m s:Nat):T α→List Nat
 |.nil=>[]
 |.node v l r=>(match v with|some _=>[s]|none=>[])++(l.keys (2*m) (s+m)++r.keys (2*m) (s+2*m))
def mvT (d:Nat) (t:T Ac):List Nat→T Ac
 |[]=>.nil
 |k::r=>match t.get k with
  |some x=>match mvK d x with
   |some y=>(mvT d t r).set (k+d) y
   |none=>mvT d t r
  |none=>mvT d t r
def VX:AV→Bool
 |.bool _=>true
 |.int _ _=>true
 |.str _ _=>true
 |_=>false
def Orc.canMove (e:Orc):Bool:=e.args.all VX&&(match e.part with|.nil=>true|_=>false)
def Orc.move (e:Orc) (d:Nat):Orc:={f:=e.f,args:=e.args,part:=.nil,nx:=e.nx+d,ok:=e.ok,v:=mvA d e.v,out:=mvT d e.out (e.out.keys 1 0),nx':=e.nx'+d,wr:=[]}
theorem MI (d:Nat):∀l:List AV,(mvL d l).length=l.length
 |[]=>rfl
 |a::r=>by simp [mvL,MI d r]
theorem Qj (d:Nat):∀(l:List AV) (i:Nat),(mvL d l)[i]?=l[i]?.map (mvA d)
 |[],i=>by simp [mvL]
 |a::r,0=>by simp [mvL]
 |a::r,i+1=>by simp [mvL,Qj d r i]
section
variable [U:Unk]
theorem VR.move {ρ σ:Ren} {d:Nat} (h:∀b base,ρ b=some base→σ (b+d)=some base) {a:AV} {v:Value} (k:VR ρ a v):VR σ (mvA d a) v:=by
 have ls:∀(l:List AV) (l':List Value),(∀(i:Nat) (a:AV) (v:Value),l[i]?=some a→l'[i]?=some v→VR σ (mvA d a) v)→∀(i:Nat) (a:AV) (v:Value),(mvL d l)[i]?=some a→l'[i]?=some v→VR σ a v:=by
  intro l l' ih i a v ha hv;rw [Qj] at ha;cases hl:l[i]? with
  |none=>rw [hl] at ha;cases ha
  |some x=>rw [hl] at ha;cases ha;exact ih i x v hl hv
 induction k with
 |top v=>exact .top v
 |bool b=>exact .bool b
 |int k n=>exact .int k n
 |str s=>exact .str s
 |ptr0=>exact .ptr0
 |ptr b off base hb=>exact .ptr _ off base (h _ _ hb)
 |slice0=>exact .slice0
 |slice b off n es cap base hb hc hz=>exact .slice _ off n es cap base (h _ _ hb) hc hz
 |sliceEnd b off es a=>exact .sliceEnd _ off es a
 |map0=>exact .map0
 |map b base hb=>exact .map _ base (h _ _ hb)
 |func=>exact .top _
 |nilFunc=>exact .nilFunc
 |iface t a v _ ih=>exact .iface t _ v ih
 |nilIface=>exact .nilIface
 |agg l l' h1 h2 ih=>exact .agg _ l' (by rw [MI,h1]) (ls l l' ih)
 |tuple l l' h1 h2 ih=>exact .tuple _ l' (by rw [MI,h1]) (ls l l' ih)
 |sb=>exact .top _
 |si=>exact .top _
 |ss=>exact .top _
 |dat=>exact .top _
 |dptr=>exact .top _
 |asl=>exact .top _
 |aslEnd=>exact .top _
 |eslc=>exact .top _
 |aptr=>exact .top _
 |nmap=>exact .top _
 |nmap0=>exact .top _
 |stamp=>exact .top _
 |glob=>exact .top _
theorem ER.move {ρ σ:Ren} {d:Nat} (h:∀b base,ρ b=some base→σ (b+d)=some base):∀{l:List Ak} {l':List MapEntry},ER ρ l l'→ER σ (We d l) l'
 |[],[],_=>trivial
 |_::_,_::_,⟨h1,h2,h3,h4⟩=>⟨h1.move h,h2.move h,h3,ER.move h h4⟩
 |[],_::_,h=>h.elim
 |_::_,[],h=>h.elim
theorem BR.move {ρ σ:Ren} {d:Nat} (h:∀b base,ρ b=some base→σ (b+d)=some base) {x y:Ac} {base:Bf} {o:Option Obj} (k:BR ρ x base o) (hy:mvK d x=some y):BR σ y base o:=by
 cases x with
 |cells n c=>
  cases hy;obtain ⟨cur,e,fz,h1,h2,h3,h4,h5⟩:=k;refine ⟨cur,e,fz,h1,h2,h3,h4,fun i a hi ha=>?_⟩
  rw [T.get_mapA] at ha;cases hc:c.get i with
  |none=>rw [hc] at ha;cases ha
  |some a0=>
   rw [hc] at ha;cases ha;obtain ⟨v,hv,hr⟩:=h5 i a0 hi hc;exact ⟨v,hv,hr.move h⟩
 |map es clock=>cases hy;obtain ⟨es',h1,h2⟩:=k;exact ⟨es',h1,h2.move h⟩
 |arr=>cases hy
 |dmap=>cases hy
 |dmapS=>cases hy
 |loop=>cases hy
 |deferred=>cases hy
 |mapIter=>cases hy
 |strIter=>cases hy
omit U in
theorem VO {d:Nat} {t:T Ac}:∀{l:List Nat} {b:Nat} {y:Ac},(mvT d t l).get b=some y→∃k x,b=k+d∧t.get k=some x∧mvK d x=some y:=by
 intro l
 induction l with
 |nil=>intro b y h;rw [mvT,T.get_nil] at h;cases h
 |cons k r ih=>
  intro b y h;unfold mvT at h;split at h
  ·rename_i x hx;split at h
   ·rename_i z hz;rw [T.get_set] at h;by_cases hb:k+d=b
    ·rw [if_pos hb] at h;cases h;exact ⟨k,x,hb.symm,hx,hz⟩
    ·rw [if_neg hb] at h;exact ih h
   ·exact ih h
  ·exact ih h
theorem TP {ρ σ:Ren} {a:AV} {v:Value} (h:VX a=true) (k:VR ρ a v):VR σ a v:=by
 cases k<;>first | (cases h;done)|constructor
end
theorem Orc.Valid.move {P:Program} {F:Nat→D→D} {e:Orc} (hv:e.Valid P F) (hc:e.canMove=true) (d:Nat):(e.move d).Valid P F:=by
 intro U hK hF ρ w args' ha hr hwf hfree c0 base;unfold Orc.canMove at hc;simp only [Bool.and_eq_true] at hc;obtain ⟨hc1,hc2⟩:=hc
 have hp:e.part=.nil:=by
  split at hc2
  ·assumption
  ·cases hc2
 have hpn:∀b,e.part.get b=none:=fun b=>by rw [hp];exact T.get_nil b
 have ha0:VL ⟨fun _=>none,ρ.imm⟩ e.args args':=⟨ha.1,fun i a v h1 h2=>TP (List.all_eq_true.1 hc1 a (List.mem_of_getElem? h1)) (ha.2 i a v h1 h2)⟩
 have hr0:HR ⟨fun _=>none,ρ.imm⟩ e.part.get w:=⟨fun _ _ h=>(by cases h),fun _ _ _ h=>(by cases h),fun _ _ _ _ _ h=>(by cases h),hr.imm,fun _ _ _ _ _ h=>(by cases h),hr.glob⟩
 obtain ⟨σ0,v',w',g,q1,q2,q3,q4,q5,q6,q7⟩:=hv hK hF ⟨fun _=>none,ρ.imm⟩ w args' ha0 hr0 (fun b _=>hpn b) (fun _ _ _=>rfl) c0 base
 have hin:∀b base,σ0 b=some base→e.nx≤b∧b<e.nx'∧w.heap.size≤base.cb:=by
  intro b base hb;rcases q4.new b base hb with h|⟨h1,h2,h3⟩
  ·cases h
  ·refine ⟨h1,q6▸h2,?_⟩;rcases h3 with h|⟨_,_,h,_⟩
   ·exact h
   ·cases h
 have hlive:∀k x,g.blk.get k=some x→e.nx≤k∧k<e.nx':=by
  intro k x hk;rcases q4.live k (by rw [hk];exact Option.some_ne_none _) with h|⟨h1,h2⟩
  ·exact absurd (hpn k) h
  ·exact ⟨h1,q6▸h2⟩
 have hnx:e.nx≤e.nx':=by have:=q4.nx;rw [q6] at this;exact this
 have hsz:=hr.lt
 let σ:Ren:=⟨fun b=>if e.nx+d≤b∧b<e.nx'+d then σ0 (b-d) else ρ b,σ0.imm⟩
 have hsh:∀b base,σ0 b=some base→σ (b+d)=some base:=by
  intro b base hb;obtain ⟨h1,h2,_⟩:=hin b base hb;show (if e.nx+d≤b+d∧b+d<e.nx'+d then σ0 (b+d-d) else ρ (b+d))=some base
  rw [if_pos ⟨by omega,by omega⟩,Nat.add_sub_cancel]
  exact hb
 have hcase:∀b base,σ b=some base→(e.nx+d≤b∧b<e.nx'+d∧σ0 (b-d)=some base)∨ρ b=some base:=by
  intro b base hb;have hb:(if e.nx+d≤b∧b<e.nx'+d then σ0 (b-d) else ρ b)=some base:=hb
  by_cases hh:e.nx+d≤b∧b<e.nx'+d
  ·rw [if_pos hh] at hb;exact .inl ⟨hh.1,hh.2,hb⟩
  ·rw [if_neg hh] at hb;exact .inr hb
 have hout:∀b y,(mvT d e.out (e.out.keys 1 0)).get b=some y→∃k x,b=k+d∧g.blk.get k=some x∧mvK d x=some y∧e.nx≤k∧k<e.nx':=by
  intro b y hb;obtain ⟨k,x,h1,h2,h3⟩:=VO hb;have h4:=q5 k x h2;obtain ⟨h5,h6⟩:=hlive k x h4;exact ⟨k,x,h1,h4,h3,h5,h6⟩
 have hat:∀k base,e.nx≤k→k<e.nx'→σ (k+d)=some base→σ0 k=some base:=by
  intro k base h1 h2 h;have h:(if e.nx+d≤k+d∧k+d<e.nx'+d then σ0 (k+d-d) else ρ (k+d))=some base:=h
  rw [if_pos ⟨by omega,by omega⟩,Nat.add_sub_cancel] at h
  exact h
 refine ⟨σ,v',w',{blk:=mvT d e.out (e.out.keys 1 0),nx:=e.nx'+d,log:=[]},q1,q2.move hsh,⟨?_,?_,?_,q3.imm,?_,q3.glob⟩,⟨⟨?_,q4.le.imm⟩,?_,?_,q4.calm,?_,⟨[],rfl,?_⟩,?_,?_⟩,fun b x h=>h,rfl,fun b hb=>(by cases hb)⟩
 ·intro b base hb;rcases hcase b base hb with ⟨_,_,h⟩|h
  ·exact q3.lt _ _ h
  ·have:=hr.lt b base h;have:=q4.calm.size;omega
 ·intro b base y hb hy;obtain ⟨k,x,rfl,h1,h2,h3,h4⟩:=hout b y hy;exact (q3.blk k base x (hat k base h3 h4 hb) h1).move hsh h2
 ·intro b b' base base' hne hb hb' h1 h2;cases hy:(mvT d e.out (e.out.keys 1 0)).get b with
  |none=>exact absurd hy h1
  |some y=>
   cases hy':(mvT d e.out (e.out.keys 1 0)).get b' with
   |none=>exact absurd hy' h2
   |some y'=>
    obtain ⟨k,x,rfl,a1,a2,a3,a4⟩:=hout b y hy;obtain ⟨k',x',rfl,b1,b2,b3,b4⟩:=hout b' y' hy';exact q3.apart k k' base base' (fun e=>hne (by rw [e])) (hat k base a3 a4 hb) (hat k' base' b3 b4 hb') (by rw [a1];exact Option.some_ne_none _) (by rw [b1];exact Option.some_ne_none _)
 ·intro k arr b base hk hb hg;cases hy:(mvT d e.out (e.out.keys 1 0)).get b with
  |none=>exact absurd hy hg
  |some y=>
   obtain ⟨j,x,rfl,a1,a2,a3,a4⟩:=hout b y hy;exact q3.off k arr j base hk (hat j base a3 a4 hb) (by rw [a1];exact Option.some_ne_none _)
 ·intro b base hb;show (if e.nx+d≤b∧b<e.nx'+d then σ0 (b-d) else ρ b)=some base
  rw [if_neg]
  ·exact hb
  ·rintro ⟨h1,h2⟩
   have:=hfree b h1 h2;rw [this] at hb;cases hb
 ·show e.nx+d≤e.nx'+d;omega
 ·intro b base hb;rcases hcase b base hb with ⟨h1,h2,h⟩|h
  ·exact .inr ⟨h1,h2,.inl (hin _ _ h).2.2⟩
  ·exact .inl h
 ·intro k hk _;exact q4.kept k hk (fun b base hb=>by cases hb)
 ·intro b _ hb;show (mvT d e.out (e.out.keys 1 0)).get b=(T.nil:T Ac).get b;rw [T.get_nil];cases hy:(mvT d e.out (e.out.keys 1 0)).get b with
  |none=>rfl
  |some y=>
   obtain ⟨k,x,rfl,_,_,h3,h4⟩:=hout b y hy;have hb:k+d<e.nx+d∨e.nx'+d≤k+d:=hb;omega
 ·intro b hb;refine .inr ?_;cases hy:(mvT d e.out (e.out.keys 1 0)).get b with
  |none=>exact absurd hy hb
  |some y=>
   obtain ⟨k,x,rfl,_,_,h3,h4⟩:=hout b y hy;exact ⟨by show e.nx+d≤k+d;omega,by show k+d<e.nx'+d;omega⟩
 ·intro k arr hk;rcases q4.imm k arr hk with h|h|⟨b0,base0,h,_⟩
  ·exact .inl h
  ·exact .inr (.inl h)
  ·cases h
end Go.AE

