/- What is proved here: an evaluator of the model's steps that the kernel can run, and that whatever it answers is what the model does (part 6 of 8: AeSum, AeRng, AeEval, AeTail, AeRun3, AeOrc, AeMove, AeJoin). Conditions: those that each theorem states; they hold of no one program. -/
import Derived.Test.YtmjeljjkhblgeaaGreatDoorBeE
import Derived.Room.Shelf.Join48
set_option linter.unusedVariables false
set_option linter.unusedSectionVars false
set_option linter.unusedSimpArgs false
namespace Go.AE
variable [Gl:Ax]
structure Bd where
 v:T SE
 b:T Nat
 deriving Inhabited
def Bd.var (m:Bd) (e x:SE):Bd:=match e with
 |.var i=>match m.v.get i with
  |none=>{v:=m.v.set i x,b:=m.b}
  |some _=>m
 |_=>m
def Bd.blk (m:Bd) (b c:Nat):Bd:=match m.b.get b with
 |none=>{v:=m.v,b:=m.b.set b c}
 |some _=>m
mutual
def E9:AV→AV→Bd→Bd
 |.ptr b _,.ptr c _,m=>m.blk b c
 |.slice b _ _ _,.slice c _ _ _,m=>m.blk b c
 |.map b,.map c,m=>m.blk b c
 |.func (.yield l) f c,.func (.yield i) j o,m=>DO c o (DO f j (m.blk l i))
 |.func _ f c,.func _ j o,m=>DO c o (DO f j m)
 |.iface _ v,.iface _ r,m=>E9 v r m
 |.agg l,.agg i,m=>DO l i m
 |.tuple l,.tuple i,m=>DO l i m
 |.sb p e,.sb s h,m=>m.var e (match p==s with|true=>h|false=>.neg h)
 |.sb p e,.bool b,m=>m.var e (.bc (b==p))
 |.si _ e,.si _ h,m=>m.var e h
 |.si _ e,.int _ n,m=>m.var e (.c n)
 |.ss e,.ss h,m=>m.var e h
 |.ss e,.str l b,m=>m.var e (.strc l b)
 |.dat _ x,.dat _ t,m=>m.var x t
 |.dat _ x,.slice0,m=>m.var x .nilL
 |.asl b _ n d,.asl c _ q g,m=>((m.blk b c).var n q).var d g
 |.asl b _ n d,.slice c _ q _,m=>((m.blk b c).var n (.c q)).var d (.bc false)
 |.asl _ _ n d,.slice0,m=>(m.var n (.c 0)).var d (.bc true)
 |.asl _ _ n d,.eslc g,m=>(m.var n (.c 0)).var d g
 |.eslc d,.eslc g,m=>m.var d g
 |.eslc d,.slice0,m=>m.var d (.bc true)
 |.nmap b d,.nmap c g,m=>(m.blk b c).var d g
 |.nmap b d,.map c,m=>(m.blk b c).var d (.bc false)
 |.nmap _ d,.map0,m=>m.var d (.bc true)
 |_,_,m=>m
termination_by structural a=>a
def DO:List AV→List AV→Bd→Bd
 |a::l,b::k,m=>DO l k (E9 a b m)
 |_,_,m=>m
termination_by structural l=>l
end
def Nl:T AV→T AV→Bd→Bd
 |.node v l r,.node c d e,m=>Nl r e (Nl l d (match v,c with
  |some a,some b=>E9 a b m
  |_,_=>m))
 |_,_,m=>m
def Qa [Facts] (E:Env):Ab→Ab→Bd→Bd
 |.cells _ c,.cells _ h,m=>Nl c h m
 |.loop _ _ _ _ t _ _ _ d,.loop _ _ _ _ i _ _ _ j,m=>Nl t i (m.blk d j)
 |.arr _ x,.arr _ a,m=>m.var x a
 |.dmap _ _ x,.dmap _ _ a,m=>m.var x a
 |.dmap k v x,.map o _,m=>match E.kinds k,E.kinds v with
  |some b,some f=>match KG b f .emptyL o with
   |some y=>m.var x y
   |none=>m
  |_,_=>m
 |.arr e x,.cells n c,m=>match E.kinds e with
  |some g=>match c.range 0 n with
   |some l=>match C9 g (n/g.length) .emptyL l with
    |some y=>m.var x y
    |none=>m
   |none=>m
  |none=>m
 |_,_,m=>m
def KF [Facts] (E:Env) (h:Aa):List (Option Ab)→Nat→Bd→Bd
 |[],_,m=>m
 |none::r,i,m=>KF E h r (i+1) m
 |some x::r,i,m=>match m.b.get i with
  |some c=>match h.blk.get c with
   |some y=>KF E h r (i+1) (Qa E x y m)
   |none=>KF E h r (i+1) m
  |none=>KF E h r (i+1) m
def F3 [Facts] (E:Env) (l:List (Option Ab)) (h:Aa) (m:Bd):Bd:=match l with
 |[]=>m
 |[_]=>m
 |_=>KF E h l 0 (KF E h l 0 (KF E h l 0 m))
def AJ [Facts] (E:Env):List (Option Ab)→Nat→Bd→Aa→Bd×Aa
 |[],_,m,h=>(m,h)
 |none::r,i,m,h=>match m.b.get i with
  |some _=>AJ E r (i+1) m h
  |none=>AJ E r (i+1) (m.blk i h.nx) {h with nx:=h.nx+1}
 |some x::r,i,m,h=>match m.b.get i with
  |some c=>match h.blk.get c with
   |some y=>AJ E r (i+1) (Qa E x y m) h
   |none=>AJ E r (i+1) m h
  |none=>match x with
   |.arr e y=>AJ E r (i+1) ((m.blk i h.nx).var y .nilL) (h.new (.arr e .nilL))
   |.dmap k v y=>AJ E r (i+1) ((m.blk i h.nx).var y .emptyL) (h.new (.dmap k v .emptyL))
   |_=>AJ E r (i+1) m h
def GM (t:T SE):Nat→Nat→List SE
 |_,0=>[]
 |i,n+1=>(match t.get i with|some x=>x|none=>.c 0)::GM t (i+1) n
def Hd (t:T Nat):Nat→Nat→List Nat
 |_,0=>[]
 |i,n+1=>(match t.get i with|some x=>x|none=>0)::Hd t (i+1) n
def K8 (n:Nat):List Nat→Bool
 |[]=>true
 |b::r=>Nat.blt b n&&K8 n r
def CI (nx:Nat):Nat→List Nat
 |0=>[]
 |m+1=>nx::CI (nx+1) m
def G5 [U:Facts] (a:List SE):List (SB×Bool)→Bool
 |[]=>true
 | (e,b)::r=>(match AC U.facts (e.inst a) with
  |some c=>c==b
  |none=>false)&&G5 a r
def Dl [Facts] (a:List SE) (c:List Nat):List (Option Ab)→List Nat→T Ab→Option (T Ab)
 |[],[],t=>some t
 |none::r,b::d,t=>Dl a c r d (t.del b)
 |some x::r,b::d,t=>match x.inst a c with
  |some y=>Dl a c r d (t.set b y)
  |none=>none
 |_,_,_=>none
def MU:Option Obs→Bool
 |some []=>true
 |_=>false
def QK [Facts]:Obs→Bool
 |[]=>true
 | (a,.bc true)::r=>a.isB&&JO a&&QK r
 |_=>false
def HT [Facts]:Option Obs→Bool
 |some o=>QK o
 |none=>false
theorem TJ {U:Unk}:∀{o:Obs},@QK U.toFacts o=true→o.holds U.V:=by
 intro o
 induction o with
 |nil=>intro _ a b d;cases d
 |cons p r ih=>
  intro h;unfold QK at h;split at h
  ·rename_i c;cases c
  ·rename_i x g c;cases c;simp only [Bool.and_eq_true] at h;intro a b d;rcases List.mem_cons.1 d with q|q
   ·cases q;have e:=h.1.2;unfold JO at e;split at e
    ·rename_i f;have:=Ap U.ok f;rw [L6 U.V h.1.1];show D.bool (Ai U.V x)=_;rw [this];rfl
    ·cases e
   ·exact ih h.2 a b q
  ·cases h
theorem Lw {U:Unk} {o:Option Obs} (h:@HT U.toFacts o=true):∃l,o=some l∧l.holds U.V:=by
 unfold HT at h;split at h
 ·exact ⟨_,rfl,TJ h⟩
 ·cases h
def Rd (old new:T Ab):List Nat→List Nat
 |[]=>[]
 |b::r=>match eqO NB (old.get b) (new.get b) with
  |true=>Rd old new r
  |false=>b::Rd old new r
theorem MC {old new:T Ab}:∀{l:List Nat} {b:Nat},b∈l→b∉Rd old new l→new.get b=old.get b
 |c::r,b,h,a=>by
  simp only [Rd] at a;split at a
  ·rename_i d;rcases List.mem_cons.1 h with q|q
   ·subst q;exact (Sw (fun _ _=>JK) d).symm
   ·exact MC q a
  ·rcases List.mem_cons.1 h with q|q
   ·subst q;exact absurd (by simp) a
   ·exact MC q (fun c=>a (by simp [c]))
def OP [Facts] (E:Env) (s:Sm) (b:List SE) (a:List Nat) (args:List AV) (h:Aa):Option (AV×Aa):=
 match HT (EY b a s.args args)&&HT (DJ E b a h s.pre a)&&Ee a&&K8 h.nx a&&G5 b s.facts&&Nat.ble s.pre.length s.post.length with
 |true=>
  match Dl b (a++CI h.nx (s.post.length-s.pre.length)) s.post (a++CI h.nx (s.post.length-s.pre.length)) h.blk with
  |some t=>some (s.res.inst b (a++CI h.nx (s.post.length-s.pre.length)),{blk:=t,nx:=h.nx+(s.post.length-s.pre.length),log:=Rd h.blk t a++h.log})
  |none=>none
 |false=>none
def jv:AV→Kd
 |.dat e _=>.slice e
 |_=>.bool
def M7 [Facts] (E:Env) (p a:AV) (h:Aa):AV×Aa:=
 match p,a with
 |.agg c,.agg d=>match Hc E (c.map jv) d h with
  | (b,e)=>(.agg b,e)
 |p,a=>IZ E (jv p) a h
def NC [Facts] (E:Env):List AV→List AV→Aa→List AV×Aa
 |p::b,a::l,h=>match M7 E p a h with
  | (c,d)=>match NC E b l d with
   | (e,f)=>(c::e,f)
 |_,l,h=>(l,h)
def Dh [Facts] (E:Env):List (Option Ab)→Nat→T Nat→Aa→Aa
 |[],_,_,h=>h
 |some (.arr e _)::r,i,b,h=>match b.get i,E.kinds e with
  |some c,some ks=>match E3 ks with
   |true=>match h.blk.get c with
    |some (.cells _ _)=>Dh E r (i+1) b (Gm E e c h)
    |_=>Dh E r (i+1) b h
   |false=>Dh E r (i+1) b h
  |_,_=>Dh E r (i+1) b h
 |some (.cells n a)::r,i,b,h=>match b.get i,a.range 0 n with
  |some c,some l=>match E3 (Lv l) with
   |true=>Dh E r (i+1) b (Dy E (Lv l) c h)
   |false=>Dh E r (i+1) b h
  |_,_=>Dh E r (i+1) b h
 |_::r,i,b,h=>Dh E r (i+1) b h
def Ns [Facts] (E:Env) (s:Sm) (args:List AV) (h:Aa):List AV×Aa:=match NC E s.args args h with
 | (args,h)=>(args,Dh E s.pre 0 (F3 E s.pre h (DO s.args args ⟨.nil,.nil⟩)).b h)
def OL:AV→Bool
 |.bool _=>true
 |.int _ _=>true
 |.str _ _=>true
 |.sb _ _=>true
 |.si _ _=>true
 |.ss _=>true
 |_=>false
def Mw:AV→Bool
 |.tuple l=>l.all OL
 |a=>OL a
def WH (s:Sm) (h:Aa) (r:AV×Aa):AV×Aa:=match s.pre,s.post,Mw r.1 with
 |[],[],true=>(r.1,h)
 |_,_,_=>r
def Su [Facts] (E:Env) (s:Sm) (args:List AV) (h0:Aa):Option (AV×Aa):=
 match Ns E s args h0 with
 | (args,h)=>match AJ E s.pre 0 (F3 E s.pre h (DO s.args args ⟨.nil,.nil⟩)) h with
  | (m,a)=>match OP E s (GM m.v 0 s.nv) (Hd m.b 0 s.pre.length) args a with
   |some r=>some (WH s h0 r)
   |none=>none
def J5 [Facts] (E:Env):List Sm→FuncId→List AV→Aa→Option (Bool×AV×Aa)
 |[],_,_,_=>none
 |s::r,f,args,h=>match Nat.beq s.f f with
  |true=>match Su E s args h with
   |some (v,g)=>some (s.ok,v,g)
   |none=>J5 E r f args h
  |false=>J5 E r f args h
def Sm.Valid (P:Program) (F:Nat→D→D) (s:Sm):Prop:=
 ∀[U:Unk],U.K=(Env.of P).kinds→U.V.fn=F→(∀e b,(e,b)∈s.facts→Ai U.V e=b)→∀(ρ:Ren) (w:World) (i:List Value),VL ρ s.args i→HR ρ (AZ s.pre).get w→(∀b,s.pre.length≤b→ρ b=none)→
  ∀(c0:Frame) (j:List Frame),∃l t r,BM P (lone (Frame.enter P s.f i.toArray .normal) (c0::j) w) c0 j s.ok t r∧VR l s.res t∧HR l (AZ s.post).get r∧
   Ext ρ l {blk:=AZ s.pre,nx:=s.pre.length,log:=[]} {blk:=AZ s.post,nx:=s.post.length,log:=List.range s.pre.length} w r
theorem Lb {o:Option Obs} (h:MU o=true):o=some []:=by
 unfold MU at h;split at h
 ·rfl
 ·cases h
theorem JQ:∀(m nx i:Nat),(CI nx m)[i]?=if i<m then some (nx+i) else none
 |0,nx,i=>by simp [CI]
 |m+1,nx,i=>by
  cases i with
  |zero=>simp [CI]
  |succ i=>
   simp only [CI,List.getElem?_cons_succ,JQ m (nx+1) i];by_cases c:i<m
   ·rw [if_pos c,if_pos (by omega)];congr 1;omega
   ·rw [if_neg c,if_neg (by omega)]
theorem J9 {n:Nat}:∀{l:List Nat},K8 n l=true→∀b∈l,b<n
 |[],_,b,a=>by cases a
 |c::r,h,b,a=>by
  simp only [K8,Bool.and_eq_true] at h;rcases List.mem_cons.1 a with rfl|a
  ·simpa [Nat.blt_eq] using h.1
  ·exact J9 h.2 b a
theorem BD {U:Unk} {f:List SE}:∀{l:List (SB×Bool)},@G5 U.toFacts f l=true→∀e b,(e,b)∈l→Ai (U.V.inst f) e=b
 |[],_,e,b,h=>by cases h
 | (x,c)::r,h,e,b,g=>by
  simp only [G5,Bool.and_eq_true] at h;rcases List.mem_cons.1 g with q|q
  ·cases q;have a:=h.1;split at a
   ·rename_i d i;have:=@Ap _ U U.V _ U.ok _ _ i;rw [Ep] at this;rw [this];exact eq_of_beq a
   ·cases a
  ·exact BD h.2 e b q
theorem OW [Facts] {q:List SE} {s:List Nat}:∀(l:List (Option Ab)) (d:List Nat) (t f:T Ab),Dl q s l d t=some f→(∀(i j b:Nat),d[i]?=some b→d[j]?=some b→i=j)→
  (∀c,c∉d→f.get c=t.get c)∧∀(i c:Nat),d[i]?=some c→(l[i]?=some none∧f.get c=none)∨∃(x y:Ab),l[i]?=some (some x)∧x.inst q s=some y∧f.get c=some y:=by
 intro l
 induction l with
 |nil=>
  intro d t f h m;cases d with
  |nil=>simp only [Dl,Option.some.injEq] at h;subst h;exact ⟨fun _ _=>rfl,fun i c a=>by simp at a⟩
  |cons=>cases h
 |cons o r ih=>
  intro d t f h m;cases d with
  |nil=>cases o<;>cases h
  |cons b d=>
   have u:b∉d:=by
    intro v;obtain ⟨j,n,e⟩:=List.getElem_of_mem v;have:=m 0 (j+1) b rfl (by simp [n,e])
    omega
   have g:∀(i j b:Nat),d[i]?=some b→d[j]?=some b→i=j:=fun i j c hi n=>by
    have:=m (i+1) (j+1) c (by simpa using hi) (by simpa using n)
    omega
   cases o with
   |none=>
    simp only [Dl] at h;obtain ⟨k,p⟩:=ih d _ f h g;refine ⟨fun c a=>?_,fun i c a=>?_⟩
    ·simp only [List.mem_cons,not_or] at a;rw [k c a.2,T.get_del,if_neg (fun e=>a.1 e.symm)]
    ·cases i with
     |zero=>
      simp only [List.getElem?_cons_zero,Option.some.injEq] at a;subst a;exact .inl ⟨rfl,by rw [k _ u,T.get_del,if_pos rfl]⟩
     |succ i=>
      simp only [List.getElem?_cons_succ] at a ⊢;exact p i c a
   |some x=>
    simp only [Dl] at h;split at h
    ·rename_i y w;obtain ⟨k,p⟩:=ih d _ f h g;refine ⟨fun c a=>?_,fun i c a=>?_⟩
     ·simp only [List.mem_cons,not_or] at a;rw [k c a.2,T.get_set,if_neg (fun e=>a.1 e.symm)]
     ·cases i with
      |zero=>
       simp only [List.getElem?_cons_zero,Option.some.injEq] at a;subst a;exact .inr ⟨x,y,rfl,w,by rw [k _ u,T.get_set,if_pos rfl]⟩
      |succ i=>
       simp only [List.getElem?_cons_succ] at a ⊢;exact p i c a
    ·cases h
@[reducible] def B9 (U:Unk) (F:List (SB×Bool)) (a:List SE) (h:∀e b,(e,b)∈F→Ai (U.V.inst a) e=b):Unk:={facts:=F,V:=U.V.inst a,K:=U.K,R:=[],hR:=fun _ _ _ _ _ h=>(by cases h),ok:=h}
theorem Qg {U:Unk} {E:Env} {FF:List (SB×Bool)} {G:List SE} {r:List Nat} (A:∀e b,(e,b)∈FF→Ai (U.V.inst G) e=b) {pre post:List (Option Ab)} {res:AV} {o:Obs} {h:Aa} {t:T Ab} {ρ σ:Ren} {w w':World} {v':Value} {p B:Nat} (ar:pre.length=p) (au:post.length=B)
  (aj:DJ E G r h pre r=some o) (ak:o.holds U.V) (av:Ee r=true) (ab:∀b∈r,b<h.nx) (a6:p≤B) (ht:Dl G (r++CI h.nx (B-p)) post (r++CI h.nx (B-p)) h.blk=some t)
  (hr:HR ρ h.blk.get w) (hwf:∀b,h.nx≤b→h.blk.get b=none) (af:AA ρ h.nx (h.nx+(B-p)))
  (q2:@VR (B9 U FF G A).toVals σ res v') (q3:@HR _ (B9 U FF G A).toVals σ (AZ post).get w') (Q:Ext (ρ.back r) σ {blk:=AZ pre,nx:=pre.length,log:=[]} {blk:=AZ post,nx:=post.length,log:=List.range pre.length} w w') :
  ∃N,VR N (res.inst G (r++CI h.nx (B-p))) v'∧HR N t.get w'∧Ext ρ N h {blk:=t,nx:=h.nx+(B-p),log:=r++h.log} w w':=by
 have hV:(B9 U FF G A).V=U.V.inst G:=rfl;have hK:(B9 U FF G A).K=U.K:=rfl;have a7:pre.length=r.length:=(CG (U:=U) (W:=B9 U FF G A) hV hK pre r o aj ak).1;have al:=(CG (U:=U) (W:=B9 U FF G A) hV hK pre r o aj ak).2
 have S:∀b,pre.length≤b→(ρ.back r).m b=none:=by
  intro b I;have:r[b]?=none:=List.getElem?_eq_none (by omega)
  simp [Ren.back,this]
 have aw:r.length=p:=by omega
 have gb:∀(i:Nat),(r++CI h.nx (B-p))[i]?=if i<p then r[i]? else if i<B then some (h.nx+(i-p)) else none:=by
  intro i;by_cases c:i<p
  ·rw [if_pos c,List.getElem?_append_left (by omega)]
  ·rw [if_neg c,List.getElem?_append_right (by omega),JQ,aw]
   by_cases c2:i<B
   ·rw [if_pos c2,if_pos (by omega)]
   ·rw [if_neg c2,if_neg (by omega)]
 have ag:∀(i j b:Nat),(r++CI h.nx (B-p))[i]?=some b→(r++CI h.nx (B-p))[j]?=some b→i=j:=by
  intro i j b hi P;rw [gb] at hi P;by_cases c:i<p
  ·rw [if_pos c] at hi;have:=ab b (List.mem_of_getElem? hi);by_cases d:j<p
   ·rw [if_pos d] at P;exact Lr av hi P
   ·rw [if_neg d] at P;split at P
    ·cases P;omega
    ·cases P
  ·rw [if_neg c] at hi;split at hi
   ·cases hi;by_cases d:j<p
    ·rw [if_pos d] at P;have:=ab _ (List.mem_of_getElem? P);omega
    ·rw [if_neg d] at P;split at P
     ·simp only [Option.some.injEq] at P;omega
     ·cases P
   ·cases hi
 obtain ⟨t1,t2⟩:=@OW _ U.toFacts G _ _ _ _ _ ht ag
 let N:Ren:=⟨fun c=>if h.nx≤c∧c<h.nx+(B-p) then σ (p+(c-h.nx)) else ρ c,σ.imm⟩
 have u:∀c,c<h.nx→N c=ρ c:=fun c n=>by show (if _ then _ else _)=_;rw [if_neg (by omega)]
 have X:∀i,p≤i→i<B→N (h.nx+(i-p))=σ i:=fun i h1 h2=>by
  show (if _ then _ else _)=_
  rw [if_pos (by omega)];congr 1;omega
 have ae:=Q.le
 have back:∀b F,(ρ.back r).m b=some F→∃c,r[b]?=some c∧ρ c=some F:=by
  intro b F I;simp only [Ren.back] at I;cases n:r[b]? with
  |none=>rw [n] at I;cases I
  |some c=>rw [n] at I;exact ⟨c,rfl,I⟩
 have s:∀b,(AZ pre).get b≠none→∃c y,r[b]?=some c∧h.blk.get c=some y:=by
  intro b I;rw [BX] at I;cases hx:pre[b]? with
  |none=>rw [hx] at I;exact absurd rfl I
  |some ox=>
   cases ox with
   |none=>rw [hx] at I;exact absurd rfl I
   |some x=>
    obtain ⟨c,y,o',v,C,a3,a4⟩:=al b x hx;exact ⟨c,y,v,C⟩
 have ah:ρ.le N:=by
  refine ⟨fun c F n=>?_,fun k a O=>ae.imm k a O⟩
  show (if _ then _ else _)=_
  rw [if_neg ?_]
  ·exact n
  ·intro am;rw [af c am.1 am.2] at n;cases n
 have an:∀b F,σ b=some F→N ((r++CI h.nx (B-p)).getD b 0)=some F:=by
  intro b g I;rcases Q.new b g I with hq|⟨v,C,_⟩
  ·obtain ⟨c,Y,c2⟩:=back b g hq;have ao:b<p:=by have:=(List.getElem?_eq_some_iff.1 Y).1;omega
   have e:(r++CI h.nx (B-p)).getD b 0=c:=by rw [List.getD_eq_getElem?_getD,gb,if_pos ao,Y];rfl
   rw [e,u c (ab c (List.mem_of_getElem? Y))];exact c2
  ·simp only [ar,au] at v C;have e:(r++CI h.nx (B-p)).getD b 0=h.nx+(b-p):=by rw [List.getD_eq_getElem?_getD,gb,if_neg (by omega),if_pos C];rfl
   rw [e,X b v C];exact I
 have kinds:∀c y,t.get c=some y→(∃i x,(r++CI h.nx (B-p))[i]?=some c∧(AZ post).get i=some x∧@Ab.inst U.toFacts G (r++CI h.nx (B-p)) x=some y)∨(c∉r∧c<h.nx∧h.blk.get c=some y):=by
  intro c y J;by_cases hm:c∈r++CI h.nx (B-p)
  ·obtain ⟨i,hi,e⟩:=List.getElem_of_mem hm;have ap:(r++CI h.nx (B-p))[i]?=some c:=List.getElem?_eq_some_iff.2 ⟨hi,e⟩;rcases t2 i c ap with ⟨_,q⟩|⟨x,y',v,C,a3⟩
   ·rw [q] at J;cases J
   ·rw [a3] at J;cases J;exact .inl ⟨i,x,ap,by rw [BX,v];rfl,C⟩
  ·rw [t1 c hm] at J;refine .inr ⟨fun e=>hm (List.mem_append_left _ e),?_,J⟩
   rcases Nat.lt_or_ge c h.nx with q|q
   ·exact q
   ·rw [hwf c q] at J;cases J
 have z:∀i c g,(r++CI h.nx (B-p))[i]?=some c→N c=some g→σ i=some g:=by
  intro i c g hi n;rw [gb] at hi;by_cases d:i<p
  ·rw [if_pos d] at hi;rw [u c (ab c (List.mem_of_getElem? hi))] at n;exact ae.m i g (by show (r[i]?).bind ρ.m=some g;rw [hi];exact n)
  ·rw [if_neg d] at hi;split at hi
   ·rename_i d2;cases hi;rw [X i (by omega) d2] at n;exact n
   ·cases hi
 have L:∀H f c g y,(ρ.back r).m H=some f→(AZ pre).get H≠none→c∉r→ρ c=some g→h.blk.get c=some y→f.cb≠g.cb:=by
  intro H f c g y h1 h2 h3 h4 h5;obtain ⟨Y,R,Z⟩:=back H f h1;obtain ⟨c2,y2,e3,e4⟩:=s H h2;rw [R] at e3;cases e3;exact hr.apart Y c f g (fun e=>h3 (e▸List.mem_of_getElem? R)) Z h4 (by rw [e4];exact Option.some_ne_none _) (by rw [h5];exact Option.some_ne_none _)
 have mixed:∀i c g M D y' x,(r++CI h.nx (B-p))[i]?=some c→(AZ post).get i=some x→N c=some g→M∉r→M<h.nx→h.blk.get M=some y'→N M=some D→g.cb≠D.cb:=by
  intro i c g M D y' x hi hx n h3 h4 h5 h6;rw [u M h4] at h6;have ax:=z i c g hi n;rcases Q.new i g ax with hq|⟨v,C,a3|⟨H,f,R,Z,e3⟩⟩
  ·rcases Q.live i (by show (AZ post).get i≠none;rw [hx];exact Option.some_ne_none _) with l|⟨l1,l2⟩
   ·exact L i g M D y' hq l h3 h6 h5
   ·simp only at l1;rw [S i l1] at hq;cases hq
  ·have:=hr.lt M D h6;omega
  ·rw [←e3];exact L H f M D y' R Z h3 h6 h5
 refine ⟨N,EM (U:=U) (W:=B9 U FF G A) hV hK an (fun k a O=>O) res v' q2,⟨?_,?_,?_,?_,?_,hr.glob.mono ah.imm⟩,⟨ah,by show h.nx≤h.nx+_;omega,?_,Q.calm,?_,⟨r,rfl,?_⟩,?_,?_⟩⟩
 ·intro c g n;by_cases d:h.nx≤c∧c<h.nx+(B-p)
  ·have:N c=σ (p+(c-h.nx)):=by show (if _ then _ else _)=_;rw [if_pos d]
   rw [this] at n;exact HR.lt (U:=(B9 U FF G A).toVals) q3 _ g n
  ·have:N c=ρ c:=by show (if _ then _ else _)=_;rw [if_neg d]
   rw [this] at n;have:=hr.lt c g n;have:=Q.calm.size;omega
 ·intro c g y n J;rcases kinds c y J with ⟨i,x,v,C,a3⟩|⟨v,C,a3⟩
  ·exact OX (U:=U) (W:=B9 U FF G A) hV hK an (fun k a O=>O) a3 (HR.blk (U:=(B9 U FF G A).toVals) q3 i g x (z i c g v n) C)
  ·rw [u c C] at n;have O:=Q.kept g.cb (hr.lt c g n) (fun H f ay az=>L H f c g y ay az v n a3)
   rw [O];exact (hr.blk c g y n a3).mono ah
 ·intro c M g D aq n aa h1 h2;cases J:t.get c with
  |none=>exact absurd J h1
  |some y=>
   cases ai:t.get M with
   |none=>exact absurd ai h2
   |some y'=>
    rcases kinds c y J with ⟨i,x,v,C,a3⟩|⟨v,C,a3⟩
    ·rcases kinds M y' ai with ⟨i',x',b1,b2,b3⟩|⟨b1,b2,b3⟩
     ·exact HR.apart (U:=(B9 U FF G A).toVals) q3 i i' g D (fun e=>by subst e;rw [v] at b1;cases b1;exact aq rfl) (z i c g v n) (z i' M D b1 aa) (by rw [C];exact Option.some_ne_none _) (by rw [b2];exact Option.some_ne_none _)
     ·exact mixed i c g M D y' x v C n b1 b2 b3 aa
    ·rcases kinds M y' ai with ⟨i',x',b1,b2,b3⟩|⟨b1,b2,b3⟩
     ·exact (mixed i' M D c g y x' b1 b2 aa v C a3 n).symm
     ·rw [u c C] at n;rw [u M b2] at aa;exact hr.apart c M g D aq n aa (by rw [a3];exact Option.some_ne_none _) (by rw [b3];exact Option.some_ne_none _)
 ·intro k arr O;exact HR.imm (U:=(B9 U FF G A).toVals) q3 k arr O
 ·intro k arr c g O n hl;cases J:t.get c with
  |none=>exact absurd J hl
  |some y=>
   rcases kinds c y J with ⟨i,x,v,C,a3⟩|⟨v,C,a3⟩
   ·exact HR.off (U:=(B9 U FF G A).toVals) q3 k arr i g O (z i c g v n) (by rw [C];exact Option.some_ne_none _)
   ·rw [u c C] at n;have a0:h.blk.get c≠none:=by rw [a3];exact Option.some_ne_none _
    rcases Q.imm k arr O with e|e|⟨H,f,R,Z,e3⟩
    ·exact hr.off k arr c g e n a0
    ·have:=hr.lt c g n;omega
    ·rw [←e3];exact (L H f c g y R Z v n a3).symm
 ·intro c g n;by_cases d:h.nx≤c∧c<h.nx+(B-p)
  ·have e:N c=σ (p+(c-h.nx)):=by show (if _ then _ else _)=_;rw [if_pos d]
   rw [e] at n;refine .inr ⟨d.1,d.2,?_⟩;rcases Q.new _ g n with hq|⟨_,_,a3|⟨H,f,R,Z,e3⟩⟩
   ·rw [S _ (by omega)] at hq;cases hq
   ·exact .inl a3
   ·obtain ⟨Y,x1,x2⟩:=back H f R;obtain ⟨c2,y2,x3,x4⟩:=s H Z;rw [x1] at x3;cases x3;exact .inr ⟨Y,f,x2,by rw [x4];exact Option.some_ne_none _,e3⟩
  ·have e:N c=ρ c:=by show (if _ then _ else _)=_;rw [if_neg d]
   rw [e] at n;exact .inl n
 ·intro k O a5;refine Q.kept k O (fun H f R Z=>?_)
  obtain ⟨Y,x1,x2⟩:=back H f R;obtain ⟨c2,y2,x3,x4⟩:=s H Z;rw [x1] at x3;cases x3;exact a5 Y f x2 (by rw [x4];exact Option.some_ne_none _)
 ·intro b I ac;refine t1 b (fun hm=>?_)
  rcases List.mem_append.1 hm with q|q
  ·exact I q
  ·obtain ⟨i,hi,e⟩:=List.getElem_of_mem q;have ad:(CI h.nx (B-p))[i]?=some b:=by simp [hi,e]
   rw [JQ] at ad;split at ad
   ·cases ad;simp only at ac;omega
   ·cases ad
 ·intro b I;show h.blk.get b≠none∨(h.nx≤b∧b<h.nx+(B-p));cases J:t.get b with
  |none=>exact absurd J I
  |some y=>
   rcases kinds b y J with ⟨i,x,v,C,a3⟩|⟨v,C,a3⟩
   ·rw [gb] at v;by_cases d:i<p
    ·rw [if_pos d] at v;rcases Q.live i (by show (AZ post).get i≠none;rw [C];exact Option.some_ne_none _) with l|⟨l1,_⟩
     ·obtain ⟨c2,y2,x3,x4⟩:=s i l;rw [v] at x3;cases x3;exact .inl (by rw [x4];exact Option.some_ne_none _)
     ·simp only at l1;omega
    ·rw [if_neg d] at v;split at v
     ·cases v;exact .inr (by omega)
     ·cases v
   ·exact .inl (by rw [a3];exact Option.some_ne_none _)
 ·intro k arr O;rcases Q.imm k arr O with e|e|⟨H,f,R,Z,e3⟩
  ·exact .inl e
  ·exact .inr (.inl e)
  ·obtain ⟨Y,x1,x2⟩:=back H f R;obtain ⟨c2,y2,x3,x4⟩:=s H Z;rw [x1] at x3;cases x3;exact .inr (.inr ⟨Y,f,x2,by rw [x4];exact Option.some_ne_none _,e3⟩)
theorem QQ {U:Unk} {E:Env} (hE:OK E) {F:Nat→D→D} (L:U.V.fn=F) {s:Sm} (M:s.Valid E.P F) {k:List SE} {i:List Nat} {args:List AV} {a:List Value} {h h':Aa} {v:AV} {x:Ren} {w:World}
  (n:OP E s k i args h=some (v,h')) (N:VL x args a) (hr:HR x h.blk.get w) (hwf:∀b,h.nx≤b→h.blk.get b=none) (o:AA x h.nx h'.nx) (c0:Frame) (d:List Frame) :
  ∃y B z,BM E.P (lone (Frame.enter E.P s.f a.toArray .normal) (c0::d) w) c0 d s.ok B z∧VR y v B∧HR y h'.blk.get z∧Ext x y h h' w z:=by
 unfold OP at n;split at n
 ·rename_i j;split at n
  ·rename_i t O;simp only [Option.some.injEq,Prod.mk.injEq] at n;obtain ⟨rfl,rfl⟩:=n;obtain ⟨j,e⟩:=Ao j;obtain ⟨j,c⟩:=Ao j;obtain ⟨j,p⟩:=Ao j;obtain ⟨j,A⟩:=Ao j;obtain ⟨q,g⟩:=Ao j;obtain ⟨l1,q,C⟩:=Lw q;obtain ⟨l2,g,r⟩:=Lw g;have e:=Ct e;have p:=J9 p;have hV:(B9 U s.facts k (BD c)).V=U.V.inst k:=rfl;have hK:(B9 U s.facts k (BD c)).K=U.K:=rfl;have Q:s.pre.length=i.length:=(CG (U:=U) (W:=B9 U s.facts k (BD c)) hV hK s.pre i _ g r).1;have R:=C3 (U:=U) (W:=B9 U s.facts k (BD c)) hV hK s.args args _ a q C N;have S:=HR.toPat (U:=U) (W:=B9 U s.facts k (BD c)) hV hK hE hr g r A
   have u:∀b,s.pre.length≤b→(x.back i).m b=none:=by
    intro b H;have:i[b]?=none:=List.getElem?_eq_none (by omega)
    simp [Ren.back,this]
   obtain ⟨σ,B,z,T,X,Y,Z⟩:=M (U:=B9 U s.facts k (BD c)) hE.kd L (BD c) (x.back i) w a R S u c0 d;obtain ⟨y,r1,r2,I⟩:=Qg (U:=U) (E:=E) (FF:=s.facts) (BD c) rfl rfl g r A p e O hr hwf o X Y Z;refine ⟨y,B,z,T,r1,r2,{I with log:=⟨Rd h.blk t i,rfl,fun b H hr=>?_⟩}⟩
   by_cases J:b∈i
   ·exact MC J H
   ·obtain ⟨l,G,e2⟩:=I.log;have G:i++h.log=l++h.log:=G;have:=List.append_cancel_right G;subst this;exact e2 b J hr
  ·cases n
 ·cases n
theorem Bf [Facts] {E:Env}:∀(l:List (Option Ab)) (i:Nat) (m:Bd) (h:Aa),h.nx≤(AJ E l i m h).2.nx
 |[],_,_,_=>Nat.le_refl _
 |none::r,i,m,h=>by
  simp only [AJ];split
  ·exact Bf r (i+1) m h
  ·exact Nat.le_trans (Nat.le_succ _) (Bf (E:=E) r (i+1) (m.blk i h.nx) {h with nx:=h.nx+1})
 |some x::r,i,m,h=>by
  simp only [AJ];split
  ·split
   ·exact Bf r (i+1) _ h
   ·exact Bf r (i+1) _ h
  ·split
   ·rename_i e y;have:=Bf (E:=E) r (i+1) ((m.blk i h.nx).var y .nilL) (h.new (.arr e .nilL));exact Nat.le_trans (Nat.le_succ _) this
   ·rename_i k v y;have:=Bf (E:=E) r (i+1) ((m.blk i h.nx).var y .emptyL) (h.new (.dmap k v .emptyL));exact Nat.le_trans (Nat.le_succ _) this
   ·exact Bf r (i+1) _ h
theorem Bb {U:Unk} {E:Env} {ρ:Ren} {w:World}:∀(l:List (Option Ab)) (i:Nat) (m:Bd) (h:Aa),HR ρ h.blk.get w→WF h→AA ρ h.nx (AJ E l i m h).2.nx→
  HR ρ (AJ E l i m h).2.blk.get w∧Ext ρ ρ h (AJ E l i m h).2 w w∧WF (AJ E l i m h).2
 |[],_,_,h,hr,hwf,_=>⟨hr,Ext.refl _ _ _,hwf⟩
 |none::r,i,m,h,hr,hwf,a=>by
  simp only [AJ] at a ⊢;split at a
  ·exact Bb r (i+1) m h hr hwf a
  ·have o:=Bf (E:=E) r (i+1) (m.blk i h.nx) {h with nx:=h.nx+1}
   have g:Ext ρ ρ h {h with nx:=h.nx+1} w w:=⟨Ren.le_refl ρ,Nat.le_succ _,fun _ _ e=>.inl e,Fu.refl w,fun _ _ _=>rfl,⟨[],rfl,fun _ _ _=>rfl⟩,fun _ e=>.inl e,fun _ _ e=>.inl e⟩
   obtain ⟨c,d,f⟩:=Bb r (i+1) (m.blk i h.nx) {h with nx:=h.nx+1} hr (g.wf hwf) (g.free a)
   exact ⟨c,g.trans d a,f⟩
 |some x::r,i,m,h,hr,hwf,a=>by
  simp only [AJ] at a ⊢;split at a
  ·split at a
   ·exact Bb r (i+1) _ h hr hwf a
   ·exact Bb r (i+1) _ h hr hwf a
  ·split at a
   ·rename_i e y;have o:=Bf (E:=E) r (i+1) ((m.blk i h.nx).var y .nilL) (h.new (.arr e .nilL));have j:(h.new (.arr e .nilL)).nx=h.nx+1:=rfl;obtain ⟨n,b⟩:=HR.phantom hr (a h.nx (Nat.le_refl _) (by omega)) (.arr e .nilL)
    obtain ⟨c,d,f⟩:=Bb r (i+1) _ _ n (b.wf hwf) (b.free a);exact ⟨c,b.trans d a,f⟩
   ·rename_i k v y;have o:=Bf (E:=E) r (i+1) ((m.blk i h.nx).var y .emptyL) (h.new (.dmap k v .emptyL));have j:(h.new (.dmap k v .emptyL)).nx=h.nx+1:=rfl;obtain ⟨n,b⟩:=HR.phantom hr (a h.nx (Nat.le_refl _) (by omega)) (.dmap k v .emptyL)
    obtain ⟨c,d,f⟩:=Bb r (i+1) _ _ n (b.wf hwf) (b.free a);exact ⟨c,b.trans d a,f⟩
   ·exact Bb r (i+1) _ h hr hwf a
theorem Nw {U:Unk} {E:Env} (hE:OK E) {w:World} {p a f:AV} {v:Value} {d:Ren} {h h':Aa} (hr:HR d h.blk.get w) (g:VR d a v) (b:M7 E p a h=(f,h')) :
  h'.nx=h.nx∧∃c:Ren,VR c f v∧HR c h'.blk.get w∧Ext d c h h' w w:=by
 unfold M7 at b;split at b
 ·rename_i r s;split at b;rename_i e t j;cases b;cases g with
  |agg _ k l m=>
   obtain ⟨n,c,i,o,q⟩:=Jq hE hr ⟨l,m⟩ j;exact ⟨n,c,.agg e k i.1 i.2,o,q⟩
 ·exact ⟨Ms b,Jn hE hr g b⟩
theorem MJ {U:Unk} {E:Env} (hE:OK E) {w:World}:∀{q l e:List AV} {f:List Value} {d:Ren} {h h':Aa},HR d h.blk.get w→VL d l f→NC E q l h=(e,h')→
  h'.nx=h.nx∧∃i:Ren,VL i e f∧HR i h'.blk.get w∧Ext d i h h' w w
 |[],l,e,f,d,h,h',hr,g,c=>by
  cases l<;>(simp only [NC] at c;cases c;exact ⟨rfl,d,g,hr,Ext.refl _ _ _⟩)
 |k::n,[],e,f,d,h,h',hr,g,c=>by
  simp only [NC] at c;cases c;exact ⟨rfl,d,g,hr,Ext.refl _ _ _⟩
 |k::n,a::l,e,f,d,h,h',hr,g,c=>by
  obtain ⟨v,r,rfl,s,t⟩:=g.cons_inv;simp only [NC] at c;generalize j:M7 E k a h=u at c;obtain ⟨I,x⟩:=u;simp only at c;generalize m:NC E n l x=y at c;obtain ⟨J,K⟩:=y;simp only at c;cases c;obtain ⟨z,i,A,B,o⟩:=Nw hE hr s j;obtain ⟨C,D,F,G,p⟩:=MJ hE B (t.mono o.le) m;refine ⟨by omega,D,VL.cons (A.mono p.le) F,G,o.trans p (fun b L H=>by omega)⟩
theorem Bj {U:Unk} {E:Env} (hE:OK E) {w:World}:∀(l:List (Option Ab)) (i:Nat) (b:T Nat) (h:Aa) (a:Ren),HR a h.blk.get w→(Dh E l i b h).nx=h.nx∧∃f:Ren,HR f (Dh E l i b h).blk.get w∧Ext a f h (Dh E l i b h) w w
 |[],_,_,h,a,hr=>⟨rfl,a,hr,Ext.refl _ _ _⟩
 |some (.arr e x)::r,i,b,h,a,hr=>by
  have next:=Bj hE r (i+1) b h a hr;simp only [Dh];split
  ·rename_i c ks g q;split
   ·split
    ·obtain ⟨s,f,j,k⟩:=LQ (e:=e) (b:=c) hE hr;obtain ⟨t,m,o,p⟩:=Bj hE r (i+1) b (Gm E e c h) f j;exact ⟨by omega,m,o,k.trans p (fun d u v=>by omega)⟩
    ·exact next
   ·exact next
  ·exact next
 |none::r,i,b,h,a,hr=>Bj hE r (i+1) b h a hr
 |some (.cells n y)::r,i,b,h,a,hr=>by
  have next:=Bj hE r (i+1) b h a hr;simp only [Dh];split
  ·rename_i c l g z;split
   ·obtain ⟨s,f,j,k⟩:=ID (ks:=Lv l) (b:=c) hE hr;obtain ⟨t,m,o,p⟩:=Bj hE r (i+1) b (Dy E (Lv l) c h) f j;exact ⟨by omega,m,o,k.trans p (fun d u v=>by omega)⟩
   ·exact next
  ·exact next
 |some (.map _ _)::r,i,b,h,a,hr=>Bj hE r (i+1) b h a hr
 |some (.dmap _ _ _)::r,i,b,h,a,hr=>Bj hE r (i+1) b h a hr
 |some (.dmapS _ _ _ _ _)::r,i,b,h,a,hr=>Bj hE r (i+1) b h a hr
 |some (.loop _ _ _ _ _ _ _ _ _)::r,i,b,h,a,hr=>Bj hE r (i+1) b h a hr
 |some (.deferred _)::r,i,b,h,a,hr=>Bj hE r (i+1) b h a hr
 |some (.mapIter _ _ _ _)::r,i,b,h,a,hr=>Bj hE r (i+1) b h a hr
 |some (.strIter _ _ _)::r,i,b,h,a,hr=>Bj hE r (i+1) b h a hr
theorem Up {U:Unk} {E:Env} (hE:OK E) {w:World} {s:Sm} {l c:List AV} {f:List Value} {d:Ren} {h h':Aa} (hr:HR d h.blk.get w) (j:VL d l f) (e:Ns E s l h=(c,h')) :
  h'.nx=h.nx∧∃a:Ren,VL a c f∧HR a h'.blk.get w∧Ext d a h h' w w:=by
 unfold Ns at e;split at e;rename_i args g k;cases e;obtain ⟨t,a,m,n,o⟩:=MJ hE hr j k;obtain ⟨u,p,q,i⟩:=Bj hE s.pre 0 (F3 E s.pre g (DO s.args c ⟨.nil,.nil⟩)).b g a n;exact ⟨by omega,p,m.mono i.le,q,o.trans i (fun b v r=>by omega)⟩
theorem JF {U:Unk} {a:AV} {v:Value} {c d:Ren} (h:OL a=true) (f:VR c a v):VR d a v:=by
 cases f with
 |bool b=>exact .bool b
 |int k n=>exact .int k n
 |str s=>exact .str s
 |sb p e=>exact .sb p e
 |si k e=>exact .si k e
 |ss x=>exact .ss x
 |_=>cases h
theorem PX {U:Unk} {a:AV} {v:Value} {d e:Ren} (h:Mw a=true) (b:VR d a v):VR e a v:=by
 unfold Mw at h;split at h
 ·rename_i l;cases b with
  |tuple _ f g j=>exact .tuple l f g fun i a v c b=>JF (List.all_eq_true.mp h a (List.mem_of_getElem? c)) (j i a v c b)
 ·exact JF h b
theorem HR.still {U:Unk} {ρ:Ren} {g:Nat→Option Ab} {w j:World} (hr:HR ρ g w) (r:w.heap.size≤j.heap.size) (l:∀k,k<w.heap.size→j.heap[k]?=w.heap[k]?):HR ρ g j:=by
 refine ⟨fun b base i=>Nat.lt_of_lt_of_le (hr.lt b base i) r,fun b base x i t=>?_,hr.apart,fun k arr hi=>?_,hr.off,hr.glob⟩
 ·rw [l _ (hr.lt b base i)];exact hr.blk b base x i t
 ·rw [l _ (hr.immLt hi)];exact hr.imm k arr hi
theorem UP {U:Unk} {E:Env} (hE:OK E) {F:Nat→D→D} (H:U.V.fn=F) {s:Sm} (I:s.Valid E.P F) {m:List SE} {z:List Nat} {args:List AV} {c:List Value} {h h0 h':Aa} {v:AV} {p d:Ren} {w:World}
  (i:OP E s m z args h=some (v,h')) (J:s.pre=[]) (K:s.post=[]) (L:Mw v=true) (q:z=[]) (M:VL p args c) (hr:HR p h.blk.get w) (r:HR d h0.blk.get w) (c0:Frame) (a:List Frame) :
  ∃n o l,BM E.P (lone (Frame.enter E.P s.f c.toArray .normal) (c0::a) w) c0 a s.ok o l∧VR n v o∧HR n h0.blk.get l∧Ext d n h0 h0 w l:=by
 subst q
 have j:∃g,OP E s m [] args {h with blk:=.nil}=some (v,g)∧g.nx=h.nx:=by
  unfold OP at i ⊢;rw [J,K] at i ⊢;split at i
  ·rename_i N;have t:(HT (EY m [] s.args args)&&HT (DJ E m [] {h with blk:=.nil} [] [])&&Ee []&&K8 h.nx []&&G5 m s.facts&&Nat.ble ([]:List (Option Ab)).length ([]:List (Option Ab)).length)=true:=N
   rw [t];split at i
   ·simp only [Option.some.injEq,Prod.mk.injEq] at i;obtain ⟨rfl,rfl⟩:=i;exact ⟨_,rfl,rfl⟩
   ·cases i
  ·cases i
 obtain ⟨g,j,O⟩:=j;have u:∀b,({h with blk:=T.nil}:Aa).blk.get b=none:=fun b=>by exact T.get_nil b
 have x:HR p ({h with blk:=T.nil}:Aa).blk.get w:=hr.restrict fun b=>.inl (u b)
 obtain ⟨n,o,l,Q,R,_,A⟩:=QQ hE H I j M x (fun b _=>u b) (fun b S B=>by rw [O] at B;exact absurd B (Nat.not_lt.2 S)) c0 a
 have C:∀k,k<w.heap.size→l.heap[k]?=w.heap[k]?:=fun k y=>A.kept k y fun b a _ W=>absurd (u b) W
 have G:=A.calm;exact ⟨d,o,l,Q,PX L R,r.still G.size C,⟨Ren.le_refl d,Nat.le_refl _,fun _ _ e=>.inl e,G,fun k y _=>C k y,⟨[],rfl,fun _ _ _=>rfl⟩,fun _ e=>.inl e,fun _ _ e=>.inl e⟩⟩
theorem Hh {U:Unk} {E:Env} (hE:OK E) {F:Nat→D→D} (x:U.V.fn=F) {f:FuncId} {args:List AV} {k:List Value} {h g:Aa} {ok:Bool} {v:AV} {y:Ren} {w:World}:∀{l:List Sm},(∀s∈l,s.Valid E.P F)→J5 E l f args h=some (ok,v,g)→VL y args k→HR y h.blk.get w→WF h→AA y h.nx g.nx→
  ∀(c0:Frame) (c:List Frame),∃A z t,BM E.P (lone (Frame.enter E.P f k.toArray .normal) (c0::c) w) c0 c ok z t∧VR A v z∧HR A g.blk.get t∧Ext y A h g w t
 |[],_,n,_,_,_,_=>by simp [J5] at n
 |s::r,hO,n,B,hr,hwf,d=>by
  simp only [J5] at n;split at n
  ·rename_i S;have T:=As S;subst T;split at n
   ·rename_i xv xg a;simp only [Option.some.injEq,Prod.mk.injEq] at n;obtain ⟨rfl,rfl,rfl⟩:=n;unfold Su at a;split at a;rename_i i h0 p;split at a;rename_i m q C;have p:Ns E s args h=(i,h0):=p;obtain ⟨W,G,M,N,z3⟩:=Up hE hr B p;have u:WF h0:=z3.wf hwf;have H:(AJ E s.pre 0 (F3 E s.pre h0 (DO s.args i ⟨.nil,.nil⟩)) h0).2=q:=by rw [C]
    split at a;rotate_left
    ·cases a
    rename_i X o;obtain ⟨v0,O⟩:=X;have a:=Option.some.inj a;unfold WH at a;split at a
    ·rename_i I Y Z;simp only [Prod.mk.injEq] at a;obtain ⟨rfl,rfl⟩:=a;intro c0 c;have J:q=h0:=by rw [←H,I];rfl
     subst J;exact UP hE x (hO s (by simp)) (args:=i) (h:=q) o I Y Z (by rw [I];rfl) M N hr c0 c
    simp only [Prod.mk.injEq] at a;obtain ⟨rfl,rfl⟩:=a;have a:=o
    have aa:q.nx≤O.nx:=by
     unfold OP at a;split at a
     ·split at a
      ·simp only [Option.some.injEq,Prod.mk.injEq] at a;obtain ⟨_,rfl⟩:=a;show q.nx≤q.nx+_;omega
      ·cases a
     ·cases a
    have j:AA G h0.nx O.nx:=z3.free d;obtain ⟨Q,K,R⟩:=Bb (E:=E) s.pre 0 (F3 E s.pre h0 (DO s.args i ⟨.nil,.nil⟩)) h0 N u (fun b b1 b2=>j b b1 (by rw [H] at b2;omega))
    rw [H] at Q K R;intro c0 c;obtain ⟨τ,z,t,r1,r2,r3,r4⟩:=QQ hE x (hO s (by simp)) a M Q R (K.free j) c0 c
    exact ⟨τ,z,t,r1,r2,r3,z3.trans (K.trans r4 j) d⟩
   ·exact Hh hE x (fun e L=>hO e (by simp [L])) n B hr hwf d
  ·exact Hh hE x (fun e L=>hO e (by simp [L])) n B hr hwf d
end Go.AE
namespace Go.AE
variable [Gl:Ax]
def Do [Facts] (E:Env) (s:AS) (f:Operand) (params:List Tmp) (assign body:Code) (k:List AI):Option (FuncId×List AV×Aa×AF):=
 match P5 s.fr s.h with
 |some (d,a,mark)=>match Ah s.fr.tmps f with
  |.func fn first captured=>match BB E fn captured (first++[.func (.yield a.nx) [] []]) (a.new (.loop .ready none s.fr.fn s.fr.nt s.fr.tmps params assign body d)) with
   |.enter g args _=>some (g,args,a.new (.loop .ready none s.fr.fn s.fr.nt s.fr.tmps params assign body d),{s.fr with todo:=.inRange a.nx::k,defers:=mark++s.fr.defers})
   |_=>none
  |_=>none
 |none=>none
variable [U:Unk]
section
variable {E:Env} (hE:OK E) {ρ:Ren} {w:World} {c:Frame} {ccs:List Frame} {s:AS}
include hE
theorem PN {base:List Frame} {d:Frame} {w0:World} {h h':Aa} {sm:Sem Next} {g:FuncId} {args:List AV} {f:AF}
  (i:(stepG E.P true {frame:=d,callers:=ccs++base,status:=.running,dying:=none} w0).bare=(stepG.apply E.P true c (ccs++base) none sm w).bare)
  (l:DW E ρ h w sm (.enter g args h')) (m:FrR ρ f c):∃b:List Value,VL ρ args b∧step E.P (lone d (ccs++base) w0)=.next (lone (Frame.enter E.P g b.toArray .normal) (c::(ccs++base)) w):=by
 obtain ⟨rfl,b,n,e⟩:=l;refine ⟨b,n,step_lone_go ?_⟩;rw [i];have j:=m.todo;simp only [stepG.apply,Sem.runT_eq,e,if_true,GStep.bare_after,GStep.bare_go];generalize c.todo=p at j;generalize f.todo=q at j;cases j with
 |nil=>rfl
 |cons a _=>cases a<;>rfl
 |rest=>
  generalize o:U.R=r;cases r with
  |nil=>rfl
  |cons x k=>cases x<;>first|rfl|exact absurd o (U.hR _ _ _ _ _)
theorem GN (z:SR ρ s c ccs w) (hm:c.mode=.run) {K:Operand} {params:Array Tmp} {assign body:Code} {k:List AI} {L:List Item} (hk:IL ρ k L) (ht:c.todo=.code (.rangeFunc K params assign body)::L)
  {g:FuncId} {args:List AV} {M:Aa} {C:AF} (v:Do E s K params.toList assign body k=some (g,args,M,C)) (i:AA ρ s.h.nx M.nx) (base:List Frame) :
  ∃u Q e w1,step E.P (lone c (ccs++base) w)=.next (lone (Frame.enter E.P g e.toArray .normal) (Q::(ccs++base)) w1)∧VL u args e∧FrR u C Q∧HR u M.blk.get w1∧Ext ρ u s.h M w w1:=by
 unfold Do at v;split at v
 ·rename_i d p mark A;split at v
  ·rename_i fn first captured R;split at v
   ·rename_i g2 S aa T;cases v;have D:(p.new (.loop .ready none s.fr.fn s.fr.nt s.fr.tmps params.toList assign body d)).nx=p.nx+1:=rfl;obtain ⟨u,w1,N,j,t,q2,q3,q4,O⟩:=Ot (E:=E) z.h z.fr A (fun b p h2=>i b p (by simp only [D];omega))
    have B:=z.fr.mono O.le;have o:u p.nx=none:=(O.free i) p.nx (Nat.le_refl _) (by simp only [D];omega)
    have q:=Ren.le_upd o ⟨w1.heap.size,0,0⟩;obtain ⟨Y,p2⟩:=q4.new o (.loop .ready none s.fr.fn s.fr.nt s.fr.tmps params.toList assign body d)
     (.loop {state:=.ready,pending:=none,fn:=c.fn,tmps:=c.tmps,params:=params,assign:=assign,body:=body,defers:=N.cb}) 0
     ⟨c.tmps,N,q.m _ _ q2,B.tm.mono q,by rw [B.fn]⟩
     {w1 with heap:=w1.heap.push (.loop {state:=.ready,pending:=none,fn:=c.fn,tmps:=c.tmps,params:=params,assign:=assign,body:=body,defers:=N.cb})} rfl rfl rfl rfl
    have Z:(u.upd p.nx ⟨w1.heap.size,0,0⟩) p.nx=some ⟨w1.heap.size,0,0⟩:=by simp [Ren.upd]
    have F:(Instr.enterLoop c.fn c.tmps params assign body c.roundOf).run E.P w=.ok (w1.heap.size,j) {w1 with heap:=w1.heap.push (.loop {state:=.ready,pending:=none,fn:=c.fn,tmps:=c.tmps,params:=params,assign:=assign,body:=body,defers:=N.cb})}:=by
     cases G:c.roundOf with
     |some l=>
      rw [G] at t;simp only [JT,Sem.run_bind,Sem.run_pure] at t;simp only [Instr.enterLoop,Sem.run_bind,Sem.run_pure,run_newObj,Result.andThen_ok];cases hG:(Instr.getLoop l).run E.P w with
      |ok a w2=>
       rw [hG] at t;simp only [Result.andThen_ok,Result.ok.injEq,Prod.mk.injEq] at t ⊢;obtain ⟨⟨H,I⟩,V⟩:=t;rw [H,I,V];exact ⟨⟨rfl,rfl⟩,rfl⟩
      |halt x w2=>rw [hG] at t;cases t
     |none=>
      rw [G] at t;simp only [JT,Sem.run_bind,Sem.run_pure,run_newObj,Result.andThen_ok,Result.ok.injEq,Prod.mk.injEq] at t;obtain ⟨⟨H,I⟩,V⟩:=t;simp only [Instr.enterLoop,Sem.run_bind,Sem.run_pure,run_newObj,Result.andThen_ok];rw [←H,←I,←V]
    have n:=B.mono q;have W:=n.evR K;rw [R] at W;generalize X:c.eval K=cv at W;cases W with
    |func _ ab _ _ f' Q r1 r2 r3 r4 r5=>
     have ha:VL (u.upd p.nx ⟨w1.heap.size,0,0⟩) (first++[.func (.yield p.nx) [] []]) (f'++[.func (.yield w1.heap.size) #[] #[]]):=
      VL.append ⟨r2,r3⟩ (VL.cons (.func _ _ [] [] [] [] ⟨_,Z,rfl⟩ rfl (by simp) rfl (by simp)) (VL.nil _))
     have r:=Du hE Y r1 ⟨r4,r5⟩ ha;rw [T] at r
     have y:FrR (u.upd p.nx ⟨w1.heap.size,0,0⟩) {s.fr with todo:=.inRange p.nx::k,defers:=mark++s.fr.defers} {c with todo:=.inRangeFunc w1.heap.size::L,defers:=j++c.defers}:=
      ⟨n.fn,n.tm,.cons (.inRange _ _ Z) ((hk.mono O.le).mono q),(q3.mono q).append n.defers,n.mode,n.kind,n.round⟩
     obtain ⟨e,H,I⟩:=PN hE (base:=base) (c:={c with todo:=.inRangeFunc w1.heap.size::L,defers:=j++c.defers})
      (f:={s.fr with todo:=.inRange p.nx::k,defers:=mark++s.fr.defers}) (IJ hm ht F) (r.congr (by
       have J:c.eval (.const (.func (.yield w1.heap.size) #[] #[]))=.func (.yield w1.heap.size) #[] #[]:=rfl;simp [resolve,X,J,Deferred.ofValue])) y
     exact ⟨_,_,e,_,I,H,y,Y,O.trans p2 i⟩
   ·cases v
  ·cases v
 ·cases v
end
end Go.AE
namespace Go.AE
variable [Gl:Ax]
def K9:List Orc→FuncId→List AV→Aa→Option (Bool×AV×Aa)
 |[],_,_,_=>none
 |e::r,f,args,h=>match Nat.beq e.f f&&(Nat.beq e.nx h.nx||(Nat.beq (e.nx%4096) 0&&Nat.ble h.nx e.nx))&&Ga e.args args&&NR e.part h.blk with
  |true=>some (e.ok,e.v,AN {h with nx:=e.nx} {blk:=e.out,nx:=e.nx',log:=e.wr})
  |false=>K9 r f args h
def UC [U:Facts]:AV→AV
 |.ss x=>match NZ x U.facts with
  |some (l,b)=>.str l b
  |none=>.ss x
 |a=>a
def ssA:AV→Bool
 |.ss _=>true
 |_=>false
def Io [Facts] (E:Env) (f:FuncId) (args:List AV) (h:Aa):Option (Bool×AV×Aa):=
 match E.ox.get f with
 |some l=>(match K9 l f args h with
  |some r=>some r
  |none=>match (match args.any ssA with
   |true=>K9 l f (args.map UC) h
   |false=>none) with
   |some r=>some r
   |none=>match J5 E E.sms f args h with
    |some r=>some r
    |none=>none)
 |none=>match J5 E E.sms f args h with
  |some r=>some r
  |none=>none
def P2 (h:Aa):AV→AV
 |.slice b 0 n a=>match h.blk.get b with
  |some (.arr _ _)=>.asl b a (.c n) (.bc false)
  |_=>.slice b 0 n a
 |x=>x
def qT (h:Aa):AV→Bool
 |.slice b 0 _ _=>match h.blk.get b with
  |some (.arr _ _)=>true
  |_=>false
 |_=>false
def T.anyA {i:Type} (f:i→Bool):T i→Bool
 |.nil=>false
 |.node v l r=>(match v with|some x=>f x|none=>false)||l.anyA f||r.anyA f
def QX (h:Aa) (fr:AF):AF:=match fr.tmps.anyA (qT h) with
 |true=>{fr with tmps:=fr.tmps.mapA (P2 h)}
 |false=>fr
def T7 [Facts] (E:Env) (s:AS) (all:Array Oper) (o:Oper) (r:List Oper):Option AS:=
 match o.op,r,o.dst with
 |.slice t x (some lo) none none,o2::_,some d=>match o2.op with
  |.call c=>match c.callee,c.argTypes.toList,c.args.toList with
   |.builtin .clear,[i],[.tmp j]=>match Ah s.fr.tmps x,toI (Ah s.fr.tmps lo) with
    |.asl b f n q,some (_,l)=>match E.desc t,E.desc i,s.h.blk.get b with
     |some (.slice e),some (.slice k),some (.arr m y)=>match E.zero e,E.kinds e with
      |some z,some p=>match Nat.beq d j&&(Nat.beq e k&&(Nat.beq e m&&(Nat.beq z.cells.length f&&(Nat.beq f p.length&&(DI z.cells&&(E.szIs e f&&(DP n y&&inB l n n))))))) with
       |true=>match A3 all o s.fr.tmps,AT s.fr .top with
        |some true,some a=>match A3 all o2 a.tmps,AT a .top with
         |some true,some g=>some {s with fr:=g,h:=s.h.put b (.arr e (.sub y (.c 0) l))}
         |_,_=>none
        |_,_=>none
       |false=>none
      |_,_=>none
     |_,_,_=>none
    |_,_=>none
   |_,_,_=>none
  |_=>none
 |_,_,_=>none
def Ua [Facts] (t:T AV):List Tmp→Option (Tmp×AV)
 |[]=>none
 |i::r=>match t.get i with
  |some (.nmap b a)=>match T6 (.nmap b a) with
   |.nmap _ _=>Ua t r
   |v=>some (i,v)
  |_=>Ua t r
def yw [Facts] (s:AS):Option AS:=match s.fr.todo with
 |.ops all (o::_)::_=>match Ua s.fr.tmps (A4 all o) with
  |some (i,v)=>some {s with fr:={s.fr with tmps:=s.fr.tmps.set i v}}
  |none=>none
 |_=>none
def TL [Facts] (E:Env) (s:AS):Option AS:=
  match E.orc.isEmpty&&E.sms.isEmpty with
  |true=>none
  |false=>match s.fr.mode with
    |.run=>match s.fr.todo with
      |.ops all (o::r)::_=>match T7 E s all o r with
       |some c=>some c
       |none=>match Ky o.op with
        |false=>match A3 all o s.fr.tmps with
          |some true=>match aop E s.fr.tmps s.h o.op with
            |.enter g args _=>match Io E g args s.h with
              |some (true,v,h)=>match AT s.fr v with
                |some fr=>some {s with fr:=QX h fr,h}
                |none=>none
              |some (false,v,h)=>some {s with fr:=QX h {s.fr with mode:=.panic [(v,false)]},h}
              |none=>none
            |_=>none
          |_=>none
        |true=>none
      |.code (.rangeFunc f params assign body)::k=>match Do E s f params.toList assign body k with
        |some (g,args,b,a)=>match Io E g args b with
          |some (true,v,h)=>match Nat.ble b.nx h.nx,AT a v with
            |true,some fr=>some {s with fr:=QX h fr,h}
            |_,_=>none
          |some (false,v,h)=>match Nat.ble b.nx h.nx with
            |true=>some {s with fr:=QX h {a with mode:=.panic [(v,false)]},h}
            |false=>none
          |none=>none
        |none=>none
      |_=>none
    |_=>none
def Ou [Facts] (E:Env) (s:AS):Option AS:=match yw s with
 |some a=>some a
 |none=>TL E s
def Qb (n:Nat):List Out→Option (List AS)
 |[]=>some []
 |.next s::r=>match Nat.beq s.h.nx n,Qb n r with
  |true,some l=>some (s::l)
  |_,_=>none
 |_=>none
def SZ [U:Facts] (E:Env) (s:AS):Option (List AS):=
 match s.fr.mode,s.fr.todo with
 |.run,.ops all (o::_)::_=>match A3 all o s.fr.tmps with
  |some true=>match o.op with
   |.next it false=>match Jo (Ah s.fr.tmps it) s.h with
    |some l=>Qb s.h.nx (l.map fun p=>Bk E s.fr s.cs (.val p.1 p.2))
    |none=>none
   |_=>none
  |_=>none
 |_,_=>none
def U9 (ok:Bool) (v:AV) (n:Nat):List (Option (Bool×AV×Aa))→Bool
 |[]=>true
 |some (a,b,h')::r=>(a==ok)&&Bi b v&&Nat.beq h'.nx n&&U9 ok v n r
 |none::_=>false
def LK (h:Aa):Nat→List Nat
 |0=>[]
 |n+1=>match h.blk.get n with
  |some _=>n::LK h n
  |none=>LK h n
def TG (s:AS):List (Option (Bool×AV×Aa))→Option (Bool×AV×Aa)
 |some (ok,v,h)::r=>match U9 ok v h.nx r&&Nat.ble s.h.nx h.nx with
  |true=>some (ok,v,{blk:=.nil,nx:=h.nx,log:=LK s.h s.h.nx++s.h.log})
  |false=>none
 |_=>none
def TW:List Oper→List Tmp
 |[]=>[]
 |o::r=>match o.dst with
  |some d=>d::TW r
  |none=>TW r
def Ge:Code→List Tmp
 |.region _ ops _=>TW ops.toList
 |.seq a b=>Ge a++Ge b
 |.cond _ a b=>Ge a++Ge b
 |.block _ a=>Ge a
 |.loop a=>Ge a
 |.scope a=>Ge a
 |.rangeFunc _ c a b=>c.toList++(Ge a++Ge b)
 |_=>[]
def SG:List AI→List Tmp
 |.inLoop b::_=>Ge b
 |_::k=>SG k
 |[]=>[]
def QB:List Tmp→T AV→T AV
 |[],t=>t
 |d::r,t=>QB r (t.del d)
def aJ (n:Nat):Fn→Bool
 |.yield l=>Nat.blt l n
 |_=>true
mutual
def FA (n:Nat):AV→Bool
 |.ptr b _=>Nat.blt b n
 |.slice b _ _ _=>Nat.blt b n
 |.map b=>Nat.blt b n
 |.func fn f c=>aJ n fn&&(Eb n f&&Eb n c)
 |.iface _ v=>FA n v
 |.agg l=>Eb n l
 |.tuple l=>Eb n l
 |.asl b _ _ _=>Nat.blt b n
 |.aptr b _ _ _=>Nat.blt b n
 |.nmap b _=>Nat.blt b n
 |.stamp b=>Nat.blt b n
 |_=>true
termination_by structural a=>a
def Eb (n:Nat):List AV→Bool
 |[]=>true
 |a::l=>FA n a&&Eb n l
termination_by structural l=>l
end
def T.allA {i:Type} (p:i→Bool):T i→Bool
 |.nil=>true
 |.node v l r=>(match v with|some x=>p x|none=>true)&&(l.allA p&&r.allA p)
def VV (n:Nat):List Al→Bool
 |[]=>true
 |e::r=>FA n e.key&&(FA n e.val&&VV n r)
def U2 (n:Nat):List AD→Bool
 |[]=>true
 |d::r=>(match d.fn with|some f=>aJ n f|none=>Nat.blt d.coll n)&&(Eb n d.captured&&(Eb n d.args&&U2 n r))
def QP (n:Nat):Ab→Bool
 |.cells _ c=>c.allA (FA n)
 |.arr _ _=>true
 |.map a _=>VV n a
 |.dmap _ _ _=>true
 |.loop _ _ _ _ tmps _ _ _ d=>Nat.blt d n&&tmps.allA (FA n)
 |.deferred none=>true
 |.deferred (some l)=>U2 n l
 |.mapIter none _ _ _=>true
 |.mapIter (some m) _ _ _=>Nat.blt m n
 |.dmapS _ _ _ _ b=>Nat.blt b n
 |.strIter _ _ _=>true
def Q2 (S:AS):Bool:=S.fr.tmps.allA (FA S.h.nx)&&S.h.blk.allA (QP S.h.nx)
def Dv:T AV→T AV→T AV
 |.node v l r,.node a b c=>.node (match v with|some _=>a|none=>none) (Dv l b) (Dv r c)
 |_,_=>.nil
def Ij:T AV→T AV→Bool
 |.nil,_=>true
 |.node v l r,.node a b c=>(match v with
   |none=>true
   |some x=>(match a with
    |some y=>Bi x y
    |none=>false))&&(Ij l b&&Ij r c)
 |.node v l r,.nil=>v.isNone&&(Ij l .nil&&Ij r .nil)
def UX:AI→AI→Bool
 |.code c,.code b=>BW c b
 |.inBlock i,.inBlock d=>Nat.beq i d
 |.inLoop c,.inLoop b=>BW c b
 |.inScope c,.inScope b=>BW c b
 |.ops a l,.ops e f=>IF Ke a e&&ET Ke l f
 |_,_=>false
def MB (f:AF):Bool:=f.defers.isEmpty&&((match f.mode with|.run=>true|_=>false)&&((match f.kind with|.normal=>true|_=>false)&&f.round.isNone))
def IM (f g:AF):Bool:=MB f&&(MB g&&(Nat.beq f.fn g.fn&&(Nat.beq f.nt g.nt&&ET UX f.todo g.todo)))
def DG (b:Nat) (f:AF):Bool:=match f.mode,f.todo with
 |.run,.ops _ (o::_)::_=>match o.guard,o.op with
  |none,.next it false=>match Ah f.tmps it with
   |.ptr a 0=>Nat.beq a b
   |_=>false
  |_,_=>false
 |_,_=>false
def GV (b m a born:Nat) (s:AS):Option AS:=match s.fr.mode,s.fr.todo with
 |.run,.ops _ (o::_)::_=>match o.guard,o.op with
  |none,.entry it=>match Ah s.fr.tmps it with
   |.ptr d 0=>match Nat.beq d b with
    |true=>match s.h.blk.get m with
     |some (.map f c)=>match Nat.beq c a,NW born f with
      |true,some e=>match AT s.fr (.tuple [e.key,e.val]) with
       |some fr=>some {s with fr}
       |none=>none
      |_,_=>none
     |_=>none
    |false=>none
   |_=>none
  |_,_=>none
 |_,_=>none
def Ec [Facts] (E:Env) (a:Ask→Aa→Option (Bool×AV×Aa)) (b m c born:Nat):Nat→AS→Option AS
 |0,_=>none
 |f+1,s=>match s.cs.isEmpty&&DG b s.fr with
  |true=>some s
  |false=>match GV b m c born s with
   |some d=>Ec E a b m c born f d
   |none=>match Ou E s with
    |some d=>(match Nat.ble s.h.nx d.h.nx with
     |true=>Ec E a b m c born f d
     |false=>none)
    |none=>match AU E s with
     |.next d=>(match Nat.ble s.h.nx d.h.nx with
      |true=>Ec E a b m c born f d
      |false=>none)
     |.draw e ops k=>(match Bt E a ops e.fr.nt ops.toList [] e.fr.tmps e.h with
      |some (none,tmps,h)=>Ec E a b m c born f {e with fr:={e.fr with tmps,todo:=k},h}
      |_=>none)
     |_=>none
def EA [Facts] (E:Env) (a:Ask→Aa→Option (Bool×AV×Aa)) (F b m c:Nat) (S:AS) (e:Al):Option AS:=
 match AT S.fr (.tuple [.bool true,e.key,e.val]) with
 |some fr=>Ec E a b m c e.born F {fr,cs:=[],h:={S.h with log:=[]}}
 |none=>none
def Qm (nx:Nat) (t a:T Ab):List Nat→Bool
 |[]=>true
 |b::r=>(Nat.ble nx b||(match t.get b with
  |none=>true
  |some x=>match a.get b with
   |some y=>NB x y
   |none=>false))&&Qm nx t a r
def Jz (S R:AS):Bool:=Ij S.fr.tmps R.fr.tmps&&Qm S.h.nx S.h.blk R.h.blk R.h.log
def EQ (run:Al→Option AS) (S:AS):List Al→Option (Option (Al×AS)×Nat)
 |[]=>some (none,S.h.nx)
 |e::r=>match run e,EQ run S r with
  |some R,some (x,n)=>match R.cs.isEmpty&&(IM S.fr R.fr&&Nat.ble S.h.nx R.h.nx),Jz S R,x with
   |true,true,x=>some (x,max n R.h.nx)
   |true,false,none=>some (some (e,R),max n R.h.nx)
   |_,_,_=>none
  |_,_=>none
def Jj (S:AS) (n:Nat):Option AS:=match AT S.fr (.tuple [.bool false]) with
 |some fr=>some {S with fr,h:={S.h with nx:=n}}
 |none=>none
def HN (n:Nat):List Al→List Al
 |[]=>[]
 |e::r=>match Nat.beq e.born n with
  |true=>HN n r
  |false=>e::HN n r
def d5 (s:AS):Option (Nat×Nat×List Al×Nat):=match s.fr.mode,s.fr.todo with
 |.run,.ops _ (o::_)::_=>match o.guard,o.op with
  |none,.next it false=>match Ah s.fr.tmps it with
   |.ptr b 0=>match s.h.blk.get b with
    |some (.mapIter (some m) c [] d)=>match s.h.blk.get m with
     |some (.map e a)=>match Nat.beq d a&&(IX c a e&&(MH 0 e a && !Nat.beq m b)) with
      |true=>some (b,m,e,a)
      |false=>none
     |_=>none
    |_=>none
   |_=>none
  |_,_=>none
 |_,_=>none
def TN [Facts] (E:Env) (a:Ask→Aa→Option (Bool×AV×Aa)) (F b m c:Nat) (f:List Al) (e:Al) (R:AS) (n:Nat) (d:AS):Option AS:=
 match DG b d.fr&&(Q2 d && !Gt m R.h.log),EQ (EA E a F b m c d) d (HN e.born f) with
 |true,some (none,g)=>Jj d (max n g)
 |_,_=>none
def Wr [Facts] (E:Env) (a:Ask→Aa→Option (Bool×AV×Aa)) (F b m c:Nat) (d:List Al) (S:AS):Option AS:=
 match DG b S.fr&&Q2 S,EQ (EA E a F b m c S) S d with
 |true,some (none,n)=>Jj S n
 |true,some (some (e,R),n)=>TN E a F b m c d e R n {fr:={S.fr with tmps:=Dv S.fr.tmps R.fr.tmps},cs:=S.cs,h:={R.h with log:=R.h.log++S.h.log}}
 |_,_=>none
def QO [Facts] (E:Env) (a:Ask→Aa→Option (Bool×AV×Aa)) (F:Nat) (s:AS):Option AS:=match d5 s with
 |none=>none
 |some (b,m,d,c)=>Wr E a F b m c d {s with fr:={s.fr with tmps:=QB (SG s.fr.todo) s.fr.tmps},h:=s.h.strike b}
def Km [Facts] (E:Env) (run:FuncId→Bool→AS→Option (Bool×AV×Aa)) (a:Ask) (h:Aa):Option (Bool×AV×Aa):=match a with
 |.enter g args=>match Io E g args h with
  |some r=>some r
  |none=>match BQ E g args .normal with
   |some fr=>run fr.fn true {fr,cs:=[],h}
   |none=>none
 |.round l args=>match Fo l args h with
  |some fr=>run fr.fn true {fr,cs:=[],h}
  |none=>none
def ES [Facts] (E:Env):Nat→FuncId→Bool→AS→Option (Bool×AV×Aa)
  |0,_,_,_=>none
  |f+1,b,c,s=>match Ou E s with
   |some a=>(match Nat.ble s.h.nx a.h.nx with
     |true=>ES E f b c a
     |false=>none)
   |none=>match AU E s with
    |.next a=>match Nat.ble s.h.nx a.h.nx with
      |true=>ES E f b c a
      |false=>none
    |.done ok v h=>match Nat.ble s.h.nx h.nx&&Nat.beq s.fr.fn b&&(c||s.fr.round.isNone) with
      |true=>some (ok,v,h)
      |false=>none
    |.draw s ops k=>
      match Bt E (Km E (ES E f)) ops s.fr.nt ops.toList [] s.fr.tmps s.h with
      |some (none,tmps,h)=>ES E f b c {s with fr:={s.fr with tmps,todo:=k},h}
      |some (some v,tmps,h)=>ES E f b c {s with fr:={s.fr with tmps,todo:=.dead::k,mode:=.panic [(v,false)]},h}
      |none=>none
    |.bad _=>match QO E (Km E (ES E f)) f s with
      |some a=>(match Nat.ble s.h.nx a.h.nx with
        |true=>ES E f b c a
        |false=>none)
      |none=>match SZ E s with
        |some l=>TG s (l.map fun a=>ES E f b c a)
        |none=>none
def WA [Facts] (E:Env) (n:Nat) (f:FuncId) (args:List AV) (h:Aa):Option (Bool×AV×Aa):=
 match BQ E f args .normal with
 |some fr=>ES E n f false {fr,cs:=[],h}
 |none=>none
def Pq [Facts] (E:Env) (N:Nat) (e:Orc):Bool:=
 match WA E N e.f e.args {blk:=e.part,nx:=e.nx,log:=[]} with
 |some (ok,v,g)=>(ok==e.ok)&&Bi v e.v&&NR e.out g.blk&&Nat.beq g.nx e.nx'&&TI e.nx e.wr g.log
 |none=>false
end Go.AE
namespace Go.AE
variable [Gl:Ax]
section
variable [U:Unk] {E:Env} (hE:OK E) {ρ:Ren} {h:Aa} {w:World}
include hE
theorem Wf (hr:HR ρ h.blk.get w) {t t1 ty e:TypeId} {M:List Kd} {z:AV} {b o:Nat} {n nl y l:SE} {xv s:Value} {kd:IntKind} (hd:E.desc t=some (.slice e)) (aa:E.desc t1=some (.slice e)) (hz:E.zero e=some z) (hk:E.kinds e=some M)
  (am:z.cells.length=o) (ab:o=M.length) (ac:DI z.cells=true) (hx:VR ρ (.asl b o n nl) xv) (O:h.blk.get b=some (.arr e y)) (hs:E.szIs e o=true) (hn:DP n y=true) (ae:s=.int kd (Ag U.V l)) (af:inB l n n=true) :
  ∃v C,(Instr.sliceAt t xv (some s) none none).run E.P w=.ok v w∧(Builtin.clear_ #[t1] ty #[v]).run E.P w=.ok (.tuple #[]) C∧HR ρ (h.put b (.arr e (.sub y (.c 0) l))).blk.get C∧Ext ρ ρ h (h.put b (.arr e (.sub y (.c 0) l))) w C:=by
 obtain ⟨b0,b1,b2⟩:=H7 af;have D:=Ey hn;have hu:=hE.run_und hd (w:=w);have A:=hE.run_und aa (w:=w);have e0:Ag U.V (.c 0)=0:=rfl
 have B:(Af U.V (.sub y (.c 0) l)).rows.length=(Ag U.V l).toNat:=by
  rw [DB,e0];rw [Ak] at D;simp;omega
 have key:∀i,i<(Ag U.V l).toNat→(Af U.V (.sub y (.c 0) l)).rows.getD i default=(Af U.V y).rows.getD i default:=by
  intro i hi;rw [DB,e0,JL (by simpa using hi)]
  congr 1
  simp
 have rows:∀{d:List Kd} {co:Nat} {g f:Array Value},A8 U.K ρ.imm d g co (Af U.V y).rows→f.size=g.size→(∀j,j<co+(Ag U.V l).toNat*d.length→f.getD j Go.undef=g.getD j Go.undef)→A8 U.K ρ.imm d f co (Af U.V (.sub y (.c 0) l)).rows:=by
  intro d co g f hR ag Q;rw [Ak] at D;have ah:(Ag U.V l).toNat≤(Af U.V y).rows.length:=by omega
  refine ⟨?_,fun i hi=>?_,fun i j kd hi R=>?_⟩
  ·rw [B,ag];have:=hR.1;have:=Nat.mul_le_mul_right d.length ah;omega
  ·rw [B] at hi;rw [key i hi];exact hR.2.1 i (by omega)
  ·rw [B] at hi;rw [key i hi,Q]
   ·exact hR.2.2 i j kd (by omega) R
   ·have an:j<d.length:=(List.getElem?_eq_some_iff.1 R).1;have:(i+1)*d.length≤(Ag U.V l).toNat*d.length:=Nat.mul_le_mul_right _ (by omega)
    rw [Nat.add_mul,Nat.one_mul] at this;omega
 have still:HR ρ (h.put b (.arr e (.sub y (.c 0) l))).blk.get w∧Ext ρ ρ h (h.put b (.arr e (.sub y (.c 0) l))) w w:=by
  refine hr.swap (by rw [O];exact Option.some_ne_none _) _ fun a x=>?_
  obtain ⟨d,g,S,T,W,q2,X,Y,q5⟩:=hr.blk b a _ x O;exact ⟨d,g,S,T,W,q2,X,Y,rows q5 rfl fun _ _=>rfl⟩
 have p1:(some s=none∧l=.c 0)∨∃k,some s=some (.int k (Ag U.V l)):=.inr ⟨kd,by rw [ae]⟩
 cases hx with
 |aslEnd _ _ _ _ ad Z qn=>
  have ai:Ag U.V l=0:=by omega
  have q:=FU (P:=E.P) (w:=w) (b:=true) (len:=0) (cap:=0) (u:=n) (du:=n) (hi':=none) (dl:=.c 0) p1 (.inl ⟨rfl,rfl⟩) rfl (by rw [Z];rfl) b0 b1 (by rw [Z];exact Int.le_refl _) (Nat.le_refl _)
  rw [ai,Z] at q;refine ⟨.slice ad 0 0,w,?_,?_,still.1,still.2⟩
  ·simp [Instr.sliceAt,Instr.slice,hu,q,hE.run_szIs hs]
  ·cases ad<;>simp [Builtin.clear_,A]
 |asl _ _ _ _ cap a x Z qc qz qn=>
  have q:=FU (P:=E.P) (w:=w) (b:=true) (len:=(Ag U.V n).toNat) (cap:=cap) (u:=n) (du:=n) (hi':=none) (dl:=.c 0) p1 (.inl ⟨rfl,rfl⟩) rfl (by omega) b0 b1 (by omega) qc
  generalize hL:(Ag U.V l).toNat=L at *;generalize hN:(Ag U.V n).toNat=N at *;have ao:L≤N:=by omega
  have p:(Instr.sliceAt t (.slice (some ⟨a.cb,a.co,none⟩) N cap) (some s) none none).run E.P w=.ok (.slice (if cap=L then some ⟨a.cb,a.co,none⟩ else some ⟨a.cb,a.co+L*o,none⟩) (N-L) (cap-L)) w:=by
   simp [Instr.sliceAt,Instr.slice,hu,q,hE.run_szIs hs,BL]
  by_cases Q:N-L=0
  ·rw [Q] at p;refine ⟨_,w,p,?_,still.1,still.2⟩;split<;>simp [Builtin.clear_,A]
  ·have F:cap≠L:=by omega
   rw [if_neg F] at p;obtain ⟨d,g,S,T,W,q2,X,Y,q5⟩:=hr.blk b a _ x O;have G:U.K e=some M:=by rw [hE.kd,←hE.ke];exact hk
   rw [G] at W;cases W;obtain ⟨r,z1,z2⟩:=hE.run_zero ρ hz w;have zc:=(AB ρ z2).cells (Bc z2);have aj:r.cells.size=o:=by have:=zc.1;simp at this;omega
   have H:∀v∈(Builtin.zeroCells r.cells (N-L)).toList,v.oneCell'=true:=by
    intro v hv;have hm:=Gj ac zc;rw [Builtin.zeroCells] at hv;simp only [Array.toList_map,Array.toList_range,List.mem_map,List.mem_range] at hv;obtain ⟨i,hi,rfl⟩:=hv
    have I:0<r.cells.size:=by
     rcases Nat.eq_zero_or_pos r.cells.size with c|c
     ·rw [c] at hi;simp at hi
     ·exact c
    have ak:i%r.cells.size<r.cells.size:=Nat.mod_lt _ I;have:r.cells[i%r.cells.size]! = r.cells[i%r.cells.size]:=by simp [ak]
    rw [this];exact hm _ (by simp)
   have J:(Builtin.zeroCells r.cells (N-L)).toList.length=(N-L)*o:=by
    rw [Builtin.zeroCells,aj];simp
   have al:a.co+L*o+(N-L)*o≤g.size:=by
    have e1:L*o+(N-L)*o=N*o:=by rw [←Nat.add_mul];congr 1;omega
    have e2:N*o≤cap*o:=Nat.mul_le_mul_right _ (by omega)
    omega
   obtain ⟨C,f,r1,r2,r3,r4,r5,r6,r7,r8,r9⟩:=BP E.P a.cb (a.co+L*o) S T (Builtin.zeroCells r.cells (N-L)).toList 0 w g q2 (by rw [J];omega) (by rw [X];exact Y) H
   refine ⟨_,C,p,?_,?_⟩
   ·obtain ⟨m,hm⟩:=Nat.exists_eq_succ_of_ne_zero Q;rw [hm] at r1 ⊢;simp [Builtin.clear_,A,z1,r1]
   ·refine hr.put x (by rw [O];simp) _ C ?_ r5 r6 r7 r8 r9
    refine ⟨M,f,S,T,G,r2,by rw [r3,X],Y,rows q5 r3 fun j R=>?_⟩
    rw [Array.getD_eq_getD_getElem?,Array.getD_eq_getD_getElem?,r4 j,if_neg (by rw [←ab] at R;omega)]
end
end Go.AE
namespace Go.AE
variable [Gl:Ax]
variable [U:Unk]
theorem B0 {E:Env} {e:Ask→Aa→Option (Bool×AV×Aa)} {all:Array Oper} {nt:Nat}:∀(l:List Oper) (c:List Rc) (tmps:T AV) (h:Aa) (r:Option AV) (b:T AV) (h':Aa),
  Bt E e all nt l c tmps h=some (r,b,h')→h.nx≤h'.nx
 |[],c,tmps,h,r,b,h',a=>by
  simp only [Bt,Option.some.injEq,Prod.mk.injEq] at a;obtain ⟨_,_,rfl⟩:=a;exact Nat.le_refl _
 |o::rest,c,tmps,h,r,b,h',a=>by
  simp only [Bt] at a;split at a
  ·cases a
  ·split at a
   ·cases a
   ·rename_i d _;split at a
    ·cases a
    ·rename_i f j;have i:h.nx≤d.g.nx:=Nat.le_of_ble_eq_true f;split at a
     ·cases a
     ·split at a
      ·cases a
      ·have:=B0 rest _ _ _ _ _ _ a;exact Nat.le_trans i this
    ·rename_i f j;have i:h.nx≤d.g.nx:=Nat.le_of_ble_eq_true f;split at a
     ·simp only [Option.some.injEq,Prod.mk.injEq] at a;obtain ⟨_,_,rfl⟩:=a;exact i
     ·cases a
theorem K0 (n:Nat):∀(l:List Out) (r:List AS),Qb n l=some r→∀x∈l,∃s,x=.next s∧s∈r∧s.h.nx=n
 |[],r,h,x,a=>by cases a
 |y::l,r,h,x,a=>by
  cases y with
  |next s=>
   simp only [Qb] at h;split at h
   ·rename_i b c d;cases h;rcases List.mem_cons.1 a with rfl|a
    ·exact ⟨s,rfl,List.mem_cons_self,As c⟩
    ·obtain ⟨e,f,g,i⟩:=K0 n l b d x a;exact ⟨e,f,List.mem_cons_of_mem _ g,i⟩
   ·cases h
  |_=>cases h
theorem P6 (ok:Bool) (v:AV) (n:Nat):∀(l:List (Option (Bool×AV×Aa))),U9 ok v n l=true→∀x∈l,∃h',x=some (ok,v,h')∧h'.nx=n
 |[],_,x,a=>by cases a
 |none::l,h,x,a=>by cases h
 |some (b,g,h')::l,h,x,a=>by
  simp only [U9] at h;obtain ⟨h,a4⟩:=Ao h;obtain ⟨h,a3⟩:=Ao h;obtain ⟨c,d⟩:=Ao h;rcases List.mem_cons.1 a with rfl|a
  ·have e:=eq_of_beq c;have f:=Dm _ _ d;subst e;subst f;exact ⟨h',rfl,As a3⟩
  ·exact P6 ok v n l a4 x a
theorem JY (h:Aa):∀(n b:Nat),b<n→b∉LK h n→h.blk.get b=none
 |n+1,b,c,a=>by
  unfold LK at a;cases q:h.blk.get n with
  |none=>
   rw [q] at a;by_cases e:b=n
   ·subst e;exact q
   ·exact JY h n b (by omega) a
  |some y=>
   rw [q] at a;simp only [List.mem_cons,not_or] at a;exact JY h n b (by omega) a.2
theorem N4 {s:AS} {l:List (Option (Bool×AV×Aa))} {ok:Bool} {v:AV} {h:Aa} (a:TG s l=some (ok,v,h)) :
  h.blk=.nil∧h.log=LK s.h s.h.nx++s.h.log∧s.h.nx≤h.nx∧∀x∈l,∃h',x=some (ok,v,h')∧h'.nx=h.nx:=by
 unfold TG at a;split at a
 ·rename_i b g c r;split at a
  ·rename_i d;obtain ⟨e,f⟩:=Ao d;simp only [Option.some.injEq,Prod.mk.injEq] at a;obtain ⟨rfl,rfl,rfl⟩:=a;refine ⟨rfl,rfl,Nat.le_of_ble_eq_true f,fun x a=>?_⟩
   rcases List.mem_cons.1 a with rfl|a
   ·exact ⟨c,rfl,rfl⟩
   ·exact P6 _ _ _ r e x a
  ·cases a
 ·cases a
theorem UU {E:Env} (hE:OK E) {B:Ren} {s:AS} {c:Frame} {j:List Frame} {w:World} (a:SR B s c j w) {l:List AS} (g:SZ E s=some l) (base:List Frame) :
  ∃r∈l,r.h.nx=s.h.nx∧AG E.P base B s.h c j w w r:=by
 unfold SZ at g;split at g
 ·rename_i all o rest k t F;split at g
  ·rename_i G;split at g
   ·rename_i it m;split at g
    ·rename_i S u;have d:=a.fr.mode;rw [t] at d
     have C:c.mode=.run:=by
      generalize c.mode=x at d;cases d;rfl
     have f:=a.fr.todo;rw [F] at f;obtain ⟨i,H,T,e,I,D,V⟩:=f.ops_inv;have y:=Bg a.fr.tm G;have J:c.roundOf=none∨∀cl,o.op≠.defer cl:=.inr (fun cl q=>by rw [m] at q;cases q)
     obtain ⟨p,K,L,v,M,N,O,Q,R⟩:=Ju (E:=E) (ty:=o.type) a.h (a.fr.evR it) u;obtain ⟨r,z,n,A⟩:=K0 _ _ _ g _ (List.mem_map.2 ⟨p,K,rfl⟩);refine ⟨r,n,A,En (s:=execOp c.eval o) hE (by rw [CQ C e I y J]) ?_ a.h a.fr a.cs C z (fun b W X=>by omega)⟩
     intro Y;exact ⟨L,v,M,.inl (by simp [execOp,m,N]),O,Q,R⟩
    ·cases g
   ·cases g
  ·cases g
 ·cases g
theorem BG {E:Env}:∀(f:Nat) (b:FuncId) (c:Bool) (s:AS) (ok:Bool) (v:AV) (h:Aa),ES E f b c s=some (ok,v,h)→s.h.nx≤h.nx
 |0,b,c,s,ok,v,h,a=>by cases a
 |f+1,b,c,s,ok,v,h,a=>by
  simp only [ES] at a;split at a
  ·split at a
   ·rename_i d;exact Nat.le_trans (Nat.le_of_ble_eq_true d) (BG f b c _ ok v h a)
   ·cases a
  split at a
  ·split at a
   ·rename_i d;exact Nat.le_trans (Nat.le_of_ble_eq_true d) (BG f b c _ ok v h a)
   ·cases a
  ·split at a
   ·rename_i d;simp only [Option.some.injEq,Prod.mk.injEq] at a;obtain ⟨_,_,rfl⟩:=a;exact Nat.le_of_ble_eq_true (Ao (Ao d).1).1
   ·cases a
  ·rename_i i ops k e;obtain ⟨rfl,_,_⟩:=Cf e;split at a
   ·rename_i g;exact Nat.le_trans (B0 _ _ _ _ _ _ _ g) (BG f b c _ ok v h a)
   ·rename_i g;exact Nat.le_trans (B0 _ _ _ _ _ _ _ g) (BG f b c _ ok v h a)
   ·cases a
  ·split at a
   ·split at a
    ·rename_i d;exact Nat.le_trans (Nat.le_of_ble_eq_true d) (BG f b c _ ok v h a)
    ·cases a
   ·split at a
    ·exact (N4 a).2.2.1
    ·cases a
section
variable {E:Env} (hE:OK E) {callF:Ask→Aa→Option (Bool×AV×Aa)} {ρ:Ren} {h:Aa} {w:World} {c:Frame} {ccs base:List Frame} {s:AS}
def Us (s:AS) (r:Option AV) (tmps:T AV) (k:List AI) (h:Aa):AS:=
 match r with
 |none=>{s with fr:={s.fr with tmps,todo:=k},h}
 |some v=>{s with fr:={s.fr with tmps,todo:=.dead::k,mode:=.panic [(v,false)]},h}
theorem Pd {k:Ren} {h g:Aa} {w m:World} (hwf:WF h) (d:h.nx≤g.nx) (t:HR k g.blk.get m) (f:Ext ρ k (part h none) g w m):HR k (AN h g).blk.get m∧Ext ρ k h (AN h g) w m:=by
 obtain ⟨l,n,o⟩:=f.log;have i:g.log=l:=by rw [n];exact List.append_nil l
 refine ⟨t.weaken fun b x _ a=>?_,⟨f.le,d,f.new,f.calm,f.kept,⟨Bq h.nx g.log,rfl,fun b p u=>Ce d p u⟩,fun b p=>Fp hwf d p,f.imm⟩⟩
 by_cases r:b<h.nx
 ·by_cases j:b∈Bq h.nx g.log
  ·rcases FH j with q|⟨_,q⟩
   ·rw [q] at a;cases a
   ·rw [←q];exact a
  ·rw [Ce d j (.inl r)] at a;rw [o b (fun e=>j (BZ.2 ⟨by rw [i];exact e,r⟩)) (.inl r)]
   exact a
 ·by_cases j:b<g.nx
  ·rw [Gp hwf d (by omega) j] at a;exact a
  ·rw [FP hwf d b (by show g.nx≤b;omega)] at a;cases a
include hE
theorem EO (hF:Dx E callF) (e:SR ρ s c ccs w) (hwf:WF s.h) (hm:s.fr.mode=.run) {id:Nat} {ops:Array Oper} {k:List AI} (ht:s.fr.todo=.code (.region id ops true)::k) {r:Option AV} {tmps:T AV}
  (hd:Bt E callF ops s.fr.nt ops.toList [] s.fr.tmps s.h=some (r,tmps,h)) (f:AA ρ s.h.nx h.nx) (base:List Frame) :
  ∃J c' w',Steps E.P (lone c (ccs++base) w) (lone c' (ccs++base) w')∧SR J (Us s r tmps k h) c' ccs w'∧
   Ext ρ J s.h h w w':=by
 have l:=e.fr.mode;rw [hm] at l
 have z:c.mode=.run:=by
  generalize c.mode=x at l;cases l;rfl
 have m:=e.fr.todo;rw [ht] at m;generalize ab:c.todo=td at m;cases m with|cons a hk=>
 rename_i L;cases a;obtain ⟨H,O,R,Q,n,q1,S,q3,q4,V,W⟩:=G7 _ _ _ _ _ _ _ hd;simp only [List.length_nil,Nat.zero_add] at S q3 q4 V W;have X:BN E callF ops s.fr.nt H O R Q n:=⟨fun j hj=>by obtain ⟨o,C,h2⟩:=q4 j hj;exact ⟨o,by simpa using C,h2⟩,by rw [S];exact hwf⟩
 have p:AA ρ (H 0).nx h.nx:=by rw [S];exact f
 have ac:n≤ops.size:=by
  cases hr:r with
  |none=>have:=(V hr).1;simp at this;omega
  |some v=>
   obtain ⟨o,C,_⟩:=W v hr;have:=(List.getElem?_eq_some_iff.1 C).1;simp at this;omega
 have hM:(H n).nx≤h.nx:=by
  cases hr:r with
  |none=>rw [(V hr).2.2];exact Nat.le_refl _
  |some v=>
   obtain ⟨o,C,b,e1,e2,M⟩:=W v hr;rw [M];exact b.tx.nx
 have Y:n<ops.size→∃o,ops[n]?=some o∧Bad E callF ops H O R Q n o (ops.toList.drop (n+1)):=by
  intro hn;cases hr:r with
  |none=>have:=(V hr).1;simp at this;omega
  |some v=>
   obtain ⟨o,C,b,_⟩:=W v hr;exact ⟨o,by simpa using C,b⟩
 have A:=UR (P:=E.P) (cs:=ccs++base) (w:=w) z ab;rw [hE.mixed] at A;have D:∀t,Region.schedule true ops t=Region.linearise.go .any ops ops.size t (Array.replicate ops.size false) []:=fun t=>rfl
 rw [D] at A;generalize ad:w.tape w.drawn (.order c.fn id)=t at A
 have ae:∀i,(Array.replicate ops.size false).getD i false=false:=by
  intro i;rw [Array.getD_eq_getD_getElem?,Array.getElem?_replicate];split<;>rfl
 have Z:TR ρ s.fr.nt (O 0) c.tmps:=by rw [q3];exact e.fr.tm
 have af:HR ρ (H 0).blk.get {w with drawn:=w.drawn+1}:=by rw [S];exact e.h.same rfl
 have I0:Inv s.fr.nt H O R n h.nx ρ {w with drawn:=w.drawn+1} (fun i=>(Array.replicate ops.size false).getD i false) ρ c.tmps {w with drawn:=w.drawn+1}:=Ab9 Z af p ae
 obtain ⟨rest,J,B,w1,D',r1,r2,r3,r4,r5⟩:=X.sched hE hF (cs:=ccs++base) (k:=L) hM p ac Y ops.size t (Array.replicate ops.size false) ρ {w with drawn:=w.drawn+1}
  {c with todo:=.inRegion ops (Region.linearise.go .any ops ops.size t (Array.replicate ops.size false) [])::L} z rfl (by simp) (by omega) I0
 obtain ⟨f1,f2,f3⟩:=X.final r1 r2;rw [S] at f3;have d:Ext ρ J s.h (H n) w w1:=f3.drawn rfl rfl rfl rfl;have u:=e.fr.mono d.le;cases hr:r with
 |none=>
  obtain ⟨e1,e2,M⟩:=V hr;have hn:n=ops.size:=by simpa using e1
  rw [r4 hn] at r3;subst e2;subst M;refine ⟨J,{c with tmps:=B,todo:=L},w1,Steps.head A (Steps.trans r3 (Steps.one (HC z rfl))),⟨⟨u.fn,f1,hk.mono d.le,u.defers,u.mode,u.kind,u.round⟩,e.cs.mono d.le,f2⟩,d⟩
 |some v=>
  obtain ⟨o,C,b,e1,e2,M⟩:=W v hr
  have hn:n<ops.size:=by
   have:=(List.getElem?_eq_some_iff.1 C).1;simpa using this
  obtain ⟨rr,ag⟩:=r5 hn;rw [ag] at r3;have aa:=Pz b.tx.did b.ok;have K:HR J (part (H n) (Q n).fp).blk.get w1:=by rw [aa];exact f2
  have F:TR J s.fr.nt (AO (O n) (A4 ops o)) B:=⟨f1.size,fun t x hx=>by
   obtain ⟨_,y,hy,rfl⟩:=CZ _ _ _ _ hx;exact LY (f1.get t y hy)⟩
  have ah:h.nx=(Q n).g.nx:=by rw [M];rfl
  have G:AA J (H n).nx (Q n).g.nx:=by rw [←ah];exact d.free f
  obtain ⟨τ,v',w2,p1,p2,p3,p4⟩:=LP hE hF (cs:=ccs++base) (c:={c with tmps:=B,todo:=.inRegion ops (n::rr)::L}) b.tx.did (X.wfAt (Nat.le_refl _)) z rfl (by simpa using C) F K G
  rw [b.ok] at p1;rw [aa] at p4;obtain ⟨m1,N⟩:=Pd (X.wfAt (Nat.le_refl _)) b.tx.nx p3 p4;rw [←M] at m1 N;have q:=u.mono N.le;subst e1;subst e2
  have I:({c with tmps:=B,todo:=.inRegion ops (n::rr)::L}:Frame).raise [{v:=v',recovered:=false}]={c with tmps:=B,todo:=.inRegion ops (n::rr)::L,mode:=.panicking [{v:=v',recovered:=false}]}:=by
   simp [Frame.raise,z]
  simp only [BM] at p1;rw [I] at p1;exact ⟨τ,_,w2,Steps.head A (Steps.trans r3 p1),⟨⟨q.fn,f1.mono N.le,.cons (.dead _ _) ((hk.mono d.le).mono N.le),q.defers,.panic _ _ ⟨p2,rfl,rfl,trivial⟩,q.kind,q.round⟩,(e.cs.mono d.le).mono N.le,m1⟩,d.trans N f⟩
end
end Go.AE
namespace Go.AE
variable [Gl:Ax]
theorem EV:∀{a b:T Ab},NR a b=true→∀i x,a.get i=some x→b.get i=some x
 |.nil,_,_,i,x,c=>by simp [T.get_nil] at c
 |.node v l r,.nil,h,_,_,_=>by simp [NR] at h
 |.node v l r,.node e j k,h,i,x,c=>by
  simp only [NR,Bool.and_eq_true] at h;obtain ⟨⟨d,f⟩,g⟩:=h;simp only [T.get_eq,T.get0] at c ⊢;split at c
  ·subst c;simp only at d;cases e with
   |none=>simp at d
   |some y=>rw [JK d]
  ·split at c
   ·rw [←T.get_eq] at c ⊢;exact EV f _ _ c
   ·rw [←T.get_eq] at c ⊢;exact EV g _ _ c
theorem QL {b:Nat}:∀{l:List Nat},Gt b l=true→b∈l
 |[],h=>by simp [Gt] at h
 |c::r,h=>by
  simp only [Gt,Bool.or_eq_true] at h;rcases h with h|h
  ·rw [Nat.eq_of_beq_eq_true h];simp
  ·simp [QL h]
theorem M2 {nx:Nat} {wr:List Nat}:∀{l:List Nat},TI nx wr l=true→∀b∈l,b<nx→b∈wr
 |[],_,b,a,_=>by cases a
 |c::r,h,b,a,d=>by
  simp only [TI,Bool.and_eq_true,Bool.or_eq_true] at h;simp only [List.mem_cons] at a;rcases a with rfl|a
  ·rcases h.1 with e|e
   ·have:=Nat.le_of_ble_eq_true e;omega
   ·exact QL e
  ·exact M2 h.2 b a d
def Orc.Valid (P:Program) (F:Nat→D→D) (e:Orc):Prop:=
 ∀[U:Unk],U.K=(Env.of P).kinds→U.V.fn=F→∀(ρ:Ren) (w:World) (i:List Value),VL ρ e.args i→HR ρ e.part.get w→WF {blk:=e.part,nx:=e.nx,log:=[]}→AA ρ e.nx e.nx'→
  ∀(c0:Frame) (j:List Frame),∃l t r g,BM P (lone (Frame.enter P e.f i.toArray .normal) (c0::j) w) c0 j e.ok t r∧VR l e.v t∧HR l g.blk.get r∧
   Ext ρ l {blk:=e.part,nx:=e.nx,log:=[]} g w r∧(∀b x,e.out.get b=some x→g.blk.get b=some x)∧g.nx=e.nx'∧(∀b∈g.log,b<e.nx→b∈e.wr)
structure Ad (E:Env) (F:Nat→D→D):Prop where
 orc:∀e∈E.orc,e.Valid E.P F
 sms:∀s∈E.sms,s.Valid E.P F
variable [U:Unk]
theorem Pp {L E:Ren} {h g:Aa} {w w':World} {p out:T Ab} {nx':Nat} {wr:List Nat} (hr:HR L h.blk.get w) (hwf:WF h) (B:∀b x,p.get b=some x→h.blk.get b=some x)
  (F:AA L h.nx nx') (M:HR E g.blk.get w') (r:Ext L E {blk:=p,nx:=h.nx,log:=[]} g w w') (ho:∀b x,out.get b=some x→g.blk.get b=some x) (hn:g.nx=nx') (hl:∀b∈g.log,b<h.nx→b∈wr) :
  HR E (AN h {blk:=out,nx:=nx',log:=wr}).blk.get w'∧Ext L E h (AN h {blk:=out,nx:=nx',log:=wr}) w w':=by
 have s:h.nx≤nx':=by have:=r.nx;rw [hn] at this;exact this
 have t:∀b,p.get b≠none→h.blk.get b≠none:=by
  intro b f;cases u:p.get b with
  |none=>exact absurd u f
  |some x=>rw [B b x u];exact Option.some_ne_none _
 have v:∀b x,(AN h {blk:=out,nx:=nx',log:=wr}).blk.get b=some x→g.blk.get b=some x∨(b<h.nx∧p.get b=none∧h.blk.get b=some x):=by
  intro b x i;by_cases G:b<h.nx
  ·by_cases H:b∈Bq h.nx wr
   ·rcases FH (h:=h) (g:={blk:=out,nx:=nx',log:=wr}) H with q|⟨_,q⟩
    ·rw [q] at i;cases i
    ·rw [q] at i;exact .inl (ho b x i)
   ·rw [Ce (h:=h) (g:={blk:=out,nx:=nx',log:=wr}) s H (.inl G)] at i;cases u:p.get b with
    |none=>exact .inr ⟨G,rfl,i⟩
    |some y=>
     have e:=B b y u;rw [i] at e;cases e;obtain ⟨l,aa,ab⟩:=r.log;have O:g.log=l:=by rw [aa];exact List.append_nil l
     refine .inl ((ab b (fun e=>H (BZ.2 ⟨hl b (by rw [O];exact e) G,G⟩)) (.inl G)).trans u)
  ·by_cases H:b<nx'
   ·rw [Gp (h:=h) (g:={blk:=out,nx:=nx',log:=wr}) hwf s (by omega) H] at i
    exact .inl (ho b x i)
   ·rw [FP (h:=h) (g:={blk:=out,nx:=nx',log:=wr}) hwf s b (by show nx'≤b;omega)] at i;cases i
 have old:∀b a,E b=some a→b<h.nx→L b=some a:=by
  intro b a f A;rcases r.new b a f with e|⟨e,_⟩
  ·exact e
  ·exact absurd e (by show ¬h.nx≤b;omega)
 have LR:∀b j a c x I,E b=some a→E j=some c→g.blk.get b=some x→j<h.nx→p.get j=none→h.blk.get j=some I→a.cb≠c.cb:=by
  intro b j a c x I f m i A u z;have C:=old j c m A;have P:h.blk.get j≠none:=by rw [z];exact Option.some_ne_none _
  have Q:∀n d,L n=some d→p.get n≠none→d.cb≠c.cb:=fun n d h0 R=>
   hr.apart n j d c (fun e=>by subst e;exact R u) h0 C (t n R) P
  rcases r.new b a f with e|⟨_,_,e⟩
  ·rcases r.live b (by rw [i];exact Option.some_ne_none _) with l|⟨l1,l2⟩
   ·exact Q b a e l
   ·have:=F b l1 (by rw [←hn];exact l2)
    rw [this] at e;cases e
  ·rcases e with e|⟨n,d,S,N,V⟩
   ·have:=hr.lt j c C;omega
   ·rw [←V];exact Q n d S N
 refine ⟨⟨M.lt,fun b a x f i=>?_,fun b j a c W f m G H=>?_,M.imm,fun k arr b a D f hl=>?_,M.glob⟩,⟨r.le,s,fun b a f=>?_,r.calm,fun k D ac=>r.kept k D (fun b a f u=>ac b a f (t b u)),⟨Bq h.nx wr,rfl,fun b f ho=>Ce (h:=h) (g:={blk:=out,nx:=nx',log:=wr}) s f ho⟩,fun b f=>Fp (h:=h) (g:={blk:=out,nx:=nx',log:=wr}) hwf s f,fun k arr D=>(r.imm k arr D).imp id (fun e=>e.imp id (fun ⟨n,d,x1,x2,x3⟩=>⟨n,d,x1,t n x2,x3⟩))⟩⟩
 ·rcases v b x i with q|⟨A,u,hh⟩
  ·exact M.blk b a x f q
  ·have o:=old b a f A;have D:=r.kept a.cb (hr.lt b a o) (fun j c m X=>hr.apart j b c a (fun e=>by subst e;exact X u) m o (t j X) (by rw [hh];exact Option.some_ne_none _))
   rw [D];exact (hr.blk b a x o hh).mono r.le
 ·cases i:(AN h {blk:=out,nx:=nx',log:=wr}).blk.get b with
  |none=>exact absurd i G
  |some x=>
   cases z:(AN h {blk:=out,nx:=nx',log:=wr}).blk.get j with
   |none=>exact absurd z H
   |some I=>
    rcases v b x i with q|⟨a1,a2,a3⟩
    ·rcases v j I z with q'|⟨J,Y,K⟩
     ·exact M.apart b j a c W f m (by rw [q];exact Option.some_ne_none _) (by rw [q'];exact Option.some_ne_none _)
     ·exact LR b j a c x I f m q J Y K
    ·rcases v j I z with q'|⟨J,Y,K⟩
     ·exact fun e=>LR j b c a I x m f q' a1 a2 a3 e.symm
     ·exact hr.apart b j a c W (old b a f a1) (old j c m J) (by rw [a3];exact Option.some_ne_none _) (by rw [K];exact Option.some_ne_none _)
 ·cases i:(AN h {blk:=out,nx:=nx',log:=wr}).blk.get b with
  |none=>exact absurd i hl
  |some x=>
   rcases v b x i with q|⟨a1,a2,a3⟩
   ·exact M.off k arr b a D f (by rw [q];exact Option.some_ne_none _)
   ·have o:=old b a f a1;have Z:h.blk.get b≠none:=by rw [a3];exact Option.some_ne_none _
    rcases r.imm k arr D with e|e|⟨n,d,S,N,V⟩
    ·exact hr.off k arr b a e o Z
    ·have:=hr.lt b a o;omega
    ·rw [←V];exact (hr.apart n b d a (fun e=>by subst e;exact N a2) S o (t n N) Z).symm
 ·rcases r.new b a f with e|⟨S,N,V⟩
  ·exact .inl e
  ·exact .inr ⟨S,by show b<nx';rw [←hn];exact N,V.imp id (fun ⟨n,d,x1,x2,x3⟩=>⟨n,d,x1,t n x2,x3⟩)⟩
theorem Ext.skip {ρ t:Ren} {h g:Aa} {n:Nat} {w C:World} (j:h.nx≤n) (q:Ext ρ t {h with nx:=n} g w C):Ext ρ t h g w C:=by
 obtain ⟨l,I,r⟩:=q.log;have J:n≤g.nx:=q.nx;exact ⟨q.le,Nat.le_trans j J,fun b base i=>(q.new b base i).imp id (fun ⟨a,c,d⟩=>⟨Nat.le_trans j a,c,d⟩),q.calm,q.kept,⟨l,I,fun b i ho=>r b i (ho.imp (fun x=>Nat.lt_of_lt_of_le x j) id)⟩,fun b i=>(q.live b i).imp id (fun ⟨a,c⟩=>⟨Nat.le_trans j a,c⟩),q.imm⟩
theorem MT {P:Program} {F:Nat→D→D} (B:U.V.fn=F) {f:FuncId} {args:List AV} {a:List Value} {h g:Aa} {ok:Bool} {v:AV} {o:Ren} {w:World}:∀{l:List Orc},(∀e∈l,e.Valid P F)→U.K=(Env.of P).kinds→K9 l f args h=some (ok,v,g)→VL o args a→HR o h.blk.get w→WF h→AA o h.nx g.nx→
  ∀(c0:Frame) (c:List Frame),∃s u t,BM P (lone (Frame.enter P f a.toArray .normal) (c0::c) w) c0 c ok u t∧VR s v u∧HR s g.blk.get t∧Ext o s h g w t
 |[],_,_,k,_,_,_,_=>by simp [K9] at k
 |e::r,hO,hK,k,C,hr,hwf,i=>by
  simp only [K9] at k;split at k
  ·rename_i p;simp only [Bool.and_eq_true] at p;obtain ⟨⟨⟨y,m⟩,E⟩,z⟩:=p;have G:=Nat.eq_of_beq_eq_true y
   have A:h.nx≤e.nx:=by
    simp only [Bool.or_eq_true,Bool.and_eq_true] at m;rcases m with m|m
    ·exact Nat.le_of_eq (Nat.eq_of_beq_eq_true m).symm
    ·exact Nat.le_of_ble_eq_true m.2
   have H:=Ei _ _ E;subst G;subst H;cases k;intro c0 c;have j:AA o h.nx e.nx':=i;have d:AA o e.nx e.nx':=fun b y m=>j b (Nat.le_trans A y) m
   have n:WF {h with nx:=e.nx}:=fun b p=>hwf b (Nat.le_trans A p)
   obtain ⟨s,u,t,S,I,J,a3,a4,a5,L,M⟩:=hO e (by simp) hK B o w a C (hr.weaken (fun b x _ k=>EV z b x k)) (fun b p=>by
    show e.part.get b=none;cases N:e.part.get b with
    |none=>rfl
    |some x=>
     have q:=EV z b x N;rw [n b p] at q;cases q) d c0 c
   obtain ⟨O,Q⟩:=Pp (h:={h with nx:=e.nx}) hr n (EV z) d a3 a4 a5 L M
   exact ⟨s,u,t,I,J,O,Q.skip A⟩
  ·exact MT B (fun e R=>hO e (by simp [R])) hK k C hr hwf i
section
variable {E:Env} (hE:OK E) (hO:Ad E U.V.fn) {ρ:Ren} {w:World} {c:Frame} {ccs:List Frame} {s s':AS}
include hE hO
omit hE hO in
theorem Wm {x:AV} {v:Value} (hx:VR ρ x v):VR ρ (UC x) v:=by
 unfold UC;split
 ·rename_i x;split
  ·rename_i l b hl;have h:=Mt U.ok hl;rw [HS] at h;unfold strEq at h;simp only [Bool.and_eq_true] at h;have h1:=Nat.eq_of_beq_eq_true h.1;have h2:=Nat.eq_of_beq_eq_true h.2;cases hx;rw [←h1,←h2];exact .str _
  ·exact hx
 ·exact hx
omit hE hO in
theorem Tc {l:List AV} {l':List Value} (h:VL ρ l l'):VL ρ (l.map UC) l':=by
 refine ⟨by simp [h.1],fun i a v ha hv=>?_⟩
 rw [List.getElem?_map] at ha;cases hl:l[i]? with
 |none=>rw [hl] at ha;cases ha
 |some x=>rw [hl] at ha;cases ha;exact Wm (h.2 i x v hl hv)
theorem DC {f:FuncId} {args:List AV} {j:List Value} {h g:Aa} {ok:Bool} {v:AV} (hx:Io E f args h=some (ok,v,g)) (ha:VL ρ args j) (hr:HR ρ h.blk.get w) (hwf:WF h) (d:AA ρ h.nx g.nx) :
  ∀(c0:Frame) (base:List Frame),∃m q n,BM E.P (lone (Frame.enter E.P f j.toArray .normal) (c0::base) w) c0 base ok q n∧VR m v q∧HR m g.blk.get n∧Ext ρ m h g w n:=by
 unfold Io at hx;split at hx
 ·rename_i l hl;have t:=hE.ox _ _ hl;split at hx
  ·rename_i r o;cases hx;exact MT rfl (fun e p=>hO.orc e (t e p)) hE.kd o ha hr hwf d
  ·split at hx
   ·rename_i u k;cases hx;split at k
    ·exact MT rfl (fun e p=>hO.orc e (t e p)) hE.kd k (Tc ha) hr hwf d
    ·cases k
   ·split at hx
    ·rename_i u k;cases hx;exact Hh hE rfl hO.sms k ha hr hwf d
    ·cases hx
 ·split at hx
  ·rename_i u k;cases hx;exact Hh hE rfl hO.sms k ha hr hwf d
  ·cases hx
omit hE hO in
theorem T1 {h:Aa} {a:AV} {v:Value} (ha:VR ρ a v):VR ρ (P2 h a) v:=by
 unfold P2;split
 ·rename_i b n es;split
  ·cases ha with
   |slice _ _ _ _ cap base hb hc hz=>exact .asl b es (.c n) (.bc false) cap base hb (Int.natCast_nonneg _) (by simpa [Ag,Af,D.toInt] using hc) (by omega) rfl
   |sliceEnd _ _ _ a=>exact .aslEnd b es (.c (0:Nat)) (.bc false) (some a) rfl rfl
  ·exact ha
 ·exact ha
omit hE hO in
theorem Jf {h:Aa} {f:AF} {c:Frame} (hf:FrR ρ f c):FrR ρ (QX h f) c:=by
 unfold QX;split
 ·refine ⟨hf.fn,⟨hf.tm.size,fun i x hx=>?_⟩,hf.todo,hf.defers,hf.mode,hf.kind,hf.round⟩
  have hx:(f.tmps.mapA (P2 h)).get i=some x:=hx;rw [T.get_mapA] at hx;cases hg:f.tmps.get i with
  |none=>rw [hg] at hx;cases hx
  |some y=>
   rw [hg] at hx;cases hx;exact T1 (hf.tm.get i y hg)
 ·exact hf
omit hO in
theorem Tb (hsr:SR ρ s c ccs w) (hm:s.fr.mode=.run) {all:Array Oper} {o:Oper} {r:List Oper} {k:List AI} (ht:s.fr.todo=.ops all (o::r)::k) (hx:T7 E s all o r=some s') (base:List Frame) :
  ∃σ c' ccs' w',Steps E.P (lone c (ccs++base) w) (lone c' (ccs'++base) w')∧SR σ s' c' ccs' w'∧Ext ρ σ s.h s'.h w w':=by
 unfold T7 at hx;split at hx
 ·rename_i t x lo o2 r2 d hop hdst;split at hx
  ·rename_i cc hop2;split at hx
   ·rename_i t1 d' hcal hats hargs;split at hx
    ·rename_i b es n nl kd l hex hel;split at hx
     ·rename_i e e1 e2 y hd hd1 hb;split at hx
      ·rename_i z ks hz hk;split at hx
       ·rename_i hc;split at hx
        ·rename_i fr1 hw1 hf1;split at hx
         ·rename_i fr2 hw2 hf2;cases hx;obtain ⟨c1,hc⟩:=Ao hc;obtain ⟨c2,hc⟩:=Ao hc;obtain ⟨c3,hc⟩:=Ao hc;obtain ⟨c4,hc⟩:=Ao hc;obtain ⟨c5,hc⟩:=Ao hc;obtain ⟨c6,hc⟩:=Ao hc;obtain ⟨c7,hc⟩:=Ao hc;obtain ⟨c8,c9⟩:=Ao hc;have q1:=As c1;have q2:=As c2;have q3:=As c3;subst q1 q2 q3;have htodo:=hsr.fr.todo;rw [ht] at htodo;obtain ⟨i,idx,k',ee,ho,hm',hkk⟩:=htodo.ops_inv;have hmode:=hsr.fr.mode;rw [hm] at hmode
          have hcm:c.mode=.run:=by
           generalize c.mode=x at hmode;cases hmode;rfl
          have ht':=hsr.fr.tm
          have hev:EvR ρ s.fr.tmps c.eval:=by
           intro x;have:=Hs ht' x;cases x<;>exact this
          have hvx:=hev x;rw [hex] at hvx;have hvl:=Cj (hev lo) hel;obtain ⟨v,w',r1,r2',r3,r4⟩:=Wf hE hsr.h (ty:=o2.type) hd hd1 hz hk (As c4) (As c5) c6 hvx hb c7 c8 hvl c9;have hnd:∀cl,o.op≠.defer cl:=by intro cl e;rw [hop] at e;cases e
          have hnd2:∀cl,o2.op≠.defer cl:=by intro cl e;rw [hop2] at e;cases e
          have st1:step E.P (lone c (ccs++base) w)=.next (lone (c.finish v) (ccs++base) w):=PW hcm ee ho (Bg ht' hw1) (.inr hnd) (.inl (by simp [execOp,hop,r1]))
          have fr1ok:=Bs hsr.fr hf1 (VR.top v)
          have ef:c.finish v={c with tmps:=Hf c.tmps o.dst v,todo:=.inRegion all idx::k'}:=by
           simp only [Frame.finish,ee,ho,Option.bind_some,Hf];cases o.dst<;>rfl
          have fm:fr1.mode=.run∧fr1.todo=.ops all (o2::r2)::k∧d<s.fr.nt:=by
           unfold AT at hf1;rw [ht] at hf1;simp only [hdst,DE] at hf1;split at hf1
           ·rename_i t' hp;cases hf1;split at hp
            ·rename_i hlt;exact ⟨hm,rfl,F1 hlt⟩
            ·cases hp
           ·cases hf1
          obtain ⟨fm1,fm2,fm3⟩:=fm;have htodo2:=fr1ok.todo;rw [fm2] at htodo2;obtain ⟨i2,idx2,k2',ee2,ho2,_,_⟩:=htodo2.ops_inv;have hcm2:(c.finish v).mode=.run:=by rw [ef];exact hcm
          have hev2:(c.finish v).eval (.tmp d)=v:=by
           show (c.finish v).tmps.getD d Go.undef=v;rw [ef];show (Hf c.tmps o.dst v).getD d Go.undef=v;rw [hdst];have:d<c.tmps.size:=by rw [ht'.size];exact fm3
           simp [Hf,Array.getD_eq_getD_getElem?,this]
          have hrun2:(execOp (c.finish v).eval o2).run E.P w=.ok (.value (.tuple #[])) w':=by
           have a1:cc.argTypes = #[t1]:=by rw [←Array.toList_inj];exact hats
           have hmap:(cc.args.map (c.finish v).eval)=(cc.args.toList.map (c.finish v).eval).toArray:=by apply Array.ext';simp
           have ex:∃cs,execOp (c.finish v).eval o2=builtin .clear cc.argTypes o2.type cs (cc.args.toList.map (c.finish v).eval).toArray:=
            ⟨_,by unfold execOp;rw [hop2];simp only [resolve,hcal,pure_bind,invoke,hmap];rfl⟩
           obtain ⟨cs,ex⟩:=ex;rw [ex,a1,hargs];simp only [List.map_cons,List.map_nil,hev2];simp [builtin,r2']
          have st2:step E.P (lone (c.finish v) (ccs++base) w)=.next (lone ((c.finish v).finish (.tuple #[])) (ccs++base) w'):=PW hcm2 ee2 ho2 (Bg fr1ok.tm hw2) (.inr hnd2) (.inl hrun2);have fr2ok:=Bs fr1ok hf2 (VR.top (.tuple #[]));exact ⟨ρ,(c.finish v).finish (.tuple #[]),ccs,w',Steps.head st1 (Steps.one st2),⟨fr2ok,hsr.cs,r3⟩,r4⟩
         ·cases hx
        ·cases hx
       ·cases hx
      ·cases hx
     ·cases hx
    ·cases hx
   ·cases hx
  ·cases hx
 ·cases hx
omit hE hO in
theorem N1 {fr:AF} {c:Frame} {v:AV} {v':Value} (hf:FrR ρ fr c) (hm:c.mode=.run) (hv:VR ρ v v'):FrR ρ {fr with mode:=.panic [(v,false)]} (c.raise [{v:=v',recovered:=false}]):=by
 have e:c.raise [{v:=v',recovered:=false}]={c with mode:=.panicking [{v:=v',recovered:=false}]}:=by simp [Frame.raise,hm]
 rw [e];exact ⟨hf.fn,hf.tm,hf.todo,hf.defers,.panic _ _ ⟨hv,rfl,rfl,trivial⟩,hf.kind,hf.round⟩
omit hE hO in
theorem Jt {f:Operand} {params:List Tmp} {assign body:Code} {k:List AI} {g:FuncId} {args:List AV} {h3:Aa} {fr':AF} (hx:Do E s f params assign body k=some (g,args,h3,fr')):fr'.mode=s.fr.mode:=by
 unfold Do at hx;split at hx
 ·split at hx
  ·split at hx
   ·cases hx;rfl
   ·cases hx
  ·cases hx
 ·cases hx
theorem Ui (hsr:SR ρ s c ccs w) (hwf:WF s.h) (hx:TL E s=some s') (j:AA ρ s.h.nx s'.h.nx) (base:List Frame) :
  ∃σ c' ccs' w',Steps E.P (lone c (ccs++base) w) (lone c' (ccs'++base) w')∧SR σ s' c' ccs' w'∧Ext ρ σ s.h s'.h w w':=by
 unfold TL at hx;split at hx
 ·cases hx
 ·split at hx
  ·rename_i hm;split at hx
   ·rename_i all o r k ht;split at hx
    ·rename_i W L;cases hx;exact Tb hE hsr hm ht L base
    split at hx
    ·rename_i R;split at hx
     ·rename_i S;split at hx
      ·rename_i g args h1 hop;split at hx
       ·rename_i v h2 m;split at hx
        ·rename_i fr u;cases hx;have htodo:=hsr.fr.todo;rw [ht] at htodo;obtain ⟨i,idx,k',e,ho,hm',hk⟩:=htodo.ops_inv;have hmode:=hsr.fr.mode;rw [hm] at hmode
         have hcm:c.mode=.run:=by
          generalize c.mode=x at hmode;cases hmode;rfl
         have ht':=hsr.fr.tm
         have hev:EvR ρ s.fr.tmps c.eval:=by
          intro x;have:=Hs ht' x;cases x<;>exact this
         have p:=Ia hE hsr.h hev o;rw [hop] at p;obtain ⟨rfl,q,ha,A⟩:=p
         have hnd:∀cl,o.op≠.defer cl:=by
          intro cl e;rw [e] at hop;simp only [aop] at hop;rcases C0 s.fr.tmps cl s.h with ⟨d,K⟩|⟨y,K⟩<;>(rw [K] at hop;cases hop)
         obtain ⟨σ,v',w',q1,q2,q3,B⟩:=DC hE hO m ha hsr.h hwf j c (ccs++base);have G:=Kb (cs:=ccs++base) (P:=E.P) hcm e ho (Bg ht' S) (.inr hnd) A;exact ⟨σ,c.finish v',ccs,w',Steps.head G q1,⟨Jf (Bs (hsr.fr.mono B.le) u q2),hsr.cs.mono B.le,q3⟩,B⟩
        ·cases hx
       ·rename_i v h2 m;cases hx;have htodo:=hsr.fr.todo;rw [ht] at htodo;obtain ⟨i,idx,k',e,ho,hm',hk⟩:=htodo.ops_inv;have hmode:=hsr.fr.mode;rw [hm] at hmode
        have hcm:c.mode=.run:=by
         generalize c.mode=x at hmode;cases hmode;rfl
        have ht':=hsr.fr.tm
        have hev:EvR ρ s.fr.tmps c.eval:=by
         intro x;have:=Hs ht' x;cases x<;>exact this
        have p:=Ia hE hsr.h hev o;rw [hop] at p;obtain ⟨rfl,q,ha,A⟩:=p
        have hnd:∀cl,o.op≠.defer cl:=by
         intro cl e;rw [e] at hop;simp only [aop] at hop;rcases C0 s.fr.tmps cl s.h with ⟨d,K⟩|⟨y,K⟩<;>(rw [K] at hop;cases hop)
        obtain ⟨σ,v',w',q1,q2,q3,B⟩:=DC hE hO m ha hsr.h hwf j c (ccs++base);have G:=Kb (cs:=ccs++base) (P:=E.P) hcm e ho (Bg ht' S) (.inr hnd) A;exact ⟨σ,c.raise [{v:=v',recovered:=false}],ccs,w',Steps.head G q1,⟨Jf (N1 (hsr.fr.mono B.le) hcm q2),hsr.cs.mono B.le,q3⟩,B⟩
       ·cases hx
      ·cases hx
     ·cases hx
    ·cases hx
   ·
    rename_i Z params assign body k ht;split at hx
    ·rename_i g args h3 fr' H;split at hx
     ·rename_i v h2 m;split at hx
      ·rename_i fr C u;cases hx;have htodo:=hsr.fr.todo;rw [ht] at htodo;have hmode:=hsr.fr.mode;rw [hm] at hmode
       have hcm:c.mode=.run:=by
        generalize c.mode=x at hmode;cases hmode;rfl
       generalize I:c.todo=X at htodo;cases htodo with
       |cons J hk=>
        cases J;have M:h3.nx≤h2.nx:=Ct C;obtain ⟨σ,c',q,w1,q1,q2,q3,B,F⟩:=GN hE hsr hcm hk I H (fun b N Y=>j b N (by show b<h2.nx;omega)) base
        obtain ⟨O,v',w',r1,r2,r3,r4⟩:=DC hE hO m q2 B (F.wf hwf) (F.free j) c' (ccs++base);exact ⟨O,c'.finish v',ccs,w',Steps.head q1 r1,⟨Jf (Bs (q3.mono r4.le) u r2),(hsr.cs.mono F.le).mono r4.le,r3⟩,F.trans r4 j⟩
      ·cases hx
     ·rename_i v h2 m;split at hx
      ·rename_i C;cases hx;have htodo:=hsr.fr.todo;rw [ht] at htodo;have hmode:=hsr.fr.mode;rw [hm] at hmode
       have hcm:c.mode=.run:=by
        generalize c.mode=x at hmode;cases hmode;rfl
       generalize I:c.todo=X at htodo;cases htodo with
       |cons J hk=>
        cases J;have M:h3.nx≤h2.nx:=Ct C;obtain ⟨σ,c',q,w1,q1,q2,q3,B,F⟩:=GN hE hsr hcm hk I H (fun b N Y=>j b N (by show b<h2.nx;omega)) base
        obtain ⟨O,v',w',r1,r2,r3,r4⟩:=DC hE hO m q2 B (F.wf hwf) (F.free j) c' (ccs++base)
        have Q:c'.mode=.run:=by
         have h1:=q3.mode;have h2:fr'.mode=.run:=by rw [Jt H,hm]
         rw [h2] at h1;generalize c'.mode=x at h1;cases h1;rfl
        exact ⟨O,c'.raise [{v:=v',recovered:=false}],ccs,w',Steps.head q1 r1,⟨Jf (N1 (q3.mono r4.le) Q r2),(hsr.cs.mono F.le).mono r4.le,r3⟩,F.trans r4 j⟩
      ·cases hx
     ·cases hx
    ·cases hx
   ·cases hx
  ·cases hx
omit hE hO in
theorem MN {ρ:Ren} {nt:Nat} {t:T AV} {a:Array Value} (h:TR ρ nt t a):∀{l:List Tmp} {i:Tmp} {v:AV},Ua t l=some (i,v)→TR ρ nt (t.set i v) a
 |[],i,v,hx=>by cases hx
 |c::r,i,v,hx=>by
  unfold Ua at hx;split at hx
  ·rename_i b nl hg;split at hx
   ·exact MN h hx
   ·cases hx;refine ⟨h.size,fun j x hj=>?_⟩
    rw [T.get_set] at hj;by_cases e:c=j
    ·subst e;rw [if_pos rfl] at hj;cases hj;exact LY (h.get c _ hg)
    ·rw [if_neg e] at hj;exact h.get j x hj
  ·exact MN h hx
theorem Jm (hsr:SR ρ s c ccs w) (hwf:WF s.h) (hx:Ou E s=some s') (m:AA ρ s.h.nx s'.h.nx) (base:List Frame) :
  ∃σ c' ccs' w',Steps E.P (lone c (ccs++base) w) (lone c' (ccs'++base) w')∧SR σ s' c' ccs' w'∧Ext ρ σ s.h s'.h w w':=by
 unfold Ou at hx;split at hx
 ·rename_i p hr;cases hx;unfold yw at hr;split at hr
  ·split at hr
   ·rename_i i v hl;cases hr;exact ⟨ρ,c,ccs,w,Steps.refl _ _,⟨⟨hsr.fr.fn,MN hsr.fr.tm hl,hsr.fr.todo,hsr.fr.defers,hsr.fr.mode,hsr.fr.kind,hsr.fr.round⟩,hsr.cs,hsr.h⟩,Ext.refl _ _ _⟩
   ·cases hr
  ·cases hr
 ·exact Ui hE hO hsr hwf hx m base
end
end Go.AE
namespace Go.AE
variable [Gl:Ax]
mutual
def mvA (d:Nat):AV→AV
 |.bool b=>.bool b
 |.int k n=>.int k n
 |.str l b=>.str l b
 |.ptr0=>.ptr0
 |.ptr b o=>.ptr (b+d) o
 |.slice0=>.slice0
 |.slice b o n c=>.slice (b+d) o n c
 |.map0=>.map0
 |.map b=>.map (b+d)
 |.nilFunc=>.nilFunc
 |.nilIface=>.nilIface
 |.iface t v=>.iface t (mvA d v)
 |.agg l=>.agg (mvL d l)
 |.tuple l=>.tuple (mvL d l)
 |_=>.top
def mvL (d:Nat):List AV→List AV
 |[]=>[]
 |a::r=>mvA d a::mvL d r
end
def WN (d:Nat):List Al→List Al
 |[]=>[]
 |e::r=>{key:=mvA d e.key,val:=mvA d e.val,born:=e.born}::WN d r
def mvK (d:Nat):Ab→Option Ab
 |.cells n c=>some (.cells n (c.mapA (mvA d)))
 |.map a k=>some (.map (WN d a) k)
 |_=>none
def T.keys {i:Type} (m s:Nat):T i→List Nat
 |.nil=>[]
 |.node v l r=>(match v with|some _=>[s]|none=>[])++(l.keys (2*m) (s+m)++r.keys (2*m) (s+2*m))
def mvT (d:Nat) (t:T Ab):List Nat→T Ab
 |[]=>.nil
 |k::r=>match t.get k with
  |some x=>match mvK d x with
   |some y=>(mvT d t r).set (k+d) y
   |none=>mvT d t r
  |none=>mvT d t r
def Ws:AV→Bool
 |.bool _=>true
 |.int _ _=>true
 |.str _ _=>true
 |_=>false
def Orc.canMove (e:Orc):Bool:=e.args.all Ws&&(match e.part with|.nil=>true|_=>false)
def Orc.move (e:Orc) (d:Nat):Orc:={f:=e.f,args:=e.args,part:=.nil,nx:=e.nx+d,ok:=e.ok,v:=mvA d e.v,out:=mvT d e.out (e.out.keys 1 0),nx':=e.nx'+d,wr:=[]}
theorem MO (d:Nat):∀l:List AV,(mvL d l).length=l.length
 |[]=>rfl
 |a::r=>by simp [mvL,MO d r]
theorem Qt (d:Nat):∀(l:List AV) (i:Nat),(mvL d l)[i]?=l[i]?.map (mvA d)
 |[],i=>by simp [mvL]
 |a::r,0=>by simp [mvL]
 |a::r,i+1=>by simp [mvL,Qt d r i]
section
variable [U:Unk]
theorem VR.move {ρ C:Ren} {d:Nat} (h:∀b base,ρ b=some base→C (b+d)=some base) {a:AV} {v:Value} (k:VR ρ a v):VR C (mvA d a) v:=by
 have ls:∀(l:List AV) (l':List Value),(∀(i:Nat) (a:AV) (v:Value),l[i]?=some a→l'[i]?=some v→VR C (mvA d a) v)→∀(i:Nat) (a:AV) (v:Value),(mvL d l)[i]?=some a→l'[i]?=some v→VR C a v:=by
  intro l l' ih i a v j hv;rw [Qt] at j;cases I:l[i]? with
  |none=>rw [I] at j;cases j
  |some x=>rw [I] at j;cases j;exact ih i x v I hv
 induction k with
 |top v=>exact .top v
 |bool b=>exact .bool b
 |int k n=>exact .int k n
 |str s=>exact .str s
 |ptr0=>exact .ptr0
 |ptr b off base r=>exact .ptr _ off base (h _ _ r)
 |slice0=>exact .slice0
 |slice b off n es cap base r hc hz=>exact .slice _ off n es cap base (h _ _ r) hc hz
 |sliceEnd b off es a=>exact .sliceEnd _ off es a
 |map0=>exact .map0
 |map b base r=>exact .map _ base (h _ _ r)
 |func=>exact .top _
 |nilFunc=>exact .nilFunc
 |iface t a v _ ih=>exact .iface t _ v ih
 |nilIface=>exact .nilIface
 |agg l l' J h2 ih=>exact .agg _ l' (by rw [MO,J]) (ls l l' ih)
 |tuple l l' J h2 ih=>exact .tuple _ l' (by rw [MO,J]) (ls l l' ih)
 |sb=>exact .top _
 |si=>exact .top _
 |ss=>exact .top _
 |dat=>exact .top _
 |dptr=>exact .top _
 |asl=>exact .top _
 |aslEnd=>exact .top _
 |eslc=>exact .top _
 |aptr=>exact .top _
 |nmap=>exact .top _
 |nmap0=>exact .top _
 |stamp=>exact .top _
 |glob=>exact .top _
theorem ER.move {ρ j:Ren} {d:Nat} (h:∀b i,ρ b=some i→j (b+d)=some i):∀{l:List Al} {l':List MapEntry},ER ρ l l'→ER j (WN d l) l'
 |[],[],_=>trivial
 |_::_,_::_,⟨r,t,C,I⟩=>⟨r.move h,t.move h,C,ER.move h I⟩
 |[],_::_,h=>h.elim
 |_::_,[],h=>h.elim
theorem BR.move {ρ σ:Ren} {d:Nat} (h:∀b j,ρ b=some j→σ (b+d)=some j) {x y:Ab} {j:Bh} {o:Option Obj} (k:BR ρ x j o) (l:mvK d x=some y):BR σ y j o:=by
 cases x with
 |cells n c=>
  cases l;obtain ⟨t,e,fz,C,I,h3,h4,h5⟩:=k;refine ⟨t,e,fz,C,I,h3,h4,fun i a hi r=>?_⟩
  rw [T.get_mapA] at r;cases J:c.get i with
  |none=>rw [J] at r;cases r
  |some a0=>
   rw [J] at r;cases r;obtain ⟨v,hv,hr⟩:=h5 i a0 hi J;exact ⟨v,hv,hr.move h⟩
 |map es ab=>cases l;obtain ⟨al,C,I⟩:=k;exact ⟨al,C,I.move h⟩
 |arr=>cases l
 |dmap=>cases l
 |dmapS=>cases l
 |loop=>cases l
 |deferred=>cases l
 |mapIter=>cases l
 |strIter=>cases l
omit U in
theorem Wl {d:Nat} {t:T Ab}:∀{l:List Nat} {b:Nat} {y:Ab},(mvT d t l).get b=some y→∃k x,b=k+d∧t.get k=some x∧mvK d x=some y:=by
 intro l
 induction l with
 |nil=>intro b y h;rw [mvT,T.get_nil] at h;cases h
 |cons k r ih=>
  intro b y h;unfold mvT at h;split at h
  ·rename_i x hx;split at h
   ·rename_i z hz;rw [T.get_set] at h;by_cases hb:k+d=b
    ·rw [if_pos hb] at h;cases h;exact ⟨k,x,hb.symm,hx,hz⟩
    ·rw [if_neg hb] at h;exact ih h
   ·exact ih h
  ·exact ih h
theorem Ue {c e:Ren} {a:AV} {v:Value} (h:Ws a=true) (k:VR c a v):VR e a v:=by
 cases k<;>first | (cases h;done)|constructor
end
theorem Orc.Valid.move {P:Program} {F:Nat→D→D} {e:Orc} (hv:e.Valid P F) (hc:e.canMove=true) (d:Nat):(e.move d).Valid P F:=by
 intro U hK hF ρ w ab ha hr hwf ar c0 l;unfold Orc.canMove at hc;simp only [Bool.and_eq_true] at hc;obtain ⟨bs,a6⟩:=hc
 have hp:e.part=.nil:=by
  split at a6
  ·assumption
  ·cases a6
 have a7:∀b,e.part.get b=none:=fun b=>by rw [hp];exact T.get_nil b
 have bv:VL ⟨fun _=>none,ρ.imm⟩ e.args ab:=⟨ha.1,fun i a v I J=>Ue (List.all_eq_true.1 bs a (List.mem_of_getElem? I)) (ha.2 i a v I J)⟩
 have b5:HR ⟨fun _=>none,ρ.imm⟩ e.part.get w:=⟨fun _ _ h=>(by cases h),fun _ _ _ h=>(by cases h),fun _ _ _ _ _ h=>(by cases h),hr.imm,fun _ _ _ _ _ h=>(by cases h),hr.glob⟩
 obtain ⟨t,v',w',g,q1,q2,q3,q4,q5,q6,q7⟩:=hv hK hF ⟨fun _=>none,ρ.imm⟩ w ab bv b5 (fun b _=>a7 b) (fun _ _ _=>rfl) c0 l
 have bd:∀b l,t b=some l→e.nx≤b∧b<e.nx'∧w.heap.size≤l.cb:=by
  intro b l r;rcases q4.new b l r with h|⟨I,J,h3⟩
  ·cases h
  ·refine ⟨I,q6▸J,?_⟩;rcases h3 with h|⟨_,_,h,_⟩
   ·exact h
   ·cases h
 have av:∀k x,g.blk.get k=some x→e.nx≤k∧k<e.nx':=by
  intro k x hk;rcases q4.live k (by rw [hk];exact Option.some_ne_none _) with h|⟨I,J⟩
  ·exact absurd (a7 k) h
  ·exact ⟨I,q6▸J⟩
 have cf:e.nx≤e.nx':=by have:=q4.nx;rw [q6] at this;exact this
 have ch:=hr.lt
 let σ:Ren:=⟨fun b=>if e.nx+d≤b∧b<e.nx'+d then t (b-d) else ρ b,t.imm⟩
 have bm:∀b l,t b=some l→σ (b+d)=some l:=by
  intro b l r;obtain ⟨I,J,_⟩:=bd b l r;show (if e.nx+d≤b+d∧b+d<e.nx'+d then t (b+d-d) else ρ (b+d))=some l
  rw [if_pos ⟨by omega,by omega⟩,Nat.add_sub_cancel]
  exact r
 have al:∀b l,σ b=some l→(e.nx+d≤b∧b<e.nx'+d∧t (b-d)=some l)∨ρ b=some l:=by
  intro b l r;have r:(if e.nx+d≤b∧b<e.nx'+d then t (b-d) else ρ b)=some l:=r
  by_cases hh:e.nx+d≤b∧b<e.nx'+d
  ·rw [if_pos hh] at r;exact .inl ⟨hh.1,hh.2,r⟩
  ·rw [if_neg hh] at r;exact .inr r
 have C:∀b y,(mvT d e.out (e.out.keys 1 0)).get b=some y→∃k x,b=k+d∧g.blk.get k=some x∧mvK d x=some y∧e.nx≤k∧k<e.nx':=by
  intro b y r;obtain ⟨k,x,I,J,h3⟩:=Wl r;have h4:=q5 k x J;obtain ⟨h5,h6⟩:=av k x h4;exact ⟨k,x,I,h4,h3,h5,h6⟩
 have an:∀k l,e.nx≤k→k<e.nx'→σ (k+d)=some l→t k=some l:=by
  intro k l I J h;have h:(if e.nx+d≤k+d∧k+d<e.nx'+d then t (k+d-d) else ρ (k+d))=some l:=h
  rw [if_pos ⟨by omega,by omega⟩,Nat.add_sub_cancel] at h
  exact h
 refine ⟨σ,v',w',{blk:=mvT d e.out (e.out.keys 1 0),nx:=e.nx'+d,log:=[]},q1,q2.move bm,⟨?_,?_,?_,q3.imm,?_,q3.glob⟩,⟨⟨?_,q4.le.imm⟩,?_,?_,q4.calm,?_,⟨[],rfl,?_⟩,?_,?_⟩,fun b x h=>h,rfl,fun b r=>(by cases r)⟩
 ·intro b l r;rcases al b l r with ⟨_,_,h⟩|h
  ·exact q3.lt _ _ h
  ·have:=hr.lt b l h;have:=q4.calm.size;omega
 ·intro b l y r hy;obtain ⟨k,x,rfl,I,J,h3,h4⟩:=C b y hy;exact (q3.blk k l x (an k l h3 h4 r) I).move bm J
 ·intro b b' l base' b6 r cc I J;cases hy:(mvT d e.out (e.out.keys 1 0)).get b with
  |none=>exact absurd hy I
  |some y=>
   cases bn:(mvT d e.out (e.out.keys 1 0)).get b' with
   |none=>exact absurd bn J
   |some y'=>
    obtain ⟨k,x,rfl,a1,a2,a3,a4⟩:=C b y hy;obtain ⟨k',x',rfl,b1,b2,b3,b4⟩:=C b' y' bn;exact q3.apart k k' l base' (fun e=>b6 (by rw [e])) (an k l a3 a4 r) (an k' base' b3 b4 cc) (by rw [a1];exact Option.some_ne_none _) (by rw [b1];exact Option.some_ne_none _)
 ·intro k arr b l hk r hg;cases hy:(mvT d e.out (e.out.keys 1 0)).get b with
  |none=>exact absurd hy hg
  |some y=>
   obtain ⟨j,x,rfl,a1,a2,a3,a4⟩:=C b y hy;exact q3.off k arr j l hk (an j l a3 a4 r) (by rw [a1];exact Option.some_ne_none _)
 ·intro b l r;show (if e.nx+d≤b∧b<e.nx'+d then t (b-d) else ρ b)=some l
  rw [if_neg]
  ·exact r
  ·rintro ⟨I,J⟩
   have:=ar b I J;rw [this] at r;cases r
 ·show e.nx+d≤e.nx'+d;omega
 ·intro b l r;rcases al b l r with ⟨I,J,h⟩|h
  ·exact .inr ⟨I,J,.inl (bd _ _ h).2.2⟩
  ·exact .inl h
 ·intro k hk _;exact q4.kept k hk (fun b l r=>by cases r)
 ·intro b _ r;show (mvT d e.out (e.out.keys 1 0)).get b=(T.nil:T Ab).get b;rw [T.get_nil];cases hy:(mvT d e.out (e.out.keys 1 0)).get b with
  |none=>rfl
  |some y=>
   obtain ⟨k,x,rfl,_,_,h3,h4⟩:=C b y hy;have r:k+d<e.nx+d∨e.nx'+d≤k+d:=r;omega
 ·intro b r;refine .inr ?_;cases hy:(mvT d e.out (e.out.keys 1 0)).get b with
  |none=>exact absurd hy r
  |some y=>
   obtain ⟨k,x,rfl,_,_,h3,h4⟩:=C b y hy;exact ⟨by show e.nx+d≤k+d;omega,by show k+d<e.nx'+d;omega⟩
 ·intro k arr hk;rcases q4.imm k arr hk with h|h|⟨b0,cd,h,_⟩
  ·exact .inl h
  ·exact .inr (.inl h)
  ·cases h
end Go.AE
namespace Go.AE
variable [Gl:Ax]
def VU (a b:Nat×Nat):Nat×Nat:=(a.1+b.1,a.2+b.2*256^a.1)
def Qc (a:Nat×Nat):List (Nat×Nat)→Nat×Nat
 |[]=>(0,0)
 |x::r=>match r with
  |[]=>x
  |_::_=>VU x (VU a (Qc a r))
def pk (l:List UInt8):Nat×Nat:=(l.length,Au l)
theorem Uw (l m:List UInt8):pk (l++m)=VU (pk l) (pk m):=by
 unfold pk VU;rw [Di (U:=Aw),List.length_append]
theorem Ob (a:List UInt8):∀b:List (List UInt8),Qc (pk a) (b.map pk)=pk (Lib.join b a)
 |[]=>rfl
 |[x]=>by rw [Lib.join_one];rfl
 |x::y::r=>by
  have c:Lib.join (x::y::r) a=x++(a++Lib.join (y::r) a):=by
   rw [Lib.join_cons,Lib.join_cons];simp [Lib.joinTail]
  have ih:=Ob a (y::r);rw [c,Uw,Uw,←ih];rfl
def MV (c:T AV):Nat→Nat→Option (List (Nat×Nat))
 |_,0=>some []
 |o,n+1=>match c.get o with
  |some (.str l b)=>match MV c (o+1) n with
   |some r=>some ((l,b)::r)
   |none=>none
  |_=>none
def T9 (J:FuncId) (e:Orc):Bool:=match e.args with
 |[.slice b off n i,.str a d]=>match e.part.get b with
  |some (.cells m c)=>match MV c off n with
   |some l=>match e.v with
    |.str g h=>Nat.beq e.f J&&Nat.blt 0 n&&Nat.ble (off+n) m&&Nat.ble n 140737488355328&&Nat.beq (Qc (a,d) l).1 g&&Nat.beq (Qc (a,d) l).2 h&&Nat.ble g 281474976710656&&e.ok&&Nat.beq e.nx e.nx'&&(match e.out with|.nil=>true|_=>false)
    |_=>false
   |none=>false
  |_=>false
 |_=>false
section
variable [U:Unk]
theorem VR.str_inv {ρ:Ren} {l b:Nat} {v:Value} (h:VR ρ (.str l b) v):∃s:ByteArray,v=.string s∧(l,b)=pk s.data.toList:=by
 cases h with
 |str s=>exact ⟨s,rfl,rfl⟩
theorem Li {ρ:Ren} {c:T AV} {b:Array Value} {co m:Nat} (g:∀i a,i<m→c.get i=some a→∃v,b[co+i]?=some v∧VR ρ a v):∀(n o:Nat) (l:List (Nat×Nat)),MV c o n=some l→o+n≤m→
  ∃d:List ByteArray,d.length=n∧l=(d.map (·.data.toList)).map pk∧∀(j:Nat) x,d[j]?=some x→b[co+o+j]?=some (.string x)
 |0,o,l,h,_=>by cases h;exact ⟨[],rfl,rfl,fun j x e=>by simp at e⟩
 |n+1,o,l,h,y=>by
  unfold MV at h;split at h
  ·rename_i z A k;split at h
   ·rename_i r hr;cases h;obtain ⟨v,p,f⟩:=g o _ (by omega) k
    obtain ⟨s,rfl,q⟩:=f.str_inv;obtain ⟨d,t,u,w⟩:=Li g n (o+1) r hr (by omega)
    refine ⟨s::d,by simp [t],by rw [List.map_cons,List.map_cons,←u,←q],fun j x e=>?_⟩
    cases j with
    |zero=>simp at e;subst e;exact p
    |succ j=>have:=w j x (by simpa using e);rwa [show co+(o+1)+j=co+o+(j+1) from by omega] at this
   ·cases h
  ·cases h
end
theorem Orc.Valid.join {P:Program} {F:Nat→D→D} {r:Shelf.Ren} (L:Proofs.Lays.n156 P r) (X:Proofs.Builder.Extra P r) {e:Orc} (I:T9 (r.f 156) e=true):e.Valid P F:=by
 intro U hK hF ρ w a6 ha hr hwf a7 c0 i;unfold T9 at I;split at I
 ·rename_i b off n es ls bs av;split at I
  ·rename_i m c a1;split at I
   ·rename_i l hl;split at I
    ·rename_i lv bv hv;simp only [Bool.and_eq_true] at I;obtain ⟨⟨⟨⟨⟨⟨⟨⟨⟨h1,h2⟩,h3⟩,h4⟩,h5⟩,h6⟩,h7⟩,h8⟩,h9⟩,ab⟩:=I;have h1:=Nat.eq_of_beq_eq_true h1;have h2:0<n:=Nat.le_of_ble_eq_true h2;have h3:=Nat.le_of_ble_eq_true h3;have h4:=Nat.le_of_ble_eq_true h4;have h5:=Nat.eq_of_beq_eq_true h5;have h6:=Nat.eq_of_beq_eq_true h6;have h7:=Nat.le_of_ble_eq_true h7;have h9:=Nat.eq_of_beq_eq_true h9;have ab:e.out=.nil:=by split at ab<;>first|assumption|cases ab
     rw [av] at ha;obtain ⟨sv,r1,rfl,hs,ha⟩:=ha.cons_inv;obtain ⟨pv,r2,rfl,hp,ha⟩:=ha.cons_inv;have:=ha.nil_inv;subst this;obtain ⟨J,rfl,a2⟩:=hp.str_inv;cases hs with
     |sliceEnd=>omega
     |slice _ _ _ _ bd al hb b0 hz=>
      obtain ⟨b1,et,fz,g1,g2,g3,g4,g5⟩:=hr.blk b al _ hb a1;obtain ⟨xs,x1,x2,x3⟩:=Li g5 n off l hl h3;have bm:=hr.lt b al hb;rw [a2,x2,Ob] at h5 h6
      have hc:=Proofs.Any.strings_Join_48 L X al.cb (al.co+off) bd xs J w (fun j x hx=>by
       have:=x3 j x hx;simp only [World.cell?,g1];exact this) bm (by omega) (by omega) (by
       have:(pk (Lib.join (xs.map (·.data.toList)) J.data.toList)).1=(Lib.join (xs.map (·.data.toList)) J.data.toList).length:=rfl
       omega) (c0::i)
      obtain ⟨en,w',fr,⟨rfl,t⟩,an,b2,ar⟩:=hc;have bn:Steps P _ _:=an;have C:∀k,k<w.heap.size→w'.heap[k]?=w.heap[k]?:=t.block
      refine ⟨ρ,.string ⟨(Lib.join (xs.map (·.data.toList)) J.data.toList).toArray⟩,w',{blk:=e.part,nx:=e.nx,log:=[]},?_,?_,⟨?_,?_,hr.apart,?_,hr.off,hr.glob⟩,⟨Ren.le_refl ρ,Nat.le_refl _,fun _ _ h=>.inl h,⟨t.os,t.tape,t.output,t.size⟩,fun k hk _=>C k hk,⟨[],rfl,fun _ _ _=>rfl⟩,fun _ h=>.inl h,fun _ _ h=>.inl h⟩,?_,h9,fun b hb=>(by cases hb)⟩
      ·rw [h8,h1];have:=Steps.trans bn (Steps.one (step_leave_returned ar));rw [x1] at this;exact this
      ·rw [hv];have:=VR.str (ρ:=ρ) ⟨(Lib.join (xs.map (·.data.toList)) J.data.toList).toArray⟩
       rw [←h5,←h6];exact this
      ·intro b i hb;have:=hr.lt b i hb;have:=t.size;omega
      ·intro b i x hb hx;rw [C _ (hr.lt b i hb)];exact hr.blk b i x hb hx
      ·intro k arr hk;rw [C _ (hr.immLt hk)];exact hr.imm k arr hk
      ·intro b x hx;rw [ab,T.get_nil] at hx;cases hx
    ·cases I
   ·cases I
  ·cases I
 ·cases I
end Go.AE

