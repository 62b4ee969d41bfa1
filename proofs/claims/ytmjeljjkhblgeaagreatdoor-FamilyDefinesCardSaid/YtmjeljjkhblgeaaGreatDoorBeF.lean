/- What is proved here: an evaluator of the model's steps that the kernel can run, and that whatever it answers is what the model does (part 6 of 8: AeSum, AeRng, AeEval, AeTail, AeRun3, AeOrc, AeMove, AeJoin). Conditions: those that each theorem states; they hold of no one program. -/
import Derived.Test.YtmjeljjkhblgeaaGreatDoorBeE
import Derived.Room.Shelf.Join48
set_option linter.unusedVariables false
set_option linter.unusedSectionVars false
set_option linter.unusedSimpArgs false
namespace Go.AE
variable [Gl:AH]
structure Bd where
 v:T SE
 b:T Nat
 deriving Inhabited
def Bd.var (m:Bd) (e x:SE):Bd:=match e with
 |.var i=>match m.v.get i with
  |none=>{v:=m.v.set i x,b:=m.b}
  |some _=>m
 |_=>m
def Bd.blk (m:Bd) (b c:Nat):Bd:=match m.b.get b with
 |none=>{v:=m.v,b:=m.b.set b c}
 |some _=>m
mutual
def Ge:AV→AV→Bd→Bd
 |.ptr b _,.ptr c _,m=>m.blk b c
 |.slice b _ _ _,.slice c _ _ _,m=>m.blk b c
 |.map b,.map c,m=>m.blk b c
 |.func (.yield l) f c,.func (.yield i) j o,m=>Es c o (Es f j (m.blk l i))
 |.func _ f c,.func _ j o,m=>Es c o (Es f j m)
 |.iface _ v,.iface _ r,m=>Ge v r m
 |.agg l,.agg i,m=>Es l i m
 |.tuple l,.tuple i,m=>Es l i m
 |.sb p e,.sb s h,m=>m.var e (match p==s with|true=>h|false=>.neg h)
 |.sb p e,.bool b,m=>m.var e (.bc (b==p))
 |.si _ e,.si _ h,m=>m.var e h
 |.si _ e,.int _ n,m=>m.var e (.c n)
 |.ss e,.ss h,m=>m.var e h
 |.ss e,.str l b,m=>m.var e (.strc l b)
 |.dat _ x,.dat _ t,m=>m.var x t
 |.dat _ x,.slice0,m=>m.var x .nilL
 |.asl b _ n d,.asl c _ q g,m=>((m.blk b c).var n q).var d g
 |.asl b _ n d,.slice c _ q _,m=>((m.blk b c).var n (.c q)).var d (.bc false)
 |.asl _ _ n d,.slice0,m=>(m.var n (.c 0)).var d (.bc true)
 |.asl _ _ n d,.eslc g,m=>(m.var n (.c 0)).var d g
 |.eslc d,.eslc g,m=>m.var d g
 |.eslc d,.slice0,m=>m.var d (.bc true)
 |.nmap b d,.nmap c g,m=>(m.blk b c).var d g
 |.nmap b d,.map c,m=>(m.blk b c).var d (.bc false)
 |.nmap _ d,.map0,m=>m.var d (.bc true)
 |_,_,m=>m
termination_by structural a=>a
def Es:List AV→List AV→Bd→Bd
 |a::l,b::k,m=>Es l k (Ge a b m)
 |_,_,m=>m
termination_by structural l=>l
end
def TK:T AV→T AV→Bd→Bd
 |.node v l r,.node c d e,m=>TK r e (TK l d (match v,c with
  |some a,some b=>Ge a b m
  |_,_=>m))
 |_,_,m=>m
def YJ [Facts] (E:Env):Ab→Ab→Bd→Bd
 |.cells _ c,.cells _ h,m=>TK c h m
 |.loop _ _ _ _ t _ _ _ d,.loop _ _ _ _ i _ _ _ j,m=>TK t i (m.blk d j)
 |.arr _ x,.arr _ a,m=>m.var x a
 |.dmap _ _ x,.dmap _ _ a,m=>m.var x a
 |.dmap k v x,.map o _,m=>match E.kinds k,E.kinds v with
  |some b,some f=>match Pf b f .emptyL o with
   |some y=>m.var x y
   |none=>m
  |_,_=>m
 |.arr e x,.cells n c,m=>match E.kinds e with
  |some g=>match c.range 0 n with
   |some l=>match DN g (n/g.length) .emptyL l with
    |some y=>m.var x y
    |none=>m
   |none=>m
  |none=>m
 |_,_,m=>m
def Pe [Facts] (E:Env) (h:Aa):List (Option Ab)→Nat→Bd→Bd
 |[],_,m=>m
 |none::r,i,m=>Pe E h r (i+1) m
 |some x::r,i,m=>match m.b.get i with
  |some c=>match h.blk.get c with
   |some y=>Pe E h r (i+1) (YJ E x y m)
   |none=>Pe E h r (i+1) m
  |none=>Pe E h r (i+1) m
def Hi [Facts] (E:Env) (l:List (Option Ab)) (h:Aa) (m:Bd):Bd:=match l with
 |[]=>m
 |[_]=>m
 |_=>Pe E h l 0 (Pe E h l 0 (Pe E h l 0 m))
def AT [Facts] (E:Env):List (Option Ab)→Nat→Bd→Aa→Bd×Aa
 |[],_,m,h=>(m,h)
 |none::r,i,m,h=>match m.b.get i with
  |some _=>AT E r (i+1) m h
  |none=>AT E r (i+1) (m.blk i h.nx) {h with nx:=h.nx+1}
 |some x::r,i,m,h=>match m.b.get i with
  |some c=>match h.blk.get c with
   |some y=>AT E r (i+1) (YJ E x y m) h
   |none=>AT E r (i+1) m h
  |none=>match x with
   |.arr e y=>AT E r (i+1) ((m.blk i h.nx).var y .nilL) (h.new (.arr e .nilL))
   |.dmap k v y=>AT E r (i+1) ((m.blk i h.nx).var y .emptyL) (h.new (.dmap k v .emptyL))
   |_=>AT E r (i+1) m h
def Iq (t:T SE):Nat→Nat→List SE
 |_,0=>[]
 |i,n+1=>(match t.get i with|some x=>x|none=>.c 0)::Iq t (i+1) n
def Jh (t:T Nat):Nat→Nat→List Nat
 |_,0=>[]
 |i,n+1=>(match t.get i with|some x=>x|none=>0)::Jh t (i+1) n
def Qa (n:Nat):List Nat→Bool
 |[]=>true
 |b::r=>Nat.blt b n&&Qa n r
def Dc (nx:Nat):Nat→List Nat
 |0=>[]
 |m+1=>nx::Dc (nx+1) m
def I6 [U:Facts] (a:List SE):List (SB×Bool)→Bool
 |[]=>true
 | (e,b)::r=>(match AO U.facts (e.inst a) with
  |some c=>c==b
  |none=>false)&&I6 a r
def D1 [Facts] (a:List SE) (c:List Nat):List (Option Ab)→List Nat→T Ab→Option (T Ab)
 |[],[],t=>some t
 |none::r,b::d,t=>D1 a c r d (t.del b)
 |some x::r,b::d,t=>match x.inst a c with
  |some y=>D1 a c r d (t.set b y)
  |none=>none
 |_,_,_=>none
def SG:Option Obs→Bool
 |some []=>true
 |_=>false
def ZS [Facts]:Obs→Bool
 |[]=>true
 | (a,.bc true)::r=>a.isB&&NJ a&&ZS r
 |_=>false
def Kq [Facts]:Option Obs→Bool
 |some o=>ZS o
 |none=>false
theorem hI {U:Unk}:∀{o:Obs},@ZS U.toFacts o=true→o.holds U.V:=by
 intro o
 induction o with
 |nil=>intro _ a b d;cases d
 |cons p r ih=>
  intro h;unfold ZS at h;split at h
  ·rename_i c;cases c
  ·rename_i x g c;cases c;simp only [Bool.and_eq_true] at h;intro a b d;rcases List.mem_cons.1 d with q|q
   ·cases q;have e:=h.1.2;unfold NJ at e;split at e
    ·rename_i f;have:=Ar U.ok f;rw [Rt U.V h.1.1];show D.bool (Ah U.V x)=_;rw [this];rfl
    ·cases e
   ·exact ih h.2 a b q
  ·cases h
theorem QM {U:Unk} {o:Option Obs} (h:@Kq U.toFacts o=true):∃l,o=some l∧l.holds U.V:=by
 unfold Kq at h;split at h
 ·exact ⟨_,rfl,hI h⟩
 ·cases h
def aS (old new:T Ab):List Nat→List Nat
 |[]=>[]
 |b::r=>match eqO Uo (old.get b) (new.get b) with
  |true=>aS old new r
  |false=>b::aS old new r
theorem Sf {old new:T Ab}:∀{l:List Nat} {b:Nat},b∈l→b∉aS old new l→new.get b=old.get b
 |c::r,b,h,a=>by
  simp only [aS] at a;split at a
  ·rename_i d;rcases List.mem_cons.1 h with q|q
   ·subst q;exact (dU (fun _ _=>NC) d).symm
   ·exact Sf q a
  ·rcases List.mem_cons.1 h with q|q
   ·subst q;exact absurd (by simp) a
   ·exact Sf q (fun c=>a (by simp [c]))
def WZ [Facts] (E:Env) (s:Sm) (b:List SE) (a:List Nat) (args:List AV) (h:Aa):Option (AV×Aa):=
 match Kq (FW b a s.args args)&&Kq (En E b a h s.pre a)&&E3 a&&Qa h.nx a&&I6 b s.facts&&Nat.ble s.pre.length s.post.length with
 |true=>
  match D1 b (a++Dc h.nx (s.post.length-s.pre.length)) s.post (a++Dc h.nx (s.post.length-s.pre.length)) h.blk with
  |some t=>some (s.res.inst b (a++Dc h.nx (s.post.length-s.pre.length)),{blk:=t,nx:=h.nx+(s.post.length-s.pre.length),log:=aS h.blk t a++h.log})
  |none=>none
 |false=>none
def Ags:AV→Kd
 |.dat e _=>.slice e
 |_=>.bool
def Tb [Facts] (E:Env) (p a:AV) (h:Aa):AV×Aa:=
 match p,a with
 |.agg c,.agg d=>match Jg E (c.map Ags) d h with
  | (b,e)=>(.agg b,e)
 |p,a=>MB E (Ags p) a h
def Up [Facts] (E:Env):List AV→List AV→Aa→List AV×Aa
 |p::b,a::l,h=>match Tb E p a h with
  | (c,d)=>match Up E b l d with
   | (e,f)=>(c::e,f)
 |_,l,h=>(l,h)
def DX [Facts] (E:Env):List (Option Ab)→Nat→T Nat→Aa→Aa
 |[],_,_,h=>h
 |some (.arr e _)::r,i,b,h=>match b.get i,E.kinds e with
  |some c,some ks=>match F4 ks with
   |true=>match h.blk.get c with
    |some (.cells _ _)=>DX E r (i+1) b (HV E e c h)
    |_=>DX E r (i+1) b h
   |false=>DX E r (i+1) b h
  |_,_=>DX E r (i+1) b h
 |some (.cells n a)::r,i,b,h=>match b.get i,a.range 0 n with
  |some c,some l=>match F4 (QL l) with
   |true=>DX E r (i+1) b (Ec E (QL l) c h)
   |false=>DX E r (i+1) b h
  |_,_=>DX E r (i+1) b h
 |_::r,i,b,h=>DX E r (i+1) b h
def TZ [Facts] (E:Env) (s:Sm) (args:List AV) (h:Aa):List AV×Aa:=match Up E s.args args h with
 | (args,h)=>(args,DX E s.pre 0 (Hi E s.pre h (Es s.args args ⟨.nil,.nil⟩)).b h)
def WR:AV→Bool
 |.bool _=>true
 |.int _ _=>true
 |.str _ _=>true
 |.sb _ _=>true
 |.si _ _=>true
 |.ss _=>true
 |_=>false
def R4:AV→Bool
 |.tuple l=>l.all WR
 |a=>WR a
def wM (s:Sm) (h:Aa) (r:AV×Aa):AV×Aa:=match s.pre,s.post,R4 r.1 with
 |[],[],true=>(r.1,h)
 |_,_,_=>r
def dR [Facts] (E:Env) (s:Sm) (args:List AV) (h0:Aa):Option (AV×Aa):=
 match TZ E s args h0 with
 | (args,h)=>match AT E s.pre 0 (Hi E s.pre h (Es s.args args ⟨.nil,.nil⟩)) h with
  | (m,a)=>match WZ E s (Iq m.v 0 s.nv) (Jh m.b 0 s.pre.length) args a with
   |some r=>some (wM s h0 r)
   |none=>none
def Oe [Facts] (E:Env):List Sm→FuncId→List AV→Aa→Option (Bool×AV×Aa)
 |[],_,_,_=>none
 |s::r,f,args,h=>match Nat.beq s.f f with
  |true=>match dR E s args h with
   |some (v,g)=>some (s.ok,v,g)
   |none=>Oe E r f args h
  |false=>Oe E r f args h
def Sm.Valid (P:Program) (F:Nat→D→D) (s:Sm):Prop:=
 ∀[U:Unk],U.K=(Env.of P).kinds→U.V.fn=F→(∀e b,(e,b)∈s.facts→Ah U.V e=b)→∀(ρ:Ren) (w:World) (i:List Value),VL ρ s.args i→HR ρ (Ba s.pre).get w→(∀b,s.pre.length≤b→ρ b=none)→
  ∀(c0:Frame) (base:List Frame),∃j r l,B4 P (lone (Frame.enter P s.f i.toArray .normal) (c0::base) w) c0 base s.ok r l∧VR j s.res r∧HR j (Ba s.post).get l∧
   Ext ρ j {blk:=Ba s.pre,nx:=s.pre.length,log:=[]} {blk:=Ba s.post,nx:=s.post.length,log:=List.range s.pre.length} w l
theorem Qd {o:Option Obs} (h:SG o=true):o=some []:=by
 unfold SG at h;split at h
 ·rfl
 ·cases h
theorem NN:∀(m nx i:Nat),(Dc nx m)[i]?=if i<m then some (nx+i) else none
 |0,nx,i=>by simp [Dc]
 |m+1,nx,i=>by
  cases i with
  |zero=>simp [Dc]
  |succ i=>
   simp only [Dc,List.getElem?_cons_succ,NN m (nx+1) i];by_cases c:i<m
   ·rw [if_pos c,if_pos (by omega)];congr 1;omega
   ·rw [if_neg c,if_neg (by omega)]
theorem On {n:Nat}:∀{l:List Nat},Qa n l=true→∀b∈l,b<n
 |[],_,b,a=>by cases a
 |c::r,h,b,a=>by
  simp only [Qa,Bool.and_eq_true] at h;rcases List.mem_cons.1 a with rfl|a
  ·simpa [Nat.blt_eq] using h.1
  ·exact On h.2 b a
theorem BV {U:Unk} {f:List SE}:∀{l:List (SB×Bool)},@I6 U.toFacts f l=true→∀e b,(e,b)∈l→Ah (U.V.inst f) e=b
 |[],_,e,b,h=>by cases h
 | (x,c)::r,h,e,b,g=>by
  simp only [I6,Bool.and_eq_true] at h;rcases List.mem_cons.1 g with q|q
  ·cases q;have a:=h.1;split at a
   ·rename_i d i;have:=@Ar _ U U.V _ U.ok _ _ i;rw [Fh] at this;rw [this];exact eq_of_beq a
   ·cases a
  ·exact BV h.2 e b q
theorem W4 [Facts] {q:List SE} {s:List Nat}:∀(l:List (Option Ab)) (d:List Nat) (t f:T Ab),D1 q s l d t=some f→(∀(i j b:Nat),d[i]?=some b→d[j]?=some b→i=j)→
  (∀c,c∉d→f.get c=t.get c)∧∀(i c:Nat),d[i]?=some c→(l[i]?=some none∧f.get c=none)∨∃(x y:Ab),l[i]?=some (some x)∧x.inst q s=some y∧f.get c=some y:=by
 intro l
 induction l with
 |nil=>
  intro d t f h m;cases d with
  |nil=>simp only [D1,Option.some.injEq] at h;subst h;exact ⟨fun _ _=>rfl,fun i c a=>by simp at a⟩
  |cons=>cases h
 |cons o r ih=>
  intro d t f h m;cases d with
  |nil=>cases o<;>cases h
  |cons b d=>
   have u:b∉d:=by
    intro v;obtain ⟨j,n,e⟩:=List.getElem_of_mem v;have:=m 0 (j+1) b rfl (by simp [n,e])
    omega
   have g:∀(i j b:Nat),d[i]?=some b→d[j]?=some b→i=j:=fun i j c hi n=>by
    have:=m (i+1) (j+1) c (by simpa using hi) (by simpa using n)
    omega
   cases o with
   |none=>
    simp only [D1] at h;obtain ⟨k,p⟩:=ih d _ f h g;refine ⟨fun c a=>?_,fun i c a=>?_⟩
    ·simp only [List.mem_cons,not_or] at a;rw [k c a.2,T.get_del,if_neg (fun e=>a.1 e.symm)]
    ·cases i with
     |zero=>
      simp only [List.getElem?_cons_zero,Option.some.injEq] at a;subst a;exact .inl ⟨rfl,by rw [k _ u,T.get_del,if_pos rfl]⟩
     |succ i=>
      simp only [List.getElem?_cons_succ] at a ⊢;exact p i c a
   |some x=>
    simp only [D1] at h;split at h
    ·rename_i y w;obtain ⟨k,p⟩:=ih d _ f h g;refine ⟨fun c a=>?_,fun i c a=>?_⟩
     ·simp only [List.mem_cons,not_or] at a;rw [k c a.2,T.get_set,if_neg (fun e=>a.1 e.symm)]
     ·cases i with
      |zero=>
       simp only [List.getElem?_cons_zero,Option.some.injEq] at a;subst a;exact .inr ⟨x,y,rfl,w,by rw [k _ u,T.get_set,if_pos rfl]⟩
      |succ i=>
       simp only [List.getElem?_cons_succ] at a ⊢;exact p i c a
    ·cases h
@[reducible] def Cw (U:Unk) (F:List (SB×Bool)) (a:List SE) (h:∀e b,(e,b)∈F→Ah (U.V.inst a) e=b):Unk:={facts:=F,V:=U.V.inst a,K:=U.K,R:=[],hR:=fun _ _ _ _ _ h=>(by cases h),ok:=h}
theorem YS {U:Unk} {E:Env} {FF:List (SB×Bool)} {F:List SE} {r:List Nat} (A:∀e b,(e,b)∈FF→Ah (U.V.inst F) e=b) {pre post:List (Option Ab)} {res:AV} {o:Obs} {h:Aa} {t:T Ab} {ρ σ:Ren} {w w':World} {v':Value} {p B:Nat} (aq:pre.length=p) (ar:post.length=B)
  (ai:En E F r h pre r=some o) (aj:o.holds U.V) (au:E3 r=true) (aa:∀b∈r,b<h.nx) (a5:p≤B) (ht:D1 F (r++Dc h.nx (B-p)) post (r++Dc h.nx (B-p)) h.blk=some t)
  (hr:HR ρ h.blk.get w) (hwf:∀b,h.nx≤b→h.blk.get b=none) (ae:AJ ρ h.nx (h.nx+(B-p)))
  (q2:@VR (Cw U FF F A).toVals σ res v') (q3:@HR _ (Cw U FF F A).toVals σ (Ba post).get w') (P:Ext (ρ.back r) σ {blk:=Ba pre,nx:=pre.length,log:=[]} {blk:=Ba post,nx:=post.length,log:=List.range pre.length} w w') :
  ∃M,VR M (res.inst F (r++Dc h.nx (B-p))) v'∧HR M t.get w'∧Ext ρ M h {blk:=t,nx:=h.nx+(B-p),log:=r++h.log} w w':=by
 have hV:(Cw U FF F A).V=U.V.inst F:=rfl;have hK:(Cw U FF F A).K=U.K:=rfl;have a6:pre.length=r.length:=(Da (U:=U) (W:=Cw U FF F A) hV hK pre r o ai aj).1;have ak:=(Da (U:=U) (W:=Cw U FF F A) hV hK pre r o ai aj).2
 have R:∀b,pre.length≤b→(ρ.back r).m b=none:=by
  intro b H;have:r[b]?=none:=List.getElem?_eq_none (by omega)
  simp [Ren.back,this]
 have av:r.length=p:=by omega
 have gb:∀(i:Nat),(r++Dc h.nx (B-p))[i]?=if i<p then r[i]? else if i<B then some (h.nx+(i-p)) else none:=by
  intro i;by_cases c:i<p
  ·rw [if_pos c,List.getElem?_append_left (by omega)]
  ·rw [if_neg c,List.getElem?_append_right (by omega),NN,av]
   by_cases c2:i<B
   ·rw [if_pos c2,if_pos (by omega)]
   ·rw [if_neg c2,if_neg (by omega)]
 have af:∀(i j b:Nat),(r++Dc h.nx (B-p))[i]?=some b→(r++Dc h.nx (B-p))[j]?=some b→i=j:=by
  intro i j b hi O;rw [gb] at hi O;by_cases c:i<p
  ·rw [if_pos c] at hi;have:=aa b (List.mem_of_getElem? hi);by_cases d:j<p
   ·rw [if_pos d] at O;exact QE au hi O
   ·rw [if_neg d] at O;split at O
    ·cases O;omega
    ·cases O
  ·rw [if_neg c] at hi;split at hi
   ·cases hi;by_cases d:j<p
    ·rw [if_pos d] at O;have:=aa _ (List.mem_of_getElem? O);omega
    ·rw [if_neg d] at O;split at O
     ·simp only [Option.some.injEq] at O;omega
     ·cases O
   ·cases hi
 obtain ⟨t1,t2⟩:=@W4 _ U.toFacts F _ _ _ _ _ ht af
 let M:Ren:=⟨fun c=>if h.nx≤c∧c<h.nx+(B-p) then σ (p+(c-h.nx)) else ρ c,σ.imm⟩
 have u:∀c,c<h.nx→M c=ρ c:=fun c n=>by show (if _ then _ else _)=_;rw [if_neg (by omega)]
 have S:∀i,p≤i→i<B→M (h.nx+(i-p))=σ i:=fun i h1 h2=>by
  show (if _ then _ else _)=_
  rw [if_pos (by omega)];congr 1;omega
 have ad:=P.le
 have back:∀b base,(ρ.back r).m b=some base→∃c,r[b]?=some c∧ρ c=some base:=by
  intro b base H;simp only [Ren.back] at H;cases n:r[b]? with
  |none=>rw [n] at H;cases H
  |some c=>rw [n] at H;exact ⟨c,rfl,H⟩
 have s:∀b,(Ba pre).get b≠none→∃c y,r[b]?=some c∧h.blk.get c=some y:=by
  intro b H;rw [Ce] at H;cases hx:pre[b]? with
  |none=>rw [hx] at H;exact absurd rfl H
  |some ox=>
   cases ox with
   |none=>rw [hx] at H;exact absurd rfl H
   |some x=>
    obtain ⟨c,y,o',v,C,a3,a4⟩:=ak b x hx;exact ⟨c,y,v,C⟩
 have ag:ρ.le M:=by
  refine ⟨fun c base n=>?_,fun k a N=>ad.imm k a N⟩
  show (if _ then _ else _)=_
  rw [if_neg ?_]
  ·exact n
  ·intro al;rw [ae c al.1 al.2] at n;cases n
 have am:∀b base,σ b=some base→M ((r++Dc h.nx (B-p)).getD b 0)=some base:=by
  intro b g H;rcases P.new b g H with hq|⟨v,C,_⟩
  ·obtain ⟨c,X,c2⟩:=back b g hq;have an:b<p:=by have:=(List.getElem?_eq_some_iff.1 X).1;omega
   have e:(r++Dc h.nx (B-p)).getD b 0=c:=by rw [List.getD_eq_getElem?_getD,gb,if_pos an,X];rfl
   rw [e,u c (aa c (List.mem_of_getElem? X))];exact c2
  ·simp only [aq,ar] at v C;have e:(r++Dc h.nx (B-p)).getD b 0=h.nx+(b-p):=by rw [List.getD_eq_getElem?_getD,gb,if_neg (by omega),if_pos C];rfl
   rw [e,S b v C];exact H
 have kinds:∀c y,t.get c=some y→(∃i x,(r++Dc h.nx (B-p))[i]?=some c∧(Ba post).get i=some x∧@Ab.inst U.toFacts F (r++Dc h.nx (B-p)) x=some y)∨(c∉r∧c<h.nx∧h.blk.get c=some y):=by
  intro c y I;by_cases hm:c∈r++Dc h.nx (B-p)
  ·obtain ⟨i,hi,e⟩:=List.getElem_of_mem hm;have ao:(r++Dc h.nx (B-p))[i]?=some c:=List.getElem?_eq_some_iff.2 ⟨hi,e⟩;rcases t2 i c ao with ⟨_,q⟩|⟨x,y',v,C,a3⟩
   ·rw [q] at I;cases I
   ·rw [a3] at I;cases I;exact .inl ⟨i,x,ao,by rw [Ce,v];rfl,C⟩
  ·rw [t1 c hm] at I;refine .inr ⟨fun e=>hm (List.mem_append_left _ e),?_,I⟩
   rcases Nat.lt_or_ge c h.nx with q|q
   ·exact q
   ·rw [hwf c q] at I;cases I
 have z:∀i c g,(r++Dc h.nx (B-p))[i]?=some c→M c=some g→σ i=some g:=by
  intro i c g hi n;rw [gb] at hi;by_cases d:i<p
  ·rw [if_pos d] at hi;rw [u c (aa c (List.mem_of_getElem? hi))] at n;exact ad.m i g (by show (r[i]?).bind ρ.m=some g;rw [hi];exact n)
  ·rw [if_neg d] at hi;split at hi
   ·rename_i d2;cases hi;rw [S i (by omega) d2] at n;exact n
   ·cases hi
 have J:∀G f c g y,(ρ.back r).m G=some f→(Ba pre).get G≠none→c∉r→ρ c=some g→h.blk.get c=some y→f.cb≠g.cb:=by
  intro G f c g y h1 h2 h3 h4 h5;obtain ⟨X,Q,Y⟩:=back G f h1;obtain ⟨c2,y2,e3,e4⟩:=s G h2;rw [Q] at e3;cases e3;exact hr.apart X c f g (fun e=>h3 (e▸List.mem_of_getElem? Q)) Y h4 (by rw [e4];exact Option.some_ne_none _) (by rw [h5];exact Option.some_ne_none _)
 have mixed:∀i c g L D y' x,(r++Dc h.nx (B-p))[i]?=some c→(Ba post).get i=some x→M c=some g→L∉r→L<h.nx→h.blk.get L=some y'→M L=some D→g.cb≠D.cb:=by
  intro i c g L D y' x hi hx n h3 h4 h5 h6;rw [u L h4] at h6;have aw:=z i c g hi n;rcases P.new i g aw with hq|⟨v,C,a3|⟨G,f,Q,Y,e3⟩⟩
  ·rcases P.live i (by show (Ba post).get i≠none;rw [hx];exact Option.some_ne_none _) with l|⟨l1,l2⟩
   ·exact J i g L D y' hq l h3 h6 h5
   ·simp only at l1;rw [R i l1] at hq;cases hq
  ·have:=hr.lt L D h6;omega
  ·rw [←e3];exact J G f L D y' Q Y h3 h6 h5
 refine ⟨M,FL (U:=U) (W:=Cw U FF F A) hV hK am (fun k a N=>N) res v' q2,⟨?_,?_,?_,?_,?_,hr.glob.mono ag.imm⟩,⟨ag,by show h.nx≤h.nx+_;omega,?_,P.calm,?_,⟨r,rfl,?_⟩,?_,?_⟩⟩
 ·intro c g n;by_cases d:h.nx≤c∧c<h.nx+(B-p)
  ·have:M c=σ (p+(c-h.nx)):=by show (if _ then _ else _)=_;rw [if_pos d]
   rw [this] at n;exact HR.lt (U:=(Cw U FF F A).toVals) q3 _ g n
  ·have:M c=ρ c:=by show (if _ then _ else _)=_;rw [if_neg d]
   rw [this] at n;have:=hr.lt c g n;have:=P.calm.size;omega
 ·intro c g y n I;rcases kinds c y I with ⟨i,x,v,C,a3⟩|⟨v,C,a3⟩
  ·exact W5 (U:=U) (W:=Cw U FF F A) hV hK am (fun k a N=>N) a3 (HR.blk (U:=(Cw U FF F A).toVals) q3 i g x (z i c g v n) C)
  ·rw [u c C] at n;have N:=P.kept g.cb (hr.lt c g n) (fun G f ax ay=>J G f c g y ax ay v n a3)
   rw [N];exact (hr.blk c g y n a3).mono ag
 ·intro c L g D ap n Z h1 h2;cases I:t.get c with
  |none=>exact absurd I h1
  |some y=>
   cases ah:t.get L with
   |none=>exact absurd ah h2
   |some y'=>
    rcases kinds c y I with ⟨i,x,v,C,a3⟩|⟨v,C,a3⟩
    ·rcases kinds L y' ah with ⟨i',x',b1,b2,b3⟩|⟨b1,b2,b3⟩
     ·exact HR.apart (U:=(Cw U FF F A).toVals) q3 i i' g D (fun e=>by subst e;rw [v] at b1;cases b1;exact ap rfl) (z i c g v n) (z i' L D b1 Z) (by rw [C];exact Option.some_ne_none _) (by rw [b2];exact Option.some_ne_none _)
     ·exact mixed i c g L D y' x v C n b1 b2 b3 Z
    ·rcases kinds L y' ah with ⟨i',x',b1,b2,b3⟩|⟨b1,b2,b3⟩
     ·exact (mixed i' L D c g y x' b1 b2 Z v C a3 n).symm
     ·rw [u c C] at n;rw [u L b2] at Z;exact hr.apart c L g D ap n Z (by rw [a3];exact Option.some_ne_none _) (by rw [b3];exact Option.some_ne_none _)
 ·intro k arr N;exact HR.imm (U:=(Cw U FF F A).toVals) q3 k arr N
 ·intro k arr c g N n hl;cases I:t.get c with
  |none=>exact absurd I hl
  |some y=>
   rcases kinds c y I with ⟨i,x,v,C,a3⟩|⟨v,C,a3⟩
   ·exact HR.off (U:=(Cw U FF F A).toVals) q3 k arr i g N (z i c g v n) (by rw [C];exact Option.some_ne_none _)
   ·rw [u c C] at n;have az:h.blk.get c≠none:=by rw [a3];exact Option.some_ne_none _
    rcases P.imm k arr N with e|e|⟨G,f,Q,Y,e3⟩
    ·exact hr.off k arr c g e n az
    ·have:=hr.lt c g n;omega
    ·rw [←e3];exact (J G f c g y Q Y v n a3).symm
 ·intro c g n;by_cases d:h.nx≤c∧c<h.nx+(B-p)
  ·have e:M c=σ (p+(c-h.nx)):=by show (if _ then _ else _)=_;rw [if_pos d]
   rw [e] at n;refine .inr ⟨d.1,d.2,?_⟩;rcases P.new _ g n with hq|⟨_,_,a3|⟨G,f,Q,Y,e3⟩⟩
   ·rw [R _ (by omega)] at hq;cases hq
   ·exact .inl a3
   ·obtain ⟨X,x1,x2⟩:=back G f Q;obtain ⟨c2,y2,x3,x4⟩:=s G Y;rw [x1] at x3;cases x3;exact .inr ⟨X,f,x2,by rw [x4];exact Option.some_ne_none _,e3⟩
  ·have e:M c=ρ c:=by show (if _ then _ else _)=_;rw [if_neg d]
   rw [e] at n;exact .inl n
 ·intro k N a0;refine P.kept k N (fun G f Q Y=>?_)
  obtain ⟨X,x1,x2⟩:=back G f Q;obtain ⟨c2,y2,x3,x4⟩:=s G Y;rw [x1] at x3;cases x3;exact a0 X f x2 (by rw [x4];exact Option.some_ne_none _)
 ·intro b H ab;refine t1 b (fun hm=>?_)
  rcases List.mem_append.1 hm with q|q
  ·exact H q
  ·obtain ⟨i,hi,e⟩:=List.getElem_of_mem q;have ac:(Dc h.nx (B-p))[i]?=some b:=by simp [hi,e]
   rw [NN] at ac;split at ac
   ·cases ac;simp only at ab;omega
   ·cases ac
 ·intro b H;show h.blk.get b≠none∨(h.nx≤b∧b<h.nx+(B-p));cases I:t.get b with
  |none=>exact absurd I H
  |some y=>
   rcases kinds b y I with ⟨i,x,v,C,a3⟩|⟨v,C,a3⟩
   ·rw [gb] at v;by_cases d:i<p
    ·rw [if_pos d] at v;rcases P.live i (by show (Ba post).get i≠none;rw [C];exact Option.some_ne_none _) with l|⟨l1,_⟩
     ·obtain ⟨c2,y2,x3,x4⟩:=s i l;rw [v] at x3;cases x3;exact .inl (by rw [x4];exact Option.some_ne_none _)
     ·simp only at l1;omega
    ·rw [if_neg d] at v;split at v
     ·cases v;exact .inr (by omega)
     ·cases v
   ·exact .inl (by rw [a3];exact Option.some_ne_none _)
 ·intro k arr N;rcases P.imm k arr N with e|e|⟨G,f,Q,Y,e3⟩
  ·exact .inl e
  ·exact .inr (.inl e)
  ·obtain ⟨X,x1,x2⟩:=back G f Q;obtain ⟨c2,y2,x3,x4⟩:=s G Y;rw [x1] at x3;cases x3;exact .inr (.inr ⟨X,f,x2,by rw [x4];exact Option.some_ne_none _,e3⟩)
theorem Z1 {U:Unk} {E:Env} (hE:OK E) {F:Nat→D→D} (J:U.V.fn=F) {s:Sm} (L:s.Valid E.P F) {j:List SE} {g:List Nat} {args:List AV} {a:List Value} {h h':Aa} {v:AV} {u:Ren} {w:World}
  (k:WZ E s j g args h=some (v,h')) (M:VL u args a) (hr:HR u h.blk.get w) (hwf:∀b,h.nx≤b→h.blk.get b=none) (n:AJ u h.nx h'.nx) (c0:Frame) (base:List Frame) :
  ∃x A y,B4 E.P (lone (Frame.enter E.P s.f a.toArray .normal) (c0::base) w) c0 base s.ok A y∧VR x v A∧HR x h'.blk.get y∧Ext u x h h' w y:=by
 unfold WZ at k;split at k
 ·rename_i i;split at k
  ·rename_i t N;simp only [Option.some.injEq,Prod.mk.injEq] at k;obtain ⟨rfl,rfl⟩:=k;obtain ⟨i,d⟩:=Aq i;obtain ⟨i,c⟩:=Aq i;obtain ⟨i,o⟩:=Aq i;obtain ⟨i,z⟩:=Aq i;obtain ⟨p,e⟩:=Aq i;obtain ⟨l1,p,B⟩:=QM p;obtain ⟨l2,e,q⟩:=QM e;have d:=CR d;have o:=On o;have hV:(Cw U s.facts j (BV c)).V=U.V.inst j:=rfl;have hK:(Cw U s.facts j (BV c)).K=U.K:=rfl;have O:s.pre.length=g.length:=(Da (U:=U) (W:=Cw U s.facts j (BV c)) hV hK s.pre g _ e q).1;have Q:=DA (U:=U) (W:=Cw U s.facts j (BV c)) hV hK s.args args _ a p B M;have R:=HR.toPat (U:=U) (W:=Cw U s.facts j (BV c)) hV hK hE hr e q z
   have r:∀b,s.pre.length≤b→(u.back g).m b=none:=by
    intro b G;have:g[b]?=none:=List.getElem?_eq_none (by omega)
    simp [Ren.back,this]
   obtain ⟨σ,A,y,S,T,X,Y⟩:=L (U:=Cw U s.facts j (BV c)) hE.kd J (BV c) (u.back g) w a Q R r c0 base;obtain ⟨x,Z,r2,H⟩:=YS (U:=U) (E:=E) (FF:=s.facts) (BV c) rfl rfl e q z o d N hr hwf n T X Y;refine ⟨x,A,y,S,Z,r2,{H with log:=⟨aS h.blk t g,rfl,fun b G hr=>?_⟩}⟩
   by_cases I:b∈g
   ·exact Sf I G
   ·obtain ⟨l,C,e2⟩:=H.log;have C:g++h.log=l++h.log:=C;have:=List.append_cancel_right C;subst this;exact e2 b I hr
  ·cases k
 ·cases k
theorem Bq [Facts] {E:Env}:∀(l:List (Option Ab)) (i:Nat) (m:Bd) (h:Aa),h.nx≤(AT E l i m h).2.nx
 |[],_,_,_=>Nat.le_refl _
 |none::r,i,m,h=>by
  simp only [AT];split
  ·exact Bq r (i+1) m h
  ·exact Nat.le_trans (Nat.le_succ _) (Bq (E:=E) r (i+1) (m.blk i h.nx) {h with nx:=h.nx+1})
 |some x::r,i,m,h=>by
  simp only [AT];split
  ·split
   ·exact Bq r (i+1) _ h
   ·exact Bq r (i+1) _ h
  ·split
   ·rename_i e y;have:=Bq (E:=E) r (i+1) ((m.blk i h.nx).var y .nilL) (h.new (.arr e .nilL));exact Nat.le_trans (Nat.le_succ _) this
   ·rename_i k v y;have:=Bq (E:=E) r (i+1) ((m.blk i h.nx).var y .emptyL) (h.new (.dmap k v .emptyL));exact Nat.le_trans (Nat.le_succ _) this
   ·exact Bq r (i+1) _ h
theorem Bn {U:Unk} {E:Env} {ρ:Ren} {w:World}:∀(l:List (Option Ab)) (i:Nat) (m:Bd) (h:Aa),HR ρ h.blk.get w→WF h→AJ ρ h.nx (AT E l i m h).2.nx→
  HR ρ (AT E l i m h).2.blk.get w∧Ext ρ ρ h (AT E l i m h).2 w w∧WF (AT E l i m h).2
 |[],_,_,h,hr,hwf,_=>⟨hr,Ext.refl _ _ _,hwf⟩
 |none::r,i,m,h,hr,hwf,a=>by
  simp only [AT] at a ⊢;split at a
  ·exact Bn r (i+1) m h hr hwf a
  ·have o:=Bq (E:=E) r (i+1) (m.blk i h.nx) {h with nx:=h.nx+1}
   have g:Ext ρ ρ h {h with nx:=h.nx+1} w w:=⟨Ren.le_refl ρ,Nat.le_succ _,fun _ _ e=>.inl e,GE.refl w,fun _ _ _=>rfl,⟨[],rfl,fun _ _ _=>rfl⟩,fun _ e=>.inl e,fun _ _ e=>.inl e⟩
   obtain ⟨c,d,f⟩:=Bn r (i+1) (m.blk i h.nx) {h with nx:=h.nx+1} hr (g.wf hwf) (g.free a)
   exact ⟨c,g.trans d a,f⟩
 |some x::r,i,m,h,hr,hwf,a=>by
  simp only [AT] at a ⊢;split at a
  ·split at a
   ·exact Bn r (i+1) _ h hr hwf a
   ·exact Bn r (i+1) _ h hr hwf a
  ·split at a
   ·rename_i e y;have o:=Bq (E:=E) r (i+1) ((m.blk i h.nx).var y .nilL) (h.new (.arr e .nilL));have j:(h.new (.arr e .nilL)).nx=h.nx+1:=rfl;obtain ⟨n,b⟩:=HR.phantom hr (a h.nx (Nat.le_refl _) (by omega)) (.arr e .nilL)
    obtain ⟨c,d,f⟩:=Bn r (i+1) _ _ n (b.wf hwf) (b.free a);exact ⟨c,b.trans d a,f⟩
   ·rename_i k v y;have o:=Bq (E:=E) r (i+1) ((m.blk i h.nx).var y .emptyL) (h.new (.dmap k v .emptyL));have j:(h.new (.dmap k v .emptyL)).nx=h.nx+1:=rfl;obtain ⟨n,b⟩:=HR.phantom hr (a h.nx (Nat.le_refl _) (by omega)) (.dmap k v .emptyL)
    obtain ⟨c,d,f⟩:=Bn r (i+1) _ _ n (b.wf hwf) (b.free a);exact ⟨c,b.trans d a,f⟩
   ·exact Bn r (i+1) _ h hr hwf a
theorem Ue {U:Unk} {E:Env} (hE:OK E) {w:World} {p a f:AV} {v:Value} {d:Ren} {h h':Aa} (hr:HR d h.blk.get w) (g:VR d a v) (b:Tb E p a h=(f,h')) :
  h'.nx=h.nx∧∃c:Ren,VR c f v∧HR c h'.blk.get w∧Ext d c h h' w w:=by
 unfold Tb at b;split at b
 ·rename_i r s;split at b;rename_i e t j;cases b;cases g with
  |agg _ k l m=>
   obtain ⟨n,c,i,o,q⟩:=M2 hE hr ⟨l,m⟩ j;exact ⟨n,c,.agg e k i.1 i.2,o,q⟩
 ·exact ⟨RV b,MZ hE hr g b⟩
theorem Sp {U:Unk} {E:Env} (hE:OK E) {w:World}:∀{q l e:List AV} {f:List Value} {d:Ren} {h h':Aa},HR d h.blk.get w→VL d l f→Up E q l h=(e,h')→
  h'.nx=h.nx∧∃i:Ren,VL i e f∧HR i h'.blk.get w∧Ext d i h h' w w
 |[],l,e,f,d,h,h',hr,g,c=>by
  cases l<;>(simp only [Up] at c;cases c;exact ⟨rfl,d,g,hr,Ext.refl _ _ _⟩)
 |k::n,[],e,f,d,h,h',hr,g,c=>by
  simp only [Up] at c;cases c;exact ⟨rfl,d,g,hr,Ext.refl _ _ _⟩
 |k::n,a::l,e,f,d,h,h',hr,g,c=>by
  obtain ⟨v,r,rfl,s,t⟩:=g.cons_inv;simp only [Up] at c;generalize j:Tb E k a h=u at c;obtain ⟨I,x⟩:=u;simp only at c;generalize m:Up E n l x=y at c;obtain ⟨J,K⟩:=y;simp only at c;cases c;obtain ⟨z,i,A,B,o⟩:=Ue hE hr s j;obtain ⟨C,D,F,G,p⟩:=Sp hE B (t.mono o.le) m;refine ⟨by omega,D,VL.cons (A.mono p.le) F,G,o.trans p (fun b L H=>by omega)⟩
theorem Bu {U:Unk} {E:Env} (hE:OK E) {w:World}:∀(l:List (Option Ab)) (i:Nat) (b:T Nat) (h:Aa) (a:Ren),HR a h.blk.get w→(DX E l i b h).nx=h.nx∧∃f:Ren,HR f (DX E l i b h).blk.get w∧Ext a f h (DX E l i b h) w w
 |[],_,_,h,a,hr=>⟨rfl,a,hr,Ext.refl _ _ _⟩
 |some (.arr e x)::r,i,b,h,a,hr=>by
  have next:=Bu hE r (i+1) b h a hr;simp only [DX];split
  ·rename_i c ks g q;split
   ·split
    ·obtain ⟨s,f,j,k⟩:=Re (e:=e) (b:=c) hE hr;obtain ⟨t,m,o,p⟩:=Bu hE r (i+1) b (HV E e c h) f j;exact ⟨by omega,m,o,k.trans p (fun d u v=>by omega)⟩
    ·exact next
   ·exact next
  ·exact next
 |none::r,i,b,h,a,hr=>Bu hE r (i+1) b h a hr
 |some (.cells n y)::r,i,b,h,a,hr=>by
  have next:=Bu hE r (i+1) b h a hr;simp only [DX];split
  ·rename_i c l g z;split
   ·obtain ⟨s,f,j,k⟩:=LO (ks:=QL l) (b:=c) hE hr;obtain ⟨t,m,o,p⟩:=Bu hE r (i+1) b (Ec E (QL l) c h) f j;exact ⟨by omega,m,o,k.trans p (fun d u v=>by omega)⟩
   ·exact next
  ·exact next
 |some (.map _ _)::r,i,b,h,a,hr=>Bu hE r (i+1) b h a hr
 |some (.dmap _ _ _)::r,i,b,h,a,hr=>Bu hE r (i+1) b h a hr
 |some (.dmapS _ _ _ _ _)::r,i,b,h,a,hr=>Bu hE r (i+1) b h a hr
 |some (.loop _ _ _ _ _ _ _ _ _)::r,i,b,h,a,hr=>Bu hE r (i+1) b h a hr
 |some (.deferred _)::r,i,b,h,a,hr=>Bu hE r (i+1) b h a hr
 |some (.mapIter _ _ _ _)::r,i,b,h,a,hr=>Bu hE r (i+1) b h a hr
 |some (.strIter _ _ _)::r,i,b,h,a,hr=>Bu hE r (i+1) b h a hr
theorem jK {U:Unk} {E:Env} (hE:OK E) {w:World} {s:Sm} {l c:List AV} {f:List Value} {d:Ren} {h h':Aa} (hr:HR d h.blk.get w) (j:VL d l f) (e:TZ E s l h=(c,h')) :
  h'.nx=h.nx∧∃a:Ren,VL a c f∧HR a h'.blk.get w∧Ext d a h h' w w:=by
 unfold TZ at e;split at e;rename_i args g k;cases e;obtain ⟨t,a,m,n,o⟩:=Sp hE hr j k;obtain ⟨u,p,q,i⟩:=Bu hE s.pre 0 (Hi E s.pre g (Es s.args c ⟨.nil,.nil⟩)).b g a n;exact ⟨by omega,p,m.mono i.le,q,o.trans i (fun b v r=>by omega)⟩
theorem Nw {U:Unk} {a:AV} {v:Value} {c d:Ren} (h:WR a=true) (f:VR c a v):VR d a v:=by
 cases f with
 |bool b=>exact .bool b
 |int k n=>exact .int k n
 |str s=>exact .str s
 |sb p e=>exact .sb p e
 |si k e=>exact .si k e
 |ss x=>exact .ss x
 |_=>cases h
theorem Yp {U:Unk} {a:AV} {v:Value} {d e:Ren} (h:R4 a=true) (b:VR d a v):VR e a v:=by
 unfold R4 at h;split at h
 ·rename_i l;cases b with
  |tuple _ f g j=>exact .tuple l f g fun i a v c b=>Nw (List.all_eq_true.mp h a (List.mem_of_getElem? c)) (j i a v c b)
 ·exact Nw h b
theorem HR.still {U:Unk} {ρ:Ren} {g:Nat→Option Ab} {w j:World} (hr:HR ρ g w) (r:w.heap.size≤j.heap.size) (l:∀k,k<w.heap.size→j.heap[k]?=w.heap[k]?):HR ρ g j:=by
 refine ⟨fun b base i=>Nat.lt_of_lt_of_le (hr.lt b base i) r,fun b base x i t=>?_,hr.apart,fun k arr hi=>?_,hr.off,hr.glob⟩
 ·rw [l _ (hr.lt b base i)];exact hr.blk b base x i t
 ·rw [l _ (hr.immLt hi)];exact hr.imm k arr hi
theorem kQ {U:Unk} {E:Env} (hE:OK E) {F:Nat→D→D} (G:U.V.fn=F) {s:Sm} (H:s.Valid E.P F) {l:List SE} {y:List Nat} {args:List AV} {a:List Value} {h h0 h':Aa} {v:AV} {o c:Ren} {w:World}
  (d:WZ E s l y args h=some (v,h')) (I:s.pre=[]) (J:s.post=[]) (K:R4 v=true) (p:y=[]) (L:VL o args a) (hr:HR o h.blk.get w) (q:HR c h0.blk.get w) (c0:Frame) (base:List Frame) :
  ∃m n j,B4 E.P (lone (Frame.enter E.P s.f a.toArray .normal) (c0::base) w) c0 base s.ok n j∧VR m v n∧HR m h0.blk.get j∧Ext c m h0 h0 w j:=by
 subst p
 have i:∃g,WZ E s l [] args {h with blk:=.nil}=some (v,g)∧g.nx=h.nx:=by
  unfold WZ at d ⊢;rw [I,J] at d ⊢;split at d
  ·rename_i M;have r:(Kq (FW l [] s.args args)&&Kq (En E l [] {h with blk:=.nil} [] [])&&E3 []&&Qa h.nx []&&I6 l s.facts&&Nat.ble ([]:List (Option Ab)).length ([]:List (Option Ab)).length)=true:=M
   rw [r];split at d
   ·simp only [Option.some.injEq,Prod.mk.injEq] at d;obtain ⟨rfl,rfl⟩:=d;exact ⟨_,rfl,rfl⟩
   ·cases d
  ·cases d
 obtain ⟨g,i,N⟩:=i;have t:∀b,({h with blk:=T.nil}:Aa).blk.get b=none:=fun b=>by exact T.get_nil b
 have u:HR o ({h with blk:=T.nil}:Aa).blk.get w:=hr.restrict fun b=>.inl (t b)
 obtain ⟨m,n,j,O,Q,_,z⟩:=Z1 hE G H i L u (fun b _=>t b) (fun b R A=>by rw [N] at A;exact absurd A (Nat.not_lt.2 R)) c0 base
 have B:∀k,k<w.heap.size→j.heap[k]?=w.heap[k]?:=fun k x=>z.kept k x fun b base _ S=>absurd (t b) S
 have C:=z.calm;exact ⟨c,n,j,O,Yp K Q,q.still C.size B,⟨Ren.le_refl c,Nat.le_refl _,fun _ _ e=>.inl e,C,fun k x _=>B k x,⟨[],rfl,fun _ _ _=>rfl⟩,fun _ e=>.inl e,fun _ _ e=>.inl e⟩⟩
theorem Jm {U:Unk} {E:Env} (hE:OK E) {F:Nat→D→D} (u:U.V.fn=F) {f:FuncId} {args:List AV} {j:List Value} {h g:Aa} {ok:Bool} {v:AV} {x:Ren} {w:World}:∀{l:List Sm},(∀s∈l,s.Valid E.P F)→Oe E l f args h=some (ok,v,g)→VL x args j→HR x h.blk.get w→WF h→AJ x h.nx g.nx→
  ∀(c0:Frame) (base:List Frame),∃z y q,B4 E.P (lone (Frame.enter E.P f j.toArray .normal) (c0::base) w) c0 base ok y q∧VR z v y∧HR z g.blk.get q∧Ext x z h g w q
 |[],_,k,_,_,_,_=>by simp [Oe] at k
 |s::r,hO,k,A,hr,hwf,c=>by
  simp only [Oe] at k;split at k
  ·rename_i R;have S:=Aw R;subst S;split at k
   ·rename_i xv xg a;simp only [Option.some.injEq,Prod.mk.injEq] at k;obtain ⟨rfl,rfl,rfl⟩:=k;unfold dR at a;split at a;rename_i d h0 o;split at a;rename_i m p B;have o:TZ E s args h=(d,h0):=o;obtain ⟨T,C,L,M,z3⟩:=jK hE hr A o;have t:WF h0:=z3.wf hwf;have G:(AT E s.pre 0 (Hi E s.pre h0 (Es s.args d ⟨.nil,.nil⟩)) h0).2=p:=by rw [B]
    split at a;rotate_left
    ·cases a
    rename_i W n;obtain ⟨v0,N⟩:=W;have a:=Option.some.inj a;unfold wM at a;split at a
    ·rename_i H X Y;simp only [Prod.mk.injEq] at a;obtain ⟨rfl,rfl⟩:=a;intro c0 base;have I:p=h0:=by rw [←G,H];rfl
     subst I;exact kQ hE u (hO s (by simp)) (args:=d) (h:=p) n H X Y (by rw [H];rfl) L M hr c0 base
    simp only [Prod.mk.injEq] at a;obtain ⟨rfl,rfl⟩:=a;have a:=n
    have Z:p.nx≤N.nx:=by
     unfold WZ at a;split at a
     ·split at a
      ·simp only [Option.some.injEq,Prod.mk.injEq] at a;obtain ⟨_,rfl⟩:=a;show p.nx≤p.nx+_;omega
      ·cases a
     ·cases a
    have i:AJ C h0.nx N.nx:=z3.free c;obtain ⟨O,J,Q⟩:=Bn (E:=E) s.pre 0 (Hi E s.pre h0 (Es s.args d ⟨.nil,.nil⟩)) h0 M t (fun b b1 b2=>i b b1 (by rw [G] at b2;omega))
    rw [G] at O J Q;intro c0 base;obtain ⟨τ,y,q,r1,r2,r3,r4⟩:=Z1 hE u (hO s (by simp)) a L O Q (J.free i) c0 base
    exact ⟨τ,y,q,r1,r2,r3,z3.trans (J.trans r4 i) c⟩
   ·exact Jm hE u (fun e K=>hO e (by simp [K])) k A hr hwf c
  ·exact Jm hE u (fun e K=>hO e (by simp [K])) k A hr hwf c
end Go.AE
namespace Go.AE
variable [Gl:AH]
def D3 [Facts] (E:Env) (s:AS) (f:Operand) (params:List Tmp) (assign body:Code) (k:List AI):Option (FuncId×List AV×Aa×AF):=
 match Yz s.fr s.h with
 |some (d,a,mark)=>match Ag s.fr.tmps f with
  |.func fn first captured=>match BT E fn captured (first++[.func (.yield a.nx) [] []]) (a.new (.loop .ready none s.fr.fn s.fr.nt s.fr.tmps params assign body d)) with
   |.enter g args _=>some (g,args,a.new (.loop .ready none s.fr.fn s.fr.nt s.fr.tmps params assign body d),{s.fr with todo:=.inRange a.nx::k,defers:=mark++s.fr.defers})
   |_=>none
  |_=>none
 |none=>none
variable [U:Unk]
section
variable {E:Env} (hE:OK E) {ρ:Ren} {w:World} {c:Frame} {ccs:List Frame} {s:AS}
include hE
theorem X8 {base:List Frame} {d:Frame} {w0:World} {h h':Aa} {sm:Sem Next} {g:FuncId} {args:List AV} {f:AF}
  (i:(stepG E.P true {frame:=d,callers:=ccs++base,status:=.running,dying:=none} w0).bare=(stepG.apply E.P true c (ccs++base) none sm w).bare)
  (l:ED E ρ h w sm (.enter g args h')) (m:FrR ρ f c):∃b:List Value,VL ρ args b∧step E.P (lone d (ccs++base) w0)=.next (lone (Frame.enter E.P g b.toArray .normal) (c::(ccs++base)) w):=by
 obtain ⟨rfl,b,n,e⟩:=l;refine ⟨b,n,step_lone_go ?_⟩;rw [i];have j:=m.todo;simp only [stepG.apply,Sem.runT_eq,e,if_true,GStep.bare_after,GStep.bare_go];generalize c.todo=td at j;generalize f.todo=p at j;cases j with
 |nil=>rfl
 |cons a _=>cases a<;>rfl
 |rest=>
  generalize o:U.R=r;cases r with
  |nil=>rfl
  |cons x k=>cases x<;>first|rfl|exact absurd o (U.hR _ _ _ _ _)
theorem Ir (z:SR ρ s c ccs w) (hm:c.mode=.run) {K:Operand} {params:Array Tmp} {assign body:Code} {k:List AI} {L:List Item} (hk:IL ρ k L) (ht:c.todo=.code (.rangeFunc K params assign body)::L)
  {g:FuncId} {args:List AV} {M:Aa} {C:AF} (v:D3 E s K params.toList assign body k=some (g,args,M,C)) (i:AJ ρ s.h.nx M.nx) (base:List Frame) :
  ∃u Q e w1,step E.P (lone c (ccs++base) w)=.next (lone (Frame.enter E.P g e.toArray .normal) (Q::(ccs++base)) w1)∧VL u args e∧FrR u C Q∧HR u M.blk.get w1∧Ext ρ u s.h M w w1:=by
 unfold D3 at v;split at v
 ·rename_i d p mark A;split at v
  ·rename_i fn first captured R;split at v
   ·rename_i g2 S aa T;cases v;have D:(p.new (.loop .ready none s.fr.fn s.fr.nt s.fr.tmps params.toList assign body d)).nx=p.nx+1:=rfl;obtain ⟨u,w1,N,j,t,q2,q3,q4,O⟩:=Wr (E:=E) z.h z.fr A (fun b p h2=>i b p (by simp only [D];omega))
    have B:=z.fr.mono O.le;have o:u p.nx=none:=(O.free i) p.nx (Nat.le_refl _) (by simp only [D];omega)
    have q:=Ren.le_upd o ⟨w1.heap.size,0,0⟩;obtain ⟨Y,p2⟩:=q4.new o (.loop .ready none s.fr.fn s.fr.nt s.fr.tmps params.toList assign body d)
     (.loop {state:=.ready,pending:=none,fn:=c.fn,tmps:=c.tmps,params:=params,assign:=assign,body:=body,defers:=N.cb}) 0
     ⟨c.tmps,N,q.m _ _ q2,B.tm.mono q,by rw [B.fn]⟩
     {w1 with heap:=w1.heap.push (.loop {state:=.ready,pending:=none,fn:=c.fn,tmps:=c.tmps,params:=params,assign:=assign,body:=body,defers:=N.cb})} rfl rfl rfl rfl
    have Z:(u.upd p.nx ⟨w1.heap.size,0,0⟩) p.nx=some ⟨w1.heap.size,0,0⟩:=by simp [Ren.upd]
    have F:(Instr.enterLoop c.fn c.tmps params assign body c.roundOf).run E.P w=.ok (w1.heap.size,j) {w1 with heap:=w1.heap.push (.loop {state:=.ready,pending:=none,fn:=c.fn,tmps:=c.tmps,params:=params,assign:=assign,body:=body,defers:=N.cb})}:=by
     cases G:c.roundOf with
     |some l=>
      rw [G] at t;simp only [NS,Sem.run_bind,Sem.run_pure] at t;simp only [Instr.enterLoop,Sem.run_bind,Sem.run_pure,run_newObj,Result.andThen_ok];cases hG:(Instr.getLoop l).run E.P w with
      |ok a w2=>
       rw [hG] at t;simp only [Result.andThen_ok,Result.ok.injEq,Prod.mk.injEq] at t ⊢;obtain ⟨⟨H,I⟩,V⟩:=t;rw [H,I,V];exact ⟨⟨rfl,rfl⟩,rfl⟩
      |halt x w2=>rw [hG] at t;cases t
     |none=>
      rw [G] at t;simp only [NS,Sem.run_bind,Sem.run_pure,run_newObj,Result.andThen_ok,Result.ok.injEq,Prod.mk.injEq] at t;obtain ⟨⟨H,I⟩,V⟩:=t;simp only [Instr.enterLoop,Sem.run_bind,Sem.run_pure,run_newObj,Result.andThen_ok];rw [←H,←I,←V]
    have n:=B.mono q;have W:=n.evR K;rw [R] at W;generalize X:c.eval K=cv at W;cases W with
    |func _ ab _ _ f' Q r1 r2 r3 r4 r5=>
     have ha:VL (u.upd p.nx ⟨w1.heap.size,0,0⟩) (first++[.func (.yield p.nx) [] []]) (f'++[.func (.yield w1.heap.size) #[] #[]]):=
      VL.append ⟨r2,r3⟩ (VL.cons (.func _ _ [] [] [] [] ⟨_,Z,rfl⟩ rfl (by simp) rfl (by simp)) (VL.nil _))
     have r:=D9 hE Y r1 ⟨r4,r5⟩ ha;rw [T] at r
     have y:FrR (u.upd p.nx ⟨w1.heap.size,0,0⟩) {s.fr with todo:=.inRange p.nx::k,defers:=mark++s.fr.defers} {c with todo:=.inRangeFunc w1.heap.size::L,defers:=j++c.defers}:=
      ⟨n.fn,n.tm,.cons (.inRange _ _ Z) ((hk.mono O.le).mono q),(q3.mono q).append n.defers,n.mode,n.kind,n.round⟩
     obtain ⟨e,H,I⟩:=X8 hE (base:=base) (c:={c with todo:=.inRangeFunc w1.heap.size::L,defers:=j++c.defers})
      (f:={s.fr with todo:=.inRange p.nx::k,defers:=mark++s.fr.defers}) (L4 hm ht F) (r.congr (by
       have J:c.eval (.const (.func (.yield w1.heap.size) #[] #[]))=.func (.yield w1.heap.size) #[] #[]:=rfl;simp [resolve,X,J,Deferred.ofValue])) y
     exact ⟨_,_,e,_,I,H,y,Y,O.trans p2 i⟩
   ·cases v
  ·cases v
 ·cases v
end
end Go.AE
namespace Go.AE
variable [Gl:AH]
def Qb:List Orc→FuncId→List AV→Aa→Option (Bool×AV×Aa)
 |[],_,_,_=>none
 |e::r,f,args,h=>match Nat.beq e.f f&&(Nat.beq e.nx h.nx||(Nat.beq (e.nx%4096) 0&&Nat.ble h.nx e.nx))&&Hy e.args args&&PC e.part h.blk with
  |true=>some (e.ok,e.v,AX {h with nx:=e.nx} {blk:=e.out,nx:=e.nx',log:=e.wr})
  |false=>Qb r f args h
def ky [U:Facts]:AV→AV
 |.ss x=>match U7 x U.facts with
  |some (l,b)=>.str l b
  |none=>.ss x
 |a=>a
def ssA:AV→Bool
 |.ss _=>true
 |_=>false
def Le [Facts] (E:Env) (f:FuncId) (args:List AV) (h:Aa):Option (Bool×AV×Aa):=
 match E.ox.get f with
 |some l=>(match Qb l f args h with
  |some r=>some r
  |none=>match (match args.any ssA with
   |true=>Qb l f (args.map ky) h
   |false=>none) with
   |some r=>some r
   |none=>match Oe E E.sms f args h with
    |some r=>some r
    |none=>none)
 |none=>match Oe E E.sms f args h with
  |some r=>some r
  |none=>none
def Yv (h:Aa):AV→AV
 |.slice b 0 n a=>match h.blk.get b with
  |some (.arr _ _)=>.asl b a (.c n) (.bc false)
  |_=>.slice b 0 n a
 |x=>x
def Aml (h:Aa):AV→Bool
 |.slice b 0 _ _=>match h.blk.get b with
  |some (.arr _ _)=>true
  |_=>false
 |_=>false
def T.anyA {i:Type} (f:i→Bool):T i→Bool
 |.nil=>false
 |.node v l r=>(match v with|some x=>f x|none=>false)||l.anyA f||r.anyA f
def au (h:Aa) (fr:AF):AF:=match fr.tmps.anyA (Aml h) with
 |true=>{fr with tmps:=fr.tmps.mapA (Yv h)}
 |false=>fr
def iP [Facts] (E:Env) (s:AS) (all:Array Oper) (o:Oper) (r:List Oper):Option AS:=
 match o.op,r,o.dst with
 |.slice t x (some lo) none none,o2::_,some d=>match o2.op with
  |.call c=>match c.callee,c.argTypes.toList,c.args.toList with
   |.builtin .clear,[i],[.tmp j]=>match Ag s.fr.tmps x,toI (Ag s.fr.tmps lo) with
    |.asl b f n q,some (_,l)=>match E.desc t,E.desc i,s.h.blk.get b with
     |some (.slice e),some (.slice k),some (.arr m y)=>match E.zero e,E.kinds e with
      |some z,some p=>match Nat.beq d j&&(Nat.beq e k&&(Nat.beq e m&&(Nat.beq z.cells.length f&&(Nat.beq f p.length&&(Em z.cells&&(E.szIs e f&&(Et n y&&inB l n n))))))) with
       |true=>match Bf all o s.fr.tmps,A3 s.fr .top with
        |some true,some a=>match Bf all o2 a.tmps,A3 a .top with
         |some true,some g=>some {s with fr:=g,h:=s.h.put b (.arr e (.sub y (.c 0) l))}
         |_,_=>none
        |_,_=>none
       |false=>none
      |_,_=>none
     |_,_,_=>none
    |_,_=>none
   |_,_,_=>none
  |_=>none
 |_,_,_=>none
def iX [Facts] (t:T AV):List Tmp→Option (Tmp×AV)
 |[]=>none
 |i::r=>match t.get i with
  |some (.nmap b a)=>match iL (.nmap b a) with
   |.nmap _ _=>iX t r
   |v=>some (i,v)
  |_=>iX t r
def Asq [Facts] (s:AS):Option AS:=match s.fr.todo with
 |.ops all (o::_)::_=>match iX s.fr.tmps (Bg all o) with
  |some (i,v)=>some {s with fr:={s.fr with tmps:=s.fr.tmps.set i v}}
  |none=>none
 |_=>none
def hU [Facts] (E:Env) (s:AS):Option AS:=
  match E.orc.isEmpty&&E.sms.isEmpty with
  |true=>none
  |false=>match s.fr.mode with
    |.run=>match s.fr.todo with
      |.ops all (o::r)::_=>match iP E s all o r with
       |some c=>some c
       |none=>match O5 o.op with
        |false=>match Bf all o s.fr.tmps with
          |some true=>match aop E s.fr.tmps s.h o.op with
            |.enter g args _=>match Le E g args s.h with
              |some (true,v,h)=>match A3 s.fr v with
                |some fr=>some {s with fr:=au h fr,h}
                |none=>none
              |some (false,v,h)=>some {s with fr:=au h {s.fr with mode:=.panic [(v,false)]},h}
              |none=>none
            |_=>none
          |_=>none
        |true=>none
      |.code (.rangeFunc f params assign body)::k=>match D3 E s f params.toList assign body k with
        |some (g,args,b,a)=>match Le E g args b with
          |some (true,v,h)=>match Nat.ble b.nx h.nx,A3 a v with
            |true,some fr=>some {s with fr:=au h fr,h}
            |_,_=>none
          |some (false,v,h)=>match Nat.ble b.nx h.nx with
            |true=>some {s with fr:=au h {a with mode:=.panic [(v,false)]},h}
            |false=>none
          |none=>none
        |none=>none
      |_=>none
    |_=>none
def Ww [Facts] (E:Env) (s:AS):Option AS:=match Asq s with
 |some a=>some a
 |none=>hU E s
def YL (n:Nat):List Out→Option (List AS)
 |[]=>some []
 |.next s::r=>match Nat.beq s.h.nx n,YL n r with
  |true,some l=>some (s::l)
  |_,_=>none
 |_=>none
def fg [U:Facts] (E:Env) (s:AS):Option (List AS):=
 match s.fr.mode,s.fr.todo with
 |.run,.ops all (o::_)::_=>match Bf all o s.fr.tmps with
  |some true=>match o.op with
   |.next it false=>match M0 (Ag s.fr.tmps it) s.h with
    |some l=>YL s.h.nx (l.map fun p=>Bv E s.fr s.cs (.val p.1 p.2))
    |none=>none
   |_=>none
  |_=>none
 |_,_=>none
def lA (ok:Bool) (v:AV) (n:Nat):List (Option (Bool×AV×Aa))→Bool
 |[]=>true
 |some (a,b,h')::r=>(a==ok)&&Br b v&&Nat.beq h'.nx n&&lA ok v n r
 |none::_=>false
def Q3 (h:Aa):Nat→List Nat
 |0=>[]
 |n+1=>match h.blk.get n with
  |some _=>n::Q3 h n
  |none=>Q3 h n
def gY (s:AS):List (Option (Bool×AV×Aa))→Option (Bool×AV×Aa)
 |some (ok,v,h)::r=>match lA ok v h.nx r&&Nat.ble s.h.nx h.nx with
  |true=>some (ok,v,{blk:=.nil,nx:=h.nx,log:=Q3 s.h s.h.nx++s.h.log})
  |false=>none
 |_=>none
def ix:List Oper→List Tmp
 |[]=>[]
 |o::r=>match o.dst with
  |some d=>d::ix r
  |none=>ix r
def HE:Code→List Tmp
 |.region _ ops _=>ix ops.toList
 |.seq a b=>HE a++HE b
 |.cond _ a b=>HE a++HE b
 |.block _ a=>HE a
 |.loop a=>HE a
 |.scope a=>HE a
 |.rangeFunc _ c a b=>c.toList++(HE a++HE b)
 |_=>[]
def eu:List AI→List Tmp
 |.inLoop b::_=>HE b
 |_::k=>eu k
 |[]=>[]
def Zs:List Tmp→T AV→T AV
 |[],t=>t
 |d::r,t=>Zs r (t.del d)
def Aal (n:Nat):Fn→Bool
 |.yield l=>Nat.blt l n
 |_=>true
mutual
def GN (n:Nat):AV→Bool
 |.ptr b _=>Nat.blt b n
 |.slice b _ _ _=>Nat.blt b n
 |.map b=>Nat.blt b n
 |.func fn f c=>Aal n fn&&(EZ n f&&EZ n c)
 |.iface _ v=>GN n v
 |.agg l=>EZ n l
 |.tuple l=>EZ n l
 |.asl b _ _ _=>Nat.blt b n
 |.aptr b _ _ _=>Nat.blt b n
 |.nmap b _=>Nat.blt b n
 |.stamp b=>Nat.blt b n
 |_=>true
termination_by structural a=>a
def EZ (n:Nat):List AV→Bool
 |[]=>true
 |a::l=>GN n a&&EZ n l
termination_by structural l=>l
end
def T.allA {i:Type} (p:i→Bool):T i→Bool
 |.nil=>true
 |.node v l r=>(match v with|some x=>p x|none=>true)&&(l.allA p&&r.allA p)
def mz (n:Nat):List Am→Bool
 |[]=>true
 |e::r=>GN n e.key&&(GN n e.val&&mz n r)
def lj (n:Nat):List AD→Bool
 |[]=>true
 |d::r=>(match d.fn with|some f=>Aal n f|none=>Nat.blt d.coll n)&&(EZ n d.captured&&(EZ n d.args&&lj n r))
def ZZ (n:Nat):Ab→Bool
 |.cells _ c=>c.allA (GN n)
 |.arr _ _=>true
 |.map a _=>mz n a
 |.dmap _ _ _=>true
 |.loop _ _ _ _ tmps _ _ _ d=>Nat.blt d n&&tmps.allA (GN n)
 |.deferred none=>true
 |.deferred (some l)=>lj n l
 |.mapIter none _ _ _=>true
 |.mapIter (some m) _ _ _=>Nat.blt m n
 |.dmapS _ _ _ _ b=>Nat.blt b n
 |.strIter _ _ _=>true
def aA (S:AS):Bool:=S.fr.tmps.allA (GN S.h.nx)&&S.h.blk.allA (ZZ S.h.nx)
def Ea:T AV→T AV→T AV
 |.node v l r,.node a b c=>.node (match v with|some _=>a|none=>none) (Ea l b) (Ea r c)
 |_,_=>.nil
def Iw:T AV→T AV→Bool
 |.nil,_=>true
 |.node v l r,.node a b c=>(match v with
   |none=>true
   |some x=>(match a with
    |some y=>Br x y
    |none=>false))&&(Iw l b&&Iw r c)
 |.node v l r,.nil=>v.isNone&&(Iw l .nil&&Iw r .nil)
def ew:AI→AI→Bool
 |.code c,.code b=>Cd c b
 |.inBlock i,.inBlock d=>Nat.beq i d
 |.inLoop c,.inLoop b=>Cd c b
 |.inScope c,.inScope b=>Cd c b
 |.ops a l,.ops e f=>LS Ov a e&&FS Ov l f
 |_,_=>false
def Se (f:AF):Bool:=f.defers.isEmpty&&((match f.mode with|.run=>true|_=>false)&&((match f.kind with|.normal=>true|_=>false)&&f.round.isNone))
def L9 (f g:AF):Bool:=Se f&&(Se g&&(Nat.beq f.fn g.fn&&(Nat.beq f.nt g.nt&&FS ew f.todo g.todo)))
def Ek (b:Nat) (f:AF):Bool:=match f.mode,f.todo with
 |.run,.ops _ (o::_)::_=>match o.guard,o.op with
  |none,.next it false=>match Ag f.tmps it with
   |.ptr a 0=>Nat.beq a b
   |_=>false
  |_,_=>false
 |_,_=>false
def II (b m a born:Nat) (s:AS):Option AS:=match s.fr.mode,s.fr.todo with
 |.run,.ops _ (o::_)::_=>match o.guard,o.op with
  |none,.entry it=>match Ag s.fr.tmps it with
   |.ptr d 0=>match Nat.beq d b with
    |true=>match s.h.blk.get m with
     |some (.map f c)=>match Nat.beq c a,U4 born f with
      |true,some e=>match A3 s.fr (.tuple [e.key,e.val]) with
       |some fr=>some {s with fr}
       |none=>none
      |_,_=>none
     |_=>none
    |false=>none
   |_=>none
  |_,_=>none
 |_,_=>none
def E1 [Facts] (E:Env) (a:Ask→Aa→Option (Bool×AV×Aa)) (b m c born:Nat):Nat→AS→Option AS
 |0,_=>none
 |f+1,s=>match s.cs.isEmpty&&Ek b s.fr with
  |true=>some s
  |false=>match II b m c born s with
   |some d=>E1 E a b m c born f d
   |none=>match Ww E s with
    |some d=>(match Nat.ble s.h.nx d.h.nx with
     |true=>E1 E a b m c born f d
     |false=>none)
    |none=>match A4 E s with
     |.next d=>(match Nat.ble s.h.nx d.h.nx with
      |true=>E1 E a b m c born f d
      |false=>none)
     |.draw e ops k=>(match BH E a ops e.fr.nt ops.toList [] e.fr.tmps e.h with
      |some (none,tmps,h)=>E1 E a b m c born f {e with fr:={e.fr with tmps,todo:=k},h}
      |_=>none)
     |_=>none
def Fy [Facts] (E:Env) (a:Ask→Aa→Option (Bool×AV×Aa)) (F b m c:Nat) (S:AS) (e:Am):Option AS:=
 match A3 S.fr (.tuple [.bool true,e.key,e.val]) with
 |some fr=>E1 E a b m c e.born F {fr,cs:=[],h:={S.h with log:=[]}}
 |none=>none
def Y2 (nx:Nat) (t a:T Ab):List Nat→Bool
 |[]=>true
 |b::r=>(Nat.ble nx b||(match t.get b with
  |none=>true
  |some x=>match a.get b with
   |some y=>Uo x y
   |none=>false))&&Y2 nx t a r
def Nk (S R:AS):Bool:=Iw S.fr.tmps R.fr.tmps&&Y2 S.h.nx S.h.blk R.h.blk R.h.log
def FP (run:Am→Option AS) (S:AS):List Am→Option (Option (Am×AS)×Nat)
 |[]=>some (none,S.h.nx)
 |e::r=>match run e,FP run S r with
  |some R,some (x,n)=>match R.cs.isEmpty&&(L9 S.fr R.fr&&Nat.ble S.h.nx R.h.nx),Nk S R,x with
   |true,true,x=>some (x,max n R.h.nx)
   |true,false,none=>some (some (e,R),max n R.h.nx)
   |_,_,_=>none
  |_,_=>none
def MV (S:AS) (n:Nat):Option AS:=match A3 S.fr (.tuple [.bool false]) with
 |some fr=>some {S with fr,h:={S.h with nx:=n}}
 |none=>none
def Kk (n:Nat):List Am→List Am
 |[]=>[]
 |e::r=>match Nat.beq e.born n with
  |true=>Kk n r
  |false=>e::Kk n r
def Ac4 (s:AS):Option (Nat×Nat×List Am×Nat):=match s.fr.mode,s.fr.todo with
 |.run,.ops _ (o::_)::_=>match o.guard,o.op with
  |none,.next it false=>match Ag s.fr.tmps it with
   |.ptr b 0=>match s.h.blk.get b with
    |some (.mapIter (some m) c [] last)=>match s.h.blk.get m with
     |some (.map d a)=>match Nat.beq last a&&(Mu c a d&&(Sl 0 d a && !Nat.beq m b)) with
      |true=>some (b,m,d,a)
      |false=>none
     |_=>none
    |_=>none
   |_=>none
  |_,_=>none
 |_,_=>none
def ic [Facts] (E:Env) (a:Ask→Aa→Option (Bool×AV×Aa)) (F b m c:Nat) (f:List Am) (e:Am) (R:AS) (n:Nat) (d:AS):Option AS:=
 match Ek b d.fr&&(aA d && !H2 m R.h.log),FP (Fy E a F b m c d) d (Kk e.born f) with
 |true,some (none,g)=>MV d (max n g)
 |_,_=>none
def oD [Facts] (E:Env) (a:Ask→Aa→Option (Bool×AV×Aa)) (F b m c:Nat) (d:List Am) (S:AS):Option AS:=
 match Ek b S.fr&&aA S,FP (Fy E a F b m c S) S d with
 |true,some (none,n)=>MV S n
 |true,some (some (e,R),n)=>ic E a F b m c d e R n {fr:={S.fr with tmps:=Ea S.fr.tmps R.fr.tmps},cs:=S.cs,h:={R.h with log:=R.h.log++S.h.log}}
 |_,_=>none
def ZY [Facts] (E:Env) (a:Ask→Aa→Option (Bool×AV×Aa)) (F:Nat) (s:AS):Option AS:=match Ac4 s with
 |none=>none
 |some (b,m,d,c)=>oD E a F b m c d {s with fr:={s.fr with tmps:=Zs (eu s.fr.todo) s.fr.tmps},h:=s.h.strike b}
def OM [Facts] (E:Env) (run:FuncId→Bool→AS→Option (Bool×AV×Aa)) (a:Ask) (h:Aa):Option (Bool×AV×Aa):=match a with
 |.enter g args=>match Le E g args h with
  |some r=>some r
  |none=>match B8 E g args .normal with
   |some fr=>run fr.fn true {fr,cs:=[],h}
   |none=>none
 |.round l args=>match Gx l args h with
  |some fr=>run fr.fn true {fr,cs:=[],h}
  |none=>none
def FQ [Facts] (E:Env):Nat→FuncId→Bool→AS→Option (Bool×AV×Aa)
  |0,_,_,_=>none
  |f+1,b,c,s=>match Ww E s with
   |some a=>(match Nat.ble s.h.nx a.h.nx with
     |true=>FQ E f b c a
     |false=>none)
   |none=>match A4 E s with
    |.next a=>match Nat.ble s.h.nx a.h.nx with
      |true=>FQ E f b c a
      |false=>none
    |.done ok v h=>match Nat.ble s.h.nx h.nx&&Nat.beq s.fr.fn b&&(c||s.fr.round.isNone) with
      |true=>some (ok,v,h)
      |false=>none
    |.draw s ops k=>
      match BH E (OM E (FQ E f)) ops s.fr.nt ops.toList [] s.fr.tmps s.h with
      |some (none,tmps,h)=>FQ E f b c {s with fr:={s.fr with tmps,todo:=k},h}
      |some (some v,tmps,h)=>FQ E f b c {s with fr:={s.fr with tmps,todo:=.dead::k,mode:=.panic [(v,false)]},h}
      |none=>none
    |.bad _=>match ZY E (OM E (FQ E f)) f s with
      |some a=>(match Nat.ble s.h.nx a.h.nx with
        |true=>FQ E f b c a
        |false=>none)
      |none=>match fg E s with
        |some l=>gY s (l.map fun a=>FQ E f b c a)
        |none=>none
def tW [Facts] (E:Env) (n:Nat) (f:FuncId) (args:List AV) (h:Aa):Option (Bool×AV×Aa):=
 match B8 E f args .normal with
 |some fr=>FQ E n f false {fr,cs:=[],h}
 |none=>none
def XG [Facts] (E:Env) (N:Nat) (e:Orc):Bool:=
 match tW E N e.f e.args {blk:=e.part,nx:=e.nx,log:=[]} with
 |some (ok,v,g)=>(ok==e.ok)&&Br v e.v&&PC e.out g.blk&&Nat.beq g.nx e.nx'&&bJ e.nx e.wr g.log
 |none=>false
end Go.AE
namespace Go.AE
variable [Gl:AH]
section
variable [U:Unk] {E:Env} (hE:OK E) {ρ:Ren} {h:Aa} {w:World}
include hE
theorem m4 (hr:HR ρ h.blk.get w) {t t1 ty e:TypeId} {J:List Kd} {z:AV} {b g:Nat} {n nl y l:SE} {xv r:Value} {kd:IntKind} (hd:E.desc t=some (.slice e)) (Z:E.desc t1=some (.slice e)) (hz:E.zero e=some z) (hk:E.kinds e=some J)
  (al:z.cells.length=g) (aa:g=J.length) (ab:Em z.cells=true) (hx:VR ρ (.asl b g n nl) xv) (M:h.blk.get b=some (.arr e y)) (hs:E.szIs e g=true) (hn:Et n y=true) (ac:r=.int kd (Af U.V l)) (ae:inB l n n=true) :
  ∃v B,(Instr.sliceAt t xv (some r) none none).run E.P w=.ok v w∧(Builtin.clear_ #[t1] ty #[v]).run E.P w=.ok (.tuple #[]) B∧HR ρ (h.put b (.arr e (.sub y (.c 0) l))).blk.get B∧Ext ρ ρ h (h.put b (.arr e (.sub y (.c 0) l))) w B:=by
 obtain ⟨b0,b1,b2⟩:=KF ae;have C:=Fu hn;have hu:=hE.run_und hd (w:=w);have x:=hE.run_und Z (w:=w);have e0:Af U.V (.c 0)=0:=rfl
 have A:(Ac U.V (.sub y (.c 0) l)).rows.length=(Af U.V l).toNat:=by
  rw [Ef,e0];rw [Al] at C;simp;omega
 have key:∀i,i<(Af U.V l).toNat→(Ac U.V (.sub y (.c 0) l)).rows.getD i default=(Ac U.V y).rows.getD i default:=by
  intro i hi;rw [Ef,e0,NE (by simpa using hi)]
  congr 1
  simp
 have rows:∀{a:List Kd} {co:Nat} {f d:Array Value},Bk U.K ρ.imm a f co (Ac U.V y).rows→d.size=f.size→(∀j,j<co+(Af U.V l).toNat*a.length→d.getD j Go.undef=f.getD j Go.undef)→Bk U.K ρ.imm a d co (Ac U.V (.sub y (.c 0) l)).rows:=by
  intro a co f d hR af O;rw [Al] at C;have ag:(Af U.V l).toNat≤(Ac U.V y).rows.length:=by omega
  refine ⟨?_,fun i hi=>?_,fun i j kd hi Q=>?_⟩
  ·rw [A,af];have:=hR.1;have:=Nat.mul_le_mul_right a.length ag;omega
  ·rw [A] at hi;rw [key i hi];exact hR.2.1 i (by omega)
  ·rw [A] at hi;rw [key i hi,O]
   ·exact hR.2.2 i j kd (by omega) Q
   ·have am:j<a.length:=(List.getElem?_eq_some_iff.1 Q).1;have:(i+1)*a.length≤(Af U.V l).toNat*a.length:=Nat.mul_le_mul_right _ (by omega)
    rw [Nat.add_mul,Nat.one_mul] at this;omega
 have still:HR ρ (h.put b (.arr e (.sub y (.c 0) l))).blk.get w∧Ext ρ ρ h (h.put b (.arr e (.sub y (.c 0) l))) w w:=by
  refine hr.swap (by rw [M];exact Option.some_ne_none _) _ fun base s=>?_
  obtain ⟨a,f,R,S,T,q2,W,X,q5⟩:=hr.blk b base _ s M;exact ⟨a,f,R,S,T,q2,W,X,rows q5 rfl fun _ _=>rfl⟩
 have p1:(some r=none∧l=.c 0)∨∃k,some r=some (.int k (Af U.V l)):=.inr ⟨kd,by rw [ac]⟩
 cases hx with
 |aslEnd _ _ _ _ ad Y qn=>
  have ah:Af U.V l=0:=by omega
  have q:=G7 (P:=E.P) (w:=w) (b:=true) (len:=0) (cap:=0) (u:=n) (du:=n) (hi':=none) (dl:=.c 0) p1 (.inl ⟨rfl,rfl⟩) rfl (by rw [Y];rfl) b0 b1 (by rw [Y];exact Int.le_refl _) (Nat.le_refl _)
  rw [ah,Y] at q;refine ⟨.slice ad 0 0,w,?_,?_,still.1,still.2⟩
  ·simp [Instr.sliceAt,Instr.slice,hu,q,hE.run_szIs hs]
  ·cases ad<;>simp [Builtin.clear_,x]
 |asl _ _ _ _ cap base s Y qc qz qn=>
  have q:=G7 (P:=E.P) (w:=w) (b:=true) (len:=(Af U.V n).toNat) (cap:=cap) (u:=n) (du:=n) (hi':=none) (dl:=.c 0) p1 (.inl ⟨rfl,rfl⟩) rfl (by omega) b0 b1 (by omega) qc
  generalize hL:(Af U.V l).toNat=L at *;generalize hN:(Af U.V n).toNat=N at *;have an:L≤N:=by omega
  have o:(Instr.sliceAt t (.slice (some ⟨base.cb,base.co,none⟩) N cap) (some r) none none).run E.P w=.ok (.slice (if cap=L then some ⟨base.cb,base.co,none⟩ else some ⟨base.cb,base.co+L*g,none⟩) (N-L) (cap-L)) w:=by
   simp [Instr.sliceAt,Instr.slice,hu,q,hE.run_szIs hs,B3]
  by_cases O:N-L=0
  ·rw [O] at o;refine ⟨_,w,o,?_,still.1,still.2⟩;split<;>simp [Builtin.clear_,x]
  ·have D:cap≠L:=by omega
   rw [if_neg D] at o;obtain ⟨a,f,R,S,T,q2,W,X,q5⟩:=hr.blk b base _ s M;have F:U.K e=some J:=by rw [hE.kd,←hE.ke];exact hk
   rw [F] at T;cases T;obtain ⟨p,z1,z2⟩:=hE.run_zero ρ hz w;have zc:=(AN ρ z2).cells (Bo z2);have ai:p.cells.size=g:=by have:=zc.1;simp at this;omega
   have G:∀v∈(Builtin.zeroCells p.cells (N-L)).toList,v.oneCell'=true:=by
    intro v hv;have hm:=HT ab zc;rw [Builtin.zeroCells] at hv;simp only [Array.toList_map,Array.toList_range,List.mem_map,List.mem_range] at hv;obtain ⟨i,hi,rfl⟩:=hv
    have H:0<p.cells.size:=by
     rcases Nat.eq_zero_or_pos p.cells.size with c|c
     ·rw [c] at hi;simp at hi
     ·exact c
    have aj:i%p.cells.size<p.cells.size:=Nat.mod_lt _ H;have:p.cells[i%p.cells.size]! = p.cells[i%p.cells.size]:=by simp [aj]
    rw [this];exact hm _ (by simp)
   have I:(Builtin.zeroCells p.cells (N-L)).toList.length=(N-L)*g:=by
    rw [Builtin.zeroCells,ai];simp
   have ak:base.co+L*g+(N-L)*g≤f.size:=by
    have e1:L*g+(N-L)*g=N*g:=by rw [←Nat.add_mul];congr 1;omega
    have e2:N*g≤cap*g:=Nat.mul_le_mul_right _ (by omega)
    omega
   obtain ⟨B,d,r1,r2,r3,r4,r5,r6,r7,r8,r9⟩:=B7 E.P base.cb (base.co+L*g) R S (Builtin.zeroCells p.cells (N-L)).toList 0 w f q2 (by rw [I];omega) (by rw [W];exact X) G
   refine ⟨_,B,o,?_,?_⟩
   ·obtain ⟨m,hm⟩:=Nat.exists_eq_succ_of_ne_zero O;rw [hm] at r1 ⊢;simp [Builtin.clear_,x,z1,r1]
   ·refine hr.put s (by rw [M];simp) _ B ?_ r5 r6 r7 r8 r9
    refine ⟨J,d,R,S,F,r2,by rw [r3,W],X,rows q5 r3 fun j Q=>?_⟩
    rw [Array.getD_eq_getD_getElem?,Array.getD_eq_getD_getElem?,r4 j,if_neg (by rw [←aa] at Q;omega)]
end
end Go.AE
namespace Go.AE
variable [Gl:AH]
variable [U:Unk]
theorem Ci {E:Env} {e:Ask→Aa→Option (Bool×AV×Aa)} {all:Array Oper} {nt:Nat}:∀(l:List Oper) (c:List Rc) (tmps:T AV) (h:Aa) (r:Option AV) (b:T AV) (h':Aa),
  BH E e all nt l c tmps h=some (r,b,h')→h.nx≤h'.nx
 |[],c,tmps,h,r,b,h',a=>by
  simp only [BH,Option.some.injEq,Prod.mk.injEq] at a;obtain ⟨_,_,rfl⟩:=a;exact Nat.le_refl _
 |o::rest,c,tmps,h,r,b,h',a=>by
  simp only [BH] at a;split at a
  ·cases a
  ·split at a
   ·cases a
   ·rename_i d _;split at a
    ·cases a
    ·rename_i f j;have i:h.nx≤d.g.nx:=Nat.le_of_ble_eq_true f;split at a
     ·cases a
     ·split at a
      ·cases a
      ·have:=Ci rest _ _ _ _ _ _ a;exact Nat.le_trans i this
    ·rename_i f j;have i:h.nx≤d.g.nx:=Nat.le_of_ble_eq_true f;split at a
     ·simp only [Option.some.injEq,Prod.mk.injEq] at a;obtain ⟨_,_,rfl⟩:=a;exact i
     ·cases a
theorem PW (n:Nat):∀(l:List Out) (r:List AS),YL n l=some r→∀x∈l,∃s,x=.next s∧s∈r∧s.h.nx=n
 |[],r,h,x,a=>by cases a
 |y::l,r,h,x,a=>by
  cases y with
  |next s=>
   simp only [YL] at h;split at h
   ·rename_i b c d;cases h;rcases List.mem_cons.1 a with rfl|a
    ·exact ⟨s,rfl,List.mem_cons_self,Aw c⟩
    ·obtain ⟨e,f,g,i⟩:=PW n l b d x a;exact ⟨e,f,List.mem_cons_of_mem _ g,i⟩
   ·cases h
  |_=>cases h
theorem YB (ok:Bool) (v:AV) (n:Nat):∀(l:List (Option (Bool×AV×Aa))),lA ok v n l=true→∀x∈l,∃h',x=some (ok,v,h')∧h'.nx=n
 |[],_,x,a=>by cases a
 |none::l,h,x,a=>by cases h
 |some (b,g,h')::l,h,x,a=>by
  simp only [lA] at h;obtain ⟨h,a4⟩:=Aq h;obtain ⟨h,a3⟩:=Aq h;obtain ⟨c,d⟩:=Aq h;rcases List.mem_cons.1 a with rfl|a
  ·have e:=eq_of_beq c;have f:=Do _ _ d;subst e;subst f;exact ⟨h',rfl,Aw a3⟩
  ·exact YB ok v n l a4 x a
theorem N2 (h:Aa):∀(n b:Nat),b<n→b∉Q3 h n→h.blk.get b=none
 |n+1,b,c,a=>by
  unfold Q3 at a;cases q:h.blk.get n with
  |none=>
   rw [q] at a;by_cases e:b=n
   ·subst e;exact q
   ·exact N2 h n b (by omega) a
  |some y=>
   rw [q] at a;simp only [List.mem_cons,not_or] at a;exact N2 h n b (by omega) a.2
theorem Vq {s:AS} {l:List (Option (Bool×AV×Aa))} {ok:Bool} {v:AV} {h:Aa} (a:gY s l=some (ok,v,h)) :
  h.blk=.nil∧h.log=Q3 s.h s.h.nx++s.h.log∧s.h.nx≤h.nx∧∀x∈l,∃h',x=some (ok,v,h')∧h'.nx=h.nx:=by
 unfold gY at a;split at a
 ·rename_i b g c r;split at a
  ·rename_i d;obtain ⟨e,f⟩:=Aq d;simp only [Option.some.injEq,Prod.mk.injEq] at a;obtain ⟨rfl,rfl,rfl⟩:=a;refine ⟨rfl,rfl,Nat.le_of_ble_eq_true f,fun x a=>?_⟩
   rcases List.mem_cons.1 a with rfl|a
   ·exact ⟨c,rfl,rfl⟩
   ·exact YB _ _ _ r e x a
  ·cases a
 ·cases a
theorem kY {E:Env} (hE:OK E) {B:Ren} {s:AS} {c:Frame} {j:List Frame} {w:World} (a:SR B s c j w) {l:List AS} (g:fg E s=some l) (base:List Frame) :
  ∃r∈l,r.h.nx=s.h.nx∧AP E.P base B s.h c j w w r:=by
 unfold fg at g;split at g
 ·rename_i all o rest k t F;split at g
  ·rename_i G;split at g
   ·rename_i it m;split at g
    ·rename_i S u;have d:=a.fr.mode;rw [t] at d
     have C:c.mode=.run:=by
      generalize c.mode=x at d;cases d;rfl
     have f:=a.fr.todo;rw [F] at f;obtain ⟨i,H,T,e,I,D,V⟩:=f.ops_inv;have y:=Bs a.fr.tm G;have J:c.roundOf=none∨∀cl,o.op≠.defer cl:=.inr (fun cl q=>by rw [m] at q;cases q)
     obtain ⟨p,K,L,v,M,N,O,Q,R⟩:=M9 (E:=E) (ty:=o.type) a.h (a.fr.evR it) u;obtain ⟨r,z,n,A⟩:=PW _ _ _ g _ (List.mem_map.2 ⟨p,K,rfl⟩);refine ⟨r,n,A,Fe (s:=execOp c.eval o) hE (by rw [Dk C e I y J]) ?_ a.h a.fr a.cs C z (fun b W X=>by omega)⟩
     intro Y;exact ⟨L,v,M,.inl (by simp [execOp,m,N]),O,Q,R⟩
    ·cases g
   ·cases g
  ·cases g
 ·cases g
theorem BY {E:Env}:∀(f:Nat) (b:FuncId) (c:Bool) (s:AS) (ok:Bool) (v:AV) (h:Aa),FQ E f b c s=some (ok,v,h)→s.h.nx≤h.nx
 |0,b,c,s,ok,v,h,a=>by cases a
 |f+1,b,c,s,ok,v,h,a=>by
  simp only [FQ] at a;split at a
  ·split at a
   ·rename_i d;exact Nat.le_trans (Nat.le_of_ble_eq_true d) (BY f b c _ ok v h a)
   ·cases a
  split at a
  ·split at a
   ·rename_i d;exact Nat.le_trans (Nat.le_of_ble_eq_true d) (BY f b c _ ok v h a)
   ·cases a
  ·split at a
   ·rename_i d;simp only [Option.some.injEq,Prod.mk.injEq] at a;obtain ⟨_,_,rfl⟩:=a;exact Nat.le_of_ble_eq_true (Aq (Aq d).1).1
   ·cases a
  ·rename_i i ops k e;obtain ⟨rfl,_,_⟩:=CC e;split at a
   ·rename_i g;exact Nat.le_trans (Ci _ _ _ _ _ _ _ g) (BY f b c _ ok v h a)
   ·rename_i g;exact Nat.le_trans (Ci _ _ _ _ _ _ _ g) (BY f b c _ ok v h a)
   ·cases a
  ·split at a
   ·split at a
    ·rename_i d;exact Nat.le_trans (Nat.le_of_ble_eq_true d) (BY f b c _ ok v h a)
    ·cases a
   ·split at a
    ·exact (Vq a).2.2.1
    ·cases a
section
variable {E:Env} (hE:OK E) {callF:Ask→Aa→Option (Bool×AV×Aa)} {ρ:Ren} {h:Aa} {w:World} {c:Frame} {ccs base:List Frame} {s:AS}
def jU (s:AS) (r:Option AV) (tmps:T AV) (k:List AI) (h:Aa):AS:=
 match r with
 |none=>{s with fr:={s.fr with tmps,todo:=k},h}
 |some v=>{s with fr:={s.fr with tmps,todo:=.dead::k,mode:=.panic [(v,false)]},h}
theorem Xs {k:Ren} {h g:Aa} {w m:World} (hwf:WF h) (d:h.nx≤g.nx) (t:HR k g.blk.get m) (f:Ext ρ k (part h none) g w m):HR k (AX h g).blk.get m∧Ext ρ k h (AX h g) w m:=by
 obtain ⟨l,n,o⟩:=f.log;have i:g.log=l:=by rw [n];exact List.append_nil l
 refine ⟨t.weaken fun b x _ a=>?_,⟨f.le,d,f.new,f.calm,f.kept,⟨BD h.nx g.log,rfl,fun b p u=>CB d p u⟩,fun b p=>GB hwf d p,f.imm⟩⟩
 by_cases r:b<h.nx
 ·by_cases j:b∈BD h.nx g.log
  ·rcases GV j with q|⟨_,q⟩
   ·rw [q] at a;cases a
   ·rw [←q];exact a
  ·rw [CB d j (.inl r)] at a;rw [o b (fun e=>j (Ch.2 ⟨by rw [i];exact e,r⟩)) (.inl r)]
   exact a
 ·by_cases j:b<g.nx
  ·rw [HX hwf d (by omega) j] at a;exact a
  ·rw [G3 hwf d b (by show g.nx≤b;omega)] at a;cases a
include hE
theorem FN (hF:C8 E callF) (e:SR ρ s c ccs w) (hwf:WF s.h) (hm:s.fr.mode=.run) {id:Nat} {ops:Array Oper} {k:List AI} (ht:s.fr.todo=.code (.region id ops true)::k) {r:Option AV} {tmps:T AV}
  (hd:BH E callF ops s.fr.nt ops.toList [] s.fr.tmps s.h=some (r,tmps,h)) (f:AJ ρ s.h.nx h.nx) (base:List Frame) :
  ∃J c' w',Steps E.P (lone c (ccs++base) w) (lone c' (ccs++base) w')∧SR J (jU s r tmps k h) c' ccs w'∧
   Ext ρ J s.h h w w':=by
 have l:=e.fr.mode;rw [hm] at l
 have z:c.mode=.run:=by
  generalize c.mode=x at l;cases l;rfl
 have m:=e.fr.todo;rw [ht] at m;generalize ab:c.todo=td at m;cases m with|cons a hk=>
 rename_i L;cases a;obtain ⟨H,O,R,Q,n,q1,S,q3,q4,V,W⟩:=I9 _ _ _ _ _ _ _ hd;simp only [List.length_nil,Nat.zero_add] at S q3 q4 V W;have X:B5 E callF ops s.fr.nt H O R Q n:=⟨fun j hj=>by obtain ⟨o,C,h2⟩:=q4 j hj;exact ⟨o,by simpa using C,h2⟩,by rw [S];exact hwf⟩
 have p:AJ ρ (H 0).nx h.nx:=by rw [S];exact f
 have ac:n≤ops.size:=by
  cases hr:r with
  |none=>have:=(V hr).1;simp at this;omega
  |some v=>
   obtain ⟨o,C,_⟩:=W v hr;have:=(List.getElem?_eq_some_iff.1 C).1;simp at this;omega
 have hM:(H n).nx≤h.nx:=by
  cases hr:r with
  |none=>rw [(V hr).2.2];exact Nat.le_refl _
  |some v=>
   obtain ⟨o,C,b,e1,e2,M⟩:=W v hr;rw [M];exact b.tx.nx
 have Y:n<ops.size→∃o,ops[n]?=some o∧Bad E callF ops H O R Q n o (ops.toList.drop (n+1)):=by
  intro hn;cases hr:r with
  |none=>have:=(V hr).1;simp at this;omega
  |some v=>
   obtain ⟨o,C,b,_⟩:=W v hr;exact ⟨o,by simpa using C,b⟩
 have A:=kU (P:=E.P) (cs:=ccs++base) (w:=w) z ab;rw [hE.mixed] at A;have D:∀t,Region.schedule true ops t=Region.linearise.go .any ops ops.size t (Array.replicate ops.size false) []:=fun t=>rfl
 rw [D] at A;generalize ad:w.tape w.drawn (.order c.fn id)=t at A
 have ae:∀i,(Array.replicate ops.size false).getD i false=false:=by
  intro i;rw [Array.getD_eq_getD_getElem?,Array.getElem?_replicate];split<;>rfl
 have Z:TR ρ s.fr.nt (O 0) c.tmps:=by rw [q3];exact e.fr.tm
 have af:HR ρ (H 0).blk.get {w with drawn:=w.drawn+1}:=by rw [S];exact e.h.same rfl
 have I0:Inv s.fr.nt H O R n h.nx ρ {w with drawn:=w.drawn+1} (fun i=>(Array.replicate ops.size false).getD i false) ρ c.tmps {w with drawn:=w.drawn+1}:=Aum Z af p ae
 obtain ⟨rest,J,B,w1,D',r1,r2,r3,r4,r5⟩:=X.sched hE hF (cs:=ccs++base) (k:=L) hM p ac Y ops.size t (Array.replicate ops.size false) ρ {w with drawn:=w.drawn+1}
  {c with todo:=.inRegion ops (Region.linearise.go .any ops ops.size t (Array.replicate ops.size false) [])::L} z rfl (by simp) (by omega) I0
 obtain ⟨f1,f2,f3⟩:=X.final r1 r2;rw [S] at f3;have d:Ext ρ J s.h (H n) w w1:=f3.drawn rfl rfl rfl rfl;have u:=e.fr.mono d.le;cases hr:r with
 |none=>
  obtain ⟨e1,e2,M⟩:=V hr;have hn:n=ops.size:=by simpa using e1
  rw [r4 hn] at r3;subst e2;subst M;refine ⟨J,{c with tmps:=B,todo:=L},w1,Steps.head A (Steps.trans r3 (Steps.one (JX z rfl))),⟨⟨u.fn,f1,hk.mono d.le,u.defers,u.mode,u.kind,u.round⟩,e.cs.mono d.le,f2⟩,d⟩
 |some v=>
  obtain ⟨o,C,b,e1,e2,M⟩:=W v hr
  have hn:n<ops.size:=by
   have:=(List.getElem?_eq_some_iff.1 C).1;simpa using this
  obtain ⟨rr,ag⟩:=r5 hn;rw [ag] at r3;have aa:=XQ b.tx.did b.ok;have K:HR J (part (H n) (Q n).fp).blk.get w1:=by rw [aa];exact f2
  have F:TR J s.fr.nt (A0 (O n) (Bg ops o)) B:=⟨f1.size,fun t x hx=>by
   obtain ⟨_,y,hy,rfl⟩:=Dt _ _ _ _ hx;exact Rn (f1.get t y hy)⟩
  have ah:h.nx=(Q n).g.nx:=by rw [M];rfl
  have G:AJ J (H n).nx (Q n).g.nx:=by rw [←ah];exact d.free f
  obtain ⟨τ,v',w2,p1,p2,p3,p4⟩:=Rd hE hF (cs:=ccs++base) (c:={c with tmps:=B,todo:=.inRegion ops (n::rr)::L}) b.tx.did (X.wfAt (Nat.le_refl _)) z rfl (by simpa using C) F K G
  rw [b.ok] at p1;rw [aa] at p4;obtain ⟨m1,N⟩:=Xs (X.wfAt (Nat.le_refl _)) b.tx.nx p3 p4;rw [←M] at m1 N;have q:=u.mono N.le;subst e1;subst e2
  have I:({c with tmps:=B,todo:=.inRegion ops (n::rr)::L}:Frame).raise [{v:=v',recovered:=false}]={c with tmps:=B,todo:=.inRegion ops (n::rr)::L,mode:=.panicking [{v:=v',recovered:=false}]}:=by
   simp [Frame.raise,z]
  simp only [B4] at p1;rw [I] at p1;exact ⟨τ,_,w2,Steps.head A (Steps.trans r3 p1),⟨⟨q.fn,f1.mono N.le,.cons (.dead _ _) ((hk.mono d.le).mono N.le),q.defers,.panic _ _ ⟨p2,rfl,rfl,trivial⟩,q.kind,q.round⟩,(e.cs.mono d.le).mono N.le,m1⟩,d.trans N f⟩
end
end Go.AE
namespace Go.AE
variable [Gl:AH]
theorem C1:∀{a b:T Ab},PC a b=true→∀i x,a.get i=some x→b.get i=some x
 |.nil,_,_,i,x,c=>by simp [T.get_nil] at c
 |.node v l r,.nil,h,_,_,_=>by simp [PC] at h
 |.node v l r,.node e j k,h,i,x,c=>by
  simp only [PC,Bool.and_eq_true] at h;obtain ⟨⟨d,f⟩,g⟩:=h;simp only [T.get_eq,T.get0] at c ⊢;split at c
  ·subst c;simp only at d;cases e with
   |none=>simp at d
   |some y=>rw [NC d]
  ·split at c
   ·rw [←T.get_eq] at c ⊢;exact C1 f _ _ c
   ·rw [←T.get_eq] at c ⊢;exact C1 g _ _ c
theorem ZT {b:Nat}:∀{l:List Nat},H2 b l=true→b∈l
 |[],h=>by simp [H2] at h
 |c::r,h=>by
  simp only [H2,Bool.or_eq_true] at h;rcases h with h|h
  ·rw [Nat.eq_of_beq_eq_true h];simp
  ·simp [ZT h]
theorem M3 {nx:Nat} {wr:List Nat}:∀{l:List Nat},bJ nx wr l=true→∀b∈l,b<nx→b∈wr
 |[],_,b,a,_=>by cases a
 |c::r,h,b,a,d=>by
  simp only [bJ,Bool.and_eq_true,Bool.or_eq_true] at h;simp only [List.mem_cons] at a;rcases a with rfl|a
  ·rcases h.1 with e|e
   ·have:=Nat.le_of_ble_eq_true e;omega
   ·exact ZT e
  ·exact M3 h.2 b a d
def Orc.Valid (P:Program) (F:Nat→D→D) (e:Orc):Prop:=
 ∀[U:Unk],U.K=(Env.of P).kinds→U.V.fn=F→∀(ρ:Ren) (w:World) (i:List Value),VL ρ e.args i→HR ρ e.part.get w→WF {blk:=e.part,nx:=e.nx,log:=[]}→AJ ρ e.nx e.nx'→
  ∀(c0:Frame) (base:List Frame),∃j r l g,B4 P (lone (Frame.enter P e.f i.toArray .normal) (c0::base) w) c0 base e.ok r l∧VR j e.v r∧HR j g.blk.get l∧
   Ext ρ j {blk:=e.part,nx:=e.nx,log:=[]} g w l∧(∀b x,e.out.get b=some x→g.blk.get b=some x)∧g.nx=e.nx'∧(∀b∈g.log,b<e.nx→b∈e.wr)
structure Ai (E:Env) (F:Nat→D→D):Prop where
 orc:∀e∈E.orc,e.Valid E.P F
 sms:∀s∈E.sms,s.Valid E.P F
variable [U:Unk]
theorem Oh {K D:Ren} {h g:Aa} {w Z:World} {p out:T Ab} {nx':Nat} {wr:List Nat} (hr:HR K h.blk.get w) (hwf:WF h) (A:∀b x,p.get b=some x→h.blk.get b=some x)
  (E:AJ K h.nx nx') (L:HR D g.blk.get Z) (o:Ext K D {blk:=p,nx:=h.nx,log:=[]} g w Z) (ho:∀b x,out.get b=some x→g.blk.get b=some x) (hn:g.nx=nx') (hl:∀b∈g.log,b<h.nx→b∈wr) :
  HR D (AX h {blk:=out,nx:=nx',log:=wr}).blk.get Z∧Ext K D h (AX h {blk:=out,nx:=nx',log:=wr}) w Z:=by
 have r:h.nx≤nx':=by have:=o.nx;rw [hn] at this;exact this
 have s:∀b,p.get b≠none→h.blk.get b≠none:=by
  intro b d;cases t:p.get b with
  |none=>exact absurd t d
  |some x=>rw [A b x t];exact Option.some_ne_none _
 have u:∀b x,(AX h {blk:=out,nx:=nx',log:=wr}).blk.get b=some x→g.blk.get b=some x∨(b<h.nx∧p.get b=none∧h.blk.get b=some x):=by
  intro b x f;by_cases F:b<h.nx
  ·by_cases G:b∈BD h.nx wr
   ·rcases GV (h:=h) (g:={blk:=out,nx:=nx',log:=wr}) G with q|⟨_,q⟩
    ·rw [q] at f;cases f
    ·rw [q] at f;exact .inl (ho b x f)
   ·rw [CB (h:=h) (g:={blk:=out,nx:=nx',log:=wr}) r G (.inl F)] at f;cases t:p.get b with
    |none=>exact .inr ⟨F,rfl,f⟩
    |some y=>
     have e:=A b y t;rw [f] at e;cases e;obtain ⟨l,aa,ab⟩:=o.log;have N:g.log=l:=by rw [aa];exact List.append_nil l
     refine .inl ((ab b (fun e=>G (Ch.2 ⟨hl b (by rw [N];exact e) F,F⟩)) (.inl F)).trans t)
  ·by_cases G:b<nx'
   ·rw [HX (h:=h) (g:={blk:=out,nx:=nx',log:=wr}) hwf r (by omega) G] at f
    exact .inl (ho b x f)
   ·rw [G3 (h:=h) (g:={blk:=out,nx:=nx',log:=wr}) hwf r b (by show nx'≤b;omega)] at f;cases f
 have old:∀b base,D b=some base→b<h.nx→K b=some base:=by
  intro b base d z;rcases o.new b base d with e|⟨e,_⟩
  ·exact e
  ·exact absurd e (by show ¬h.nx≤b;omega)
 have LR:∀b i base a x H,D b=some base→D i=some a→g.blk.get b=some x→i<h.nx→p.get i=none→h.blk.get i=some H→base.cb≠a.cb:=by
  intro b i base a x H d j f z t v;have B:=old i a j z;have O:h.blk.get i≠none:=by rw [v];exact Option.some_ne_none _
  have P:∀m c,K m=some c→p.get m≠none→c.cb≠a.cb:=fun m c h0 Q=>
   hr.apart m i c a (fun e=>by subst e;exact Q t) h0 B (s m Q) O
  rcases o.new b base d with e|⟨_,_,e⟩
  ·rcases o.live b (by rw [f];exact Option.some_ne_none _) with l|⟨l1,l2⟩
   ·exact P b base e l
   ·have:=E b l1 (by rw [←hn];exact l2)
    rw [this] at e;cases e
  ·rcases e with e|⟨m,c,R,M,S⟩
   ·have:=hr.lt i a B;omega
   ·rw [←S];exact P m c R M
 refine ⟨⟨L.lt,fun b base x d f=>?_,fun b i base a V d j F G=>?_,L.imm,fun k arr b base C d hl=>?_,L.glob⟩,⟨o.le,r,fun b base d=>?_,o.calm,fun k C ac=>o.kept k C (fun b base d t=>ac b base d (s b t)),⟨BD h.nx wr,rfl,fun b d ho=>CB (h:=h) (g:={blk:=out,nx:=nx',log:=wr}) r d ho⟩,fun b d=>GB (h:=h) (g:={blk:=out,nx:=nx',log:=wr}) hwf r d,fun k arr C=>(o.imm k arr C).imp id (fun e=>e.imp id (fun ⟨m,c,x1,x2,x3⟩=>⟨m,c,x1,s m x2,x3⟩))⟩⟩
 ·rcases u b x f with q|⟨z,t,hh⟩
  ·exact L.blk b base x d q
  ·have n:=old b base d z;have C:=o.kept base.cb (hr.lt b base n) (fun i a j W=>hr.apart i b a base (fun e=>by subst e;exact W t) j n (s i W) (by rw [hh];exact Option.some_ne_none _))
   rw [C];exact (hr.blk b base x n hh).mono o.le
 ·cases f:(AX h {blk:=out,nx:=nx',log:=wr}).blk.get b with
  |none=>exact absurd f F
  |some x=>
   cases v:(AX h {blk:=out,nx:=nx',log:=wr}).blk.get i with
   |none=>exact absurd v G
   |some H=>
    rcases u b x f with q|⟨a1,a2,a3⟩
    ·rcases u i H v with q'|⟨I,X,J⟩
     ·exact L.apart b i base a V d j (by rw [q];exact Option.some_ne_none _) (by rw [q'];exact Option.some_ne_none _)
     ·exact LR b i base a x H d j q I X J
    ·rcases u i H v with q'|⟨I,X,J⟩
     ·exact fun e=>LR i b a base H x j d q' a1 a2 a3 e.symm
     ·exact hr.apart b i base a V (old b base d a1) (old i a j I) (by rw [a3];exact Option.some_ne_none _) (by rw [J];exact Option.some_ne_none _)
 ·cases f:(AX h {blk:=out,nx:=nx',log:=wr}).blk.get b with
  |none=>exact absurd f hl
  |some x=>
   rcases u b x f with q|⟨a1,a2,a3⟩
   ·exact L.off k arr b base C d (by rw [q];exact Option.some_ne_none _)
   ·have n:=old b base d a1;have Y:h.blk.get b≠none:=by rw [a3];exact Option.some_ne_none _
    rcases o.imm k arr C with e|e|⟨m,c,R,M,S⟩
    ·exact hr.off k arr b base e n Y
    ·have:=hr.lt b base n;omega
    ·rw [←S];exact (hr.apart m b c base (fun e=>by subst e;exact M a2) R n (s m M) Y).symm
 ·rcases o.new b base d with e|⟨R,M,S⟩
  ·exact .inl e
  ·exact .inr ⟨R,by show b<nx';rw [←hn];exact M,S.imp id (fun ⟨m,c,x1,x2,x3⟩=>⟨m,c,x1,s m x2,x3⟩)⟩
theorem Ext.skip {ρ t:Ren} {h g:Aa} {n:Nat} {w C:World} (j:h.nx≤n) (q:Ext ρ t {h with nx:=n} g w C):Ext ρ t h g w C:=by
 obtain ⟨l,I,r⟩:=q.log;have J:n≤g.nx:=q.nx;exact ⟨q.le,Nat.le_trans j J,fun b base i=>(q.new b base i).imp id (fun ⟨a,c,d⟩=>⟨Nat.le_trans j a,c,d⟩),q.calm,q.kept,⟨l,I,fun b i ho=>r b i (ho.imp (fun x=>Nat.lt_of_lt_of_le x j) id)⟩,fun b i=>(q.live b i).imp id (fun ⟨a,c⟩=>⟨Nat.le_trans j a,c⟩),q.imm⟩
theorem SF {P:Program} {F:Nat→D→D} (A:U.V.fn=F) {f:FuncId} {args:List AV} {a:List Value} {h g:Aa} {ok:Bool} {v:AV} {n:Ren} {w:World}:∀{l:List Orc},(∀e∈l,e.Valid P F)→U.K=(Env.of P).kinds→Qb l f args h=some (ok,v,g)→VL n args a→HR n h.blk.get w→WF h→AJ n h.nx g.nx→
  ∀(c0:Frame) (base:List Frame),∃p t s,B4 P (lone (Frame.enter P f a.toArray .normal) (c0::base) w) c0 base ok t s∧VR p v t∧HR p g.blk.get s∧Ext n p h g w s
 |[],_,_,j,_,_,_,_=>by simp [Qb] at j
 |e::r,hO,hK,j,B,hr,hwf,d=>by
  simp only [Qb] at j;split at j
  ·rename_i o;simp only [Bool.and_eq_true] at o;obtain ⟨⟨⟨u,k⟩,C⟩,y⟩:=o;have E:=Nat.eq_of_beq_eq_true u
   have z:h.nx≤e.nx:=by
    simp only [Bool.or_eq_true,Bool.and_eq_true] at k;rcases k with k|k
    ·exact Nat.le_of_eq (Nat.eq_of_beq_eq_true k).symm
    ·exact Nat.le_of_ble_eq_true k.2
   have G:=E7 _ _ C;subst E;subst G;cases j;intro c0 base;have i:AJ n h.nx e.nx':=d;have c:AJ n e.nx e.nx':=fun b u k=>i b (Nat.le_trans z u) k
   have m:WF {h with nx:=e.nx}:=fun b o=>hwf b (Nat.le_trans z o)
   obtain ⟨p,t,s,R,H,I,a3,a4,a5,J,L⟩:=hO e (by simp) hK A n w a B (hr.weaken (fun b x _ j=>C1 y b x j)) (fun b o=>by
    show e.part.get b=none;cases M:e.part.get b with
    |none=>rfl
    |some x=>
     have q:=C1 y b x M;rw [m b o] at q;cases q) c c0 base
   obtain ⟨N,O⟩:=Oh (h:={h with nx:=e.nx}) hr m (C1 y) c a3 a4 a5 J L
   exact ⟨p,t,s,H,I,N,O.skip z⟩
  ·exact SF A (fun e Q=>hO e (by simp [Q])) hK j B hr hwf d
section
variable {E:Env} (hE:OK E) (hO:Ai E U.V.fn) {ρ:Ren} {w:World} {c:Frame} {ccs:List Frame} {s s':AS}
include hE hO
omit hE hO in
theorem nh {x:AV} {v:Value} (hx:VR ρ x v):VR ρ (ky x) v:=by
 unfold ky;split
 ·rename_i x;split
  ·rename_i l b hl;have h:=RX U.ok hl;rw [Kp] at h;unfold strEq at h;simp only [Bool.and_eq_true] at h;have h1:=Nat.eq_of_beq_eq_true h.1;have h2:=Nat.eq_of_beq_eq_true h.2;cases hx;rw [←h1,←h2];exact .str _
  ·exact hx
 ·exact hx
omit hE hO in
theorem f7 {l:List AV} {l':List Value} (h:VL ρ l l'):VL ρ (l.map ky) l':=by
 refine ⟨by simp [h.1],fun i a v ha hv=>?_⟩
 rw [List.getElem?_map] at ha;cases hl:l[i]? with
 |none=>rw [hl] at ha;cases ha
 |some x=>rw [hl] at ha;cases ha;exact nh (h.2 i x v hl hv)
theorem Eg {f:FuncId} {args:List AV} {j:List Value} {h g:Aa} {ok:Bool} {v:AV} (hx:Le E f args h=some (ok,v,g)) (ha:VL ρ args j) (hr:HR ρ h.blk.get w) (hwf:WF h) (d:AJ ρ h.nx g.nx) :
  ∀(c0:Frame) (base:List Frame),∃m q n,B4 E.P (lone (Frame.enter E.P f j.toArray .normal) (c0::base) w) c0 base ok q n∧VR m v q∧HR m g.blk.get n∧Ext ρ m h g w n:=by
 unfold Le at hx;split at hx
 ·rename_i l hl;have t:=hE.ox _ _ hl;split at hx
  ·rename_i r o;cases hx;exact SF rfl (fun e p=>hO.orc e (t e p)) hE.kd o ha hr hwf d
  ·split at hx
   ·rename_i u k;cases hx;split at k
    ·exact SF rfl (fun e p=>hO.orc e (t e p)) hE.kd k (f7 ha) hr hwf d
    ·cases k
   ·split at hx
    ·rename_i u k;cases hx;exact Jm hE rfl hO.sms k ha hr hwf d
    ·cases hx
 ·split at hx
  ·rename_i u k;cases hx;exact Jm hE rfl hO.sms k ha hr hwf d
  ·cases hx
omit hE hO in
theorem iE {h:Aa} {a:AV} {v:Value} (ha:VR ρ a v):VR ρ (Yv h a) v:=by
 unfold Yv;split
 ·rename_i b n es;split
  ·cases ha with
   |slice _ _ _ _ cap base hb hc hz=>exact .asl b es (.c n) (.bc false) cap base hb (Int.natCast_nonneg _) (by simpa [Af,Ac,D.toInt] using hc) (by omega) rfl
   |sliceEnd _ _ _ a=>exact .aslEnd b es (.c (0:Nat)) (.bc false) (some a) rfl rfl
  ·exact ha
 ·exact ha
omit hE hO in
theorem MQ {h:Aa} {f:AF} {c:Frame} (hf:FrR ρ f c):FrR ρ (au h f) c:=by
 unfold au;split
 ·refine ⟨hf.fn,⟨hf.tm.size,fun i x hx=>?_⟩,hf.todo,hf.defers,hf.mode,hf.kind,hf.round⟩
  have hx:(f.tmps.mapA (Yv h)).get i=some x:=hx;rw [T.get_mapA] at hx;cases hg:f.tmps.get i with
  |none=>rw [hg] at hx;cases hx
  |some y=>
   rw [hg] at hx;cases hx;exact iE (hf.tm.get i y hg)
 ·exact hf
omit hO in
theorem fZ (hsr:SR ρ s c ccs w) (hm:s.fr.mode=.run) {all:Array Oper} {o:Oper} {r:List Oper} {k:List AI} (ht:s.fr.todo=.ops all (o::r)::k) (hx:iP E s all o r=some s') (base:List Frame) :
  ∃σ c' ccs' w',Steps E.P (lone c (ccs++base) w) (lone c' (ccs'++base) w')∧SR σ s' c' ccs' w'∧Ext ρ σ s.h s'.h w w':=by
 unfold iP at hx;split at hx
 ·rename_i t x lo o2 r2 d hop hdst;split at hx
  ·rename_i cc hop2;split at hx
   ·rename_i t1 d' hcal hats hargs;split at hx
    ·rename_i b es n nl kd l hex hel;split at hx
     ·rename_i e e1 e2 y hd hd1 hb;split at hx
      ·rename_i z ks hz hk;split at hx
       ·rename_i hc;split at hx
        ·rename_i fr1 hw1 hf1;split at hx
         ·rename_i fr2 hw2 hf2;cases hx;obtain ⟨c1,hc⟩:=Aq hc;obtain ⟨c2,hc⟩:=Aq hc;obtain ⟨c3,hc⟩:=Aq hc;obtain ⟨c4,hc⟩:=Aq hc;obtain ⟨c5,hc⟩:=Aq hc;obtain ⟨c6,hc⟩:=Aq hc;obtain ⟨c7,hc⟩:=Aq hc;obtain ⟨c8,c9⟩:=Aq hc;have q1:=Aw c1;have q2:=Aw c2;have q3:=Aw c3;subst q1 q2 q3;have htodo:=hsr.fr.todo;rw [ht] at htodo;obtain ⟨i,idx,k',ee,ho,hm',hkk⟩:=htodo.ops_inv;have hmode:=hsr.fr.mode;rw [hm] at hmode
          have hcm:c.mode=.run:=by
           generalize c.mode=x at hmode;cases hmode;rfl
          have ht':=hsr.fr.tm
          have hev:EvR ρ s.fr.tmps c.eval:=by
           intro x;have:=JJ ht' x;cases x<;>exact this
          have hvx:=hev x;rw [hex] at hvx;have hvl:=CG (hev lo) hel;obtain ⟨v,w',r1,r2',r3,r4⟩:=m4 hE hsr.h (ty:=o2.type) hd hd1 hz hk (Aw c4) (Aw c5) c6 hvx hb c7 c8 hvl c9;have hnd:∀cl,o.op≠.defer cl:=by intro cl e;rw [hop] at e;cases e
          have hnd2:∀cl,o2.op≠.defer cl:=by intro cl e;rw [hop2] at e;cases e
          have st1:step E.P (lone c (ccs++base) w)=.next (lone (c.finish v) (ccs++base) w):=Yn hcm ee ho (Bs ht' hw1) (.inr hnd) (.inl (by simp [execOp,hop,r1]))
          have fr1ok:=BG hsr.fr hf1 (VR.top v)
          have ef:c.finish v={c with tmps:=Jj c.tmps o.dst v,todo:=.inRegion all idx::k'}:=by
           simp only [Frame.finish,ee,ho,Option.bind_some,Jj];cases o.dst<;>rfl
          have fm:fr1.mode=.run∧fr1.todo=.ops all (o2::r2)::k∧d<s.fr.nt:=by
           unfold A3 at hf1;rw [ht] at hf1;simp only [hdst,Ei] at hf1;split at hf1
           ·rename_i t' hp;cases hf1;split at hp
            ·rename_i hlt;exact ⟨hm,rfl,Hg hlt⟩
            ·cases hp
           ·cases hf1
          obtain ⟨fm1,fm2,fm3⟩:=fm;have htodo2:=fr1ok.todo;rw [fm2] at htodo2;obtain ⟨i2,idx2,k2',ee2,ho2,_,_⟩:=htodo2.ops_inv;have hcm2:(c.finish v).mode=.run:=by rw [ef];exact hcm
          have hev2:(c.finish v).eval (.tmp d)=v:=by
           show (c.finish v).tmps.getD d Go.undef=v;rw [ef];show (Jj c.tmps o.dst v).getD d Go.undef=v;rw [hdst];have:d<c.tmps.size:=by rw [ht'.size];exact fm3
           simp [Jj,Array.getD_eq_getD_getElem?,this]
          have hrun2:(execOp (c.finish v).eval o2).run E.P w=.ok (.value (.tuple #[])) w':=by
           have a1:cc.argTypes = #[t1]:=by rw [←Array.toList_inj];exact hats
           have hmap:(cc.args.map (c.finish v).eval)=(cc.args.toList.map (c.finish v).eval).toArray:=by apply Array.ext';simp
           have ex:∃cs,execOp (c.finish v).eval o2=builtin .clear cc.argTypes o2.type cs (cc.args.toList.map (c.finish v).eval).toArray:=
            ⟨_,by unfold execOp;rw [hop2];simp only [resolve,hcal,pure_bind,invoke,hmap];rfl⟩
           obtain ⟨cs,ex⟩:=ex;rw [ex,a1,hargs];simp only [List.map_cons,List.map_nil,hev2];simp [builtin,r2']
          have st2:step E.P (lone (c.finish v) (ccs++base) w)=.next (lone ((c.finish v).finish (.tuple #[])) (ccs++base) w'):=Yn hcm2 ee2 ho2 (Bs fr1ok.tm hw2) (.inr hnd2) (.inl hrun2);have fr2ok:=BG fr1ok hf2 (VR.top (.tuple #[]));exact ⟨ρ,(c.finish v).finish (.tuple #[]),ccs,w',Steps.head st1 (Steps.one st2),⟨fr2ok,hsr.cs,r3⟩,r4⟩
         ·cases hx
        ·cases hx
       ·cases hx
      ·cases hx
     ·cases hx
    ·cases hx
   ·cases hx
  ·cases hx
 ·cases hx
omit hE hO in
theorem Vg {fr:AF} {c:Frame} {v:AV} {v':Value} (hf:FrR ρ fr c) (hm:c.mode=.run) (hv:VR ρ v v'):FrR ρ {fr with mode:=.panic [(v,false)]} (c.raise [{v:=v',recovered:=false}]):=by
 have e:c.raise [{v:=v',recovered:=false}]={c with mode:=.panicking [{v:=v',recovered:=false}]}:=by simp [Frame.raise,hm]
 rw [e];exact ⟨hf.fn,hf.tm,hf.todo,hf.defers,.panic _ _ ⟨hv,rfl,rfl,trivial⟩,hf.kind,hf.round⟩
omit hE hO in
theorem M6 {f:Operand} {params:List Tmp} {assign body:Code} {k:List AI} {g:FuncId} {args:List AV} {h3:Aa} {fr':AF} (hx:D3 E s f params assign body k=some (g,args,h3,fr')):fr'.mode=s.fr.mode:=by
 unfold D3 at hx;split at hx
 ·split at hx
  ·split at hx
   ·cases hx;rfl
   ·cases hx
  ·cases hx
 ·cases hx
theorem jq (hsr:SR ρ s c ccs w) (hwf:WF s.h) (hx:hU E s=some s') (j:AJ ρ s.h.nx s'.h.nx) (base:List Frame) :
  ∃σ c' ccs' w',Steps E.P (lone c (ccs++base) w) (lone c' (ccs'++base) w')∧SR σ s' c' ccs' w'∧Ext ρ σ s.h s'.h w w':=by
 unfold hU at hx;split at hx
 ·cases hx
 ·split at hx
  ·rename_i hm;split at hx
   ·rename_i all o r k ht;split at hx
    ·rename_i W L;cases hx;exact fZ hE hsr hm ht L base
    split at hx
    ·rename_i R;split at hx
     ·rename_i S;split at hx
      ·rename_i g args h1 hop;split at hx
       ·rename_i v h2 m;split at hx
        ·rename_i fr u;cases hx;have htodo:=hsr.fr.todo;rw [ht] at htodo;obtain ⟨i,idx,k',e,ho,hm',hk⟩:=htodo.ops_inv;have hmode:=hsr.fr.mode;rw [hm] at hmode
         have hcm:c.mode=.run:=by
          generalize c.mode=x at hmode;cases hmode;rfl
         have ht':=hsr.fr.tm
         have hev:EvR ρ s.fr.tmps c.eval:=by
          intro x;have:=JJ ht' x;cases x<;>exact this
         have p:=KL hE hsr.h hev o;rw [hop] at p;obtain ⟨rfl,q,ha,A⟩:=p
         have hnd:∀cl,o.op≠.defer cl:=by
          intro cl e;rw [e] at hop;simp only [aop] at hop;rcases Du s.fr.tmps cl s.h with ⟨d,K⟩|⟨y,K⟩<;>(rw [K] at hop;cases hop)
         obtain ⟨σ,v',w',q1,q2,q3,B⟩:=Eg hE hO m ha hsr.h hwf j c (ccs++base);have G:=Oq (cs:=ccs++base) (P:=E.P) hcm e ho (Bs ht' S) (.inr hnd) A;exact ⟨σ,c.finish v',ccs,w',Steps.head G q1,⟨MQ (BG (hsr.fr.mono B.le) u q2),hsr.cs.mono B.le,q3⟩,B⟩
        ·cases hx
       ·rename_i v h2 m;cases hx;have htodo:=hsr.fr.todo;rw [ht] at htodo;obtain ⟨i,idx,k',e,ho,hm',hk⟩:=htodo.ops_inv;have hmode:=hsr.fr.mode;rw [hm] at hmode
        have hcm:c.mode=.run:=by
         generalize c.mode=x at hmode;cases hmode;rfl
        have ht':=hsr.fr.tm
        have hev:EvR ρ s.fr.tmps c.eval:=by
         intro x;have:=JJ ht' x;cases x<;>exact this
        have p:=KL hE hsr.h hev o;rw [hop] at p;obtain ⟨rfl,q,ha,A⟩:=p
        have hnd:∀cl,o.op≠.defer cl:=by
         intro cl e;rw [e] at hop;simp only [aop] at hop;rcases Du s.fr.tmps cl s.h with ⟨d,K⟩|⟨y,K⟩<;>(rw [K] at hop;cases hop)
        obtain ⟨σ,v',w',q1,q2,q3,B⟩:=Eg hE hO m ha hsr.h hwf j c (ccs++base);have G:=Oq (cs:=ccs++base) (P:=E.P) hcm e ho (Bs ht' S) (.inr hnd) A;exact ⟨σ,c.raise [{v:=v',recovered:=false}],ccs,w',Steps.head G q1,⟨MQ (Vg (hsr.fr.mono B.le) hcm q2),hsr.cs.mono B.le,q3⟩,B⟩
       ·cases hx
      ·cases hx
     ·cases hx
    ·cases hx
   ·
    rename_i Y params assign body k ht;split at hx
    ·rename_i g args h3 fr' H;split at hx
     ·rename_i v h2 m;split at hx
      ·rename_i fr C u;cases hx;have htodo:=hsr.fr.todo;rw [ht] at htodo;have hmode:=hsr.fr.mode;rw [hm] at hmode
       have hcm:c.mode=.run:=by
        generalize c.mode=x at hmode;cases hmode;rfl
       generalize I:c.todo=td at htodo;cases htodo with
       |cons J hk=>
        cases J;have M:h3.nx≤h2.nx:=CR C;obtain ⟨σ,c',q,w1,q1,q2,q3,B,F⟩:=Ir hE hsr hcm hk I H (fun b N X=>j b N (by show b<h2.nx;omega)) base
        obtain ⟨O,v',w',r1,r2,r3,r4⟩:=Eg hE hO m q2 B (F.wf hwf) (F.free j) c' (ccs++base);exact ⟨O,c'.finish v',ccs,w',Steps.head q1 r1,⟨MQ (BG (q3.mono r4.le) u r2),(hsr.cs.mono F.le).mono r4.le,r3⟩,F.trans r4 j⟩
      ·cases hx
     ·rename_i v h2 m;split at hx
      ·rename_i C;cases hx;have htodo:=hsr.fr.todo;rw [ht] at htodo;have hmode:=hsr.fr.mode;rw [hm] at hmode
       have hcm:c.mode=.run:=by
        generalize c.mode=x at hmode;cases hmode;rfl
       generalize I:c.todo=td at htodo;cases htodo with
       |cons J hk=>
        cases J;have M:h3.nx≤h2.nx:=CR C;obtain ⟨σ,c',q,w1,q1,q2,q3,B,F⟩:=Ir hE hsr hcm hk I H (fun b N X=>j b N (by show b<h2.nx;omega)) base
        obtain ⟨O,v',w',r1,r2,r3,r4⟩:=Eg hE hO m q2 B (F.wf hwf) (F.free j) c' (ccs++base)
        have Q:c'.mode=.run:=by
         have h1:=q3.mode;have h2:fr'.mode=.run:=by rw [M6 H,hm]
         rw [h2] at h1;generalize c'.mode=x at h1;cases h1;rfl
        exact ⟨O,c'.raise [{v:=v',recovered:=false}],ccs,w',Steps.head q1 r1,⟨MQ (Vg (q3.mono r4.le) Q r2),(hsr.cs.mono F.le).mono r4.le,r3⟩,F.trans r4 j⟩
      ·cases hx
     ·cases hx
    ·cases hx
   ·cases hx
  ·cases hx
omit hE hO in
theorem Sv {ρ:Ren} {nt:Nat} {t:T AV} {a:Array Value} (h:TR ρ nt t a):∀{l:List Tmp} {i:Tmp} {v:AV},iX t l=some (i,v)→TR ρ nt (t.set i v) a
 |[],i,v,hx=>by cases hx
 |c::r,i,v,hx=>by
  unfold iX at hx;split at hx
  ·rename_i b nl hg;split at hx
   ·exact Sv h hx
   ·cases hx;refine ⟨h.size,fun j x hj=>?_⟩
    rw [T.get_set] at hj;by_cases e:c=j
    ·subst e;rw [if_pos rfl] at hj;cases hj;exact Rn (h.get c _ hg)
    ·rw [if_neg e] at hj;exact h.get j x hj
  ·exact Sv h hx
theorem MY (hsr:SR ρ s c ccs w) (hwf:WF s.h) (hx:Ww E s=some s') (m:AJ ρ s.h.nx s'.h.nx) (base:List Frame) :
  ∃σ c' ccs' w',Steps E.P (lone c (ccs++base) w) (lone c' (ccs'++base) w')∧SR σ s' c' ccs' w'∧Ext ρ σ s.h s'.h w w':=by
 unfold Ww at hx;split at hx
 ·rename_i p hr;cases hx;unfold Asq at hr;split at hr
  ·split at hr
   ·rename_i i v hl;cases hr;exact ⟨ρ,c,ccs,w,Steps.refl _ _,⟨⟨hsr.fr.fn,Sv hsr.fr.tm hl,hsr.fr.todo,hsr.fr.defers,hsr.fr.mode,hsr.fr.kind,hsr.fr.round⟩,hsr.cs,hsr.h⟩,Ext.refl _ _ _⟩
   ·cases hr
  ·cases hr
 ·exact jq hE hO hsr hwf hx m base
end
end Go.AE
namespace Go.AE
variable [Gl:AH]
mutual
def mvA (d:Nat):AV→AV
 |.bool b=>.bool b
 |.int k n=>.int k n
 |.str l b=>.str l b
 |.ptr0=>.ptr0
 |.ptr b o=>.ptr (b+d) o
 |.slice0=>.slice0
 |.slice b o n c=>.slice (b+d) o n c
 |.map0=>.map0
 |.map b=>.map (b+d)
 |.nilFunc=>.nilFunc
 |.nilIface=>.nilIface
 |.iface t v=>.iface t (mvA d v)
 |.agg l=>.agg (mvL d l)
 |.tuple l=>.tuple (mvL d l)
 |_=>.top
def mvL (d:Nat):List AV→List AV
 |[]=>[]
 |a::r=>mvA d a::mvL d r
end
def xI (d:Nat):List Am→List Am
 |[]=>[]
 |e::r=>{key:=mvA d e.key,val:=mvA d e.val,born:=e.born}::xI d r
def mvK (d:Nat):Ab→Option Ab
 |.cells n c=>some (.cells n (c.mapA (mvA d)))
 |.map a k=>some (.map (xI d a) k)
 |_=>none
def T.keys {i:Type} (m s:Nat):T i→List Nat
 |.nil=>[]
 |.node v l r=>(match v with|some _=>[s]|none=>[])++(l.keys (2*m) (s+m)++r.keys (2*m) (s+2*m))
def mvT (d:Nat) (t:T Ab):List Nat→T Ab
 |[]=>.nil
 |k::r=>match t.get k with
  |some x=>match mvK d x with
   |some y=>(mvT d t r).set (k+d) y
   |none=>mvT d t r
  |none=>mvT d t r
def pH:AV→Bool
 |.bool _=>true
 |.int _ _=>true
 |.str _ _=>true
 |_=>false
def Orc.canMove (e:Orc):Bool:=e.args.all pH&&(match e.part with|.nil=>true|_=>false)
def Orc.move (e:Orc) (d:Nat):Orc:={f:=e.f,args:=e.args,part:=.nil,nx:=e.nx+d,ok:=e.ok,v:=mvA d e.v,out:=mvT d e.out (e.out.keys 1 0),nx':=e.nx'+d,wr:=[]}
theorem Sw (d:Nat):∀l:List AV,(mvL d l).length=l.length
 |[]=>rfl
 |a::r=>by simp [mvL,Sw d r]
theorem Ze (d:Nat):∀(l:List AV) (i:Nat),(mvL d l)[i]?=l[i]?.map (mvA d)
 |[],i=>by simp [mvL]
 |a::r,0=>by simp [mvL]
 |a::r,i+1=>by simp [mvL,Ze d r i]
section
variable [U:Unk]
theorem VR.move {ρ C:Ren} {d:Nat} (h:∀b base,ρ b=some base→C (b+d)=some base) {a:AV} {v:Value} (k:VR ρ a v):VR C (mvA d a) v:=by
 have ls:∀(l:List AV) (l':List Value),(∀(i:Nat) (a:AV) (v:Value),l[i]?=some a→l'[i]?=some v→VR C (mvA d a) v)→∀(i:Nat) (a:AV) (v:Value),(mvL d l)[i]?=some a→l'[i]?=some v→VR C a v:=by
  intro l l' ih i a v j hv;rw [Ze] at j;cases I:l[i]? with
  |none=>rw [I] at j;cases j
  |some x=>rw [I] at j;cases j;exact ih i x v I hv
 induction k with
 |top v=>exact .top v
 |bool b=>exact .bool b
 |int k n=>exact .int k n
 |str s=>exact .str s
 |ptr0=>exact .ptr0
 |ptr b off base r=>exact .ptr _ off base (h _ _ r)
 |slice0=>exact .slice0
 |slice b off n es cap base r hc hz=>exact .slice _ off n es cap base (h _ _ r) hc hz
 |sliceEnd b off es a=>exact .sliceEnd _ off es a
 |map0=>exact .map0
 |map b base r=>exact .map _ base (h _ _ r)
 |func=>exact .top _
 |nilFunc=>exact .nilFunc
 |iface t a v _ ih=>exact .iface t _ v ih
 |nilIface=>exact .nilIface
 |agg l l' J h2 ih=>exact .agg _ l' (by rw [Sw,J]) (ls l l' ih)
 |tuple l l' J h2 ih=>exact .tuple _ l' (by rw [Sw,J]) (ls l l' ih)
 |sb=>exact .top _
 |si=>exact .top _
 |ss=>exact .top _
 |dat=>exact .top _
 |dptr=>exact .top _
 |asl=>exact .top _
 |aslEnd=>exact .top _
 |eslc=>exact .top _
 |aptr=>exact .top _
 |nmap=>exact .top _
 |nmap0=>exact .top _
 |stamp=>exact .top _
 |glob=>exact .top _
theorem ER.move {ρ i:Ren} {d:Nat} (h:∀b base,ρ b=some base→i (b+d)=some base):∀{l:List Am} {l':List MapEntry},ER ρ l l'→ER i (xI d l) l'
 |[],[],_=>trivial
 |_::_,_::_,⟨j,r,t,C⟩=>⟨j.move h,r.move h,t,ER.move h C⟩
 |[],_::_,h=>h.elim
 |_::_,[],h=>h.elim
theorem BR.move {ρ σ:Ren} {d:Nat} (h:∀b base,ρ b=some base→σ (b+d)=some base) {x y:Ab} {base:Bt} {o:Option Obj} (k:BR ρ x base o) (j:mvK d x=some y):BR σ y base o:=by
 cases x with
 |cells n c=>
  cases j;obtain ⟨r,e,fz,t,C,h3,h4,h5⟩:=k;refine ⟨r,e,fz,t,C,h3,h4,fun i a hi l=>?_⟩
  rw [T.get_mapA] at l;cases I:c.get i with
  |none=>rw [I] at l;cases l
  |some a0=>
   rw [I] at l;cases l;obtain ⟨v,hv,hr⟩:=h5 i a0 hi I;exact ⟨v,hv,hr.move h⟩
 |map es J=>cases j;obtain ⟨ab,t,C⟩:=k;exact ⟨ab,t,C.move h⟩
 |arr=>cases j
 |dmap=>cases j
 |dmapS=>cases j
 |loop=>cases j
 |deferred=>cases j
 |mapIter=>cases j
 |strIter=>cases j
omit U in
theorem ng {d:Nat} {t:T Ab}:∀{l:List Nat} {b:Nat} {y:Ab},(mvT d t l).get b=some y→∃k x,b=k+d∧t.get k=some x∧mvK d x=some y:=by
 intro l
 induction l with
 |nil=>intro b y h;rw [mvT,T.get_nil] at h;cases h
 |cons k r ih=>
  intro b y h;unfold mvT at h;split at h
  ·rename_i x hx;split at h
   ·rename_i z hz;rw [T.get_set] at h;by_cases hb:k+d=b
    ·rw [if_pos hb] at h;cases h;exact ⟨k,x,hb.symm,hx,hz⟩
    ·rw [if_neg hb] at h;exact ih h
   ·exact ih h
  ·exact ih h
theorem jd {c e:Ren} {a:AV} {v:Value} (h:pH a=true) (k:VR c a v):VR e a v:=by
 cases k<;>first | (cases h;done)|constructor
end
theorem Orc.Valid.move {P:Program} {F:Nat→D→D} {e:Orc} (hv:e.Valid P F) (hc:e.canMove=true) (d:Nat):(e.move d).Valid P F:=by
 intro U hK hF ρ w ab ha hr hwf ar c0 base;unfold Orc.canMove at hc;simp only [Bool.and_eq_true] at hc;obtain ⟨bs,a6⟩:=hc
 have hp:e.part=.nil:=by
  split at a6
  ·assumption
  ·cases a6
 have a7:∀b,e.part.get b=none:=fun b=>by rw [hp];exact T.get_nil b
 have bv:VL ⟨fun _=>none,ρ.imm⟩ e.args ab:=⟨ha.1,fun i a v C I=>jd (List.all_eq_true.1 bs a (List.mem_of_getElem? C)) (ha.2 i a v C I)⟩
 have b5:HR ⟨fun _=>none,ρ.imm⟩ e.part.get w:=⟨fun _ _ h=>(by cases h),fun _ _ _ h=>(by cases h),fun _ _ _ _ _ h=>(by cases h),hr.imm,fun _ _ _ _ _ h=>(by cases h),hr.glob⟩
 obtain ⟨r,v',w',g,q1,q2,q3,q4,q5,q6,q7⟩:=hv hK hF ⟨fun _=>none,ρ.imm⟩ w ab bv b5 (fun b _=>a7 b) (fun _ _ _=>rfl) c0 base
 have bd:∀b base,r b=some base→e.nx≤b∧b<e.nx'∧w.heap.size≤base.cb:=by
  intro b base l;rcases q4.new b base l with h|⟨C,I,h3⟩
  ·cases h
  ·refine ⟨C,q6▸I,?_⟩;rcases h3 with h|⟨_,_,h,_⟩
   ·exact h
   ·cases h
 have av:∀k x,g.blk.get k=some x→e.nx≤k∧k<e.nx':=by
  intro k x hk;rcases q4.live k (by rw [hk];exact Option.some_ne_none _) with h|⟨C,I⟩
  ·exact absurd (a7 k) h
  ·exact ⟨C,q6▸I⟩
 have cf:e.nx≤e.nx':=by have:=q4.nx;rw [q6] at this;exact this
 have ch:=hr.lt
 let σ:Ren:=⟨fun b=>if e.nx+d≤b∧b<e.nx'+d then r (b-d) else ρ b,r.imm⟩
 have bm:∀b base,r b=some base→σ (b+d)=some base:=by
  intro b base l;obtain ⟨C,I,_⟩:=bd b base l;show (if e.nx+d≤b+d∧b+d<e.nx'+d then r (b+d-d) else ρ (b+d))=some base
  rw [if_pos ⟨by omega,by omega⟩,Nat.add_sub_cancel]
  exact l
 have al:∀b base,σ b=some base→(e.nx+d≤b∧b<e.nx'+d∧r (b-d)=some base)∨ρ b=some base:=by
  intro b base l;have l:(if e.nx+d≤b∧b<e.nx'+d then r (b-d) else ρ b)=some base:=l
  by_cases hh:e.nx+d≤b∧b<e.nx'+d
  ·rw [if_pos hh] at l;exact .inl ⟨hh.1,hh.2,l⟩
  ·rw [if_neg hh] at l;exact .inr l
 have t:∀b y,(mvT d e.out (e.out.keys 1 0)).get b=some y→∃k x,b=k+d∧g.blk.get k=some x∧mvK d x=some y∧e.nx≤k∧k<e.nx':=by
  intro b y l;obtain ⟨k,x,C,I,h3⟩:=ng l;have h4:=q5 k x I;obtain ⟨h5,h6⟩:=av k x h4;exact ⟨k,x,C,h4,h3,h5,h6⟩
 have an:∀k base,e.nx≤k→k<e.nx'→σ (k+d)=some base→r k=some base:=by
  intro k base C I h;have h:(if e.nx+d≤k+d∧k+d<e.nx'+d then r (k+d-d) else ρ (k+d))=some base:=h
  rw [if_pos ⟨by omega,by omega⟩,Nat.add_sub_cancel] at h
  exact h
 refine ⟨σ,v',w',{blk:=mvT d e.out (e.out.keys 1 0),nx:=e.nx'+d,log:=[]},q1,q2.move bm,⟨?_,?_,?_,q3.imm,?_,q3.glob⟩,⟨⟨?_,q4.le.imm⟩,?_,?_,q4.calm,?_,⟨[],rfl,?_⟩,?_,?_⟩,fun b x h=>h,rfl,fun b l=>(by cases l)⟩
 ·intro b base l;rcases al b base l with ⟨_,_,h⟩|h
  ·exact q3.lt _ _ h
  ·have:=hr.lt b base h;have:=q4.calm.size;omega
 ·intro b base y l J;obtain ⟨k,x,rfl,C,I,h3,h4⟩:=t b y J;exact (q3.blk k base x (an k base h3 h4 l) C).move bm I
 ·intro b b' base base' b6 l cc C I;cases J:(mvT d e.out (e.out.keys 1 0)).get b with
  |none=>exact absurd J C
  |some y=>
   cases bn:(mvT d e.out (e.out.keys 1 0)).get b' with
   |none=>exact absurd bn I
   |some y'=>
    obtain ⟨k,x,rfl,a1,a2,a3,a4⟩:=t b y J;obtain ⟨k',x',rfl,b1,b2,b3,b4⟩:=t b' y' bn;exact q3.apart k k' base base' (fun e=>b6 (by rw [e])) (an k base a3 a4 l) (an k' base' b3 b4 cc) (by rw [a1];exact Option.some_ne_none _) (by rw [b1];exact Option.some_ne_none _)
 ·intro k arr b base hk l hg;cases J:(mvT d e.out (e.out.keys 1 0)).get b with
  |none=>exact absurd J hg
  |some y=>
   obtain ⟨j,x,rfl,a1,a2,a3,a4⟩:=t b y J;exact q3.off k arr j base hk (an j base a3 a4 l) (by rw [a1];exact Option.some_ne_none _)
 ·intro b base l;show (if e.nx+d≤b∧b<e.nx'+d then r (b-d) else ρ b)=some base
  rw [if_neg]
  ·exact l
  ·rintro ⟨C,I⟩
   have:=ar b C I;rw [this] at l;cases l
 ·show e.nx+d≤e.nx'+d;omega
 ·intro b base l;rcases al b base l with ⟨C,I,h⟩|h
  ·exact .inr ⟨C,I,.inl (bd _ _ h).2.2⟩
  ·exact .inl h
 ·intro k hk _;exact q4.kept k hk (fun b base l=>by cases l)
 ·intro b _ l;show (mvT d e.out (e.out.keys 1 0)).get b=(T.nil:T Ab).get b;rw [T.get_nil];cases J:(mvT d e.out (e.out.keys 1 0)).get b with
  |none=>rfl
  |some y=>
   obtain ⟨k,x,rfl,_,_,h3,h4⟩:=t b y J;have l:k+d<e.nx+d∨e.nx'+d≤k+d:=l;omega
 ·intro b l;refine .inr ?_;cases J:(mvT d e.out (e.out.keys 1 0)).get b with
  |none=>exact absurd J l
  |some y=>
   obtain ⟨k,x,rfl,_,_,h3,h4⟩:=t b y J;exact ⟨by show e.nx+d≤k+d;omega,by show k+d<e.nx'+d;omega⟩
 ·intro k arr hk;rcases q4.imm k arr hk with h|h|⟨b0,cd,h,_⟩
  ·exact .inl h
  ·exact .inr (.inl h)
  ·cases h
end Go.AE
namespace Go.AE
variable [Gl:AH]
def my (a b:Nat×Nat):Nat×Nat:=(a.1+b.1,a.2+b.2*256^a.1)
def YO (a:Nat×Nat):List (Nat×Nat)→Nat×Nat
 |[]=>(0,0)
 |x::r=>match r with
  |[]=>x
  |_::_=>my x (my a (YO a r))
def pk (l:List UInt8):Nat×Nat:=(l.length,Ay l)
theorem j0 (l m:List UInt8):pk (l++m)=my (pk l) (pk m):=by
 unfold pk my;rw [DY (U:=AB),List.length_append]
theorem VO (a:List UInt8):∀b:List (List UInt8),YO (pk a) (b.map pk)=pk (Lib.join b a)
 |[]=>rfl
 |[x]=>by rw [Lib.join_one];rfl
 |x::y::r=>by
  have c:Lib.join (x::y::r) a=x++(a++Lib.join (y::r) a):=by
   rw [Lib.join_cons,Lib.join_cons];simp [Lib.joinTail]
  have ih:=VO a (y::r);rw [c,j0,j0,←ih];rfl
def SJ (c:T AV):Nat→Nat→Option (List (Nat×Nat))
 |_,0=>some []
 |o,n+1=>match c.get o with
  |some (.str l b)=>match SJ c (o+1) n with
   |some r=>some ((l,b)::r)
   |none=>none
  |_=>none
def iW (J:FuncId) (e:Orc):Bool:=match e.args with
 |[.slice b off n i,.str a d]=>match e.part.get b with
  |some (.cells m c)=>match SJ c off n with
   |some l=>match e.v with
    |.str g h=>Nat.beq e.f J&&Nat.blt 0 n&&Nat.ble (off+n) m&&Nat.ble n 140737488355328&&Nat.beq (YO (a,d) l).1 g&&Nat.beq (YO (a,d) l).2 h&&Nat.ble g 281474976710656&&e.ok&&Nat.beq e.nx e.nx'&&(match e.out with|.nil=>true|_=>false)
    |_=>false
   |none=>false
  |_=>false
 |_=>false
section
variable [U:Unk]
theorem VR.str_inv {ρ:Ren} {l b:Nat} {v:Value} (h:VR ρ (.str l b) v):∃s:ByteArray,v=.string s∧(l,b)=pk s.data.toList:=by
 cases h with
 |str s=>exact ⟨s,rfl,rfl⟩
theorem Qn {ρ:Ren} {c:T AV} {b:Array Value} {co m:Nat} (g:∀i a,i<m→c.get i=some a→∃v,b[co+i]?=some v∧VR ρ a v):∀(n o:Nat) (l:List (Nat×Nat)),SJ c o n=some l→o+n≤m→
  ∃d:List ByteArray,d.length=n∧l=(d.map (·.data.toList)).map pk∧∀(j:Nat) x,d[j]?=some x→b[co+o+j]?=some (.string x)
 |0,o,l,h,_=>by cases h;exact ⟨[],rfl,rfl,fun j x e=>by simp at e⟩
 |n+1,o,l,h,y=>by
  unfold SJ at h;split at h
  ·rename_i z A k;split at h
   ·rename_i r hr;cases h;obtain ⟨v,p,f⟩:=g o _ (by omega) k
    obtain ⟨s,rfl,q⟩:=f.str_inv;obtain ⟨d,t,u,w⟩:=Qn g n (o+1) r hr (by omega)
    refine ⟨s::d,by simp [t],by rw [List.map_cons,List.map_cons,←u,←q],fun j x e=>?_⟩
    cases j with
    |zero=>simp at e;subst e;exact p
    |succ j=>have:=w j x (by simpa using e);rwa [show co+(o+1)+j=co+o+(j+1) from by omega] at this
   ·cases h
  ·cases h
end
theorem Orc.Valid.join {P:Program} {F:Nat→D→D} {r:Shelf.Ren} (L:Proofs.Lays.n156 P r) (X:Proofs.Builder.Extra P r) {e:Orc} (C:iW (r.f 156) e=true):e.Valid P F:=by
 intro U hK hF ρ w a2 ha hr hwf a6 c0 base;unfold iW at C;split at C
 ·rename_i b off n es ls bs ar;split at C
  ·rename_i m c av;split at C
   ·rename_i l hl;split at C
    ·rename_i lv bv hv;simp only [Bool.and_eq_true] at C;obtain ⟨⟨⟨⟨⟨⟨⟨⟨⟨h1,h2⟩,h3⟩,h4⟩,h5⟩,h6⟩,h7⟩,h8⟩,h9⟩,J⟩:=C;have h1:=Nat.eq_of_beq_eq_true h1;have h2:0<n:=Nat.le_of_ble_eq_true h2;have h3:=Nat.le_of_ble_eq_true h3;have h4:=Nat.le_of_ble_eq_true h4;have h5:=Nat.eq_of_beq_eq_true h5;have h6:=Nat.eq_of_beq_eq_true h6;have h7:=Nat.le_of_ble_eq_true h7;have h9:=Nat.eq_of_beq_eq_true h9;have J:e.out=.nil:=by split at J<;>first|assumption|cases J
     rw [ar] at ha;obtain ⟨sv,r1,rfl,hs,ha⟩:=ha.cons_inv;obtain ⟨pv,r2,rfl,hp,ha⟩:=ha.cons_inv;have:=ha.nil_inv;subst this;obtain ⟨I,rfl,a1⟩:=hp.str_inv;cases hs with
     |sliceEnd=>omega
     |slice _ _ _ _ a7 ab hb bn hz=>
      obtain ⟨b0,et,fz,g1,g2,g3,g4,g5⟩:=hr.blk b ab _ hb av;obtain ⟨xs,x1,x2,x3⟩:=Qn g5 n off l hl h3;have bd:=hr.lt b ab hb;rw [a1,x2,VO] at h5 h6
      have hc:=Proofs.Any.strings_Join_48 L X ab.cb (ab.co+off) a7 xs I w (fun j x hx=>by
       have:=x3 j x hx;simp only [World.cell?,g1];exact this) bd (by omega) (by omega) (by
       have:(pk (Lib.join (xs.map (·.data.toList)) I.data.toList)).1=(Lib.join (xs.map (·.data.toList)) I.data.toList).length:=rfl
       omega) (c0::base)
      obtain ⟨en,w',fr,⟨rfl,i⟩,al,b1,an⟩:=hc;have bm:Steps P _ _:=al;have t:∀k,k<w.heap.size→w'.heap[k]?=w.heap[k]?:=i.block
      refine ⟨ρ,.string ⟨(Lib.join (xs.map (·.data.toList)) I.data.toList).toArray⟩,w',{blk:=e.part,nx:=e.nx,log:=[]},?_,?_,⟨?_,?_,hr.apart,?_,hr.off,hr.glob⟩,⟨Ren.le_refl ρ,Nat.le_refl _,fun _ _ h=>.inl h,⟨i.os,i.tape,i.output,i.size⟩,fun k hk _=>t k hk,⟨[],rfl,fun _ _ _=>rfl⟩,fun _ h=>.inl h,fun _ _ h=>.inl h⟩,?_,h9,fun b hb=>(by cases hb)⟩
      ·rw [h8,h1];have:=Steps.trans bm (Steps.one (step_leave_returned an));rw [x1] at this;exact this
      ·rw [hv];have:=VR.str (ρ:=ρ) ⟨(Lib.join (xs.map (·.data.toList)) I.data.toList).toArray⟩
       rw [←h5,←h6];exact this
      ·intro b base hb;have:=hr.lt b base hb;have:=i.size;omega
      ·intro b base x hb hx;rw [t _ (hr.lt b base hb)];exact hr.blk b base x hb hx
      ·intro k arr hk;rw [t _ (hr.immLt hk)];exact hr.imm k arr hk
      ·intro b x hx;rw [J,T.get_nil] at hx;cases hx
    ·cases C
   ·cases C
  ·cases C
 ·cases C
end Go.AE

