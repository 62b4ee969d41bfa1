/- What is proved here: an evaluator of the model's steps that the kernel can run, and that whatever it answers is what the model does (part 6 of 8: AeSum, AeRng, AeEval, AeTail, AeRun3, AeOrc, AeMove). Conditions: those that each theorem states; they hold of no one program. -/
import Derived.Test.YtojjaeaohjlfnaaGreatBeE
set_option linter.unusedVariables false
set_option linter.unusedSectionVars false
set_option linter.unusedSimpArgs false
namespace Go.AE
variable [Gl:AH]
structure Bd where
 v:T SE
 b:T Nat
 deriving Inhabited
def Bd.var (m:Bd) (e x:SE):Bd:=match e with
 |.var i=>match m.v.get i with
  |none=>{v:=m.v.set i x,b:=m.b}
  |some _=>m
 |_=>m
def Bd.blk (m:Bd) (b c:Nat):Bd:=match m.b.get b with
 |none=>{v:=m.v,b:=m.b.set b c}
 |some _=>m
mutual
def Gp:AV→AV→Bd→Bd
 |.ptr b _,.ptr c _,m=>m.blk b c
 |.slice b _ _ _,.slice c _ _ _,m=>m.blk b c
 |.map b,.map c,m=>m.blk b c
 |.func (.yield l) f c,.func (.yield i) j o,m=>Es c o (Es f j (m.blk l i))
 |.func _ f c,.func _ j o,m=>Es c o (Es f j m)
 |.iface _ v,.iface _ r,m=>Gp v r m
 |.agg l,.agg i,m=>Es l i m
 |.tuple l,.tuple i,m=>Es l i m
 |.sb p e,.sb s h,m=>m.var e (match p==s with|true=>h|false=>.neg h)
 |.sb p e,.bool b,m=>m.var e (.bc (b==p))
 |.si _ e,.si _ h,m=>m.var e h
 |.si _ e,.int _ n,m=>m.var e (.c n)
 |.ss e,.ss h,m=>m.var e h
 |.ss e,.str l b,m=>m.var e (.strc l b)
 |.dat _ x,.dat _ t,m=>m.var x t
 |.dat _ x,.slice0,m=>m.var x .nilL
 |.asl b _ n d,.asl c _ q g,m=>((m.blk b c).var n q).var d g
 |.asl b _ n d,.slice c _ q _,m=>((m.blk b c).var n (.c q)).var d (.bc false)
 |.asl _ _ n d,.slice0,m=>(m.var n (.c 0)).var d (.bc true)
 |.asl _ _ n d,.eslc g,m=>(m.var n (.c 0)).var d g
 |.eslc d,.eslc g,m=>m.var d g
 |.eslc d,.slice0,m=>m.var d (.bc true)
 |.nmap b d,.nmap c g,m=>(m.blk b c).var d g
 |.nmap b d,.map c,m=>(m.blk b c).var d (.bc false)
 |.nmap _ d,.map0,m=>m.var d (.bc true)
 |_,_,m=>m
termination_by structural a=>a
def Es:List AV→List AV→Bd→Bd
 |a::l,b::k,m=>Es l k (Gp a b m)
 |_,_,m=>m
termination_by structural l=>l
end
def PF:T AV→T AV→Bd→Bd
 |.node v l r,.node c d e,m=>PF r e (PF l d (match v,c with
  |some a,some b=>Gp a b m
  |_,_=>m))
 |_,_,m=>m
def Ta [Facts] (E:Env):Ag→Ag→Bd→Bd
 |.cells _ c,.cells _ g,m=>PF c g m
 |.loop _ _ _ _ t _ _ _ d,.loop _ _ _ _ h _ _ _ i,m=>PF t h (m.blk d i)
 |.arr _ x,.arr _ a,m=>m.var x a
 |.dmap _ _ x,.dmap _ _ a,m=>m.var x a
 |.dmap k v x,.map j _,m=>match E.kinds k,E.kinds v with
  |some b,some f=>match MB b f .emptyL j with
   |some y=>m.var x y
   |none=>m
  |_,_=>m
 |.arr e x,.cells n c,m=>match E.kinds e with
  |some ks=>match c.range 0 n with
   |some l=>match DJ ks (n/ks.length) .emptyL l with
    |some y=>m.var x y
    |none=>m
   |none=>m
  |none=>m
 |_,_,m=>m
def MA [Facts] (E:Env) (h:Aa):List (Option Ag)→Nat→Bd→Bd
 |[],_,m=>m
 |none::r,i,m=>MA E h r (i+1) m
 |some x::r,i,m=>match m.b.get i with
  |some c=>match h.blk.get c with
   |some y=>MA E h r (i+1) (Ta E x y m)
   |none=>MA E h r (i+1) m
  |none=>MA E h r (i+1) m
def G8 [Facts] (E:Env) (l:List (Option Ag)) (h:Aa) (m:Bd):Bd:=match l with
 |[]=>m
 |[_]=>m
 |_=>MA E h l 0 (MA E h l 0 (MA E h l 0 m))
def AQ [Facts] (E:Env):List (Option Ag)→Nat→Bd→Aa→Bd×Aa
 |[],_,m,h=>(m,h)
 |none::r,i,m,h=>match m.b.get i with
  |some _=>AQ E r (i+1) m h
  |none=>AQ E r (i+1) (m.blk i h.nx) {h with nx:=h.nx+1}
 |some x::r,i,m,h=>match m.b.get i with
  |some c=>match h.blk.get c with
   |some y=>AQ E r (i+1) (Ta E x y m) h
   |none=>AQ E r (i+1) m h
  |none=>match x with
   |.arr e y=>AQ E r (i+1) ((m.blk i h.nx).var y .nilL) (h.new (.arr e .nilL))
   |.dmap k v y=>AQ E r (i+1) ((m.blk i h.nx).var y .emptyL) (h.new (.dmap k v .emptyL))
   |_=>AQ E r (i+1) m h
def HT (t:T SE):Nat→Nat→List SE
 |_,0=>[]
 |i,n+1=>(match t.get i with|some x=>x|none=>.c 0)::HT t (i+1) n
def IG (t:T Nat):Nat→Nat→List Nat
 |_,0=>[]
 |i,n+1=>(match t.get i with|some x=>x|none=>0)::IG t (i+1) n
def M7 (n:Nat):List Nat→Bool
 |[]=>true
 |b::r=>Nat.blt b n&&M7 n r
def Dg (nx:Nat):Nat→List Nat
 |0=>[]
 |m+1=>nx::Dg (nx+1) m
def Iv [U:Facts] (a:List SE):List (SB×Bool)→Bool
 |[]=>true
 | (e,b)::r=>(match AM U.facts (e.inst a) with
  |some c=>c==b
  |none=>false)&&Iv a r
def DZ [Facts] (a:List SE) (c:List Nat):List (Option Ag)→List Nat→T Ag→Option (T Ag)
 |[],[],t=>some t
 |none::r,b::d,t=>DZ a c r d (t.del b)
 |some x::r,b::d,t=>match x.inst a c with
  |some y=>DZ a c r d (t.set b y)
  |none=>none
 |_,_,_=>none
def O9:Option Obs→Bool
 |some []=>true
 |_=>false
def T3 [Facts]:Obs→Bool
 |[]=>true
 | (a,.bc true)::r=>a.isB&&Lu a&&T3 r
 |_=>false
def Jx [Facts]:Option Obs→Bool
 |some o=>T3 o
 |none=>false
theorem WQ {U:Unk}:∀{o:Obs},@T3 U.toFacts o=true→o.holds U.V:=by
 intro o
 induction o with
 |nil=>intro _ a b d;cases d
 |cons p r ih=>
  intro h;unfold T3 at h;split at h
  ·rename_i c;cases c
  ·rename_i x g c;cases c;simp only [Bool.and_eq_true] at h;intro a b d;rcases List.mem_cons.1 d with q|q
   ·cases q;have e:=h.1.2;unfold Lu at e;split at e
    ·rename_i f;have:=As U.ok f;rw [Ob U.V h.1.1];show D.bool (Ad U.V x)=_;rw [this];rfl
    ·cases e
   ·exact ih h.2 a b q
  ·cases h
theorem Nw {U:Unk} {o:Option Obs} (h:@Jx U.toFacts o=true):∃l,o=some l∧l.holds U.V:=by
 unfold Jx at h;split at h
 ·exact ⟨_,rfl,WQ h⟩
 ·cases h
def Uy (old new:T Ag):List Nat→List Nat
 |[]=>[]
 |b::r=>match eqO PY (old.get b) (new.get b) with
  |true=>Uy old new r
  |false=>b::Uy old new r
theorem OQ {old new:T Ag}:∀{l:List Nat} {b:Nat},b∈l→b∉Uy old new l→new.get b=old.get b
 |c::r,b,h,a=>by
  simp only [Uy] at a;split at a
  ·rename_i d;rcases List.mem_cons.1 h with q|q
   ·subst q;exact (VD (fun _ _=>Lp) d).symm
   ·exact OQ q a
  ·rcases List.mem_cons.1 h with q|q
   ·subst q;exact absurd (by simp) a
   ·exact OQ q (fun c=>a (by simp [c]))
def Rp [Facts] (E:Env) (s:Sm) (b:List SE) (a:List Nat) (args:List AV) (h:Aa):Option (AV×Aa):=
 match Jx (FZ b a s.args args)&&Jx (Eo E b a h s.pre a)&&E3 a&&M7 h.nx a&&Iv b s.facts&&Nat.ble s.pre.length s.post.length with
 |true=>
  match DZ b (a++Dg h.nx (s.post.length-s.pre.length)) s.post (a++Dg h.nx (s.post.length-s.pre.length)) h.blk with
  |some t=>some (s.res.inst b (a++Dg h.nx (s.post.length-s.pre.length)),{blk:=t,nx:=h.nx+(s.post.length-s.pre.length),log:=Uy h.blk t a++h.log})
  |none=>none
 |false=>none
def dY:AV→Kd
 |.dat e _=>.slice e
 |_=>.bool
def Pq [Facts] (E:Env) (p a:AV) (h:Aa):AV×Aa:=
 match p,a with
 |.agg c,.agg d=>match IE E (c.map dY) d h with
  | (b,e)=>(.agg b,e)
 |p,a=>Ky E (dY p) a h
def P0 [Facts] (E:Env):List AV→List AV→Aa→List AV×Aa
 |p::b,a::l,h=>match Pq E p a h with
  | (c,d)=>match P0 E b l d with
   | (e,f)=>(c::e,f)
 |_,l,h=>(l,h)
def DU [Facts] (E:Env):List (Option Ag)→Nat→T Nat→Aa→Aa
 |[],_,_,h=>h
 |some (.arr e _)::r,i,b,h=>match b.get i,E.kinds e with
  |some c,some ks=>match Gh ks with
   |true=>match h.blk.get c with
    |some (.cells _ _)=>DU E r (i+1) b (Hs E e c h)
    |_=>DU E r (i+1) b h
   |false=>DU E r (i+1) b h
  |_,_=>DU E r (i+1) b h
 |some (.cells n a)::r,i,b,h=>match b.get i,a.range 0 n with
  |some c,some l=>match Gh (Nv l) with
   |true=>DU E r (i+1) b (Ee E (Nv l) c h)
   |false=>DU E r (i+1) b h
  |_,_=>DU E r (i+1) b h
 |_::r,i,b,h=>DU E r (i+1) b h
def PO [Facts] (E:Env) (s:Sm) (args:List AV) (h:Aa):List AV×Aa:=match P0 E s.args args h with
 | (args,h)=>(args,DU E s.pre 0 (G8 E s.pre h (Es s.args args ⟨.nil,.nil⟩)).b h)
def Rh:AV→Bool
 |.bool _=>true
 |.int _ _=>true
 |.str _ _=>true
 |.sb _ _=>true
 |.si _ _=>true
 |.ss _=>true
 |_=>false
def OI:AV→Bool
 |.tuple l=>l.all Rh
 |a=>Rh a
def ZY (s:Sm) (h:Aa) (r:AV×Aa):AV×Aa:=match s.pre,s.post,OI r.1 with
 |[],[],true=>(r.1,h)
 |_,_,_=>r
def VA [Facts] (E:Env) (s:Sm) (args:List AV) (h0:Aa):Option (AV×Aa):=
 match PO E s args h0 with
 | (args,h)=>match AQ E s.pre 0 (G8 E s.pre h (Es s.args args ⟨.nil,.nil⟩)) h with
  | (m,a)=>match Rp E s (HT m.v 0 s.nv) (IG m.b 0 s.pre.length) args a with
   |some r=>some (ZY s h0 r)
   |none=>none
def LO [Facts] (E:Env):List Sm→FuncId→List AV→Aa→Option (Bool×AV×Aa)
 |[],_,_,_=>none
 |s::r,f,args,h=>match Nat.beq s.f f with
  |true=>match VA E s args h with
   |some (v,g)=>some (s.ok,v,g)
   |none=>LO E r f args h
  |false=>LO E r f args h
def Sm.Valid (P:Program) (F:Nat→D→D) (s:Sm):Prop:=
 ∀[U:Unk],U.K=(Env.of P).kinds→U.V.fn=F→(∀e b,(e,b)∈s.facts→Ad U.V e=b)→∀(r:Ren) (w:World) (l:List Value),VL r s.args l→HR r (A8 s.pre).get w→(∀b,s.pre.length≤b→r b=none)→
  ∀(c0:Frame) (base:List Frame),∃t J I,BH P (lone (Frame.enter P s.f l.toArray .normal) (c0::base) w) c0 base s.ok J I∧VR t s.res J∧HR t (A8 s.post).get I∧
   Ext r t {blk:=A8 s.pre,nx:=s.pre.length,log:=[]} {blk:=A8 s.post,nx:=s.post.length,log:=List.range s.pre.length} w I
theorem Na {o:Option Obs} (h:O9 o=true):o=some []:=by
 unfold O9 at h;split at h
 ·rfl
 ·cases h
theorem Lw:∀(m nx i:Nat),(Dg nx m)[i]?=if i<m then some (nx+i) else none
 |0,nx,i=>by simp [Dg]
 |m+1,nx,i=>by
  cases i with
  |zero=>simp [Dg]
  |succ i=>
   simp only [Dg,List.getElem?_cons_succ,Lw m (nx+1) i];by_cases c:i<m
   ·rw [if_pos c,if_pos (by omega)];congr 1;omega
   ·rw [if_neg c,if_neg (by omega)]
theorem LW {n:Nat}:∀{l:List Nat},M7 n l=true→∀b∈l,b<n
 |[],_,b,a=>by cases a
 |c::r,h,b,a=>by
  simp only [M7,Bool.and_eq_true] at h;rcases List.mem_cons.1 a with rfl|a
  ·simpa [Nat.blt_eq] using h.1
  ·exact LW h.2 b a
theorem BV {U:Unk} {f:List SE}:∀{l:List (SB×Bool)},@Iv U.toFacts f l=true→∀e b,(e,b)∈l→Ad (U.V.inst f) e=b
 |[],_,e,b,h=>by cases h
 | (x,c)::r,h,e,b,g=>by
  simp only [Iv,Bool.and_eq_true] at h;rcases List.mem_cons.1 g with q|q
  ·cases q;have a:=h.1;split at a
   ·rename_i d i;have:=@As _ U U.V _ U.ok _ _ i;rw [Ff] at this;rw [this];exact eq_of_beq a
   ·cases a
  ·exact BV h.2 e b q
theorem Rv [Facts] {q:List SE} {s:List Nat}:∀(l:List (Option Ag)) (d:List Nat) (t f:T Ag),DZ q s l d t=some f→(∀(i j b:Nat),d[i]?=some b→d[j]?=some b→i=j)→
  (∀c,c∉d→f.get c=t.get c)∧∀(i c:Nat),d[i]?=some c→(l[i]?=some none∧f.get c=none)∨∃(x y:Ag),l[i]?=some (some x)∧x.inst q s=some y∧f.get c=some y:=by
 intro l
 induction l with
 |nil=>
  intro d t f h m;cases d with
  |nil=>simp only [DZ,Option.some.injEq] at h;subst h;exact ⟨fun _ _=>rfl,fun i c a=>by simp at a⟩
  |cons=>cases h
 |cons o r ih=>
  intro d t f h m;cases d with
  |nil=>cases o<;>cases h
  |cons b d=>
   have u:b∉d:=by
    intro v;obtain ⟨j,n,e⟩:=List.getElem_of_mem v;have:=m 0 (j+1) b rfl (by simp [n,e])
    omega
   have g:∀(i j b:Nat),d[i]?=some b→d[j]?=some b→i=j:=fun i j c hi n=>by
    have:=m (i+1) (j+1) c (by simpa using hi) (by simpa using n)
    omega
   cases o with
   |none=>
    simp only [DZ] at h;obtain ⟨k,p⟩:=ih d _ f h g;refine ⟨fun c a=>?_,fun i c a=>?_⟩
    ·simp only [List.mem_cons,not_or] at a;rw [k c a.2,T.get_del,if_neg (fun e=>a.1 e.symm)]
    ·cases i with
     |zero=>
      simp only [List.getElem?_cons_zero,Option.some.injEq] at a;subst a;exact .inl ⟨rfl,by rw [k _ u,T.get_del,if_pos rfl]⟩
     |succ i=>
      simp only [List.getElem?_cons_succ] at a ⊢;exact p i c a
   |some x=>
    simp only [DZ] at h;split at h
    ·rename_i y w;obtain ⟨k,p⟩:=ih d _ f h g;refine ⟨fun c a=>?_,fun i c a=>?_⟩
     ·simp only [List.mem_cons,not_or] at a;rw [k c a.2,T.get_set,if_neg (fun e=>a.1 e.symm)]
     ·cases i with
      |zero=>
       simp only [List.getElem?_cons_zero,Option.some.injEq] at a;subst a;exact .inr ⟨x,y,rfl,w,by rw [k _ u,T.get_set,if_pos rfl]⟩
      |succ i=>
       simp only [List.getElem?_cons_succ] at a ⊢;exact p i c a
    ·cases h
@[reducible] def CA (U:Unk) (F:List (SB×Bool)) (a:List SE) (h:∀e b,(e,b)∈F→Ad (U.V.inst a) e=b):Unk:={facts:=F,V:=U.V.inst a,K:=U.K,R:=[],hR:=fun _ _ _ _ _ h=>(by cases h),ok:=h}
theorem Ti {U:Unk} {E:Env} {FF:List (SB×Bool)} {C:List SE} {r:List Nat} (z:∀e b,(e,b)∈FF→Ad (U.V.inst C) e=b) {pre post:List (Option Ag)} {res:AV} {o:Obs} {h:Aa} {t:T Ag} {ρ X:Ren} {w w':World} {v':Value} {p A:Nat} (ap:pre.length=p) (aq:post.length=A)
  (ah:Eo E C r h pre r=some o) (ai:o.holds U.V) (ar:E3 r=true) (Z:∀b∈r,b<h.nx) (a0:p≤A) (ht:DZ C (r++Dg h.nx (A-p)) post (r++Dg h.nx (A-p)) h.blk=some t)
  (hr:HR ρ h.blk.get w) (hwf:∀b,h.nx≤b→h.blk.get b=none) (ad:AG ρ h.nx (h.nx+(A-p)))
  (q2:@VR (CA U FF C z).toVals X res v') (q3:@HR _ (CA U FF C z).toVals X (A8 post).get w') (N:Ext (ρ.back r) X {blk:=A8 pre,nx:=pre.length,log:=[]} {blk:=A8 post,nx:=post.length,log:=List.range pre.length} w w') :
  ∃J,VR J (res.inst C (r++Dg h.nx (A-p))) v'∧HR J t.get w'∧Ext ρ J h {blk:=t,nx:=h.nx+(A-p),log:=r++h.log} w w':=by
 have hV:(CA U FF C z).V=U.V.inst C:=rfl;have hK:(CA U FF C z).K=U.K:=rfl;have a5:pre.length=r.length:=(De (U:=U) (W:=CA U FF C z) hV hK pre r o ah ai).1;have aj:=(De (U:=U) (W:=CA U FF C z) hV hK pre r o ah ai).2
 have P:∀b,pre.length≤b→(ρ.back r).m b=none:=by
  intro b F;have:r[b]?=none:=List.getElem?_eq_none (by omega)
  simp [Ren.back,this]
 have au:r.length=p:=by omega
 have gb:∀(i:Nat),(r++Dg h.nx (A-p))[i]?=if i<p then r[i]? else if i<A then some (h.nx+(i-p)) else none:=by
  intro i;by_cases c:i<p
  ·rw [if_pos c,List.getElem?_append_left (by omega)]
  ·rw [if_neg c,List.getElem?_append_right (by omega),Lw,au]
   by_cases c2:i<A
   ·rw [if_pos c2,if_pos (by omega)]
   ·rw [if_neg c2,if_neg (by omega)]
 have ae:∀(i j b:Nat),(r++Dg h.nx (A-p))[i]?=some b→(r++Dg h.nx (A-p))[j]?=some b→i=j:=by
  intro i j b hi M;rw [gb] at hi M;by_cases c:i<p
  ·rw [if_pos c] at hi;have:=Z b (List.mem_of_getElem? hi);by_cases d:j<p
   ·rw [if_pos d] at M;exact Nr ar hi M
   ·rw [if_neg d] at M;split at M
    ·cases M;omega
    ·cases M
  ·rw [if_neg c] at hi;split at hi
   ·cases hi;by_cases d:j<p
    ·rw [if_pos d] at M;have:=Z _ (List.mem_of_getElem? M);omega
    ·rw [if_neg d] at M;split at M
     ·simp only [Option.some.injEq] at M;omega
     ·cases M
   ·cases hi
 obtain ⟨t1,t2⟩:=@Rv _ U.toFacts C _ _ _ _ _ ht ae
 let J:Ren:=⟨fun c=>if h.nx≤c∧c<h.nx+(A-p) then X (p+(c-h.nx)) else ρ c,X.imm⟩
 have u:∀c,c<h.nx→J c=ρ c:=fun c n=>by show (if _ then _ else _)=_;rw [if_neg (by omega)]
 have Q:∀i,p≤i→i<A→J (h.nx+(i-p))=X i:=fun i h1 h2=>by
  show (if _ then _ else _)=_
  rw [if_pos (by omega)];congr 1;omega
 have ac:=N.le
 have back:∀b base,(ρ.back r).m b=some base→∃c,r[b]?=some c∧ρ c=some base:=by
  intro b base F;simp only [Ren.back] at F;cases n:r[b]? with
  |none=>rw [n] at F;cases F
  |some c=>rw [n] at F;exact ⟨c,rfl,F⟩
 have s:∀b,(A8 pre).get b≠none→∃c y,r[b]?=some c∧h.blk.get c=some y:=by
  intro b F;rw [Cj] at F;cases hx:pre[b]? with
  |none=>rw [hx] at F;exact absurd rfl F
  |some ox=>
   cases ox with
   |none=>rw [hx] at F;exact absurd rfl F
   |some x=>
    obtain ⟨c,y,o',a1,a2,a3,a4⟩:=aj b x hx;exact ⟨c,y,a1,a2⟩
 have af:ρ.le J:=by
  refine ⟨fun c base n=>?_,fun k a L=>ac.imm k a L⟩
  show (if _ then _ else _)=_
  rw [if_neg ?_]
  ·exact n
  ·intro ak;rw [ad c ak.1 ak.2] at n;cases n
 have al:∀b base,X b=some base→J ((r++Dg h.nx (A-p)).getD b 0)=some base:=by
  intro b g F;rcases N.new b g F with hq|⟨a1,a2,_⟩
  ·obtain ⟨c,c1,c2⟩:=back b g hq;have am:b<p:=by have:=(List.getElem?_eq_some_iff.1 c1).1;omega
   have e:(r++Dg h.nx (A-p)).getD b 0=c:=by rw [List.getD_eq_getElem?_getD,gb,if_pos am,c1];rfl
   rw [e,u c (Z c (List.mem_of_getElem? c1))];exact c2
  ·simp only [ap,aq] at a1 a2;have e:(r++Dg h.nx (A-p)).getD b 0=h.nx+(b-p):=by rw [List.getD_eq_getElem?_getD,gb,if_neg (by omega),if_pos a2];rfl
   rw [e,Q b a1 a2];exact F
 have kinds:∀c y,t.get c=some y→(∃i x,(r++Dg h.nx (A-p))[i]?=some c∧(A8 post).get i=some x∧@Ag.inst U.toFacts C (r++Dg h.nx (A-p)) x=some y)∨(c∉r∧c<h.nx∧h.blk.get c=some y):=by
  intro c y G;by_cases hm:c∈r++Dg h.nx (A-p)
  ·obtain ⟨i,hi,e⟩:=List.getElem_of_mem hm;have an:(r++Dg h.nx (A-p))[i]?=some c:=List.getElem?_eq_some_iff.2 ⟨hi,e⟩;rcases t2 i c an with ⟨_,q⟩|⟨x,y',a1,a2,a3⟩
   ·rw [q] at G;cases G
   ·rw [a3] at G;cases G;exact .inl ⟨i,x,an,by rw [Cj,a1];rfl,a2⟩
  ·rw [t1 c hm] at G;refine .inr ⟨fun e=>hm (List.mem_append_left _ e),?_,G⟩
   rcases Nat.lt_or_ge c h.nx with q|q
   ·exact q
   ·rw [hwf c q] at G;cases G
 have v:∀i c g,(r++Dg h.nx (A-p))[i]?=some c→J c=some g→X i=some g:=by
  intro i c g hi n;rw [gb] at hi;by_cases d:i<p
  ·rw [if_pos d] at hi;rw [u c (Z c (List.mem_of_getElem? hi))] at n;exact ac.m i g (by show (r[i]?).bind ρ.m=some g;rw [hi];exact n)
  ·rw [if_neg d] at hi;split at hi
   ·rename_i d2;cases hi;rw [Q i (by omega) d2] at n;exact n
   ·cases hi
 have H:∀D f c g y,(ρ.back r).m D=some f→(A8 pre).get D≠none→c∉r→ρ c=some g→h.blk.get c=some y→f.cb≠g.cb:=by
  intro D f c g y h1 h2 h3 h4 h5;obtain ⟨c1,O,R⟩:=back D f h1;obtain ⟨c2,y2,Y,e4⟩:=s D h2;rw [O] at Y;cases Y;exact hr.apart c1 c f g (fun e=>h3 (e▸List.mem_of_getElem? O)) R h4 (by rw [e4];exact Option.some_ne_none _) (by rw [h5];exact Option.some_ne_none _)
 have mixed:∀i c g I B y' x,(r++Dg h.nx (A-p))[i]?=some c→(A8 post).get i=some x→J c=some g→I∉r→I<h.nx→h.blk.get I=some y'→J I=some B→g.cb≠B.cb:=by
  intro i c g I B y' x hi hx n h3 h4 h5 h6;rw [u I h4] at h6;have av:=v i c g hi n;rcases N.new i g av with hq|⟨a1,a2,a3|⟨D,f,O,R,Y⟩⟩
  ·rcases N.live i (by show (A8 post).get i≠none;rw [hx];exact Option.some_ne_none _) with l|⟨l1,l2⟩
   ·exact H i g I B y' hq l h3 h6 h5
   ·simp only at l1;rw [P i l1] at hq;cases hq
  ·have:=hr.lt I B h6;omega
  ·rw [←Y];exact H D f I B y' O R h3 h6 h5
 refine ⟨J,FI (U:=U) (W:=CA U FF C z) hV hK al (fun k a L=>L) res v' q2,⟨?_,?_,?_,?_,?_,hr.glob.mono af.imm⟩,⟨af,by show h.nx≤h.nx+_;omega,?_,N.calm,?_,⟨r,rfl,?_⟩,?_,?_⟩⟩
 ·intro c g n;by_cases d:h.nx≤c∧c<h.nx+(A-p)
  ·have:J c=X (p+(c-h.nx)):=by show (if _ then _ else _)=_;rw [if_pos d]
   rw [this] at n;exact HR.lt (U:=(CA U FF C z).toVals) q3 _ g n
  ·have:J c=ρ c:=by show (if _ then _ else _)=_;rw [if_neg d]
   rw [this] at n;have:=hr.lt c g n;have:=N.calm.size;omega
 ·intro c g y n G;rcases kinds c y G with ⟨i,x,a1,a2,a3⟩|⟨a1,a2,a3⟩
  ·exact Rw (U:=U) (W:=CA U FF C z) hV hK al (fun k a L=>L) a3 (HR.blk (U:=(CA U FF C z).toVals) q3 i g x (v i c g a1 n) a2)
  ·rw [u c a2] at n;have L:=N.kept g.cb (hr.lt c g n) (fun D f aw ax=>H D f c g y aw ax a1 n a3)
   rw [L];exact (hr.blk c g y n a3).mono af
 ·intro c I g B ao n S h1 h2;cases G:t.get c with
  |none=>exact absurd G h1
  |some y=>
   cases ag:t.get I with
   |none=>exact absurd ag h2
   |some y'=>
    rcases kinds c y G with ⟨i,x,a1,a2,a3⟩|⟨a1,a2,a3⟩
    ·rcases kinds I y' ag with ⟨i',x',b1,b2,b3⟩|⟨b1,b2,b3⟩
     ·exact HR.apart (U:=(CA U FF C z).toVals) q3 i i' g B (fun e=>by subst e;rw [a1] at b1;cases b1;exact ao rfl) (v i c g a1 n) (v i' I B b1 S) (by rw [a2];exact Option.some_ne_none _) (by rw [b2];exact Option.some_ne_none _)
     ·exact mixed i c g I B y' x a1 a2 n b1 b2 b3 S
    ·rcases kinds I y' ag with ⟨i',x',b1,b2,b3⟩|⟨b1,b2,b3⟩
     ·exact (mixed i' I B c g y x' b1 b2 S a1 a2 a3 n).symm
     ·rw [u c a2] at n;rw [u I b2] at S;exact hr.apart c I g B ao n S (by rw [a3];exact Option.some_ne_none _) (by rw [b3];exact Option.some_ne_none _)
 ·intro k arr L;exact HR.imm (U:=(CA U FF C z).toVals) q3 k arr L
 ·intro k arr c g L n hl;cases G:t.get c with
  |none=>exact absurd G hl
  |some y=>
   rcases kinds c y G with ⟨i,x,a1,a2,a3⟩|⟨a1,a2,a3⟩
   ·exact HR.off (U:=(CA U FF C z).toVals) q3 k arr i g L (v i c g a1 n) (by rw [a2];exact Option.some_ne_none _)
   ·rw [u c a2] at n;have ay:h.blk.get c≠none:=by rw [a3];exact Option.some_ne_none _
    rcases N.imm k arr L with e|e|⟨D,f,O,R,Y⟩
    ·exact hr.off k arr c g e n ay
    ·have:=hr.lt c g n;omega
    ·rw [←Y];exact (H D f c g y O R a1 n a3).symm
 ·intro c g n;by_cases d:h.nx≤c∧c<h.nx+(A-p)
  ·have e:J c=X (p+(c-h.nx)):=by show (if _ then _ else _)=_;rw [if_pos d]
   rw [e] at n;refine .inr ⟨d.1,d.2,?_⟩;rcases N.new _ g n with hq|⟨_,_,a3|⟨D,f,O,R,Y⟩⟩
   ·rw [P _ (by omega)] at hq;cases hq
   ·exact .inl a3
   ·obtain ⟨c1,x1,x2⟩:=back D f O;obtain ⟨c2,y2,x3,x4⟩:=s D R;rw [x1] at x3;cases x3;exact .inr ⟨c1,f,x2,by rw [x4];exact Option.some_ne_none _,Y⟩
  ·have e:J c=ρ c:=by show (if _ then _ else _)=_;rw [if_neg d]
   rw [e] at n;exact .inl n
 ·intro k L az;refine N.kept k L (fun D f O R=>?_)
  obtain ⟨c1,x1,x2⟩:=back D f O;obtain ⟨c2,y2,x3,x4⟩:=s D R;rw [x1] at x3;cases x3;exact az c1 f x2 (by rw [x4];exact Option.some_ne_none _)
 ·intro b F aa;refine t1 b (fun hm=>?_)
  rcases List.mem_append.1 hm with q|q
  ·exact F q
  ·obtain ⟨i,hi,e⟩:=List.getElem_of_mem q;have ab:(Dg h.nx (A-p))[i]?=some b:=by simp [hi,e]
   rw [Lw] at ab;split at ab
   ·cases ab;simp only at aa;omega
   ·cases ab
 ·intro b F;show h.blk.get b≠none∨(h.nx≤b∧b<h.nx+(A-p));cases G:t.get b with
  |none=>exact absurd G F
  |some y=>
   rcases kinds b y G with ⟨i,x,a1,a2,a3⟩|⟨a1,a2,a3⟩
   ·rw [gb] at a1;by_cases d:i<p
    ·rw [if_pos d] at a1;rcases N.live i (by show (A8 post).get i≠none;rw [a2];exact Option.some_ne_none _) with l|⟨l1,_⟩
     ·obtain ⟨c2,y2,x3,x4⟩:=s i l;rw [a1] at x3;cases x3;exact .inl (by rw [x4];exact Option.some_ne_none _)
     ·simp only at l1;omega
    ·rw [if_neg d] at a1;split at a1
     ·cases a1;exact .inr (by omega)
     ·cases a1
   ·exact .inl (by rw [a3];exact Option.some_ne_none _)
 ·intro k arr L;rcases N.imm k arr L with e|e|⟨D,f,O,R,Y⟩
  ·exact .inl e
  ·exact .inr (.inl e)
  ·obtain ⟨c1,x1,x2⟩:=back D f O;obtain ⟨c2,y2,x3,x4⟩:=s D R;rw [x1] at x3;cases x3;exact .inr (.inr ⟨c1,f,x2,by rw [x4];exact Option.some_ne_none _,Y⟩)
theorem Ua {U:Unk} {E:Env} (hE:OK E) {F:Nat→D→D} (J:U.V.fn=F) {s:Sm} (L:s.Valid E.P F) {j:List SE} {g:List Nat} {args:List AV} {a:List Value} {h h':Aa} {v:AV} {u:Ren} {w:World}
  (k:Rp E s j g args h=some (v,h')) (M:VL u args a) (hr:HR u h.blk.get w) (hwf:∀b,h.nx≤b→h.blk.get b=none) (n:AG u h.nx h'.nx) (c0:Frame) (base:List Frame) :
  ∃x A y,BH E.P (lone (Frame.enter E.P s.f a.toArray .normal) (c0::base) w) c0 base s.ok A y∧VR x v A∧HR x h'.blk.get y∧Ext u x h h' w y:=by
 unfold Rp at k;split at k
 ·rename_i i;split at k
  ·rename_i t N;simp only [Option.some.injEq,Prod.mk.injEq] at k;obtain ⟨rfl,rfl⟩:=k;obtain ⟨i,d⟩:=An i;obtain ⟨i,c⟩:=An i;obtain ⟨i,o⟩:=An i;obtain ⟨i,z⟩:=An i;obtain ⟨p,e⟩:=An i;obtain ⟨l1,p,B⟩:=Nw p;obtain ⟨l2,e,q⟩:=Nw e;have d:=Cu d;have o:=LW o;have hV:(CA U s.facts j (BV c)).V=U.V.inst j:=rfl;have hK:(CA U s.facts j (BV c)).K=U.K:=rfl;have O:s.pre.length=g.length:=(De (U:=U) (W:=CA U s.facts j (BV c)) hV hK s.pre g _ e q).1;have p1:=DB (U:=U) (W:=CA U s.facts j (BV c)) hV hK s.args args _ a p B M;have p2:=HR.toPat (U:=U) (W:=CA U s.facts j (BV c)) hV hK hE hr e q z
   have r:∀b,s.pre.length≤b→(u.back g).m b=none:=by
    intro b G;have:g[b]?=none:=List.getElem?_eq_none (by omega)
    simp [Ren.back,this]
   obtain ⟨σ,A,y,Q,R,S,T⟩:=L (U:=CA U s.facts j (BV c)) hE.kd J (BV c) (u.back g) w a p1 p2 r c0 base;obtain ⟨x,X,Y,H⟩:=Ti (U:=U) (E:=E) (FF:=s.facts) (BV c) rfl rfl e q z o d N hr hwf n R S T;refine ⟨x,A,y,Q,X,Y,{H with log:=⟨Uy h.blk t g,rfl,fun b G hr=>?_⟩}⟩
   by_cases I:b∈g
   ·exact OQ I G
   ·obtain ⟨l,C,Z⟩:=H.log;have C:g++h.log=l++h.log:=C;have:=List.append_cancel_right C;subst this;exact Z b I hr
  ·cases k
 ·cases k
theorem Bq [Facts] {E:Env}:∀(l:List (Option Ag)) (i:Nat) (m:Bd) (h:Aa),h.nx≤(AQ E l i m h).2.nx
 |[],_,_,_=>Nat.le_refl _
 |none::r,i,m,h=>by
  simp only [AQ];split
  ·exact Bq r (i+1) m h
  ·exact Nat.le_trans (Nat.le_succ _) (Bq (E:=E) r (i+1) (m.blk i h.nx) {h with nx:=h.nx+1})
 |some x::r,i,m,h=>by
  simp only [AQ];split
  ·split
   ·exact Bq r (i+1) _ h
   ·exact Bq r (i+1) _ h
  ·split
   ·rename_i e y;have:=Bq (E:=E) r (i+1) ((m.blk i h.nx).var y .nilL) (h.new (.arr e .nilL));exact Nat.le_trans (Nat.le_succ _) this
   ·rename_i k v y;have:=Bq (E:=E) r (i+1) ((m.blk i h.nx).var y .emptyL) (h.new (.dmap k v .emptyL));exact Nat.le_trans (Nat.le_succ _) this
   ·exact Bq r (i+1) _ h
theorem Bn {U:Unk} {E:Env} {ρ:Ren} {w:World}:∀(l:List (Option Ag)) (i:Nat) (m:Bd) (h:Aa),HR ρ h.blk.get w→WF h→AG ρ h.nx (AQ E l i m h).2.nx→
  HR ρ (AQ E l i m h).2.blk.get w∧Ext ρ ρ h (AQ E l i m h).2 w w∧WF (AQ E l i m h).2
 |[],_,_,h,hr,hwf,_=>⟨hr,Ext.refl _ _ _,hwf⟩
 |none::r,i,m,h,hr,hwf,a=>by
  simp only [AQ] at a ⊢;split at a
  ·exact Bn r (i+1) m h hr hwf a
  ·have j:=Bq (E:=E) r (i+1) (m.blk i h.nx) {h with nx:=h.nx+1}
   have f:Ext ρ ρ h {h with nx:=h.nx+1} w w:=⟨Ren.le_refl ρ,Nat.le_succ _,fun _ _ e=>.inl e,GH.refl w,fun _ _ _=>rfl,⟨[],rfl,fun _ _ _=>rfl⟩,fun _ e=>.inl e,fun _ _ e=>.inl e⟩
   obtain ⟨b,c,d⟩:=Bn r (i+1) (m.blk i h.nx) {h with nx:=h.nx+1} hr (f.wf hwf) (f.free a)
   exact ⟨b,f.trans c a,d⟩
 |some x::r,i,m,h,hr,hwf,a=>by
  simp only [AQ] at a ⊢;split at a
  ·split at a
   ·exact Bn r (i+1) _ h hr hwf a
   ·exact Bn r (i+1) _ h hr hwf a
  ·split at a
   ·rename_i e y;have j:=Bq (E:=E) r (i+1) ((m.blk i h.nx).var y .nilL) (h.new (.arr e .nilL));have g:(h.new (.arr e .nilL)).nx=h.nx+1:=rfl;obtain ⟨p1,p2⟩:=HR.phantom hr (a h.nx (Nat.le_refl _) (by omega)) (.arr e .nilL)
    obtain ⟨b,c,d⟩:=Bn r (i+1) _ _ p1 (p2.wf hwf) (p2.free a);exact ⟨b,p2.trans c a,d⟩
   ·rename_i k v y;have j:=Bq (E:=E) r (i+1) ((m.blk i h.nx).var y .emptyL) (h.new (.dmap k v .emptyL));have g:(h.new (.dmap k v .emptyL)).nx=h.nx+1:=rfl;obtain ⟨p1,p2⟩:=HR.phantom hr (a h.nx (Nat.le_refl _) (by omega)) (.dmap k v .emptyL)
    obtain ⟨b,c,d⟩:=Bn r (i+1) _ _ p1 (p2.wf hwf) (p2.free a);exact ⟨b,p2.trans c a,d⟩
   ·exact Bn r (i+1) _ h hr hwf a
theorem PT {U:Unk} {E:Env} (hE:OK E) {w:World} {p a f:AV} {v:Value} {d:Ren} {h h':Aa} (hr:HR d h.blk.get w) (g:VR d a v) (b:Pq E p a h=(f,h')) :
  h'.nx=h.nx∧∃c:Ren,VR c f v∧HR c h'.blk.get w∧Ext d c h h' w w:=by
 unfold Pq at b;split at b
 ·rename_i r s;split at b;rename_i e t j;cases b;cases g with
  |agg _ k l m=>
   obtain ⟨n,c,i,o,q⟩:=K1 hE hr ⟨l,m⟩ j;exact ⟨n,c,.agg e k i.1 i.2,o,q⟩
 ·exact ⟨OE b,KZ hE hr g b⟩
theorem OY {U:Unk} {E:Env} (hE:OK E) {w:World}:∀{p l e:List AV} {f:List Value} {d:Ren} {h h':Aa},HR d h.blk.get w→VL d l f→P0 E p l h=(e,h')→
  h'.nx=h.nx∧∃i:Ren,VL i e f∧HR i h'.blk.get w∧Ext d i h h' w w
 |[],l,e,f,d,h,h',hr,g,c=>by
  cases l<;>(simp only [P0] at c;cases c;exact ⟨rfl,d,g,hr,Ext.refl _ _ _⟩)
 |k::ks,[],e,f,d,h,h',hr,g,c=>by
  simp only [P0] at c;cases c;exact ⟨rfl,d,g,hr,Ext.refl _ _ _⟩
 |k::ks,a::l,e,f,d,h,h',hr,g,c=>by
  obtain ⟨v,r,rfl,q,s⟩:=g.cons_inv;simp only [P0] at c;generalize j:Pq E k a h=p1 at c;obtain ⟨a1,t⟩:=p1;simp only at c;generalize m:P0 E ks l t=p2 at c;obtain ⟨F,G⟩:=p2;simp only at c;cases c;obtain ⟨u,i,x,y,n⟩:=PT hE hr q j;obtain ⟨z,A,B,C,o⟩:=OY hE y (s.mono n.le) m;refine ⟨by omega,A,VL.cons (x.mono o.le) B,C,n.trans o (fun b H D=>by omega)⟩
theorem Bw {U:Unk} {E:Env} (hE:OK E) {w:World}:∀(l:List (Option Ag)) (i:Nat) (b:T Nat) (h:Aa) (a:Ren),HR a h.blk.get w→(DU E l i b h).nx=h.nx∧∃f:Ren,HR f (DU E l i b h).blk.get w∧Ext a f h (DU E l i b h) w w
 |[],_,_,h,a,hr=>⟨rfl,a,hr,Ext.refl _ _ _⟩
 |some (.arr e x)::r,i,b,h,a,hr=>by
  have next:=Bw hE r (i+1) b h a hr;simp only [DU];split
  ·rename_i c ks g q;split
   ·split
    ·obtain ⟨s,f,j,k⟩:=NW (e:=e) (b:=c) hE hr;obtain ⟨t,m,o,p⟩:=Bw hE r (i+1) b (Hs E e c h) f j;exact ⟨by omega,m,o,k.trans p (fun d u v=>by omega)⟩
    ·exact next
   ·exact next
  ·exact next
 |none::r,i,b,h,a,hr=>Bw hE r (i+1) b h a hr
 |some (.cells n y)::r,i,b,h,a,hr=>by
  have next:=Bw hE r (i+1) b h a hr;simp only [DU];split
  ·rename_i c l g z;split
   ·obtain ⟨s,f,j,k⟩:=Kg (ks:=Nv l) (b:=c) hE hr;obtain ⟨t,m,o,p⟩:=Bw hE r (i+1) b (Ee E (Nv l) c h) f j;exact ⟨by omega,m,o,k.trans p (fun d u v=>by omega)⟩
   ·exact next
  ·exact next
 |some (.map _ _)::r,i,b,h,a,hr=>Bw hE r (i+1) b h a hr
 |some (.dmap _ _ _)::r,i,b,h,a,hr=>Bw hE r (i+1) b h a hr
 |some (.dmapS _ _ _ _ _)::r,i,b,h,a,hr=>Bw hE r (i+1) b h a hr
 |some (.loop _ _ _ _ _ _ _ _ _)::r,i,b,h,a,hr=>Bw hE r (i+1) b h a hr
 |some (.deferred _)::r,i,b,h,a,hr=>Bw hE r (i+1) b h a hr
 |some (.mapIter _ _ _ _)::r,i,b,h,a,hr=>Bw hE r (i+1) b h a hr
 |some (.strIter _ _ _)::r,i,b,h,a,hr=>Bw hE r (i+1) b h a hr
theorem XB {U:Unk} {E:Env} (hE:OK E) {w:World} {s:Sm} {l c:List AV} {f:List Value} {d:Ren} {h h':Aa} (hr:HR d h.blk.get w) (j:VL d l f) (e:PO E s l h=(c,h')) :
  h'.nx=h.nx∧∃a:Ren,VL a c f∧HR a h'.blk.get w∧Ext d a h h' w w:=by
 unfold PO at e;split at e;rename_i args g k;cases e;obtain ⟨t,a,m,n,o⟩:=OY hE hr j k;obtain ⟨u,p,q,i⟩:=Bw hE s.pre 0 (G8 E s.pre g (Es s.args c ⟨.nil,.nil⟩)).b g a n;exact ⟨by omega,p,m.mono i.le,q,o.trans i (fun b v r=>by omega)⟩
theorem Lj {U:Unk} {a:AV} {v:Value} {c d:Ren} (h:Rh a=true) (f:VR c a v):VR d a v:=by
 cases f with
 |bool b=>exact .bool b
 |int k n=>exact .int k n
 |str s=>exact .str s
 |sb p e=>exact .sb p e
 |si k e=>exact .si k e
 |ss x=>exact .ss x
 |_=>cases h
theorem SO {U:Unk} {a:AV} {v:Value} {d e:Ren} (h:OI a=true) (b:VR d a v):VR e a v:=by
 unfold OI at h;split at h
 ·rename_i l;cases b with
  |tuple _ f g j=>exact .tuple l f g fun i a v c b=>Lj (List.all_eq_true.mp h a (List.mem_of_getElem? c)) (j i a v c b)
 ·exact Lj h b
theorem HR.still {U:Unk} {ρ:Ren} {g:Nat→Option Ag} {w r:World} (hr:HR ρ g w) (I:w.heap.size≤r.heap.size) (t:∀k,k<w.heap.size→r.heap[k]?=w.heap[k]?):HR ρ g r:=by
 refine ⟨fun b base l=>Nat.lt_of_lt_of_le (hr.lt b base l) I,fun b base x l J=>?_,hr.apart,fun k arr hi=>?_,hr.off,hr.glob⟩
 ·rw [t _ (hr.lt b base l)];exact hr.blk b base x l J
 ·rw [t _ (hr.immLt hi)];exact hr.imm k arr hi
theorem XX {U:Unk} {E:Env} (hE:OK E) {F:Nat→D→D} (G:U.V.fn=F) {s:Sm} (H:s.Valid E.P F) {l:List SE} {y:List Nat} {args:List AV} {a:List Value} {h h0 h':Aa} {v:AV} {o c:Ren} {w:World}
  (d:Rp E s l y args h=some (v,h')) (p1:s.pre=[]) (p2:s.post=[]) (p3:OI v=true) (p:y=[]) (I:VL o args a) (hr:HR o h.blk.get w) (q:HR c h0.blk.get w) (c0:Frame) (base:List Frame) :
  ∃m n j,BH E.P (lone (Frame.enter E.P s.f a.toArray .normal) (c0::base) w) c0 base s.ok n j∧VR m v n∧HR m h0.blk.get j∧Ext c m h0 h0 w j:=by
 subst p
 have i:∃g,Rp E s l [] args {h with blk:=.nil}=some (v,g)∧g.nx=h.nx:=by
  unfold Rp at d ⊢;rw [p1,p2] at d ⊢;split at d
  ·rename_i J;have r:(Jx (FZ l [] s.args args)&&Jx (Eo E l [] {h with blk:=.nil} [] [])&&E3 []&&M7 h.nx []&&Iv l s.facts&&Nat.ble ([]:List (Option Ag)).length ([]:List (Option Ag)).length)=true:=J
   rw [r];split at d
   ·simp only [Option.some.injEq,Prod.mk.injEq] at d;obtain ⟨rfl,rfl⟩:=d;exact ⟨_,rfl,rfl⟩
   ·cases d
  ·cases d
 obtain ⟨g,i,K⟩:=i;have t:∀b,({h with blk:=T.nil}:Aa).blk.get b=none:=fun b=>by exact T.get_nil b
 have u:HR o ({h with blk:=T.nil}:Aa).blk.get w:=hr.restrict fun b=>.inl (t b)
 obtain ⟨m,n,j,L,M,_,z⟩:=Ua hE G H i I u (fun b _=>t b) (fun b N A=>by rw [K] at A;exact absurd A (Nat.not_lt.2 N)) c0 base
 have B:∀k,k<w.heap.size→j.heap[k]?=w.heap[k]?:=fun k x=>z.kept k x fun b base _ O=>absurd (t b) O
 have C:=z.calm;exact ⟨c,n,j,L,SO p3 M,q.still C.size B,⟨Ren.le_refl c,Nat.le_refl _,fun _ _ e=>.inl e,C,fun k x _=>B k x,⟨[],rfl,fun _ _ _=>rfl⟩,fun _ e=>.inl e,fun _ _ e=>.inl e⟩⟩
theorem IK {U:Unk} {E:Env} (hE:OK E) {F:Nat→D→D} (u:U.V.fn=F) {f:FuncId} {args:List AV} {j:List Value} {h g:Aa} {ok:Bool} {v:AV} {x:Ren} {w:World}:∀{l:List Sm},(∀s∈l,s.Valid E.P F)→LO E l f args h=some (ok,v,g)→VL x args j→HR x h.blk.get w→WF h→AG x h.nx g.nx→
  ∀(c0:Frame) (base:List Frame),∃z y q,BH E.P (lone (Frame.enter E.P f j.toArray .normal) (c0::base) w) c0 base ok y q∧VR z v y∧HR z g.blk.get q∧Ext x z h g w q
 |[],_,k,_,_,_,_=>by simp [LO] at k
 |s::r,hO,k,A,hr,hwf,c=>by
  simp only [LO] at k;split at k
  ·rename_i N;have O:=Ay N;subst O;split at k
   ·rename_i xv xg a;simp only [Option.some.injEq,Prod.mk.injEq] at k;obtain ⟨rfl,rfl,rfl⟩:=k;unfold VA at a;split at a;rename_i d h0 o;split at a;rename_i m p B;have o:PO E s args h=(d,h0):=o;obtain ⟨Q,C,z1,z2,z3⟩:=XB hE hr A o;have t:WF h0:=z3.wf hwf;have G:(AQ E s.pre 0 (G8 E s.pre h0 (Es s.args d ⟨.nil,.nil⟩)) h0).2=p:=by rw [B]
    split at a;rotate_left
    ·cases a
    rename_i R n;obtain ⟨v0,K⟩:=R;have a:=Option.some.inj a;unfold ZY at a;split at a
    ·rename_i p1 p2 p3;simp only [Prod.mk.injEq] at a;obtain ⟨rfl,rfl⟩:=a;intro c0 base;have H:p=h0:=by rw [←G,p1];rfl
     subst H;exact XX hE u (hO s (by simp)) (args:=d) (h:=p) n p1 p2 p3 (by rw [p1];rfl) z1 z2 hr c0 base
    simp only [Prod.mk.injEq] at a;obtain ⟨rfl,rfl⟩:=a;have a:=n
    have S:p.nx≤K.nx:=by
     unfold Rp at a;split at a
     ·split at a
      ·simp only [Option.some.injEq,Prod.mk.injEq] at a;obtain ⟨_,rfl⟩:=a;show p.nx≤p.nx+_;omega
      ·cases a
     ·cases a
    have i:AG C h0.nx K.nx:=z3.free c;obtain ⟨L,I,M⟩:=Bn (E:=E) s.pre 0 (G8 E s.pre h0 (Es s.args d ⟨.nil,.nil⟩)) h0 z2 t (fun b T W=>i b T (by rw [G] at W;omega))
    rw [G] at L I M;intro c0 base;obtain ⟨X,y,q,Y,Z,r3,r4⟩:=Ua hE u (hO s (by simp)) a z1 L M (I.free i) c0 base
    exact ⟨X,y,q,Y,Z,r3,z3.trans (I.trans r4 i) c⟩
   ·exact IK hE u (fun e J=>hO e (by simp [J])) k A hr hwf c
  ·exact IK hE u (fun e J=>hO e (by simp [J])) k A hr hwf c
end Go.AE
namespace Go.AE
variable [Gl:AH]
def D3 [Facts] (E:Env) (s:AS) (f:Operand) (params:List Tmp) (assign body:Code) (k:List AI):Option (FuncId×List AV×Aa×AF):=
 match S2 s.fr s.h with
 |some (d,a,mark)=>match Af s.fr.tmps f with
  |.func fn first captured=>match BS E fn captured (first++[.func (.yield a.nx) [] []]) (a.new (.loop .ready none s.fr.fn s.fr.nt s.fr.tmps params assign body d)) with
   |.enter g args _=>some (g,args,a.new (.loop .ready none s.fr.fn s.fr.nt s.fr.tmps params assign body d),{s.fr with todo:=.inRange a.nx::k,defers:=mark++s.fr.defers})
   |_=>none
  |_=>none
 |none=>none
variable [U:Unk]
section
variable {E:Env} (hE:OK E) {ρ:Ren} {w:World} {c:Frame} {ccs:List Frame} {s:AS}
include hE
theorem SC {base:List Frame} {d:Frame} {w0:World} {h h':Aa} {sm:Sem Next} {g:FuncId} {args:List AV} {f:AF}
  (i:(stepG E.P true {frame:=d,callers:=ccs++base,status:=.running,dying:=none} w0).bare=(stepG.apply E.P true c (ccs++base) none sm w).bare)
  (l:Ez E ρ h w sm (.enter g args h')) (m:FrR ρ f c):∃b:List Value,VL ρ args b∧step E.P (lone d (ccs++base) w0)=.next (lone (Frame.enter E.P g b.toArray .normal) (c::(ccs++base)) w):=by
 obtain ⟨rfl,b,n,e⟩:=l;refine ⟨b,n,step_lone_go ?_⟩;rw [i];have j:=m.todo;simp only [stepG.apply,Sem.runT_eq,e,if_true,GStep.bare_after,GStep.bare_go];generalize c.todo=td at j;generalize f.todo=p at j;cases j with
 |nil=>rfl
 |cons a _=>cases a<;>rfl
 |rest=>
  generalize o:U.R=r;cases r with
  |nil=>rfl
  |cons x k=>cases x<;>first|rfl|exact absurd o (U.hR _ _ _ _ _)
theorem HU (z:SR ρ s c ccs w) (hm:c.mode=.run) {K:Operand} {params:Array Tmp} {assign body:Code} {k:List AI} {L:List Item} (hk:IL ρ k L) (ht:c.todo=.code (.rangeFunc K params assign body)::L)
  {g:FuncId} {args:List AV} {M:Aa} {C:AF} (v:D3 E s K params.toList assign body k=some (g,args,M,C)) (i:AG ρ s.h.nx M.nx) (base:List Frame) :
  ∃u Q e w1,step E.P (lone c (ccs++base) w)=.next (lone (Frame.enter E.P g e.toArray .normal) (Q::(ccs++base)) w1)∧VL u args e∧FrR u C Q∧HR u M.blk.get w1∧Ext ρ u s.h M w w1:=by
 unfold D3 at v;split at v
 ·rename_i d p mark A;split at v
  ·rename_i fn first captured R;split at v
   ·rename_i g2 S aa T;cases v;have D:(p.new (.loop .ready none s.fr.fn s.fr.nt s.fr.tmps params.toList assign body d)).nx=p.nx+1:=rfl;obtain ⟨u,w1,N,j,t,q2,q3,q4,O⟩:=QS (E:=E) z.h z.fr A (fun b p h2=>i b p (by simp only [D];omega))
    have B:=z.fr.mono O.le;have o:u p.nx=none:=(O.free i) p.nx (Nat.le_refl _) (by simp only [D];omega)
    have q:=Ren.le_upd o ⟨w1.heap.size,0,0⟩;obtain ⟨p1,p2⟩:=q4.new o (.loop .ready none s.fr.fn s.fr.nt s.fr.tmps params.toList assign body d)
     (.loop {state:=.ready,pending:=none,fn:=c.fn,tmps:=c.tmps,params:=params,assign:=assign,body:=body,defers:=N.cb}) 0
     ⟨c.tmps,N,q.m _ _ q2,B.tm.mono q,by rw [B.fn]⟩
     {w1 with heap:=w1.heap.push (.loop {state:=.ready,pending:=none,fn:=c.fn,tmps:=c.tmps,params:=params,assign:=assign,body:=body,defers:=N.cb})} rfl rfl rfl rfl
    have Y:(u.upd p.nx ⟨w1.heap.size,0,0⟩) p.nx=some ⟨w1.heap.size,0,0⟩:=by simp [Ren.upd]
    have F:(Instr.enterLoop c.fn c.tmps params assign body c.roundOf).run E.P w=.ok (w1.heap.size,j) {w1 with heap:=w1.heap.push (.loop {state:=.ready,pending:=none,fn:=c.fn,tmps:=c.tmps,params:=params,assign:=assign,body:=body,defers:=N.cb})}:=by
     cases G:c.roundOf with
     |some l=>
      rw [G] at t;simp only [Ly,Sem.run_bind,Sem.run_pure] at t;simp only [Instr.enterLoop,Sem.run_bind,Sem.run_pure,run_newObj,Result.andThen_ok];cases Z:(Instr.getLoop l).run E.P w with
      |ok a w2=>
       rw [Z] at t;simp only [Result.andThen_ok,Result.ok.injEq,Prod.mk.injEq] at t ⊢;obtain ⟨⟨H,I⟩,V⟩:=t;rw [H,I,V];exact ⟨⟨rfl,rfl⟩,rfl⟩
      |halt x w2=>rw [Z] at t;cases t
     |none=>
      rw [G] at t;simp only [Ly,Sem.run_bind,Sem.run_pure,run_newObj,Result.andThen_ok,Result.ok.injEq,Prod.mk.injEq] at t;obtain ⟨⟨H,I⟩,V⟩:=t;simp only [Instr.enterLoop,Sem.run_bind,Sem.run_pure,run_newObj,Result.andThen_ok];rw [←H,←I,←V]
    have n:=B.mono q;have W:=n.evR K;rw [R] at W;generalize X:c.eval K=cv at W;cases W with
    |func _ ab _ _ f' Q r1 r2 r3 r4 r5=>
     have ha:VL (u.upd p.nx ⟨w1.heap.size,0,0⟩) (first++[.func (.yield p.nx) [] []]) (f'++[.func (.yield w1.heap.size) #[] #[]]):=
      VL.append ⟨r2,r3⟩ (VL.cons (.func _ _ [] [] [] [] ⟨_,Y,rfl⟩ rfl (by simp) rfl (by simp)) (VL.nil _))
     have r:=Ea hE p1 r1 ⟨r4,r5⟩ ha;rw [T] at r
     have y:FrR (u.upd p.nx ⟨w1.heap.size,0,0⟩) {s.fr with todo:=.inRange p.nx::k,defers:=mark++s.fr.defers} {c with todo:=.inRangeFunc w1.heap.size::L,defers:=j++c.defers}:=
      ⟨n.fn,n.tm,.cons (.inRange _ _ Y) ((hk.mono O.le).mono q),(q3.mono q).append n.defers,n.mode,n.kind,n.round⟩
     obtain ⟨e,H,I⟩:=SC hE (base:=base) (c:={c with todo:=.inRangeFunc w1.heap.size::L,defers:=j++c.defers})
      (f:={s.fr with todo:=.inRange p.nx::k,defers:=mark++s.fr.defers}) (Km hm ht F) (r.congr (by
       have J:c.eval (.const (.func (.yield w1.heap.size) #[] #[]))=.func (.yield w1.heap.size) #[] #[]:=rfl;simp [resolve,X,J,Deferred.ofValue])) y
     exact ⟨_,_,e,_,I,H,y,p1,O.trans p2 i⟩
   ·cases v
  ·cases v
 ·cases v
end
end Go.AE
namespace Go.AE
variable [Gl:AH]
def M8:List Orc→FuncId→List AV→Aa→Option (Bool×AV×Aa)
 |[],_,_,_=>none
 |e::r,f,args,h=>match Nat.beq e.f f&&(Nat.beq e.nx h.nx||(Nat.beq (e.nx%4096) 0&&Nat.ble h.nx e.nx))&&Hf e.args args&&MN e.part h.blk with
  |true=>some (e.ok,e.v,AU {h with nx:=e.nx} {blk:=e.out,nx:=e.nx',log:=e.wr})
  |false=>M8 r f args h
def XO [U:Facts]:AV→AV
 |.ss x=>match Qo x U.facts with
  |some (l,b)=>.str l b
  |none=>.ss x
 |a=>a
def ssA:AV→Bool
 |.ss _=>true
 |_=>false
def J1 [Facts] (E:Env) (f:FuncId) (args:List AV) (h:Aa):Option (Bool×AV×Aa):=
 match E.ox.get f with
 |some l=>(match M8 l f args h with
  |some r=>some r
  |none=>match (match args.any ssA with
   |true=>M8 l f (args.map XO) h
   |false=>none) with
   |some r=>some r
   |none=>match LO E E.sms f args h with
    |some r=>some r
    |none=>none)
 |none=>match LO E E.sms f args h with
  |some r=>some r
  |none=>none
def SX (h:Aa):AV→AV
 |.slice b 0 n a=>match h.blk.get b with
  |some (.arr _ _)=>.asl b a (.c n) (.bc false)
  |_=>.slice b 0 n a
 |x=>x
def hU (h:Aa):AV→Bool
 |.slice b 0 _ _=>match h.blk.get b with
  |some (.arr _ _)=>true
  |_=>false
 |_=>false
def T.anyA {t:Type} (f:t→Bool):T t→Bool
 |.nil=>false
 |.node v l r=>(match v with|some x=>f x|none=>false)||l.anyA f||r.anyA f
def Uk (h:Aa) (fr:AF):AF:=match fr.tmps.anyA (hU h) with
 |true=>{fr with tmps:=fr.tmps.mapA (SX h)}
 |false=>fr
def Xg [Facts] (E:Env) (s:AS) (all:Array Oper) (o:Oper) (r:List Oper):Option AS:=
 match o.op,r,o.dst with
 |.slice t x (some lo) none none,o2::_,some d=>match o2.op with
  |.call c=>match c.callee,c.argTypes.toList,c.args.toList with
   |.builtin .clear,[t1],[.tmp i]=>match Af s.fr.tmps x,toI (Af s.fr.tmps lo) with
    |.asl b f n m,some (_,l)=>match E.desc t,E.desc t1,s.h.blk.get b with
     |some (.slice e),some (.slice j),some (.arr k y)=>match E.zero e,E.kinds e with
      |some z,some ks=>match Nat.beq d i&&(Nat.beq e j&&(Nat.beq e k&&(Nat.beq z.cells.length f&&(Nat.beq f ks.length&&(En z.cells&&(E.szIs e f&&(Et n y&&inB l n n))))))) with
       |true=>match Be all o s.fr.tmps,A3 s.fr .top with
        |some true,some a=>match Be all o2 a.tmps,A3 a .top with
         |some true,some g=>some {s with fr:=g,h:=s.h.put b (.arr e (.sub y (.c 0) l))}
         |_,_=>none
        |_,_=>none
       |false=>none
      |_,_=>none
     |_,_,_=>none
    |_,_=>none
   |_,_,_=>none
  |_=>none
 |_,_,_=>none
def Xh [Facts] (t:T AV):List Tmp→Option (Tmp×AV)
 |[]=>none
 |i::r=>match t.get i with
  |some (.nmap b a)=>match Xf (.nmap b a) with
   |.nmap _ _=>Xh t r
   |v=>some (i,v)
  |_=>Xh t r
def kk [Facts] (s:AS):Option AS:=match s.fr.todo with
 |.ops all (o::_)::_=>match Xh s.fr.tmps (Bf all o) with
  |some (i,v)=>some {s with fr:={s.fr with tmps:=s.fr.tmps.set i v}}
  |none=>none
 |_=>none
def WS [Facts] (E:Env) (s:AS):Option AS:=
  match E.orc.isEmpty&&E.sms.isEmpty with
  |true=>none
  |false=>match s.fr.mode with
    |.run=>match s.fr.todo with
      |.ops all (o::r)::_=>match Xg E s all o r with
       |some c=>some c
       |none=>match Ms o.op with
        |false=>match Be all o s.fr.tmps with
          |some true=>match aop E s.fr.tmps s.h o.op with
            |.enter g args _=>match J1 E g args s.h with
              |some (true,v,h)=>match A3 s.fr v with
                |some fr=>some {s with fr:=Uk h fr,h}
                |none=>none
              |some (false,v,h)=>some {s with fr:=Uk h {s.fr with mode:=.panic [(v,false)]},h}
              |none=>none
            |_=>none
          |_=>none
        |true=>none
      |.code (.rangeFunc f params assign body)::k=>match D3 E s f params.toList assign body k with
        |some (g,args,b,a)=>match J1 E g args b with
          |some (true,v,h)=>match Nat.ble b.nx h.nx,A3 a v with
            |true,some fr=>some {s with fr:=Uk h fr,h}
            |_,_=>none
          |some (false,v,h)=>match Nat.ble b.nx h.nx with
            |true=>some {s with fr:=Uk h {a with mode:=.panic [(v,false)]},h}
            |false=>none
          |none=>none
        |none=>none
      |_=>none
    |_=>none
def QT [Facts] (E:Env) (s:AS):Option AS:=match kk s with
 |some a=>some a
 |none=>WS E s
def Tc (n:Nat):List Out→Option (List AS)
 |[]=>some []
 |.next s::r=>match Nat.beq s.h.nx n,Tc n r with
  |true,some l=>some (s::l)
  |_,_=>none
 |_=>none
def V8 [U:Facts] (E:Env) (s:AS):Option (List AS):=
 match s.fr.mode,s.fr.todo with
 |.run,.ops all (o::_)::_=>match Be all o s.fr.tmps with
  |some true=>match o.op with
   |.next it false=>match K0 (Af s.fr.tmps it) s.h with
    |some l=>Tc s.h.nx (l.map fun p=>Bx E s.fr s.cs (.val p.1 p.2))
    |none=>none
   |_=>none
  |_=>none
 |_,_=>none
def Ye (ok:Bool) (v:AV) (n:Nat):List (Option (Bool×AV×Aa))→Bool
 |[]=>true
 |some (a,b,h')::r=>(a==ok)&&Bs b v&&Nat.beq h'.nx n&&Ye ok v n r
 |none::_=>false
def NM (h:Aa):Nat→List Nat
 |0=>[]
 |n+1=>match h.blk.get n with
  |some _=>n::NM h n
  |none=>NM h n
def WN (s:AS):List (Option (Bool×AV×Aa))→Option (Bool×AV×Aa)
 |some (ok,v,h)::r=>match Ye ok v h.nx r&&Nat.ble s.h.nx h.nx with
  |true=>some (ok,v,{blk:=.nil,nx:=h.nx,log:=NM s.h s.h.nx++s.h.log})
  |false=>none
 |_=>none
def W5:List Oper→List Tmp
 |[]=>[]
 |o::r=>match o.dst with
  |some d=>d::W5 r
  |none=>W5 r
def Hj:Code→List Tmp
 |.region _ ops _=>W5 ops.toList
 |.seq a b=>Hj a++Hj b
 |.cond _ a b=>Hj a++Hj b
 |.block _ a=>Hj a
 |.loop a=>Hj a
 |.scope a=>Hj a
 |.rangeFunc _ c a b=>c.toList++(Hj a++Hj b)
 |_=>[]
def VM:List AI→List Tmp
 |.inLoop b::_=>Hj b
 |_::k=>VM k
 |[]=>[]
def TN:List Tmp→T AV→T AV
 |[],t=>t
 |d::r,t=>TN r (t.del d)
def bi (n:Nat):Fn→Bool
 |.yield l=>Nat.blt l n
 |_=>true
mutual
def GN (n:Nat):AV→Bool
 |.ptr b _=>Nat.blt b n
 |.slice b _ _ _=>Nat.blt b n
 |.map b=>Nat.blt b n
 |.func fn f c=>bi n fn&&(EZ n f&&EZ n c)
 |.iface _ v=>GN n v
 |.agg l=>EZ n l
 |.tuple l=>EZ n l
 |.asl b _ _ _=>Nat.blt b n
 |.aptr b _ _ _=>Nat.blt b n
 |.nmap b _=>Nat.blt b n
 |.stamp b=>Nat.blt b n
 |.fsl b _ _ _=>Nat.blt b n
 |_=>true
termination_by structural a=>a
def EZ (n:Nat):List AV→Bool
 |[]=>true
 |a::l=>GN n a&&EZ n l
termination_by structural l=>l
end
def T.allA {t:Type} (p:t→Bool):T t→Bool
 |.nil=>true
 |.node v l r=>(match v with|some x=>p x|none=>true)&&(l.allA p&&r.allA p)
def YS (n:Nat):List Aj→Bool
 |[]=>true
 |e::r=>GN n e.key&&(GN n e.val&&YS n r)
def X8 (n:Nat):List AD→Bool
 |[]=>true
 |d::r=>(match d.fn with|some f=>bi n f|none=>Nat.blt d.coll n)&&(EZ n d.captured&&(EZ n d.args&&X8 n r))
def T8 (n:Nat):Ag→Bool
 |.cells _ c=>c.allA (GN n)
 |.arr _ _=>true
 |.map a _=>YS n a
 |.dmap _ _ _=>true
 |.loop _ _ _ _ tmps _ _ _ d=>Nat.blt d n&&tmps.allA (GN n)
 |.deferred none=>true
 |.deferred (some l)=>X8 n l
 |.mapIter none _ _ _=>true
 |.mapIter (some m) _ _ _=>Nat.blt m n
 |.dmapS _ _ _ _ b=>Nat.blt b n
 |.strIter _ _ _=>true
def Uq (S:AS):Bool:=S.fr.tmps.allA (GN S.h.nx)&&S.h.blk.allA (T8 S.h.nx)
def Eb:T AV→T AV→T AV
 |.node v l r,.node a b c=>.node (match v with|some _=>a|none=>none) (Eb l b) (Eb r c)
 |_,_=>.nil
def HW:T AV→T AV→Bool
 |.nil,_=>true
 |.node v l r,.node a b c=>(match v with
   |none=>true
   |some x=>(match a with
    |some y=>Bs x y
    |none=>false))&&(HW l b&&HW r c)
 |.node v l r,.nil=>v.isNone&&(HW l .nil&&HW r .nil)
def VN:AI→AI→Bool
 |.code c,.code b=>Ci c b
 |.inBlock i,.inBlock d=>Nat.beq i d
 |.inLoop c,.inLoop b=>Ci c b
 |.inScope c,.inScope b=>Ci c b
 |.ops a l,.ops e f=>Ki LZ a e&&FqQ LZ l f
 |_,_=>false
def OP (f:AF):Bool:=f.defers.isEmpty&&((match f.mode with|.run=>true|_=>false)&&((match f.kind with|.normal=>true|_=>false)&&f.round.isNone))
def Ko (f g:AF):Bool:=OP f&&(OP g&&(Nat.beq f.fn g.fn&&(Nat.beq f.nt g.nt&&FqQ VN f.todo g.todo)))
def Em (b:Nat) (f:AF):Bool:=match f.mode,f.todo with
 |.run,.ops _ (o::_)::_=>match o.guard,o.op with
  |none,.next it false=>match Af f.tmps it with
   |.ptr a 0=>Nat.beq a b
   |_=>false
  |_,_=>false
 |_,_=>false
def Ig (b m a born:Nat) (s:AS):Option AS:=match s.fr.mode,s.fr.todo with
 |.run,.ops _ (o::_)::_=>match o.guard,o.op with
  |none,.entry it=>match Af s.fr.tmps it with
   |.ptr d 0=>match Nat.beq d b with
    |true=>match s.h.blk.get m with
     |some (.map f c)=>match Nat.beq c a,Ql born f with
      |true,some e=>match A3 s.fr (.tuple [e.key,e.val]) with
       |some fr=>some {s with fr}
       |none=>none
      |_,_=>none
     |_=>none
    |false=>none
   |_=>none
  |_,_=>none
 |_,_=>none
def E1 [Facts] (E:Env) (a:Ask→Aa→Option (Bool×AV×Aa)) (b m c born:Nat):Nat→AS→Option AS
 |0,_=>none
 |f+1,s=>match s.cs.isEmpty&&Em b s.fr with
  |true=>some s
  |false=>match Ig b m c born s with
   |some d=>E1 E a b m c born f d
   |none=>match QT E s with
    |some d=>(match Nat.ble s.h.nx d.h.nx with
     |true=>E1 E a b m c born f d
     |false=>none)
    |none=>match A4 E s with
     |.next d=>(match Nat.ble s.h.nx d.h.nx with
      |true=>E1 E a b m c born f d
      |false=>none)
     |.draw e ops k=>(match BI E a ops e.fr.nt ops.toList [] e.fr.tmps e.h with
      |some (none,tmps,h)=>E1 E a b m c born f {e with fr:={e.fr with tmps,todo:=k},h}
      |_=>none)
     |_=>none
def Fu [Facts] (E:Env) (a:Ask→Aa→Option (Bool×AV×Aa)) (F b m c:Nat) (S:AS) (e:Aj):Option AS:=
 match A3 S.fr (.tuple [.bool true,e.key,e.val]) with
 |some fr=>E1 E a b m c e.born F {fr,cs:=[],h:={S.h with log:=[]}}
 |none=>none
def Tv (nx:Nat) (t a:T Ag):List Nat→Bool
 |[]=>true
 |b::r=>(Nat.ble nx b||(match t.get b with
  |none=>true
  |some x=>match a.get b with
   |some y=>PY x y
   |none=>false))&&Tv nx t a r
def Lc (S R:AS):Bool:=HW S.fr.tmps R.fr.tmps&&Tv S.h.nx S.h.blk R.h.blk R.h.log
def FP (run:Aj→Option AS) (S:AS):List Aj→Option (Option (Aj×AS)×Nat)
 |[]=>some (none,S.h.nx)
 |e::r=>match run e,FP run S r with
  |some R,some (x,n)=>match R.cs.isEmpty&&(Ko S.fr R.fr&&Nat.ble S.h.nx R.h.nx),Lc S R,x with
   |true,true,x=>some (x,max n R.h.nx)
   |true,false,none=>some (some (e,R),max n R.h.nx)
   |_,_,_=>none
  |_,_=>none
def KU (S:AS) (n:Nat):Option AS:=match A3 S.fr (.tuple [.bool false]) with
 |some fr=>some {S with fr,h:={S.h with nx:=n}}
 |none=>none
def Jr (n:Nat):List Aj→List Aj
 |[]=>[]
 |e::r=>match Nat.beq e.born n with
  |true=>Jr n r
  |false=>e::Jr n r
def cE (s:AS):Option (Nat×Nat×List Aj×Nat):=match s.fr.mode,s.fr.todo with
 |.run,.ops _ (o::_)::_=>match o.guard,o.op with
  |none,.next it false=>match Af s.fr.tmps it with
   |.ptr b 0=>match s.h.blk.get b with
    |some (.mapIter (some m) c [] last)=>match s.h.blk.get m with
     |some (.map d a)=>match Nat.beq last a&&(Kv c a d&&(OW 0 d a && !Nat.beq m b)) with
      |true=>some (b,m,d,a)
      |false=>none
     |_=>none
    |_=>none
   |_=>none
  |_,_=>none
 |_,_=>none
def WX [Facts] (E:Env) (a:Ask→Aa→Option (Bool×AV×Aa)) (F b m c:Nat) (f:List Aj) (e:Aj) (R:AS) (n:Nat) (d:AS):Option AS:=
 match Em b d.fr&&(Uq d && !Hy m R.h.log),FP (Fu E a F b m c d) d (Jr e.born f) with
 |true,some (none,g)=>KU d (max n g)
 |_,_=>none
def Zr [Facts] (E:Env) (a:Ask→Aa→Option (Bool×AV×Aa)) (F b m c:Nat) (d:List Aj) (S:AS):Option AS:=
 match Em b S.fr&&Uq S,FP (Fu E a F b m c S) S d with
 |true,some (none,n)=>KU S n
 |true,some (some (e,R),n)=>WX E a F b m c d e R n {fr:={S.fr with tmps:=Eb S.fr.tmps R.fr.tmps},cs:=S.cs,h:={R.h with log:=R.h.log++S.h.log}}
 |_,_=>none
def T6 [Facts] (E:Env) (a:Ask→Aa→Option (Bool×AV×Aa)) (F:Nat) (s:AS):Option AS:=match cE s with
 |none=>none
 |some (b,m,d,c)=>Zr E a F b m c d {s with fr:={s.fr with tmps:=TN (VM s.fr.todo) s.fr.tmps},h:=s.h.strike b}
def Md [Facts] (E:Env) (run:FuncId→Bool→AS→Option (Bool×AV×Aa)) (a:Ask) (h:Aa):Option (Bool×AV×Aa):=match a with
 |.enter g args=>match J1 E g args h with
  |some r=>some r
  |none=>match Bb E g args .normal with
   |some fr=>run fr.fn true {fr,cs:=[],h}
   |none=>none
 |.round l args=>match GD l args h with
  |some fr=>run fr.fn true {fr,cs:=[],h}
  |none=>none
def FQ [Facts] (E:Env):Nat→FuncId→Bool→AS→Option (Bool×AV×Aa)
  |0,_,_,_=>none
  |f+1,b,c,s=>match QT E s with
   |some a=>(match Nat.ble s.h.nx a.h.nx with
     |true=>FQ E f b c a
     |false=>none)
   |none=>match A4 E s with
    |.next a=>match Nat.ble s.h.nx a.h.nx with
      |true=>FQ E f b c a
      |false=>none
    |.done ok v h=>match Nat.ble s.h.nx h.nx&&Nat.beq s.fr.fn b&&(c||s.fr.round.isNone) with
      |true=>some (ok,v,h)
      |false=>none
    |.draw s ops k=>
      match BI E (Md E (FQ E f)) ops s.fr.nt ops.toList [] s.fr.tmps s.h with
      |some (none,tmps,h)=>FQ E f b c {s with fr:={s.fr with tmps,todo:=k},h}
      |some (some v,tmps,h)=>FQ E f b c {s with fr:={s.fr with tmps,todo:=.dead::k,mode:=.panic [(v,false)]},h}
      |none=>none
    |.bad _=>match T6 E (Md E (FQ E f)) f s with
      |some a=>(match Nat.ble s.h.nx a.h.nx with
        |true=>FQ E f b c a
        |false=>none)
      |none=>match V8 E s with
        |some l=>WN s (l.map fun a=>FQ E f b c a)
        |none=>none
def ZK [Facts] (E:Env) (n:Nat) (f:FuncId) (args:List AV) (h:Aa):Option (Bool×AV×Aa):=
 match Bb E f args .normal with
 |some fr=>FQ E n f false {fr,cs:=[],h}
 |none=>none
def R9 [Facts] (E:Env) (N:Nat) (e:Orc):Bool:=
 match ZK E N e.f e.args {blk:=e.part,nx:=e.nx,log:=[]} with
 |some (ok,v,g)=>(ok==e.ok)&&Bs v e.v&&MN e.out g.blk&&Nat.beq g.nx e.nx'&&UR e.nx e.wr g.log
 |none=>false
end Go.AE
namespace Go.AE
variable [Gl:AH]
section
variable [U:Unk] {E:Env} (hE:OK E) {ρ:Ren} {h:Aa} {w:World}
include hE
theorem Zc (hr:HR ρ h.blk.get w) {t t1 ty e:TypeId} {ks:List Kd} {z:AV} {b g:Nat} {n nl y l:SE} {xv r:Value} {kd:IntKind} (hd:E.desc t=some (.slice e)) (Y:E.desc t1=some (.slice e)) (hz:E.zero e=some z) (hk:E.kinds e=some ks)
  (ak:z.cells.length=g) (Z:g=ks.length) (aa:En z.cells=true) (hx:VR ρ (.asl b g n nl) xv) (J:h.blk.get b=some (.arr e y)) (hs:E.szIs e g=true) (hn:Et n y=true) (ab:r=.int kd (Ac U.V l)) (ac:inB l n n=true) :
  ∃v B,(Instr.sliceAt t xv (some r) none none).run E.P w=.ok v w∧(Builtin.clear_ #[t1] ty #[v]).run E.P w=.ok (.tuple #[]) B∧HR ρ (h.put b (.arr e (.sub y (.c 0) l))).blk.get B∧Ext ρ ρ h (h.put b (.arr e (.sub y (.c 0) l))) w B:=by
 obtain ⟨b0,b1,b2⟩:=JL ac;have C:=Fq hn;have hu:=hE.run_und hd (w:=w);have x:=hE.run_und Y (w:=w);have e0:Ac U.V (.c 0)=0:=rfl
 have A:(Ab U.V (.sub y (.c 0) l)).rows.length=(Ac U.V l).toNat:=by
  rw [Eg,e0];rw [Ai] at C;simp;omega
 have key:∀i,i<(Ac U.V l).toNat→(Ab U.V (.sub y (.c 0) l)).rows.getD i default=(Ab U.V y).rows.getD i default:=by
  intro i hi;rw [Eg,e0,Lq (by simpa using hi)]
  congr 1
  simp
 have rows:∀{a:List Kd} {co:Nat} {f d:Array Value},Bk U.K ρ.imm a f co (Ab U.V y).rows→d.size=f.size→(∀j,j<co+(Ac U.V l).toNat*a.length→d.getD j Go.undef=f.getD j Go.undef)→Bk U.K ρ.imm a d co (Ab U.V (.sub y (.c 0) l)).rows:=by
  intro a co f d hR ae M;rw [Ai] at C;have af:(Ac U.V l).toNat≤(Ab U.V y).rows.length:=by omega
  refine ⟨?_,fun i hi=>?_,fun i j kd hi O=>?_⟩
  ·rw [A,ae];have:=hR.1;have:=Nat.mul_le_mul_right a.length af;omega
  ·rw [A] at hi;rw [key i hi];exact hR.2.1 i (by omega)
  ·rw [A] at hi;rw [key i hi,M]
   ·exact hR.2.2 i j kd (by omega) O
   ·have al:j<a.length:=(List.getElem?_eq_some_iff.1 O).1;have:(i+1)*a.length≤(Ac U.V l).toNat*a.length:=Nat.mul_le_mul_right _ (by omega)
    rw [Nat.add_mul,Nat.one_mul] at this;omega
 have still:HR ρ (h.put b (.arr e (.sub y (.c 0) l))).blk.get w∧Ext ρ ρ h (h.put b (.arr e (.sub y (.c 0) l))) w w:=by
  refine hr.swap (by rw [J];exact Option.some_ne_none _) _ fun base s=>?_
  obtain ⟨a,f,Q,R,S,q2,T,W,q5⟩:=hr.blk b base _ s J;exact ⟨a,f,Q,R,S,q2,T,W,rows q5 rfl fun _ _=>rfl⟩
 have p1:(some r=none∧l=.c 0)∨∃k,some r=some (.int k (Ac U.V l)):=.inr ⟨kd,by rw [ab]⟩
 cases hx with
 |aslEnd _ _ _ _ ad X qn=>
  have ag:Ac U.V l=0:=by omega
  have q:=G4 (P:=E.P) (w:=w) (b:=true) (len:=0) (cap:=0) (u:=n) (du:=n) (hi':=none) (dl:=.c 0) p1 (.inl ⟨rfl,rfl⟩) rfl (by rw [X];rfl) b0 b1 (by rw [X];exact Int.le_refl _) (Nat.le_refl _)
  rw [ag,X] at q;refine ⟨.slice ad 0 0,w,?_,?_,still.1,still.2⟩
  ·simp [Instr.sliceAt,Instr.slice,hu,q,hE.run_szIs hs]
  ·cases ad<;>simp [Builtin.clear_,x]
 |asl _ _ _ _ cap base s X qc qz qn=>
  have q:=G4 (P:=E.P) (w:=w) (b:=true) (len:=(Ac U.V n).toNat) (cap:=cap) (u:=n) (du:=n) (hi':=none) (dl:=.c 0) p1 (.inl ⟨rfl,rfl⟩) rfl (by omega) b0 b1 (by omega) qc
  generalize hL:(Ac U.V l).toNat=L at *;generalize hN:(Ac U.V n).toNat=N at *;have am:L≤N:=by omega
  have o:(Instr.sliceAt t (.slice (some ⟨base.cb,base.co,none⟩) N cap) (some r) none none).run E.P w=.ok (.slice (if cap=L then some ⟨base.cb,base.co,none⟩ else some ⟨base.cb,base.co+L*g,none⟩) (N-L) (cap-L)) w:=by
   simp [Instr.sliceAt,Instr.slice,hu,q,hE.run_szIs hs,BT]
  by_cases M:N-L=0
  ·rw [M] at o;refine ⟨_,w,o,?_,still.1,still.2⟩;split<;>simp [Builtin.clear_,x]
  ·have D:cap≠L:=by omega
   rw [if_neg D] at o;obtain ⟨a,f,Q,R,S,q2,T,W,q5⟩:=hr.blk b base _ s J;have F:U.K e=some ks:=by rw [hE.kd,←hE.ke];exact hk
   rw [F] at S;cases S;obtain ⟨p,z1,z2⟩:=hE.run_zero ρ hz w;have zc:=(AL ρ z2).cells (Bo z2);have ah:p.cells.size=g:=by have:=zc.1;simp at this;omega
   have G:∀v∈(Builtin.zeroCells p.cells (N-L)).toList,v.oneCell'=true:=by
    intro v hv;have hm:=Hq aa zc;rw [Builtin.zeroCells] at hv;simp only [Array.toList_map,Array.toList_range,List.mem_map,List.mem_range] at hv;obtain ⟨i,hi,rfl⟩:=hv
    have H:0<p.cells.size:=by
     rcases Nat.eq_zero_or_pos p.cells.size with c|c
     ·rw [c] at hi;simp at hi
     ·exact c
    have ai:i%p.cells.size<p.cells.size:=Nat.mod_lt _ H;have:p.cells[i%p.cells.size]! = p.cells[i%p.cells.size]:=by simp [ai]
    rw [this];exact hm _ (by simp)
   have I:(Builtin.zeroCells p.cells (N-L)).toList.length=(N-L)*g:=by
    rw [Builtin.zeroCells,ah];simp
   have aj:base.co+L*g+(N-L)*g≤f.size:=by
    have e1:L*g+(N-L)*g=N*g:=by rw [←Nat.add_mul];congr 1;omega
    have e2:N*g≤cap*g:=Nat.mul_le_mul_right _ (by omega)
    omega
   obtain ⟨B,d,r1,r2,r3,r4,r5,r6,r7,r8,r9⟩:=Cb E.P base.cb (base.co+L*g) Q R (Builtin.zeroCells p.cells (N-L)).toList 0 w f q2 (by rw [I];omega) (by rw [T];exact W) G
   refine ⟨_,B,o,?_,?_⟩
   ·obtain ⟨m,hm⟩:=Nat.exists_eq_succ_of_ne_zero M;rw [hm] at r1 ⊢;simp [Builtin.clear_,x,z1,r1]
   ·refine hr.put s (by rw [J];simp) _ B ?_ r5 r6 r7 r8 r9
    refine ⟨ks,d,Q,R,F,r2,by rw [r3,T],W,rows q5 r3 fun j O=>?_⟩
    rw [Array.getD_eq_getD_getElem?,Array.getD_eq_getD_getElem?,r4 j,if_neg (by rw [←Z] at O;omega)]
end
end Go.AE
namespace Go.AE
variable [Gl:AH]
variable [U:Unk]
theorem Cq {E:Env} {e:Ask→Aa→Option (Bool×AV×Aa)} {all:Array Oper} {nt:Nat}:∀(l:List Oper) (c:List Rc) (tmps:T AV) (h:Aa) (r:Option AV) (b:T AV) (h':Aa),
  BI E e all nt l c tmps h=some (r,b,h')→h.nx≤h'.nx
 |[],c,tmps,h,r,b,h',a=>by
  simp only [BI,Option.some.injEq,Prod.mk.injEq] at a;obtain ⟨_,_,rfl⟩:=a;exact Nat.le_refl _
 |o::rest,c,tmps,h,r,b,h',a=>by
  simp only [BI] at a;split at a
  ·cases a
  ·split at a
   ·cases a
   ·rename_i d _;split at a
    ·cases a
    ·rename_i f j;have i:h.nx≤d.g.nx:=Nat.le_of_ble_eq_true f;split at a
     ·cases a
     ·split at a
      ·cases a
      ·have:=Cq rest _ _ _ _ _ _ a;exact Nat.le_trans i this
    ·rename_i f j;have i:h.nx≤d.g.nx:=Nat.le_of_ble_eq_true f;split at a
     ·simp only [Option.some.injEq,Prod.mk.injEq] at a;obtain ⟨_,_,rfl⟩:=a;exact i
     ·cases a
theorem MY (n:Nat):∀(l:List Out) (r:List AS),Tc n l=some r→∀x∈l,∃s,x=.next s∧s∈r∧s.h.nx=n
 |[],r,h,x,a=>by cases a
 |y::l,r,h,x,a=>by
  cases y with
  |next s=>
   simp only [Tc] at h;split at h
   ·rename_i b c d;cases h;rcases List.mem_cons.1 a with rfl|a
    ·exact ⟨s,rfl,List.mem_cons_self,Ay c⟩
    ·obtain ⟨e,f,g,i⟩:=MY n l b d x a;exact ⟨e,f,List.mem_cons_of_mem _ g,i⟩
   ·cases h
  |_=>cases h
theorem S4 (ok:Bool) (v:AV) (n:Nat):∀(l:List (Option (Bool×AV×Aa))),Ye ok v n l=true→∀x∈l,∃h',x=some (ok,v,h')∧h'.nx=n
 |[],_,x,a=>by cases a
 |none::l,h,x,a=>by cases h
 |some (b,e,h')::l,h,x,a=>by
  simp only [Ye] at h;obtain ⟨h,a4⟩:=An h;obtain ⟨h,a3⟩:=An h;obtain ⟨a1,a2⟩:=An h;rcases List.mem_cons.1 a with rfl|a
  ·have c:=eq_of_beq a1;have d:=Dr _ _ a2;subst c;subst d;exact ⟨h',rfl,Ay a3⟩
  ·exact S4 ok v n l a4 x a
theorem LH (h:Aa):∀(n b:Nat),b<n→b∉NM h n→h.blk.get b=none
 |n+1,b,c,a=>by
  unfold NM at a;cases q:h.blk.get n with
  |none=>
   rw [q] at a;by_cases e:b=n
   ·subst e;exact q
   ·exact LH h n b (by omega) a
  |some y=>
   rw [q] at a;simp only [List.mem_cons,not_or] at a;exact LH h n b (by omega) a.2
theorem Qw {s:AS} {l:List (Option (Bool×AV×Aa))} {ok:Bool} {v:AV} {h:Aa} (a:WN s l=some (ok,v,h)) :
  h.blk=.nil∧h.log=NM s.h s.h.nx++s.h.log∧s.h.nx≤h.nx∧∀x∈l,∃h',x=some (ok,v,h')∧h'.nx=h.nx:=by
 unfold WN at a;split at a
 ·rename_i b e c r;split at a
  ·rename_i d;obtain ⟨a1,a2⟩:=An d;simp only [Option.some.injEq,Prod.mk.injEq] at a;obtain ⟨rfl,rfl,rfl⟩:=a;refine ⟨rfl,rfl,Nat.le_of_ble_eq_true a2,fun x a=>?_⟩
   rcases List.mem_cons.1 a with rfl|a
   ·exact ⟨c,rfl,rfl⟩
   ·exact S4 _ _ _ r a1 x a
  ·cases a
 ·cases a
theorem X2 {E:Env} (hE:OK E) {B:Ren} {s:AS} {c:Frame} {j:List Frame} {w:World} (a:SR B s c j w) {l:List AS} (g:V8 E s=some l) (base:List Frame) :
  ∃r∈l,r.h.nx=s.h.nx∧AN E.P base B s.h c j w w r:=by
 unfold V8 at g;split at g
 ·rename_i all o rest k t F;split at g
  ·rename_i G;split at g
   ·rename_i it m;split at g
    ·rename_i S u;have d:=a.fr.mode;rw [t] at d
     have C:c.mode=.run:=by
      generalize c.mode=x at d;cases d;rfl
     have f:=a.fr.todo;rw [F] at f;obtain ⟨i,H,T,e,I,D,V⟩:=f.ops_inv;have y:=Bu a.fr.tm G;have J:c.roundOf=none∨∀cl,o.op≠.defer cl:=.inr (fun cl q=>by rw [m] at q;cases q)
     obtain ⟨p,K,L,v,M,N,O,Q,R⟩:=K6 (E:=E) (ty:=o.type) a.h (a.fr.evR it) u;obtain ⟨r,z,n,A⟩:=MY _ _ _ g _ (List.mem_map.2 ⟨p,K,rfl⟩);refine ⟨r,n,A,Fd (s:=execOp c.eval o) hE (by rw [CU C e I y J]) ?_ a.h a.fr a.cs C z (fun b W X=>by omega)⟩
     intro Y;exact ⟨L,v,M,.inl (by simp [execOp,m,N]),O,Q,R⟩
    ·cases g
   ·cases g
  ·cases g
 ·cases g
theorem BZ {E:Env}:∀(f:Nat) (b:FuncId) (c:Bool) (s:AS) (ok:Bool) (v:AV) (h:Aa),FQ E f b c s=some (ok,v,h)→s.h.nx≤h.nx
 |0,b,c,s,ok,v,h,a=>by cases a
 |f+1,b,c,s,ok,v,h,a=>by
  simp only [FQ] at a;split at a
  ·split at a
   ·rename_i d;exact Nat.le_trans (Nat.le_of_ble_eq_true d) (BZ f b c _ ok v h a)
   ·cases a
  split at a
  ·split at a
   ·rename_i d;exact Nat.le_trans (Nat.le_of_ble_eq_true d) (BZ f b c _ ok v h a)
   ·cases a
  ·split at a
   ·rename_i d;simp only [Option.some.injEq,Prod.mk.injEq] at a;obtain ⟨_,_,rfl⟩:=a;exact Nat.le_of_ble_eq_true (An (An d).1).1
   ·cases a
  ·rename_i i ops k e;obtain ⟨rfl,_,_⟩:=CI e;split at a
   ·rename_i g;exact Nat.le_trans (Cq _ _ _ _ _ _ _ g) (BZ f b c _ ok v h a)
   ·rename_i g;exact Nat.le_trans (Cq _ _ _ _ _ _ _ g) (BZ f b c _ ok v h a)
   ·cases a
  ·split at a
   ·split at a
    ·rename_i d;exact Nat.le_trans (Nat.le_of_ble_eq_true d) (BZ f b c _ ok v h a)
    ·cases a
   ·split at a
    ·exact (Qw a).2.2.1
    ·cases a
section
variable {E:Env} (hE:OK E) {callF:Ask→Aa→Option (Bool×AV×Aa)} {ρ:Ren} {h:Aa} {w:World} {c:Frame} {ccs base:List Frame} {s:AS}
def XF (s:AS) (r:Option AV) (tmps:T AV) (k:List AI) (h:Aa):AS:=
 match r with
 |none=>{s with fr:={s.fr with tmps,todo:=k},h}
 |some v=>{s with fr:={s.fr with tmps,todo:=.dead::k,mode:=.panic [(v,false)]},h}
theorem RU {k:Ren} {h g:Aa} {w m:World} (hwf:WF h) (d:h.nx≤g.nx) (t:HR k g.blk.get m) (f:Ext ρ k (part h none) g w m):HR k (AU h g).blk.get m∧Ext ρ k h (AU h g) w m:=by
 obtain ⟨l,n,o⟩:=f.log;have i:g.log=l:=by rw [n];exact List.append_nil l
 refine ⟨t.weaken fun b x _ a=>?_,⟨f.le,d,f.new,f.calm,f.kept,⟨BE h.nx g.log,rfl,fun b p u=>CH d p u⟩,fun b p=>GE hwf d p,f.imm⟩⟩
 by_cases r:b<h.nx
 ·by_cases j:b∈BE h.nx g.log
  ·rcases GS j with q|⟨_,q⟩
   ·rw [q] at a;cases a
   ·rw [←q];exact a
  ·rw [CH d j (.inl r)] at a;rw [o b (fun e=>j (Cp.2 ⟨by rw [i];exact e,r⟩)) (.inl r)]
   exact a
 ·by_cases j:b<g.nx
  ·rw [Hu hwf d (by omega) j] at a;exact a
  ·rw [G0 hwf d b (by show g.nx≤b;omega)] at a;cases a
include hE
theorem FN (hF:Db E callF) (e:SR ρ s c ccs w) (hwf:WF s.h) (hm:s.fr.mode=.run) {id:Nat} {ops:Array Oper} {k:List AI} (ht:s.fr.todo=.code (.region id ops true)::k) {r:Option AV} {tmps:T AV}
  (hd:BI E callF ops s.fr.nt ops.toList [] s.fr.tmps s.h=some (r,tmps,h)) (f:AG ρ s.h.nx h.nx) (base:List Frame) :
  ∃J c' w',Steps E.P (lone c (ccs++base) w) (lone c' (ccs++base) w')∧SR J (XF s r tmps k h) c' ccs w'∧
   Ext ρ J s.h h w w':=by
 have l:=e.fr.mode;rw [hm] at l
 have z:c.mode=.run:=by
  generalize c.mode=x at l;cases l;rfl
 have m:=e.fr.todo;rw [ht] at m;generalize aa:c.todo=td at m;cases m with|cons a hk=>
 rename_i L;cases a;obtain ⟨H,N,R,O,n,q1,Q,q3,q4,S,V⟩:=Ix _ _ _ _ _ _ _ hd;simp only [List.length_nil,Nat.zero_add] at Q q3 q4 S V;have X:Ca E callF ops s.fr.nt H N R O n:=⟨fun j hj=>by obtain ⟨o,C,h2⟩:=q4 j hj;exact ⟨o,by simpa using C,h2⟩,by rw [Q];exact hwf⟩
 have p:AG ρ (H 0).nx h.nx:=by rw [Q];exact f
 have ab:n≤ops.size:=by
  cases hr:r with
  |none=>have:=(S hr).1;simp at this;omega
  |some v=>
   obtain ⟨o,C,_⟩:=V v hr;have:=(List.getElem?_eq_some_iff.1 C).1;simp at this;omega
 have hM:(H n).nx≤h.nx:=by
  cases hr:r with
  |none=>rw [(S hr).2.2];exact Nat.le_refl _
  |some v=>
   obtain ⟨o,C,b,e1,e2,M⟩:=V v hr;rw [M];exact b.tx.nx
 have W:n<ops.size→∃o,ops[n]?=some o∧Bad E callF ops H N R O n o (ops.toList.drop (n+1)):=by
  intro hn;cases hr:r with
  |none=>have:=(S hr).1;simp at this;omega
  |some v=>
   obtain ⟨o,C,b,_⟩:=V v hr;exact ⟨o,by simpa using C,b⟩
 have A:=XZ (P:=E.P) (cs:=ccs++base) (w:=w) z aa;rw [hE.mixed] at A;have D:∀t,Region.schedule true ops t=Region.linearise.go .any ops ops.size t (Array.replicate ops.size false) []:=fun t=>rfl
 rw [D] at A;generalize ac:w.tape w.drawn (.order c.fn id)=t at A
 have ad:∀i,(Array.replicate ops.size false).getD i false=false:=by
  intro i;rw [Array.getD_eq_getD_getElem?,Array.getElem?_replicate];split<;>rfl
 have Y:TR ρ s.fr.nt (N 0) c.tmps:=by rw [q3];exact e.fr.tm
 have ae:HR ρ (H 0).blk.get {w with drawn:=w.drawn+1}:=by rw [Q];exact e.h.same rfl
 have I0:Inv s.fr.nt H N R n h.nx ρ {w with drawn:=w.drawn+1} (fun i=>(Array.replicate ops.size false).getD i false) ρ c.tmps {w with drawn:=w.drawn+1}:=kG Y ae p ad
 obtain ⟨rest,J,B,w1,D',r1,r2,r3,r4,r5⟩:=X.sched hE hF (cs:=ccs++base) (k:=L) hM p ab W ops.size t (Array.replicate ops.size false) ρ {w with drawn:=w.drawn+1}
  {c with todo:=.inRegion ops (Region.linearise.go .any ops ops.size t (Array.replicate ops.size false) [])::L} z rfl (by simp) (by omega) I0
 obtain ⟨f1,f2,f3⟩:=X.final r1 r2;rw [Q] at f3;have d:Ext ρ J s.h (H n) w w1:=f3.drawn rfl rfl rfl rfl;have u:=e.fr.mono d.le;cases hr:r with
 |none=>
  obtain ⟨e1,e2,M⟩:=S hr;have hn:n=ops.size:=by simpa using e1
  rw [r4 hn] at r3;subst e2;subst M;refine ⟨J,{c with tmps:=B,todo:=L},w1,Steps.head A (Steps.trans r3 (Steps.one (Jg z rfl))),⟨⟨u.fn,f1,hk.mono d.le,u.defers,u.mode,u.kind,u.round⟩,e.cs.mono d.le,f2⟩,d⟩
 |some v=>
  obtain ⟨o,C,b,e1,e2,M⟩:=V v hr
  have hn:n<ops.size:=by
   have:=(List.getElem?_eq_some_iff.1 C).1;simpa using this
  obtain ⟨rr,af⟩:=r5 hn;rw [af] at r3;have Z:=Sl b.tx.did b.ok;have K:HR J (part (H n) (O n).fp).blk.get w1:=by rw [Z];exact f2
  have F:TR J s.fr.nt (AY (N n) (Bf ops o)) B:=⟨f1.size,fun t x hx=>by
   obtain ⟨_,y,hy,rfl⟩:=Dv _ _ _ _ hx;exact N4 (f1.get t y hy)⟩
  have ag:h.nx=(O n).g.nx:=by rw [M];rfl
  have G:AG J (H n).nx (O n).g.nx:=by rw [←ag];exact d.free f
  obtain ⟨τ,v',w2,p1,p2,p3,p4⟩:=NU hE hF (cs:=ccs++base) (c:={c with tmps:=B,todo:=.inRegion ops (n::rr)::L}) b.tx.did (X.wfAt (Nat.le_refl _)) z rfl (by simpa using C) F K G
  rw [b.ok] at p1;rw [Z] at p4;obtain ⟨m1,m2⟩:=RU (X.wfAt (Nat.le_refl _)) b.tx.nx p3 p4;rw [←M] at m1 m2;have q:=u.mono m2.le;subst e1;subst e2
  have I:({c with tmps:=B,todo:=.inRegion ops (n::rr)::L}:Frame).raise [{v:=v',recovered:=false}]={c with tmps:=B,todo:=.inRegion ops (n::rr)::L,mode:=.panicking [{v:=v',recovered:=false}]}:=by
   simp [Frame.raise,z]
  simp only [BH] at p1;rw [I] at p1;exact ⟨τ,_,w2,Steps.head A (Steps.trans r3 p1),⟨⟨q.fn,f1.mono m2.le,.cons (.dead _ _) ((hk.mono d.le).mono m2.le),q.defers,.panic _ _ ⟨p2,rfl,rfl,trivial⟩,q.kind,q.round⟩,(e.cs.mono d.le).mono m2.le,m1⟩,d.trans m2 f⟩
end
end Go.AE
namespace Go.AE
variable [Gl:AH]
theorem C3:∀{a b:T Ag},MN a b=true→∀i x,a.get i=some x→b.get i=some x
 |.nil,_,_,i,x,c=>by simp [T.get_nil] at c
 |.node v l r,.nil,h,_,_,_=>by simp [MN] at h
 |.node v l r,.node e j k,h,i,x,c=>by
  simp only [MN,Bool.and_eq_true] at h;obtain ⟨⟨d,f⟩,g⟩:=h;simp only [T.get_eq,T.get0] at c ⊢;split at c
  ·subst c;simp only at d;cases e with
   |none=>simp at d
   |some y=>rw [Lp d]
  ·split at c
   ·rw [←T.get_eq] at c ⊢;exact C3 f _ _ c
   ·rw [←T.get_eq] at c ⊢;exact C3 g _ _ c
theorem T4 {b:Nat}:∀{l:List Nat},Hy b l=true→b∈l
 |[],h=>by simp [Hy] at h
 |c::r,h=>by
  simp only [Hy,Bool.or_eq_true] at h;rcases h with h|h
  ·rw [Nat.eq_of_beq_eq_true h];simp
  ·simp [T4 h]
theorem K2 {nx:Nat} {wr:List Nat}:∀{l:List Nat},UR nx wr l=true→∀b∈l,b<nx→b∈wr
 |[],_,b,a,_=>by cases a
 |c::r,h,b,a,d=>by
  simp only [UR,Bool.and_eq_true,Bool.or_eq_true] at h;simp only [List.mem_cons] at a;rcases a with rfl|a
  ·rcases h.1 with e|e
   ·have:=Nat.le_of_ble_eq_true e;omega
   ·exact T4 e
  ·exact K2 h.2 b a d
def Orc.Valid (P:Program) (F:Nat→D→D) (e:Orc):Prop:=
 ∀[U:Unk],U.K=(Env.of P).kinds→U.V.fn=F→∀(r:Ren) (w:World) (l:List Value),VL r e.args l→HR r e.part.get w→WF {blk:=e.part,nx:=e.nx,log:=[]}→AG r e.nx e.nx'→
  ∀(c0:Frame) (base:List Frame),∃t J I g,BH P (lone (Frame.enter P e.f l.toArray .normal) (c0::base) w) c0 base e.ok J I∧VR t e.v J∧HR t g.blk.get I∧
   Ext r t {blk:=e.part,nx:=e.nx,log:=[]} g w I∧(∀b x,e.out.get b=some x→g.blk.get b=some x)∧g.nx=e.nx'∧(∀b∈g.log,b<e.nx→b∈e.wr)
structure Ah (E:Env) (F:Nat→D→D):Prop where
 orc:∀e∈E.orc,e.Valid E.P F
 sms:∀s∈E.sms,s.Valid E.P F
variable [U:Unk]
theorem LQ {K D:Ren} {h g:Aa} {w Z:World} {p out:T Ag} {nx':Nat} {wr:List Nat} (hr:HR K h.blk.get w) (hwf:WF h) (A:∀b x,p.get b=some x→h.blk.get b=some x)
  (E:AG K h.nx nx') (L:HR D g.blk.get Z) (o:Ext K D {blk:=p,nx:=h.nx,log:=[]} g w Z) (ho:∀b x,out.get b=some x→g.blk.get b=some x) (hn:g.nx=nx') (hl:∀b∈g.log,b<h.nx→b∈wr) :
  HR D (AU h {blk:=out,nx:=nx',log:=wr}).blk.get Z∧Ext K D h (AU h {blk:=out,nx:=nx',log:=wr}) w Z:=by
 have r:h.nx≤nx':=by have:=o.nx;rw [hn] at this;exact this
 have s:∀b,p.get b≠none→h.blk.get b≠none:=by
  intro b d;cases t:p.get b with
  |none=>exact absurd t d
  |some x=>rw [A b x t];exact Option.some_ne_none _
 have u:∀b x,(AU h {blk:=out,nx:=nx',log:=wr}).blk.get b=some x→g.blk.get b=some x∨(b<h.nx∧p.get b=none∧h.blk.get b=some x):=by
  intro b x f;by_cases F:b<h.nx
  ·by_cases G:b∈BE h.nx wr
   ·rcases GS (h:=h) (g:={blk:=out,nx:=nx',log:=wr}) G with q|⟨_,q⟩
    ·rw [q] at f;cases f
    ·rw [q] at f;exact .inl (ho b x f)
   ·rw [CH (h:=h) (g:={blk:=out,nx:=nx',log:=wr}) r G (.inl F)] at f;cases t:p.get b with
    |none=>exact .inr ⟨F,rfl,f⟩
    |some y=>
     have e:=A b y t;rw [f] at e;cases e;obtain ⟨l,aa,ab⟩:=o.log;have N:g.log=l:=by rw [aa];exact List.append_nil l
     refine .inl ((ab b (fun e=>G (Cp.2 ⟨hl b (by rw [N];exact e) F,F⟩)) (.inl F)).trans t)
  ·by_cases G:b<nx'
   ·rw [Hu (h:=h) (g:={blk:=out,nx:=nx',log:=wr}) hwf r (by omega) G] at f
    exact .inl (ho b x f)
   ·rw [G0 (h:=h) (g:={blk:=out,nx:=nx',log:=wr}) hwf r b (by show nx'≤b;omega)] at f;cases f
 have old:∀b base,D b=some base→b<h.nx→K b=some base:=by
  intro b base d z;rcases o.new b base d with e|⟨e,_⟩
  ·exact e
  ·exact absurd e (by show ¬h.nx≤b;omega)
 have LR:∀b i base a x H,D b=some base→D i=some a→g.blk.get b=some x→i<h.nx→p.get i=none→h.blk.get i=some H→base.cb≠a.cb:=by
  intro b i base a x H d j f z t v;have B:=old i a j z;have O:h.blk.get i≠none:=by rw [v];exact Option.some_ne_none _
  have P:∀m c,K m=some c→p.get m≠none→c.cb≠a.cb:=fun m c h0 Q=>
   hr.apart m i c a (fun e=>by subst e;exact Q t) h0 B (s m Q) O
  rcases o.new b base d with e|⟨_,_,e⟩
  ·rcases o.live b (by rw [f];exact Option.some_ne_none _) with l|⟨l1,l2⟩
   ·exact P b base e l
   ·have:=E b l1 (by rw [←hn];exact l2)
    rw [this] at e;cases e
  ·rcases e with e|⟨m,c,R,M,S⟩
   ·have:=hr.lt i a B;omega
   ·rw [←S];exact P m c R M
 refine ⟨⟨L.lt,fun b base x d f=>?_,fun b i base a V d j F G=>?_,L.imm,fun k arr b base C d hl=>?_,L.glob⟩,⟨o.le,r,fun b base d=>?_,o.calm,fun k C ac=>o.kept k C (fun b base d t=>ac b base d (s b t)),⟨BE h.nx wr,rfl,fun b d ho=>CH (h:=h) (g:={blk:=out,nx:=nx',log:=wr}) r d ho⟩,fun b d=>GE (h:=h) (g:={blk:=out,nx:=nx',log:=wr}) hwf r d,fun k arr C=>(o.imm k arr C).imp id (fun e=>e.imp id (fun ⟨m,c,x1,x2,x3⟩=>⟨m,c,x1,s m x2,x3⟩))⟩⟩
 ·rcases u b x f with q|⟨z,t,hh⟩
  ·exact L.blk b base x d q
  ·have n:=old b base d z;have C:=o.kept base.cb (hr.lt b base n) (fun i a j W=>hr.apart i b a base (fun e=>by subst e;exact W t) j n (s i W) (by rw [hh];exact Option.some_ne_none _))
   rw [C];exact (hr.blk b base x n hh).mono o.le
 ·cases f:(AU h {blk:=out,nx:=nx',log:=wr}).blk.get b with
  |none=>exact absurd f F
  |some x=>
   cases v:(AU h {blk:=out,nx:=nx',log:=wr}).blk.get i with
   |none=>exact absurd v G
   |some H=>
    rcases u b x f with q|⟨a1,a2,a3⟩
    ·rcases u i H v with q'|⟨I,X,J⟩
     ·exact L.apart b i base a V d j (by rw [q];exact Option.some_ne_none _) (by rw [q'];exact Option.some_ne_none _)
     ·exact LR b i base a x H d j q I X J
    ·rcases u i H v with q'|⟨I,X,J⟩
     ·exact fun e=>LR i b a base H x j d q' a1 a2 a3 e.symm
     ·exact hr.apart b i base a V (old b base d a1) (old i a j I) (by rw [a3];exact Option.some_ne_none _) (by rw [J];exact Option.some_ne_none _)
 ·cases f:(AU h {blk:=out,nx:=nx',log:=wr}).blk.get b with
  |none=>exact absurd f hl
  |some x=>
   rcases u b x f with q|⟨a1,a2,a3⟩
   ·exact L.off k arr b base C d (by rw [q];exact Option.some_ne_none _)
   ·have n:=old b base d a1;have Y:h.blk.get b≠none:=by rw [a3];exact Option.some_ne_none _
    rcases o.imm k arr C with e|e|⟨m,c,R,M,S⟩
    ·exact hr.off k arr b base e n Y
    ·have:=hr.lt b base n;omega
    ·rw [←S];exact (hr.apart m b c base (fun e=>by subst e;exact M a2) R n (s m M) Y).symm
 ·rcases o.new b base d with e|⟨R,M,S⟩
  ·exact .inl e
  ·exact .inr ⟨R,by show b<nx';rw [←hn];exact M,S.imp id (fun ⟨m,c,x1,x2,x3⟩=>⟨m,c,x1,s m x2,x3⟩)⟩
theorem Ext.skip {ρ J:Ren} {h g:Aa} {n:Nat} {w w':World} (t:h.nx≤n) (q:Ext ρ J {h with nx:=n} g w w'):Ext ρ J h g w w':=by
 obtain ⟨l,hl,I⟩:=q.log;have hq:n≤g.nx:=q.nx;exact ⟨q.le,Nat.le_trans t hq,fun b base r=>(q.new b base r).imp id (fun ⟨a,c,d⟩=>⟨Nat.le_trans t a,c,d⟩),q.calm,q.kept,⟨l,hl,fun b r ho=>I b r (ho.imp (fun x=>Nat.lt_of_lt_of_le x t) id)⟩,fun b r=>(q.live b r).imp id (fun ⟨a,c⟩=>⟨Nat.le_trans t a,c⟩),q.imm⟩
theorem O7 {P:Program} {F:Nat→D→D} (A:U.V.fn=F) {f:FuncId} {args:List AV} {a:List Value} {h g:Aa} {ok:Bool} {v:AV} {n:Ren} {w:World}:∀{l:List Orc},(∀e∈l,e.Valid P F)→U.K=(Env.of P).kinds→M8 l f args h=some (ok,v,g)→VL n args a→HR n h.blk.get w→WF h→AG n h.nx g.nx→
  ∀(c0:Frame) (base:List Frame),∃p t s,BH P (lone (Frame.enter P f a.toArray .normal) (c0::base) w) c0 base ok t s∧VR p v t∧HR p g.blk.get s∧Ext n p h g w s
 |[],_,_,j,_,_,_,_=>by simp [M8] at j
 |e::r,hO,hK,j,B,hr,hwf,d=>by
  simp only [M8] at j;split at j
  ·rename_i o;simp only [Bool.and_eq_true] at o;obtain ⟨⟨⟨u,k⟩,C⟩,y⟩:=o;have E:=Nat.eq_of_beq_eq_true u
   have z:h.nx≤e.nx:=by
    simp only [Bool.or_eq_true,Bool.and_eq_true] at k;rcases k with k|k
    ·exact Nat.le_of_eq (Nat.eq_of_beq_eq_true k).symm
    ·exact Nat.le_of_ble_eq_true k.2
   have G:=E7 _ _ C;subst E;subst G;cases j;intro c0 base;have i:AG n h.nx e.nx':=d;have c:AG n e.nx e.nx':=fun b u k=>i b (Nat.le_trans z u) k
   have m:WF {h with nx:=e.nx}:=fun b o=>hwf b (Nat.le_trans z o)
   obtain ⟨p,t,s,J,a1,a2,a3,a4,a5,a6,a7⟩:=hO e (by simp) hK A n w a B (hr.weaken (fun b x _ j=>C3 y b x j)) (fun b o=>by
    show e.part.get b=none;cases H:e.part.get b with
    |none=>rfl
    |some x=>
     have q:=C3 y b x H;rw [m b o] at q;cases q) c c0 base
   obtain ⟨m1,m2⟩:=LQ (h:={h with nx:=e.nx}) hr m (C3 y) c a3 a4 a5 a6 a7
   exact ⟨p,t,s,a1,a2,m1,m2.skip z⟩
  ·exact O7 A (fun e I=>hO e (by simp [I])) hK j B hr hwf d
section
variable {E:Env} (hE:OK E) (hO:Ah E U.V.fn) {ρ:Ren} {w:World} {c:Frame} {ccs:List Frame} {s s':AS}
include hE hO
omit hE hO in
theorem Zi {x:AV} {v:Value} (hx:VR ρ x v):VR ρ (XO x) v:=by
 unfold XO;split
 ·rename_i x;split
  ·rename_i l b hl;have h:=OF U.ok hl;rw [Jw] at h;unfold strEq at h;simp only [Bool.and_eq_true] at h;have h1:=Nat.eq_of_beq_eq_true h.1;have h2:=Nat.eq_of_beq_eq_true h.2;cases hx;rw [←h1,←h2];exact .str _
  ·exact hx
 ·exact hx
omit hE hO in
theorem Wo {l:List AV} {l':List Value} (h:VL ρ l l'):VL ρ (l.map XO) l':=by
 refine ⟨by simp [h.1],fun i a v ha hv=>?_⟩
 rw [List.getElem?_map] at ha;cases hl:l[i]? with
 |none=>rw [hl] at ha;cases ha
 |some x=>rw [hl] at ha;cases ha;exact Zi (h.2 i x v hl hv)
theorem Ei {f:FuncId} {args:List AV} {j:List Value} {h g:Aa} {ok:Bool} {v:AV} (hx:J1 E f args h=some (ok,v,g)) (ha:VL ρ args j) (hr:HR ρ h.blk.get w) (hwf:WF h) (d:AG ρ h.nx g.nx) :
  ∀(c0:Frame) (base:List Frame),∃m q n,BH E.P (lone (Frame.enter E.P f j.toArray .normal) (c0::base) w) c0 base ok q n∧VR m v q∧HR m g.blk.get n∧Ext ρ m h g w n:=by
 unfold J1 at hx;split at hx
 ·rename_i l hl;have t:=hE.ox _ _ hl;split at hx
  ·rename_i r o;cases hx;exact O7 rfl (fun e p=>hO.orc e (t e p)) hE.kd o ha hr hwf d
  ·split at hx
   ·rename_i u k;cases hx;split at k
    ·exact O7 rfl (fun e p=>hO.orc e (t e p)) hE.kd k (Wo ha) hr hwf d
    ·cases k
   ·split at hx
    ·rename_i u k;cases hx;exact IK hE rfl hO.sms k ha hr hwf d
    ·cases hx
 ·split at hx
  ·rename_i u k;cases hx;exact IK hE rfl hO.sms k ha hr hwf d
  ·cases hx
omit hE hO in
theorem Xb {h:Aa} {a:AV} {v:Value} (ha:VR ρ a v):VR ρ (SX h a) v:=by
 unfold SX;split
 ·rename_i b n es;split
  ·cases ha with
   |slice _ _ _ _ cap base hb hc hz=>exact .asl b es (.c n) (.bc false) cap base hb (Int.natCast_nonneg _) (by simpa [Ac,Ab,D.toInt] using hc) (by omega) rfl
   |sliceEnd _ _ _ a=>exact .aslEnd b es (.c (0:Nat)) (.bc false) (some a) rfl rfl
  ·exact ha
 ·exact ha
omit hE hO in
theorem KP {h:Aa} {f:AF} {c:Frame} (hf:FrR ρ f c):FrR ρ (Uk h f) c:=by
 unfold Uk;split
 ·refine ⟨hf.fn,⟨hf.tm.size,fun i x hx=>?_⟩,hf.todo,hf.defers,hf.mode,hf.kind,hf.round⟩
  have hx:(f.tmps.mapA (SX h)).get i=some x:=hx;rw [T.get_mapA] at hx;cases hg:f.tmps.get i with
  |none=>rw [hg] at hx;cases hx
  |some y=>
   rw [hg] at hx;cases hx;exact Xb (hf.tm.get i y hg)
 ·exact hf
omit hO in
theorem Wn (hsr:SR ρ s c ccs w) (hm:s.fr.mode=.run) {all:Array Oper} {o:Oper} {r:List Oper} {k:List AI} (ht:s.fr.todo=.ops all (o::r)::k) (hx:Xg E s all o r=some s') (base:List Frame) :
  ∃σ c' ccs' w',Steps E.P (lone c (ccs++base) w) (lone c' (ccs'++base) w')∧SR σ s' c' ccs' w'∧Ext ρ σ s.h s'.h w w':=by
 unfold Xg at hx;split at hx
 ·rename_i t x lo o2 r2 d hop hdst;split at hx
  ·rename_i cc hop2;split at hx
   ·rename_i t1 d' hcal hats hargs;split at hx
    ·rename_i b es n nl kd l hex hel;split at hx
     ·rename_i e e1 e2 y hd hd1 hb;split at hx
      ·rename_i z ks hz hk;split at hx
       ·rename_i hc;split at hx
        ·rename_i fr1 hw1 hf1;split at hx
         ·rename_i fr2 hw2 hf2;cases hx;obtain ⟨c1,hc⟩:=An hc;obtain ⟨c2,hc⟩:=An hc;obtain ⟨c3,hc⟩:=An hc;obtain ⟨c4,hc⟩:=An hc;obtain ⟨c5,hc⟩:=An hc;obtain ⟨c6,hc⟩:=An hc;obtain ⟨c7,hc⟩:=An hc;obtain ⟨c8,c9⟩:=An hc;have q1:=Ay c1;have q2:=Ay c2;have q3:=Ay c3;subst q1 q2 q3;have htodo:=hsr.fr.todo;rw [ht] at htodo;obtain ⟨i,idx,k',ee,ho,hm',hkk⟩:=htodo.ops_inv;have hmode:=hsr.fr.mode;rw [hm] at hmode
          have hcm:c.mode=.run:=by
           generalize c.mode=x at hmode;cases hmode;rfl
          have ht':=hsr.fr.tm
          have hev:EvR ρ s.fr.tmps c.eval:=by
           intro x;have:=I3 ht' x;cases x<;>exact this
          have hvx:=hev x;rw [hex] at hvx;have hvl:=Ch (hev lo) hel;obtain ⟨v,w',r1,r2',r3,r4⟩:=Zc hE hsr.h (ty:=o2.type) hd hd1 hz hk (Ay c4) (Ay c5) c6 hvx hb c7 c8 hvl c9;have hnd:∀cl,o.op≠.defer cl:=by intro cl e;rw [hop] at e;cases e
          have hnd2:∀cl,o2.op≠.defer cl:=by intro cl e;rw [hop2] at e;cases e
          have st1:step E.P (lone c (ccs++base) w)=.next (lone (c.finish v) (ccs++base) w):=SN hcm ee ho (Bu ht' hw1) (.inr hnd) (.inl (by simp [execOp,hop,r1]))
          have fr1ok:=BG hsr.fr hf1 (VR.top v)
          have ef:c.finish v={c with tmps:=II c.tmps o.dst v,todo:=.inRegion all idx::k'}:=by
           simp only [Frame.finish,ee,ho,Option.bind_some,II];cases o.dst<;>rfl
          have fm:fr1.mode=.run∧fr1.todo=.ops all (o2::r2)::k∧d<s.fr.nt:=by
           unfold A3 at hf1;rw [ht] at hf1;simp only [hdst,El] at hf1;split at hf1
           ·rename_i t' hp;cases hf1;split at hp
            ·rename_i hlt;exact ⟨hm,rfl,Ge hlt⟩
            ·cases hp
           ·cases hf1
          obtain ⟨fm1,fm2,fm3⟩:=fm;have htodo2:=fr1ok.todo;rw [fm2] at htodo2;obtain ⟨i2,idx2,k2',ee2,ho2,_,_⟩:=htodo2.ops_inv;have hcm2:(c.finish v).mode=.run:=by rw [ef];exact hcm
          have hev2:(c.finish v).eval (.tmp d)=v:=by
           show (c.finish v).tmps.getD d Go.undef=v;rw [ef];show (II c.tmps o.dst v).getD d Go.undef=v;rw [hdst];have:d<c.tmps.size:=by rw [ht'.size];exact fm3
           simp [II,Array.getD_eq_getD_getElem?,this]
          have hrun2:(execOp (c.finish v).eval o2).run E.P w=.ok (.value (.tuple #[])) w':=by
           have a1:cc.argTypes = #[t1]:=by rw [←Array.toList_inj];exact hats
           have hmap:(cc.args.map (c.finish v).eval)=(cc.args.toList.map (c.finish v).eval).toArray:=by apply Array.ext';simp
           have ex:∃cs,execOp (c.finish v).eval o2=builtin .clear cc.argTypes o2.type cs (cc.args.toList.map (c.finish v).eval).toArray:=
            ⟨_,by unfold execOp;rw [hop2];simp only [resolve,hcal,pure_bind,invoke,hmap];rfl⟩
           obtain ⟨cs,ex⟩:=ex;rw [ex,a1,hargs];simp only [List.map_cons,List.map_nil,hev2];simp [builtin,r2']
          have st2:step E.P (lone (c.finish v) (ccs++base) w)=.next (lone ((c.finish v).finish (.tuple #[])) (ccs++base) w'):=SN hcm2 ee2 ho2 (Bu fr1ok.tm hw2) (.inr hnd2) (.inl hrun2);have fr2ok:=BG fr1ok hf2 (VR.top (.tuple #[]));exact ⟨ρ,(c.finish v).finish (.tuple #[]),ccs,w',Steps.head st1 (Steps.one st2),⟨fr2ok,hsr.cs,r3⟩,r4⟩
         ·cases hx
        ·cases hx
       ·cases hx
      ·cases hx
     ·cases hx
    ·cases hx
   ·cases hx
  ·cases hx
 ·cases hx
omit hE hO in
theorem Qr {fr:AF} {c:Frame} {v:AV} {v':Value} (hf:FrR ρ fr c) (hm:c.mode=.run) (hv:VR ρ v v'):FrR ρ {fr with mode:=.panic [(v,false)]} (c.raise [{v:=v',recovered:=false}]):=by
 have e:c.raise [{v:=v',recovered:=false}]={c with mode:=.panicking [{v:=v',recovered:=false}]}:=by simp [Frame.raise,hm]
 rw [e];exact ⟨hf.fn,hf.tm,hf.todo,hf.defers,.panic _ _ ⟨hv,rfl,rfl,trivial⟩,hf.kind,hf.round⟩
omit hE hO in
theorem K5 {f:Operand} {params:List Tmp} {assign body:Code} {k:List AI} {g:FuncId} {args:List AV} {h3:Aa} {fr':AF} (hx:D3 E s f params assign body k=some (g,args,h3,fr')):fr'.mode=s.fr.mode:=by
 unfold D3 at hx;split at hx
 ·split at hx
  ·split at hx
   ·cases hx;rfl
   ·cases hx
  ·cases hx
 ·cases hx
theorem Xt (hsr:SR ρ s c ccs w) (hwf:WF s.h) (hx:WS E s=some s') (j:AG ρ s.h.nx s'.h.nx) (base:List Frame) :
  ∃σ c' ccs' w',Steps E.P (lone c (ccs++base) w) (lone c' (ccs'++base) w')∧SR σ s' c' ccs' w'∧Ext ρ σ s.h s'.h w w':=by
 unfold WS at hx;split at hx
 ·cases hx
 ·split at hx
  ·rename_i hm;split at hx
   ·rename_i all o r k ht;split at hx
    ·rename_i W L;cases hx;exact Wn hE hsr hm ht L base
    split at hx
    ·rename_i R;split at hx
     ·rename_i S;split at hx
      ·rename_i g args h1 hop;split at hx
       ·rename_i v h2 m;split at hx
        ·rename_i fr u;cases hx;have htodo:=hsr.fr.todo;rw [ht] at htodo;obtain ⟨i,idx,k',e,ho,hm',hk⟩:=htodo.ops_inv;have hmode:=hsr.fr.mode;rw [hm] at hmode
         have hcm:c.mode=.run:=by
          generalize c.mode=x at hmode;cases hmode;rfl
         have ht':=hsr.fr.tm
         have hev:EvR ρ s.fr.tmps c.eval:=by
          intro x;have:=I3 ht' x;cases x<;>exact this
         have p:=HB hE hsr.h hev o;rw [hop] at p;obtain ⟨rfl,q,ha,A⟩:=p
         have hnd:∀cl,o.op≠.defer cl:=by
          intro cl e;rw [e] at hop;simp only [aop] at hop;rcases Dw s.fr.tmps cl s.h with ⟨d,K⟩|⟨y,K⟩<;>(rw [K] at hop;cases hop)
         obtain ⟨σ,v',w',q1,q2,q3,B⟩:=Ei hE hO m ha hsr.h hwf j c (ccs++base);have G:=LY (cs:=ccs++base) (P:=E.P) hcm e ho (Bu ht' S) (.inr hnd) A;exact ⟨σ,c.finish v',ccs,w',Steps.head G q1,⟨KP (BG (hsr.fr.mono B.le) u q2),hsr.cs.mono B.le,q3⟩,B⟩
        ·cases hx
       ·rename_i v h2 m;cases hx;have htodo:=hsr.fr.todo;rw [ht] at htodo;obtain ⟨i,idx,k',e,ho,hm',hk⟩:=htodo.ops_inv;have hmode:=hsr.fr.mode;rw [hm] at hmode
        have hcm:c.mode=.run:=by
         generalize c.mode=x at hmode;cases hmode;rfl
        have ht':=hsr.fr.tm
        have hev:EvR ρ s.fr.tmps c.eval:=by
         intro x;have:=I3 ht' x;cases x<;>exact this
        have p:=HB hE hsr.h hev o;rw [hop] at p;obtain ⟨rfl,q,ha,A⟩:=p
        have hnd:∀cl,o.op≠.defer cl:=by
         intro cl e;rw [e] at hop;simp only [aop] at hop;rcases Dw s.fr.tmps cl s.h with ⟨d,K⟩|⟨y,K⟩<;>(rw [K] at hop;cases hop)
        obtain ⟨σ,v',w',q1,q2,q3,B⟩:=Ei hE hO m ha hsr.h hwf j c (ccs++base);have G:=LY (cs:=ccs++base) (P:=E.P) hcm e ho (Bu ht' S) (.inr hnd) A;exact ⟨σ,c.raise [{v:=v',recovered:=false}],ccs,w',Steps.head G q1,⟨KP (Qr (hsr.fr.mono B.le) hcm q2),hsr.cs.mono B.le,q3⟩,B⟩
       ·cases hx
      ·cases hx
     ·cases hx
    ·cases hx
   ·
    rename_i Y params assign body k ht;split at hx
    ·rename_i g args h3 fr' H;split at hx
     ·rename_i v h2 m;split at hx
      ·rename_i fr C u;cases hx;have htodo:=hsr.fr.todo;rw [ht] at htodo;have hmode:=hsr.fr.mode;rw [hm] at hmode
       have hcm:c.mode=.run:=by
        generalize c.mode=x at hmode;cases hmode;rfl
       generalize I:c.todo=td at htodo;cases htodo with
       |cons J hk=>
        cases J;have M:h3.nx≤h2.nx:=Cu C;obtain ⟨σ,c',q,w1,q1,q2,q3,B,F⟩:=HU hE hsr hcm hk I H (fun b N X=>j b N (by show b<h2.nx;omega)) base
        obtain ⟨O,v',w',r1,r2,r3,r4⟩:=Ei hE hO m q2 B (F.wf hwf) (F.free j) c' (ccs++base);exact ⟨O,c'.finish v',ccs,w',Steps.head q1 r1,⟨KP (BG (q3.mono r4.le) u r2),(hsr.cs.mono F.le).mono r4.le,r3⟩,F.trans r4 j⟩
      ·cases hx
     ·rename_i v h2 m;split at hx
      ·rename_i C;cases hx;have htodo:=hsr.fr.todo;rw [ht] at htodo;have hmode:=hsr.fr.mode;rw [hm] at hmode
       have hcm:c.mode=.run:=by
        generalize c.mode=x at hmode;cases hmode;rfl
       generalize I:c.todo=td at htodo;cases htodo with
       |cons J hk=>
        cases J;have M:h3.nx≤h2.nx:=Cu C;obtain ⟨σ,c',q,w1,q1,q2,q3,B,F⟩:=HU hE hsr hcm hk I H (fun b N X=>j b N (by show b<h2.nx;omega)) base
        obtain ⟨O,v',w',r1,r2,r3,r4⟩:=Ei hE hO m q2 B (F.wf hwf) (F.free j) c' (ccs++base)
        have Q:c'.mode=.run:=by
         have h1:=q3.mode;have h2:fr'.mode=.run:=by rw [K5 H,hm]
         rw [h2] at h1;generalize c'.mode=x at h1;cases h1;rfl
        exact ⟨O,c'.raise [{v:=v',recovered:=false}],ccs,w',Steps.head q1 r1,⟨KP (Qr (q3.mono r4.le) Q r2),(hsr.cs.mono F.le).mono r4.le,r3⟩,F.trans r4 j⟩
      ·cases hx
     ·cases hx
    ·cases hx
   ·cases hx
  ·cases hx
omit hE hO in
theorem O2 {ρ:Ren} {nt:Nat} {t:T AV} {a:Array Value} (h:TR ρ nt t a):∀{l:List Tmp} {i:Tmp} {v:AV},Xh t l=some (i,v)→TR ρ nt (t.set i v) a
 |[],i,v,hx=>by cases hx
 |c::r,i,v,hx=>by
  unfold Xh at hx;split at hx
  ·rename_i b nl hg;split at hx
   ·exact O2 h hx
   ·cases hx;refine ⟨h.size,fun j x hj=>?_⟩
    rw [T.get_set] at hj;by_cases e:c=j
    ·subst e;rw [if_pos rfl] at hj;cases hj;exact N4 (h.get c _ hg)
    ·rw [if_neg e] at hj;exact h.get j x hj
  ·exact O2 h hx
theorem KY (hsr:SR ρ s c ccs w) (hwf:WF s.h) (hx:QT E s=some s') (m:AG ρ s.h.nx s'.h.nx) (base:List Frame) :
  ∃σ c' ccs' w',Steps E.P (lone c (ccs++base) w) (lone c' (ccs'++base) w')∧SR σ s' c' ccs' w'∧Ext ρ σ s.h s'.h w w':=by
 unfold QT at hx;split at hx
 ·rename_i p hr;cases hx;unfold kk at hr;split at hr
  ·split at hr
   ·rename_i i v hl;cases hr;exact ⟨ρ,c,ccs,w,Steps.refl _ _,⟨⟨hsr.fr.fn,O2 hsr.fr.tm hl,hsr.fr.todo,hsr.fr.defers,hsr.fr.mode,hsr.fr.kind,hsr.fr.round⟩,hsr.cs,hsr.h⟩,Ext.refl _ _ _⟩
   ·cases hr
  ·cases hr
 ·exact Xt hE hO hsr hwf hx m base
end
end Go.AE
namespace Go.AE
variable [Gl:AH]
mutual
def mvA (d:Nat):AV→AV
 |.bool b=>.bool b
 |.int k n=>.int k n
 |.str l b=>.str l b
 |.ptr0=>.ptr0
 |.ptr b o=>.ptr (b+d) o
 |.slice0=>.slice0
 |.slice b o n c=>.slice (b+d) o n c
 |.map0=>.map0
 |.map b=>.map (b+d)
 |.nilFunc=>.nilFunc
 |.nilIface=>.nilIface
 |.iface t v=>.iface t (mvA d v)
 |.agg l=>.agg (mvL d l)
 |.tuple l=>.tuple (mvL d l)
 |_=>.top
def mvL (d:Nat):List AV→List AV
 |[]=>[]
 |a::r=>mvA d a::mvL d r
end
def Z2 (d:Nat):List Aj→List Aj
 |[]=>[]
 |e::r=>{key:=mvA d e.key,val:=mvA d e.val,born:=e.born}::Z2 d r
def mvK (d:Nat):Ag→Option Ag
 |.cells n c=>some (.cells n (c.mapA (mvA d)))
 |.map a k=>some (.map (Z2 d a) k)
 |_=>none
def T.keys {t:Type} (m s:Nat):T t→List Nat
 |.nil=>[]
 |.node v l r=>(match v with|some _=>[s]|none=>[])++(l.keys (2*m) (s+m)++r.keys (2*m) (s+2*m))
def mvT (d:Nat) (t:T Ag):List Nat→T Ag
 |[]=>.nil
 |k::r=>match t.get k with
  |some x=>match mvK d x with
   |some y=>(mvT d t r).set (k+d) y
   |none=>mvT d t r
  |none=>mvT d t r
def Zv:AV→Bool
 |.bool _=>true
 |.int _ _=>true
 |.str _ _=>true
 |_=>false
def Orc.canMove (e:Orc):Bool:=e.args.all Zv&&(match e.part with|.nil=>true|_=>false)
def Orc.move (e:Orc) (d:Nat):Orc:={f:=e.f,args:=e.args,part:=.nil,nx:=e.nx+d,ok:=e.ok,v:=mvA d e.v,out:=mvT d e.out (e.out.keys 1 0),nx':=e.nx'+d,wr:=[]}
theorem O3 (d:Nat):∀l:List AV,(mvL d l).length=l.length
 |[]=>rfl
 |a::r=>by simp [mvL,O3 d r]
theorem TC (d:Nat):∀(l:List AV) (i:Nat),(mvL d l)[i]?=l[i]?.map (mvA d)
 |[],i=>by simp [mvL]
 |a::r,0=>by simp [mvL]
 |a::r,i+1=>by simp [mvL,TC d r i]
section
variable [U:Unk]
theorem VR.move {ρ J:Ren} {d:Nat} (h:∀b base,ρ b=some base→J (b+d)=some base) {a:AV} {v:Value} (k:VR ρ a v):VR J (mvA d a) v:=by
 have ls:∀(l:List AV) (l':List Value),(∀(i:Nat) (a:AV) (v:Value),l[i]?=some a→l'[i]?=some v→VR J (mvA d a) v)→∀(i:Nat) (a:AV) (v:Value),(mvL d l)[i]?=some a→l'[i]?=some v→VR J a v:=by
  intro l l' ih i a v r hv;rw [TC] at r;cases hl:l[i]? with
  |none=>rw [hl] at r;cases r
  |some x=>rw [hl] at r;cases r;exact ih i x v hl hv
 induction k with
 |top v=>exact .top v
 |bool b=>exact .bool b
 |int k n=>exact .int k n
 |str s=>exact .str s
 |ptr0=>exact .ptr0
 |ptr b off base I=>exact .ptr _ off base (h _ _ I)
 |slice0=>exact .slice0
 |slice b off n es cap base I hc hz=>exact .slice _ off n es cap base (h _ _ I) hc hz
 |sliceEnd b off es a=>exact .sliceEnd _ off es a
 |map0=>exact .map0
 |map b base I=>exact .map _ base (h _ _ I)
 |func=>exact .top _
 |nilFunc=>exact .nilFunc
 |iface t a v _ ih=>exact .iface t _ v ih
 |nilIface=>exact .nilIface
 |agg l l' h1 h2 ih=>exact .agg _ l' (by rw [O3,h1]) (ls l l' ih)
 |tuple l l' h1 h2 ih=>exact .tuple _ l' (by rw [O3,h1]) (ls l l' ih)
 |sb=>exact .top _
 |si=>exact .top _
 |ss=>exact .top _
 |dat=>exact .top _
 |dptr=>exact .top _
 |asl=>exact .top _
 |aslEnd=>exact .top _
 |eslc=>exact .top _
 |aptr=>exact .top _
 |nmap=>exact .top _
 |nmap0=>exact .top _
 |stamp=>exact .top _
 |glob=>exact .top _
 |fsl=>exact .top _
theorem ER.move {ρ r:Ren} {d:Nat} (h:∀b base,ρ b=some base→r (b+d)=some base):∀{l:List Aj} {l':List MapEntry},ER ρ l l'→ER r (Z2 d l) l'
 |[],[],_=>trivial
 |_::_,_::_,⟨t,I,J,h4⟩=>⟨t.move h,I.move h,J,ER.move h h4⟩
 |[],_::_,h=>h.elim
 |_::_,[],h=>h.elim
theorem BR.move {ρ σ:Ren} {d:Nat} (h:∀b base,ρ b=some base→σ (b+d)=some base) {x y:Ag} {base:Br} {o:Option Obj} (k:BR ρ x base o) (l:mvK d x=some y):BR σ y base o:=by
 cases x with
 |cells n c=>
  cases l;obtain ⟨t,e,fz,I,J,h3,h4,h5⟩:=k;refine ⟨t,e,fz,I,J,h3,h4,fun i a hi r=>?_⟩
  rw [T.get_mapA] at r;cases hc:c.get i with
  |none=>rw [hc] at r;cases r
  |some a0=>
   rw [hc] at r;cases r;obtain ⟨v,hv,hr⟩:=h5 i a0 hi hc;exact ⟨v,hv,hr.move h⟩
 |map es ab=>cases l;obtain ⟨al,I,J⟩:=k;exact ⟨al,I,J.move h⟩
 |arr=>cases l
 |dmap=>cases l
 |dmapS=>cases l
 |loop=>cases l
 |deferred=>cases l
 |mapIter=>cases l
 |strIter=>cases l
omit U in
theorem Zh {d:Nat} {t:T Ag}:∀{l:List Nat} {b:Nat} {y:Ag},(mvT d t l).get b=some y→∃k x,b=k+d∧t.get k=some x∧mvK d x=some y:=by
 intro l
 induction l with
 |nil=>intro b y h;rw [mvT,T.get_nil] at h;cases h
 |cons k r ih=>
  intro b y h;unfold mvT at h;split at h
  ·rename_i x hx;split at h
   ·rename_i z hz;rw [T.get_set] at h;by_cases hb:k+d=b
    ·rw [if_pos hb] at h;cases h;exact ⟨k,x,hb.symm,hx,hz⟩
    ·rw [if_neg hb] at h;exact ih h
   ·exact ih h
  ·exact ih h
theorem Xo {c e:Ren} {a:AV} {v:Value} (h:Zv a=true) (k:VR c a v):VR e a v:=by
 cases k<;>first | (cases h;done)|constructor
end
theorem Orc.Valid.move {P:Program} {F:Nat→D→D} {e:Orc} (hv:e.Valid P F) (hc:e.canMove=true) (d:Nat):(e.move d).Valid P F:=by
 intro U hK hF ρ w ab ha hr hwf ar c0 base;unfold Orc.canMove at hc;simp only [Bool.and_eq_true] at hc;obtain ⟨b5,bd⟩:=hc
 have hp:e.part=.nil:=by
  split at bd
  ·assumption
  ·cases bd
 have bm:∀b,e.part.get b=none:=fun b=>by rw [hp];exact T.get_nil b
 have b6:VL ⟨fun _=>none,ρ.imm⟩ e.args ab:=⟨ha.1,fun i a v I J=>Xo (List.all_eq_true.1 b5 a (List.mem_of_getElem? I)) (ha.2 i a v I J)⟩
 have cc:HR ⟨fun _=>none,ρ.imm⟩ e.part.get w:=⟨fun _ _ h=>(by cases h),fun _ _ _ h=>(by cases h),fun _ _ _ _ _ h=>(by cases h),hr.imm,fun _ _ _ _ _ h=>(by cases h),hr.glob⟩
 obtain ⟨r,v',w',g,q1,q2,q3,q4,q5,q6,q7⟩:=hv hK hF ⟨fun _=>none,ρ.imm⟩ w ab b6 cc (fun b _=>bm b) (fun _ _ _=>rfl) c0 base
 have bn:∀b base,r b=some base→e.nx≤b∧b<e.nx'∧w.heap.size≤base.cb:=by
  intro b base l;rcases q4.new b base l with h|⟨I,J,h3⟩
  ·cases h
  ·refine ⟨I,q6▸J,?_⟩;rcases h3 with h|⟨_,_,h,_⟩
   ·exact h
   ·cases h
 have av:∀k x,g.blk.get k=some x→e.nx≤k∧k<e.nx':=by
  intro k x hk;rcases q4.live k (by rw [hk];exact Option.some_ne_none _) with h|⟨I,J⟩
  ·exact absurd (bm k) h
  ·exact ⟨I,q6▸J⟩
 have ck:e.nx≤e.nx':=by have:=q4.nx;rw [q6] at this;exact this
 have cm:=hr.lt
 let σ:Ren:=⟨fun b=>if e.nx+d≤b∧b<e.nx'+d then r (b-d) else ρ b,r.imm⟩
 have bs:∀b base,r b=some base→σ (b+d)=some base:=by
  intro b base l;obtain ⟨I,J,_⟩:=bn b base l;show (if e.nx+d≤b+d∧b+d<e.nx'+d then r (b+d-d) else ρ (b+d))=some base
  rw [if_pos ⟨by omega,by omega⟩,Nat.add_sub_cancel]
  exact l
 have al:∀b base,σ b=some base→(e.nx+d≤b∧b<e.nx'+d∧r (b-d)=some base)∨ρ b=some base:=by
  intro b base l;have l:(if e.nx+d≤b∧b<e.nx'+d then r (b-d) else ρ b)=some base:=l
  by_cases hh:e.nx+d≤b∧b<e.nx'+d
  ·rw [if_pos hh] at l;exact .inl ⟨hh.1,hh.2,l⟩
  ·rw [if_neg hh] at l;exact .inr l
 have t:∀b y,(mvT d e.out (e.out.keys 1 0)).get b=some y→∃k x,b=k+d∧g.blk.get k=some x∧mvK d x=some y∧e.nx≤k∧k<e.nx':=by
  intro b y l;obtain ⟨k,x,I,J,h3⟩:=Zh l;have h4:=q5 k x J;obtain ⟨h5,h6⟩:=av k x h4;exact ⟨k,x,I,h4,h3,h5,h6⟩
 have an:∀k base,e.nx≤k→k<e.nx'→σ (k+d)=some base→r k=some base:=by
  intro k base I J h;have h:(if e.nx+d≤k+d∧k+d<e.nx'+d then r (k+d-d) else ρ (k+d))=some base:=h
  rw [if_pos ⟨by omega,by omega⟩,Nat.add_sub_cancel] at h
  exact h
 refine ⟨σ,v',w',{blk:=mvT d e.out (e.out.keys 1 0),nx:=e.nx'+d,log:=[]},q1,q2.move bs,⟨?_,?_,?_,q3.imm,?_,q3.glob⟩,⟨⟨?_,q4.le.imm⟩,?_,?_,q4.calm,?_,⟨[],rfl,?_⟩,?_,?_⟩,fun b x h=>h,rfl,fun b l=>(by cases l)⟩
 ·intro b base l;rcases al b base l with ⟨_,_,h⟩|h
  ·exact q3.lt _ _ h
  ·have:=hr.lt b base h;have:=q4.calm.size;omega
 ·intro b base y l hy;obtain ⟨k,x,rfl,I,J,h3,h4⟩:=t b y hy;exact (q3.blk k base x (an k base h3 h4 l) I).move bs J
 ·intro b b' base base' cd l cf I J;cases hy:(mvT d e.out (e.out.keys 1 0)).get b with
  |none=>exact absurd hy I
  |some y=>
   cases bv:(mvT d e.out (e.out.keys 1 0)).get b' with
   |none=>exact absurd bv J
   |some y'=>
    obtain ⟨k,x,rfl,a1,a2,a3,a4⟩:=t b y hy;obtain ⟨k',x',rfl,b1,b2,b3,b4⟩:=t b' y' bv;exact q3.apart k k' base base' (fun e=>cd (by rw [e])) (an k base a3 a4 l) (an k' base' b3 b4 cf) (by rw [a1];exact Option.some_ne_none _) (by rw [b1];exact Option.some_ne_none _)
 ·intro k arr b base hk l hg;cases hy:(mvT d e.out (e.out.keys 1 0)).get b with
  |none=>exact absurd hy hg
  |some y=>
   obtain ⟨j,x,rfl,a1,a2,a3,a4⟩:=t b y hy;exact q3.off k arr j base hk (an j base a3 a4 l) (by rw [a1];exact Option.some_ne_none _)
 ·intro b base l;show (if e.nx+d≤b∧b<e.nx'+d then r (b-d) else ρ b)=some base
  rw [if_neg]
  ·exact l
  ·rintro ⟨I,J⟩
   have:=ar b I J;rw [this] at l;cases l
 ·show e.nx+d≤e.nx'+d;omega
 ·intro b base l;rcases al b base l with ⟨I,J,h⟩|h
  ·exact .inr ⟨I,J,.inl (bn _ _ h).2.2⟩
  ·exact .inl h
 ·intro k hk _;exact q4.kept k hk (fun b base l=>by cases l)
 ·intro b _ l;show (mvT d e.out (e.out.keys 1 0)).get b=(T.nil:T Ag).get b;rw [T.get_nil];cases hy:(mvT d e.out (e.out.keys 1 0)).get b with
  |none=>rfl
  |some y=>
   obtain ⟨k,x,rfl,_,_,h3,h4⟩:=t b y hy;have l:k+d<e.nx+d∨e.nx'+d≤k+d:=l;omega
 ·intro b l;refine .inr ?_;cases hy:(mvT d e.out (e.out.keys 1 0)).get b with
  |none=>exact absurd hy l
  |some y=>
   obtain ⟨k,x,rfl,_,_,h3,h4⟩:=t b y hy;exact ⟨by show e.nx+d≤k+d;omega,by show k+d<e.nx'+d;omega⟩
 ·intro k arr hk;rcases q4.imm k arr hk with h|h|⟨b0,ch,h,_⟩
  ·exact .inl h
  ·exact .inr (.inl h)
  ·cases h
end Go.AE

