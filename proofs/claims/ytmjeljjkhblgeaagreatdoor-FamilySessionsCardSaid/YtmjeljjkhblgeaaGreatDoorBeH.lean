/- What is proved here: an evaluator of the model's steps that the kernel can run, and that whatever it answers is what the model does (part 8 of 8: AeVc1, AeVc2, AeVc3, AeDec1, AeDec2, AeDec3, AeDec4, AeDec5, AeShort, AeGlob). Conditions: those that each theorem states; they hold of no one program. -/
import Derived.Test.YtmjeljjkhblgeaaGreatDoorBeG
import Derived.JoinedCond
set_option linter.unusedVariables false
set_option linter.unusedSectionVars false
set_option linter.unusedSimpArgs false
namespace Go.AE
variable [Gl:Ax]
def Bz:Code→Option Nat
 |.region id _ _=>some id
 |.seq a b=>match Bz a with
  |some i=>some i
  |none=>Bz b
 |.cond _ a b=>match Bz a with
  |some i=>some i
  |none=>Bz b
 |.block _ b=>Bz b
 |.loop b=>Bz b
 |.scope b=>Bz b
 |_=>none
def Wz (keys:List Nat) (c:Code):Bool:=match Bz c with
 |some i=>KJ i keys
 |none=>false
def WE (keys:List Nat) (s:AS):Bool:=
 match s.cs,s.fr.mode,s.fr.todo with
 |[],.run,.code (.loop b)::_=>Wz keys b
 |[],.run,.inLoop b::_=>Wz keys b
 |_,_,_=>false
def Zj:AV→Option SB
 |.sb _ e=>some e
 |_=>none
def orE (a b:Option SB):Option SB:=match a with
 |some x=>some x
 |none=>b
def ask [U:Facts] (e:SB):Option SB:=match AC U.facts e with
 |none=>some e
 |some _=>none
def N0 [Facts] (i n:SE):Option SB:=orE (ask (.lss i (.c 0))) (ask (.lss i n))
def Lj [Facts] (a:List SE):List (SB×Bool)→Option SB
 |[]=>none
 | (e,_)::r=>orE (ask (e.inst a)) (Lj a r)
inductive TX where
 |ask (e:SB)
 |no
 |free
 deriving Inhabited
def Sc:Obs→Bool
 |[]=>true
 | (a,.bc true)::r=>a.isB&&Sc r
 |_=>false
def Qs [Facts]:Obs→Option SB
 |[]=>none
 | (a,_)::r=>orE (ask a) (Qs r)
def Qi:List AV→List AV→Bool
 |[],[]=>true
 |a::l,b::m=>(match a,b with
  |.func (.yield i) _ _,.func (.yield j) _ _=>Nat.beq i j
  |a,b=>Bi a b)&&Qi l m
 |_,_=>false
def TE:Option (List AV)→List AV→Bool
 |some l,m=>Qi l m
 |none,_=>true
def Nf [Facts] (E:Env) (f:FuncId) (args:List AV) (h:Aa):Option (List AV)→List Sm→TX
  |_,[]=>.free
  |g,s::r=>match Nat.beq s.f f&&TE g s.args with
    |true=>match Ns E s args h with
     | (a,h0)=>match AJ E s.pre 0 (F3 E s.pre h0 (DO s.args a ⟨.nil,.nil⟩)) h0 with
      | (m,c)=>match De (EY (GM m.v 0 s.nv) (Hd m.b 0 s.pre.length) s.args a) (DJ E (GM m.v 0 s.nv) (Hd m.b 0 s.pre.length) c s.pre (Hd m.b 0 s.pre.length)) with
        |some o=>match Sc o with
          |true=>match orE (Qs o) (Lj (GM m.v 0 s.nv) s.facts) with
            |some e=>.ask e
            |none=>match Nf E f args h (some s.args) r with
              |.free=>.no
              |x=>x
          |false=>Nf E f args h g r
        |none=>Nf E f args h g r
    |false=>Nf E f args h g r
def Sf [Facts] (E:Env) (f:FuncId) (args:List AV) (h:Aa) (l:List Sm):TX:=Nf E f args h none l
def Lo [Facts] (E:Env) (f:Nat):Ask→Aa→Option (Bool×AV×Aa):=fun a h=>match a with
 |.enter g args=>match Io E g args h with
  |some r=>some r
  |none=>match args.isEmpty,Sf E g args h E.sms with
   |true,.ask _=>none
   |true,.no=>none
   |_,_=>match BQ E g args .normal with
    |some fr=>ES E f fr.fn true {fr,cs:=[],h}
    |none=>none
 |.round l args=>match Fo l args h with
  |some fr=>ES E f fr.fn true {fr,cs:=[],h}
  |none=>none
def Hj [Facts] (h:Aa):AV→Option SB
 |.asl b _ n _=>match h.blk.get b with
  |some (.arr _ y)=>match Jl n y with
   |true=>none
   |false=>ask (.eql n (.lenL y))
  |_=>none
 |_=>none
def Pw [Facts] (E:Env) (ts:List TypeId) (args:List AV) (h:Aa):Option SB:=
 match ts,args with
 |t::_,[s,x]=>match E.desc t with
  |some (.slice e)=>match E.kinds e with
   |some a=>orE (orE (Hj h s) (Hj h x)) <| match QJ e a (EZ E e x (EZ E e s h)) s with
    |some (b,_,_)=>match US e a (EZ E e x (EZ E e s h)) b x with
     |some (_,m)=>orE (ask (.lss (.lenL b) (.c 1073741824))) (ask (.lss m (.c 1048576)))
     |none=>none
    |none=>none
   |none=>none
  |_=>none
 |_,_=>none
def Mh [Facts] (a:Bool):SE→List AV→Option SB
 |_,[]=>none
 |x,y::r=>match toI y with
  |some (_,b)=>match (match a with|true=>AC Facts.facts (.lss x b)|false=>AC Facts.facts (.lss b x)) with
   |some true=>Mh a b r
   |some false=>Mh a x r
   |none=>some (match a with|true=>.lss x b|false=>.lss b x)
  |none=>none
def ND [Facts] (b:Bool):List AV→Option SB
 |y::r=>match toI y with
  |some (_,a)=>Mh b a r
  |none=>none
 |[]=>none
def Qh [Facts] (E:Env) (t:TypeId) (k:AV):List Al→Option SB
 |[]=>none
 |e::r=>match eqK E t k e.key with
  |some true=>none
  |some false=>Qh E t k r
  |none=>Gv E 10000 t k e.key
def Qp [Facts] (E:Env) (t:TypeId) (m k:AV) (h:Aa):Option SB:=
 match IH E t,m with
 |some (d,e,a,b),.map r=>match R6 d e a b (h.blk.get r),OF a k with
  |some x,some f=>ask (.lss (.mIdx a x f) (.c 0))
  |_,_=>none
 |_,_=>none
def Sv [Facts] (n:SE):Option SE→Option SE→Option SB
 |some l,some u=>orE (ask (.lss l (.c 0))) (orE (ask (.lss u l)) (ask (.lss n u)))
 |_,_=>none
def TK [U:Facts] (e:SE):Nat→Nat→Option SB
 |0,_=>none
 |n+1,j=>match AC U.facts (.eql e (.c j)) with
  |some true=>none
  |some false=>TK e n (j+1)
  |none=>some (.eql e (.c j))
def GW [Facts] (n:Nat):AV→Option SB
 |.si _ e=>match Nat.ble n 64 with
  |true=>TK e n 0
  |false=>none
 |_=>none
def Ht [Facts] (n:Nat):Option AV→Option SB
 |some a=>GW n a
 |none=>none
def Tl [U:Facts] (E:Env) (t:TypeId) (d x:AV) (h:Aa):Option SB:=
 match E.desc t,d with
 |some (.slice e),.slice _ _ n _=>match OE e h x with
  |some y=>match AC U.facts (.lss (.lenL y) (.c n)) with
   |some true=>GW n (.si .i64 (.lenL y))
   |some false=>none
   |none=>some (.lss (.lenL y) (.c n))
  |none=>Hj h x
 |_,_=>none
def KY [Facts]:SE→Option SB
 |.strc _ _=>none
 |e=>ask (.lss (.lenS e) (.c 4611686018427387904))
def L5 (E:Env) (t:TypeId):Nat:=match E.desc t with
 |some (.array n _)=>n
 |_=>0
def Hk [Facts]:AV→Option SB
 |.nmap _ a=>ask a
 |.iface _ (.nmap _ a)=>ask a
 |_=>none
def Kp [Facts]:List AV→Option SB
 |[]=>none
 |a::r=>orE (Hk a) (Kp r)
def U8 [Facts] (tmps:T AV):Op→Option SB
 |.lookup _ m _ _=>Hk (Ah tmps m)
 |.mapUpdate _ m _ _=>Hk (Ah tmps m)
 |.mapEntry _ m _=>Hk (Ah tmps m)
 |.range _ x=>Hk (Ah tmps x)
 |.call c=>match c.callee with
  |.builtin .append=>none
  |.builtin _=>Kp (c.args.toList.map (Ah tmps))
  |.value _=>Kp (c.args.toList.map (Ah tmps))
  |_=>none
 |_=>none
def UF [Facts] (E:Env) (tmps:T AV) (h:Aa) (g:Op):Option SB:=
 match g with
 |.pick c _ _=>Zj (Ah tmps c)
 |.binOp .add _ x y _=>match Od (Ah tmps x),Od (Ah tmps y) with
  |some a,some b=>orE (KY a) (KY b)
  |_,_=>none
 |.binOp _ _ x y _=>match Ah tmps x,Ah tmps y with
  |.sb _ a,.sb _ b=>orE (ask a) (ask b)
  |_,.si _ b=>ask (.eql b (.c 0))
  |_,_=>none
 |.makeSlice _ l _=>match Ah tmps l with
  |.si _ n=>orE (ask (.lss n (.c 0))) (ask (.lss n (.c 1048577)))
  |_=>none
 |.indexAddr _ x i=>match Ah tmps x,toI (Ah tmps i) with
  |.dat _ y,some (_,j)=>N0 j (.lenL (B1 y))
  |.asl _ _ n _,some (_,j)=>N0 j n
  |.slice _ _ n _,_=>GW n (Ah tmps i)
  |.ptr _ _,_=>match g with
   |.indexAddr t _ _=>GW (L5 E t) (Ah tmps i)
   |_=>none
  |_,_=>none
 |.load _ a=>match Ah tmps a with
  |.aptr b _ i _=>match h.blk.get b with
   |some (.arr _ y)=>N0 i (.lenL (B1 y))
   |_=>none
  |_=>none
 |.store _ a _=>match Ah tmps a with
  |.aptr b _ i _=>match h.blk.get b with
   |some (.arr _ y)=>N0 i (.lenL (B1 y))
   |_=>none
  |_=>none
 |.index _ x i=>match Ah tmps x,toI (Ah tmps i) with
  |.ss y,some (_,j)=>N0 j (.lenS y)
  |.agg _,_=>match g with
   |.index t _ _=>GW (L5 E t) (Ah tmps i)
   |_=>none
  |_,_=>none
 |.convert _ _ x=>Hj h (Ah tmps x)
 |.slice _ x lo hi _=>match Ah tmps x with
  |.dat _ y=>Sv (.lenL y) (FY (.c 0) (AW tmps lo)) (FY (.lenL y) (AW tmps hi))
  |.ss y=>Sv (.lenS y) (FY (.c 0) (AW tmps lo)) (FY (.lenS y) (AW tmps hi))
  |.asl b o n p=>orE (Hj h (.asl b o n p)) (match h.blk.get b with
   |some (.arr _ y)=>Sv (.lenL y) (FY (.c 0) (AW tmps lo)) (FY (.lenL y) (AW tmps hi))
   |_=>none)
  |.slice _ _ n _=>orE (Ht (n+1) (AW tmps lo)) (Ht (n+1) (AW tmps hi))
  |.ptr _ _=>match g with
   |.slice t _ _ _ _=>orE (Ht (L5 E t+1) (AW tmps lo)) (Ht (L5 E t+1) (AW tmps hi))
   |_=>none
  |_=>none
 |.lookup t m k _=>match E.desc t,Ah tmps m with
  |some (.map q _),.map r=>match h.blk.get r with
   |some (.map o _)=>Qh E q (Ah tmps k) o
   |some (.dmap _ _ _)=>Qp E t (Ah tmps m) (Ah tmps k) h
   |_=>none
  |_,_=>none
 |.mapUpdate t m k _=>match MI (Ah tmps k)||VG (QC h (Ah tmps m)) with
  |true=>Qp E t (Ah tmps m) (Ah tmps k) h
  |false=>none
 |.mapEntry t m k=>match MI (Ah tmps k)||VG (QC h (Ah tmps m)) with
  |true=>Qp E t (Ah tmps m) (Ah tmps k) h
  |false=>none
 |.call c=>match c.callee with
  |.builtin .max=>ND true (c.args.toList.map (Ah tmps))
  |.builtin .min=>ND false (c.args.toList.map (Ah tmps))
  |.builtin .delete=>match c.argTypes.toList,c.args.toList.map (Ah tmps) with
   |t::_,[m,k]=>match Jb E t m k h with
    |some _=>none
    |none=>Qp E t m k h
   |_,_=>none
  |.builtin .copy=>match c.argTypes.toList,c.args.toList.map (Ah tmps) with
   |t::_,[d,x]=>match Qj E t d x h with
    |some _=>none
    |none=>Tl E t d x h
   |_,_=>none
  |.builtin .append=>Pw E c.argTypes.toList (c.args.toList.map (Ah tmps)) h
  |.builtin _=>none
  |_=>match aop E tmps h g with
   |.enter f args _=>match Sf E f args h E.sms with
    |.ask e=>some e
    |_=>none
   |_=>none
 |_=>none
def ca [Facts] (E:Env) (tmps:T AV) (h:Aa) (a:Op):Option SB:=orE (U8 tmps a) (UF E tmps h a)
def Uj [Facts] (E:Env) (s:AS):TX:=
 match E.sms.isEmpty with
 |true=>.free
 |false=>match s.fr.mode,s.fr.todo with
  |.run,.ops all (o::_)::_=>match Ky o.op with
   |true=>.free
   |false=>match A3 all o s.fr.tmps with
    |some true=>match aop E s.fr.tmps s.h o.op with
     |.enter f args _=>Sf E f args s.h E.sms
     |_=>.free
    |_=>.free
  |.run,.code (.rangeFunc f params assign body)::k=>match Do E s f params.toList assign body k with
   |some (g,args,a,_)=>Sf E g args a E.sms
   |none=>.free
  |_,_=>.free
def R7 (all:Array Oper) (o:Oper) (tmps:T AV):Option SB:=match o.guard with
 |some (j,_)=>match all.toList[j]? with
  |some g=>match g.dst with
   |some d=>match tmps.get d with
    |some v=>Zj v
    |none=>none
   |none=>none
  |none=>none
 |none=>none
def Wv [Facts] (E:Env) (all:Array Oper) (o:Oper) (tmps:T AV) (h:Aa):Option SB:=
 match A3 all o tmps with
 |none=>R7 all o tmps
 |some _=>ca E tmps h o.op
mutual
def Qk [Facts] (E:Env):Nat→AS→Option SB
 |0,_=>none
 |n+1,s=>match s.fr.todo with
  |.code (.cond c _ _)::_=>Zj (Ah s.fr.tmps c)
  |.ops all (o::_)::_=>Wv E all o s.fr.tmps s.h
  |.code (.region _ ops true)::_=>On E n ops s.fr.nt ops.toList [] s.fr.tmps s.h
  |_=>none
def Jc [Facts] (E:Env):Nat→AS→Option SB
 |0,_=>none
 |n+1,s=>match Ou E s with
  |some i=>Jc E n i
  |none=>match Uj E s with
   |.ask e=>some e
   |.no=>none
   |.free=>match AU E s with
    |.next i=>Jc E n i
    |.draw s ops k=>match Bt E (Lo E n) ops s.fr.nt ops.toList [] s.fr.tmps s.h with
     |some (none,tmps,h)=>Jc E n {s with fr:={s.fr with tmps,todo:=k},h}
     |_=>Qk E n s
    |_=>Qk E n s
def On [Facts] (E:Env):Nat→Array Oper→Nat→List Oper→List Rc→T AV→Aa→Option SB
 |0,_,_,_,_,_,_=>none
 |_+1,_,_,[],_,_,_=>none
 |n+1,all,nt,o::rest,b,tmps,h=>match CE E (Lo E n) all o (AO tmps (A4 all o)) h with
  |some d=>match DE nt tmps o.dst d.v with
   |some a=>On E n all nt rest b a (AN h d.g)
   |none=>none
  |none=>match Wv E all o (AO tmps (A4 all o)) h with
   |some e=>some e
   |none=>match aop E tmps h o.op with
    |.enter f args _=>match Sf E f args h E.sms with
     |.ask e=>some e
     |.no=>none
     |.free=>match BQ E f args .normal with
      |some fr=>Jc E n {fr,cs:=[],h}
      |none=>none
    |_=>none
end
inductive VK where
 |cut (F:List (SB×Bool)) (s:AS)
 |done (F:List (SB×Bool)) (v:AV) (h:Aa)
 |stuck (F:List (SB×Bool))
 deriving Inhabited
def BO (V:Val) (F:List (SB×Bool)):Prop:=∀e b,(e,b)∈F→Ai V e=b
def Bm (ρ:Ren) (n:Nat):Prop:=∀b,n≤b→ρ b=none
@[reducible] def A5 (v:Vals) (F:List (SB×Bool)) (h:BO v.V F):Unk:={facts:=F,toVals:=v,ok:=h}
theorem Bm.ext [v:Vals] {ρ i:Ren} {h h':Aa} {w j:World} (l:Bm ρ h.nx) (e:Ext ρ i h h' w j):Bm i h'.nx:=by
 intro b t;have:=e.nx;cases r:i b with
 |none=>rfl
 |some base=>
  rcases e.new b base r with q|⟨_,q,_⟩
  ·rw [l b (by omega)] at q;cases q
  ·omega
def VK.Good [v:Vals] (P:Program) (t:Ren) (s:AS) (c:Frame) (l:List Frame) (w:World) (base:List Frame):VK→Prop
 |.cut F r=>BO v.V F∧r.cs=[]∧∃j C i,Steps P (lone c (l++base) w) (lone C base i)∧SR j r C [] i∧Ext t j s.h r.h w i
 |.done F x h=>BO v.V F∧∃j I J w1 i,Steps P (lone c (l++base) w) (lone I base w1)∧IY P I w1 true J i∧VR j x J∧HR j h.blk.get i∧Ext t j s.h h w i
 |.stuck F=>BO v.V F
theorem VK.Good.pre [v:Vals] {P:Program} {ρ σ:Ren} {s s':AS} {c c':Frame} {j i:List Frame} {w r:World} {base:List Frame} {l:VK} (hs:Steps P (lone c (j++base) w) (lone c' (i++base) r)) (he:Ext ρ σ s.h s'.h w r) (hf:Bm ρ s.h.nx)
  (h:l.Good P σ s' c' i r base):l.Good P ρ s c j w base:=by
 cases l with
 |cut F s2=>
  obtain ⟨t,h2,C,c2,w2,I,J,q3⟩:=h;exact ⟨t,h2,C,c2,w2,Steps.trans hs I,J,he.trans q3 (fun b hb _=>hf b hb)⟩
 |done F x h2=>
  obtain ⟨t,C,cf,v',w1,w2,I,J,q3,q4,q5⟩:=h;exact ⟨t,C,cf,v',w1,w2,Steps.trans hs I,J,q3,q4,he.trans q5 (fun b hb _=>hf b hb)⟩
 |stuck F=>exact h
theorem M4 {U:Unk} {E:Env} (hE:OK E) (hO:Ad E U.V.fn) (n:Nat):Dx E (Lo E n):=by
 have q:∀(fr:AF) (g d:Aa) (ok:Bool) (v:AV) (e:Ren) (i:Frame) (w:World),FrR e fr i→HR e g.blk.get w→WF g→ES E n fr.fn true {fr,cs:=[],h:=g}=some (ok,v,d)→AA e g.nx d.nx→
   ∀(c0:Frame) (base:List Frame),∃j m k,BM E.P (lone i (c0::base) w) c0 base ok m k∧VR j v m∧HR j d.blk.get k∧Ext e j g d w k:=by
  intro fr g d ok v e i w c hr hwf b a c0 base;obtain ⟨j,t,m,w1,k,u,B,C,x,y,z,A⟩:=SP hE hO n fr.fn true {fr,cs:=[],h:=g} e i [] w ok v d ⟨c,.nil,hr⟩ hwf b a (c0::base);refine ⟨j,m,k,?_,y,z,A⟩;have:=Steps.trans u (Steps.one (x.back c0 base));cases ok<;>exact this
 refine ⟨?_,?_⟩
 ·intro D args o g d ok v e w s hr hwf b a;simp only [Lo] at b;split at b
  ·rename_i r f;cases b;exact DC hE hO f s hr hwf a
  ·split at b
   ·cases b
   ·cases b
   ·split at b
    ·rename_i fr c;exact q fr g d ok v e _ w (Cq hE c s) hr hwf b a
    ·cases b
 ·intro l args g d ok v e w hr hwf b a;simp only [Lo] at b;split at b
  ·rename_i fr c;exact ⟨fr,c,fun i p=>q fr g d ok v e i w p hr hwf b a⟩
  ·cases b
end Go.AE
namespace Go.AE
variable [Gl:Ax]
instance adLit {n:Nat}:OfNat AD n:=⟨{fn:=none,coll:=n,captured:=[],args:=[]}⟩
structure Cut where
 key:Option Nat
 fn:FuncId
 nt:Nat
 nv:Nat
 todo:List AI
 tmps:T AV
 pre:List (Option Ab)
 facts:List (SB×Bool)
 res:AV
 post:List (Option Ab)
 ent:Nat:=0
 defs:List AD:=[]
 deriving Inhabited
def My (l:List AD):List AD:=l
def Wu (c:List SE) (b:List Nat) (d a:AD):Bool:=
 match d.fn,a.fn with
 |none,none=>toB b d.coll a.coll
 |some f,some g=>V8 b f g&&MU (EY c b d.captured a.captured)&&MU (EY c b d.args a.args)
 |_,_=>false
def MM (b:List SE) (c:List Nat):List AD→List AD→Bool
 |[],[]=>true
 |d::r,a::l=>Wu b c d a&&MM b c r l
 |_,_=>false
def SJ:List (Option Ab)→Nat→Nat→T Nat→T Nat
 |some _::r,i,n+1,t=>SJ r (i+1) n (t.set i i)
 |none::r,i,n+1,t=>SJ r (i+1) n t
 |_,_,_,t=>t
def Cut.fr (c:Cut):AF:={fn:=c.fn,nt:=c.nt,tmps:=c.tmps,todo:=c.todo,defers:=My c.defs,mode:=.run,kind:=.normal,round:=none}
def Cut.h (c:Cut):Aa:={blk:=AZ c.pre,nx:=c.pre.length,log:=[]}
def Cut.st (c:Cut):AS:={fr:=c.fr,cs:=[],h:=c.h}
def Cut.h' (c:Cut):Aa:={blk:=AZ c.post,nx:=c.post.length,log:=List.range c.pre.length}
def VI (d a:AD) (m:Bd):Bd:=
 match d.fn with
 |none=>m.blk d.coll a.coll
 |some _=>DO d.args a.args (DO d.captured a.captured m)
def Om:List AD→List AD→Bd→Bd
 |d::r,a::l,m=>Om r l (VI d a m)
 |_,_,m=>m
def Oi (c:Cut) (s:AS):Bd:=Om c.defs s.fr.defers (Nl c.tmps s.fr.tmps ⟨.nil,SJ c.pre 0 c.ent .nil⟩)
structure VC where
 F:List (SB×Bool)
 obs:Obs
 rec_:Option (Nat×List SE×List AI)
 deriving Inhabited
def idT:Nat→T Nat→T Nat
 |0,t=>t
 |n+1,t=>idT n (t.set n n)
def Qq:Nat→Nat→List Nat→Bool
 |_,0,_=>true
 |i,n+1,b::r=>Nat.beq b i&&Qq (i+1) n r
 |_,_+1,[]=>false
def Mo:List (Option Ab)→Bool
 |[]=>true
 |some _::r=>Mo r
 |none::_=>false
def Qe [Facts] (E:Env) (c:Cut) (v:AV) (h:Aa):Option Obs:=
 match AJ E c.post 0 (F3 E c.post h (E9 c.res v ⟨.nil,idT c.pre.length .nil⟩)) h with
 | (m,d)=>
  let a:=Hd m.b 0 c.post.length
  Dc (Qq 0 c.pre.length a&&(EJ c.post a&&Mo (c.post.drop c.pre.length))&&Nat.ble c.pre.length c.post.length) (De (Ck [] a c.res v) (DJ E [] a d c.post a))
def P0:List AI→Bool
 |[]=>true
 |.inRange _::_=>false
 |.endRange _::_=>false
 |.rest::_=>false
 |.dead::_=>false
 |.beginRound::_=>false
 |_::r=>P0 r
def F8.isRun:F8→Bool
 |.run=>true
 |_=>false
def S8:CallKind→Bool
 |.normal=>true
 |_=>false
def HA (a:List SE):List (SB×Bool)→Obs
 |[]=>[]
 | (e,b)::r=>(e.inst a,.bc b)::HA a r
def Ti [Facts] (E:Env) (c:Cut) (s:AS):Option (List SE×AV×Aa×Obs):=
 match AJ E c.pre 0 (F3 E c.pre s.h (Oi c s)) s.h with
 | (m,d)=>
  let e:=GM m.v 0 c.nv
  let a:=Hd m.b 0 c.pre.length
  match Ee a&&K8 d.nx a&&Nat.ble c.pre.length c.post.length&&Nat.beq s.fr.fn c.fn&&Nat.beq s.fr.nt c.nt&&MM e a c.defs s.fr.defers&&s.fr.mode.isRun&&S8 s.fr.kind&&s.fr.round.isNone&&P0 s.fr.todo with
  |true=>match De (leT e a c.tmps s.fr.tmps) (DJ E e a d c.pre a),Dl e (a++CI d.nx (c.post.length-c.pre.length)) c.post (a++CI d.nx (c.post.length-c.pre.length)) d.blk with
   |some o,some t=>some (e,c.res.inst e (a++CI d.nx (c.post.length-c.pre.length)),{blk:=t,nx:=d.nx+(c.post.length-c.pre.length),log:=a++d.log},o++HA e c.facts)
   |_,_=>none
  |false=>none
theorem Ks:∀{l:List (Option Ab)},Mo l=true→∀i,i<l.length→∃x,l[i]?=some (some x)
 |[],_,i,h=>by simp at h
 |some x::r,h,i,hi=>by
  cases i with
  |zero=>exact ⟨x,rfl⟩
  |succ i=>simpa using Ks (l:=r) h i (by simpa using hi)
 |none::_,h,_,_=>by cases h
theorem Nh:∀(n i:Nat) (l:List Nat),Qq i n l=true→∀j,j<n→l[j]?=some (i+j)
 |0,i,l,h,j,a=>by omega
 |n+1,i,[],h,j,a=>by cases h
 |n+1,i,b::r,h,j,a=>by
  simp only [Qq,Bool.and_eq_true] at h;cases j with
  |zero=>simp [Nat.eq_of_beq_eq_true h.1]
  |succ j=>
   have:=Nh n (i+1) r h.2 j (by omega)
   simp only [List.getElem?_cons_succ,this]
   congr 1;omega
theorem JA {V:Val} {d:List SE}:∀{l:List (SB×Bool)},(HA d l).holds V→BO (V.inst d) l
 |[],h,e,b,f=>by cases f
 | (x,c)::r,h,e,b,f=>by
  rcases List.mem_cons.1 f with q|q
  ·cases q;have:=h (x.inst d) (.bc c) (by simp [HA])
   unfold Ai;rw [←BK,this];rfl
  ·exact JA (fun a g h'=>h a g (by simp [HA,h'])) e b q
theorem NL {v u:Vals} {ρ c:Ren}:∀{l:List AI} {b:List Item},P0 l=true→@IL v ρ l b→@IL u c l b
 |[],b,h,hi=>by cases hi;exact .nil
 |a::r,b,h,hi=>by
  cases hi with
  |cons d hr=>
   cases d<;>simp only [P0,Bool.false_eq_true] at h<;>first | (cases h;done)|skip
   all_goals exact .cons (by constructor<;>assumption) (NL h hr)
  |rest=>cases h
theorem K3 {U W:Unk} {q:List SE} (hV:W.V=U.V.inst q) (hK:W.K=U.K) {s:List Nat} {ρ:Ren}:∀{t:List AD} {l:List AD} {k:List Deferred},MM q s t l=true→@DL U.toVals ρ l k→@DL W.toVals (ρ.back s) (My t) k
 |[],[],[],_,_=>trivial
 |[],[],_::_,_,h=>h.elim
 |d::r,a::l,[],_,h=>h.elim
 |d::r,a::l,D::k,h,u=>by
  simp only [MM,Bool.and_eq_true] at h;obtain ⟨b,v⟩:=h;refine ⟨?_,K3 hV hK v u.2⟩;have e:=u.1;unfold DR at e ⊢;unfold Wu at b;cases j:d.fn with
  |none=>
   cases c:a.fn with
   |none=>
    rw [j,c] at b;rw [c] at e;obtain ⟨i,m,n⟩:=e;exact ⟨i,by rw [Ed b];exact m,n⟩
   |some g=>rw [j,c] at b;cases b
  |some f=>
   cases c:a.fn with
   |none=>rw [j,c] at b;cases b
   |some g=>
    rw [j,c] at b;rw [c] at e;simp only [Bool.and_eq_true] at b;obtain ⟨⟨w,x⟩,y⟩:=b;obtain ⟨o,z,A,m,n,B,C⟩:=e;exact ⟨o,z,A,P7 hV hK w m,C3 hV hK _ _ _ _ (Lb x) (fun _ _ p=>by cases p) n,C3 hV hK _ _ _ _ (Lb y) (fun _ _ p=>by cases p) B,C⟩
 |[],_::_,_,h,_=>by cases h
 |_::_,[],_,h,_=>by cases h
section
variable {E:Env} {G:Nat→D→D} (hE:∀[U:Unk],U.K=(Env.of E.P).kinds→OK E) {v:Vals} (hK:v.K=(Env.of E.P).kinds)
include hE hK
theorem SV {F:List (SB×Bool)} (l:BO v.V F) {c:Cut} {x:AV} {Y:Value} {h:Aa} {T A:Ren} {w O:World} {o:Obs} (u:@Qe ⟨F⟩ E c x h=some o) (ho:o.holds v.V) (hv:VR A x Y) (hr:HR A h.blk.get O) (hwf:WF h) (he:Ext T A c.h h w O) (B:Bm T c.pre.length) :
  ∃Z,VR Z c.res Y∧HR Z c.h'.blk.get O∧Ext T Z c.h c.h' w O:=by
 have aa:@OK _ (A5 v F l) E:=hE (U:=A5 v F l) hK;have H:Bm A h.nx:=Bm.ext (h:=c.h) B he;unfold Qe at u;split at u;rename_i m h1 ab;obtain ⟨hc,u⟩:=AR u;obtain ⟨o1,o2,ac,Q,rfl⟩:=Bv u;obtain ⟨ad,R⟩:=Obs.append ho;generalize ai:Hd m.b 0 c.post.length=N at *;have e2:(@AJ ⟨F⟩ E c.post 0 (@F3 ⟨F⟩ E c.post h (E9 c.res x ⟨.nil,idT c.pre.length .nil⟩)) h).2=h1:=by rw [ab]
 obtain ⟨q1,q2,q3⟩:=Bb (U:=A5 v F l) (E:=E) c.post 0 (@F3 ⟨F⟩ E c.post h (E9 c.res x ⟨.nil,idT c.pre.length .nil⟩)) h hr hwf (fun b b1 _=>H b b1)
 rw [e2] at q1 q2 q3;have g:Ext T A c.h h1 w O:=he.trans q2 (fun b n _=>B b n)
 simp only [Bool.and_eq_true] at hc;obtain ⟨⟨I,ae,S⟩,p⟩:=hc;have I:=Nh _ _ _ I;have p:c.pre.length≤c.post.length:=Nat.le_of_ble_eq_true p;have hV:(A5 v F l).V=(A5 v F l).V.inst []:=rfl;have p1:=FV (U:=A5 v F l) (W:=A5 v F l) hV rfl c.res x o1 Y ac ad hv;have p2:=HR.toPatL (U:=A5 v F l) (W:=A5 v F l) hV rfl aa q1 Q R ae;obtain ⟨l1,l2⟩:=CG (U:=A5 v F l) (W:=A5 v F l) hV rfl c.post N o2 Q R;have i:∀j,j<c.pre.length→N[j]?=some j:=fun j hj=>by have:=I j hj;simpa using this
 refine ⟨A.back N,p1,p2,⟨⟨fun b e n=>?_,fun k a hk=>g.le.imm k a hk⟩,p,fun b e n=>?_,g.calm,g.kept,⟨List.range c.pre.length,by simp [Cut.h',Cut.h],fun b n hr=>?_⟩,fun b n=>?_,g.imm⟩⟩
 ·have J:b<c.pre.length:=by
   rcases Nat.lt_or_ge b c.pre.length with q|q
   ·exact q
   ·rw [B b q] at n;cases n
  show (N[b]?).bind A.m=some e;rw [i b J];exact g.le.m b e n
 ·have C:(N[b]?).bind A.m=some e:=n;cases f:N[b]? with
  |none=>rw [f] at C;cases C
  |some d=>
   rw [f] at C;have L:A d=some e:=C;rcases g.new d e L with q|⟨M,X,a3⟩
   ·have J:d<c.pre.length:=by
     rcases Nat.lt_or_ge d c.pre.length with s|s
     ·exact s
     ·rw [B d s] at q;cases q
    rcases Nat.lt_or_ge b c.pre.length with s|s
    ·rw [i b s] at f;cases f;exact .inl q
    ·have aj:=(List.getElem?_eq_some_iff.1 f).1;have af:b<c.post.length:=by omega
     obtain ⟨y,hy⟩:=Ks S (b-c.pre.length) (by simp;omega)
     rw [List.getElem?_drop,show c.pre.length+(b-c.pre.length)=b by omega] at hy
     obtain ⟨d',z,_,M,X,_,_⟩:=l2 b y hy;rw [f] at M;cases M;refine .inr ⟨s,af,.inr ⟨d,e,q,?_,rfl⟩⟩;rcases g.live d (by rw [X];exact Option.some_ne_none _) with r|⟨r,_⟩
     ·exact r
     ·have:c.pre.length≤d:=r;omega
   ·have ag:c.pre.length≤b:=by
     rcases Nat.lt_or_ge b c.pre.length with s|s
     ·rw [i b s] at f;cases f;have:c.pre.length≤b:=M;omega
     ·exact s
    have J:=(List.getElem?_eq_some_iff.1 f).1;exact .inr ⟨ag,by show b<c.post.length;omega,a3⟩
 ·have ah:c.pre.length≤b:=by
   rcases Nat.lt_or_ge b c.pre.length with q|q
   ·exact absurd (List.mem_range.2 q) n
   ·exact q
  have L:c.post.length≤b:=by
   rcases hr with q|q
   ·have:b<c.pre.length:=q;omega
   ·exact q
  show (AZ c.post).get b=(AZ c.pre).get b;rw [BX,BX,List.getElem?_eq_none L,List.getElem?_eq_none ah]
 ·have t:(AZ c.post).get b≠none:=n;rw [BX] at t;cases u:c.post[b]? with
  |none=>rw [u] at t;exact absurd rfl t
  |some ox=>
   cases ox with
   |none=>rw [u] at t;exact absurd rfl t
   |some y=>
    obtain ⟨d,z,_,M,X,_,_⟩:=l2 b y u;rcases Nat.lt_or_ge b c.pre.length with q|q
    ·rw [i b q] at M;cases M;rcases g.live b (by rw [X];exact Option.some_ne_none _) with r|⟨r,_⟩
     ·exact .inl r
     ·have:c.pre.length≤b:=r;omega
    ·exact .inr ⟨q,(List.getElem?_eq_some_iff.1 u).1⟩
end
end Go.AE
namespace Go.AE
variable [Gl:Ax]
structure VC.Holds (G:Nat→D→D) (Pre:Nat→Val→Prop) (μ:Nat→Val→Nat) (i:Nat) (V:Val) (vc:VC):Prop where
 obs:vc.obs.holds V
 rec_:∀j θ td,vc.rec_=some (j,θ,td)→Pre j (V.inst θ)∧μ j (V.inst θ)<μ i V
theorem H9 (l:List (Option Ab)) (n:List Nat):WF {blk:=AZ l,nx:=l.length,log:=n}:=by
 intro b a;show (AZ l).get b=none;rw [BX,List.getElem?_eq_none a];rfl
def Cut.sm (c:Cut) (args:List AV):Sm:={f:=c.fn,nv:=c.nv,args,pre:=c.pre,facts:=c.facts,res:=c.res,post:=c.post}
def Jp (E:Env) (f:FuncId) (args:List AV):AF:=match BQ E f args .normal with
 |some fr=>fr
 |none=>default
end Go.AE
namespace Go.AE
variable [Gl:Ax]
inductive Tr (α:Type) where
 |leaf (a:α)
 |split (e:SB) (t f:Tr α)
 deriving Inhabited
inductive Lf where
 |cut (s:AS)
 |done (ok:Bool) (v:AV) (h:Aa)
 |stuck
 deriving Inhabited
def Lf.Good [v:Vals] (P:Program) (f0:FuncId) (C:Ren) (s:AS) (c:Frame) (l:List Frame) (w:World) (base:List Frame) (F:List (SB×Bool)):Lf→Prop
 |.cut t=>BO v.V F∧t.cs=[]∧∃j I i,Steps P (lone c (l++base) w) (lone I base i)∧SR j t I [] i∧Ext C j s.h t.h w i
 |.done ok x h=>BO v.V F∧∃j r J w1 i,Steps P (lone c (l++base) w) (lone r base w1)∧r.fn=f0∧r.roundOf=none∧IY P r w1 ok J i∧VR j x J∧HR j h.blk.get i∧Ext C j s.h h w i
 |.stuck=>BO v.V F
theorem Lf.Good.pre [v:Vals] {P:Program} {f0:FuncId} {ρ σ:Ren} {s s':AS} {c c':Frame} {j i:List Frame} {w r:World} {base:List Frame} {F:List (SB×Bool)} {l:Lf} (hs:Steps P (lone c (j++base) w) (lone c' (i++base) r)) (he:Ext ρ σ s.h s'.h w r) (hf:Bm ρ s.h.nx)
  (h:l.Good P f0 σ s' c' i r base F):l.Good P f0 ρ s c j w base F:=by
 cases l with
 |cut s2=>
  obtain ⟨t,h2,C,c2,w2,I,J,q3⟩:=h;exact ⟨t,h2,C,c2,w2,Steps.trans hs I,J,he.trans q3 (fun b hb _=>hf b hb)⟩
 |done ok x h2=>
  obtain ⟨t,C,cf,v',w1,w2,I,J,q3,q4,q5,q6,q7⟩:=h;exact ⟨t,C,cf,v',w1,w2,Steps.trans hs I,J,q3,q4,q5,q6,he.trans q7 (fun b hb _=>hf b hb)⟩
 |stuck=>exact h
def NS (e:SB):Option (Tr Lf)→Option (Tr Lf)→Option (Tr Lf)
 |some a,some b=>some (.split e a b)
 |_,_=>none
def Tr.way {i:Type} (V:Val):Tr i→List (SB×Bool)→i×List (SB×Bool)
 |.leaf a,F=>(a,F)
 |.split e t f,F=>match Ai V e with
  |true=>t.way V ((e,true)::F)
  |false=>f.way V ((e,false)::F)
def Tr.get {i:Type} (V:Val):Tr i→i
 |.leaf a=>a
 |.split e t f=>match Ai V e with
  |true=>t.get V
  |false=>f.get V
def WI (keys:List Nat) (s:AS):Bool:=
 match s.cs,s.fr.mode,s.fr.todo with
 |[],.run,.code (.region id _ _)::_=>KJ (id+1000000) keys
 |_,_,_=>false
def F4 (E:Env) (keys:List Nat) (a:FuncId):Nat→List (SB×Bool)→AS→Option (Tr Lf)
 |0,_,_=>none
 |n+1,F,s=>
  let part (_:Unit):Option (Tr Lf):=match @Qk ⟨F⟩ E n s with
   |some e=>match AC F e with
    |none=>NS e (F4 E keys a n ((e,true)::F) s) (F4 E keys a n ((e,false)::F) s)
    |some _=>some (.leaf .stuck)
   |none=>some (.leaf .stuck)
  match @Ou ⟨F⟩ E s with
  |some c=>F4 E keys a n F c
  |none=>match @Uj ⟨F⟩ E s with
  |.ask e=>NS e (F4 E keys a n ((e,true)::F) s) (F4 E keys a n ((e,false)::F) s)
  |.no=>some (.leaf .stuck)
  |.free=>match @AU ⟨F⟩ E s with
   |.next c=>match WE keys s with
    |true=>some (.leaf (.cut c))
    |false=>match WI keys c with
     |true=>some (.leaf (.cut c))
     |false=>F4 E keys a n F c
   |.done ok v h=>match s.fr.round.isNone&&Nat.beq s.fr.fn a with
    |true=>some (.leaf (.done ok v h))
    |false=>some (.leaf .stuck)
   |.draw b ops k=>match @Bt ⟨F⟩ E (@Lo ⟨F⟩ E n) ops b.fr.nt ops.toList [] b.fr.tmps b.h with
    |some (none,tmps,h)=>F4 E keys a n F {b with fr:={b.fr with tmps,todo:=k},h}
    |some (some v,tmps,h)=>F4 E keys a n F {b with fr:={b.fr with tmps,todo:=.dead::k,mode:=.panic [(v,false)]},h}
    |none=>part ()
   |.bad _=>part ()
theorem UZ {E:Env} {keys:List Nat} {R:FuncId} {G:Nat→D→D} (hE:∀[U:Unk],U.K=(Env.of E.P).kinds→OK E) (hO:Ad E G) [v:Vals] (hK:v.K=(Env.of E.P).kinds) (hG:v.V.fn=G) (base:List Frame) :
  ∀(n:Nat) (F:List (SB×Bool)) (s:AS) (t:Tr Lf),F4 E keys R n F s=some t→BO v.V F→∀(z:Ren) (c:Frame) (f:List Frame) (w:World),SR z s c f w→WF s.h→Bm z s.h.nx→(t.way v.V F).1.Good E.P R z s c f w base (t.way v.V F).2:=by
 subst hG;intro n
 induction n with
 |zero=>intro F s t h;cases h
 |succ n ih=>
  intro F s t j i z c f w l hwf A;have r:@OK _ (A5 v F i) E:=hE (U:=A5 v F i) hK;have S:∀m,AA z s.h.nx m:=fun m b Y _=>A b Y
  simp only [F4] at j
  generalize g:(match @Qk ⟨F⟩ E n s with
   |some e=>match AC F e with
    |none=>NS e (F4 E keys R n ((e,true)::F) s) (F4 E keys R n ((e,false)::F) s)
    |some _=>some (.leaf .stuck)
   |none=>some (.leaf .stuck))=pt at j
  have B:∀e,NS e (F4 E keys R n ((e,true)::F) s) (F4 E keys R n ((e,false)::F) s)=some t→(t.way v.V F).1.Good E.P R z s c f w base (t.way v.V F).2:=by
   intro e W;unfold NS at W;split at W
   ·rename_i a b ha Y;cases W;simp only [Tr.way];cases he:Ai v.V e with
    |true=>
     exact ih _ _ _ ha (fun e' b' X=>by
      rcases List.mem_cons.1 X with q|q
      ·cases q;exact he
      ·exact i e' b' q) z c f w l hwf A
    |false=>
     exact ih _ _ _ Y (fun e' b' X=>by
      rcases List.mem_cons.1 X with q|q
      ·cases q;exact he
      ·exact i e' b' q) z c f w l hwf A
   ·cases W
  have Z:pt=some t→(t.way v.V F).1.Good E.P R z s c f w base (t.way v.V F).2:=by
   intro W;subst W;split at g
   ·rename_i e _;split at g
    ·exact B e g
    ·cases g;exact i
   ·cases g;exact i
  have go:∀(C:AS) (u:Ren) (T:Frame) (d:List Frame) (w1:World),Steps E.P (lone c (f++base) w) (lone T (d++base) w1)→SR u C T d w1→Ext z u s.h C.h w w1→F4 E keys R n F C=some t→(t.way v.V F).1.Good E.P R z s c f w base (t.way v.V F).2:=by
   intro C u T d w1 h1 h2 h3 h4;exact (ih F C t h4 i u T d w1 h2 (Ext.wf (U:=A5 v F i) h3 hwf) (A.ext h3)).pre h1 h3 A
  split at j
  ·rename_i C aa;obtain ⟨u,H,d,I,J,y,L⟩:=Jm (U:=A5 v F i) r hO l hwf aa (S _) base;exact go C u H d I J y L j
  split at j
  ·exact B _ j
  ·cases j;exact i
  ·split at j
   ·rename_i C o;obtain ⟨u,H,d,I,J,y,L⟩:=Fh (U:=A5 v F i) (base:=base) r l o (S _);split at j
    ·rename_i M;cases j
     have N:C.cs=[]:=by
      unfold WE at M;split at M
      ·rename_i e1 e2 e3;simp only [AU,e2,e3] at o;cases o;exact e1
      ·rename_i e1 e2 e3;simp only [AU,e2,e3] at o;cases o;exact e1
      ·cases M
     have O:d=[]:=by
      have:=y.cs;rw [N] at this;cases this;rfl
     subst O;exact ⟨i,N,u,H,I,Steps.one J,y,L⟩
    ·split at j
     ·rename_i Q;cases j
      have N:C.cs=[]:=by
       unfold WI at Q;split at Q
       ·assumption
       ·cases Q
      have O:d=[]:=by
       have:=y.cs;rw [N] at this;cases this;rfl
      subst O;exact ⟨i,N,u,H,I,Steps.one J,y,L⟩
     ·exact go C u H d I (Steps.one J) y L j
   ·rename_i ac v' h' o;split at j
    ·rename_i Y;cases j;obtain ⟨rfl,x,I,J,y,L,q4⟩:=GD (U:=A5 v F i) r l o;obtain ⟨b2,b3⟩:=Ao (U:=A5 v F i) Y;have p:=l.fr.round;rw [Option.isNone_iff_eq_none] at b2;rw [b2] at p
     have ab:c.roundOf=none:=by
      cases hz:c.roundOf with
      |none=>rfl
      |some=>rw [hz] at p;exact p.elim
     exact ⟨i,z,c,x,w,I,Steps.refl _ _,l.fr.fn.trans (As b3),ab,q4,J,y,L⟩
    ·cases j;exact i
   ·rename_i s2 ops k o;obtain ⟨rfl,X,id,ht⟩:=Cf (U:=A5 v F i) o;split at j
    ·rename_i tmps h1 hd;obtain ⟨u,T,I,J,y,L⟩:=EO (U:=A5 v F i) r (M4 (U:=A5 v F i) r hO n) l hwf X ht hd (S _) base;exact go _ u T f I J y L j
    ·rename_i tmps h1 hd;obtain ⟨u,T,I,J,y,L⟩:=EO (U:=A5 v F i) r (M4 (U:=A5 v F i) r hO n) l hwf X ht hd (S _) base;exact go _ u T f I J y L j
    ·exact Z j
   ·exact Z j
end Go.AE
namespace Go.AE
variable [Gl:Ax]
def SE.fits (n m:Nat):SE→Bool
 |.c _=>true
 |.var i=>Nat.blt i n
 |.lenS a=>a.fits n m
 |.lenL a=>a.fits n m
 |.arith _ _ a b=>a.fits n m&&b.fits n m
 |.conv _ a=>a.fits n m
 |.lss a b=>a.fits n m&&b.fits n m
 |.eql a b=>a.fits n m&&b.fits n m
 |.eqS a _ _=>a.fits n m
 |.eqSS a b=>a.fits n m&&b.fits n m
 |.isNil a=>a.fits n m
 |.bc _=>true
 |.neg a=>a.fits n m
 |.and a b=>a.fits n m&&b.fits n m
 |.nilIs a b=>a.fits n m&&b.fits n m
 |.strc _ _=>true
 |.strAt a b=>a.fits n m&&b.fits n m
 |.strCat a b=>a.fits n m&&b.fits n m
 |.strSub a b x=>a.fits n m&&b.fits n m&&x.fits n m
 |.cell a i _=>a.fits n m&&i.fits n m
 |.sel a _=>a.fits n m
 |.nilL=>true
 |.emptyL=>true
 |.snoc a r=>a.fits n m&&r.fits n m
 |.upd a i _ x=>a.fits n m&&i.fits n m&&x.fits n m
 |.rep a b=>a.fits n m&&b.fits n m
 |.cat a b=>a.fits n m&&b.fits n m
 |.sub a b x=>a.fits n m&&b.fits n m&&x.fits n m
 |.rnil=>true
 |.rcons a b=>a.fits n m&&b.fits n m
 |.app f a=>Nat.blt f m&&a.fits n m
 |.bytes a=>a.fits n m
 |.ofBytes a=>a.fits n m
 |.mIdx _ a k=>a.fits n m&&k.fits n m
 |.rmv a i=>a.fits n m&&i.fits n m
structure Val.Alike (n m:Nat) (V W:Val):Prop where
 d:∀i,i<n→V.d i=W.d i
 fn:∀i,i<m→V.fn i=W.fn i
theorem SE.fits_ok {n m:Nat} {V W:Val} (h:V.Alike n m W):∀e:SE,e.fits n m=true→Af V e=Af W e:=by
 intro e
 induction e<;>intro j<;>(try simp only [SE.fits,Bool.and_eq_true] at j)<;>simp only [Af]
 case var i=>exact h.d i (by simpa [Nat.blt_eq] using j)
 case app f x ih=>rw [ih j.2,h.fn f (by simpa [Nat.blt_eq] using j.1)]
 all_goals simp_all only [forall_const]
def xI (g:Nat) (st:SE):SE→Bool
 |.app b a=>Nat.beq g b&&st.same a
 |_=>false
def A2 (g:Nat) (st:SE) (f:Nat→SE):SE→SE
 |.sel a j=>match xI g st a with
  |true=>f j
  |false=>.sel (A2 g st f a) j
 |.c n=>.c n
 |.var i=>.var i
 |.lenS a=>.lenS (A2 g st f a)
 |.lenL a=>.lenL (A2 g st f a)
 |.arith d k a b=>.arith d k (A2 g st f a) (A2 g st f b)
 |.conv k a=>.conv k (A2 g st f a)
 |.lss a b=>.lss (A2 g st f a) (A2 g st f b)
 |.eql a b=>.eql (A2 g st f a) (A2 g st f b)
 |.eqS a l b=>.eqS (A2 g st f a) l b
 |.eqSS a b=>.eqSS (A2 g st f a) (A2 g st f b)
 |.isNil a=>.isNil (A2 g st f a)
 |.bc b=>.bc b
 |.neg a=>.neg (A2 g st f a)
 |.and a b=>.and (A2 g st f a) (A2 g st f b)
 |.nilIs a b=>.nilIs (A2 g st f a) (A2 g st f b)
 |.strc l b=>.strc l b
 |.strAt a i=>.strAt (A2 g st f a) (A2 g st f i)
 |.strCat a b=>.strCat (A2 g st f a) (A2 g st f b)
 |.strSub a lo hi=>.strSub (A2 g st f a) (A2 g st f lo) (A2 g st f hi)
 |.cell a i j=>.cell (A2 g st f a) (A2 g st f i) j
 |.nilL=>.nilL
 |.emptyL=>.emptyL
 |.snoc a r=>.snoc (A2 g st f a) (A2 g st f r)
 |.upd a i j x=>.upd (A2 g st f a) (A2 g st f i) j (A2 g st f x)
 |.rep n r=>.rep (A2 g st f n) (A2 g st f r)
 |.cat a b=>.cat (A2 g st f a) (A2 g st f b)
 |.sub a lo hi=>.sub (A2 g st f a) (A2 g st f lo) (A2 g st f hi)
 |.rnil=>.rnil
 |.rcons x r=>.rcons (A2 g st f x) (A2 g st f r)
 |.app h x=>.app h (A2 g st f x)
 |.bytes a=>.bytes (A2 g st f a)
 |.ofBytes a=>.ofBytes (A2 g st f a)
 |.mIdx e a k=>.mIdx e (A2 g st f a) (A2 g st f k)
 |.rmv a i=>.rmv (A2 g st f a) (A2 g st f i)
theorem Qu {V:Val} {g:Nat} {st:SE} {f:Nat→SE} (b:∀j,Af V (f j)=Af V (.sel (.app g st) j)):∀e:SE,Af V (A2 g st f e)=Af V e:=by
 intro e
 induction e
 case sel a j ih=>
  simp only [A2];split
  ·rename_i h;rw [b];cases a<;>simp only [xI,Bool.false_eq_true,Bool.and_eq_true] at h
   rw [As h.1,SE.same_ok (U:=Aw) h.2]
  ·simp only [Af,ih]
 all_goals simp_all only [A2,Af]
def Eu (step:D→Option (D ⊕ D)):Nat→D→Option D
 |0,_=>none
 |n+1,d=>match step d with
  |none=>none
  |some (.inr r)=>some r
  |some (.inl a)=>Eu step n a
theorem Lh {step:D→Option (D ⊕ D)}:∀{n m:Nat} {d r s:D},Eu step n d=some r→Eu step m d=some s→r=s
 |0,_,_,_,_,h,_=>by cases h
 |_+1,0,_,_,_,_,h=>by cases h
 |n+1,m+1,d,r,s,h,k=>by
  simp only [Eu] at h k;split at h
  ·cases h
  ·rename_i x a;rw [a] at k;cases h;cases k;rfl
  ·rename_i b a;rw [a] at k;exact Lh h k
class Cr where
 f:(D→Option (D ⊕ D))→D→D
 run:∀{step:D→Option (D ⊕ D)} {n:Nat} {d r:D},Eu step n d=some r→f step d=r
 or:∀(step:D→Option (D ⊕ D)) (d:D),f step d=.row []∨∃n,Eu step n d=some (f step d)
theorem Uu:Nonempty Cr:=by
 classical
 have key:∀(step:D→Option (D ⊕ D)) (d:D),∃r,(∀n s,Eu step n d=some s→r=s)∧(r=.row []∨∃n,Eu step n d=some r):=by
  intro step d;by_cases h:∃r n,Eu step n d=some r
  ·obtain ⟨r,n,hr⟩:=h;exact ⟨r,fun m s a=>Lh hr a,.inr ⟨n,hr⟩⟩
  ·exact ⟨.row [],fun m s a=>absurd ⟨s,m,a⟩ h,.inl rfl⟩
 exact ⟨⟨fun step d=>Classical.choose (key step d),fun {step n d r} h=>(Classical.choose_spec (key step d)).1 n r h,fun step d=>(Classical.choose_spec (key step d)).2⟩⟩
section
variable [Cr]
def Cy (step:D→Option (D ⊕ D)) (d:D):D:=Cr.f step d
theorem DS {step:D→Option (D ⊕ D)} {n:Nat} {d r:D} (h:Eu step n d=some r):Cy step d=r:=Cr.run h
theorem FE (step:D→Option (D ⊕ D)) (d:D):Cy step d=.row []∨∃n,Eu step n d=some (Cy step d):=Cr.or step d
theorem M5 {step:D→Option (D ⊕ D)} {d r:D} (h:step d=some (.inr r)):Cy step d=r:=DS (n:=1) (by simp [Eu,h])
theorem NH {step:D→Option (D ⊕ D)} {d a:D} (h:step d=some (.inl a)):Cy step d=Cy step a:=by
 rcases FE step a with q|⟨n,c⟩
 ·rcases FE step d with e|⟨m,b⟩
  ·rw [q,e]
  ·cases m with
   |zero=>cases b
   |succ m=>
    simp only [Eu,h] at b;exact (DS b).symm
 ·exact DS (n:=n+1) (by simp only [Eu,h];exact c)
end
end Go.AE
namespace Go.AE
variable [Gl:Ax]
structure Pt where
 key:Option Nat
 nt:Nat
 nv:Nat
 todo:List AI
 tmps:T AV
 pre:List (Option Ab)
 facts:List (SB×Bool)
 defs:List AD:=[]
 deriving Inhabited
structure Sh where
 m:Nat
 res:AV
 post:List (Option Ab)
 keep:List Nat
 keepC:List (Nat×List Nat):=[]
 ok:Bool:=true
 deriving Inhabited
structure Dec where
 g:Nat
 f:FuncId
 p:Nat
 pts:List Pt
 shs:List Sh
 deriving Inhabited
inductive Plf where
 |stuck
 |done (s:Nat) (parts:List SE)
 |next (j:Nat) (θ:List SE)
 deriving Inhabited
def Vg:List SE→SE
 |[]=>.rnil
 |x::r=>.rcons x (Vg r)
def stE (i:Nat) (a:List SE):SE:=.rcons (.c i) (Vg a)
def C6:Nat→Nat→List SE
 |_,0=>[]
 |i,n+1=>.var i::C6 (i+1) n
def PH (g j:Nat) (a:List SE) (s:Nat):SE:=.eql (.sel (.app g (stE j a)) 0) (.c (s+1:Nat))
theorem LA (V:Val):∀l:List SE,Af V (Vg l)=.row (l.map (Af V))
 |[]=>rfl
 |x::r=>by simp only [Vg,Af,LA V r,D.cells,List.map_cons]
theorem Kc (V:Val) (i:Nat) (l:List SE):Af V (stE i l)=.row (.int i::l.map (Af V)):=by
 simp only [stE,Af,LA,D.cells]
theorem Gx (V:Val):∀(n i:Nat),(C6 i n).map (Af V)=(List.range n).map fun j=>V.d (i+j)
 |0,i=>rfl
 |n+1,i=>by
  simp only [C6,List.map_cons,Gx V n (i+1),List.range_succ_eq_map,List.map_map];refine congr (congrArg _ ?_) ?_
  ·simp [Af]
  ·apply List.map_congr_left;intro j _;show V.d (i+1+j)=V.d (i+(j+1));congr 1;omega
def gu (g:Nat) (st:SE):Nat→Nat→List SE
 |_,0=>[]
 |j,n+1=>.sel (.app g st) j::gu g st (j+1) n
def OJ:Nat→Nat→List Nat
 |_,0=>[]
 |i,n+1=>i::OJ (i+1) n
def WD [Facts] (a:List SE) (b:List Nat):Option Ab→Option Ab
 |some x=>x.inst a b
 |none=>none
def cellsOf (i:Nat):List (Nat×List Nat)→List Nat
 |[]=>[]
 | (j,l)::r=>match Nat.beq i j with
  |true=>l
  |false=>cellsOf i r
def Th (c:T AV):List Nat→T AV→T AV
 |[],t=>t
 |j::r,t=>match c.get j with
  |some a=>Th c r (t.set j a)
  |none=>Th c r t
def Ab2 (l:List Nat) (y:Ab) (x:Option Ab):Option Ab:=match l with
 |[]=>x
 |_=>match x,y with
  |some (.cells n c),.cells _ d=>some (.cells n (Th d l c))
  |x,_=>x
def MP [Facts] (a:List SE) (b:List Nat) (keep:List Nat) (keepC:List (Nat×List Nat)):Nat→Nat→List (Option Ab)→List (Option Ab)→List (Option Ab)
 |_,0,_,_=>[]
 |i,n+1,x::c,y::d=>(match y with
  |some y=>(match KJ i keep with
   |true=>some y
   |false=>Ab2 (cellsOf i keepC) y (WD a b x))
  |none=>none)::MP a b keep keepC (i+1) n c d
 |i,n+1,_,_=>none::MP a b keep keepC (i+1) n [] []
@[reducible] def Md:Facts:=⟨[]⟩
def B4 (d:Dec) (i:Nat) (a:Pt) (s:Nat) (b:Sh):Cut:=
 let c:=gu d.g (stE i (C6 0 a.nv)) 1 b.m
 let e:=OJ 0 d.p++OJ a.pre.length (b.post.length-d.p)
 {key:=a.key,fn:=d.f,nt:=a.nt,nv:=a.nv,todo:=a.todo,tmps:=a.tmps,pre:=a.pre,facts:=a.facts++[(PH d.g i (C6 0 a.nv) s,true)],
  res:=@AV.inst Md c e b.res,post:=@MP Md c e b.keep b.keepC 0 d.p b.post a.pre++List.replicate (a.pre.length-d.p) none++(b.post.drop d.p).map (@WD Md c e),ent:=d.p,defs:=a.defs}
def OV:SE→SE
 |.and x (.bc true)=>x
 |x=>x
theorem RK (V:Val) (x:SE):Ai V (OV x)=Ai V x:=by
 unfold OV;split
 ·rename_i x;show Ai V x=((Ai V x)&&true);rw [Bool.and_true]
 ·rfl
def PY (F:List (SB×Bool)) (g:Nat) (st:SE) (f:Nat→SE) (a:SE) (p:SE×SE):Bool:=
 match ((A2 g st f p.1).norm).same ((A2 g st f p.2).norm) with
 |true=>true
 |false=>match p.2.norm with
  |.bc c=>p.1.isB&&(match AC F (OV p.1) with
   |some d=>d==c
   |none=>c&&p.1.norm.same a.norm)
  |_=>false
def E1 (F:List (SB×Bool)) (g:Nat) (st:SE) (f:Nat→SE) (a:SE):Obs→Bool
 |[]=>true
 |p::r=>match PY F g st f a p with
  |true=>E1 F g st f a r
  |false=>false
def Zx [Facts] (E:Env) (p a:AV) (h:Aa):AV×Aa:=
 match p,a with
 |.tuple c,.tuple d=>match NC E c d h with
  | (b,e)=>(.tuple b,e)
 |p,a=>M7 E p a h
theorem UN {U:Unk} {E:Env} (hE:OK E) {w:World} {p a f:AV} {v:Value} {d:Ren} {h h':Aa} (hr:HR d h.blk.get w) (g:VR d a v) (b:Zx E p a h=(f,h')) :
  h'.nx=h.nx∧∃c:Ren,VR c f v∧HR c h'.blk.get w∧Ext d c h h' w w:=by
 unfold Zx at b;split at b
 ·rename_i r s;split at b;rename_i e t j;cases b;cases g with
  |tuple _ k l m=>
   obtain ⟨n,c,i,o,q⟩:=MJ hE hr ⟨l,m⟩ j;exact ⟨n,c,.tuple e k i.1 i.2,o,q⟩
 ·exact Nw hE hr g b
def Jd [Facts] (E:Env) (c:Cut) (v:AV) (h:Aa):AV×Aa:=match Zx E c.res v h with
 | (v,h)=>(v,Dh E c.post 0 (F3 E c.post h (E9 c.res v ⟨.nil,idT c.pre.length .nil⟩)).b h)
theorem Pe {U:Unk} {E:Env} (hE:OK E) {w:World} {c:Cut} {a e:AV} {v:Value} {f:Ren} {h h':Aa} (hr:HR f h.blk.get w) (k:VR f a v) (g:Jd E c a h=(e,h')) :
  h'.nx=h.nx∧∃d:Ren,VR d e v∧HR d h'.blk.get w∧Ext f d h h' w w:=by
 unfold Jd at g;split at g;rename_i x i l;cases g;obtain ⟨s,d,m,n,o⟩:=UN hE hr k l;obtain ⟨t,p,q,j⟩:=Bj hE c.post 0 (F3 E c.post i (E9 c.res e ⟨.nil,idT c.pre.length .nil⟩)).b i d n;exact ⟨by omega,p,m.mono j.le,q,o.trans j (fun b u r=>by omega)⟩
def Jg [Facts] (E:Env) (c:Cut) (s:AS):AS:={s with h:=Dh E c.pre 0 (F3 E c.pre s.h (Oi c s)).b s.h}
def QG:List SE→List SE→Bool
 |[],[]=>true
 |a::l,b::m=>a.norm.same b.norm&&QG l m
 |_,_=>false
def gi (s:Nat) (cs:List SE):Nat→SE
 |0=>.c (s+1:Nat)
 |k+1=>cs.getD k (.bc false)
def rR (g j:Nat) (a:List SE) (k:Nat):SE:=.sel (.app g (stE j a)) k
def MA (E:Env) (d:Dec) (i:Nat) (b:Pt) (F:List (SB×Bool)) (l:Lf) (m:Plf) (s:Nat) (a:Sh):Bool:=
  match m,l with
  |.stuck,_=>true
  |.done n cs,.done ok v h=>match Nat.beq n s with
    |false=>true
    |true=>match ok==a.ok with
     |false=>false
     |true=>match @Jd ⟨F⟩ E (B4 d i b s a) v h with
      | (v,h)=>match @Qe ⟨F⟩ E (B4 d i b s a) v h with
        |some o=>E1 F d.g (stE i (C6 0 b.nv)) (gi s cs) (.c 0) o
        |none=>false
  |.next j e,.cut p=>match d.pts[j]? with
    |some k=>match @Ti ⟨F⟩ E (B4 d j k s a) (@Jg ⟨F⟩ E (B4 d j k s a) p) with
      |some (f,x,h',o1)=>match QG f e,@Qe ⟨F⟩ E (B4 d i b s a) x h' with
        |true,some o2=>E1 F d.g (stE i (C6 0 b.nv)) (rR d.g j e) (PH d.g j e s) (o1++o2)
        |_,_=>false
      |none=>false
    |none=>false
  |_,_=>false
def Ej (E:Env) (d:Dec) (i:Nat) (a:Pt) (F:List (SB×Bool)) (l:Lf) (b:Plf):Nat→List Sh→Bool
 |_,[]=>true
 |s,c::r=>match MA E d i a F l b s c with
  |true=>Ej E d i a F l b (s+1) r
  |false=>false
def GG (n m:Nat):List SE→Bool
 |[]=>true
 |a::l=>a.fits n m&&GG n m l
def Plf.fits (n m:Nat):Plf→Bool
 |.stuck=>true
 |.done _ cs=>GG n m cs
 |.next _ i=>GG n m i
def CW (E:Env) (d:Dec) (i:Nat) (c:Pt):List (SB×Bool)→Tr Lf→Tr Plf→Option (List (Nat×List AI))
 |_,_,.leaf .stuck=>some []
 |F,.leaf l,.leaf f=>match Ej E d i c F l f 0 d.shs&&f.fits c.nv d.g with
  |true=>some (match f,l with
   |.next j _,.cut h=>[(j,h.fr.todo)]
   |_,_=>[])
  |false=>none
 |F,.split e a b,.split k m n=>match e.same k&&e.fits c.nv d.g with
  |true=>match CW E d i c ((e,true)::F) a m,CW E d i c ((e,false)::F) b n with
   |some x,some y=>some (x++y)
   |_,_=>none
  |false=>none
 |_,_,_=>none
def Pt.st (i:Pt) (d:Dec):AS:={fr:={fn:=d.f,nt:=i.nt,tmps:=i.tmps,todo:=i.todo,defers:=My i.defs,mode:=.run,kind:=.normal,round:=none},cs:=[],h:={blk:=AZ i.pre,nx:=i.pre.length,log:=[]}}
def Hn (E:Env) (keys:List Nat) (N:Nat) (d:Dec) (T:List (Tr Plf)) (i:Nat):Option (List (Nat×List AI)):=
 match d.pts[i]?,T[i]? with
 |some a,some t=>match F4 E keys d.f N a.facts (a.st d) with
  |some r=>CW E d i a a.facts r t
  |none=>none
 |_,_=>none
def stD (i nv:Nat) (V:Val):D:=.row (.int i::(List.range nv).map V.d)
def I3 (G:Nat→D→D) (a:List D):Val:=⟨fun j=>a.getD j default,G⟩
def CJ (V:Val):Plf→Option (D ⊕ D)
 |.stuck=>none
 |.done s cs=>some (.inr (.row (.int (s+1:Nat)::cs.map (Af V))))
 |.next j a=>some (.inl (.row (.int j::a.map (Af V))))
def Dg (T:List (Tr Plf)) (G:Nat→D→D):D→Option (D ⊕ D)
 |.row (.int (.ofNat i)::a)=>match T[i]? with
  |some t=>CJ (I3 G a) (t.get (I3 G a))
  |none=>none
 |_=>none
theorem Oq (V:Val):∀{a b:List SE},QG a b=true→a.map (Af V)=b.map (Af V)
 |[],[],_=>rfl
 |x::a,y::b,h=>by
  simp only [QG,Bool.and_eq_true] at h;have:=congrArg (Af V) (SE.same_ok (U:=Aw) h.1);rw [B2,B2] at this;simp only [List.map_cons,this,Oq V h.2]
 |[],_::_,h=>by cases h
 |_::_,[],h=>by cases h
theorem Dp {n m:Nat} {V W:Val} (h:V.Alike n m W):∀{l:List SE},GG n m l=true→l.map (Af V)=l.map (Af W)
 |[],_=>rfl
 |a::l,b=>by
  simp only [GG,Bool.and_eq_true] at b;simp only [List.map_cons,SE.fits_ok h a b.1,Dp h b.2]
theorem Rq {F:List (SB×Bool)} {g:Nat} {st:SE} {f:Nat→SE} {b:SE} {V:Val} (m:BO V F) (i:∀j,Af V (f j)=Af V (.sel (.app g st) j)) (e:b=.c 0∨Af V b=.bool true) {p:SE×SE} (h:PY F g st f b p=true):Af V p.1=Af V p.2:=by
 unfold PY at h;split at h
 ·rename_i n;have:=SE.same_ok (U:=Aw) n;have q:=congrArg (Af V) this
  rwa [B2,B2,Qu i,Qu i] at q
 ·split at h
  ·rename_i c o;simp only [Bool.and_eq_true] at h;obtain ⟨r,h⟩:=h;have k:=L6 V r;have l:=B2 V p.2;rw [o] at l;rw [←l,k];show D.bool _=D.bool c
   congr 1
   split at h
   ·rename_i d s;have:=Ap (U:=Aw) (V:=V) m s;rw [RK] at this;have a:=eq_of_beq h;subst a;exact this
   ·simp only [Bool.and_eq_true] at h;have a:=congrArg (Af V) (SE.same_ok (U:=Aw) h.2);rw [B2,B2] at a;have t:c=true:=h.1;subst t;rcases e with q|q
    ·rw [q,k] at a;cases a
    ·rw [a,q];rfl
  ·cases h
theorem Ft {F:List (SB×Bool)} {g:Nat} {st:SE} {f:Nat→SE} {e:SE} {V:Val} (k:BO V F) (l:∀j,Af V (f j)=Af V (.sel (.app g st) j)) (d:e=.c 0∨Af V e=.bool true):∀{o:Obs},E1 F g st f e o=true→o.holds V
 |[],_=>fun a b i=>by cases i
 |p::r,h=>by
  simp only [E1] at h;split at h
  ·rename_i m;intro a b i;rcases List.mem_cons.1 i with q|q
   ·have:=Rq k l d m;rw [←q] at this;exact this
   ·exact Ft k l d h a b q
  ·cases h
theorem PT {E:Env} {d:Dec} {i:Nat} {o:Pt} {V W:Val} (v:V.Alike o.nv d.g W):∀{r:Tr Lf} {t:Tr Plf} {F:List (SB×Bool)} {p:List (Nat×List AI)},CW E d i o F r t=some p→
  t.get W=.stuck∨(Ej E d i o (r.way V F).2 (r.way V F).1 (t.get W) 0 d.shs=true∧(t.get W).fits o.nv d.g=true∧∀j k f,t.get W=.next j k→(r.way V F).1=.cut f→(j,f.fr.todo)∈p):=by
 intro r t
 induction t generalizing r with
 |leaf D=>
  intro F p h;cases D with
  |stuck=>exact .inl rfl
  |done s cs=>
   right;cases r with
   |split=>simp [CW] at h
   |leaf l=>
    simp only [CW] at h;split at h
    ·rename_i c;simp only [Bool.and_eq_true] at c;exact ⟨c.1,c.2,fun j k f q=>by cases q⟩
    ·cases h
  |next j k=>
   right;cases r with
   |split=>simp [CW] at h
   |leaf l=>
    simp only [CW] at h;split at h
    ·rename_i c;simp only [Bool.and_eq_true] at c;refine ⟨c.1,c.2,fun L G f n m=>?_⟩
     cases n;simp only [Tr.way] at m;subst m;cases h;simp
    ·cases h
 |split e a b w z=>
  intro F p h;cases r with
  |leaf l=>cases l<;>simp [CW] at h
  |split u M N=>
   simp only [CW] at h;split at h
   ·rename_i c;simp only [Bool.and_eq_true] at c;have H:=SE.same_ok (U:=Aw) c.1;subst H;have I:Ai W u=Ai V u:=by unfold Ai;rw [SE.fits_ok v u c.2]
    split at h
    ·rename_i x y J K;cases h;simp only [Tr.get,Tr.way,I];cases O:Ai V u with
     |true=>
      rcases w J with q|⟨n,m,A⟩
      ·exact .inl q
      ·exact .inr ⟨n,m,fun j k f B C=>by simp [A j k f B C]⟩
     |false=>
      rcases z K with q|⟨n,m,A⟩
      ·exact .inl q
      ·exact .inr ⟨n,m,fun j k f B C=>by simp [A j k f B C]⟩
    ·cases h
   ·cases h
theorem G0 {E:Env} {d:Dec} {i:Nat} {f:Pt} {F:List (SB×Bool)} {l:Lf} {g:Plf}:∀{shs:List Sh} {b:Nat},Ej E d i f F l g b shs=true→∀(s:Nat) c,shs[s]?=some c→MA E d i f F l g (b+s) c=true
 |[],b,_,s,c,h=>by simp at h
 |a::r,b,h,s,c,e=>by
  simp only [Ej] at h;split at h
  ·rename_i j;cases s with
   |zero=>simp only [List.getElem?_cons_zero,Option.some.injEq] at e;subst e;exact j
   |succ s=>
    simp only [List.getElem?_cons_succ] at e;have:=G0 h s c e
    rwa [show b+1+s=b+(s+1) by omega] at this
  ·cases h
structure Sz (P:Program) (f0:FuncId) (base:List Frame) (ok:Bool) (K:Frame→World→Value→World→Prop):Prop where
 pre:∀c c' w w1 v w',Steps P (lone c base w) (lone c' base w1)→K c' w1 v w'→K c w v w'
 ends:∀c w v w',IY P c w ok v w'→c.fn=f0→c.roundOf=none→K c w v w'
def Cut.AtK (P:Program) (G:Nat→D→D) (c:Cut) (V:Val) (K:Frame→World→Value→World→Prop):Prop:=
 ∀(v:Vals),v.V=V→v.K=(Env.of P).kinds→V.fn=G→BO V c.facts→∀(ρ:Ren) (l:Frame) (w:World),FrR ρ c.fr l→HR ρ c.h.blk.get w→Bm ρ c.pre.length→
  ∃i r j,K l w r j∧VR i c.res r∧HR i c.h'.blk.get j∧Ext ρ i c.h c.h' w j
section
variable {E:Env} {G:Nat→D→D} (hE:∀[U:Unk],U.K=(Env.of E.P).kinds→OK E) {v:Vals} (hK:v.K=(Env.of E.P).kinds)
include hE hK
theorem Tj (hG:v.V.fn=G) {F:List (SB×Bool)} (c:BO v.V F) {d:Cut} {s:AS} {e:List SE} {x:AV} {h':Aa} {o:Obs} (n:@Ti ⟨F⟩ E d s=some (e,x,h',o)) (ho:o.holds v.V) {K:Frame→World→Value→World→Prop} (Q:d.AtK E.P G (v.V.inst e) K) (R:s.fr.todo=d.todo)
  {g:Ren} {j:Frame} {w:World} (H:SR g s j [] w) (hwf:WF s.h) (r:Bm g s.h.nx):
  ∃I M J,K j w M J∧VR I x M∧HR I h'.blk.get J∧Ext g I s.h h' w J:=by
 have S:@OK _ (A5 v F c) E:=hE (U:=A5 v F c) hK;unfold Ti at n;split at n;rename_i m h1 T;simp only at n;split at n
 ·rename_i hc;split at n
  ·rename_i o1 t X ht;simp only [Option.some.injEq,Prod.mk.injEq] at n;obtain ⟨rfl,rfl,rfl,rfl⟩:=n;obtain ⟨oa,ob,Y,u,rfl⟩:=Bv X;obtain ⟨Z,k⟩:=Obs.append ho;obtain ⟨aa,A⟩:=Obs.append Z;generalize ae:GM m.v 0 d.nv=e at *;generalize af:Hd m.b 0 d.pre.length=l at *;have e2:(@AJ ⟨F⟩ E d.pre 0 (@F3 ⟨F⟩ E d.pre s.h (Oi d s)) s.h).2=h1:=by rw [T]
   obtain ⟨q1,q2,q3⟩:=Bb (U:=A5 v F c) (E:=E) d.pre 0 (@F3 ⟨F⟩ E d.pre s.h (Oi d s)) s.h H.h hwf (fun b b1 _=>r b b1)
   rw [e2] at q1 q2 q3;simp only [Bool.and_eq_true] at hc;obtain ⟨⟨⟨⟨⟨⟨⟨⟨⟨c1,c2⟩,c3⟩,c4⟩,c5⟩,c6⟩,N⟩,c8⟩,c9⟩,ab⟩:=hc;have a:=JA k;have hV:(B9 (A5 v F c) d.facts e a).V=(A5 v F c).V.inst e:=rfl;have p:(B9 (A5 v F c) d.facts e a).K=(A5 v F c).K:=rfl;have ac:=J9 c2;have ag:=(CG (U:=A5 v F c) (W:=B9 (A5 v F c) d.facts e a) hV p d.pre l ob u A).1;have p2:=HR.toPat (U:=A5 v F c) (W:=B9 (A5 v F c) d.facts e a) hV p S q1 u A c1;have L:Bm g h1.nx:=Bm.ext r q2
   have B:Bm (g.back l) d.pre.length:=by
    intro b O;have:l[b]?=none:=List.getElem?_eq_none (by omega)
    simp [Ren.back,this]
   have f:=H.fr
   have ad:@FrR (B9 (A5 v F c) d.facts e a).toVals (g.back l) d.fr j:=by
    refine @FrR.mk (B9 (A5 v F c) d.facts e a).toVals (g.back l) d.fr j ?_ (@TR.mk (B9 (A5 v F c) d.facts e a).toVals (g.back l) _ _ _ ?_ (fun i y hy=>?_)) ?_ ?_ ?_ ?_ ?_
    ·rw [f.fn];exact Nat.eq_of_beq_eq_true c4
    ·rw [f.tm.size];exact Nat.eq_of_beq_eq_true c5
    ·obtain ⟨z,z1,z2⟩:=JX (U:=A5 v F c) (W:=B9 (A5 v F c) d.facts e a) hV p (ρ:=g) d.tmps s.fr.tmps oa Y aa i y hy;exact z2 _ (f.tm.get i z z1)
    ·show @IL (B9 (A5 v F c) d.facts e a).toVals (g.back l) d.todo j.todo;rw [←R];exact NL ab f.todo
    ·exact K3 (U:=A5 v F c) (W:=B9 (A5 v F c) d.facts e a) hV p c6 f.defers
    ·have hm:=f.mode;show @MR (B9 (A5 v F c) d.facts e a).toVals (g.back l) .run j.mode;cases q:s.fr.mode with
     |run=>rw [q] at hm;generalize j.mode=mm at hm;cases hm;exact @MR.run (B9 (A5 v F c) d.facts e a).toVals (g.back l)
     |ret=>rw [q] at N;cases N
     |panic=>rw [q] at N;cases N
    ·have hk:=f.kind;show j.kind=.normal;rw [hk];cases q:s.fr.kind with
     |normal=>rfl
     |_=>rw [q] at c8;cases c8
    ·have C:=f.round;show RR (g.back l) none j.roundOf;cases q:s.fr.round with
     |none=>rw [q] at C;cases hz:j.roundOf with|none=>trivial|some=>rw [hz] at C;exact C.elim
     |some=>rw [q] at c9;cases c9
   obtain ⟨ah,M,J,r1,r2,r3,r4⟩:=Q (B9 (A5 v F c) d.facts e a).toVals rfl hK hG a (g.back l) j w ad p2 B;obtain ⟨I,t1,t2,t3⟩:=Qg (U:=A5 v F c) (E:=E) (FF:=d.facts) a rfl rfl u A c1 ac (Nat.le_of_ble_eq_true c3) ht q1 q3 (fun b O _=>L b O) r2 r3 r4
   exact ⟨I,M,J,r1,t1,t2,q2.trans t3 (fun b O _=>r b O)⟩
  ·cases n
 ·cases n
end
theorem LI (t:T SE):∀(n i:Nat),(GM t i n).length=n
 |0,_=>rfl
 |n+1,i=>by simp [GM,LI t n]
theorem Uo [Facts] {E:Env} {c:Cut} {s:AS} {b:List SE} {x:AV} {h:Aa} {o:Obs} (a:Ti E c s=some (b,x,h,o)):b.length=c.nv:=by
 unfold Ti at a;split at a;simp only at a;split at a
 ·split at a
  ·simp only [Option.some.injEq,Prod.mk.injEq] at a;rw [←a.1,LI]
  ·cases a
 ·cases a
def Z6 (r:D):Int:=(r.cells.getD 0 default).toInt
theorem Za [Cr] {E:Env} {G:Nat→D→D} (hE:∀[U:Unk],U.K=(Env.of E.P).kinds→OK E) (hO:Ad E G) {d:Dec} {T:List (Tr Plf)} {keys:List Nat} {N:Nat} (hg:∀x,G d.g x=Cy (Dg T G) x)
  (ag:∀(i:Nat) m,d.pts[i]?=some m→∃js,Hn E keys N d T i=some js∧∀j td,(j,td)∈js→∀H,d.pts[j]?=some H→td=H.todo) :
  ∀(n i:Nat) (m:Pt) (s:Nat) (B:Sh),d.pts[i]?=some m→d.shs[s]?=some B→∀(V:Val) (r:D),V.fn=G→Eu (Dg T G) n (stD i m.nv V)=some r→Z6 r=(s+1:Nat)→∀(I:List Frame) (K:Frame→World→Value→World→Prop),Sz E.P d.f I B.ok K→(B4 d i m s B).AtK E.P G V K:=by
 intro n
 induction n with
 |zero=>intro i m s B _ _ V r _ h;cases h
 |succ n ih=>
  intro i m s B ah ai V r a9 a ac I KK S v av hK hG X ρ cf w aw hr C;subst av;have ax:BO v.V m.facts:=fun e b hm=>X e b (by simp [B4,hm])
  obtain ⟨js,p,ay⟩:=ag i m ah;unfold Hn at p;rw [ah] at p;split at p
  ·rename_i ba t aj ht;cases aj;split at p
   ·rename_i tr az;have z:=UZ hE hO hK hG I N m.facts (m.st d) tr az ax ρ cf [] w ⟨aw,.nil,hr⟩ (H9 _ _) C;have Q:v.V.Alike m.nv d.g (I3 G ((List.range m.nv).map v.V.d)):=⟨fun j hj=>by simp [I3,List.getD_eq_getElem?_getD,hj],fun j _=>by rw [hG];rfl⟩
    have R:Af v.V (stE i (C6 0 m.nv))=stD i m.nv v.V:=by
     rw [Kc,Gx];simp [stD]
    have y:Dg T G (stD i m.nv v.V)=CJ (I3 G ((List.range m.nv).map v.V.d)) (t.get (I3 G ((List.range m.nv).map v.V.d))):=by
     show (match T[i]? with
      |some t=>CJ (I3 G _) (t.get (I3 G _))
      |none=>none)=_
     rw [ht]
    have J:Cy (Dg T G) (stD i m.nv v.V)=r:=DS a;generalize hW:I3 G ((List.range m.nv).map v.V.d)=W at Q y;rcases PT (E:=E) (d:=d) (i:=i) Q p with Y|⟨q,A,L⟩
    ·simp only [Eu,y,Y,CJ] at a;cases a
    ·generalize bb:tr.way v.V m.facts=lf at z q L;obtain ⟨l,F⟩:=lf;simp only at z q L;have u:=G0 q s B ai;simp only [Nat.zero_add] at u;generalize bd:t.get W=dl at y A u L;unfold MA at u;split at u
     ·simp only [Eu,y,CJ] at a;cases a
     ·
      rename_i s' cs be x h;simp only [Eu,y,CJ] at a;cases a
      have a0:s'=s:=by
       have:((s'+1:Nat):Int)=(s+1:Nat):=ac;omega
      subst a0;rw [Nat.beq_refl] at u;simp only at u;split at u
      ·cases u
      rename_i ad;have ad:=eq_of_beq ad;generalize a1:@Jd ⟨F⟩ E (B4 d i m s' B) x h=pe at u;obtain ⟨x2,h2⟩:=pe;simp only at u;split at u
      ·rename_i o ho;obtain ⟨M,σ,bf,v',w1,w',q1,qf,qr,q2,Z,q4,q5⟩:=z;have ak:cs.map (Af v.V)=cs.map (Af W):=Dp Q A
       have ae:o.holds v.V:=Ft M (fun j=>by
        show _=(v.V.fn d.g (Af v.V (stE i (C6 0 m.nv)))).cells.getD j default;rw [R,hG,hg,J];cases j with
        |zero=>rfl
        |succ j=>
         show Af v.V (cs.getD j (.bc false))=(cs.map (Af W)).getD j default;rw [←ak];simp only [List.getD_eq_getElem?_getD,List.getElem?_map];cases cs[j]?<;>rfl) (.inl rfl) u
       obtain ⟨pn,af,p0,p1,p2⟩:=Pe (U:=A5 v F M) (hE (U:=A5 v F M) hK) q4 Z a1;have Z:=p0;have a8:Bm σ h.nx:=Bm.ext (h:=(m.st d).h) C q5;have q5:=q5.trans p2 (fun b hb a2=>C b hb)
       have q4:=p1;have hwf:=Ext.wf (U:=A5 v F M) q5 (H9 _ _);obtain ⟨τ,r1,r2,r3⟩:=SV (c:=B4 d i m s' B) hE hK M ho ae Z q4 hwf q5 C;exact ⟨τ,v',w',S.pre _ _ _ _ _ _ q1 (S.ends _ _ _ _ (ad▸q2) qf qr),r1,r2,r3⟩
      ·cases u
     ·
      rename_i j θ s0;simp only [Eu,y,CJ] at a;split at u
      ·rename_i H al;split at u
       ·rename_i O x h o1 hu;split at u
        ·rename_i o2 a3 a4;have am:=Oq v.V a3;obtain ⟨M,ak,σ,c',w1,q1,q2,Z⟩:=z;have an:O.length=H.nv:=@Uo _ ⟨F⟩ _ _ _ _ _ _ _ hu
         have Y:(D.row (.int j::θ.map (Af W)))=stD j H.nv (v.V.inst O):=by
          have:=Dp Q (l:=θ) A;rw [←this,←am];unfold stD
          congr 2
          apply List.ext_getElem
          ·simp [an]
          ·intro k h1 h2;simp only [List.getElem_map,List.getElem_range,Val.inst];have:k<O.length:=by simpa using h1
           simp [List.getD_eq_getElem?_getD,this]
         have aa:Af v.V (stE j θ)=stD j H.nv (v.V.inst O):=by
          rw [Kc,Dp Q (l:=θ) A,Y]
         rw [Y] at a;have ao:Cy (Dg T G) (stD j H.nv (v.V.inst O))=r:=DS a
         have ae:(o1++o2).holds v.V:=Ft M (fun k=>by
          show (v.V.fn d.g (Af v.V (stE j θ))).cells.getD k default=(v.V.fn d.g (Af v.V (stE i (C6 0 m.nv)))).cells.getD k default;rw [aa,R,hG,hg,hg,ao,J]) (.inr (by
          show D.bool ((((v.V.fn d.g (Af v.V (stE j θ))).cells.getD 0 default).toInt)==((s+1:Nat):Int))=_;rw [aa,hG,hg,ao];have:(r.cells.getD 0 default).toInt=((s+1:Nat):Int):=ac;rw [this];simp)) u
         obtain ⟨ap,aq⟩:=Obs.append ae;have a5:=ih j H s B al ai (v.V.inst O) r hG a ac I KK S;have a6:s0.fr.todo=(B4 d j H s B).todo:=ay j _ (L j θ s0 rfl rfl) H al;obtain ⟨pn,af,p1,p2⟩:=Bj (U:=A5 v F M) (hE (U:=A5 v F M) hK) (B4 d j H s B).pre 0 (@F3 ⟨F⟩ E (B4 d j H s B).pre s0.h (Oi (B4 d j H s B) s0)).b s0.h σ q2.h;have q2:SR af (@Jg ⟨F⟩ E (B4 d j H s B) s0) c' [] w1:=⟨q2.fr.mono p2.le,q2.cs.mono p2.le,p1⟩;have Z:=Z.trans p2 (fun b hb a2=>C b hb)
         have ab:WF (@Jg ⟨F⟩ E (B4 d j H s B) s0).h:=Ext.wf (U:=A5 v F M) Z (H9 _ _);have ar:Bm af (@Jg ⟨F⟩ E (B4 d j H s B) s0).h.nx:=Bm.ext (h:=(m.st d).h) C Z;obtain ⟨τ,v',w',r1,r2,r3,r4⟩:=Tj hE hK hG M hu ap a5 a6 q2 ab ar;have he:Ext ρ τ (m.st d).h h w w':=Z.trans r4 (fun b hb _=>C b hb)
         have au:WF h:=Ext.wf (U:=A5 v F M) r4 ab;obtain ⟨a7,t1,t2,t3⟩:=SV (c:=B4 d i m s B) hE hK M a4 aq r2 r3 au he C;exact ⟨a7,v',w',S.pre _ _ _ _ _ _ q1 r1,t1,t2,t3⟩
        ·cases u
       ·cases u
      ·cases u
     ·cases u
   ·cases p
  ·cases p
theorem Uv (P:Program) (d:FuncId) (a:List Frame):Sz P d a true (fun f w v b=>∃fr,Steps P (lone f a w) (lone fr a b)∧fr.fn=d∧fr.leaving P b (.returned v)):=
 ⟨fun c i w w1 v b h ⟨fr,k1,k2,k3⟩=>⟨fr,Steps.trans h k1,k2,k3⟩,fun c w v b h g hr=>by
  obtain ⟨e,q⟩:=h.leaves hr;subst e;exact ⟨c,Steps.refl _ _,g,q⟩⟩
def Qy (E:Env) (f nv:Nat) (args:List AV) (pre:List (Option Ab)) (facts:List (SB×Bool)):Pt:=
 {key:=none,nt:=(Jp E f args).nt,nv,todo:=(Jp E f args).todo,tmps:=(Jp E f args).tmps,pre,facts}
def Dec.sm (d:Dec) (args:List AV) (i:Pt) (s:Nat) (j:Sh):Sm:=
 let c:=B4 d 0 i s j
 {f:=d.f,nv:=i.nv,args,pre:=i.pre,facts:=c.facts,res:=c.res,post:=c.post,ok:=j.ok}
def SF:List (Nat×AV)→T AV
 |[]=>.nil
 | (i,a)::r=>(SF r).set i a
end Go.AE
namespace Go.AE
variable [Gl:Ax]
open Go.RowKit
def Rk (o:Option Nat) (P:Program) (ts:List TypeId) (b:List D):Prop:=∃a cs M,Ba (Env.of P) ts=some a∧DVL (Env.of P).kinds M a cs b∧(Can a b∧L8 (Env.of P).kinds 9 a b)∧ShL (Env.of P).kinds o 9 a b
def Jk (P:Program) (ts:List TypeId) (a:List D):Prop:=∃ks cs M,Ba (Env.of P) ts=some ks∧DVL (Env.of P).kinds M ks cs a∧Can ks a∧L8 (Env.of P).kinds 9 ks a
def Ki:Sh:={m:=1,res:=.sb true (.var 0),post:=[],keep:=[]}
def BF (E:Env) (ts:List TypeId):List (SB×Bool):=match Ba E ts with
 |some a=>BV 0 a
 |none=>[]
def Ew (E:Env) (ts:List TypeId):Nat:=match Ba E ts with
 |some a=>a.length
 |none=>0
def FD (E:Env) (ts:List TypeId):List AV:=match @EN ⟨BF E ts⟩ E 0 ts with
 |some l=>l
 |none=>[]
def J3 (E:Env) (f:FuncId) (ts:List TypeId):Pt:=Qy E f (Ew E ts) (FD E ts) [] (BF E ts)
def TS (E:Env) (f:FuncId) (ts:List TypeId) (L:List TypeId):Bool:=
 FO E L L&&(match Ba E ts with
  |some a=>a.all (NK L)
  |none=>false)&&(@EN ⟨BF E ts⟩ E 0 ts).isSome&&(BQ E f (FD E ts) .normal).isSome
section
variable {E:Env} {L:List TypeId} {H:Type} {enc:TypeId×Value→H} {w:World} {base:Nat} {sp:Nat→Bool} {held:Bool}
theorem V2 [Cr] {G:Nat→D→D} (hE:∀[U:Unk],U.K=(Env.of E.P).kinds→OK E) (m:E.kinds=(Env.of E.P).kinds) (hO:Ad E G) {d:Dec} {T:List (Tr Plf)} {keys:List Nat} {N:Nat} (hg:∀x,G d.g x=Cy (Dg T G) x)
  (O:∀(i:Nat) pt,d.pts[i]?=some pt→∃js,Hn E keys N d T i=some js∧∀j td,(j,td)∈js→∀pj,d.pts[j]?=some pj→td=pj.todo)
  {ts:List TypeId} (ad:d.pts[0]?=some (J3 E d.f ts)) (ae:d.shs[0]?=some Ki) (B:TS E d.f ts L=true) (af:Ba E ts=Ba (Env.of E.P) ts)
  {o:Option Nat} (s:∀a,Rk o E.P ts a→G d.g (.row (.int 0::a))=.row [.int 1,.bool true])
  {Q:List Value} {ds:List (DataW H)} {ps:List MemPlace} (ag:Bo o ds) (hA:DataW.TrodAll enc E.P w base sp held ts Q ds ps) (S:∀(j:Nat) t v,ts[j]?=some t→Q[j]?=some v→∃r b0,Value.okWide E.P w r b0 t v) (ah:E6 (DF w)) :
  Calls E.P d.f Q.toArray w fun e W'=>e=.returned (.bool true)∧Below w.heap.size w W':=by
 unfold TS at B;simp only [Bool.and_eq_true] at B;obtain ⟨⟨⟨hL,C⟩,y⟩,z⟩:=B;split at C
 ·rename_i W J;obtain ⟨cs,a,q1,qc,q2⟩:=VY (U:=Sk E.P) (hE (U:=Sk E.P) rfl) hL (o:=o) ts Q ds ps W hA S J C ag;have X:W.length=a.length:=q1.len.2;have ai:Ew E ts=a.length:=by unfold Ew;rw [J];exact X
  have aj:BF E ts=BV 0 W:=by unfold BF;rw [J]
  have Y:BO (CD G a) (BF E ts):=by
   rw [aj];exact Gb (U:=Sk E.P) W cs a 0 (fun i hi=>by simp [CD]) q1
  intro Z;cases F:BQ E d.f (FD E ts) .normal with
  |none=>rw [F] at z;cases z
  |some fr=>
   have ak:stD 0 (Ew E ts) (CD G a)=.row (.int 0::a):=by
    unfold stD;rw [ai]
    congr 2
    apply List.ext_getElem
    ·simp
    ·intro k h1 h2;simp [CD,List.getD_eq_getElem?_getD,h2]
   have l:=s a ⟨W,cs,DF w,by rw [←af];exact J,by rw [←m];exact q1,⟨qc.1.1,by rw [←m];exact qc.1.2⟩,by rw [←m];exact qc.2⟩
   rw [hg,←ak] at l;rcases FE (Dg T G) (stD 0 (Ew E ts) (CD G a)) with q|⟨n,hn⟩
   ·rw [q] at l;cases l
   ·rw [l] at hn;have al:=Za hE hO hg O n 0 _ 0 Ki ad ae (CD G a) _ rfl hn rfl Z _ (Uv E.P d.f Z)
    let A:Vals:={V:=CD G a,K:=E.kinds,R:=[],hR:=fun _ _ _ _ _ h=>(by cases h)}
    have aa:Af (CD G a) (stE 0 (C6 0 (Ew E ts)))=stD 0 (Ew E ts) (CD G a):=by
     rw [Kc,Gx];simp [stD]
    have p:(CD G a).fn d.g (Af (CD G a) (stE 0 (C6 0 (Ew E ts))))=.row [.int 1,.bool true]:=by
     rw [aa,←l];exact hg _
    have u:BO A.V (B4 d 0 (J3 E d.f ts) 0 Ki).facts:=by
     intro e b hm;have am:(e,b)∈BF E ts++[(PH d.g 0 (C6 0 (Ew E ts)) 0,true)]:=hm;rcases List.mem_append.1 am with q|q
     ·exact Y e b q
     ·simp only [List.mem_singleton,Prod.mk.injEq] at q;obtain ⟨rfl,rfl⟩:=q;show ((((CD G a).fn d.g (Af (CD G a) (stE 0 (C6 0 (Ew E ts))))).cells.getD 0 default).toInt==((0+1:Nat):Int))=true;rw [p];rfl
    have I:@VL A ⟨fun _=>none,DF w⟩ (FD E ts) Q:=by
     cases hs:@EN ⟨BF E ts⟩ E 0 ts with
     |none=>rw [hs] at y;cases y
     |some ab=>
      have e1:FD E ts=ab:=by unfold FD;rw [hs]
      rw [e1];exact q2 {facts:=BF E ts,toVals:=A,ok:=Y} 0 ab ⟨fun _=>none,DF w⟩ rfl rfl (fun i hi=>by show (CD G a).d (0+i)=_;simp [CD]) hs
    have an:=hE (U:={facts:=BF E ts,toVals:=A,ok:=Y}) m;have ac:=Cq (U:={facts:=BF E ts,toVals:=A,ok:=Y}) an F I
    have ao:(B4 d 0 (J3 E d.f ts) 0 Ki).fr=fr:=by
     have M:=F;unfold BQ at M;split at M
     ·rename_i fn ap;split at M
      ·rename_i c hc;cases M;simp [Cut.fr,B4,J3,Qy,Jp,BQ,ap,hc,My]
      ·cases M
     ·cases M
    obtain ⟨σ,v',w',⟨aq,k1,k2,k3⟩,r1,r2,r3⟩:=al A rfl m rfl u ⟨fun _=>none,DF w⟩ _ w (by rw [ao];exact ac) (SY (U:={facts:=BF E ts,toVals:=A,ok:=Y}) w ah) (fun b _=>rfl)
    have ar:v'=.bool true:=by
     have e2:(B4 d 0 (J3 E d.f ts) 0 Ki).res=.sb true (.sel (.app d.g (stE 0 (C6 0 (Ew E ts)))) 1):=rfl;rw [e2] at r1;cases r1
     have:Ai A.V (.sel (.app d.g (stE 0 (C6 0 (Ew E ts)))) 1)=true:=by
      show (((CD G a).fn d.g (Af (CD G a) (stE 0 (C6 0 (Ew E ts))))).cells.getD 1 default).toBool=true;rw [p];rfl
     rw [this];rfl
    subst ar;exact ⟨.returned (.bool true),w',aq,⟨rfl,r3.calm.os,r3.calm.tape,r3.calm.output,r3.calm.size,fun k J=>r3.kept k J (fun b base h=>by cases h)⟩,k1,k2,k3⟩
 ·cases C
end
theorem Rs [Cr] {H:Type} {enc:TypeId×Value→H} {a:Assume} {C:Checked} {os:Os} {fn:Func} {s:ChangeSpec} {n:List PathCond} {apart:Bool} {L:List TypeId} {tb:TypeId} {l:List Orc} {m:List Sm} {G:Nat→D→D} {d:Dec} {T:List (Tr Plf)} {keys:List Nat} {N:Nat} {X:World→Array Value→Prop} (hX:∀(w w':World) (args:Array Value),w.heap=w'.heap→X w args→X w' args)
  (own:ownKnob C.prog.godebug=none) (u:os.Started) (z:C.prog.inits.idxOf? d.f=none) (Y:C.prog.funcs[d.f]?=some fn)
  (witness:∃(w:World) (tape:Tape) (i:Input),w.os=os∧(w.forCall tape i).Shaped C.prog∧i.vars=[]∧Input.okWide C.prog (w.forCall tape i) .any w.heap.size d.f i∧
   ((s.pre enc C.prog fn n apart (w.forCall tape i).memory i.args∧X (w.forCall tape i).memory i.args)∧sizedMet enc C.prog fn (OpenSpec.ofChange s) apart (w.forCall tape i).memory i.args)∧a.holds C.prog (lone (Frame.enter C.prog d.f i.args .normal) [] (w.forCall tape i)))
  (hl:laidOutB C.prog=true) (hr:∀t∈fn.params.toList,C.prog.readableRec t=true∧t<C.prog.types.size) (y:s.vars=[])
  (B:∀F:List (DataW H),F.length=fn.params.toList.length→s.fn H F={results:=[.lit (.bool true)],args:=F})
  (J:fn.resultTypes = #[tb]) (hb:C.prog.underlying tb=some .bool) (hE:∀[U:Unk],U.K=(Env.of C.prog).kinds→OK (Env.ofS C.prog l m)) (hO:Ad (Env.ofS C.prog l m) G)
  (hg:∀x,G d.g x=Cy (Dg T G) x) (O:∀(i:Nat) pt,d.pts[i]?=some pt→∃js,Hn (Env.ofS C.prog l m) keys N d T i=some js∧∀j td,(j,td)∈js→∀pj,d.pts[j]?=some pj→td=pj.todo)
  (Z:d.pts[0]?=some (J3 (Env.ofS C.prog l m) d.f fn.params.toList)) (aa:d.shs[0]?=some Ki) (ab:TS (Env.ofS C.prog l m) d.f fn.params.toList L=true)
  (A:∀S,Jk C.prog fn.params.toList S→G d.g (.row (.int 0::S))=.row [.int 1,.bool true]) (ac:∀w args,X w args→E6 (DF w)) :
  ReturnsInHanded a C os d.f .any (fun w args=>(s.pre enc C.prog fn n apart w args∧X w args)∧sizedMet enc C.prog fn (OpenSpec.ofChange s) apart w args) (s.post enc C.prog fn apart true false false):=by
 refine returnsInHanded_of_change_and hX own u z Y witness ?_;intro W ag args F gs V P hW ah ai ad aj;have Q:=hW;obtain ⟨p,q,hA,hV,rfl,ak,al⟩:=hW;rw [y] at hV
 have ae:gs=[]∧q=[]:=by
  cases gs with
  |nil=>exact ⟨rfl,hV⟩
  |cons=>simp [DataW.TrodVars] at hV
 obtain ⟨rfl,rfl⟩:=ae;have R:=IK hA;have I:=B F R
 have af:Ba (Env.ofS C.prog l m) fn.params.toList=Ba (Env.of C.prog) fn.params.toList:=by
  generalize fn.params.toList=ts
  induction ts with
  |nil=>rfl
  |cons t r ih=>simp only [Ba];rw [ih];rfl
 refine (V2 (E:=Env.ofS C.prog l m) hE rfl hO hg O Z aa ab af (o:=none) (fun S ⟨ks,cs,M,a,b,c,_⟩=>A S ⟨ks,cs,M,a,b,c.1,c.2⟩) (Bo.none F) hA (fun j t v ht hv=>⟨_,_,P j t v (by simpa using ht) (by simpa using hv)⟩) (ac _ _ ad)).mono ?_
 rintro e W' ⟨rfl,k⟩
 refine ⟨.bool true,rfl,F,[],p++[],[],p,[],Q,?_,?_,?_,k.frame _,fun h=>by cases h⟩
 ·rw [List.append_nil,I,J];exact ⟨[],[],shut_bool hb true,rfl,rfl⟩
 ·rw [List.append_nil,I];exact Gf hl k hr hA (fun x hx=>Q.lt x (by simp [hx]))
 ·rw [List.append_nil,I,y];rfl
end Go.AE
namespace Go.AE
variable [Gl:Ax]
def jl (d:Dec):List Nat→List (Nat×List AI)
 |[]=>[]
 |j::r=>(j,(d.pts.getD j default).todo)::jl d r
def N8 (E:Env) (keys:List Nat) (N:Nat) (d:Dec) (T:List (Tr Plf)):Prop:=
 ∀(i:Nat) a,d.pts[i]?=some a→∃l,Hn E keys N d T i=some (jl d l)
theorem SS {d:Dec}:∀{l:List Nat} {j:Nat} {c:List AI},(j,c)∈jl d l→∀b,d.pts[j]?=some b→c=b.todo
 |[],j,c,h,b,e=>by cases h
 |a::r,j,c,h,b,e=>by
  rcases List.mem_cons.1 h with q|q
  ·cases q;simp [List.getD_eq_getElem?_getD,e]
  ·exact SS q b e
theorem N8.chk {E:Env} {keys:List Nat} {N:Nat} {d:Dec} {T:List (Tr Plf)} (h:N8 E keys N d T) (i:Nat) (C:Pt) (J:d.pts[i]?=some C) :
  ∃I,Hn E keys N d T i=some I∧∀j t,(j,t)∈I→∀r,d.pts[j]?=some r→t=r.todo:=by
 obtain ⟨l,hl⟩:=h i C J;exact ⟨_,hl,fun j t hm r hj=>SS hm r hj⟩
def Tr.appsLt (m:Nat):Tr Plf→Bool
 |.leaf .stuck=>true
 |.leaf (.done _ cs)=>GG 1000 m cs
 |.leaf (.next _ i)=>GG 1000 m i
 |.split e a b=>e.fits 1000 m&&a.appsLt m&&b.appsLt m
def Lu (m:Nat):List (Tr Plf)→Bool
 |[]=>true
 |t::r=>t.appsLt m&&Lu m r
def Gw:Nat→List (List (Tr Plf))→Bool
 |_,[]=>true
 |m,t::r=>Lu m t&&Gw (m+1) r
def gAt [Cr] (a:List (List (Tr Plf))):Nat→Nat→D→D
 |0,_,_=>.row []
 |n+1,k,x=>if k=n then Cy (Dg (a.getD n []) (gAt a n)) x else gAt a n k x
def FZ [Cr] (a:List (List (Tr Plf))):Nat→D→D:=gAt a a.length
theorem MW [Cr] (a:List (List (Tr Plf))) {k:Nat} (x:D):∀{n:Nat},k<n→gAt a n k x=gAt a (k+1) k x
 |0,h=>by omega
 |n+1,h=>by
  by_cases c:k=n
  ·subst c;rfl
  ·have:gAt a (n+1) k x=gAt a n k x:=by show (if k=n then _ else _)=_;rw [if_neg c]
   rw [this];exact MW a x (by omega)
theorem OY {m:Nat} {V W:Val} (k:V.d=W.d) (n:∀i,i<m→V.fn i=W.fn i):∀{t:Tr Plf},t.appsLt m=true→CJ V (t.get V)=CJ W (t.get W):=by
 have c:V.Alike 1000 m W:=⟨fun i _=>by rw [k],n⟩
 intro t
 induction t with
 |leaf l=>
  intro h;cases l with
  |stuck=>rfl
  |done s cs=>simp only [Tr.get,CJ];rw [Dp c h]
  |next j p=>simp only [Tr.get,CJ];rw [Dp c h]
 |split e a b f g=>
  intro h;simp only [Tr.appsLt,Bool.and_eq_true] at h;have o:Ai V e=Ai W e:=by unfold Ai;rw [SE.fits_ok c e h.1.1]
  simp only [Tr.get,o];cases Ai W e with
  |true=>exact f h.1.2
  |false=>exact g h.2
theorem Ud {m:Nat} {G H:Nat→D→D} (c:∀i,i<m→G i=H i) {T:List (Tr Plf)} (d:Lu m T=true):Dg T G=Dg T H:=by
 have key:∀(T:List (Tr Plf)),Lu m T=true→∀(i:Nat) t,T[i]?=some t→t.appsLt m=true:=by
  intro T
  induction T with
  |nil=>intro _ i t h;simp at h
  |cons a r ih=>
   intro h i t hi;simp only [Lu,Bool.and_eq_true] at h;cases i with
   |zero=>simp only [List.getElem?_cons_zero,Option.some.injEq] at hi;subst hi;exact h.1
   |succ i=>exact ih h.2 i t (by simpa using hi)
 funext x
 unfold Dg;split
 ·rename_i i b;split
  ·rename_i t e;exact OY (m:=m) (V:=I3 G b) (W:=I3 H b) rfl (fun i hi=>c i hi) (key T d i t e)
  ·rfl
 ·rfl
theorem Jw:∀{c:List (List (Tr Plf))} {m:Nat},Gw m c=true→∀(k:Nat) T,c[k]?=some T→Lu (m+k) T=true
 |[],m,_,k,T,h=>by simp at h
 |a::r,m,h,k,T,b=>by
  simp only [Gw,Bool.and_eq_true] at h;cases k with
  |zero=>simp only [List.getElem?_cons_zero,Option.some.injEq] at b;subst b;exact h.1
  |succ k=>
   have:=Jw h.2 k T (by simpa using b)
   rwa [show m+1+k=m+(k+1) by omega] at this
theorem GT [Cr] {a:List (List (Tr Plf))} (h:Gw 0 a=true) {k:Nat} {T:List (Tr Plf)} (b:a[k]?=some T) (x:D):FZ a k x=Cy (Dg T (FZ a)) x:=by
 have c:k<a.length:=(List.getElem?_eq_some_iff.1 b).1;have d:=Jw h k T b;rw [Nat.zero_add] at d
 have e:FZ a k x=Cy (Dg T (gAt a k)) x:=by
  unfold FZ;rw [MW a x c];show (if k=k then _ else _)=_
  rw [if_pos rfl];simp [List.getD_eq_getElem?_getD,b]
 rw [e,Ud (fun i hi=>?_) d]
 funext y
 unfold FZ;rw [MW a y hi,MW a y (show i<a.length by omega)]
end Go.AE
namespace Go.AE
variable [Gl:Ax]
abbrev iV (n:Nat):AV:=.si .i64 (.var n)
abbrev sV (n:Nat):AV:=.ss (.var n)
abbrev bV (n:Nat):AV:=.sb true (.var n)
abbrev dV (e:TypeId) (n:Nat):AV:=.dat e (.var n)
abbrev aV (b a n m:Nat):AV:=.asl b a (.lenL (.var n)) (.var m)
abbrev tO (l:List (Nat×AV)):Option Ab:=some (.cells l.length (SF l))
abbrev rV (e:TypeId) (n:Nat):Option Ab:=some (.arr e (.var n))
class Pg (p:outParam Program) (l:outParam (List Orc)):Prop where
 it:True
abbrev E0 {p:Program} {l:List Orc} [Pg p l]:Env:=Env.of p
abbrev EF {p:Program} {l:List Orc} [Pg p l] (m:Env→List Sm):Env:=Env.ofS p l (m E0)
def us:Nat→Nat→List SE
 |_,0=>[]
 |a,n+1=>.var a::us (a+1) n
section
variable {E:Env} {keys:List Nat} {N:Nat} {d:Dec} {T:List (Tr Plf)}
theorem dkN {n:Nat} (h:d.pts.length=n) (H:∀i,i<n→∃l,Hn E keys N d T i=some (jl d l)):N8 E keys N d T:=fun i b a=>H i (by
 rcases Nat.lt_or_ge i n with q|q
 ·exact q
 ·rw [List.getElem?_eq_none (by omega)] at a
  cases a)
theorem dk1 {x0:List Nat} (h:d.pts.length=1) (h0:Hn E keys N d T 0=some (jl d x0)):N8 E keys N d T:=dkN h fun i hi=>match i,hi with
 |0,_=>⟨_,h0⟩
 |i+1,hi=>absurd hi (by omega)
end
end Go.AE
namespace Go.AE
def RM:List Int:=[1,10,100,1000,10000,100000,1000000,10000000,100000000,1000000000,10000000000,100000000000,1000000000000,10000000000000,100000000000000,1000000000000000,10000000000000000,100000000000000000,1000000000000000000,10000000000000000000]
def S3:T (List AV):=.node none (.node none (.node (some (RM.map (.int .u64))) .nil .nil) .nil) .nil
instance gl0:Ax:=⟨S3⟩
theorem Rj {g:Nat} {l:List AV} (h:S3.get g=some l):g=3∧l=RM.map (.int .u64):=by
 unfold S3 at h;by_cases a:g=0
 ·rw [T.get_zero _ _ _ a] at h;cases h
 ·by_cases o:g%2=1
  ·rw [T.get_odd _ _ _ o] at h;by_cases b:g/2=0
   ·rw [T.get_zero _ _ _ b] at h;cases h
   ·by_cases o2:g/2%2=1
    ·rw [T.get_odd _ _ _ o2] at h;by_cases c:g/2/2=0
     ·rw [T.get_zero _ _ _ c] at h;cases h;exact ⟨by omega,rfl⟩
     ·by_cases o3:g/2/2%2=1
      ·rw [T.get_odd _ _ _ o3,T.get_nil] at h;cases h
      ·rw [T.get_even _ _ _ (by omega) c,T.get_nil] at h;cases h
    ·rw [T.get_even _ _ _ (by omega) b,T.get_nil] at h;cases h
  ·rw [T.get_even _ _ _ (by omega) a,T.get_nil] at h;cases h
theorem WR {W:World} (h:∀i,i<RM.length→W.cell? ⟨3,i,none⟩=some (.int .u64 (RM.getD i 0))):E6 (DF W):=by
 intro g l j;obtain ⟨rfl,rfl⟩:=Rj j;have h0:=h 0 (by decide)
 unfold World.cell? at h0;cases c:W.heap[3]? with
 |none=>simp [c] at h0
 |some o=>
  cases o with
  |cells arr e k=>
   refine ⟨arr,by unfold DF;rw [c],fun i a b=>?_⟩
   rw [List.getElem?_map] at b;cases d:RM[i]? with
   |none=>rw [d] at b;cases b
   |some z=>
    rw [d] at b;cases b;have hi:=(List.getElem?_eq_some_iff.1 d).1;have f:=h i hi;unfold World.cell? at f;simp only [c,Option.isSome_none,Bool.false_eq_true,if_false] at f;refine ⟨_,f,?_⟩;show _=_;rw [List.getD_eq_getElem?_getD,d];rfl
  |_=>simp [c] at h0
end Go.AE

