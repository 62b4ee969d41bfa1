/- What is proved here: an evaluator of the model's steps that the kernel can run, and that whatever it answers is what the model does (part 7 of 7: AeVc1, AeVc2, AeVc3, AeDec1, AeDec2, AeDec3, AeDec4, AeDec5, AeShort, AeGlob). Conditions: those that each theorem states; they hold of no one program. -/
import Derived.Test.YtojjaeaohjlfnaaGreatBeF
import Derived.JoinedCond
set_option linter.unusedVariables false
set_option linter.unusedSectionVars false
set_option linter.unusedSimpArgs false
namespace Go.AE
variable [Gl:AG]
def BV:Code→Option Nat
 |.region id _ _=>some id
 |.seq a b=>match BV a with
  |some i=>some i
  |none=>BV b
 |.cond _ a b=>match BV a with
  |some i=>some i
  |none=>BV b
 |.block _ b=>BV b
 |.loop b=>BV b
 |.scope b=>BV b
 |_=>none
def Wk(keys:List Nat)(c:Code):Bool:=match BV c with
 |some i=>Nu i keys
 |none=>false
def f4(keys:List Nat)(s:AS):Bool:=
 match s.cs,s.fr.mode,s.fr.todo with
 |[],.run,.code (.loop b)::_=>Wk keys b
 |[],.run,.inLoop b::_=>Wk keys b
 |_,_,_=>false
def iO:AV→Option SB
 |.sb _ e=>some e
 |_=>none
def orE(a b:Option SB):Option SB:=match a with
 |some x=>some x
 |none=>b
def ask[U:Facts](e:SB):Option SB:=match AN U.facts e with
 |none=>some e
 |some _=>none
def Sc[Facts](i n:SE):Option SB:=orE (ask (.lss i (.c 0))) (ask (.lss i n))
def Oj[Facts](a:List SE):List (SB×Bool)→Option SB
 |[]=>none
 | (e,_)::r=>orE (ask (e.inst a)) (Oj a r)
inductive Z7 where
 |ask (e:SB)
 |no
 |free
 deriving Inhabited
def X7:Obs→Bool
 |[]=>true
 | (a,.bc true)::r=>a.isB&&X7 r
 |_=>false
def V2[Facts]:Obs→Option SB
 |[]=>none
 | (a,_)::r=>orE (ask a) (V2 r)
def VO:List AV→List AV→Bool
 |[],[]=>true
 |a::l,b::m=>(match a,b with
  |.func (.yield i) _ _,.func (.yield j) _ _=>Nat.beq i j
  |a,b=>Bx a b)&&VO l m
 |_,_=>false
def ZL:Option (List AV)→List AV→Bool
 |some l,m=>VO l m
 |none,_=>true
def Q5[Facts](E:Env)(f:FuncId)(args:List AV)(h:Aa):Option (List AV)→List Sm→Z7
  |_,[]=>.free
  |g,s::r=>match Nat.beq s.f f&&ZL g s.args with
    |true=>match Rn E s args h with
     | (a,c)=>match AL E s.pre 0 (HF E s.pre c (EE s.args a ⟨.nil,.nil⟩)) c with
      | (m,d)=>match Dg (Gp (IG m.v 0 s.nv) (Jj m.b 0 s.pre.length) s.args a) (EB E (IG m.v 0 s.nv) (Jj m.b 0 s.pre.length) d s.pre (Jj m.b 0 s.pre.length))with
        |some o=>match X7 o with
          |true=>match orE (V2 o) (Oj (IG m.v 0 s.nv) s.facts)with
            |some e=>.ask e
            |none=>match Q5 E f args h (some s.args) r with
              |.free=>.no
              |x=>x
          |false=>Q5 E f args h g r
        |none=>Q5 E f args h g r
    |false=>Q5 E f args h g r
def Yc[Facts](E:Env)(f:FuncId)(args:List AV)(h:Aa)(l:List Sm):Z7:=Q5 E f args h none l
def Ou[Facts](E:Env)(f:Nat):Ask→Aa→Option (Bool×AV×Aa):=fun a h=>match a with
 |.enter g args=>match KP E g args h with
  |some r=>some r
  |none=>match args.isEmpty,Yc E g args h E.sms with
   |true,.ask _=>none
   |true,.no=>none
   |_,_=>match Bc E g args .normal with
    |some fr=>Gg E f fr.fn true {fr,cs:=[],h}
    |none=>none
 |.round l args=>match G0 l args h with
  |some fr=>Gg E f fr.fn true {fr,cs:=[],h}
  |none=>none
def Jq[Facts](h:Aa):AV→Option SB
 |.asl b _ n _=>match h.blk.get b with
  |some (.arr _ y)=>match LS n y with
   |true=>none
   |false=>ask (.eql n (.lenL y))
  |_=>none
 |_=>none
def Uw[Facts](E:Env)(ts:List TypeId)(args:List AV)(h:Aa):Option SB:=
 match ts,args with
 |t::_,[s,x]=>match E.desc t with
  |some (.slice e)=>match E.kinds e with
   |some ks=>orE (orE (Jq h s) (Jq h x)) <| match WC e ks (Gs E e x (Gs E e s h)) s with
    |some (a,_,_)=>match bT e ks (Gs E e x (Gs E e s h)) a x with
     |some (_,m)=>orE (ask (.lss (.lenL a) (.c 1073741824))) (ask (.lss m (.c 1048576)))
     |none=>none
    |none=>none
   |none=>none
  |_=>none
 |_,_=>none
def PK[Facts](mx:Bool):SE→List AV→Option SB
 |_,[]=>none
 |x,y::r=>match toI y with
  |some (_,b)=>match (match mx with|true=>AN Facts.facts (.lss x b)|false=>AN Facts.facts (.lss b x))with
   |some true=>PK mx b r
   |some false=>PK mx x r
   |none=>some (match mx with|true=>.lss x b|false=>.lss b x)
  |none=>none
def RB[Facts](mx:Bool):List AV→Option SB
 |y::r=>match toI y with
  |some (_,a)=>PK mx a r
  |none=>none
 |[]=>none
def VI[Facts](E:Env)(t:TypeId)(k:AV):List AA→Option SB
 |[]=>none
 |e::r=>match eqK E t k e.key with
  |some true=>none
  |some false=>VI E t k r
  |none=>Ik E 10000 t k e.key
def VX[Facts](E:Env)(t:TypeId)(m k:AV)(h:Aa):Option SB:=
 match MW E t,m with
 |some (d,e,a,b),.map r=>match bp d e a b (h.blk.get r),W9 a k with
  |some x,some f=>ask (.lss (.mIdx a x f) (.c 0))
  |_,_=>none
 |_,_=>none
def Yp[Facts](n:SE):Option SE→Option SE→Option SB
 |some l,some u=>orE (ask (.lss l (.c 0))) (orE (ask (.lss u l)) (ask (.lss n u)))
 |_,_=>none
def ZS[U:Facts](e:SE):Nat→Nat→Option SB
 |0,_=>none
 |n+1,j=>match AN U.facts (.eql e (.c j))with
  |some true=>none
  |some false=>ZS e n (j+1)
  |none=>some (.eql e (.c j))
def IS[Facts](n:Nat):AV→Option SB
 |.si _ e=>match Nat.ble n 64 with
  |true=>ZS e n 0
  |false=>none
 |_=>none
def JH[Facts](n:Nat):Option AV→Option SB
 |some a=>IS n a
 |none=>none
def Zr[U:Facts](E:Env)(t:TypeId)(d x:AV)(h:Aa):Option SB:=
 match E.desc t,d with
 |some (.slice e),.slice _ _ n _=>match gQ e h x with
  |some y=>match AN U.facts (.lss (.lenL y) (.c n))with
   |some true=>IS n (.si .i64 (.lenL y))
   |some false=>none
   |none=>some (.lss (.lenL y) (.c n))
  |none=>Jq h x
 |_,_=>none
def NO[Facts]:SE→Option SB
 |.strc _ _=>none
 |e=>ask (.lss (.lenS e) (.c 4611686018427387904))
def Pr(E:Env)(t:TypeId):Nat:=match E.desc t with
 |some (.array n _)=>n
 |_=>0
def Js[Facts]:AV→Option SB
 |.nmap _ nl=>ask nl
 |.iface _ (.nmap _ nl)=>ask nl
 |_=>none
def M8[Facts]:List AV→Option SB
 |[]=>none
 |a::r=>orE (Js a) (M8 r)
def cp[Facts](tmps:T AV):Op→Option SB
 |.lookup _ m _ _=>Js (Aj tmps m)
 |.mapUpdate _ m _ _=>Js (Aj tmps m)
 |.mapEntry _ m _=>Js (Aj tmps m)
 |.range _ x=>Js (Aj tmps x)
 |.call c=>match c.callee with
  |.builtin .append=>none
  |.builtin _=>M8 (c.args.toList.map (Aj tmps))
  |.value _=>M8 (c.args.toList.map (Aj tmps))
  |_=>none
 |_=>none
def bI[Facts](E:Env)(tmps:T AV)(h:Aa)(g:Op):Option SB:=
 match g with
 |.pick c _ _=>iO (Aj tmps c)
 |.binOp .add _ x y _=>match Sy (Aj tmps x),Sy (Aj tmps y)with
  |some a,some b=>orE (NO a) (NO b)
  |_,_=>none
 |.binOp _ _ x y _=>match Aj tmps x,Aj tmps y with
  |.sb _ a,.sb _ b=>orE (ask a) (ask b)
  |_,.si _ b=>ask (.eql b (.c 0))
  |_,_=>none
 |.makeSlice _ l _=>match Aj tmps l with
  |.si _ n=>orE (ask (.lss n (.c 0))) (ask (.lss n (.c 1048577)))
  |_=>none
 |.indexAddr _ x i=>match Aj tmps x,toI (Aj tmps i)with
  |.dat _ y,some (_,j)=>Sc j (.lenL (Cf y))
  |.asl _ _ n _,some (_,j)=>Sc j n
  |.slice _ _ n _,_=>IS n (Aj tmps i)
  |.ptr _ _,_=>match g with
   |.indexAddr t _ _=>IS (Pr E t) (Aj tmps i)
   |_=>none
  |_,_=>none
 |.load _ a=>match Aj tmps a with
  |.aptr b _ i _=>match h.blk.get b with
   |some (.arr _ y)=>Sc i (.lenL (Cf y))
   |_=>none
  |_=>none
 |.store _ a _=>match Aj tmps a with
  |.aptr b _ i _=>match h.blk.get b with
   |some (.arr _ y)=>Sc i (.lenL (Cf y))
   |_=>none
  |_=>none
 |.index _ x i=>match Aj tmps x,toI (Aj tmps i)with
  |.ss y,some (_,j)=>Sc j (.lenS y)
  |.agg _,_=>match g with
   |.index t _ _=>IS (Pr E t) (Aj tmps i)
   |_=>none
  |_,_=>none
 |.convert _ _ x=>Jq h (Aj tmps x)
 |.slice _ x lo hi _=>match Aj tmps x with
  |.dat _ y=>Yp (.lenL y) (HA (.c 0) (A4 tmps lo)) (HA (.lenL y) (A4 tmps hi))
  |.ss y=>Yp (.lenS y) (HA (.c 0) (A4 tmps lo)) (HA (.lenS y) (A4 tmps hi))
  |.asl b o n nl=>orE (Jq h (.asl b o n nl)) (match h.blk.get b with
   |some (.arr _ y)=>Yp (.lenL y) (HA (.c 0) (A4 tmps lo)) (HA (.lenL y) (A4 tmps hi))
   |_=>none)
  |.slice _ _ n _=>orE (JH (n+1) (A4 tmps lo)) (JH (n+1) (A4 tmps hi))
  |.ptr _ _=>match g with
   |.slice t _ _ _ _=>orE (JH (Pr E t+1) (A4 tmps lo)) (JH (Pr E t+1) (A4 tmps hi))
   |_=>none
  |_=>none
 |.lookup t m k _=>match E.desc t,Aj tmps m with
  |some (.map p _),.map r=>match h.blk.get r with
   |some (.map o _)=>VI E p (Aj tmps k) o
   |some (.dmap _ _ _)=>VX E t (Aj tmps m) (Aj tmps k) h
   |_=>none
  |_,_=>none
 |.mapUpdate t m k _=>match Qe (Aj tmps k)||dm (Wr h (Aj tmps m))with
  |true=>VX E t (Aj tmps m) (Aj tmps k) h
  |false=>none
 |.mapEntry t m k=>match Qe (Aj tmps k)||dm (Wr h (Aj tmps m))with
  |true=>VX E t (Aj tmps m) (Aj tmps k) h
  |false=>none
 |.call c=>match c.callee with
  |.builtin .max=>RB true (c.args.toList.map (Aj tmps))
  |.builtin .min=>RB false (c.args.toList.map (Aj tmps))
  |.builtin .delete=>match c.argTypes.toList,c.args.toList.map (Aj tmps)with
   |t::_,[m,k]=>match LC E t m k h with
    |some _=>none
    |none=>VX E t m k h
   |_,_=>none
  |.builtin .copy=>match c.argTypes.toList,c.args.toList.map (Aj tmps)with
   |t::_,[d,x]=>match re E t d x h with
    |some _=>none
    |none=>Zr E t d x h
   |_,_=>none
  |.builtin .append=>Uw E c.argTypes.toList (c.args.toList.map (Aj tmps)) h
  |.builtin _=>none
  |_=>match aop E tmps h g with
   |.enter f args _=>match Yc E f args h E.sms with
    |.ask e=>some e
    |_=>none
   |_=>none
 |_=>none
def j8[Facts](E:Env)(tmps:T AV)(h:Aa)(a:Op):Option SB:=orE (cp tmps a) (bI E tmps h a)
def aM[Facts](E:Env)(s:AS):Z7:=
 match E.sms.isEmpty with
 |true=>.free
 |false=>match s.fr.mode,s.fr.todo with
  |.run,.ops all (o::_)::_=>match Nh o.op with
   |true=>.free
   |false=>match BK all o s.fr.tmps with
    |some true=>match aop E s.fr.tmps s.h o.op with
     |.enter f args _=>Yc E f args s.h E.sms
     |_=>.free
    |_=>.free
  |.run,.code (.rangeFunc f params assign body)::k=>match Ed E s f params.toList assign body k with
   |some (g,args,a,_)=>Yc E g args a E.sms
   |none=>.free
  |_,_=>.free
def X0(all:Array Oper)(o:Oper)(tmps:T AV):Option SB:=match o.guard with
 |some (j,_)=>match all.toList[j]? with
  |some g=>match g.dst with
   |some d=>match tmps.get d with
    |some v=>iO v
    |none=>none
   |none=>none
  |none=>none
 |none=>none
def fj[Facts](E:Env)(all:Array Oper)(o:Oper)(tmps:T AV)(h:Aa):Option SB:=
 match BK all o tmps with
 |none=>X0 all o tmps
 |some _=>j8 E tmps h o.op
mutual
def VP[Facts](E:Env):Nat→AS→Option SB
 |0,_=>none
 |n+1,s=>match s.fr.todo with
  |.code (.cond c _ _)::_=>iO (Aj s.fr.tmps c)
  |.ops all (o::_)::_=>fj E all o s.fr.tmps s.h
  |.code (.region _ ops true)::_=>SW E n ops s.fr.nt ops.toList [] s.fr.tmps s.h
  |_=>none
def LF[Facts](E:Env):Nat→AS→Option SB
 |0,_=>none
 |n+1,s=>match WZ E s with
  |some i=>LF E n i
  |none=>match aM E s with
   |.ask e=>some e
   |.no=>none
   |.free=>match A6 E s with
    |.next i=>LF E n i
    |.draw s ops k=>match B1 E (Ou E n) ops s.fr.nt ops.toList [] s.fr.tmps s.h with
     |some (none,tmps,h)=>LF E n {s with fr:={s.fr with tmps,todo:=k},h}
     |_=>VP E n s
    |_=>VP E n s
def SW[Facts](E:Env):Nat→Array Oper→Nat→List Oper→List Rc→T AV→Aa→Option SB
 |0,_,_,_,_,_,_=>none
 |_+1,_,_,[],_,_,_=>none
 |n+1,all,nt,o::rest,b,tmps,h=>match Dj E (Ou E n) all o (A0 tmps (Bj all o)) h with
  |some d=>match Ey nt tmps o.dst d.v with
   |some a=>SW E n all nt rest b a (AX h d.g)
   |none=>none
  |none=>match fj E all o (A0 tmps (Bj all o)) h with
   |some e=>some e
   |none=>match aop E tmps h o.op with
    |.enter f args _=>match Yc E f args h E.sms with
     |.ask e=>some e
     |.no=>none
     |.free=>match Bc E f args .normal with
      |some fr=>LF E n {fr,cs:=[],h}
      |none=>none
    |_=>none
end
inductive dy where
 |cut (F:List (SB×Bool)) (s:AS)
 |done (F:List (SB×Bool)) (v:AV) (h:Aa)
 |stuck (F:List (SB×Bool))
 deriving Inhabited
def Bz(V:Val)(F:List (SB×Bool)):Prop:=∀e b,(e,b)∈F→Ah V e=b
def Bn(ρ:Ren)(n:Nat):Prop:=∀b,n≤b→ρ b=none
@[reducible] def Bk(v:Vals)(F:List (SB×Bool))(h:Bz v.V F):Unk:={facts:=F,toVals:=v,ok:=h}
theorem Bn.ext[v:Vals]{ρ l:Ren}{h h':Aa}{w r:World}(t:Bn ρ h.nx)(e:Ext ρ l h h' w r):Bn l h'.nx:=by
 intro b J;have:=e.nx;cases I:l b with
 |none=>rfl
 |some base=>
  rcases e.new b base I with q|⟨_,q,_⟩
  ·rw[t b (by omega)]at q;cases q
  ·omega
def dy.Good[v:Vals](P:Program)(J:Ren)(s:AS)(c:Frame)(t:List Frame)(w:World)(base:List Frame):dy→Prop
 |.cut F I=>Bz v.V F∧I.cs=[]∧∃r c' l,Steps P (lone c (t++base) w) (lone c' base l)∧SR r I c' [] l∧Ext J r s.h I.h w l
 |.done F x h=>Bz v.V F∧∃r cf v' w1 l,Steps P (lone c (t++base) w) (lone cf base w1)∧Jo P cf w1 true v' l∧VR r x v'∧HR r h.blk.get l∧Ext J r s.h h w l
 |.stuck F=>Bz v.V F
theorem dy.Good.pre[v:Vals]{P:Program}{ρ σ:Ren}{s s':AS}{c c':Frame}{t r:List Frame}{w I:World}{base:List Frame}{l:dy}(hs:Steps P (lone c (t++base) w) (lone c' (r++base) I))(he:Ext ρ σ s.h s'.h w I)(hf:Bn ρ s.h.nx)
 (h:l.Good P σ s' c' r I base):l.Good P ρ s c t w base:=by
 cases l with
 |cut F s2=>
  obtain⟨J,h2,τ,c2,w2,q1,q2,q3⟩:=h;exact⟨J,h2,τ,c2,w2,Steps.trans hs q1,q2,he.trans q3 (fun b hb _=>hf b hb)⟩
 |done F x h2=>
  obtain⟨J,τ,cf,v',w1,w2,q1,q2,q3,q4,q5⟩:=h;exact⟨J,τ,cf,v',w1,w2,Steps.trans hs q1,q2,q3,q4,he.trans q5 (fun b hb _=>hf b hb)⟩
 |stuck F=>exact h
theorem QP{U:Unk}{E:Env}(hE:OK E)(hO:Ac E U.V.fn)(n:Nat):FN E (Ou E n):=by
 have t:∀(fr:AF)(g e:Aa)(ok:Bool)(v:AV)(f:Ren)(j:Frame)(w:World),FrR f fr j→HR f g.blk.get w→WF g→Gg E n fr.fn true {fr,cs:=[],h:=g}=some (ok,v,e)→AW f g.nx e.nx→
   ∀(c0:Frame)(base:List Frame),∃m p o,BI E.P (lone j (c0::base) w) c0 base ok p o∧VR m v p∧HR m e.blk.get o∧Ext f m g e w o:=by
  intro fr g e ok v f j w d k c b a c0 base;obtain⟨m,x,p,w1,o,y,D,F,z,A,B,C⟩:=YK hE hO n fr.fn true {fr,cs:=[],h:=g} f j [] w ok v e ⟨d,.nil,k⟩ c b a (c0::base);refine⟨m,p,o,?_,A,B,C⟩;have:=Steps.trans y (Steps.one (z.back c0 base));cases ok<;>exact this
 refine⟨?_,?_⟩
 ·intro G args q g e ok v f w u k c b a;simp only[Ou]at b;split at b
  ·rename_i r i;cases b;exact Ew hE hO i u k c a
  ·split at b
   ·cases b
   ·cases b
   ·split at b
    ·rename_i fr d;exact t fr g e ok v f _ w (Ca hE d u) k c b a
    ·cases b
 ·intro l args g e ok v f w k c b a;simp only[Ou]at b;split at b
  ·rename_i fr d;exact⟨fr,d,fun j s=>t fr g e ok v f j w s k c b a⟩
  ·cases b
end Go.AE
namespace Go.AE
variable [Gl:AG]
instance adLit {n:Nat}:OfNat AD n:=⟨{fn:=none,coll:=n,captured:=[],args:=[]}⟩
structure Cut where
 key:Option Nat
 fn:FuncId
 nt:Nat
 nv:Nat
 todo:List AI
 tmps:T AV
 pre:List (Option An)
 facts:List (SB×Bool)
 res:AV
 post:List (Option An)
 ent:Nat:=0
 defs:List AD:=[]
 deriving Inhabited
def Kr(l:List AD):List AD:=l
def fb(c:List SE)(b:List Nat)(d a:AD):Bool:=
 match d.fn,a.fn with
 |none,none=>toB b d.coll a.coll
 |some f,some g=>dY b f g&&Qy (Gp c b d.captured a.captured)&&Qy (Gp c b d.args a.args)
 |_,_=>false
def Qo(b:List SE)(c:List Nat):List AD→List AD→Bool
 |[],[]=>true
 |d::r,a::l=>fb b c d a&&Qo b c r l
 |_,_=>false
def YB:List (Option An)→Nat→Nat→T Nat→T Nat
 |some _::r,i,n+1,t=>YB r (i+1) n (t.set i i)
 |none::r,i,n+1,t=>YB r (i+1) n t
 |_,_,_,t=>t
def Cut.fr(c:Cut):AF:={fn:=c.fn,nt:=c.nt,tmps:=c.tmps,todo:=c.todo,defers:=Kr c.defs,mode:=.run,kind:=.normal,round:=none}
def Cut.h(c:Cut):Aa:={blk:=A8 c.pre,nx:=c.pre.length,log:=[]}
def Cut.st(c:Cut):AS:={fr:=c.fr,cs:=[],h:=c.h}
def Cut.h'(c:Cut):Aa:={blk:=A8 c.post,nx:=c.post.length,log:=List.range c.pre.length}
def dt(d a:AD)(m:Bd):Bd:=
 match d.fn with
 |none=>m.blk d.coll a.coll
 |some _=>EE d.args a.args (EE d.captured a.captured m)
def SV:List AD→List AD→Bd→Bd
 |d::r,a::l,m=>SV r l (dt d a m)
 |_,_,m=>m
def SJ(c:Cut)(s:AS):Bd:=SV c.defs s.fr.defers (Rh c.tmps s.fr.tmps ⟨.nil,YB c.pre 0 c.ent .nil⟩)
def Cut.At(P:Program)(G:Nat→D→D)(c:Cut)(V:Val):Prop:=
 ∀(v:Vals),v.V=V→v.K=(Env.of P).kinds→V.fn=G→Bz V c.facts→∀(ρ:Ren)(t:Frame)(w:World),FrR ρ c.fr t→HR ρ c.h.blk.get w→Bn ρ c.pre.length→
  ∀(c0:Frame)(base:List Frame),∃l I r,BI P (lone t (c0::base) w) c0 base true I r∧VR l c.res I∧HR l c.h'.blk.get r∧Ext ρ l c.h c.h' w r
structure VC where
 F:List (SB×Bool)
 obs:Obs
 rec_:Option (Nat×List SE×List AI)
 deriving Inhabited
def idT:Nat→T Nat→T Nat
 |0,t=>t
 |n+1,t=>idT n (t.set n n)
def VY:Nat→Nat→List Nat→Bool
 |_,0,_=>true
 |i,n+1,b::r=>Nat.beq b i&&VY (i+1) n r
 |_,_+1,[]=>false
def PV:List (Option An)→Bool
 |[]=>true
 |some _::r=>PV r
 |none::_=>false
def VD[Facts](E:Env)(c:Cut)(v:AV)(h:Aa):Option Obs:=
 match AL E c.post 0 (HF E c.post h (E7 c.res v ⟨.nil,idT c.pre.length .nil⟩)) h with
 | (m,d)=>
  let a:=Jj m.b 0 c.post.length
  Ds (VY 0 c.pre.length a&&(FZ c.post a&&PV (c.post.drop c.pre.length))&&Nat.ble c.pre.length c.post.length) (Dg (CH [] a c.res v) (EB E [] a d c.post a))
def U3:List AI→Bool
 |[]=>true
 |.inRange _::_=>false
 |.endRange _::_=>false
 |.rest::_=>false
 |.dead::_=>false
 |.beginRound::_=>false
 |_::r=>U3 r
def HM.isRun:HM→Bool
 |.run=>true
 |_=>false
def Za:CallKind→Bool
 |.normal=>true
 |_=>false
def JO(a:List SE):List (SB×Bool)→Obs
 |[]=>[]
 | (e,b)::r=>(e.inst a,.bc b)::JO a r
def Zn[Facts](E:Env)(c:Cut)(s:AS):Option (List SE×AV×Aa×Obs):=
 match AL E c.pre 0 (HF E c.pre s.h (SJ c s)) s.h with
 | (m,d)=>
  let e:=IG m.v 0 c.nv
  let a:=Jj m.b 0 c.pre.length
  match Fg a&&N5 d.nx a&&Nat.ble c.pre.length c.post.length&&Nat.beq s.fr.fn c.fn&&Nat.beq s.fr.nt c.nt&&Qo e a c.defs s.fr.defers&&s.fr.mode.isRun&&Za s.fr.kind&&s.fr.round.isNone&&U3 s.fr.todo with
  |true=>match Dg (leT e a c.tmps s.fr.tmps) (EB E e a d c.pre a),D6 e (a++Dl d.nx (c.post.length-c.pre.length)) c.post (a++Dl d.nx (c.post.length-c.pre.length)) d.blk with
   |some o,some t=>some (e,c.res.inst e (a++Dl d.nx (c.post.length-c.pre.length)),{blk:=t,nx:=d.nx+(c.post.length-c.pre.length),log:=a++d.log},o++JO e c.facts)
   |_,_=>none
  |false=>none
theorem Nb:∀{l:List (Option An)},PV l=true→∀i,i<l.length→∃x,l[i]?=some (some x)
 |[],_,i,h=>by simp at h
 |some x::r,h,i,hi=>by
  cases i with
  |zero=>exact⟨x,rfl⟩
  |succ i=>simpa using Nb (l:=r) h i (by simpa using hi)
 |none::_,h,_,_=>by cases h
theorem Q7:∀(n i:Nat)(l:List Nat),VY i n l=true→∀j,j<n→l[j]?=some (i+j)
 |0,i,l,h,j,a=>by omega
 |n+1,i,[],h,j,a=>by cases h
 |n+1,i,b::r,h,j,a=>by
  simp only[VY,F9]at h;cases j with
  |zero=>simp[gk h.1]
  |succ j=>
   have:=Q7 n (i+1) r h.2 j (by omega)
   simp only[iv,this]
   congr 1;omega
theorem L5{V:Val}{d:List SE}:∀{l:List (SB×Bool)},(JO d l).holds V→Bz (V.inst d) l
 |[],h,e,b,f=>by cases f
 | (x,c)::r,h,e,b,f=>by
  rcases i0.1 f with q|q
  ·cases q;have:=h (x.inst d) (.bc c) (by simp[JO])
   unfold Ah;rw[←BA,this];rfl
  ·exact L5 (fun a g h'=>h a g (by simp[JO,h'])) e b q
theorem RL{v u:Vals}{ρ c:Ren}:∀{l:List AI}{b:List Item},U3 l=true→@IL v ρ l b→@IL u c l b
 |[],b,h,hi=>by cases hi;exact .nil
 |a::r,b,h,hi=>by
  cases hi with
  |cons d e=>
   cases d<;>simp only[U3,ie]at h<;>first | (cases h;done)|skip
   all_goals exact .cons (by constructor<;>assumption) (RL h e)
  |rest=>cases h
theorem NX{U W:Unk}{p:List SE}(hV:W.V=U.V.inst p)(hK:W.K=U.K){q:List Nat}{ρ:Ren}:∀{s:List AD}{l:List AD}{j:List Deferred},Qo p q s l=true→@DL U.toVals ρ l j→@DL W.toVals (ρ.back q) (Kr s) j
 |[],[],[],_,_=>trivial
 |[],[],_::_,_,h=>h.elim
 |d::r,a::l,[],_,h=>h.elim
 |d::r,a::l,B::j,h,t=>by
  simp only[Qo,F9]at h;obtain⟨b,u⟩:=h;refine⟨?_,NX hV hK u t.2⟩;have e:=t.1;unfold DR at e ⊢;unfold fb at b;cases i:d.fn with
  |none=>
   cases c:a.fn with
   |none=>
    rw[i,c]at b;rw[c]at e;obtain⟨base,k,m⟩:=e;exact⟨base,by rw[EH b];exact k,m⟩
   |some g=>rw[i,c]at b;cases b
  |some f=>
   cases c:a.fn with
   |none=>rw[i,c]at b;cases b
   |some g=>
    rw[i,c]at b;rw[c]at e;simp only[F9]at b;obtain⟨⟨v,w⟩,b3⟩:=b;obtain⟨n,x,y,k,m,z,A⟩:=e;exact⟨n,x,y,Vi hV hK v k,DI hV hK _ _ _ _ (N9 w) (fun _ _ o=>by cases o) m,DI hV hK _ _ _ _ (N9 b3) (fun _ _ o=>by cases o) z,A⟩
 |[],_::_,_,h,_=>by cases h
 |_::_,[],_,h,_=>by cases h
section
variable {E:Env}{G:Nat→D→D}(hE:∀[U:Unk],U.K=(Env.of E.P).kinds→OK E){v:Vals}(hK:v.K=(Env.of E.P).kinds)
include hE hK
theorem YO{F:List (SB×Bool)}(i:Bz v.V F){c:Cut}{x:AV}{S:Value}{h:Aa}{R u:Ren}{w M:World}{o:Obs}(t:@VD ⟨F⟩ E c x h=some o)(ho:o.holds v.V)(hv:VR u x S)(T:HR u h.blk.get M)(X:WF h)(he:Ext R u c.h h w M)(A:Bn R c.pre.length) :
  ∃Y,VR Y c.res S∧HR Y c.h'.blk.get M∧Ext R Y c.h c.h' w M:=by
 have Z:@OK _ (Bk v F i) E:=hE (U:=Bk v F i) hK;have C:Bn u h.nx:=Bn.ext (h:=c.h) A he;unfold VD at t;split at t;rename_i m h1 aa;obtain⟨hc,t⟩:=AP t;obtain⟨o1,o2,ab,N,rfl⟩:=Bv t;obtain⟨ac,O⟩:=Obs.append ho;generalize ah:Jj m.b 0 c.post.length=L at *;have e2:(@AL ⟨F⟩ E c.post 0 (@HF ⟨F⟩ E c.post h (E7 c.res x ⟨.nil,idT c.pre.length .nil⟩)) h).2=h1:=by rw[aa]
 obtain⟨q1,q2,q3⟩:=Br (U:=Bk v F i) (E:=E) c.post 0 (@HF ⟨F⟩ E c.post h (E7 c.res x ⟨.nil,idT c.pre.length .nil⟩)) h T X (fun b b1 _=>C b b1)
 rw[e2]at q1 q2 q3;have f:Ext R u c.h h1 w M:=he.trans q2 (fun b l _=>A b l)
 simp only[F9]at hc;obtain⟨⟨H,ad,Q⟩,n⟩:=hc;have H:=Q7 _ _ _ H;have n:c.pre.length≤c.post.length:=kp n;have hV:(Bk v F i).V=(Bk v F i).V.inst []:=rfl;have p1:=Gn (U:=Bk v F i) (W:=Bk v F i) hV rfl c.res x o1 S ab ac hv;have p2:=HR.toPatL (U:=Bk v F i) (W:=Bk v F i) hV rfl Z q1 N O ad;obtain⟨l1,l2⟩:=Dk (U:=Bk v F i) (W:=Bk v F i) hV rfl c.post L o2 N O;have g:∀j,j<c.pre.length→L[j]?=some j:=fun j hj=>by have:=H j hj;simpa using this
 refine⟨u.back L,p1,p2,⟨⟨fun b base l=>?_,fun k a hk=>f.le.imm k a hk⟩,n,fun b base l=>?_,f.calm,f.kept,⟨List.range c.pre.length,by simp[Cut.h',Cut.h],fun b l T=>?_⟩,fun b l=>?_,f.imm⟩⟩
 ·have I:b<c.pre.length:=by
   rcases hH b c.pre.length with q|q
   ·exact q
   ·rw[A b q]at l;cases l
  show(L[b]?).bind u.m=some base;rw[g b I];exact f.le.m b base l
 ·have B:(L[b]?).bind u.m=some base:=l;cases e:L[b]? with
  |none=>rw[e]at B;cases B
  |some d=>
   rw[e]at B;have J:u d=some base:=B;rcases f.new d base J with q|⟨a1,a2,a3⟩
   ·have I:d<c.pre.length:=by
     rcases hH d c.pre.length with p|p
     ·exact p
     ·rw[A d p]at q;cases q
    rcases hH b c.pre.length with p|p
    ·rw[g b p]at e;cases e;exact .inl q
    ·have ai:=(L2.1 e).1;have ae:b<c.post.length:=by omega
     obtain⟨y,hy⟩:=Nb Q (b-c.pre.length) (by simp;omega)
     rw[q0,show c.pre.length+(b-c.pre.length)=b by omega]at hy
     obtain⟨d',z,_,a1,a2,_,_⟩:=l2 b y hy;rw[e]at a1;cases a1;refine .inr ⟨p,ae,.inr ⟨d,base,q,?_,rfl⟩⟩;rcases f.live d (by rw[a2];exact F2 _)with r|⟨r,_⟩
     ·exact r
     ·have:c.pre.length≤d:=r;omega
   ·have af:c.pre.length≤b:=by
     rcases hH b c.pre.length with p|p
     ·rw[g b p]at e;cases e;have:c.pre.length≤b:=a1;omega
     ·exact p
    have I:=(L2.1 e).1;exact .inr ⟨af,by show b<c.post.length;omega,a3⟩
 ·have ag:c.pre.length≤b:=by
   rcases hH b c.pre.length with q|q
   ·exact absurd (List.mem_range.2 q) l
   ·exact q
  have J:c.post.length≤b:=by
   rcases T with q|q
   ·have:b<c.pre.length:=q;omega
   ·exact q
  show(A8 c.post).get b=(A8 c.pre).get b;rw[Cs,Cs,Aeq J,Aeq ag]
 ·have s:(A8 c.post).get b≠none:=l;rw[Cs]at s;cases t:c.post[b]? with
  |none=>rw[t]at s;exact absurd rfl s
  |some ox=>
   cases ox with
   |none=>rw[t]at s;exact absurd rfl s
   |some y=>
    obtain⟨d,z,_,a1,a2,_,_⟩:=l2 b y t;rcases hH b c.pre.length with q|q
    ·rw[g b q]at a1;cases a1;rcases f.live b (by rw[a2];exact F2 _)with r|⟨r,_⟩
     ·exact .inl r
     ·have:c.pre.length≤b:=r;omega
    ·exact .inr ⟨q,(L2.1 t).1⟩
end
end Go.AE
namespace Go.AE
variable [Gl:AG]
structure VC.Holds(G:Nat→D→D)(Pre:Nat→Val→Prop)(μ:Nat→Val→Nat)(i:Nat)(V:Val)(vc:VC):Prop where
 obs:vc.obs.holds V
 rec_:∀j θ td,vc.rec_=some (j,θ,td)→Pre j (V.inst θ)∧μ j (V.inst θ)<μ i V
theorem Kq(l:List (Option An))(n:List Nat):WF {blk:=A8 l,nx:=l.length,log:=n}:=by
 intro b a;show(A8 l).get b=none;rw[Cs,Aeq a];rfl
def Cut.sm(c:Cut)(args:List AV):Sm:={f:=c.fn,nv:=c.nv,args,pre:=c.pre,facts:=c.facts,res:=c.res,post:=c.post}
def Ec(E:Env)(f:FuncId)(args:List AV):AF:=match Bc E f args .normal with
 |some fr=>fr
 |none=>default
def FD(E:Env)(f:FuncId)(nv:Nat)(args:List AV)(pre:List (Option An))(facts:List (SB×Bool))(res:AV)(post:List (Option An)):Cut:=
 {key:=none,fn:=f,nt:=(Ec E f args).nt,nv,todo:=(Ec E f args).todo,tmps:=(Ec E f args).tmps,pre,facts,res,post}
theorem sm_ok{E:Env}{G:Nat→D→D}(hE:∀[U:Unk],U.K=(Env.of E.P).kinds→OK E){f nv:Nat}{args:List AV}{pre:List (Option An)}{facts:List (SB×Bool)}{res:AV}{post:List (Option An)}(k:(Bc E f args .normal).isSome=true)
 (h:∀V:Val,V.fn=G→Bz V facts→(FD E f nv args pre facts res post).At E.P G V):Sm.Valid E.P G {f,nv,args,pre,facts,res,post}:=by
 intro U hK l a m w d n o g c0 base;cases b:Bc E f args .normal with
 |none=>rw[b]at k;cases k
 |some fr=>
  have i:=Ca (hE hK) b n
  have e:(FD E f nv args pre facts res post).fr=fr:=by
   unfold Bc at b;split at b
   ·rename_i fn j;split at b
    ·rename_i c p;cases b;simp[Cut.fr,FD,Ec,Bc,j,p,Kr]
    ·cases b
   ·cases b
  exact h U.V l a U.toVals rfl hK l a m _ w (by rw[e];exact i) o g c0 base
end Go.AE
namespace Go.AE
variable [Gl:AG]
inductive Tr(α:Type) where
 |leaf (a:α)
 |split (e:SB) (t f:Tr α)
 deriving Inhabited
inductive Lf where
 |cut (s:AS)
 |done (ok:Bool) (v:AV) (h:Aa)
 |stuck
 deriving Inhabited
def Lf.Good[v:Vals](P:Program)(f0:FuncId)(ρ:Ren)(s:AS)(c:Frame)(t:List Frame)(w:World)(base:List Frame)(F:List (SB×Bool)):Lf→Prop
 |.cut J=>Bz v.V F∧J.cs=[]∧∃r c' l,Steps P (lone c (t++base) w) (lone c' base l)∧SR r J c' [] l∧Ext ρ r s.h J.h w l
 |.done ok x h=>Bz v.V F∧∃r I v' w1 l,Steps P (lone c (t++base) w) (lone I base w1)∧I.fn=f0∧I.roundOf=none∧Jo P I w1 ok v' l∧VR r x v'∧HR r h.blk.get l∧Ext ρ r s.h h w l
 |.stuck=>Bz v.V F
theorem Lf.Good.pre[v:Vals]{P:Program}{f0:FuncId}{ρ σ:Ren}{s s':AS}{c c':Frame}{t r:List Frame}{w I:World}{base:List Frame}{F:List (SB×Bool)}{l:Lf}(hs:Steps P (lone c (t++base) w) (lone c' (r++base) I))(he:Ext ρ σ s.h s'.h w I)(hf:Bn ρ s.h.nx)
 (h:l.Good P f0 σ s' c' r I base F):l.Good P f0 ρ s c t w base F:=by
 cases l with
 |cut s2=>
  obtain⟨J,h2,τ,c2,w2,q1,q2,q3⟩:=h;exact⟨J,h2,τ,c2,w2,Steps.trans hs q1,q2,he.trans q3 (fun b hb _=>hf b hb)⟩
 |done ok x h2=>
  obtain⟨J,τ,cf,v',w1,w2,q1,q2,q3,q4,q5,q6,q7⟩:=h;exact⟨J,τ,cf,v',w1,w2,Steps.trans hs q1,q2,q3,q4,q5,q6,he.trans q7 (fun b hb _=>hf b hb)⟩
 |stuck=>exact h
def RZ(e:SB):Option (Tr Lf)→Option (Tr Lf)→Option (Tr Lf)
 |some a,some b=>some (.split e a b)
 |_,_=>none
def Tr.way{l:Type}(V:Val):Tr l→List (SB×Bool)→l×List (SB×Bool)
 |.leaf a,F=>(a,F)
 |.split e t f,F=>match Ah V e with
  |true=>t.way V ((e,true)::F)
  |false=>f.way V ((e,false)::F)
def Tr.get{l:Type}(V:Val):Tr l→l
 |.leaf a=>a
 |.split e t f=>match Ah V e with
  |true=>t.get V
  |false=>f.get V
def gn(keys:List Nat)(s:AS):Bool:=
 match s.cs,s.fr.mode,s.fr.todo with
 |[],.run,.code (.region id _ _)::_=>Nu (id+1000000) keys
 |_,_,_=>false
def HG(E:Env)(keys:List Nat)(a:FuncId):Nat→List (SB×Bool)→AS→Option (Tr Lf)
 |0,_,_=>some (.leaf .stuck)
 |n+1,F,s=>
  let part (_:Unit):Option (Tr Lf):=match @VP ⟨F⟩ E n s with
   |some e=>match AN F e with
    |none=>RZ e (HG E keys a n ((e,true)::F) s) (HG E keys a n ((e,false)::F) s)
    |some _=>some (.leaf .stuck)
   |none=>some (.leaf .stuck)
  match @WZ ⟨F⟩ E s with
  |some c=>HG E keys a n F c
  |none=>match @aM ⟨F⟩ E s with
  |.ask e=>RZ e (HG E keys a n ((e,true)::F) s) (HG E keys a n ((e,false)::F) s)
  |.no=>some (.leaf .stuck)
  |.free=>match @A6 ⟨F⟩ E s with
   |.next c=>match f4 keys s with
    |true=>some (.leaf (.cut c))
    |false=>match gn keys c with
     |true=>some (.leaf (.cut c))
     |false=>HG E keys a n F c
   |.done ok v h=>match s.fr.round.isNone&&Nat.beq s.fr.fn a with
    |true=>some (.leaf (.done ok v h))
    |false=>some (.leaf .stuck)
   |.draw b ops k=>match @B1 ⟨F⟩ E (@Ou ⟨F⟩ E n) ops b.fr.nt ops.toList [] b.fr.tmps b.h with
    |some (none,tmps,h)=>HG E keys a n F {b with fr:={b.fr with tmps,todo:=k},h}
    |some (some v,tmps,h)=>HG E keys a n F {b with fr:={b.fr with tmps,todo:=.dead::k,mode:=.panic [(v,false)]},h}
    |none=>part ()
   |.bad _=>part ()
theorem bZ{E:Env}{keys:List Nat}{S:FuncId}{G:Nat→D→D}(hE:∀[U:Unk],U.K=(Env.of E.P).kinds→OK E)(hO:Ac E G)[v:Vals](hK:v.K=(Env.of E.P).kinds)(hG:v.V.fn=G)(base:List Frame) :
  ∀(n:Nat) (F:List (SB×Bool)) (s:AS) (t:Tr Lf),HG E keys S n F s=some t→Bz v.V F→∀(y:Ren)(c:Frame)(f:List Frame)(w:World),SR y s c f w→WF s.h→Bn y s.h.nx→(t.way v.V F).1.Good E.P S y s c f w base (t.way v.V F).2:=by
 subst hG;intro n
 induction n with
 |zero=>intro F s t h g y c f w _ _ _;cases h;exact g
 |succ n ih=>
  intro F s t j g y c f w l z B;have r:@OK _ (Bk v F g) E:=hE (U:=Bk v F g) hK;have T:∀m,AW y s.h.nx m:=fun m b Z _=>B b Z
  simp only[HG]at j
  generalize i:(match @VP ⟨F⟩ E n s with
   |some e=>match AN F e with
    |none=>RZ e (HG E keys S n ((e,true)::F) s) (HG E keys S n ((e,false)::F) s)
    |some _=>some (.leaf .stuck)
   |none=>some (.leaf .stuck))=pt at j
  have C:∀e,RZ e (HG E keys S n ((e,true)::F) s) (HG E keys S n ((e,false)::F) s)=some t→(t.way v.V F).1.Good E.P S y s c f w base (t.way v.V F).2:=by
   intro e X;unfold RZ at X;split at X
   ·rename_i a b ha Z;cases X;simp only[Tr.way];cases he:Ah v.V e with
    |true=>
     exact ih _ _ _ ha (fun e' b' Y=>by
      rcases i0.1 Y with q|q
      ·cases q;exact he
      ·exact g e' b' q) y c f w l z B
    |false=>
     exact ih _ _ _ Z (fun e' b' Y=>by
      rcases i0.1 Y with q|q
      ·cases q;exact he
      ·exact g e' b' q) y c f w l z B
   ·cases X
  have aa:pt=some t→(t.way v.V F).1.Good E.P S y s c f w base (t.way v.V F).2:=by
   intro X;subst X;split at i
   ·rename_i e _;split at i
    ·exact C e i
    ·cases i;exact g
   ·cases i;exact g
  have go:∀(H:AS)(u:Ren)(W:Frame)(d:List Frame)(w1:World),Steps E.P (lone c (f++base) w) (lone W (d++base) w1)→SR u H W d w1→Ext y u s.h H.h w w1→HG E keys S n F H=some t→(t.way v.V F).1.Good E.P S y s c f w base (t.way v.V F).2:=by
   intro H u W d w1 h1 h2 h3 h4;exact(ih F H t h4 g u W d w1 h2 (Ext.wf (U:=Bk v F g) h3 z) (B.ext h3)).pre h1 h3 B
  split at j
  ·rename_i H ab;obtain⟨u,I,d,J,L,A,M⟩:=QM (U:=Bk v F g) r hO l z ab (T _) base;exact go H u I d J L A M j
  split at j
  ·exact C _ j
  ·cases j;exact g
  ·split at j
   ·rename_i H o;obtain⟨u,I,d,J,L,A,M⟩:=Jh (U:=Bk v F g) (base:=base) r l o (T _);split at j
    ·rename_i N;cases j
     have O:H.cs=[]:=by
      unfold f4 at N;split at N
      ·rename_i e1 e2 e3;simp only[A6,e2,e3]at o;cases o;exact e1
      ·rename_i e1 e2 e3;simp only[A6,e2,e3]at o;cases o;exact e1
      ·cases N
     have Q:d=[]:=by
      have:=A.cs;rw[O]at this;cases this;rfl
     subst Q;exact⟨g,O,u,I,J,Steps.one L,A,M⟩
    ·split at j
     ·rename_i R;cases j
      have O:H.cs=[]:=by
       unfold gn at R;split at R
       ·assumption
       ·cases R
      have Q:d=[]:=by
       have:=A.cs;rw[O]at this;cases this;rfl
      subst Q;exact⟨g,O,u,I,J,Steps.one L,A,M⟩
     ·exact go H u I d J (Steps.one L) A M j
   ·rename_i ad v' h' o;split at j
    ·rename_i Z;cases j;obtain⟨rfl,x,J,L,A,M,q4⟩:=Ix (U:=Bk v F g) r l o;obtain⟨b2,b3⟩:=Av (U:=Bk v F g) Z;have p:=l.fr.round;rw[Option.isNone_iff_eq_none]at b2;rw[b2]at p
     have ac:c.roundOf=none:=by
      cases hz:c.roundOf with
      |none=>rfl
      |some=>rw[hz]at p;exact p.elim
     exact⟨g,y,c,x,w,J,Steps.refl _ _,l.fr.fn.trans (Ay b3),ac,q4,L,A,M⟩
    ·cases j;exact g
   ·rename_i s2 ops k o;obtain⟨rfl,Y,id,ht⟩:=Es (U:=Bk v F g) o;split at j
    ·rename_i tmps h1 hd;obtain⟨u,W,J,L,A,M⟩:=Ht (U:=Bk v F g) r (QP (U:=Bk v F g) r hO n) l z Y ht hd (T _) base;exact go _ u W f J L A M j
    ·rename_i tmps h1 hd;obtain⟨u,W,J,L,A,M⟩:=Ht (U:=Bk v F g) r (QP (U:=Bk v F g) r hO n) l z Y ht hd (T _) base;exact go _ u W f J L A M j
    ·exact aa j
   ·exact aa j
end Go.AE
namespace Go.AE
variable [Gl:AG]
def SE.fits(n m:Nat):SE→Bool
 |.c _=>true
 |.var i=>Nat.blt i n
 |.lenS a=>a.fits n m
 |.lenL a=>a.fits n m
 |.arith _ _ a b=>a.fits n m&&b.fits n m
 |.conv _ a=>a.fits n m
 |.lss a b=>a.fits n m&&b.fits n m
 |.eql a b=>a.fits n m&&b.fits n m
 |.eqS a _ _=>a.fits n m
 |.eqSS a b=>a.fits n m&&b.fits n m
 |.isNil a=>a.fits n m
 |.bc _=>true
 |.neg a=>a.fits n m
 |.and a b=>a.fits n m&&b.fits n m
 |.nilIs a b=>a.fits n m&&b.fits n m
 |.strc _ _=>true
 |.strAt a b=>a.fits n m&&b.fits n m
 |.strCat a b=>a.fits n m&&b.fits n m
 |.strSub a b x=>a.fits n m&&b.fits n m&&x.fits n m
 |.cell a i _=>a.fits n m&&i.fits n m
 |.sel a _=>a.fits n m
 |.nilL=>true
 |.emptyL=>true
 |.snoc a r=>a.fits n m&&r.fits n m
 |.upd a i _ x=>a.fits n m&&i.fits n m&&x.fits n m
 |.rep a b=>a.fits n m&&b.fits n m
 |.cat a b=>a.fits n m&&b.fits n m
 |.sub a b x=>a.fits n m&&b.fits n m&&x.fits n m
 |.rnil=>true
 |.rcons a b=>a.fits n m&&b.fits n m
 |.app f a=>Nat.blt f m&&a.fits n m
 |.bytes a=>a.fits n m
 |.ofBytes a=>a.fits n m
 |.mIdx _ a k=>a.fits n m&&k.fits n m
 |.rmv a i=>a.fits n m&&i.fits n m
structure Val.Alike(n m:Nat)(V W:Val):Prop where
 d:∀i,i<n→V.d i=W.d i
 fn:∀i,i<m→V.fn i=W.fn i
theorem SE.fits_ok{n m:Nat}{V W:Val}(h:V.Alike n m W):∀e:SE,e.fits n m=true→Ab V e=Ab W e:=by
 intro e
 induction e<;>intro l<;>(try simp only[SE.fits,F9]at l)<;>simp only[Ab]
 case var i=>exact h.d i (by simpa[Nat.blt_eq]using l)
 case app f x ih=>rw[ih l.2,h.fn f (by simpa[Nat.blt_eq]using l.1)]
 all_goals simp_all only[forall_const]
def Aaj(g:Nat)(st:SE):SE→Bool
 |.app b a=>Nat.beq g b&&st.same a
 |_=>false
def Bi(g:Nat)(st:SE)(f:Nat→SE):SE→SE
 |.sel a j=>match Aaj g st a with
  |true=>f j
  |false=>.sel (Bi g st f a) j
 |.c n=>.c n
 |.var i=>.var i
 |.lenS a=>.lenS (Bi g st f a)
 |.lenL a=>.lenL (Bi g st f a)
 |.arith d k a b=>.arith d k (Bi g st f a) (Bi g st f b)
 |.conv k a=>.conv k (Bi g st f a)
 |.lss a b=>.lss (Bi g st f a) (Bi g st f b)
 |.eql a b=>.eql (Bi g st f a) (Bi g st f b)
 |.eqS a l b=>.eqS (Bi g st f a) l b
 |.eqSS a b=>.eqSS (Bi g st f a) (Bi g st f b)
 |.isNil a=>.isNil (Bi g st f a)
 |.bc b=>.bc b
 |.neg a=>.neg (Bi g st f a)
 |.and a b=>.and (Bi g st f a) (Bi g st f b)
 |.nilIs a b=>.nilIs (Bi g st f a) (Bi g st f b)
 |.strc l b=>.strc l b
 |.strAt a i=>.strAt (Bi g st f a) (Bi g st f i)
 |.strCat a b=>.strCat (Bi g st f a) (Bi g st f b)
 |.strSub a lo hi=>.strSub (Bi g st f a) (Bi g st f lo) (Bi g st f hi)
 |.cell a i j=>.cell (Bi g st f a) (Bi g st f i) j
 |.nilL=>.nilL
 |.emptyL=>.emptyL
 |.snoc a r=>.snoc (Bi g st f a) (Bi g st f r)
 |.upd a i j x=>.upd (Bi g st f a) (Bi g st f i) j (Bi g st f x)
 |.rep n r=>.rep (Bi g st f n) (Bi g st f r)
 |.cat a b=>.cat (Bi g st f a) (Bi g st f b)
 |.sub a lo hi=>.sub (Bi g st f a) (Bi g st f lo) (Bi g st f hi)
 |.rnil=>.rnil
 |.rcons x r=>.rcons (Bi g st f x) (Bi g st f r)
 |.app h x=>.app h (Bi g st f x)
 |.bytes a=>.bytes (Bi g st f a)
 |.ofBytes a=>.ofBytes (Bi g st f a)
 |.mIdx ks a k=>.mIdx ks (Bi g st f a) (Bi g st f k)
 |.rmv a i=>.rmv (Bi g st f a) (Bi g st f i)
theorem V4{V:Val}{g:Nat}{st:SE}{f:Nat→SE}(b:∀j,Ab V (f j)=Ab V (.sel (.app g st) j)):∀e:SE,Ab V (Bi g st f e)=Ab V e:=by
 intro e
 induction e
 case sel a j ih=>
  simp only[Bi];split
  ·rename_i h;rw[b];cases a<;>simp only[Aaj,ie,F9]at h
   rw[Ay h.1,SE.same_ok (U:=HD) h.2]
  ·simp only[Ab,ih]
 all_goals simp_all only[Bi,Ab]
def FB(step:D→Option (D ⊕ D)):Nat→D→Option D
 |0,_=>none
 |n+1,d=>match step d with
  |none=>none
  |some (.inr r)=>some r
  |some (.inl a)=>FB step n a
theorem Og{step:D→Option (D ⊕ D)}:∀{n m:Nat}{d r s:D},FB step n d=some r→FB step m d=some s→r=s
 |0,_,_,_,_,h,_=>by cases h
 |_+1,0,_,_,_,_,h=>by cases h
 |n+1,m+1,d,r,s,h,k=>by
  simp only[FB]at h k;split at h
  ·cases h
  ·rename_i x a;rw[a]at k;cases h;cases k;rfl
  ·rename_i b a;rw[a]at k;exact Og h k
class Ao where
 f:(D→Option (D ⊕ D))→D→D
 run:∀{step:D→Option (D ⊕ D)} {n:Nat} {d r:D},FB step n d=some r→f step d=r
 or:∀(step:D→Option (D ⊕ D)) (d:D),f step d=.row []∨∃n,FB step n d=some (f step d)
theorem bh:Nonempty Ao:=by
 classical
 have key:∀(step:D→Option (D ⊕ D)) (d:D),∃r,(∀n s,FB step n d=some s→r=s)∧(r=.row []∨∃n,FB step n d=some r):=by
  intro step d;by_cases h:∃r n,FB step n d=some r
  ·obtain⟨r,n,b⟩:=h;exact⟨r,fun m s a=>Og b a,.inr ⟨n,b⟩⟩
  ·exact⟨.row [],fun m s a=>absurd ⟨s,m,a⟩ h,.inl rfl⟩
 exact⟨⟨fun step d=>Classical.choose (key step d),fun{step n d r} h=>(Classical.choose_spec (key step d)).1 n r h,fun step d=>(Classical.choose_spec (key step d)).2⟩⟩
section
variable [Ao]
def Co(step:D→Option (D ⊕ D))(d:D):D:=Ao.f step d
theorem EJ{step:D→Option (D ⊕ D)}{n:Nat}{d r:D}(h:FB step n d=some r):Co step d=r:=Ao.run h
theorem Fr(step:D→Option (D ⊕ D))(d:D):Co step d=.row []∨∃n,FB step n d=some (Co step d):=Ao.or step d
theorem QQ{step:D→Option (D ⊕ D)}{d r:D}(h:step d=some (.inr r)):Co step d=r:=EJ (n:=1) (by simp[FB,h])
theorem RH{step:D→Option (D ⊕ D)}{d a:D}(h:step d=some (.inl a)):Co step d=Co step a:=by
 rcases Fr step a with q|⟨n,c⟩
 ·rcases Fr step d with e|⟨m,b⟩
  ·rw[q,e]
  ·cases m with
   |zero=>cases b
   |succ m=>
    simp only[FB,h]at b;exact(EJ b).symm
 ·exact EJ (n:=n+1) (by simp only[FB,h];exact c)
end
end Go.AE
namespace Go.AE
variable [Gl:AG]
structure Pt where
 key:Option Nat
 nt:Nat
 nv:Nat
 todo:List AI
 tmps:T AV
 pre:List (Option An)
 facts:List (SB×Bool)
 defs:List AD:=[]
 deriving Inhabited
structure Sh where
 m:Nat
 res:AV
 post:List (Option An)
 keep:List Nat
 keepC:List (Nat×List Nat):=[]
 ok:Bool:=true
 deriving Inhabited
structure Dec where
 g:Nat
 f:FuncId
 p:Nat
 pts:List Pt
 shs:List Sh
 deriving Inhabited
inductive Plf where
 |stuck
 |done (s:Nat) (parts:List SE)
 |next (j:Nat) (θ:List SE)
 deriving Inhabited
def cE:List SE→SE
 |[]=>.rnil
 |x::r=>.rcons x (cE r)
def stE(i:Nat)(a:List SE):SE:=.rcons (.c i) (cE a)
def C5:Nat→Nat→List SE
 |_,0=>[]
 |i,n+1=>.var i::C5 (i+1) n
def Qz(g j:Nat)(a:List SE)(s:Nat):SE:=.eql (.sel (.app g (stE j a)) 0) (.c (s+1:Nat))
theorem OG(V:Val):∀l:List SE,Ab V (cE l)=.row (l.map (Ab V))
 |[]=>rfl
 |x::r=>by simp only[cE,Ab,OG V r,D.cells,Ae2]
theorem Ju(V:Val)(i:Nat)(l:List SE):Ab V (stE i l)=.row (.int i::l.map (Ab V)):=by
 simp only[stE,Ab,OG,D.cells]
theorem Gb(V:Val):∀(n i:Nat),(C5 i n).map (Ab V)=(List.range n).map fun j=>V.d (i+j)
 |0,i=>rfl
 |n+1,i=>by
  simp only[C5,Ae2,Gb V n (i+1),List.range_succ_eq_map,List.map_map];refine congr (congrArg _ ?_) ?_
  ·simp[Ab]
  ·apply List.map_congr_left;intro j _;show V.d (i+1+j)=V.d (i+(j+1));congr 1;omega
def mn(g:Nat)(st:SE):Nat→Nat→List SE
 |_,0=>[]
 |j,n+1=>.sel (.app g st) j::mn g st (j+1) n
def Tp:Nat→Nat→List Nat
 |_,0=>[]
 |i,n+1=>i::Tp (i+1) n
def fP[Facts](a:List SE)(b:List Nat):Option An→Option An
 |some x=>x.inst a b
 |none=>none
def cellsOf(i:Nat):List (Nat×List Nat)→List Nat
 |[]=>[]
 | (j,l)::r=>match Nat.beq i j with
  |true=>l
  |false=>cellsOf i r
def Zm(c:T AV):List Nat→T AV→T AV
 |[],t=>t
 |j::r,t=>match c.get j with
  |some a=>Zm c r (t.set j a)
  |none=>Zm c r t
def Ace(l:List Nat)(y:An)(x:Option An):Option An:=match l with
 |[]=>x
 |_=>match x,y with
  |some (.cells n c),.cells _ d=>some (.cells n (Zm d l c))
  |x,_=>x
def Qs[Facts](a:List SE)(b:List Nat)(keep:List Nat)(keepC:List (Nat×List Nat)):Nat→Nat→List (Option An)→List (Option An)→List (Option An)
 |_,0,_,_=>[]
 |i,n+1,x::c,y::d=>(match y with
  |some y=>(match Nu i keep with
   |true=>some y
   |false=>Ace (cellsOf i keepC) y (fP a b x))
  |none=>none)::Qs a b keep keepC (i+1) n c d
 |i,n+1,_,_=>none::Qs a b keep keepC (i+1) n [] []
@[reducible] def PE:Facts:=⟨[]⟩
def Cd(d:Dec)(i:Nat)(a:Pt)(s:Nat)(sh:Sh):Cut:=
 let b:=mn d.g (stE i (C5 0 a.nv)) 1 sh.m
 let c:=Tp 0 d.p++Tp a.pre.length (sh.post.length-d.p)
 {key:=a.key,fn:=d.f,nt:=a.nt,nv:=a.nv,todo:=a.todo,tmps:=a.tmps,pre:=a.pre,facts:=a.facts++[(Qz d.g i (C5 0 a.nv) s,true)],
  res:=@AV.inst PE b c sh.res,post:=@Qs PE b c sh.keep sh.keepC 0 d.p sh.post a.pre++List.replicate (a.pre.length-d.p) none++(sh.post.drop d.p).map (@fP PE b c),ent:=d.p,defs:=a.defs}
def TF:SE→SE
 |.and x (.bc true)=>x
 |x=>x
theorem XM(V:Val)(x:SE):Ah V (TF x)=Ah V x:=by
 unfold TF;split
 ·rename_i x;show Ah V x=((Ah V x)&&true);rw[Bool.and_true]
 ·rfl
def U1(F:List (SB×Bool))(g:Nat)(st:SE)(f:Nat→SE)(a:SE)(p:SE×SE):Bool:=
 match ((Bi g st f p.1).norm).same ((Bi g st f p.2).norm)with
 |true=>true
 |false=>match p.2.norm with
  |.bc c=>p.1.isB&&(match AN F (TF p.1)with
   |some d=>d==c
   |none=>c&&p.1.norm.same a.norm)
  |_=>false
def GC(F:List (SB×Bool))(g:Nat)(st:SE)(f:Nat→SE)(a:SE):Obs→Bool
 |[]=>true
 |p::r=>match U1 F g st f a p with
  |true=>GC F g st f a r
  |false=>false
def iT[Facts](E:Env)(p a:AV)(h:Aa):AV×Aa:=
 match p,a with
 |.tuple c,.tuple d=>match Rz E c d h with
  | (b,e)=>(.tuple b,e)
 |p,a=>QU E p a h
theorem bN{U:Unk}{E:Env}(hE:OK E){w:World}{p a f:AV}{v:Value}{d:Ren}{h h':Aa}(g:HR d h.blk.get w)(i:VR d a v)(b:iT E p a h=(f,h')) :
  h'.nx=h.nx∧∃c:Ren,VR c f v∧HR c h'.blk.get w∧Ext d c h h' w w:=by
 unfold iT at b;split at b
 ·rename_i s t;split at b;rename_i e u k;cases b;cases i with
  |tuple _ l m n=>
   obtain⟨o,c,j,q,r⟩:=Qi hE g ⟨m,n⟩ k;exact⟨o,c,.tuple e l j.1 j.2,q,r⟩
 ·exact Rr hE g i b
def LI[Facts](E:Env)(c:Cut)(v:AV)(h:Aa):AV×Aa:=match iT E c.res v h with
 | (v,h)=>(v,DF E c.post 0 (HF E c.post h (E7 c.res v ⟨.nil,idT c.pre.length .nil⟩)).b h)
theorem T7{U:Unk}{E:Env}(hE:OK E){w:World}{c:Cut}{a e:AV}{v:Value}{f:Ren}{h h':Aa}(k:HR f h.blk.get w)(l:VR f a v)(g:LI E c a h=(e,h')) :
  h'.nx=h.nx∧∃d:Ren,VR d e v∧HR d h'.blk.get w∧Ext f d h h' w w:=by
 unfold LI at g;split at g;rename_i x i m;cases g;obtain⟨t,d,n,o,p⟩:=bN hE k l m;obtain⟨u,q,r,j⟩:=Bl hE c.post 0 (HF E c.post i (E7 c.res e ⟨.nil,idT c.pre.length .nil⟩)).b i d o;exact⟨by omega,q,n.mono j.le,r,p.trans j (fun b y s=>by omega)⟩
def LL[Facts](E:Env)(c:Cut)(s:AS):AS:={s with h:=DF E c.pre 0 (HF E c.pre s.h (SJ c s)).b s.h}
def Wy:List SE→List SE→Bool
 |[],[]=>true
 |a::l,b::m=>a.norm.same b.norm&&Wy l m
 |_,_=>false
def l6(s:Nat)(cs:List SE):Nat→SE
 |0=>.c (s+1:Nat)
 |k+1=>cs.getD k (.bc false)
def wi(g j:Nat)(a:List SE)(k:Nat):SE:=.sel (.app g (stE j a)) k
def P8(E:Env)(d:Dec)(i:Nat)(a:Pt)(F:List (SB×Bool))(l:Lf)(k:Plf)(s:Nat)(sh:Sh):Bool:=
  match k,l with
  |.stuck,_=>true
  |.done m cs,.done ok v h=>match Nat.beq m s with
    |false=>true
    |true=>match ok==sh.ok with
     |false=>false
     |true=>match @LI ⟨F⟩ E (Cd d i a s sh) v h with
      | (v,h)=>match @VD ⟨F⟩ E (Cd d i a s sh) v h with
        |some o=>GC F d.g (stE i (C5 0 a.nv)) (l6 s cs) (.c 0) o
        |none=>false
  |.next j b,.cut n=>match d.pts[j]? with
    |some f=>match @Zn ⟨F⟩ E (Cd d j f s sh) (@LL ⟨F⟩ E (Cd d j f s sh) n)with
      |some (e,x,h',o1)=>match Wy e b,@VD ⟨F⟩ E (Cd d i a s sh) x h' with
        |true,some o2=>GC F d.g (stE i (C5 0 a.nv)) (wi d.g j b) (Qz d.g j b s) (o1++o2)
        |_,_=>false
      |none=>false
    |none=>false
  |_,_=>false
def Fq(E:Env)(d:Dec)(i:Nat)(a:Pt)(F:List (SB×Bool))(l:Lf)(b:Plf):Nat→List Sh→Bool
 |_,[]=>true
 |s,sh::r=>match P8 E d i a F l b s sh with
  |true=>Fq E d i a F l b (s+1) r
  |false=>false
def IA(n m:Nat):List SE→Bool
 |[]=>true
 |a::l=>a.fits n m&&IA n m l
def Plf.fits(n m:Nat):Plf→Bool
 |.stuck=>true
 |.done _ cs=>IA n m cs
 |.next _ l=>IA n m l
def Dy(E:Env)(d:Dec)(i:Nat)(c:Pt):List (SB×Bool)→Tr Lf→Tr Plf→Option (List (Nat×List AI))
 |_,_,.leaf .stuck=>some []
 |F,.leaf l,.leaf f=>match Fq E d i c F l f 0 d.shs&&f.fits c.nv d.g with
  |true=>some (match f,l with
   |.next j _,.cut h=>[(j,h.fr.todo)]
   |_,_=>[])
  |false=>none
 |F,.split e a b,.split k m n=>match e.same k&&e.fits c.nv d.g with
  |true=>match Dy E d i c ((e,true)::F) a m,Dy E d i c ((e,false)::F) b n with
   |some x,some y=>some (x++y)
   |_,_=>none
  |false=>none
 |_,_,_=>none
def Pt.st(l:Pt)(d:Dec):AS:={fr:={fn:=d.f,nt:=l.nt,tmps:=l.tmps,todo:=l.todo,defers:=Kr l.defs,mode:=.run,kind:=.normal,round:=none},cs:=[],h:={blk:=A8 l.pre,nx:=l.pre.length,log:=[]}}
def Af(E:Env)(keys:List Nat)(N:Nat)(d:Dec)(T:List (Tr Plf))(i:Nat):Option (List (Nat×List AI)):=
 match d.pts[i]?,T[i]? with
 |some a,some t=>match HG E keys d.f N a.facts (a.st d)with
  |some r=>Dy E d i a a.facts r t
  |none=>none
 |_,_=>none
def stD(i nv:Nat)(V:Val):D:=.row (.int i::(List.range nv).map V.d)
def Lt(G:Nat→D→D)(a:List D):Val:=⟨fun j=>a.getD j default,G⟩
def Dm(V:Val):Plf→Option (D ⊕ D)
 |.stuck=>none
 |.done s cs=>some (.inr (.row (.int (s+1:Nat)::cs.map (Ab V))))
 |.next j a=>some (.inl (.row (.int j::a.map (Ab V))))
def CZ(T:List (Tr Plf))(G:Nat→D→D):D→Option (D ⊕ D)
 |.row (.int (.ofNat i)::a)=>match T[i]? with
  |some t=>Dm (Lt G a) (t.get (Lt G a))
  |none=>none
 |_=>none
theorem SX(V:Val):∀{a b:List SE},Wy a b=true→a.map (Ab V)=b.map (Ab V)
 |[],[],_=>rfl
 |x::a,y::b,h=>by
  simp only[Wy,F9]at h;have:=congrArg (Ab V) (SE.same_ok (U:=HD) h.1);rw[Cz,Cz]at this;simp only[Ae2,this,SX V h.2]
 |[],_::_,h=>by cases h
 |_::_,[],h=>by cases h
theorem Ee{n m:Nat}{V W:Val}(h:V.Alike n m W):∀{l:List SE},IA n m l=true→l.map (Ab V)=l.map (Ab W)
 |[],_=>rfl
 |a::l,b=>by
  simp only[IA,F9]at b;simp only[Ae2,SE.fits_ok h a b.1,Ee h b.2]
theorem Xp{F:List (SB×Bool)}{g:Nat}{st:SE}{f:Nat→SE}{b:SE}{V:Val}(m:Bz V F)(i:∀j,Ab V (f j)=Ab V (.sel (.app g st) j))(e:b=.c 0∨Ab V b=.bool true){p:SE×SE}(h:U1 F g st f b p=true):Ab V p.1=Ab V p.2:=by
 unfold U1 at h;split at h
 ·rename_i n;have:=SE.same_ok (U:=HD) n;have q:=congrArg (Ab V) this
  rwa [Cz,Cz,V4 i,V4 i]at q
 ·split at h
  ·rename_i c o;simp only[F9]at h;obtain⟨r,h⟩:=h;have k:=Ps V r;have l:=Cz V p.2;rw[o]at l;rw[←l,k];show D.bool _=D.bool c
   congr 1
   split at h
   ·rename_i d s;have:=Aw (U:=HD) (V:=V) m s;rw[XM]at this;have a:=eq_of_beq h;subst a;exact this
   ·simp only[F9]at h;have a:=congrArg (Ab V) (SE.same_ok (U:=HD) h.2);rw[Cz,Cz]at a;have t:c=true:=h.1;subst t;rcases e with q|q
    ·rw[q,k]at a;cases a
    ·rw[a,q];rfl
  ·cases h
theorem G7{F:List (SB×Bool)}{g:Nat}{st:SE}{f:Nat→SE}{e:SE}{V:Val}(k:Bz V F)(l:∀j,Ab V (f j)=Ab V (.sel (.app g st) j))(d:e=.c 0∨Ab V e=.bool true):∀{o:Obs},GC F g st f e o=true→o.holds V
 |[],_=>fun a b i=>by cases i
 |p::r,h=>by
  simp only[GC]at h;split at h
  ·rename_i m;intro a b i;rcases i0.1 i with q|q
   ·have:=Xp k l d m;rw[←q]at this;exact this
   ·exact G7 k l d h a b q
  ·cases h
theorem UW{E:Env}{d:Dec}{i:Nat}{o:Pt}{V W:Val}(v:V.Alike o.nv d.g W):∀{r:Tr Lf} {t:Tr Plf} {F:List (SB×Bool)} {p:List (Nat×List AI)},Dy E d i o F r t=some p→
  t.get W=.stuck∨(Fq E d i o (r.way V F).2 (r.way V F).1 (t.get W) 0 d.shs=true∧(t.get W).fits o.nv d.g=true∧∀j k f,t.get W=.next j k→(r.way V F).1=.cut f→(j,f.fr.todo)∈p):=by
 intro r t
 induction t generalizing r with
 |leaf B=>
  intro F p h;cases B with
  |stuck=>exact .inl rfl
  |done s cs=>
   right;cases r with
   |split=>simp[Dy]at h
   |leaf l=>
    simp only[Dy]at h;split at h
    ·rename_i c;simp only[F9]at c;exact⟨c.1,c.2,fun j k f q=>by cases q⟩
    ·cases h
  |next j k=>
   right;cases r with
   |split=>simp[Dy]at h
   |leaf l=>
    simp only[Dy]at h;split at h
    ·rename_i c;simp only[F9]at c;refine⟨c.1,c.2,fun I C f n m=>?_⟩
     cases n;simp only[Tr.way]at m;subst m;cases h;simp
    ·cases h
 |split e a b w z=>
  intro F p h;cases r with
  |leaf l=>cases l<;>simp[Dy]at h
  |split u J K=>
   simp only[Dy]at h;split at h
   ·rename_i c;simp only[F9]at c;have D:=SE.same_ok (U:=HD) c.1;subst D;have hv:Ah W u=Ah V u:=by unfold Ah;rw[SE.fits_ok v u c.2]
    split at h
    ·rename_i x y G H;cases h;simp only[Tr.get,Tr.way,hv];cases L:Ah V u with
     |true=>
      rcases w G with q|⟨n,m,A⟩
      ·exact .inl q
      ·exact .inr ⟨n,m,fun j k f z1 z2=>by simp[A j k f z1 z2]⟩
     |false=>
      rcases z H with q|⟨n,m,A⟩
      ·exact .inl q
      ·exact .inr ⟨n,m,fun j k f z1 z2=>by simp[A j k f z1 z2]⟩
    ·cases h
   ·cases h
theorem IX{E:Env}{d:Dec}{i:Nat}{e:Pt}{F:List (SB×Bool)}{l:Lf}{f:Plf}:∀{shs:List Sh}{b:Nat},Fq E d i e F l f b shs=true→∀(s:Nat) sh,shs[s]?=some sh→P8 E d i e F l f (b+s) sh=true
 |[],b,_,s,sh,h=>by simp at h
 |a::r,b,h,s,sh,c=>by
  simp only[Fq]at h;split at h
  ·rename_i g;cases s with
   |zero=>simp only[gy,C2]at c;subst c;exact g
   |succ s=>
    simp only[iv]at c;have:=IX h s sh c
    rwa [show b+1+s=b+(s+1) by omega]at this
  ·cases h
structure Tw(P:Program)(f0:FuncId)(base:List Frame)(ok:Bool)(K:Frame→World→Value→World→Prop):Prop where
 pre:∀c c' w w1 v w',Steps P (lone c base w) (lone c' base w1)→K c' w1 v w'→K c w v w'
 ends:∀c w v w',Jo P c w ok v w'→c.fn=f0→c.roundOf=none→K c w v w'
def Cut.AtK(P:Program)(G:Nat→D→D)(c:Cut)(V:Val)(K:Frame→World→Value→World→Prop):Prop:=
 ∀(v:Vals),v.V=V→v.K=(Env.of P).kinds→V.fn=G→Bz V c.facts→∀(ρ:Ren)(t:Frame)(w:World),FrR ρ c.fr t→HR ρ c.h.blk.get w→Bn ρ c.pre.length→
  ∃l I r,K t w I r∧VR l c.res I∧HR l c.h'.blk.get r∧Ext ρ l c.h c.h' w r
section
variable {E:Env}{G:Nat→D→D}(hE:∀[U:Unk],U.K=(Env.of E.P).kinds→OK E){v:Vals}(hK:v.K=(Env.of E.P).kinds)
include hE hK
theorem Zp(hG:v.V.fn=G){F:List (SB×Bool)}(c:Bz v.V F){d:Cut}{s:AS}{e:List SE}{x:AV}{h':Aa}{o:Obs}(n:@Zn ⟨F⟩ E d s=some (e,x,h',o))(ho:o.holds v.V){K:Frame→World→Value→World→Prop}(O:d.AtK E.P G (v.V.inst e) K)(Q:s.fr.todo=d.todo)
 {g:Ren}{j:Frame}{w:World}(H:SR g s j [] w)(R:WF s.h)(r:Bn g s.h.nx):
  ∃I M J,K j w M J∧VR I x M∧HR I h'.blk.get J∧Ext g I s.h h' w J:=by
 have S:@OK _ (Bk v F c) E:=hE (U:=Bk v F c) hK;unfold Zn at n;split at n;rename_i m h1 T;simp only at n;split at n
 ·rename_i hc;split at n
  ·rename_i o1 t X ht;simp only[C2,k0]at n;obtain⟨rfl,rfl,rfl,rfl⟩:=n;obtain⟨oa,ob,Y,u,rfl⟩:=Bv X;obtain⟨Z,k⟩:=Obs.append ho;obtain⟨aa,A⟩:=Obs.append Z;generalize ad:IG m.v 0 d.nv=e at *;generalize ae:Jj m.b 0 d.pre.length=l at *;have e2:(@AL ⟨F⟩ E d.pre 0 (@HF ⟨F⟩ E d.pre s.h (SJ d s)) s.h).2=h1:=by rw[T]
   obtain⟨q1,q2,q3⟩:=Br (U:=Bk v F c) (E:=E) d.pre 0 (@HF ⟨F⟩ E d.pre s.h (SJ d s)) s.h H.h R (fun b b1 _=>r b b1)
   rw[e2]at q1 q2 q3;simp only[F9]at hc;obtain⟨⟨⟨⟨⟨⟨⟨⟨⟨c1,c2⟩,c3⟩,c4⟩,c5⟩,c6⟩,c7⟩,c8⟩,c9⟩,c10⟩:=hc;have a:=L5 k;have hV:(CG (Bk v F c) d.facts e a).V=(Bk v F c).V.inst e:=rfl;have p:(CG (Bk v F c) d.facts e a).K=(Bk v F c).K:=rfl;have ab:=ML c2;have af:=(Dk (U:=Bk v F c) (W:=CG (Bk v F c) d.facts e a) hV p d.pre l ob u A).1;have p2:=HR.toPat (U:=Bk v F c) (W:=CG (Bk v F c) d.facts e a) hV p S q1 u A c1;have L:Bn g h1.nx:=Bn.ext r q2
   have B:Bn (g.back l) d.pre.length:=by
    intro b N;have:l[b]?=none:=Aeq (by omega)
    simp[Ren.back,this]
   have f:=H.fr
   have ac:@FrR (CG (Bk v F c) d.facts e a).toVals (g.back l) d.fr j:=by
    refine @FrR.mk (CG (Bk v F c) d.facts e a).toVals (g.back l) d.fr j ?_ (@TR.mk (CG (Bk v F c) d.facts e a).toVals (g.back l) _ _ _ ?_ (fun i y hy=>?_)) ?_ ?_ ?_ ?_ ?_
    ·rw[f.fn];exact gk c4
    ·rw[f.tm.size];exact gk c5
    ·obtain⟨z,z1,z2⟩:=Mv (U:=Bk v F c) (W:=CG (Bk v F c) d.facts e a) hV p (ρ:=g) d.tmps s.fr.tmps oa Y aa i y hy;exact z2 _ (f.tm.get i z z1)
    ·show @IL (CG (Bk v F c) d.facts e a).toVals (g.back l) d.todo j.todo;rw[←Q];exact RL c10 f.todo
    ·exact NX (U:=Bk v F c) (W:=CG (Bk v F c) d.facts e a) hV p c6 f.defers
    ·have hm:=f.mode;show @MR (CG (Bk v F c) d.facts e a).toVals (g.back l) .run j.mode;cases q:s.fr.mode with
     |run=>rw[q]at hm;generalize j.mode=mm at hm;cases hm;exact @MR.run (CG (Bk v F c) d.facts e a).toVals (g.back l)
     |ret=>rw[q]at c7;cases c7
     |panic=>rw[q]at c7;cases c7
    ·have hk:=f.kind;show j.kind=.normal;rw[hk];cases q:s.fr.kind with
     |normal=>rfl
     |_=>rw[q]at c8;cases c8
    ·have C:=f.round;show RR (g.back l) none j.roundOf;cases q:s.fr.round with
     |none=>rw[q]at C;cases hz:j.roundOf with|none=>trivial|some=>rw[hz]at C;exact C.elim
     |some=>rw[q]at c9;cases c9
   obtain⟨ag,M,J,r1,r2,r3,r4⟩:=O (CG (Bk v F c) d.facts e a).toVals rfl hK hG a (g.back l) j w ac p2 B;obtain⟨I,t1,t2,t3⟩:=VH (U:=Bk v F c) (E:=E) (FF:=d.facts) a rfl rfl u A c1 ab (kp c3) ht q1 q3 (fun b N _=>L b N) r2 r3 r4
   exact⟨I,M,J,r1,t1,t2,q2.trans t3 (fun b N _=>r b N)⟩
  ·cases n
 ·cases n
end
theorem OP(t:T SE):∀(n i:Nat),(IG t i n).length=n
 |0,_=>rfl
 |n+1,i=>by simp[IG,OP t n]
theorem aT[Facts]{E:Env}{c:Cut}{s:AS}{b:List SE}{x:AV}{h:Aa}{o:Obs}(a:Zn E c s=some (b,x,h,o)):b.length=c.nv:=by
 unfold Zn at a;split at a;simp only at a;split at a
 ·split at a
  ·simp only[C2,k0]at a;rw[←a.1,OP]
  ·cases a
 ·cases a
def T4(r:D):Int:=(r.cells.getD 0 default).toInt
theorem YS[Ao]{E:Env}{G:Nat→D→D}(hE:∀[U:Unk],U.K=(Env.of E.P).kinds→OK E)(hO:Ac E G){d:Dec}{T:List (Tr Plf)}{keys:List Nat}{N:Nat}(hg:∀x,G d.g x=Co (CZ T G) x)
 (af:∀(i:Nat) m,d.pts[i]?=some m→∃js,Af E keys N d T i=some js∧∀j td,(j,td)∈js→∀C,d.pts[j]?=some C→td=C.todo) :
  ∀(n i:Nat)(m:Pt)(s:Nat)(sh:Sh),d.pts[i]?=some m→d.shs[s]?=some sh→∀(V:Val)(r:D),V.fn=G→FB (CZ T G) n (stD i m.nv V)=some r→T4 r=(s+1:Nat)→∀(base:List Frame)(K:Frame→World→Value→World→Prop),Tw E.P d.f base sh.ok K→(Cd d i m s sh).AtK E.P G V K:=by
 intro n
 induction n with
 |zero=>intro i m s sh _ _ V r _ h;cases h
 |succ n ih=>
  intro i m s sh ag ah V r a8 a ab base KK Q v as hK hG R ρ cf w au hr B;subst as;have av:Bz v.V m.facts:=fun e b hm=>R e b (by simp[Cd,hm])
  obtain⟨js,p,aw⟩:=af i m ag;unfold Af at p;rw[ag]at p;split at p
  ·rename_i a9 t ai ht;cases ai;split at p
   ·rename_i tr ax;have z:=bZ hE hO hK hG base N m.facts (m.st d) tr ax av ρ cf [] w ⟨au,.nil,hr⟩ (Kq _ _) B;have M:v.V.Alike m.nv d.g (Lt G ((List.range m.nv).map v.V.d)):=⟨fun j hj=>by simp[Lt,F4,hj],fun j _=>by rw[hG];rfl⟩
    have O:Ab v.V (stE i (C5 0 m.nv))=stD i m.nv v.V:=by
     rw[Ju,Gb];simp[stD]
    have y:CZ T G (stD i m.nv v.V)=Dm (Lt G ((List.range m.nv).map v.V.d)) (t.get (Lt G ((List.range m.nv).map v.V.d))):=by
     show(match T[i]? with
      |some t=>Dm (Lt G _) (t.get (Lt G _))
      |none=>none)=_
     rw[ht]
    have H:Co (CZ T G) (stD i m.nv v.V)=r:=EJ a;generalize hW:Lt G ((List.range m.nv).map v.V.d)=W at M y;rcases UW (E:=E) (d:=d) (i:=i) M p with S|⟨q,A,I⟩
    ·simp only[FB,y,S,Dm]at a;cases a
    ·generalize ba:tr.way v.V m.facts=lf at z q I;obtain⟨l,F⟩:=lf;simp only at z q I;have u:=IX q s sh ah;simp only[s0]at u;generalize bb:t.get W=dl at y A u I;unfold P8 at u;split at u
     ·simp only[FB,y,Dm]at a;cases a
     ·
      rename_i s' cs bd x h;simp only[FB,y,Dm]at a;cases a
      have ay:s'=s:=by
       have:((s'+1:Nat):Int)=(s+1:Nat):=ab;omega
      subst ay;rw[Nat.beq_refl]at u;simp only at u;split at u
      ·cases u
      rename_i ac;have ac:=eq_of_beq ac;generalize az:@LI ⟨F⟩ E (Cd d i m s' sh) x h=pe at u;obtain⟨x2,h2⟩:=pe;simp only at u;split at u
      ·rename_i o ho;obtain⟨J,σ,be,v',w1,w',q1,qf,qr,q2,X,q4,q5⟩:=z;have aj:cs.map (Ab v.V)=cs.map (Ab W):=Ee M A
       have ad:o.holds v.V:=G7 J (fun j=>by
        show _=(v.V.fn d.g (Ab v.V (stE i (C5 0 m.nv)))).cells.getD j default;rw[O,hG,hg,H];cases j with
        |zero=>rfl
        |succ j=>
         show Ab v.V (cs.getD j (.bc false))=(cs.map (Ab W)).getD j default;rw[←aj];simp only[F4,Aeo];cases cs[j]?<;>rfl) (.inl rfl) u
       obtain⟨pn,ae,p0,p1,p2⟩:=T7 (U:=Bk v F J) (hE (U:=Bk v F J) hK) q4 X az;have X:=p0;have a7:Bn σ h.nx:=Bn.ext (h:=(m.st d).h) B q5;have q5:=q5.trans p2 (fun b hb a0=>B b hb)
       have q4:=p1;have a1:=Ext.wf (U:=Bk v F J) q5 (Kq _ _);obtain⟨τ,r1,r2,r3⟩:=YO (c:=Cd d i m s' sh) hE hK J ho ad X q4 a1 q5 B;exact⟨τ,v',w',Q.pre _ _ _ _ _ _ q1 (Q.ends _ _ _ _ (ac▸q2) qf qr),r1,r2,r3⟩
      ·cases u
     ·
      rename_i j θ Y;simp only[FB,y,Dm]at a;split at u
      ·rename_i C ak;split at u
       ·rename_i L x h o1 hu;split at u
        ·rename_i o2 a2 a3;have al:=SX v.V a2;obtain⟨J,aj,σ,c',w1,q1,q2,X⟩:=z;have am:L.length=C.nv:=@aT _ ⟨F⟩ _ _ _ _ _ _ _ hu
         have S:(D.row (.int j::θ.map (Ab W)))=stD j C.nv (v.V.inst L):=by
          have:=Ee M (l:=θ) A;rw[←this,←al];unfold stD
          congr 2
          apply List.ext_getElem
          ·simp[am]
          ·intro k h1 h2;simp only[List.getElem_map,List.getElem_range,Val.inst];have:k<L.length:=by simpa using h1
           simp[F4,this]
         have Z:Ab v.V (stE j θ)=stD j C.nv (v.V.inst L):=by
          rw[Ju,Ee M (l:=θ) A,S]
         rw[S]at a;have an:Co (CZ T G) (stD j C.nv (v.V.inst L))=r:=EJ a
         have ad:(o1++o2).holds v.V:=G7 J (fun k=>by
          show(v.V.fn d.g (Ab v.V (stE j θ))).cells.getD k default=(v.V.fn d.g (Ab v.V (stE i (C5 0 m.nv)))).cells.getD k default;rw[Z,O,hG,hg,hg,an,H]) (.inr (by
          show D.bool ((((v.V.fn d.g (Ab v.V (stE j θ))).cells.getD 0 default).toInt)==((s+1:Nat):Int))=_;rw[Z,hG,hg,an];have:(r.cells.getD 0 default).toInt=((s+1:Nat):Int):=ab;rw[this];simp)) u
         obtain⟨ao,ap⟩:=Obs.append ad;have a4:=ih j C s sh ak ah (v.V.inst L) r hG a ab base KK Q;have a5:Y.fr.todo=(Cd d j C s sh).todo:=aw j _ (I j θ Y rfl rfl) C ak;obtain⟨pn,ae,p1,p2⟩:=Bl (U:=Bk v F J) (hE (U:=Bk v F J) hK) (Cd d j C s sh).pre 0 (@HF ⟨F⟩ E (Cd d j C s sh).pre Y.h (SJ (Cd d j C s sh) Y)).b Y.h σ q2.h;have q2:SR ae (@LL ⟨F⟩ E (Cd d j C s sh) Y) c' [] w1:=⟨q2.fr.mono p2.le,q2.cs.mono p2.le,p1⟩;have X:=X.trans p2 (fun b hb a0=>B b hb)
         have aa:WF (@LL ⟨F⟩ E (Cd d j C s sh) Y).h:=Ext.wf (U:=Bk v F J) X (Kq _ _);have aq:Bn ae (@LL ⟨F⟩ E (Cd d j C s sh) Y).h.nx:=Bn.ext (h:=(m.st d).h) B X;obtain⟨τ,v',w',r1,r2,r3,r4⟩:=Zp hE hK hG J hu ao a4 a5 q2 aa aq;have he:Ext ρ τ (m.st d).h h w w':=X.trans r4 (fun b hb _=>B b hb)
         have ar:WF h:=Ext.wf (U:=Bk v F J) r4 aa;obtain⟨a6,t1,t2,t3⟩:=YO (c:=Cd d i m s sh) hE hK J a3 ap r2 r3 ar he B;exact⟨a6,v',w',Q.pre _ _ _ _ _ _ q1 r1,t1,t2,t3⟩
        ·cases u
       ·cases u
      ·cases u
     ·cases u
   ·cases p
  ·cases p
def Cut.AtO(P:Program)(G:Nat→D→D)(c:Cut)(V:Val)(ok:Bool):Prop:=
 ∀(v:Vals),v.V=V→v.K=(Env.of P).kinds→V.fn=G→Bz V c.facts→∀(ρ:Ren)(t:Frame)(w:World),FrR ρ c.fr t→HR ρ c.h.blk.get w→Bn ρ c.pre.length→
  ∀(c0:Frame)(base:List Frame),∃l I r,BI P (lone t (c0::base) w) c0 base ok I r∧VR l c.res I∧HR l c.h'.blk.get r∧Ext ρ l c.h c.h' w r
theorem sm_okK{E:Env}{G:Nat→D→D}(hE:∀[U:Unk],U.K=(Env.of E.P).kinds→OK E){f nv:Nat}{args:List AV}{pre:List (Option An)}{facts:List (SB×Bool)}{res:AV}{post:List (Option An)}{ok:Bool}(k:(Bc E f args .normal).isSome=true)
 (h:∀V:Val,V.fn=G→Bz V facts→(FD E f nv args pre facts res post).AtO E.P G V ok):Sm.Valid E.P G {f,nv,args,pre,facts,res,post,ok}:=by
 intro U hK l a m w d n o g c0 base;cases b:Bc E f args .normal with
 |none=>rw[b]at k;cases k
 |some fr=>
  have i:=Ca (hE hK) b n
  have e:(FD E f nv args pre facts res post).fr=fr:=by
   unfold Bc at b;split at b
   ·rename_i fn j;split at b
    ·rename_i c p;cases b;simp[Cut.fr,FD,Ec,Bc,j,p,Kr]
    ·cases b
   ·cases b
  exact h U.V l a U.toVals rfl hK l a m _ w (by rw[e];exact i) o g c0 base
theorem Xa(P:Program)(b:FuncId)(c0:Frame)(base:List Frame)(ok:Bool):Tw P b (c0::base) ok (fun d w v a=>BI P (lone d (c0::base) w) c0 base ok v a):=by
 cases ok<;>exact⟨fun c e w w1 v a h k=>Steps.trans h k,fun c w v a h _ _=>Steps.one (h.back c0 base)⟩
theorem bi(P:Program)(b:FuncId)(base:List Frame):Tw P b base true (fun d w v a=>∃fr,Steps P (lone d base w) (lone fr base a)∧fr.fn=b∧fr.leaving P a (.returned v)):=
 ⟨fun c i w w1 v a h ⟨fr,k1,k2,k3⟩=>⟨fr,Steps.trans h k1,k2,k3⟩,fun c w v a h f g=>by
  obtain⟨e,q⟩:=h.leaves g;subst e;exact⟨c,Steps.refl _ _,f,q⟩⟩
def Ai(E:Env)(f nv:Nat)(args:List AV)(pre:List (Option An))(facts:List (SB×Bool)):Pt:=
 {key:=none,nt:=(Ec E f args).nt,nv,todo:=(Ec E f args).todo,tmps:=(Ec E f args).tmps,pre,facts}
def Dec.sm(d:Dec)(args:List AV)(l:Pt)(s:Nat)(sh:Sh):Sm:=
 let c:=Cd d 0 l s sh
 {f:=d.f,nv:=l.nv,args,pre:=l.pre,facts:=c.facts,res:=c.res,post:=c.post,ok:=sh.ok}
theorem Tk(r:D)(h:r=.row []):T4 r=0:=by subst h;rfl
theorem Dec.sm_ok[Ao]{E:Env}{G:Nat→D→D}(hE:∀[U:Unk],U.K=(Env.of E.P).kinds→OK E)(hO:Ac E G){d:Dec}{T:List (Tr Plf)}{keys:List Nat}{N:Nat}(hg:∀x,G d.g x=Co (CZ T G) x)
 (r:∀(i:Nat) pt,d.pts[i]?=some pt→∃js,Af E keys N d T i=some js∧∀j td,(j,td)∈js→∀pj,d.pts[j]?=some pj→td=pj.todo)
 {nv:Nat}{args:List AV}{pre:List (Option An)}{facts:List (SB×Bool)}(J:d.pts[0]?=some (Ai E d.f nv args pre facts))(t:(Bc E d.f args .normal).isSome=true){s:Nat}{sh:Sh}(al:d.shs[s]?=some sh) :
  (d.sm args (Ai E d.f nv args pre facts) s sh).Valid E.P G:=by
 refine AE.sm_okK hE t (fun V hG hf=>?_)
 have an:Bz V (Cd d 0 (Ai E d.f nv args pre facts) s sh).facts:=hf;have hs:=an (Qz d.g 0 (C5 0 nv) s) true (by simp[Cd,Ai])
 have ar:Ab V (stE 0 (C5 0 nv))=stD 0 nv V:=by rw[Ju,Gb];simp[stD]
 have I:T4 (Co (CZ T G) (stD 0 nv V))=(s+1:Nat):=by
  have:((((V.fn d.g (Ab V (stE 0 (C5 0 nv)))).cells.getD 0 default).toInt)==((s+1:Nat):Int))=true:=hs;rw[ar,hG,hg]at this;exact eq_of_beq this
 rcases Fr (CZ T G) (stD 0 nv V)with q|⟨n,hn⟩
 ·rw[Tk _ q]at I;omega
 ·intro v av hK bd l ρ cf w be hr bm c0 base;exact YS hE hO hg r n 0 _ s sh J al V _ hG hn I (c0::base) _ (Xa E.P d.f c0 base sh.ok) v av hK bd l ρ cf w be hr bm
def Am:List (Nat×AV)→T AV
 |[]=>.nil
 | (i,a)::r=>(Am r).set i a
def DK(key:Nat):Code→List AI→Option (List AI)
 |.seq a b,k=>match DK key a (.code b::k)with
  |some l=>some l
  |none=>DK key b k
 |.cond _ a b,k=>match DK key a k with
  |some l=>some l
  |none=>DK key b k
 |.block id b,k=>DK key b (.inBlock id::k)
 |.loop b,k=>match Wk [key] b with
  |true=>some (.code b::.inLoop b::k)
  |false=>DK key b (.inLoop b::k)
 |.scope b,k=>DK key b (.inScope b::k)
 |_,_=>none
def EU(key:Nat):Code→List AI→Option (List AI)
 |.seq a b,k=>match EU key a (.code b::k)with
  |some l=>some l
  |none=>EU key b k
 |.cond _ a b,k=>match EU key a k with
  |some l=>some l
  |none=>EU key b k
 |.block id b,k=>EU key b (.inBlock id::k)
 |.loop b,k=>EU key b (.inLoop b::k)
 |.scope b,k=>EU key b (.inScope b::k)
 |.region id ops d,k=>match Nat.beq id key with
  |true=>some (.code (.region id ops d)::k)
  |false=>none
 |_,_=>none
def Cx(key:Nat):Code→Option (List Tmp×Code×Code)
 |.seq a b=>match Cx key a with
  |some l=>some l
  |none=>Cx key b
 |.cond _ a b=>match Cx key a with
  |some l=>some l
  |none=>Cx key b
 |.block _ b=>Cx key b
 |.loop b=>Cx key b
 |.scope b=>Cx key b
 |.rangeFunc _ c a b=>match Wk [key] (.seq a b)with
  |true=>some (c.toList,a,b)
  |false=>Cx key b
 |_=>none
def AB(E:Env)(f:FuncId)(key:Nat)(st:LoopState)(pending:Option Code)(nt:Nat)(tmps:List (Nat×AV))(d:Nat):An:=match E.fn.get f with
 |some fn=>match fn.body with
  |some b=>match Cx key b with
   |some (c,a,e)=>.loop st pending f nt (Am tmps) c a e d
   |none=>.deferred none
  |none=>.deferred none
 |none=>.deferred none
def IQ(E:Env)(f:FuncId)(key:Nat):List AI:=match E.fn.get f with
 |some fn=>match fn.body with
  |some b=>match (match Nat.ble 1000000 key with|true=>EU (key-1000000) b []|false=>DK key b [])with
   |some l=>l
   |none=>[]
  |none=>[]
 |none=>[]
def Ap(E:Env)(f nt key nv:Nat)(tmps:List (Nat×AV))(pre:List (Option An))(facts:List (SB×Bool))(defs:List AD):Pt:=
 {key:=some key,nt,nv,todo:=IQ E f key,tmps:=Am tmps,pre,facts,defs}
end Go.AE
namespace Go.AE
variable [Gl:AG]
open Go.RowKit
def Xl(o:Option Nat)(P:Program)(ts:List TypeId)(a:List D):Prop:=∃ks cs M,By (Env.of P) ts=some ks∧DVL (Env.of P).kinds M ks cs a∧(Can ks a∧Px (Env.of P).kinds 9 ks a)∧ShL (Env.of P).kinds o 9 ks a
def QK(P:Program)(ts:List TypeId)(a:List D):Prop:=∃ks cs M,By (Env.of P) ts=some ks∧DVL (Env.of P).kinds M ks cs a∧Can ks a∧Px (Env.of P).kinds 9 ks a
def MY:Sh:={m:=1,res:=.sb true (.var 0),post:=[],keep:=[]}
def B8(E:Env)(ts:List TypeId):List (SB×Bool):=match By E ts with
 |some ks=>Cm 0 ks
 |none=>[]
def FH(E:Env)(ts:List TypeId):Nat:=match By E ts with
 |some ks=>ks.length
 |none=>0
def Hh(E:Env)(ts:List TypeId):List AV:=match @Gf ⟨B8 E ts⟩ E 0 ts with
 |some l=>l
 |none=>[]
def MD(E:Env)(f:FuncId)(ts:List TypeId):Pt:=Ai E f (FH E ts) (Hh E ts) [] (B8 E ts)
def Z1(E:Env)(f:FuncId)(ts:List TypeId)(L:List TypeId):Bool:=
 Hr E L L&&(match By E ts with
  |some ks=>ks.all (ND L)
  |none=>false)&&(@Gf ⟨B8 E ts⟩ E 0 ts).isSome&&(Bc E f (Hh E ts) .normal).isSome
section
variable {E:Env}{L:List TypeId}{H:Type}{enc:TypeId×Value→H}{w:World}{base:Nat}{sp:Nat→Bool}{held:Bool}
theorem dS[Ao]{G:Nat→D→D}(hE:∀[U:Unk],U.K=(Env.of E.P).kinds→OK E)(m:E.kinds=(Env.of E.P).kinds)(hO:Ac E G){d:Dec}{T:List (Tr Plf)}{keys:List Nat}{N:Nat}(hg:∀x,G d.g x=Co (CZ T G) x)
 (O:∀(i:Nat) pt,d.pts[i]?=some pt→∃js,Af E keys N d T i=some js∧∀j td,(j,td)∈js→∀pj,d.pts[j]?=some pj→td=pj.todo)
 {ts:List TypeId}(ac:d.pts[0]?=some (MD E d.f ts))(ad:d.shs[0]?=some MY)(B:Z1 E d.f ts L=true)(ae:By E ts=By (Env.of E.P) ts)
 {o:Option Nat}(s:∀a,Xl o E.P ts a→G d.g (.row (.int 0::a))=.row [.int 1,.bool true])
 {Q:List Value}{ds:List (DataW H)}{ps:List MemPlace}(af:BD o ds)(hA:DataW.TrodAll enc E.P w base sp held ts Q ds ps)(S:∀(j:Nat) t v,ts[j]?=some t→Q[j]?=some v→∃r b0,Value.okWide E.P w r b0 t v)(ag:IM (Fa w)) :
  Calls E.P d.f Q.toArray w fun e W'=>e=.returned (.bool true)∧Below w.heap.size w W':=by
 unfold Z1 at B;simp only[F9]at B;obtain⟨⟨⟨hL,C⟩,y⟩,z⟩:=B;split at C
 ·rename_i ks J;obtain⟨cs,a,q1,qc,q2⟩:=dO (U:=Yh E.P) (hE (U:=Yh E.P) rfl) hL (o:=o) ts Q ds ps ks hA S J C af;have W:ks.length=a.length:=q1.len.2;have ah:FH E ts=a.length:=by unfold FH;rw[J];exact W
  have ai:B8 E ts=Cm 0 ks:=by unfold B8;rw[J]
  have X:Bz (Di G a) (B8 E ts):=by
   rw[ai];exact HO (U:=Yh E.P) ks cs a 0 (fun i hi=>by simp[Di]) q1
  intro Y;cases F:Bc E d.f (Hh E ts) .normal with
  |none=>rw[F]at z;cases z
  |some fr=>
   have aj:stD 0 (FH E ts) (Di G a)=.row (.int 0::a):=by
    unfold stD;rw[ah]
    congr 2
    apply List.ext_getElem
    ·simp
    ·intro k h1 h2;simp[Di,F4,h2]
   have l:=s a ⟨ks,cs,Fa w,by rw[←ae];exact J,by rw[←m];exact q1,⟨qc.1.1,by rw[←m];exact qc.1.2⟩,by rw[←m];exact qc.2⟩
   rw[hg,←aj]at l;rcases Fr (CZ T G) (stD 0 (FH E ts) (Di G a))with q|⟨n,hn⟩
   ·rw[q]at l;cases l
   ·rw[l]at hn;have ak:=YS hE hO hg O n 0 _ 0 MY ac ad (Di G a) _ rfl hn rfl Y _ (bi E.P d.f Y)
    let A:Vals:={V:=Di G a,K:=E.kinds,R:=[],hR:=fun _ _ _ _ _ h=>(by cases h)}
    have Z:Ab (Di G a) (stE 0 (C5 0 (FH E ts)))=stD 0 (FH E ts) (Di G a):=by
     rw[Ju,Gb];simp[stD]
    have p:(Di G a).fn d.g (Ab (Di G a) (stE 0 (C5 0 (FH E ts))))=.row [.int 1,.bool true]:=by
     rw[Z,←l];exact hg _
    have u:Bz A.V (Cd d 0 (MD E d.f ts) 0 MY).facts:=by
     intro e b hm;have al:(e,b)∈B8 E ts++[(Qz d.g 0 (C5 0 (FH E ts)) 0,true)]:=hm;rcases Aes.1 al with q|q
     ·exact X e b q
     ·simp only[Aeu,k0]at q;obtain⟨rfl,rfl⟩:=q;show((((Di G a).fn d.g (Ab (Di G a) (stE 0 (C5 0 (FH E ts))))).cells.getD 0 default).toInt==((0+1:Nat):Int))=true;rw[p];rfl
    have I:@VL A ⟨fun _=>none,Fa w⟩ (Hh E ts) Q:=by
     cases hs:@Gf ⟨B8 E ts⟩ E 0 ts with
     |none=>rw[hs]at y;cases y
     |some aa=>
      have e1:Hh E ts=aa:=by unfold Hh;rw[hs]
      rw[e1];exact q2 {facts:=B8 E ts,toVals:=A,ok:=X} 0 aa ⟨fun _=>none,Fa w⟩ rfl rfl (fun i hi=>by show(Di G a).d (0+i)=_;simp[Di]) hs
    have am:=hE (U:={facts:=B8 E ts,toVals:=A,ok:=X}) m;have ab:=Ca (U:={facts:=B8 E ts,toVals:=A,ok:=X}) am F I
    have an:(Cd d 0 (MD E d.f ts) 0 MY).fr=fr:=by
     have M:=F;unfold Bc at M;split at M
     ·rename_i fn ao;split at M
      ·rename_i c hc;cases M;simp[Cut.fr,Cd,MD,Ai,Ec,Bc,ao,hc,Kr]
      ·cases M
     ·cases M
    obtain⟨σ,v',w',⟨ap,k1,k2,k3⟩,r1,r2,r3⟩:=ak A rfl m rfl u ⟨fun _=>none,Fa w⟩ _ w (by rw[an];exact ab) (YU (U:={facts:=B8 E ts,toVals:=A,ok:=X}) w ag) (fun b _=>rfl)
    have aq:v'=.bool true:=by
     have e2:(Cd d 0 (MD E d.f ts) 0 MY).res=.sb true (.sel (.app d.g (stE 0 (C5 0 (FH E ts)))) 1):=rfl;rw[e2]at r1;cases r1
     have:Ah A.V (.sel (.app d.g (stE 0 (C5 0 (FH E ts)))) 1)=true:=by
      show(((Di G a).fn d.g (Ab (Di G a) (stE 0 (C5 0 (FH E ts))))).cells.getD 1 default).toBool=true;rw[p];rfl
     rw[this];rfl
    subst aq;exact⟨.returned (.bool true),w',ap,⟨rfl,r3.calm.os,r3.calm.tape,r3.calm.output,r3.calm.size,fun k J=>r3.kept k J (fun b base h=>by cases h)⟩,k1,k2,k3⟩
 ·cases C
end
theorem Sj[Ao]{H:Type}{enc:TypeId×Value→H}{a:Assume}{C:Checked}{os:Os}{fn:Func}{s:ChangeSpec}{n:List PathCond}{apart:Bool}{L:List TypeId}{tb:TypeId}{l:List Orc}{m:List Sm}{G:Nat→D→D}{d:Dec}{T:List (Tr Plf)}{keys:List Nat}{N:Nat}
 (X:ownKnob C.prog.godebug=none)(u:os.Started)(z:C.prog.inits.idxOf? d.f=none)(Y:C.prog.funcs[d.f]?=some fn)
 (witness:∃(w:World) (tape:Tape) (i:Input),w.os=os∧(w.forCall tape i).Shaped C.prog∧i.vars=[]∧Input.okWide C.prog (w.forCall tape i) .any w.heap.size d.f i∧
   s.pre6 enc C.prog fn n apart (w.forCall tape i).memory i.args∧a.holds C.prog (lone (Frame.enter C.prog d.f i.args .normal) [] (w.forCall tape i)))
 (hl:laidOutB C.prog=true)(hr:∀t∈fn.params.toList,C.prog.readableRec t=true∧t<C.prog.types.size)(y:s.vars=[])
 (B:∀F:List (DataW H),F.length=fn.params.toList.length→s.fn H F={results:=[.lit (.bool true)],args:=F})
 (J:fn.resultTypes = #[tb])(hb:C.prog.underlying tb=some .bool)(hE:∀[U:Unk],U.K=(Env.of C.prog).kinds→OK (Env.ofS C.prog l m))(hO:Ac (Env.ofS C.prog l m) G)
 (hg:∀x,G d.g x=Co (CZ T G) x)(O:∀(i:Nat) pt,d.pts[i]?=some pt→∃js,Af (Env.ofS C.prog l m) keys N d T i=some js∧∀j td,(j,td)∈js→∀pj,d.pts[j]?=some pj→td=pj.todo)
 (Z:d.pts[0]?=some (MD (Env.ofS C.prog l m) d.f fn.params.toList))(aa:d.shs[0]?=some MY)(ab:Z1 (Env.ofS C.prog l m) d.f fn.params.toList L=true)
 (A:∀S,QK C.prog fn.params.toList S→G d.g (.row (.int 0::S))=.row [.int 1,.bool true])(ac:Gl.tab=.nil) :
  ReturnsInHanded a C os d.f .any (s.pre6 enc C.prog fn n apart) (s.post enc C.prog fn apart true false false):=by
 refine returnsInHanded_of_change X u z Y witness ?_;intro W base args F gs V P hW af _;have Q:=hW;obtain⟨p,q,hA,hV,rfl,ag,ah⟩:=hW;rw[y]at hV
 have ad:gs=[]∧q=[]:=by
  cases gs with
  |nil=>exact⟨rfl,hV⟩
  |cons=>simp[DataW.TrodVars]at hV
 obtain⟨rfl,rfl⟩:=ad;have R:=Le hA;have I:=B F R
 have ae:By (Env.ofS C.prog l m) fn.params.toList=By (Env.of C.prog) fn.params.toList:=by
  generalize fn.params.toList=ts
  induction ts with
  |nil=>rfl
  |cons t r ih=>simp only[By];rw[ih];rfl
 refine(dS (E:=Env.ofS C.prog l m) hE rfl hO hg O Z aa ab ae (o:=none) (fun S ⟨ks,cs,M,a,b,c,_⟩=>A S ⟨ks,cs,M,a,b,c.1,c.2⟩) (BD.none F) hA (fun j t v ht hv=>⟨_,_,P j t v (by simpa using ht) (by simpa using hv)⟩) (IM.none ac _)).mono ?_
 rintro e W' ⟨rfl,k⟩
 refine⟨.bool true,rfl,F,[],p++[],[],p,[],Q,?_,?_,?_,k.frame _,fun h=>by cases h⟩
 ·rw[List.append_nil,I,J];exact⟨[],[],shut_bool hb true,rfl,rfl⟩
 ·rw[List.append_nil,I];exact HU hl k hr hA (fun x hx=>Q.lt x (by simp[hx]))
 ·rw[List.append_nil,I,y];rfl
end Go.AE
namespace Go.AE
variable [Gl:AG]
def jl(d:Dec):List Nat→List (Nat×List AI)
 |[]=>[]
 |j::r=>(j,(d.pts.getD j default).todo)::jl d r
def As(E:Env)(keys:List Nat)(N:Nat)(d:Dec)(T:List (Tr Plf)):Prop:=
 ∀(i:Nat) a,d.pts[i]?=some a→∃l,Af E keys N d T i=some (jl d l)
theorem YM{d:Dec}:∀{l:List Nat}{j:Nat}{td:List AI},(j,td)∈jl d l→∀b,d.pts[j]?=some b→td=b.todo
 |[],j,td,h,b,c=>by cases h
 |a::r,j,td,h,b,c=>by
  rcases i0.1 h with q|q
  ·cases q;simp[F4,c]
  ·exact YM q b c
theorem As.chk{E:Env}{keys:List Nat}{N:Nat}{d:Dec}{T:List (Tr Plf)}(h:As E keys N d T)(i:Nat)(t:Pt)(J:d.pts[i]?=some t) :
  ∃I,Af E keys N d T i=some I∧∀j td,(j,td)∈I→∀r,d.pts[j]?=some r→td=r.todo:=by
 obtain⟨l,hl⟩:=h i t J;exact⟨_,hl,fun j td hm r hj=>YM hm r hj⟩
def Tr.appsLt(m:Nat):Tr Plf→Bool
 |.leaf .stuck=>true
 |.leaf (.done _ cs)=>IA 1000 m cs
 |.leaf (.next _ l)=>IA 1000 m l
 |.split e a b=>e.fits 1000 m&&a.appsLt m&&b.appsLt m
def OB(m:Nat):List (Tr Plf)→Bool
 |[]=>true
 |t::r=>t.appsLt m&&OB m r
def Im:Nat→List (List (Tr Plf))→Bool
 |_,[]=>true
 |m,t::r=>OB m t&&Im (m+1) r
def gAt[Ao](a:List (List (Tr Plf))):Nat→Nat→D→D
 |0,_,_=>.row []
 |n+1,k,x=>if k=n then Co (CZ (a.getD n []) (gAt a n)) x else gAt a n k x
def Ag[Ao](a:List (List (Tr Plf))):Nat→D→D:=gAt a a.length
theorem QA[Ao](a:List (List (Tr Plf))){k:Nat}(x:D):∀{n:Nat},k<n→gAt a n k x=gAt a (k+1) k x
 |0,h=>by omega
 |n+1,h=>by
  by_cases c:k=n
  ·subst c;rfl
  ·have:gAt a (n+1) k x=gAt a n k x:=by show(if k=n then _ else _)=_;rw[if_neg c]
   rw[this];exact QA a x (by omega)
theorem TI{m:Nat}{V W:Val}(k:V.d=W.d)(n:∀i,i<m→V.fn i=W.fn i):∀{t:Tr Plf},t.appsLt m=true→Dm V (t.get V)=Dm W (t.get W):=by
 have c:V.Alike 1000 m W:=⟨fun i _=>by rw[k],n⟩
 intro t
 induction t with
 |leaf l=>
  intro h;cases l with
  |stuck=>rfl
  |done s cs=>simp only[Tr.get,Dm];rw[Ee c h]
  |next j p=>simp only[Tr.get,Dm];rw[Ee c h]
 |split e a b f g=>
  intro h;simp only[Tr.appsLt,F9]at h;have o:Ah V e=Ah W e:=by unfold Ah;rw[SE.fits_ok c e h.1.1]
  simp only[Tr.get,o];cases Ah W e with
  |true=>exact f h.1.2
  |false=>exact g h.2
theorem aC{m:Nat}{G H:Nat→D→D}(c:∀i,i<m→G i=H i){T:List (Tr Plf)}(d:OB m T=true):CZ T G=CZ T H:=by
 have key:∀(T:List (Tr Plf)),OB m T=true→∀(i:Nat) t,T[i]?=some t→t.appsLt m=true:=by
  intro T
  induction T with
  |nil=>intro _ i t h;simp at h
  |cons a r ih=>
   intro h i t hi;simp only[OB,F9]at h;cases i with
   |zero=>simp only[gy,C2]at hi;subst hi;exact h.1
   |succ i=>exact ih h.2 i t (by simpa using hi)
 funext x
 unfold CZ;split
 ·rename_i i b;split
  ·rename_i t e;exact TI (m:=m) (V:=Lt G b) (W:=Lt H b) rfl (fun i hi=>c i hi) (key T d i t e)
  ·rfl
 ·rfl
theorem L0:∀{c:List (List (Tr Plf))} {m:Nat},Im m c=true→∀(k:Nat) T,c[k]?=some T→OB (m+k) T=true
 |[],m,_,k,T,h=>by simp at h
 |a::r,m,h,k,T,b=>by
  simp only[Im,F9]at h;cases k with
  |zero=>simp only[gy,C2]at b;subst b;exact h.1
  |succ k=>
   have:=L0 h.2 k T (by simpa using b)
   rwa [show m+1+k=m+(k+1) by omega]at this
theorem Ak[Ao]{a:List (List (Tr Plf))}(h:Im 0 a=true){k:Nat}{T:List (Tr Plf)}(b:a[k]?=some T)(x:D):Ag a k x=Co (CZ T (Ag a)) x:=by
 have c:k<a.length:=(L2.1 b).1;have d:=L0 h k T b;rw[s0]at d
 have e:Ag a k x=Co (CZ T (gAt a k)) x:=by
  unfold Ag;rw[QA a x c];show(if k=k then _ else _)=_
  rw[if_pos rfl];simp[F4,b]
 rw[e,aC (fun i hi=>?_) d]
 funext y
 unfold Ag;rw[QA a y hi,QA a y (show i<a.length by omega)]
def Dec.smL(d:Dec)(args:List AV)(l:Pt):Nat→List Sh→List Sm
 |_,[]=>[]
 |s,sh::r=>d.sm args l s sh::d.smL args l (s+1) r
theorem Ac.decL[Ao]{P:Program}{l:List Orc}{m:List Sm}{G:Nat→D→D}(hE:∀[U:Unk],U.K=(Env.of P).kinds→OK (Env.ofS P l m))(hO:Ac (Env.ofS P l m) G){d:Dec}{T:List (Tr Plf)}{keys:List Nat}{N:Nat}(hg:∀x,G d.g x=Co (CZ T G) x)
 (I:As (Env.ofS P l m) keys N d T){nv:Nat}{args:List AV}{pre:List (Option An)}{facts:List (SB×Bool)}(al:d.pts[0]?=some (Ai (Env.of P) d.f nv args pre facts))(J:(Bc (Env.of P) d.f args .normal).isSome=true) :
  Ac (Env.ofS P l (d.smL args (Ai (Env.of P) d.f nv args pre facts) 0 d.shs++m)) G:=by
 have key:∀(shs:List Sh)(t:Nat),(∀(i:Nat) sh,shs[i]?=some sh→d.shs[t+i]?=some sh)→∀x∈d.smL args (Ai (Env.of P) d.f nv args pre facts) t shs,x.Valid P G:=by
  intro shs
  induction shs with
  |nil=>intro t _ x hx;cases hx
  |cons sh r ih=>
   intro t hs x hx;rcases i0.1 hx with q|q
   ·subst q;exact Dec.sm_ok (E:=Env.ofS P l m) hE hO hg I.chk al J (hs 0 sh rfl)
   ·exact ih (t+1) (fun i an hi=>by have:=hs (i+1) an (by simpa using hi);rwa [show t+(i+1)=t+1+i by omega]at this) x q
 refine⟨hO.orc,fun x hx=>?_⟩
 rcases Aes.1 hx with q|q
 ·exact key d.shs 0 (fun i sh hi=>by rw[s0];exact hi) x q
 ·exact hO.sms x q
theorem Ac.fake{P:Program}{l:List Orc}{m:List Sm}{s:Sm}{G:Nat→D→D}(hO:Ac (Env.ofS P l m) G)(h:s.facts=[(.bc false,true)]):Ac (Env.ofS P l (s::m)) G:=
 ⟨hO.orc,fun x r=>(i0.1 r).elim (fun e=>by
  subst e;intro _ _ t;have q:=t (SE.bc false) true (by rw[h];exact Ae7)
  exact Bool.noConfusion (q:false=true)) (fun e=>hO.sms x e)⟩
theorem Ac.cut{P:Program}{l:List Orc}{a c m:List Sm}{G:Nat→D→D}(hO:Ac (Env.ofS P l (a++(c++m))) G):Ac (Env.ofS P l (a++m)) G:=
 ⟨hO.orc,fun s r=>hO.sms s ((Aes.1 r).elim (fun q=>List.mem_append_left _ q) (fun q=>Afc _ (Afc _ q)))⟩
end Go.AE
namespace Go.AE
variable [Gl:AG]
abbrev iV(n:Nat):AV:=.si .i64 (.var n)
abbrev sV(n:Nat):AV:=.ss (.var n)
abbrev bV(n:Nat):AV:=.sb true (.var n)
abbrev dV(e:TypeId)(n:Nat):AV:=.dat e (.var n)
abbrev aV(b a n m:Nat):AV:=.asl b a (.lenL (.var n)) (.var m)
abbrev tO(l:List (Nat×AV)):Option An:=some (.cells l.length (Am l))
abbrev rV(e:TypeId)(n:Nat):Option An:=some (.arr e (.var n))
class Pg(p:outParam Program)(l:outParam (List Orc)):Prop where
 it:True
abbrev E0{p:Program}{l:List Orc}[Pg p l]:Env:=Env.of p
abbrev EF{p:Program}{l:List Orc}[Pg p l](m:Env→List Sm):Env:=Env.ofS p l (m E0)
def rl:List SE→SE
 |[]=>.rnil
 |x::r=>.rcons x (rl r)
def us:Nat→Nat→List SE
 |_,0=>[]
 |a,n+1=>.var a::us (a+1) n
section
variable {E:Env}{keys:List Nat}{N:Nat}{d:Dec}{T:List (Tr Plf)}
theorem dkN{n:Nat}(h:d.pts.length=n)(H:∀i,i<n→∃l,Af E keys N d T i=some (jl d l)):As E keys N d T:=fun i b a=>H i (by
 rcases hH i n with q|q
 ·exact q
 ·rw[Aeq (by omega)]at a
  cases a)
theorem dk1{x0:List Nat}(h:d.pts.length=1)(a:Af E keys N d T 0=some (jl d x0)):As E keys N d T:=dkN h fun i hi=>match i,hi with
 |0,_=>⟨_,a⟩
 |i+1,hi=>absurd hi (by omega)
theorem dk2{x0 x1:List Nat}(h:d.pts.length=2)(a:Af E keys N d T 0=some (jl d x0))(b:Af E keys N d T 1=some (jl d x1)):As E keys N d T:=dkN h fun i hi=>match i,hi with
 |0,_=>⟨_,a⟩
 |1,_=>⟨_,b⟩
 |i+2,hi=>absurd hi (by omega)
theorem dk3{x0 x1 x2:List Nat}(h:d.pts.length=3)(a:Af E keys N d T 0=some (jl d x0))(b:Af E keys N d T 1=some (jl d x1))(c:Af E keys N d T 2=some (jl d x2)):As E keys N d T:=dkN h fun i hi=>match i,hi with
 |0,_=>⟨_,a⟩
 |1,_=>⟨_,b⟩
 |2,_=>⟨_,c⟩
 |i+3,hi=>absurd hi (by omega)
theorem dk4{x0 x1 x2 x3:List Nat}(h:d.pts.length=4)(a:Af E keys N d T 0=some (jl d x0))(b:Af E keys N d T 1=some (jl d x1))(c:Af E keys N d T 2=some (jl d x2))(e:Af E keys N d T 3=some (jl d x3)):As E keys N d T:=dkN h fun i hi=>match i,hi with
 |0,_=>⟨_,a⟩
 |1,_=>⟨_,b⟩
 |2,_=>⟨_,c⟩
 |3,_=>⟨_,e⟩
 |i+4,hi=>absurd hi (by omega)
theorem dk5{x0 x1 x2 x3 x4:List Nat}(h:d.pts.length=5)(a:Af E keys N d T 0=some (jl d x0))(b:Af E keys N d T 1=some (jl d x1))(c:Af E keys N d T 2=some (jl d x2))(e:Af E keys N d T 3=some (jl d x3))(f:Af E keys N d T 4=some (jl d x4)):As E keys N d T:=dkN h fun i hi=>match i,hi with
 |0,_=>⟨_,a⟩
 |1,_=>⟨_,b⟩
 |2,_=>⟨_,c⟩
 |3,_=>⟨_,e⟩
 |4,_=>⟨_,f⟩
 |i+5,hi=>absurd hi (by omega)
end
end Go.AE
namespace Go.AE
instance gl0:AG:=⟨.nil⟩
end Go.AE

