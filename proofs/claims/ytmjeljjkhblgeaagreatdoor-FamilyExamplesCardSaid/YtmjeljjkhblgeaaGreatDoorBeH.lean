/- What is proved here: an evaluator of the model's steps that the kernel can run, and that whatever it answers is what the model does (part 8 of 8: AeVc1, AeVc2, AeVc3, AeDec1, AeDec2, AeDec3, AeDec4, AeDec5, AeShort, AeGlob). Conditions: those that each theorem states; they hold of no one program. -/
import Derived.Test.YtmjeljjkhblgeaaGreatDoorBeG
import Derived.JoinedCond
set_option linter.unusedVariables false
set_option linter.unusedSectionVars false
set_option linter.unusedSimpArgs false
namespace Go.AE
variable [Gl:Au]
def Bx:Code→Option Nat
 |.region id _ _=>some id
 |.seq a b=>match Bx a with
  |some i=>some i
  |none=>Bx b
 |.cond _ a b=>match Bx a with
  |some i=>some i
  |none=>Bx b
 |.block _ b=>Bx b
 |.loop b=>Bx b
 |.scope b=>Bx b
 |_=>none
def V4 (keys:List Nat) (c:Code):Bool:=match Bx c with
 |some i=>KE i keys
 |none=>false
def V9 (keys:List Nat) (s:AS):Bool:=
 match s.cs,s.fr.mode,s.fr.todo with
 |[],.run,.code (.loop b)::_=>V4 keys b
 |[],.run,.inLoop b::_=>V4 keys b
 |_,_,_=>false
def Yn:AV→Option SB
 |.sb _ e=>some e
 |_=>none
def orE (a b:Option SB):Option SB:=match a with
 |some x=>some x
 |none=>b
def ask [U:Facts] (e:SB):Option SB:=match Az U.facts e with
 |none=>some e
 |some _=>none
def NT [Facts] (i n:SE):Option SB:=orE (ask (.lss i (.c 0))) (ask (.lss i n))
def Lc [Facts] (θ:List SE):List (SB×Bool)→Option SB
 |[]=>none
 | (e,_)::r=>orE (ask (e.inst θ)) (Lc θ r)
inductive TA where
 |ask (e:SB)
 |no
 |free
 deriving Inhabited
def RS:Obs→Bool
 |[]=>true
 | (a,.bc true)::r=>a.isB&&RS r
 |_=>false
def Qi [Facts]:Obs→Option SB
 |[]=>none
 | (a,_)::r=>orE (ask a) (Qi r)
def P8:List AV→List AV→Bool
 |[],[]=>true
 |a::l,b::m=>(match a,b with
  |.func (.yield i) _ _,.func (.yield j) _ _=>Nat.beq i j
  |a,b=>Bg a b)&&P8 l m
 |_,_=>false
def Tf:Option (List AV)→List AV→Bool
 |some l,m=>P8 l m
 |none,_=>true
def M7 [Facts] (E:Env) (f:FuncId) (args:List AV) (h:Aa):Option (List AV)→List Sm→TA
  |_,[]=>.free
  |g,s::r=>match Nat.beq s.f f&&Tf g s.args with
    |true=>match Nk E s args h with
     | (args1,h0)=>match AC E s.pre 0 (F0 E s.pre h0 (DK s.args args1 ⟨.nil,.nil⟩)) h0 with
      | (m,h1)=>match Dc (EW (GJ m.v 0 s.nv) (Ha m.b 0 s.pre.length) s.args args1) (DG E (GJ m.v 0 s.nv) (Ha m.b 0 s.pre.length) h1 s.pre (Ha m.b 0 s.pre.length)) with
        |some o=>match RS o with
          |true=>match orE (Qi o) (Lc (GJ m.v 0 s.nv) s.facts) with
            |some e=>.ask e
            |none=>match M7 E f args h (some s.args) r with
              |.free=>.no
              |x=>x
          |false=>M7 E f args h g r
        |none=>M7 E f args h g r
    |false=>M7 E f args h g r
def RV [Facts] (E:Env) (f:FuncId) (args:List AV) (h:Aa) (l:List Sm):TA:=M7 E f args h none l
def Li [Facts] (E:Env) (f:Nat):Ask→Aa→Option (Bool×AV×Aa):=fun a h=>match a with
 |.enter g args=>match Il E g args h with
  |some r=>some r
  |none=>match args.isEmpty,RV E g args h E.sms with
   |true,.ask _=>none
   |true,.no=>none
   |_,_=>match BO E g args .normal with
    |some fr=>EP E f fr.fn true {fr,cs:=[],h}
    |none=>none
 |.round l args=>match Fl l args h with
  |some fr=>EP E f fr.fn true {fr,cs:=[],h}
  |none=>none
def Hg [Facts] (h:Aa):AV→Option SB
 |.asl b _ n _=>match h.blk.get b with
  |some (.arr _ y)=>match Jh n y with
   |true=>none
   |false=>ask (.eql n (.lenL y))
  |_=>none
 |_=>none
def Pm [Facts] (E:Env) (ts:List TypeId) (args:List AV) (h:Aa):Option SB:=
 match ts,args with
 |t::_,[s,x]=>match E.desc t with
  |some (.slice e)=>match E.kinds e with
   |some ks=>orE (orE (Hg h s) (Hg h x)) <| match Qz e ks (EX E e x (EX E e s h)) s with
    |some (ys,_,_)=>match Us e ks (EX E e x (EX E e s h)) ys x with
     |some (_,m)=>orE (ask (.lss (.lenL ys) (.c 1073741824))) (ask (.lss m (.c 1048576)))
     |none=>none
    |none=>none
   |none=>none
  |_=>none
 |_,_=>none
def Mb [Facts] (mx:Bool):SE→List AV→Option SB
 |_,[]=>none
 |x,y::r=>match toI y with
  |some (_,b)=>match (match mx with|true=>Az Facts.facts (.lss x b)|false=>Az Facts.facts (.lss b x)) with
   |some true=>Mb mx b r
   |some false=>Mb mx x r
   |none=>some (match mx with|true=>.lss x b|false=>.lss b x)
  |none=>none
def Nw [Facts] (mx:Bool):List AV→Option SB
 |y::r=>match toI y with
  |some (_,a)=>Mb mx a r
  |none=>none
 |[]=>none
def P7 [Facts] (E:Env) (t:TypeId) (k:AV):List Ak→Option SB
 |[]=>none
 |e::r=>match eqK E t k e.key with
  |some true=>none
  |some false=>P7 E t k r
  |none=>Gs E 10000 t k e.key
def Qf [Facts] (E:Env) (t:TypeId) (m k:AV) (h:Aa):Option SB:=
 match IE E t,m with
 |some (kt,vt,kks,vks),.map r=>match RL kt vt kks vks (h.blk.get r),Ow kks k with
  |some x,some kr=>ask (.lss (.mIdx kks x kr) (.c 0))
  |_,_=>none
 |_,_=>none
def R9 [Facts] (n:SE):Option SE→Option SE→Option SB
 |some l,some u=>orE (ask (.lss l (.c 0))) (orE (ask (.lss u l)) (ask (.lss n u)))
 |_,_=>none
def Tk [U:Facts] (e:SE):Nat→Nat→Option SB
 |0,_=>none
 |n+1,j=>match Az U.facts (.eql e (.c j)) with
  |some true=>none
  |some false=>Tk e n (j+1)
  |none=>some (.eql e (.c j))
def GT [Facts] (n:Nat):AV→Option SB
 |.si _ e=>match Nat.ble n 64 with
  |true=>Tk e n 0
  |false=>none
 |_=>none
def Hq [Facts] (n:Nat):Option AV→Option SB
 |some a=>GT n a
 |none=>none
def S3 [U:Facts] (E:Env) (t:TypeId) (d x:AV) (h:Aa):Option SB:=
 match E.desc t,d with
 |some (.slice e),.slice _ _ n _=>match Ov e h x with
  |some y=>match Az U.facts (.lss (.lenL y) (.c n)) with
   |some true=>GT n (.si .i64 (.lenL y))
   |some false=>none
   |none=>some (.lss (.lenL y) (.c n))
  |none=>Hg h x
 |_,_=>none
def KR [Facts]:SE→Option SB
 |.strc _ _=>none
 |e=>ask (.lss (.lenS e) (.c 4611686018427387904))
def LW (E:Env) (t:TypeId):Nat:=match E.desc t with
 |some (.array n _)=>n
 |_=>0
def Hh [Facts]:AV→Option SB
 |.nmap _ nl=>ask nl
 |.iface _ (.nmap _ nl)=>ask nl
 |_=>none
def Kl [Facts]:List AV→Option SB
 |[]=>none
 |a::r=>orE (Hh a) (Kl r)
def UG [Facts] (tmps:T AV):Op→Option SB
 |.lookup _ m _ _=>Hh (Ah tmps m)
 |.mapUpdate _ m _ _=>Hh (Ah tmps m)
 |.mapEntry _ m _=>Hh (Ah tmps m)
 |.range _ x=>Hh (Ah tmps x)
 |.call c=>match c.callee with
  |.builtin .append=>none
  |.builtin _=>Kl (c.args.toList.map (Ah tmps))
  |.value _=>Kl (c.args.toList.map (Ah tmps))
  |_=>none
 |_=>none
def Uf [Facts] (E:Env) (tmps:T AV) (h:Aa) (op:Op):Option SB:=
 match op with
 |.pick c _ _=>Yn (Ah tmps c)
 |.binOp .add _ x y _=>match N5 (Ah tmps x),N5 (Ah tmps y) with
  |some a,some b=>orE (KR a) (KR b)
  |_,_=>none
 |.binOp _ _ x y _=>match Ah tmps x,Ah tmps y with
  |.sb _ a,.sb _ b=>orE (ask a) (ask b)
  |_,.si _ b=>ask (.eql b (.c 0))
  |_,_=>none
 |.makeSlice _ l _=>match Ah tmps l with
  |.si _ n=>orE (ask (.lss n (.c 0))) (ask (.lss n (.c 1048577)))
  |_=>none
 |.indexAddr _ x i=>match Ah tmps x,toI (Ah tmps i) with
  |.dat _ y,some (_,ie)=>NT ie (.lenL (BZ y))
  |.asl _ _ n _,some (_,ie)=>NT ie n
  |.slice _ _ n _,_=>GT n (Ah tmps i)
  |.ptr _ _,_=>match op with
   |.indexAddr t _ _=>GT (LW E t) (Ah tmps i)
   |_=>none
  |_,_=>none
 |.load _ a=>match Ah tmps a with
  |.aptr b _ i _=>match h.blk.get b with
   |some (.arr _ y)=>NT i (.lenL (BZ y))
   |_=>none
  |_=>none
 |.store _ a _=>match Ah tmps a with
  |.aptr b _ i _=>match h.blk.get b with
   |some (.arr _ y)=>NT i (.lenL (BZ y))
   |_=>none
  |_=>none
 |.index _ x i=>match Ah tmps x,toI (Ah tmps i) with
  |.ss y,some (_,ie)=>NT ie (.lenS y)
  |.agg _,_=>match op with
   |.index t _ _=>GT (LW E t) (Ah tmps i)
   |_=>none
  |_,_=>none
 |.convert _ _ x=>Hg h (Ah tmps x)
 |.slice _ x lo hi _=>match Ah tmps x with
  |.dat _ y=>R9 (.lenL y) (FV (.c 0) (AR tmps lo)) (FV (.lenL y) (AR tmps hi))
  |.ss y=>R9 (.lenS y) (FV (.c 0) (AR tmps lo)) (FV (.lenS y) (AR tmps hi))
  |.asl b es n nl=>orE (Hg h (.asl b es n nl)) (match h.blk.get b with
   |some (.arr _ y)=>R9 (.lenL y) (FV (.c 0) (AR tmps lo)) (FV (.lenL y) (AR tmps hi))
   |_=>none)
  |.slice _ _ n _=>orE (Hq (n+1) (AR tmps lo)) (Hq (n+1) (AR tmps hi))
  |.ptr _ _=>match op with
   |.slice t _ _ _ _=>orE (Hq (LW E t+1) (AR tmps lo)) (Hq (LW E t+1) (AR tmps hi))
   |_=>none
  |_=>none
 |.lookup t m k _=>match E.desc t,Ah tmps m with
  |some (.map kt _),.map r=>match h.blk.get r with
   |some (.map es _)=>P7 E kt (Ah tmps k) es
   |some (.dmap _ _ _)=>Qf E t (Ah tmps m) (Ah tmps k) h
   |_=>none
  |_,_=>none
 |.mapUpdate t m k _=>match MC (Ah tmps k)||Vc (Qs h (Ah tmps m)) with
  |true=>Qf E t (Ah tmps m) (Ah tmps k) h
  |false=>none
 |.mapEntry t m k=>match MC (Ah tmps k)||Vc (Qs h (Ah tmps m)) with
  |true=>Qf E t (Ah tmps m) (Ah tmps k) h
  |false=>none
 |.call c=>match c.callee with
  |.builtin .max=>Nw true (c.args.toList.map (Ah tmps))
  |.builtin .min=>Nw false (c.args.toList.map (Ah tmps))
  |.builtin .delete=>match c.argTypes.toList,c.args.toList.map (Ah tmps) with
   |t::_,[m,k]=>match I7 E t m k h with
    |some _=>none
    |none=>Qf E t m k h
   |_,_=>none
  |.builtin .copy=>match c.argTypes.toList,c.args.toList.map (Ah tmps) with
   |t::_,[d,x]=>match P9 E t d x h with
    |some _=>none
    |none=>S3 E t d x h
   |_,_=>none
  |.builtin .append=>Pm E c.argTypes.toList (c.args.toList.map (Ah tmps)) h
  |.builtin _=>none
  |_=>match aop E tmps h op with
   |.enter f args _=>match RV E f args h E.sms with
    |.ask e=>some e
    |_=>none
   |_=>none
 |_=>none
def ao [Facts] (E:Env) (tmps:T AV) (h:Aa) (op:Op):Option SB:=orE (UG tmps op) (Uf E tmps h op)
def TU [Facts] (E:Env) (s:AS):TA:=
 match E.sms.isEmpty with
 |true=>.free
 |false=>match s.fr.mode,s.fr.todo with
  |.run,.ops all (o::_)::_=>match Kt o.op with
   |true=>.free
   |false=>match A1 all o s.fr.tmps with
    |some true=>match aop E s.fr.tmps s.h o.op with
     |.enter f args _=>RV E f args s.h E.sms
     |_=>.free
    |_=>.free
  |.run,.code (.rangeFunc f params assign body)::k=>match Dm E s f params.toList assign body k with
   |some (g,args,h3,_)=>RV E g args h3 E.sms
   |none=>.free
  |_,_=>.free
def RM (all:Array Oper) (o:Oper) (tmps:T AV):Option SB:=match o.guard with
 |some (j,_)=>match all.toList[j]? with
  |some g=>match g.dst with
   |some d=>match tmps.get d with
    |some v=>Yn v
    |none=>none
   |none=>none
  |none=>none
 |none=>none
def V0 [Facts] (E:Env) (all:Array Oper) (o:Oper) (tmps:T AV) (h:Aa):Option SB:=
 match A1 all o tmps with
 |none=>RM all o tmps
 |some _=>ao E tmps h o.op
mutual
def Qa [Facts] (E:Env):Nat→AS→Option SB
 |0,_=>none
 |n+1,s=>match s.fr.todo with
  |.code (.cond c _ _)::_=>Yn (Ah s.fr.tmps c)
  |.ops all (o::_)::_=>V0 E all o s.fr.tmps s.h
  |.code (.region _ ops true)::_=>Of E n ops s.fr.nt ops.toList [] s.fr.tmps s.h
  |_=>none
def I8 [Facts] (E:Env):Nat→AS→Option SB
 |0,_=>none
 |n+1,s=>match Oj E s with
  |some s'=>I8 E n s'
  |none=>match TU E s with
   |.ask e=>some e
   |.no=>none
   |.free=>match AQ E s with
    |.next s'=>I8 E n s'
    |.draw s ops k=>match Br E (Li E n) ops s.fr.nt ops.toList [] s.fr.tmps s.h with
     |some (none,tmps,h)=>I8 E n {s with fr:={s.fr with tmps,todo:=k},h}
     |_=>Qa E n s
    |_=>Qa E n s
def Of [Facts] (E:Env):Nat→Array Oper→Nat→List Oper→List Rc→T AV→Aa→Option SB
 |0,_,_,_,_,_,_=>none
 |_+1,_,_,[],_,_,_=>none
 |n+1,all,nt,o::rest,recs,tmps,h=>match CD E (Li E n) all o (AL tmps (A2 all o)) h with
  |some d=>match DB nt tmps o.dst d.v with
   |some tmps'=>Of E n all nt rest recs tmps' (AK h d.g)
   |none=>none
  |none=>match V0 E all o (AL tmps (A2 all o)) h with
   |some e=>some e
   |none=>match aop E tmps h o.op with
    |.enter f args _=>match RV E f args h E.sms with
     |.ask e=>some e
     |.no=>none
     |.free=>match BO E f args .normal with
      |some fr=>I8 E n {fr,cs:=[],h}
      |none=>none
    |_=>none
end
inductive Vh where
 |cut (F:List (SB×Bool)) (s:AS)
 |done (F:List (SB×Bool)) (v:AV) (h:Aa)
 |stuck (F:List (SB×Bool))
 deriving Inhabited
def BM (V:Val) (F:List (SB×Bool)):Prop:=∀e b,(e,b)∈F→Ai V e=b
def Bk (ρ:Ren) (n:Nat):Prop:=∀b,n≤b→ρ b=none
@[reducible] def A3 (v:Vals) (F:List (SB×Bool)) (h:BM v.V F):Unk:={facts:=F,toVals:=v,ok:=h}
theorem Bk.ext [v:Vals] {ρ σ:Ren} {h h':Aa} {w w':World} (hf:Bk ρ h.nx) (e:Ext ρ σ h h' w w'):Bk σ h'.nx:=by
 intro b hb;have:=e.nx;cases hs:σ b with
 |none=>rfl
 |some base=>
  rcases e.new b base hs with q|⟨_,q,_⟩
  ·rw [hf b (by omega)] at q;cases q
  ·omega
def Vh.Good [v:Vals] (P:Program) (ρ:Ren) (s:AS) (c:Frame) (ccs:List Frame) (w:World) (base:List Frame):Vh→Prop
 |.cut F s'=>BM v.V F∧s'.cs=[]∧∃σ c' w',Steps P (lone c (ccs++base) w) (lone c' base w')∧SR σ s' c' [] w'∧Ext ρ σ s.h s'.h w w'
 |.done F x h=>BM v.V F∧∃σ cf v' w1 w',Steps P (lone c (ccs++base) w) (lone cf base w1)∧IU P cf w1 true v' w'∧VR σ x v'∧HR σ h.blk.get w'∧Ext ρ σ s.h h w w'
 |.stuck F=>BM v.V F
theorem Vh.Good.pre [v:Vals] {P:Program} {ρ σ:Ren} {s s':AS} {c c':Frame} {ccs ccs':List Frame} {w w':World} {base:List Frame} {l:Vh} (hs:Steps P (lone c (ccs++base) w) (lone c' (ccs'++base) w')) (he:Ext ρ σ s.h s'.h w w') (hf:Bk ρ s.h.nx)
  (h:l.Good P σ s' c' ccs' w' base):l.Good P ρ s c ccs w base:=by
 cases l with
 |cut F s2=>
  obtain ⟨h1,h2,τ,c2,w2,q1,q2,q3⟩:=h;exact ⟨h1,h2,τ,c2,w2,Steps.trans hs q1,q2,he.trans q3 (fun b hb _=>hf b hb)⟩
 |done F x h2=>
  obtain ⟨h1,τ,cf,v',w1,w2,q1,q2,q3,q4,q5⟩:=h;exact ⟨h1,τ,cf,v',w1,w2,Steps.trans hs q1,q2,q3,q4,he.trans q5 (fun b hb _=>hf b hb)⟩
 |stuck F=>exact h
theorem MX {U:Unk} {E:Env} (hE:OK E) (hO:Ad E U.V.fn) (n:Nat):Dv E (Li E n):=by
 have hC:∀(fr:AF) (g g':Aa) (ok:Bool) (v:AV) (ρ:Ren) (cf:Frame) (w:World),FrR ρ fr cf→HR ρ g.blk.get w→WF g→EP E n fr.fn true {fr,cs:=[],h:=g}=some (ok,v,g')→Ax ρ g.nx g'.nx→
   ∀(c0:Frame) (base:List Frame),∃σ v' w',BK E.P (lone cf (c0::base) w) c0 base ok v' w'∧VR σ v v'∧HR σ g'.blk.get w'∧Ext ρ σ g g' w w':=by
  intro fr g g' ok v ρ cf w hfr hr hwf hx hfree c0 base;obtain ⟨σ,cf',v',w1,w',q1,q2,q3,q4,q5,q6,q7⟩:=Ss hE hO n fr.fn true {fr,cs:=[],h:=g} ρ cf [] w ok v g' ⟨hfr,.nil,hr⟩ hwf hx hfree (c0::base);refine ⟨σ,v',w',?_,q5,q6,q7⟩;have:=Steps.trans q1 (Steps.one (q4.back c0 base));cases ok<;>exact this
 refine ⟨?_,?_⟩
 ·intro f' args args' g g' ok v ρ w ha hr hwf hx hfree;simp only [Li] at hx;split at hx
  ·rename_i r hfind;cases hx;exact Dz hE hO hfind ha hr hwf hfree
  ·split at hx
   ·cases hx
   ·cases hx
   ·split at hx
    ·rename_i fr hfr;exact hC fr g g' ok v ρ _ w (Cp hE hfr ha) hr hwf hx hfree
    ·cases hx
 ·intro l args g g' ok v ρ w hr hwf hx hfree;simp only [Li] at hx;split at hx
  ·rename_i fr hfr;exact ⟨fr,hfr,fun cf hcf=>hC fr g g' ok v ρ cf w hcf hr hwf hx hfree⟩
  ·cases hx
end Go.AE
namespace Go.AE
variable [Gl:Au]
instance adLit {n:Nat}:OfNat AD n:=⟨{fn:=none,coll:=n,captured:=[],args:=[]}⟩
structure Cut where
 key:Option Nat
 fn:FuncId
 nt:Nat
 nv:Nat
 todo:List AI
 tmps:T AV
 pre:List (Option Ac)
 facts:List (SB×Bool)
 res:AV
 post:List (Option Ac)
 ent:Nat:=0
 defs:List AD:=[]
 deriving Inhabited
def Ms (l:List AD):List AD:=l
def VZ (θ:List SE) (β:List Nat) (d a:AD):Bool:=
 match d.fn,a.fn with
 |none,none=>toB β d.coll a.coll
 |some f,some g=>VD β f g&&MN (EW θ β d.captured a.captured)&&MN (EW θ β d.args a.args)
 |_,_=>false
def MG (θ:List SE) (β:List Nat):List AD→List AD→Bool
 |[],[]=>true
 |d::r,a::l=>VZ θ β d a&&MG θ β r l
 |_,_=>false
def Sn:List (Option Ac)→Nat→Nat→T Nat→T Nat
 |some _::r,i,n+1,t=>Sn r (i+1) n (t.set i i)
 |none::r,i,n+1,t=>Sn r (i+1) n t
 |_,_,_,t=>t
def Cut.fr (c:Cut):AF:={fn:=c.fn,nt:=c.nt,tmps:=c.tmps,todo:=c.todo,defers:=Ms c.defs,mode:=.run,kind:=.normal,round:=none}
def Cut.h (c:Cut):Aa:={blk:=AW c.pre,nx:=c.pre.length,log:=[]}
def Cut.st (c:Cut):AS:={fr:=c.fr,cs:=[],h:=c.h}
def Cut.h' (c:Cut):Aa:={blk:=AW c.post,nx:=c.post.length,log:=List.range c.pre.length}
def Vf (d a:AD) (m:Bd):Bd:=
 match d.fn with
 |none=>m.blk d.coll a.coll
 |some _=>DK d.args a.args (DK d.captured a.captured m)
def Oe:List AD→List AD→Bd→Bd
 |d::r,a::l,m=>Oe r l (Vf d a m)
 |_,_,m=>m
def Oa (c:Cut) (s:AS):Bd:=Oe c.defs s.fr.defers (Nd c.tmps s.fr.tmps ⟨.nil,Sn c.pre 0 c.ent .nil⟩)
structure VC where
 F:List (SB×Bool)
 obs:Obs
 rec_:Option (Nat×List SE×List AI)
 deriving Inhabited
def idT:Nat→T Nat→T Nat
 |0,t=>t
 |n+1,t=>idT n (t.set n n)
def Qg:Nat→Nat→List Nat→Bool
 |_,0,_=>true
 |i,n+1,b::r=>Nat.beq b i&&Qg (i+1) n r
 |_,_+1,[]=>false
def Mi:List (Option Ac)→Bool
 |[]=>true
 |some _::r=>Mi r
 |none::_=>false
def P4 [Facts] (E:Env) (c:Cut) (v:AV) (h:Aa):Option Obs:=
 match AC E c.post 0 (F0 E c.post h (E7 c.res v ⟨.nil,idT c.pre.length .nil⟩)) h with
 | (m,h1)=>
  let β:=Ha m.b 0 c.post.length
  Db (Qg 0 c.pre.length β&&(EH c.post β&&Mi (c.post.drop c.pre.length))&&Nat.ble c.pre.length c.post.length) (Dc (Cj [] β c.res v) (DG E [] β h1 c.post β))
def PQ:List AI→Bool
 |[]=>true
 |.inRange _::_=>false
 |.endRange _::_=>false
 |.rest::_=>false
 |.dead::_=>false
 |.beginRound::_=>false
 |_::r=>PQ r
def F5.isRun:F5→Bool
 |.run=>true
 |_=>false
def SM:CallKind→Bool
 |.normal=>true
 |_=>false
def Hx (θ:List SE):List (SB×Bool)→Obs
 |[]=>[]
 | (e,b)::r=>(e.inst θ,.bc b)::Hx θ r
def SZ [Facts] (E:Env) (c:Cut) (s:AS):Option (List SE×AV×Aa×Obs):=
 match AC E c.pre 0 (F0 E c.pre s.h (Oa c s)) s.h with
 | (m,h1)=>
  let θ:=GJ m.v 0 c.nv
  let β:=Ha m.b 0 c.pre.length
  match Eb β&&K3 h1.nx β&&Nat.ble c.pre.length c.post.length&&Nat.beq s.fr.fn c.fn&&Nat.beq s.fr.nt c.nt&&MG θ β c.defs s.fr.defers&&s.fr.mode.isRun&&SM s.fr.kind&&s.fr.round.isNone&&PQ s.fr.todo with
  |true=>match Dc (leT θ β c.tmps s.fr.tmps) (DG E θ β h1 c.pre β),Dj θ (β++CH h1.nx (c.post.length-c.pre.length)) c.post (β++CH h1.nx (c.post.length-c.pre.length)) h1.blk with
   |some o,some t=>some (θ,c.res.inst θ (β++CH h1.nx (c.post.length-c.pre.length)),{blk:=t,nx:=h1.nx+(c.post.length-c.pre.length),log:=β++h1.log},o++Hx θ c.facts)
   |_,_=>none
  |false=>none
theorem Ko:∀{l:List (Option Ac)},Mi l=true→∀i,i<l.length→∃x,l[i]?=some (some x)
 |[],_,i,h=>by simp at h
 |some x::r,h,i,hi=>by
  cases i with
  |zero=>exact ⟨x,rfl⟩
  |succ i=>simpa using Ko (l:=r) h i (by simpa using hi)
 |none::_,h,_,_=>by cases h
theorem M9:∀(n i:Nat) (l:List Nat),Qg i n l=true→∀j,j<n→l[j]?=some (i+j)
 |0,i,l,h,j,hj=>by omega
 |n+1,i,[],h,j,hj=>by cases h
 |n+1,i,b::r,h,j,hj=>by
  simp only [Qg,Bool.and_eq_true] at h;cases j with
  |zero=>simp [Nat.eq_of_beq_eq_true h.1]
  |succ j=>
   have:=M9 n (i+1) r h.2 j (by omega)
   simp only [List.getElem?_cons_succ,this]
   congr 1;omega
theorem Jw {V:Val} {θ:List SE}:∀{l:List (SB×Bool)},(Hx θ l).holds V→BM (V.inst θ) l
 |[],h,e,b,hm=>by cases hm
 | (x,c)::r,h,e,b,hm=>by
  rcases List.mem_cons.1 hm with q|q
  ·cases q;have:=h (x.inst θ) (.bc c) (by simp [Hx])
   unfold Ai;rw [←BI,this];rfl
  ·exact Jw (fun a b' h'=>h a b' (by simp [Hx,h'])) e b q
theorem NE {v u:Vals} {ρ σ:Ren}:∀{l:List AI} {l':List Item},PQ l=true→@IL v ρ l l'→@IL u σ l l'
 |[],l',h,hi=>by cases hi;exact .nil
 |a::r,l',h,hi=>by
  cases hi with
  |cons ha hr=>
   cases ha<;>simp only [PQ,Bool.false_eq_true] at h<;>first | (cases h;done)|skip
   all_goals exact .cons (by constructor<;>assumption) (NE h hr)
  |rest=>cases h
theorem KY {U W:Unk} {θ:List SE} (hV:W.V=U.V.inst θ) (hK:W.K=U.K) {β:List Nat} {ρ:Ren}:∀{ds:List AD} {l:List AD} {l':List Deferred},MG θ β ds l=true→@DL U.toVals ρ l l'→@DL W.toVals (ρ.back β) (Ms ds) l'
 |[],[],[],_,_=>trivial
 |[],[],_::_,_,h=>h.elim
 |d::r,a::l,[],_,h=>h.elim
 |d::r,a::l,d'::l',h,hd=>by
  simp only [MG,Bool.and_eq_true] at h;obtain ⟨h1,h3⟩:=h;refine ⟨?_,KY hV hK h3 hd.2⟩;have h4:=hd.1;unfold DR at h4 ⊢;unfold VZ at h1;cases hf:d.fn with
  |none=>
   cases hg:a.fn with
   |none=>
    rw [hf,hg] at h1;rw [hg] at h4;obtain ⟨base,q1,q2⟩:=h4;exact ⟨base,by rw [Ea h1];exact q1,q2⟩
   |some g=>rw [hf,hg] at h1;cases h1
  |some f=>
   cases hg:a.fn with
   |none=>rw [hf,hg] at h1;cases h1
   |some g=>
    rw [hf,hg] at h1;rw [hg] at h4;simp only [Bool.and_eq_true] at h1;obtain ⟨⟨b1,b2⟩,b3⟩:=h1;obtain ⟨fn',c',a',q1,q2,q3,q4⟩:=h4;exact ⟨fn',c',a',PY hV hK b1 q1,C2 hV hK _ _ _ _ (K6 b2) (fun _ _ hm=>by cases hm) q2,C2 hV hK _ _ _ _ (K6 b3) (fun _ _ hm=>by cases hm) q3,q4⟩
 |[],_::_,_,h,_=>by cases h
 |_::_,[],_,h,_=>by cases h
section
variable {E:Env} {G:Nat→D→D} (hE:∀[U:Unk],U.K=(Env.of E.P).kinds→OK E) {v:Vals} (hK:v.K=(Env.of E.P).kinds)
include hE hK
theorem Sw {F:List (SB×Bool)} (hF:BM v.V F) {c:Cut} {x:AV} {v':Value} {h:Aa} {ρ σ:Ren} {w w':World} {o:Obs} (hx:@P4 ⟨F⟩ E c x h=some o) (ho:o.holds v.V) (hv:VR σ x v') (hr:HR σ h.blk.get w') (hwf:WF h) (he:Ext ρ σ c.h h w w') (hfa:Bk ρ c.pre.length) :
  ∃τ,VR τ c.res v'∧HR τ c.h'.blk.get w'∧Ext ρ τ c.h c.h' w w':=by
 have hEU:@OK _ (A3 v F hF) E:=hE (U:=A3 v F hF) hK;have hfaσ:Bk σ h.nx:=Bk.ext (h:=c.h) hfa he;unfold P4 at hx;split at hx;rename_i m h1 hbd;obtain ⟨hc,hx⟩:=AO hx;obtain ⟨o1,o2,hx1,hx2,rfl⟩:=Bt hx;obtain ⟨ho1,ho2⟩:=Obs.append ho;generalize hβ:Ha m.b 0 c.post.length=β at *;have e2:(@AC ⟨F⟩ E c.post 0 (@F0 ⟨F⟩ E c.post h (E7 c.res x ⟨.nil,idT c.pre.length .nil⟩)) h).2=h1:=by rw [hbd]
 obtain ⟨q1,q2,q3⟩:=A9 (U:=A3 v F hF) (E:=E) c.post 0 (@F0 ⟨F⟩ E c.post h (E7 c.res x ⟨.nil,idT c.pre.length .nil⟩)) h hr hwf (fun b b1 _=>hfaσ b b1)
 rw [e2] at q1 q2 q3;have he1:Ext ρ σ c.h h1 w w':=he.trans q2 (fun b hb _=>hfa b hb)
 simp only [Bool.and_eq_true] at hc;obtain ⟨⟨hid,hnd,hall⟩,hlen⟩:=hc;have hid:=M9 _ _ _ hid;have hlen:c.pre.length≤c.post.length:=Nat.le_of_ble_eq_true hlen;have hV:(A3 v F hF).V=(A3 v F hF).V.inst []:=rfl;have p1:=FS (U:=A3 v F hF) (W:=A3 v F hF) hV rfl c.res x o1 v' hx1 ho1 hv;have p2:=HR.toPatL (U:=A3 v F hF) (W:=A3 v F hF) hV rfl hEU q1 hx2 ho2 hnd;obtain ⟨l1,l2⟩:=CF (U:=A3 v F hF) (W:=A3 v F hF) hV rfl c.post β o2 hx2 ho2;have hid0:∀j,j<c.pre.length→β[j]?=some j:=fun j hj=>by have:=hid j hj;simpa using this
 refine ⟨σ.back β,p1,p2,⟨⟨fun b base hb=>?_,fun k a hk=>he1.le.imm k a hk⟩,hlen,fun b base hb=>?_,he1.calm,he1.kept,⟨List.range c.pre.length,by simp [Cut.h',Cut.h],fun b hb hr=>?_⟩,fun b hb=>?_,he1.imm⟩⟩
 ·have hlt:b<c.pre.length:=by
   rcases Nat.lt_or_ge b c.pre.length with q|q
   ·exact q
   ·rw [hfa b q] at hb;cases hb
  show (β[b]?).bind σ.m=some base;rw [hid0 b hlt];exact he1.le.m b base hb
 ·have hb':(β[b]?).bind σ.m=some base:=hb;cases hc':β[b]? with
  |none=>rw [hc'] at hb';cases hb'
  |some d=>
   rw [hc'] at hb';have hb2:σ d=some base:=hb';rcases he1.new d base hb2 with q|⟨a1,a2,a3⟩
   ·have hlt:d<c.pre.length:=by
     rcases Nat.lt_or_ge d c.pre.length with q'|q'
     ·exact q'
     ·rw [hfa d q'] at q;cases q
    rcases Nat.lt_or_ge b c.pre.length with q'|q'
    ·rw [hid0 b q'] at hc';cases hc';exact .inl q
    ·have hbl:=(List.getElem?_eq_some_iff.1 hc').1;have hbp:b<c.post.length:=by omega
     obtain ⟨y,hy⟩:=Ko hall (b-c.pre.length) (by simp;omega)
     rw [List.getElem?_drop,show c.pre.length+(b-c.pre.length)=b by omega] at hy
     obtain ⟨d',z,_,a1,a2,_,_⟩:=l2 b y hy;rw [hc'] at a1;cases a1;refine .inr ⟨q',hbp,.inr ⟨d,base,q,?_,rfl⟩⟩;rcases he1.live d (by rw [a2];exact Option.some_ne_none _) with r|⟨r,_⟩
     ·exact r
     ·have:c.pre.length≤d:=r;omega
   ·have hge:c.pre.length≤b:=by
     rcases Nat.lt_or_ge b c.pre.length with q'|q'
     ·rw [hid0 b q'] at hc';cases hc';have:c.pre.length≤b:=a1;omega
     ·exact q'
    have hlt:=(List.getElem?_eq_some_iff.1 hc').1;exact .inr ⟨hge,by show b<c.post.length;omega,a3⟩
 ·have hb1:c.pre.length≤b:=by
   rcases Nat.lt_or_ge b c.pre.length with q|q
   ·exact absurd (List.mem_range.2 q) hb
   ·exact q
  have hb2:c.post.length≤b:=by
   rcases hr with q|q
   ·have:b<c.pre.length:=q;omega
   ·exact q
  show (AW c.post).get b=(AW c.pre).get b;rw [BV,BV,List.getElem?_eq_none hb2,List.getElem?_eq_none hb1]
 ·have hb0:(AW c.post).get b≠none:=hb;rw [BV] at hb0;cases hx:c.post[b]? with
  |none=>rw [hx] at hb0;exact absurd rfl hb0
  |some ox=>
   cases ox with
   |none=>rw [hx] at hb0;exact absurd rfl hb0
   |some y=>
    obtain ⟨d,z,_,a1,a2,_,_⟩:=l2 b y hx;rcases Nat.lt_or_ge b c.pre.length with q|q
    ·rw [hid0 b q] at a1;cases a1;rcases he1.live b (by rw [a2];exact Option.some_ne_none _) with r|⟨r,_⟩
     ·exact .inl r
     ·have:c.pre.length≤b:=r;omega
    ·exact .inr ⟨q,(List.getElem?_eq_some_iff.1 hx).1⟩
end
end Go.AE
namespace Go.AE
variable [Gl:Au]
structure VC.Holds (G:Nat→D→D) (Pre:Nat→Val→Prop) (μ:Nat→Val→Nat) (i:Nat) (V:Val) (vc:VC):Prop where
 obs:vc.obs.holds V
 rec_:∀j θ td,vc.rec_=some (j,θ,td)→Pre j (V.inst θ)∧μ j (V.inst θ)<μ i V
theorem H6 (l:List (Option Ac)) (n:List Nat):WF {blk:=AW l,nx:=l.length,log:=n}:=by
 intro b hb;show (AW l).get b=none;rw [BV,List.getElem?_eq_none hb];rfl
def Cut.sm (c:Cut) (args:List AV):Sm:={f:=c.fn,nv:=c.nv,args,pre:=c.pre,facts:=c.facts,res:=c.res,post:=c.post}
def Jl (E:Env) (f:FuncId) (args:List AV):AF:=match BO E f args .normal with
 |some fr=>fr
 |none=>default
end Go.AE
namespace Go.AE
variable [Gl:Au]
inductive Tr (α:Type) where
 |leaf (a:α)
 |split (e:SB) (t f:Tr α)
 deriving Inhabited
inductive Lf where
 |cut (s:AS)
 |done (ok:Bool) (v:AV) (h:Aa)
 |stuck
 deriving Inhabited
def Lf.Good [v:Vals] (P:Program) (f0:FuncId) (ρ:Ren) (s:AS) (c:Frame) (ccs:List Frame) (w:World) (base:List Frame) (F:List (SB×Bool)):Lf→Prop
 |.cut s'=>BM v.V F∧s'.cs=[]∧∃σ c' w',Steps P (lone c (ccs++base) w) (lone c' base w')∧SR σ s' c' [] w'∧Ext ρ σ s.h s'.h w w'
 |.done ok x h=>BM v.V F∧∃σ cf v' w1 w',Steps P (lone c (ccs++base) w) (lone cf base w1)∧cf.fn=f0∧cf.roundOf=none∧IU P cf w1 ok v' w'∧VR σ x v'∧HR σ h.blk.get w'∧Ext ρ σ s.h h w w'
 |.stuck=>BM v.V F
theorem Lf.Good.pre [v:Vals] {P:Program} {f0:FuncId} {ρ σ:Ren} {s s':AS} {c c':Frame} {ccs ccs':List Frame} {w w':World} {base:List Frame} {F:List (SB×Bool)} {l:Lf} (hs:Steps P (lone c (ccs++base) w) (lone c' (ccs'++base) w')) (he:Ext ρ σ s.h s'.h w w') (hf:Bk ρ s.h.nx)
  (h:l.Good P f0 σ s' c' ccs' w' base F):l.Good P f0 ρ s c ccs w base F:=by
 cases l with
 |cut s2=>
  obtain ⟨h1,h2,τ,c2,w2,q1,q2,q3⟩:=h;exact ⟨h1,h2,τ,c2,w2,Steps.trans hs q1,q2,he.trans q3 (fun b hb _=>hf b hb)⟩
 |done ok x h2=>
  obtain ⟨h1,τ,cf,v',w1,w2,q1,q2,q3,q4,q5,q6,q7⟩:=h;exact ⟨h1,τ,cf,v',w1,w2,Steps.trans hs q1,q2,q3,q4,q5,q6,he.trans q7 (fun b hb _=>hf b hb)⟩
 |stuck=>exact h
def NL (e:SB):Option (Tr Lf)→Option (Tr Lf)→Option (Tr Lf)
 |some a,some b=>some (.split e a b)
 |_,_=>none
def Tr.way {α:Type} (V:Val):Tr α→List (SB×Bool)→α×List (SB×Bool)
 |.leaf a,F=>(a,F)
 |.split e t f,F=>match Ai V e with
  |true=>t.way V ((e,true)::F)
  |false=>f.way V ((e,false)::F)
def Tr.get {α:Type} (V:Val):Tr α→α
 |.leaf a=>a
 |.split e t f=>match Ai V e with
  |true=>t.get V
  |false=>f.get V
def Wc (keys:List Nat) (s:AS):Bool:=
 match s.cs,s.fr.mode,s.fr.todo with
 |[],.run,.code (.region id _ _)::_=>KE (id+1000000) keys
 |_,_,_=>false
def F1 (E:Env) (keys:List Nat) (f0:FuncId):Nat→List (SB×Bool)→AS→Option (Tr Lf)
 |0,_,_=>none
 |n+1,F,s=>
  let part (_:Unit):Option (Tr Lf):=match @Qa ⟨F⟩ E n s with
   |some e=>match Az F e with
    |none=>NL e (F1 E keys f0 n ((e,true)::F) s) (F1 E keys f0 n ((e,false)::F) s)
    |some _=>some (.leaf .stuck)
   |none=>some (.leaf .stuck)
  match @Oj ⟨F⟩ E s with
  |some s'=>F1 E keys f0 n F s'
  |none=>match @TU ⟨F⟩ E s with
  |.ask e=>NL e (F1 E keys f0 n ((e,true)::F) s) (F1 E keys f0 n ((e,false)::F) s)
  |.no=>some (.leaf .stuck)
  |.free=>match @AQ ⟨F⟩ E s with
   |.next s'=>match V9 keys s with
    |true=>some (.leaf (.cut s'))
    |false=>match Wc keys s' with
     |true=>some (.leaf (.cut s'))
     |false=>F1 E keys f0 n F s'
   |.done ok v h=>match s.fr.round.isNone&&Nat.beq s.fr.fn f0 with
    |true=>some (.leaf (.done ok v h))
    |false=>some (.leaf .stuck)
   |.draw s2 ops k=>match @Br ⟨F⟩ E (@Li ⟨F⟩ E n) ops s2.fr.nt ops.toList [] s2.fr.tmps s2.h with
    |some (none,tmps,h)=>F1 E keys f0 n F {s2 with fr:={s2.fr with tmps,todo:=k},h}
    |some (some v,tmps,h)=>F1 E keys f0 n F {s2 with fr:={s2.fr with tmps,todo:=.dead::k,mode:=.panic [(v,false)]},h}
    |none=>part ()
   |.bad _=>part ()
theorem UA {E:Env} {keys:List Nat} {f0:FuncId} {G:Nat→D→D} (hE:∀[U:Unk],U.K=(Env.of E.P).kinds→OK E) (hO:Ad E G) [v:Vals] (hK:v.K=(Env.of E.P).kinds) (hG:v.V.fn=G) (base:List Frame) :
  ∀(n:Nat) (F:List (SB×Bool)) (s:AS) (t:Tr Lf),F1 E keys f0 n F s=some t→BM v.V F→∀(ρ:Ren) (c:Frame) (ccs:List Frame) (w:World),SR ρ s c ccs w→WF s.h→Bk ρ s.h.nx→(t.way v.V F).1.Good E.P f0 ρ s c ccs w base (t.way v.V F).2:=by
 subst hG;intro n
 induction n with
 |zero=>intro F s t h;cases h
 |succ n ih=>
  intro F s t hx hF ρ c ccs w hsr hwf hfa;have hEU:@OK _ (A3 v F hF) E:=hE (U:=A3 v F hF) hK;have hfr:∀m,Ax ρ s.h.nx m:=fun m b hb _=>hfa b hb
  simp only [F1] at hx
  generalize hpart:(match @Qa ⟨F⟩ E n s with
   |some e=>match Az F e with
    |none=>NL e (F1 E keys f0 n ((e,true)::F) s) (F1 E keys f0 n ((e,false)::F) s)
    |some _=>some (.leaf .stuck)
   |none=>some (.leaf .stuck))=pt at hx
  have hboth:∀e,NL e (F1 E keys f0 n ((e,true)::F) s) (F1 E keys f0 n ((e,false)::F) s)=some t→(t.way v.V F).1.Good E.P f0 ρ s c ccs w base (t.way v.V F).2:=by
   intro e hq;unfold NL at hq;split at hq
   ·rename_i a b ha hb;cases hq;simp only [Tr.way];cases he:Ai v.V e with
    |true=>
     exact ih _ _ _ ha (fun e' b' hm=>by
      rcases List.mem_cons.1 hm with q|q
      ·cases q;exact he
      ·exact hF e' b' q) ρ c ccs w hsr hwf hfa
    |false=>
     exact ih _ _ _ hb (fun e' b' hm=>by
      rcases List.mem_cons.1 hm with q|q
      ·cases q;exact he
      ·exact hF e' b' q) ρ c ccs w hsr hwf hfa
   ·cases hq
  have hpt:pt=some t→(t.way v.V F).1.Good E.P f0 ρ s c ccs w base (t.way v.V F).2:=by
   intro hq;subst hq;split at hpart
   ·rename_i e _;split at hpart
    ·exact hboth e hpart
    ·cases hpart;exact hF
   ·cases hpart;exact hF
  have go:∀(s':AS) (σ:Ren) (c':Frame) (ccs':List Frame) (w1:World),Steps E.P (lone c (ccs++base) w) (lone c' (ccs'++base) w1)→SR σ s' c' ccs' w1→Ext ρ σ s.h s'.h w w1→F1 E keys f0 n F s'=some t→(t.way v.V F).1.Good E.P f0 ρ s c ccs w base (t.way v.V F).2:=by
   intro s' σ c' ccs' w1 h1 h2 h3 h4;exact (ih F s' t h4 hF σ c' ccs' w1 h2 (Ext.wf (U:=A3 v F hF) h3 hwf) (hfa.ext h3)).pre h1 h3 hfa
  split at hx
  ·rename_i s' htop;obtain ⟨σ,cf',ccs',w',q1,q2,q3⟩:=Ji (U:=A3 v F hF) hEU hO hsr hwf htop (hfr _) base;exact go s' σ cf' ccs' w' q1 q2 q3 hx
  split at hx
  ·exact hboth _ hx
  ·cases hx;exact hF
  ·split at hx
   ·rename_i s' hst;obtain ⟨σ,cf',ccs',w',q1,q2,q3⟩:=Ff (U:=A3 v F hF) (base:=base) hEU hsr hst (hfr _);split at hx
    ·rename_i hcut;cases hx
     have hcs:s'.cs=[]:=by
      unfold V9 at hcut;split at hcut
      ·rename_i e1 e2 e3;simp only [AQ,e2,e3] at hst;cases hst;exact e1
      ·rename_i e1 e2 e3;simp only [AQ,e2,e3] at hst;cases hst;exact e1
      ·cases hcut
     have hccs:ccs'=[]:=by
      have:=q2.cs;rw [hcs] at this;cases this;rfl
     subst hccs;exact ⟨hF,hcs,σ,cf',w',Steps.one q1,q2,q3⟩
    ·split at hx
     ·rename_i hreg;cases hx
      have hcs:s'.cs=[]:=by
       unfold Wc at hreg;split at hreg
       ·assumption
       ·cases hreg
      have hccs:ccs'=[]:=by
       have:=q2.cs;rw [hcs] at this;cases this;rfl
      subst hccs;exact ⟨hF,hcs,σ,cf',w',Steps.one q1,q2,q3⟩
     ·exact go s' σ cf' ccs' w' (Steps.one q1) q2 q3 hx
   ·rename_i ok' v' h' hst;split at hx
    ·rename_i hb;cases hx;obtain ⟨rfl,x,w',q1,q2,q3,q4⟩:=GA (U:=A3 v F hF) hEU hsr hst;obtain ⟨b2,b3⟩:=Am (U:=A3 v F hF) hb;have hround:=hsr.fr.round;rw [Option.isNone_iff_eq_none] at b2;rw [b2] at hround
     have hro:c.roundOf=none:=by
      cases hz:c.roundOf with
      |none=>rfl
      |some=>rw [hz] at hround;exact hround.elim
     exact ⟨hF,ρ,c,x,w,w',Steps.refl _ _,hsr.fr.fn.trans (Aq b3),hro,q4,q1,q2,q3⟩
    ·cases hx;exact hF
   ·rename_i s2 ops k hst;obtain ⟨rfl,hm,id,ht⟩:=Ce (U:=A3 v F hF) hst;split at hx
    ·rename_i tmps h1 hd;obtain ⟨σ,c',w',q1,q2,q3⟩:=EM (U:=A3 v F hF) hEU (MX (U:=A3 v F hF) hEU hO n) hsr hwf hm ht hd (hfr _) base;exact go _ σ c' ccs w' q1 q2 q3 hx
    ·rename_i tmps h1 hd;obtain ⟨σ,c',w',q1,q2,q3⟩:=EM (U:=A3 v F hF) hEU (MX (U:=A3 v F hF) hEU hO n) hsr hwf hm ht hd (hfr _) base;exact go _ σ c' ccs w' q1 q2 q3 hx
    ·exact hpt hx
   ·exact hpt hx
end Go.AE
namespace Go.AE
variable [Gl:Au]
def SE.fits (n m:Nat):SE→Bool
 |.c _=>true
 |.var i=>Nat.blt i n
 |.lenS a=>a.fits n m
 |.lenL a=>a.fits n m
 |.arith _ _ a b=>a.fits n m&&b.fits n m
 |.conv _ a=>a.fits n m
 |.lss a b=>a.fits n m&&b.fits n m
 |.eql a b=>a.fits n m&&b.fits n m
 |.eqS a _ _=>a.fits n m
 |.eqSS a b=>a.fits n m&&b.fits n m
 |.isNil a=>a.fits n m
 |.bc _=>true
 |.neg a=>a.fits n m
 |.and a b=>a.fits n m&&b.fits n m
 |.nilIs a b=>a.fits n m&&b.fits n m
 |.strc _ _=>true
 |.strAt a b=>a.fits n m&&b.fits n m
 |.strCat a b=>a.fits n m&&b.fits n m
 |.strSub a b x=>a.fits n m&&b.fits n m&&x.fits n m
 |.cell a i _=>a.fits n m&&i.fits n m
 |.sel a _=>a.fits n m
 |.nilL=>true
 |.emptyL=>true
 |.snoc a r=>a.fits n m&&r.fits n m
 |.upd a i _ x=>a.fits n m&&i.fits n m&&x.fits n m
 |.rep a b=>a.fits n m&&b.fits n m
 |.cat a b=>a.fits n m&&b.fits n m
 |.sub a b x=>a.fits n m&&b.fits n m&&x.fits n m
 |.rnil=>true
 |.rcons a b=>a.fits n m&&b.fits n m
 |.app f a=>Nat.blt f m&&a.fits n m
 |.bytes a=>a.fits n m
 |.ofBytes a=>a.fits n m
 |.mIdx _ a k=>a.fits n m&&k.fits n m
 |.rmv a i=>a.fits n m&&i.fits n m
structure Val.Alike (n m:Nat) (V W:Val):Prop where
 d:∀i,i<n→V.d i=W.d i
 fn:∀i,i<m→V.fn i=W.fn i
theorem SE.fits_ok {n m:Nat} {V W:Val} (h:V.Alike n m W):∀e:SE,e.fits n m=true→Af V e=Af W e:=by
 intro e
 induction e<;>intro hf<;>(try simp only [SE.fits,Bool.and_eq_true] at hf)<;>simp only [Af]
 case var i=>exact h.d i (by simpa [Nat.blt_eq] using hf)
 case app f x ih=>rw [ih hf.2,h.fn f (by simpa [Nat.blt_eq] using hf.1)]
 all_goals simp_all only [forall_const]
def oQ (g:Nat) (st:SE):SE→Bool
 |.app g' st'=>Nat.beq g g'&&st.same st'
 |_=>false
def A0 (g:Nat) (st:SE) (f:Nat→SE):SE→SE
 |.sel a j=>match oQ g st a with
  |true=>f j
  |false=>.sel (A0 g st f a) j
 |.c n=>.c n
 |.var i=>.var i
 |.lenS a=>.lenS (A0 g st f a)
 |.lenL a=>.lenL (A0 g st f a)
 |.arith op k a b=>.arith op k (A0 g st f a) (A0 g st f b)
 |.conv k a=>.conv k (A0 g st f a)
 |.lss a b=>.lss (A0 g st f a) (A0 g st f b)
 |.eql a b=>.eql (A0 g st f a) (A0 g st f b)
 |.eqS a l b=>.eqS (A0 g st f a) l b
 |.eqSS a b=>.eqSS (A0 g st f a) (A0 g st f b)
 |.isNil a=>.isNil (A0 g st f a)
 |.bc b=>.bc b
 |.neg a=>.neg (A0 g st f a)
 |.and a b=>.and (A0 g st f a) (A0 g st f b)
 |.nilIs a b=>.nilIs (A0 g st f a) (A0 g st f b)
 |.strc l b=>.strc l b
 |.strAt a i=>.strAt (A0 g st f a) (A0 g st f i)
 |.strCat a b=>.strCat (A0 g st f a) (A0 g st f b)
 |.strSub a lo hi=>.strSub (A0 g st f a) (A0 g st f lo) (A0 g st f hi)
 |.cell a i j=>.cell (A0 g st f a) (A0 g st f i) j
 |.nilL=>.nilL
 |.emptyL=>.emptyL
 |.snoc a r=>.snoc (A0 g st f a) (A0 g st f r)
 |.upd a i j x=>.upd (A0 g st f a) (A0 g st f i) j (A0 g st f x)
 |.rep n r=>.rep (A0 g st f n) (A0 g st f r)
 |.cat a b=>.cat (A0 g st f a) (A0 g st f b)
 |.sub a lo hi=>.sub (A0 g st f a) (A0 g st f lo) (A0 g st f hi)
 |.rnil=>.rnil
 |.rcons x r=>.rcons (A0 g st f x) (A0 g st f r)
 |.app h x=>.app h (A0 g st f x)
 |.bytes a=>.bytes (A0 g st f a)
 |.ofBytes a=>.ofBytes (A0 g st f a)
 |.mIdx ks a k=>.mIdx ks (A0 g st f a) (A0 g st f k)
 |.rmv a i=>.rmv (A0 g st f a) (A0 g st f i)
theorem Qk {V:Val} {g:Nat} {st:SE} {f:Nat→SE} (hf:∀j,Af V (f j)=Af V (.sel (.app g st) j)):∀e:SE,Af V (A0 g st f e)=Af V e:=by
 intro e
 induction e
 case sel a j ih=>
  simp only [A0];split
  ·rename_i h;rw [hf];cases a<;>simp only [oQ,Bool.false_eq_true,Bool.and_eq_true] at h
   rw [Aq h.1,SE.same_ok (U:=AZ) h.2]
  ·simp only [Af,ih]
 all_goals simp_all only [A0,Af]
def Er (step:D→Option (D ⊕ D)):Nat→D→Option D
 |0,_=>none
 |n+1,d=>match step d with
  |none=>none
  |some (.inr r)=>some r
  |some (.inl d')=>Er step n d'
theorem Lb {step:D→Option (D ⊕ D)}:∀{n m:Nat} {d r s:D},Er step n d=some r→Er step m d=some s→r=s
 |0,_,_,_,_,h,_=>by cases h
 |_+1,0,_,_,_,_,h=>by cases h
 |n+1,m+1,d,r,s,h,k=>by
  simp only [Er] at h k;split at h
  ·cases h
  ·rename_i x hx;rw [hx] at k;cases h;cases k;rfl
  ·rename_i d' hx;rw [hx] at k;exact Lb h k
class Cq where
 f:(D→Option (D ⊕ D))→D→D
 run:∀{step:D→Option (D ⊕ D)} {n:Nat} {d r:D},Er step n d=some r→f step d=r
 or:∀(step:D→Option (D ⊕ D)) (d:D),f step d=.row []∨∃n,Er step n d=some (f step d)
theorem T5:Nonempty Cq:=by
 classical
 have key:∀(step:D→Option (D ⊕ D)) (d:D),∃r,(∀n s,Er step n d=some s→r=s)∧(r=.row []∨∃n,Er step n d=some r):=by
  intro step d;by_cases h:∃r n,Er step n d=some r
  ·obtain ⟨r,n,hr⟩:=h;exact ⟨r,fun m s hs=>Lb hr hs,.inr ⟨n,hr⟩⟩
  ·exact ⟨.row [],fun m s hs=>absurd ⟨s,m,hs⟩ h,.inl rfl⟩
 exact ⟨⟨fun step d=>Classical.choose (key step d),fun {step n d r} h=>(Classical.choose_spec (key step d)).1 n r h,fun step d=>(Classical.choose_spec (key step d)).2⟩⟩
section
variable [Cq]
def Cx (step:D→Option (D ⊕ D)) (d:D):D:=Cq.f step d
theorem DO {step:D→Option (D ⊕ D)} {n:Nat} {d r:D} (h:Er step n d=some r):Cx step d=r:=Cq.run h
theorem FB (step:D→Option (D ⊕ D)) (d:D):Cx step d=.row []∨∃n,Er step n d=some (Cx step d):=Cq.or step d
theorem MY {step:D→Option (D ⊕ D)} {d r:D} (h:step d=some (.inr r)):Cx step d=r:=DO (n:=1) (by simp [Er,h])
theorem NA {step:D→Option (D ⊕ D)} {d d':D} (h:step d=some (.inl d')):Cx step d=Cx step d':=by
 rcases FB step d' with q|⟨n,hn⟩
 ·rcases FB step d with q'|⟨m,hm⟩
  ·rw [q,q']
  ·cases m with
   |zero=>cases hm
   |succ m=>
    simp only [Er,h] at hm;exact (DO hm).symm
 ·exact DO (n:=n+1) (by simp only [Er,h];exact hn)
end
end Go.AE
namespace Go.AE
variable [Gl:Au]
structure Pt where
 key:Option Nat
 nt:Nat
 nv:Nat
 todo:List AI
 tmps:T AV
 pre:List (Option Ac)
 facts:List (SB×Bool)
 defs:List AD:=[]
 deriving Inhabited
structure Sh where
 m:Nat
 res:AV
 post:List (Option Ac)
 keep:List Nat
 keepC:List (Nat×List Nat):=[]
 ok:Bool:=true
 deriving Inhabited
structure Dec where
 g:Nat
 f:FuncId
 p:Nat
 pts:List Pt
 shs:List Sh
 deriving Inhabited
inductive Plf where
 |stuck
 |done (s:Nat) (parts:List SE)
 |next (j:Nat) (θ:List SE)
 deriving Inhabited
def UR:List SE→SE
 |[]=>.rnil
 |x::r=>.rcons x (UR r)
def stE (i:Nat) (θ:List SE):SE:=.rcons (.c i) (UR θ)
def C5:Nat→Nat→List SE
 |_,0=>[]
 |i,n+1=>.var i::C5 (i+1) n
def Py (g j:Nat) (θ:List SE) (s:Nat):SE:=.eql (.sel (.app g (stE j θ)) 0) (.c (s+1:Nat))
theorem Lu (V:Val):∀l:List SE,Af V (UR l)=.row (l.map (Af V))
 |[]=>rfl
 |x::r=>by simp only [UR,Af,Lu V r,D.cells,List.map_cons]
theorem J8 (V:Val) (i:Nat) (l:List SE):Af V (stE i l)=.row (.int i::l.map (Af V)):=by
 simp only [stE,Af,Lu,D.cells]
theorem Gu (V:Val):∀(n i:Nat),(C5 i n).map (Af V)=(List.range n).map fun j=>V.d (i+j)
 |0,i=>rfl
 |n+1,i=>by
  simp only [C5,List.map_cons,Gu V n (i+1),List.range_succ_eq_map,List.map_map];refine congr (congrArg _ ?_) ?_
  ·simp [Af]
  ·apply List.map_congr_left;intro j _;show V.d (i+1+j)=V.d (i+(j+1));congr 1;omega
def dD (g:Nat) (st:SE):Nat→Nat→List SE
 |_,0=>[]
 |j,n+1=>.sel (.app g st) j::dD g st (j+1) n
def OA:Nat→Nat→List Nat
 |_,0=>[]
 |i,n+1=>i::OA (i+1) n
def V8 [Facts] (θ:List SE) (β:List Nat):Option Ac→Option Ac
 |some x=>x.inst θ β
 |none=>none
def cellsOf (i:Nat):List (Nat×List Nat)→List Nat
 |[]=>[]
 | (j,l)::r=>match Nat.beq i j with
  |true=>l
  |false=>cellsOf i r
def SY (c:T AV):List Nat→T AV→T AV
 |[],t=>t
 |j::r,t=>match c.get j with
  |some a=>SY c r (t.set j a)
  |none=>SY c r t
def rN (l:List Nat) (y:Ac) (x:Option Ac):Option Ac:=match l with
 |[]=>x
 |_=>match x,y with
  |some (.cells n c),.cells _ d=>some (.cells n (SY d l c))
  |x,_=>x
def MJ [Facts] (θ:List SE) (β:List Nat) (keep:List Nat) (keepC:List (Nat×List Nat)):Nat→Nat→List (Option Ac)→List (Option Ac)→List (Option Ac)
 |_,0,_,_=>[]
 |i,n+1,x::xs,y::ys=>(match y with
  |some y=>(match KE i keep with
   |true=>some y
   |false=>rN (cellsOf i keepC) y (V8 θ β x))
  |none=>none)::MJ θ β keep keepC (i+1) n xs ys
 |i,n+1,_,_=>none::MJ θ β keep keepC (i+1) n [] []
@[reducible] def L7:Facts:=⟨[]⟩
def B2 (d:Dec) (i:Nat) (pt:Pt) (s:Nat) (sh:Sh):Cut:=
 let θ:=dD d.g (stE i (C5 0 pt.nv)) 1 sh.m
 let β:=OA 0 d.p++OA pt.pre.length (sh.post.length-d.p)
 {key:=pt.key,fn:=d.f,nt:=pt.nt,nv:=pt.nv,todo:=pt.todo,tmps:=pt.tmps,pre:=pt.pre,facts:=pt.facts++[(Py d.g i (C5 0 pt.nv) s,true)],
  res:=@AV.inst L7 θ β sh.res,post:=@MJ L7 θ β sh.keep sh.keepC 0 d.p sh.post pt.pre++List.replicate (pt.pre.length-d.p) none++(sh.post.drop d.p).map (@V8 L7 θ β),ent:=d.p,defs:=pt.defs}
def OL:SE→SE
 |.and x (.bc true)=>x
 |x=>x
theorem Rv (V:Val) (x:SE):Ai V (OL x)=Ai V x:=by
 unfold OL;split
 ·rename_i x;show Ai V x=((Ai V x)&&true);rw [Bool.and_true]
 ·rfl
def PO (F:List (SB×Bool)) (g:Nat) (st:SE) (f:Nat→SE) (sf:SE) (p:SE×SE):Bool:=
 match ((A0 g st f p.1).norm).same ((A0 g st f p.2).norm) with
 |true=>true
 |false=>match p.2.norm with
  |.bc c=>p.1.isB&&(match Az F (OL p.1) with
   |some d=>d==c
   |none=>c&&p.1.norm.same sf.norm)
  |_=>false
def EY (F:List (SB×Bool)) (g:Nat) (st:SE) (f:Nat→SE) (sf:SE):Obs→Bool
 |[]=>true
 |p::r=>match PO F g st f sf p with
  |true=>EY F g st f sf r
  |false=>false
def YA [Facts] (E:Env) (p a:AV) (h:Aa):AV×Aa:=
 match p,a with
 |.tuple qs,.tuple xs=>match Nv E qs xs h with
  | (xs',h1)=>(.tuple xs',h1)
 |p,a=>M0 E p a h
theorem Um {U:Unk} {E:Env} (hE:OK E) {w:World} {p a a':AV} {v:Value} {ρ:Ren} {h h':Aa} (hr:HR ρ h.blk.get w) (ha:VR ρ a v) (hx:YA E p a h=(a',h')) :
  h'.nx=h.nx∧∃σ:Ren,VR σ a' v∧HR σ h'.blk.get w∧Ext ρ σ h h' w w:=by
 unfold YA at hx;split at hx
 ·rename_i qs xs;split at hx;rename_i xs' h1 hf;cases hx;cases ha with
  |tuple _ l' e1 e2=>
   obtain ⟨hn,σ,q1,q2,q3⟩:=MD hE hr ⟨e1,e2⟩ hf;exact ⟨hn,σ,.tuple xs' l' q1.1 q1.2,q2,q3⟩
 ·exact Np hE hr ha hx
def I9 [Facts] (E:Env) (c:Cut) (v:AV) (h:Aa):AV×Aa:=match YA E c.res v h with
 | (v,h)=>(v,Dg E c.post 0 (F0 E c.post h (E7 c.res v ⟨.nil,idT c.pre.length .nil⟩)).b h)
theorem O5 {U:Unk} {E:Env} (hE:OK E) {w:World} {c:Cut} {a a':AV} {v:Value} {ρ:Ren} {h h':Aa} (hr:HR ρ h.blk.get w) (ha:VR ρ a v) (hx:I9 E c a h=(a',h')) :
  h'.nx=h.nx∧∃σ:Ren,VR σ a' v∧HR σ h'.blk.get w∧Ext ρ σ h h' w w:=by
 unfold I9 at hx;split at hx;rename_i x h1 hf;cases hx;obtain ⟨n1,σ,q1,q2,q3⟩:=Um hE hr ha hf;obtain ⟨n2,τ,r1,r2⟩:=Bh hE c.post 0 (F0 E c.post h1 (E7 c.res a' ⟨.nil,idT c.pre.length .nil⟩)).b h1 σ q2;exact ⟨by omega,τ,q1.mono r2.le,r1,q3.trans r2 (fun b hb hb2=>by omega)⟩
def Jc [Facts] (E:Env) (c:Cut) (s:AS):AS:={s with h:=Dg E c.pre 0 (F0 E c.pre s.h (Oa c s)).b s.h}
def Qw:List SE→List SE→Bool
 |[],[]=>true
 |a::l,b::m=>a.norm.same b.norm&&Qw l m
 |_,_=>false
def dx (s:Nat) (cs:List SE):Nat→SE
 |0=>.c (s+1:Nat)
 |k+1=>cs.getD k (.bc false)
def ln (g j:Nat) (θ:List SE) (k:Nat):SE:=.sel (.app g (stE j θ)) k
def Mu (E:Env) (d:Dec) (i:Nat) (pt:Pt) (F:List (SB×Bool)) (l:Lf) (dl:Plf) (s:Nat) (sh:Sh):Bool:=
  match dl,l with
  |.stuck,_=>true
  |.done s' cs,.done ok v h=>match Nat.beq s' s with
    |false=>true
    |true=>match ok==sh.ok with
     |false=>false
     |true=>match @I9 ⟨F⟩ E (B2 d i pt s sh) v h with
      | (v,h)=>match @P4 ⟨F⟩ E (B2 d i pt s sh) v h with
        |some o=>EY F d.g (stE i (C5 0 pt.nv)) (dx s cs) (.c 0) o
        |none=>false
  |.next j θ,.cut s0=>match d.pts[j]? with
    |some pj=>match @SZ ⟨F⟩ E (B2 d j pj s sh) (@Jc ⟨F⟩ E (B2 d j pj s sh) s0) with
      |some (θ',x,h',o1)=>match Qw θ' θ,@P4 ⟨F⟩ E (B2 d i pt s sh) x h' with
        |true,some o2=>EY F d.g (stE i (C5 0 pt.nv)) (ln d.g j θ) (Py d.g j θ s) (o1++o2)
        |_,_=>false
      |none=>false
    |none=>false
  |_,_=>false
def Eg (E:Env) (d:Dec) (i:Nat) (pt:Pt) (F:List (SB×Bool)) (l:Lf) (dl:Plf):Nat→List Sh→Bool
 |_,[]=>true
 |s,sh::r=>match Mu E d i pt F l dl s sh with
  |true=>Eg E d i pt F l dl (s+1) r
  |false=>false
def GD (n m:Nat):List SE→Bool
 |[]=>true
 |a::l=>a.fits n m&&GD n m l
def Plf.fits (n m:Nat):Plf→Bool
 |.stuck=>true
 |.done _ cs=>GD n m cs
 |.next _ θ=>GD n m θ
def CV (E:Env) (d:Dec) (i:Nat) (pt:Pt):List (SB×Bool)→Tr Lf→Tr Plf→Option (List (Nat×List AI))
 |_,_,.leaf .stuck=>some []
 |F,.leaf l,.leaf dl=>match Eg E d i pt F l dl 0 d.shs&&dl.fits pt.nv d.g with
  |true=>some (match dl,l with
   |.next j _,.cut s0=>[(j,s0.fr.todo)]
   |_,_=>[])
  |false=>none
 |F,.split e a b,.split e' a' b'=>match e.same e'&&e.fits pt.nv d.g with
  |true=>match CV E d i pt ((e,true)::F) a a',CV E d i pt ((e,false)::F) b b' with
   |some x,some y=>some (x++y)
   |_,_=>none
  |false=>none
 |_,_,_=>none
def Pt.st (pt:Pt) (d:Dec):AS:={fr:={fn:=d.f,nt:=pt.nt,tmps:=pt.tmps,todo:=pt.todo,defers:=Ms pt.defs,mode:=.run,kind:=.normal,round:=none},cs:=[],h:={blk:=AW pt.pre,nx:=pt.pre.length,log:=[]}}
def Hk (E:Env) (keys:List Nat) (N:Nat) (d:Dec) (T:List (Tr Plf)) (i:Nat):Option (List (Nat×List AI)):=
 match d.pts[i]?,T[i]? with
 |some pt,some t=>match F1 E keys d.f N pt.facts (pt.st d) with
  |some r=>CV E d i pt pt.facts r t
  |none=>none
 |_,_=>none
def stD (i nv:Nat) (V:Val):D:=.row (.int i::(List.range nv).map V.d)
def IY (G:Nat→D→D) (xs:List D):Val:=⟨fun j=>xs.getD j default,G⟩
def CI (V:Val):Plf→Option (D ⊕ D)
 |.stuck=>none
 |.done s cs=>some (.inr (.row (.int (s+1:Nat)::cs.map (Af V))))
 |.next j θ=>some (.inl (.row (.int j::θ.map (Af V))))
def Df (T:List (Tr Plf)) (G:Nat→D→D):D→Option (D ⊕ D)
 |.row (.int (.ofNat i)::xs)=>match T[i]? with
  |some t=>CI (IY G xs) (t.get (IY G xs))
  |none=>none
 |_=>none
theorem Oh (V:Val):∀{a b:List SE},Qw a b=true→a.map (Af V)=b.map (Af V)
 |[],[],_=>rfl
 |x::a,y::b,h=>by
  simp only [Qw,Bool.and_eq_true] at h;have:=congrArg (Af V) (SE.same_ok (U:=AZ) h.1);rw [B0,B0] at this;simp only [List.map_cons,this,Oh V h.2]
 |[],_::_,h=>by cases h
 |_::_,[],h=>by cases h
theorem Dn {n m:Nat} {V W:Val} (h:V.Alike n m W):∀{l:List SE},GD n m l=true→l.map (Af V)=l.map (Af W)
 |[],_=>rfl
 |a::l,hf=>by
  simp only [GD,Bool.and_eq_true] at hf;simp only [List.map_cons,SE.fits_ok h a hf.1,Dn h hf.2]
theorem Re {F:List (SB×Bool)} {g:Nat} {st:SE} {f:Nat→SE} {sf:SE} {V:Val} (hF:BM V F) (hf:∀j,Af V (f j)=Af V (.sel (.app g st) j)) (hsf:sf=.c 0∨Af V sf=.bool true) {p:SE×SE} (h:PO F g st f sf p=true):Af V p.1=Af V p.2:=by
 unfold PO at h;split at h
 ·rename_i hs;have:=SE.same_ok (U:=AZ) hs;have q:=congrArg (Af V) this
  rwa [B0,B0,Qk hf,Qk hf] at q
 ·split at h
  ·rename_i c hc;simp only [Bool.and_eq_true] at h;obtain ⟨hb,h⟩:=h;have e1:=LX V hb;have e2:=B0 V p.2;rw [hc] at e2;rw [←e2,e1];show D.bool _=D.bool c
   congr 1
   split at h
   ·rename_i d hd;have:=An (U:=AZ) (V:=V) hF hd;rw [Rv] at this;have h2:=eq_of_beq h;subst h2;exact this
   ·simp only [Bool.and_eq_true] at h;have h2:=congrArg (Af V) (SE.same_ok (U:=AZ) h.2);rw [B0,B0] at h2;have h3:c=true:=h.1;subst h3;rcases hsf with q|q
    ·rw [q,e1] at h2;cases h2
    ·rw [h2,q];rfl
  ·cases h
theorem Fp {F:List (SB×Bool)} {g:Nat} {st:SE} {f:Nat→SE} {sf:SE} {V:Val} (hF:BM V F) (hf:∀j,Af V (f j)=Af V (.sel (.app g st) j)) (hsf:sf=.c 0∨Af V sf=.bool true):∀{o:Obs},EY F g st f sf o=true→o.holds V
 |[],_=>fun a b hm=>by cases hm
 |p::r,h=>by
  simp only [EY] at h;split at h
  ·rename_i hp;intro a b hm;rcases List.mem_cons.1 hm with q|q
   ·have:=Re hF hf hsf hp;rw [←q] at this;exact this
   ·exact Fp hF hf hsf h a b q
  ·cases h
theorem PI {E:Env} {d:Dec} {i:Nat} {pt:Pt} {V W:Val} (hVW:V.Alike pt.nv d.g W):∀{r:Tr Lf} {t:Tr Plf} {F:List (SB×Bool)} {js:List (Nat×List AI)},CV E d i pt F r t=some js→
  t.get W=.stuck∨(Eg E d i pt (r.way V F).2 (r.way V F).1 (t.get W) 0 d.shs=true∧(t.get W).fits pt.nv d.g=true∧∀j θ s0,t.get W=.next j θ→(r.way V F).1=.cut s0→(j,s0.fr.todo)∈js):=by
 intro r t
 induction t generalizing r with
 |leaf dl=>
  intro F js h;cases dl with
  |stuck=>exact .inl rfl
  |done s cs=>
   right;cases r with
   |split=>simp [CV] at h
   |leaf l=>
    simp only [CV] at h;split at h
    ·rename_i hc;simp only [Bool.and_eq_true] at hc;exact ⟨hc.1,hc.2,fun j θ s0 q=>by cases q⟩
    ·cases h
  |next j θ=>
   right;cases r with
   |split=>simp [CV] at h
   |leaf l=>
    simp only [CV] at h;split at h
    ·rename_i hc;simp only [Bool.and_eq_true] at hc;refine ⟨hc.1,hc.2,fun j' θ' s0 q1 q2=>?_⟩
     cases q1;simp only [Tr.way] at q2;subst q2;cases h;simp
    ·cases h
 |split e a b iha ihb=>
  intro F js h;cases r with
  |leaf l=>cases l<;>simp [CV] at h
  |split e' a' b'=>
   simp only [CV] at h;split at h
   ·rename_i hc;simp only [Bool.and_eq_true] at hc;have he:=SE.same_ok (U:=AZ) hc.1;subst he;have hv:Ai W e'=Ai V e':=by unfold Ai;rw [SE.fits_ok hVW e' hc.2]
    split at h
    ·rename_i x y hx hy;cases h;simp only [Tr.get,Tr.way,hv];cases hb:Ai V e' with
     |true=>
      rcases iha hx with q|⟨q1,q2,q3⟩
      ·exact .inl q
      ·exact .inr ⟨q1,q2,fun j θ s0 z1 z2=>by simp [q3 j θ s0 z1 z2]⟩
     |false=>
      rcases ihb hy with q|⟨q1,q2,q3⟩
      ·exact .inl q
      ·exact .inr ⟨q1,q2,fun j θ s0 z1 z2=>by simp [q3 j θ s0 z1 z2]⟩
    ·cases h
   ·cases h
theorem GX {E:Env} {d:Dec} {i:Nat} {pt:Pt} {F:List (SB×Bool)} {l:Lf} {dl:Plf}:∀{shs:List Sh} {s0:Nat},Eg E d i pt F l dl s0 shs=true→∀(s:Nat) sh,shs[s]?=some sh→Mu E d i pt F l dl (s0+s) sh=true
 |[],s0,_,s,sh,h=>by simp at h
 |a::r,s0,h,s,sh,hs=>by
  simp only [Eg] at h;split at h
  ·rename_i ha;cases s with
   |zero=>simp only [List.getElem?_cons_zero,Option.some.injEq] at hs;subst hs;exact ha
   |succ s=>
    simp only [List.getElem?_cons_succ] at hs;have:=GX h s sh hs
    rwa [show s0+1+s=s0+(s+1) by omega] at this
  ·cases h
structure Se (P:Program) (f0:FuncId) (base:List Frame) (ok:Bool) (K:Frame→World→Value→World→Prop):Prop where
 pre:∀c c' w w1 v w',Steps P (lone c base w) (lone c' base w1)→K c' w1 v w'→K c w v w'
 ends:∀c w v w',IU P c w ok v w'→c.fn=f0→c.roundOf=none→K c w v w'
def Cut.AtK (P:Program) (G:Nat→D→D) (c:Cut) (V:Val) (K:Frame→World→Value→World→Prop):Prop:=
 ∀(v:Vals),v.V=V→v.K=(Env.of P).kinds→V.fn=G→BM V c.facts→∀(ρ:Ren) (cf:Frame) (w:World),FrR ρ c.fr cf→HR ρ c.h.blk.get w→Bk ρ c.pre.length→
  ∃σ v' w',K cf w v' w'∧VR σ c.res v'∧HR σ c.h'.blk.get w'∧Ext ρ σ c.h c.h' w w'
section
variable {E:Env} {G:Nat→D→D} (hE:∀[U:Unk],U.K=(Env.of E.P).kinds→OK E) {v:Vals} (hK:v.K=(Env.of E.P).kinds)
include hE hK
theorem S0 (hG:v.V.fn=G) {F:List (SB×Bool)} (hF:BM v.V F) {d:Cut} {s:AS} {θ:List SE} {x:AV} {h':Aa} {o:Obs} (hx:@SZ ⟨F⟩ E d s=some (θ,x,h',o)) (ho:o.holds v.V) {K:Frame→World→Value→World→Prop} (hat:d.AtK E.P G (v.V.inst θ) K) (htd:s.fr.todo=d.todo)
  {σ:Ren} {cf:Frame} {w:World} (hsr:SR σ s cf [] w) (hwf:WF s.h) (hfa:Bk σ s.h.nx):
  ∃τ v' w',K cf w v' w'∧VR τ x v'∧HR τ h'.blk.get w'∧Ext σ τ s.h h' w w':=by
 have hEU:@OK _ (A3 v F hF) E:=hE (U:=A3 v F hF) hK;unfold SZ at hx;split at hx;rename_i m h1 hbd;simp only at hx;split at hx
 ·rename_i hc;split at hx
  ·rename_i o1 t hx1 ht;simp only [Option.some.injEq,Prod.mk.injEq] at hx;obtain ⟨rfl,rfl,rfl,rfl⟩:=hx;obtain ⟨oa,ob,hxa,hx2,rfl⟩:=Bt hx1;obtain ⟨ho1,hofacts⟩:=Obs.append ho;obtain ⟨hoa,hob⟩:=Obs.append ho1;generalize hθ:GJ m.v 0 d.nv=θ at *;generalize hβ:Ha m.b 0 d.pre.length=β at *;have e2:(@AC ⟨F⟩ E d.pre 0 (@F0 ⟨F⟩ E d.pre s.h (Oa d s)) s.h).2=h1:=by rw [hbd]
   obtain ⟨q1,q2,q3⟩:=A9 (U:=A3 v F hF) (E:=E) d.pre 0 (@F0 ⟨F⟩ E d.pre s.h (Oa d s)) s.h hsr.h hwf (fun b b1 _=>hfa b b1)
   rw [e2] at q1 q2 q3;simp only [Bool.and_eq_true] at hc;obtain ⟨⟨⟨⟨⟨⟨⟨⟨⟨c1,c2⟩,c3⟩,c4⟩,c5⟩,c6⟩,c7⟩,c8⟩,c9⟩,c10⟩:=hc;have hfacts:=Jw hofacts;have hV:(B7 (A3 v F hF) d.facts θ hfacts).V=(A3 v F hF).V.inst θ:=rfl;have hKK:(B7 (A3 v F hF) d.facts θ hfacts).K=(A3 v F hF).K:=rfl;have hlt:=J5 c2;have hbl:=(CF (U:=A3 v F hF) (W:=B7 (A3 v F hF) d.facts θ hfacts) hV hKK d.pre β ob hx2 hob).1;have p2:=HR.toPat (U:=A3 v F hF) (W:=B7 (A3 v F hF) d.facts θ hfacts) hV hKK hEU q1 hx2 hob c1;have hfa1:Bk σ h1.nx:=Bk.ext hfa q2
   have hback:Bk (σ.back β) d.pre.length:=by
    intro b hb;have:β[b]?=none:=List.getElem?_eq_none (by omega)
    simp [Ren.back,this]
   have hfr:=hsr.fr
   have pfr:@FrR (B7 (A3 v F hF) d.facts θ hfacts).toVals (σ.back β) d.fr cf:=by
    refine @FrR.mk (B7 (A3 v F hF) d.facts θ hfacts).toVals (σ.back β) d.fr cf ?_ (@TR.mk (B7 (A3 v F hF) d.facts θ hfacts).toVals (σ.back β) _ _ _ ?_ (fun i y hy=>?_)) ?_ ?_ ?_ ?_ ?_
    ·rw [hfr.fn];exact Nat.eq_of_beq_eq_true c4
    ·rw [hfr.tm.size];exact Nat.eq_of_beq_eq_true c5
    ·obtain ⟨z,z1,z2⟩:=JT (U:=A3 v F hF) (W:=B7 (A3 v F hF) d.facts θ hfacts) hV hKK (ρ:=σ) d.tmps s.fr.tmps oa hxa hoa i y hy;exact z2 _ (hfr.tm.get i z z1)
    ·show @IL (B7 (A3 v F hF) d.facts θ hfacts).toVals (σ.back β) d.todo cf.todo;rw [←htd];exact NE c10 hfr.todo
    ·exact KY (U:=A3 v F hF) (W:=B7 (A3 v F hF) d.facts θ hfacts) hV hKK c6 hfr.defers
    ·have hm:=hfr.mode;show @MR (B7 (A3 v F hF) d.facts θ hfacts).toVals (σ.back β) .run cf.mode;cases hq:s.fr.mode with
     |run=>rw [hq] at hm;generalize cf.mode=mm at hm;cases hm;exact @MR.run (B7 (A3 v F hF) d.facts θ hfacts).toVals (σ.back β)
     |ret=>rw [hq] at c7;cases c7
     |panic=>rw [hq] at c7;cases c7
    ·have hk:=hfr.kind;show cf.kind=.normal;rw [hk];cases hq:s.fr.kind with
     |normal=>rfl
     |_=>rw [hq] at c8;cases c8
    ·have hro:=hfr.round;show RR (σ.back β) none cf.roundOf;cases hq:s.fr.round with
     |none=>rw [hq] at hro;cases hz:cf.roundOf with|none=>trivial|some=>rw [hz] at hro;exact hro.elim
     |some=>rw [hq] at c9;cases c9
   obtain ⟨σ2,v',w',r1,r2,r3,r4⟩:=hat (B7 (A3 v F hF) d.facts θ hfacts).toVals rfl hK hG hfacts (σ.back β) cf w pfr p2 hback;obtain ⟨τ,t1,t2,t3⟩:=P6 (U:=A3 v F hF) (E:=E) (FF:=d.facts) hfacts rfl rfl hx2 hob c1 hlt (Nat.le_of_ble_eq_true c3) ht q1 q3 (fun b hb _=>hfa1 b hb) r2 r3 r4
   exact ⟨τ,v',w',r1,t1,t2,q2.trans t3 (fun b hb _=>hfa b hb)⟩
  ·cases hx
 ·cases hx
end
theorem LB (t:T SE):∀(n i:Nat),(GJ t i n).length=n
 |0,_=>rfl
 |n+1,i=>by simp [GJ,LB t n]
theorem TZ [Facts] {E:Env} {c:Cut} {s:AS} {θ:List SE} {x:AV} {h:Aa} {o:Obs} (hu:SZ E c s=some (θ,x,h,o)):θ.length=c.nv:=by
 unfold SZ at hu;split at hu;simp only at hu;split at hu
 ·split at hu
  ·simp only [Option.some.injEq,Prod.mk.injEq] at hu;rw [←hu.1,LB]
  ·cases hu
 ·cases hu
def Y5 (r:D):Int:=(r.cells.getD 0 default).toInt
theorem Yh [Cq] {E:Env} {G:Nat→D→D} (hE:∀[U:Unk],U.K=(Env.of E.P).kinds→OK E) (hO:Ad E G) {d:Dec} {T:List (Tr Plf)} {keys:List Nat} {N:Nat} (hg:∀x,G d.g x=Cx (Df T G) x)
  (hchk:∀(i:Nat) pt,d.pts[i]?=some pt→∃js,Hk E keys N d T i=some js∧∀j td,(j,td)∈js→∀pj,d.pts[j]?=some pj→td=pj.todo) :
  ∀(n i:Nat) (pt:Pt) (s:Nat) (sh:Sh),d.pts[i]?=some pt→d.shs[s]?=some sh→∀(V:Val) (r:D),V.fn=G→Er (Df T G) n (stD i pt.nv V)=some r→Y5 r=(s+1:Nat)→∀(base:List Frame) (K:Frame→World→Value→World→Prop),Se E.P d.f base sh.ok K→(B2 d i pt s sh).AtK E.P G V K:=by
 intro n
 induction n with
 |zero=>intro i pt s sh _ _ V r _ h;cases h
 |succ n ih=>
  intro i pt s sh hpt hsh V r hVG hrun hrs base KK hgo v hvV hK hG hfacts ρ cf w hfr hr hfa;subst hvV;have hF0:BM v.V pt.facts:=fun e b hm=>hfacts e b (by simp [B2,hm])
  obtain ⟨js,hdec,hjs⟩:=hchk i pt hpt;unfold Hk at hdec;rw [hpt] at hdec;split at hdec
  ·rename_i pt' t hpt' ht;cases hpt';split at hdec
   ·rename_i tr htr;have hgood:=UA hE hO hK hG base N pt.facts (pt.st d) tr htr hF0 ρ cf [] w ⟨hfr,.nil,hr⟩ (H6 _ _) hfa;have hVW:v.V.Alike pt.nv d.g (IY G ((List.range pt.nv).map v.V.d)):=⟨fun j hj=>by simp [IY,List.getD_eq_getElem?_getD,hj],fun j _=>by rw [hG];rfl⟩
    have hsemi:Af v.V (stE i (C5 0 pt.nv))=stD i pt.nv v.V:=by
     rw [J8,Gu];simp [stD]
    have hone:Df T G (stD i pt.nv v.V)=CI (IY G ((List.range pt.nv).map v.V.d)) (t.get (IY G ((List.range pt.nv).map v.V.d))):=by
     show (match T[i]? with
      |some t=>CI (IY G _) (t.get (IY G _))
      |none=>none)=_
     rw [ht]
    have hwhile:Cx (Df T G) (stD i pt.nv v.V)=r:=DO hrun;generalize hW:IY G ((List.range pt.nv).map v.V.d)=W at hVW hone;rcases PI (E:=E) (d:=d) (i:=i) hVW hdec with hst|⟨hshapes,hfits,hmem⟩
    ·simp only [Er,hone,hst,CI] at hrun;cases hrun
    ·generalize hlf:tr.way v.V pt.facts=lf at hgood hshapes hmem;obtain ⟨l,F⟩:=lf;simp only at hgood hshapes hmem;have hl:=GX hshapes s sh hsh;simp only [Nat.zero_add] at hl;generalize hdl:t.get W=dl at hone hfits hl hmem;unfold Mu at hl;split at hl
     ·simp only [Er,hone,CI] at hrun;cases hrun
     ·
      rename_i s' cs okx x h;simp only [Er,hone,CI] at hrun;cases hrun
      have hss:s'=s:=by
       have:((s'+1:Nat):Int)=(s+1:Nat):=hrs;omega
      subst hss;rw [Nat.beq_refl] at hl;simp only at hl;split at hl
      ·cases hl
      rename_i hok;have hok:=eq_of_beq hok;generalize hpe:@I9 ⟨F⟩ E (B2 d i pt s' sh) x h=pe at hl;obtain ⟨x2,h2⟩:=pe;simp only at hl;split at hl
      ·rename_i o ho;obtain ⟨hF,σ,cf',v',w1,w',q1,qf,qr,q2,q3,q4,q5⟩:=hgood;have hcs:cs.map (Af v.V)=cs.map (Af W):=Dn hVW hfits
       have hob:o.holds v.V:=Fp hF (fun j=>by
        show _=(v.V.fn d.g (Af v.V (stE i (C5 0 pt.nv)))).cells.getD j default;rw [hsemi,hG,hg,hwhile];cases j with
        |zero=>rfl
        |succ j=>
         show Af v.V (cs.getD j (.bc false))=(cs.map (Af W)).getD j default;rw [←hcs];simp only [List.getD_eq_getElem?_getD,List.getElem?_map];cases cs[j]?<;>rfl) (.inl rfl) hl
       obtain ⟨pn,σ2,p0,p1,p2⟩:=O5 (U:=A3 v F hF) (hE (U:=A3 v F hF) hK) q4 q3 hpe;have q3:=p0;have hfa2:Bk σ h.nx:=Bk.ext (h:=(pt.st d).h) hfa q5;have q5:=q5.trans p2 (fun b hb hb2=>hfa b hb)
       have q4:=p1;have hwf:=Ext.wf (U:=A3 v F hF) q5 (H6 _ _);obtain ⟨τ,r1,r2,r3⟩:=Sw (c:=B2 d i pt s' sh) hE hK hF ho hob q3 q4 hwf q5 hfa;exact ⟨τ,v',w',hgo.pre _ _ _ _ _ _ q1 (hgo.ends _ _ _ _ (hok▸q2) qf qr),r1,r2,r3⟩
      ·cases hl
     ·
      rename_i j θ s0;simp only [Er,hone,CI] at hrun;split at hl
      ·rename_i pj hpj;split at hl
       ·rename_i θ' x h o1 hu;split at hl
        ·rename_i o2 hθ ho2;have hθ':=Oh v.V hθ;obtain ⟨hF,hcs,σ,c',w1,q1,q2,q3⟩:=hgood;have hlen:θ'.length=pj.nv:=@TZ _ ⟨F⟩ _ _ _ _ _ _ _ hu
         have hst:(D.row (.int j::θ.map (Af W)))=stD j pj.nv (v.V.inst θ'):=by
          have:=Dn hVW (l:=θ) hfits;rw [←this,←hθ'];unfold stD
          congr 2
          apply List.ext_getElem
          ·simp [hlen]
          ·intro k h1 h2;simp only [List.getElem_map,List.getElem_range,Val.inst];have:k<θ'.length:=by simpa using h1
           simp [List.getD_eq_getElem?_getD,this]
         have hstE:Af v.V (stE j θ)=stD j pj.nv (v.V.inst θ'):=by
          rw [J8,Dn hVW (l:=θ) hfits,hst]
         rw [hst] at hrun;have hwj:Cx (Df T G) (stD j pj.nv (v.V.inst θ'))=r:=DO hrun
         have hob:(o1++o2).holds v.V:=Fp hF (fun k=>by
          show (v.V.fn d.g (Af v.V (stE j θ))).cells.getD k default=(v.V.fn d.g (Af v.V (stE i (C5 0 pt.nv)))).cells.getD k default;rw [hstE,hsemi,hG,hg,hg,hwj,hwhile]) (.inr (by
          show D.bool ((((v.V.fn d.g (Af v.V (stE j θ))).cells.getD 0 default).toInt)==((s+1:Nat):Int))=_;rw [hstE,hG,hg,hwj];have:(r.cells.getD 0 default).toInt=((s+1:Nat):Int):=hrs;rw [this];simp)) hl
         obtain ⟨hob1,hob2⟩:=Obs.append hob;have hat:=ih j pj s sh hpj hsh (v.V.inst θ') r hG hrun hrs base KK hgo;have htd:s0.fr.todo=(B2 d j pj s sh).todo:=hjs j _ (hmem j θ s0 rfl rfl) pj hpj;obtain ⟨pn,σ2,p1,p2⟩:=Bh (U:=A3 v F hF) (hE (U:=A3 v F hF) hK) (B2 d j pj s sh).pre 0 (@F0 ⟨F⟩ E (B2 d j pj s sh).pre s0.h (Oa (B2 d j pj s sh) s0)).b s0.h σ q2.h;have q2:SR σ2 (@Jc ⟨F⟩ E (B2 d j pj s sh) s0) c' [] w1:=⟨q2.fr.mono p2.le,q2.cs.mono p2.le,p1⟩;have q3:=q3.trans p2 (fun b hb hb2=>hfa b hb)
         have hwf1:WF (@Jc ⟨F⟩ E (B2 d j pj s sh) s0).h:=Ext.wf (U:=A3 v F hF) q3 (H6 _ _);have hfa1:Bk σ2 (@Jc ⟨F⟩ E (B2 d j pj s sh) s0).h.nx:=Bk.ext (h:=(pt.st d).h) hfa q3;obtain ⟨τ,v',w',r1,r2,r3,r4⟩:=S0 hE hK hG hF hu hob1 hat htd q2 hwf1 hfa1;have he:Ext ρ τ (pt.st d).h h w w':=q3.trans r4 (fun b hb _=>hfa b hb)
         have hwf2:WF h:=Ext.wf (U:=A3 v F hF) r4 hwf1;obtain ⟨τ2,t1,t2,t3⟩:=Sw (c:=B2 d i pt s sh) hE hK hF ho2 hob2 r2 r3 hwf2 he hfa;exact ⟨τ2,v',w',hgo.pre _ _ _ _ _ _ q1 r1,t1,t2,t3⟩
        ·cases hl
       ·cases hl
      ·cases hl
     ·cases hl
   ·cases hdec
  ·cases hdec
theorem T6 (P:Program) (f0:FuncId) (base:List Frame):Se P f0 base true (fun cf w v w'=>∃fr,Steps P (lone cf base w) (lone fr base w')∧fr.fn=f0∧fr.leaving P w' (.returned v)):=
 ⟨fun c c' w w1 v w' h ⟨fr,k1,k2,k3⟩=>⟨fr,Steps.trans h k1,k2,k3⟩,fun c w v w' h hf hr=>by
  obtain ⟨e,q⟩:=h.leaves hr;subst e;exact ⟨c,Steps.refl _ _,hf,q⟩⟩
def Qo (E:Env) (f nv:Nat) (args:List AV) (pre:List (Option Ac)) (facts:List (SB×Bool)):Pt:=
 {key:=none,nt:=(Jl E f args).nt,nv,todo:=(Jl E f args).todo,tmps:=(Jl E f args).tmps,pre,facts}
def Dec.sm (d:Dec) (args:List AV) (pt:Pt) (s:Nat) (sh:Sh):Sm:=
 let c:=B2 d 0 pt s sh
 {f:=d.f,nv:=pt.nv,args,pre:=pt.pre,facts:=c.facts,res:=c.res,post:=c.post,ok:=sh.ok}
def Si:List (Nat×AV)→T AV
 |[]=>.nil
 | (i,a)::r=>(Si r).set i a
end Go.AE
namespace Go.AE
variable [Gl:Au]
open Go.RowKit
def Q9 (o:Option Nat) (P:Program) (ts:List TypeId) (xs:List D):Prop:=∃ks cs M,A8 (Env.of P) ts=some ks∧DVL (Env.of P).kinds M ks cs xs∧(Can ks xs∧LZ (Env.of P).kinds 9 ks xs)∧ShL (Env.of P).kinds o 9 ks xs
def Jg (P:Program) (ts:List TypeId) (xs:List D):Prop:=∃ks cs M,A8 (Env.of P) ts=some ks∧DVL (Env.of P).kinds M ks cs xs∧Can ks xs∧LZ (Env.of P).kinds 9 ks xs
def Ke:Sh:={m:=1,res:=.sb true (.var 0),post:=[],keep:=[]}
def BD (E:Env) (ts:List TypeId):List (SB×Bool):=match A8 E ts with
 |some ks=>BT 0 ks
 |none=>[]
def Et (E:Env) (ts:List TypeId):Nat:=match A8 E ts with
 |some ks=>ks.length
 |none=>0
def FA (E:Env) (ts:List TypeId):List AV:=match @EL ⟨BD E ts⟩ E 0 ts with
 |some l=>l
 |none=>[]
def JZ (E:Env) (f:FuncId) (ts:List TypeId):Pt:=Qo E f (Et E ts) (FA E ts) [] (BD E ts)
def Tu (E:Env) (f:FuncId) (ts:List TypeId) (L:List TypeId):Bool:=
 FL E L L&&(match A8 E ts with
  |some ks=>ks.all (ND L)
  |none=>false)&&(@EL ⟨BD E ts⟩ E 0 ts).isSome&&(BO E f (FA E ts) .normal).isSome
section
variable {E:Env} {L:List TypeId} {H:Type} {enc:TypeId×Value→H} {w:World} {base:Nat} {sp:Nat→Bool} {held:Bool}
theorem Vw [Cq] {G:Nat→D→D} (hE:∀[U:Unk],U.K=(Env.of E.P).kinds→OK E) (hke:E.kinds=(Env.of E.P).kinds) (hO:Ad E G) {d:Dec} {T:List (Tr Plf)} {keys:List Nat} {N:Nat} (hg:∀x,G d.g x=Cx (Df T G) x)
  (hchk:∀(i:Nat) pt,d.pts[i]?=some pt→∃js,Hk E keys N d T i=some js∧∀j td,(j,td)∈js→∀pj,d.pts[j]?=some pj→td=pj.todo)
  {ts:List TypeId} (hp0:d.pts[0]?=some (JZ E d.f ts)) (hsh:d.shs[0]?=some Ke) (hok:Tu E d.f ts L=true) (hkk:A8 E ts=A8 (Env.of E.P) ts)
  {o:Option Nat} (hplain:∀xs,Q9 o E.P ts xs→G d.g (.row (.int 0::xs))=.row [.int 1,.bool true])
  {vs:List Value} {ds:List (DataW H)} {ps:List MemPlace} (hsw:Bm o ds) (hA:DataW.TrodAll enc E.P w base sp held ts vs ds ps) (hval:∀(j:Nat) t v,ts[j]?=some t→vs[j]?=some v→∃r b0,Value.okWide E.P w r b0 t v) (hgl:E4 (DC w)) :
  Calls E.P d.f vs.toArray w fun e W'=>e=.returned (.bool true)∧Below w.heap.size w W':=by
 unfold Tu at hok;simp only [Bool.and_eq_true] at hok;obtain ⟨⟨⟨hL,hin⟩,hsym⟩,hent⟩:=hok;split at hin
 ·rename_i ks hk;obtain ⟨cs,xs,q1,qc,q2⟩:=Vt (U:=RZ E.P) (hE (U:=RZ E.P) rfl) hL (o:=o) ts vs ds ps ks hA hval hk hin hsw;have hlen:ks.length=xs.length:=q1.len.2;have hnv:Et E ts=xs.length:=by unfold Et;rw [hk];exact hlen
  have hfk:BD E ts=BT 0 ks:=by unfold BD;rw [hk]
  have hF:BM (CC G xs) (BD E ts):=by
   rw [hfk];exact F8 (U:=RZ E.P) ks cs xs 0 (fun i hi=>by simp [CC]) q1
  intro cs0;cases hfr:BO E d.f (FA E ts) .normal with
  |none=>rw [hfr] at hent;cases hent
  |some fr=>
   have hst:stD 0 (Et E ts) (CC G xs)=.row (.int 0::xs):=by
    unfold stD;rw [hnv]
    congr 2
    apply List.ext_getElem
    ·simp
    ·intro k h1 h2;simp [CC,List.getD_eq_getElem?_getD,h2]
   have hres:=hplain xs ⟨ks,cs,DC w,by rw [←hkk];exact hk,by rw [←hke];exact q1,⟨qc.1.1,by rw [←hke];exact qc.1.2⟩,by rw [←hke];exact qc.2⟩
   rw [hg,←hst] at hres;rcases FB (Df T G) (stD 0 (Et E ts) (CC G xs)) with q|⟨n,hn⟩
   ·rw [q] at hres;cases hres
   ·rw [hres] at hn;have hat:=Yh hE hO hg hchk n 0 _ 0 Ke hp0 hsh (CC G xs) _ rfl hn rfl cs0 _ (T6 E.P d.f cs0)
    let vv:Vals:={V:=CC G xs,K:=E.kinds,R:=[],hR:=fun _ _ _ _ _ h=>(by cases h)}
    have hstE:Af (CC G xs) (stE 0 (C5 0 (Et E ts)))=stD 0 (Et E ts) (CC G xs):=by
     rw [J8,Gu];simp [stD]
    have hval1:(CC G xs).fn d.g (Af (CC G xs) (stE 0 (C5 0 (Et E ts))))=.row [.int 1,.bool true]:=by
     rw [hstE,←hres];exact hg _
    have hfacts:BM vv.V (B2 d 0 (JZ E d.f ts) 0 Ke).facts:=by
     intro e b hm;have hm':(e,b)∈BD E ts++[(Py d.g 0 (C5 0 (Et E ts)) 0,true)]:=hm;rcases List.mem_append.1 hm' with q|q
     ·exact hF e b q
     ·simp only [List.mem_singleton,Prod.mk.injEq] at q;obtain ⟨rfl,rfl⟩:=q;show ((((CC G xs).fn d.g (Af (CC G xs) (stE 0 (C5 0 (Et E ts))))).cells.getD 0 default).toInt==((0+1:Nat):Int))=true;rw [hval1];rfl
    have hargs:@VL vv ⟨fun _=>none,DC w⟩ (FA E ts) vs:=by
     cases hs:@EL ⟨BD E ts⟩ E 0 ts with
     |none=>rw [hs] at hsym;cases hsym
     |some ags=>
      have e1:FA E ts=ags:=by unfold FA;rw [hs]
      rw [e1];exact q2 {facts:=BD E ts,toVals:=vv,ok:=hF} 0 ags ⟨fun _=>none,DC w⟩ rfl rfl (fun i hi=>by show (CC G xs).d (0+i)=_;simp [CC]) hs
    have hEv:=hE (U:={facts:=BD E ts,toVals:=vv,ok:=hF}) hke;have hfrr:=Cp (U:={facts:=BD E ts,toVals:=vv,ok:=hF}) hEv hfr hargs
    have efr:(B2 d 0 (JZ E d.f ts) 0 Ke).fr=fr:=by
     have hq:=hfr;unfold BO at hq;split at hq
     ·rename_i fn hfn;split at hq
      ·rename_i c hc;cases hq;simp [Cut.fr,B2,JZ,Qo,Jl,BO,hfn,hc,Ms]
      ·cases hq
     ·cases hq
    obtain ⟨σ,v',w',⟨fr',k1,k2,k3⟩,r1,r2,r3⟩:=hat vv rfl hke rfl hfacts ⟨fun _=>none,DC w⟩ _ w (by rw [efr];exact hfrr) (SC (U:={facts:=BD E ts,toVals:=vv,ok:=hF}) w hgl) (fun b _=>rfl)
    have hv':v'=.bool true:=by
     have e2:(B2 d 0 (JZ E d.f ts) 0 Ke).res=.sb true (.sel (.app d.g (stE 0 (C5 0 (Et E ts)))) 1):=rfl;rw [e2] at r1;cases r1
     have:Ai vv.V (.sel (.app d.g (stE 0 (C5 0 (Et E ts)))) 1)=true:=by
      show (((CC G xs).fn d.g (Af (CC G xs) (stE 0 (C5 0 (Et E ts))))).cells.getD 1 default).toBool=true;rw [hval1];rfl
     rw [this];rfl
    subst hv';exact ⟨.returned (.bool true),w',fr',⟨rfl,r3.calm.os,r3.calm.tape,r3.calm.output,r3.calm.size,fun k hk=>r3.kept k hk (fun b base h=>by cases h)⟩,k1,k2,k3⟩
 ·cases hin
end
theorem Rg [Cq] {H:Type} {enc:TypeId×Value→H} {a:Assume} {C:Checked} {os:Os} {fn:Func} {s:ChangeSpec} {conds:List PathCond} {apart:Bool} {L:List TypeId} {tb:TypeId} {l:List Orc} {m:List Sm} {G:Nat→D→D} {d:Dec} {T:List (Tr Plf)} {keys:List Nat} {N:Nat} {X:World→Array Value→Prop} (hX:∀(w w':World) (args:Array Value),w.heap=w'.heap→X w args→X w' args)
  (own:ownKnob C.prog.godebug=none) (started:os.Started) (noInit:C.prog.inits.idxOf? d.f=none) (hfn:C.prog.funcs[d.f]?=some fn)
  (witness:∃(w:World) (tape:Tape) (i:Input),w.os=os∧(w.forCall tape i).Shaped C.prog∧i.vars=[]∧Input.okWide C.prog (w.forCall tape i) .any w.heap.size d.f i∧
   ((s.pre enc C.prog fn conds apart (w.forCall tape i).memory i.args∧X (w.forCall tape i).memory i.args)∧sizedMet enc C.prog fn (OpenSpec.ofChange s) apart (w.forCall tape i).memory i.args)∧a.holds C.prog (lone (Frame.enter C.prog d.f i.args .normal) [] (w.forCall tape i)))
  (hl:laidOutB C.prog=true) (hr:∀t∈fn.params.toList,C.prog.readableRec t=true∧t<C.prog.types.size) (hvars:s.vars=[])
  (hspec:∀ds:List (DataW H),ds.length=fn.params.toList.length→s.fn H ds={results:=[.lit (.bool true)],args:=ds})
  (hres:fn.resultTypes = #[tb]) (hb:C.prog.underlying tb=some .bool) (hE:∀[U:Unk],U.K=(Env.of C.prog).kinds→OK (Env.ofS C.prog l m)) (hO:Ad (Env.ofS C.prog l m) G)
  (hg:∀x,G d.g x=Cx (Df T G) x) (hchk:∀(i:Nat) pt,d.pts[i]?=some pt→∃js,Hk (Env.ofS C.prog l m) keys N d T i=some js∧∀j td,(j,td)∈js→∀pj,d.pts[j]?=some pj→td=pj.todo)
  (hp0:d.pts[0]?=some (JZ (Env.ofS C.prog l m) d.f fn.params.toList)) (hsh:d.shs[0]?=some Ke) (hok:Tu (Env.ofS C.prog l m) d.f fn.params.toList L=true)
  (hplain:∀xs,Jg C.prog fn.params.toList xs→G d.g (.row (.int 0::xs))=.row [.int 1,.bool true]) (hgl:∀w args,X w args→E4 (DC w)) :
  ReturnsInHanded a C os d.f .any (fun w args=>(s.pre enc C.prog fn conds apart w args∧X w args)∧sizedMet enc C.prog fn (OpenSpec.ofChange s) apart w args) (s.post enc C.prog fn apart true false false):=by
 refine returnsInHanded_of_change_and hX own started noInit hfn witness ?_;intro W base args ds gs before hval hW hcnd hx1 hx2 hx3;have hW':=hW;obtain ⟨p,q,hA,hV,rfl,hfz,hnd⟩:=hW;rw [hvars] at hV
 have hgs:gs=[]∧q=[]:=by
  cases gs with
  |nil=>exact ⟨rfl,hV⟩
  |cons=>simp [DataW.TrodVars] at hV
 obtain ⟨rfl,rfl⟩:=hgs;have hlen:=IH hA;have hsp:=hspec ds hlen
 have hkk:A8 (Env.ofS C.prog l m) fn.params.toList=A8 (Env.of C.prog) fn.params.toList:=by
  generalize fn.params.toList=ts
  induction ts with
  |nil=>rfl
  |cons t r ih=>simp only [A8];rw [ih];rfl
 refine (Vw (E:=Env.ofS C.prog l m) hE rfl hO hg hchk hp0 hsh hok hkk (o:=none) (fun xs ⟨ks,cs,M,a,b,c,_⟩=>hplain xs ⟨ks,cs,M,a,b,c.1,c.2⟩) (Bm.none ds) hA (fun j t v ht hv=>⟨_,_,hval j t v (by simpa using ht) (by simpa using hv)⟩) (hgl _ _ hx2)).mono ?_
 rintro e W' ⟨rfl,hbelow⟩
 refine ⟨.bool true,rfl,ds,[],p++[],[],p,[],hW',?_,?_,?_,hbelow.frame _,fun h=>by cases h⟩
 ·rw [List.append_nil,hsp,hres];exact ⟨[],[],shut_bool hb true,rfl,rfl⟩
 ·rw [List.append_nil,hsp];exact Gc hl hbelow hr hA (fun x hx=>hW'.lt x (by simp [hx]))
 ·rw [List.append_nil,hsp,hvars];rfl
end Go.AE
namespace Go.AE
variable [Gl:Au]
def jl (d:Dec):List Nat→List (Nat×List AI)
 |[]=>[]
 |j::r=>(j,(d.pts.getD j default).todo)::jl d r
def N1 (E:Env) (keys:List Nat) (N:Nat) (d:Dec) (T:List (Tr Plf)):Prop:=
 ∀(i:Nat) pt,d.pts[i]?=some pt→∃l,Hk E keys N d T i=some (jl d l)
theorem Su {d:Dec}:∀{l:List Nat} {j:Nat} {td:List AI},(j,td)∈jl d l→∀pj,d.pts[j]?=some pj→td=pj.todo
 |[],j,td,h,pj,hp=>by cases h
 |a::r,j,td,h,pj,hp=>by
  rcases List.mem_cons.1 h with q|q
  ·cases q;simp [List.getD_eq_getElem?_getD,hp]
  ·exact Su q pj hp
theorem N1.chk {E:Env} {keys:List Nat} {N:Nat} {d:Dec} {T:List (Tr Plf)} (h:N1 E keys N d T) (i:Nat) (pt:Pt) (hp:d.pts[i]?=some pt) :
  ∃js,Hk E keys N d T i=some js∧∀j td,(j,td)∈js→∀pj,d.pts[j]?=some pj→td=pj.todo:=by
 obtain ⟨l,hl⟩:=h i pt hp;exact ⟨_,hl,fun j td hm pj hj=>Su hm pj hj⟩
def Tr.appsLt (m:Nat):Tr Plf→Bool
 |.leaf .stuck=>true
 |.leaf (.done _ cs)=>GD 1000 m cs
 |.leaf (.next _ θ)=>GD 1000 m θ
 |.split e a b=>e.fits 1000 m&&a.appsLt m&&b.appsLt m
def Lo (m:Nat):List (Tr Plf)→Bool
 |[]=>true
 |t::r=>t.appsLt m&&Lo m r
def Gt:Nat→List (List (Tr Plf))→Bool
 |_,[]=>true
 |m,t::r=>Lo m t&&Gt (m+1) r
def gAt [Cq] (Ts:List (List (Tr Plf))):Nat→Nat→D→D
 |0,_,_=>.row []
 |n+1,k,x=>if k=n then Cx (Df (Ts.getD n []) (gAt Ts n)) x else gAt Ts n k x
def FW [Cq] (Ts:List (List (Tr Plf))):Nat→D→D:=gAt Ts Ts.length
theorem MO [Cq] (Ts:List (List (Tr Plf))) {k:Nat} (x:D):∀{n:Nat},k<n→gAt Ts n k x=gAt Ts (k+1) k x
 |0,h=>by omega
 |n+1,h=>by
  by_cases c:k=n
  ·subst c;rfl
  ·have:gAt Ts (n+1) k x=gAt Ts n k x:=by show (if k=n then _ else _)=_;rw [if_neg c]
   rw [this];exact MO Ts x (by omega)
theorem OO {m:Nat} {V W:Val} (hd:V.d=W.d) (hf:∀i,i<m→V.fn i=W.fn i):∀{t:Tr Plf},t.appsLt m=true→CI V (t.get V)=CI W (t.get W):=by
 have ha:V.Alike 1000 m W:=⟨fun i _=>by rw [hd],hf⟩
 intro t
 induction t with
 |leaf l=>
  intro h;cases l with
  |stuck=>rfl
  |done s cs=>simp only [Tr.get,CI];rw [Dn ha h]
  |next j θ=>simp only [Tr.get,CI];rw [Dn ha h]
 |split e a b iha ihb=>
  intro h;simp only [Tr.appsLt,Bool.and_eq_true] at h;have he:Ai V e=Ai W e:=by unfold Ai;rw [SE.fits_ok ha e h.1.1]
  simp only [Tr.get,he];cases Ai W e with
  |true=>exact iha h.1.2
  |false=>exact ihb h.2
theorem TO {m:Nat} {G H:Nat→D→D} (hf:∀i,i<m→G i=H i) {T:List (Tr Plf)} (hT:Lo m T=true):Df T G=Df T H:=by
 have key:∀(T:List (Tr Plf)),Lo m T=true→∀(i:Nat) t,T[i]?=some t→t.appsLt m=true:=by
  intro T
  induction T with
  |nil=>intro _ i t h;simp at h
  |cons a r ih=>
   intro h i t hi;simp only [Lo,Bool.and_eq_true] at h;cases i with
   |zero=>simp only [List.getElem?_cons_zero,Option.some.injEq] at hi;subst hi;exact h.1
   |succ i=>exact ih h.2 i t (by simpa using hi)
 funext x
 unfold Df;split
 ·rename_i i xs;split
  ·rename_i t ht;exact OO (m:=m) (V:=IY G xs) (W:=IY H xs) rfl (fun i hi=>hf i hi) (key T hT i t ht)
  ·rfl
 ·rfl
theorem Js:∀{Ts:List (List (Tr Plf))} {m:Nat},Gt m Ts=true→∀(k:Nat) T,Ts[k]?=some T→Lo (m+k) T=true
 |[],m,_,k,T,h=>by simp at h
 |a::r,m,h,k,T,hk=>by
  simp only [Gt,Bool.and_eq_true] at h;cases k with
  |zero=>simp only [List.getElem?_cons_zero,Option.some.injEq] at hk;subst hk;exact h.1
  |succ k=>
   have:=Js h.2 k T (by simpa using hk)
   rwa [show m+1+k=m+(k+1) by omega] at this
theorem GQ [Cq] {Ts:List (List (Tr Plf))} (h:Gt 0 Ts=true) {k:Nat} {T:List (Tr Plf)} (hk:Ts[k]?=some T) (x:D):FW Ts k x=Cx (Df T (FW Ts)) x:=by
 have hlt:k<Ts.length:=(List.getElem?_eq_some_iff.1 hk).1;have hT:=Js h k T hk;rw [Nat.zero_add] at hT
 have e1:FW Ts k x=Cx (Df T (gAt Ts k)) x:=by
  unfold FW;rw [MO Ts x hlt];show (if k=k then _ else _)=_
  rw [if_pos rfl];simp [List.getD_eq_getElem?_getD,hk]
 rw [e1,TO (fun i hi=>?_) hT]
 funext y
 unfold FW;rw [MO Ts y hi,MO Ts y (show i<Ts.length by omega)]
end Go.AE
namespace Go.AE
variable [Gl:Au]
abbrev iV (n:Nat):AV:=.si .i64 (.var n)
abbrev sV (n:Nat):AV:=.ss (.var n)
abbrev bV (n:Nat):AV:=.sb true (.var n)
abbrev dV (e:TypeId) (n:Nat):AV:=.dat e (.var n)
abbrev aV (b es n m:Nat):AV:=.asl b es (.lenL (.var n)) (.var m)
abbrev tO (l:List (Nat×AV)):Option Ac:=some (.cells l.length (Si l))
abbrev rV (e:TypeId) (n:Nat):Option Ac:=some (.arr e (.var n))
class Pg (p:outParam Program) (l:outParam (List Orc)):Prop where
 it:True
abbrev E0 {p:Program} {l:List Orc} [Pg p l]:Env:=Env.of p
abbrev EF {p:Program} {l:List Orc} [Pg p l] (m:Env→List Sm):Env:=Env.ofS p l (m E0)
def us:Nat→Nat→List SE
 |_,0=>[]
 |a,n+1=>.var a::us (a+1) n
section
variable {E:Env} {keys:List Nat} {N:Nat} {d:Dec} {T:List (Tr Plf)}
theorem dkN {n:Nat} (h:d.pts.length=n) (H:∀i,i<n→∃l,Hk E keys N d T i=some (jl d l)):N1 E keys N d T:=fun i pt hp=>H i (by
 rcases Nat.lt_or_ge i n with q|q
 ·exact q
 ·rw [List.getElem?_eq_none (by omega)] at hp
  cases hp)
theorem dk1 {x0:List Nat} (h:d.pts.length=1) (h0:Hk E keys N d T 0=some (jl d x0)):N1 E keys N d T:=dkN h fun i hi=>match i,hi with
 |0,_=>⟨_,h0⟩
 |i+1,hi=>absurd hi (by omega)
end
end Go.AE
namespace Go.AE
def Rx:List Int:=[1,10,100,1000,10000,100000,1000000,10000000,100000000,1000000000,10000000000,100000000000,1000000000000,10000000000000,100000000000000,1000000000000000,10000000000000000,100000000000000000,1000000000000000000,10000000000000000000]
def SH:T (List AV):=.node none (.node none (.node (some (Rx.map (.int .u64))) .nil .nil) .nil) .nil
instance gl0:Au:=⟨SH⟩
theorem Q8 {g:Nat} {l:List AV} (h:SH.get g=some l):g=3∧l=Rx.map (.int .u64):=by
 unfold SH at h;by_cases e0:g=0
 ·rw [T.get_zero _ _ _ e0] at h;cases h
 ·by_cases o:g%2=1
  ·rw [T.get_odd _ _ _ o] at h;by_cases e1:g/2=0
   ·rw [T.get_zero _ _ _ e1] at h;cases h
   ·by_cases o2:g/2%2=1
    ·rw [T.get_odd _ _ _ o2] at h;by_cases e3:g/2/2=0
     ·rw [T.get_zero _ _ _ e3] at h;cases h;exact ⟨by omega,rfl⟩
     ·by_cases o3:g/2/2%2=1
      ·rw [T.get_odd _ _ _ o3,T.get_nil] at h;cases h
      ·rw [T.get_even _ _ _ (by omega) e3,T.get_nil] at h;cases h
    ·rw [T.get_even _ _ _ (by omega) e1,T.get_nil] at h;cases h
  ·rw [T.get_even _ _ _ (by omega) e0,T.get_nil] at h;cases h
theorem Wi {W:World} (h:∀i,i<Rx.length→W.cell? ⟨3,i,none⟩=some (.int .u64 (Rx.getD i 0))):E4 (DC W):=by
 intro g l hg;obtain ⟨rfl,rfl⟩:=Q8 hg;have h0:=h 0 (by decide)
 unfold World.cell? at h0;cases hc:W.heap[3]? with
 |none=>simp [hc] at h0
 |some o=>
  cases o with
  |cells arr e fz=>
   refine ⟨arr,by unfold DC;rw [hc],fun i a ha=>?_⟩
   rw [List.getElem?_map] at ha;cases hz:Rx[i]? with
   |none=>rw [hz] at ha;cases ha
   |some z=>
    rw [hz] at ha;cases ha;have hi:=(List.getElem?_eq_some_iff.1 hz).1;have hv:=h i hi;unfold World.cell? at hv;simp only [hc,Option.isSome_none,Bool.false_eq_true,if_false] at hv;refine ⟨_,hv,?_⟩;show _=_;rw [List.getD_eq_getElem?_getD,hz];rfl
  |_=>simp [hc] at h0
end Go.AE

