/- What is proved here: an evaluator of the model's steps that the kernel can run, and that whatever it answers is what the model does (part 1 of 6: Ae, AeRel, AeOps1, AeOps2, AeStr, AeOps3, AeOps4). Conditions: those that each theorem states; they hold of no one program. -/
import GoSem.Step
import Derived.Calls
import Derived.Laws.Sem
import Derived.Laws.Strings
set_option linter.unusedVariables false
set_option linter.unusedSectionVars false
set_option linter.unusedSimpArgs false
namespace Go.AE
abbrev A1:=@Option.some.injEq
abbrev A2:=@Go.Result.andThen_ok
abbrev A3:=@Option.some_ne_none
abbrev A4:=@List.getD_eq_getElem?_getD
abbrev B1:=@Bool.and_eq_true
abbrev B2:=@Go.Sem.run_bind
abbrev B3:=@List.getElem?_eq_some_iff
abbrev B4:=@cond_true
abbrev B5:=@decide_true
abbrev CU:=@Go.Sem.run_pure
abbrev C1:=@Nat.le_refl
abbrev C2:=@Array.getD_eq_getD_getElem?
abbrev D1:=@List.getElem?_cons_zero
abbrev Ea:=@List.getElem?_append_left
abbrev EQ:=@List.getElem?_cons_succ
abbrev E1:=@List.getElem?_eq_getElem
abbrev E2:=@Bool.false_eq_true
abbrev E3:=@List.getElem?_append_right
abbrev E4:=@List.getElem?_eq_none
abbrev E5:=@Prod.mk.injEq
abbrev E9:=@cond_false
abbrev F0:=@List.eq_nil_of_length_eq_zero
abbrev F1:=@decide_eq_false
abbrev F2:=@List.length_cons
abbrev F3:=@Nat.mul_le_mul_right
abbrev F4:=@decide_eq_true_eq
abbrev F5:=@List.mem_cons
abbrev F6:=@decide_eq_true
abbrev F7:=@Nat.eq_of_beq_eq_true
abbrev F8:=@Nat.lt_or_ge
abbrev K1:=@Bool.or_eq_false_iff
abbrev K3:=@Array.getElem?_toList
abbrev L1:=@List.length_append
abbrev L2:=@decide_eq_false_iff_not
abbrev Nn:=@List.mem_of_getElem?
abbrev P8:=@List.getElem?_map
abbrev R1:=@Bool.false_or
abbrev R2:=@Nat.zero_add
abbrev Sf:=@List.getElem?_toArray
abbrev SX:=@List.getElem?_drop
abbrev S1:=@Nat.add_zero
abbrev Ts:=@List.mem_singleton
abbrev XA:=@Nat.le_of_ble_eq_true
abbrev XB:=@List.getElem?_take
abbrev X0:=@List.getElem_of_mem
abbrev X1:=@Array.getElem?_setIfInBounds_ne
abbrev X7:=@Bool.true_or
abbrev X8:=@Option.map_some
abbrev X9:=@Bool.not_eq_true'
abbrev ce:=@Nat.add_mul
abbrev eq:=@List.mem_append
abbrev ez:=@if_false
abbrev fc:=@Go.run_newObj
abbrev fg:=@Bool.not_false
abbrev fk:=@Array.getElem?_append_left
abbrev ge:=@Nat.lt_of_lt_of_le
abbrev gg:=@Bool.not_true
abbrev g0:=@Bool.or_eq_true
abbrev g6:=@Bool.and_true
abbrev hH:=@List.getElem_mem
abbrev hI:=@List.getElem?_range
abbrev hP:=@Nat.zero_le
abbrev hQ:=@List.length_singleton
abbrev hS:=@Nat.add_assoc
abbrev hX:=@Bool.true_and
abbrev hY:=@Nat.le_trans
abbrev hZ:=@of_decide_eq_true
abbrev ie:=@Go.ByteArray.toList_eq
abbrev iv:=@Nat.not_lt_zero
abbrev i0:=@List.append_nil
abbrev i6:=@List.map_cons
abbrev i7:=@Nat.add_sub_cancel_left
abbrev i8:=@List.filter_cons_of_neg
abbrev i9:=@List.mem_filter
abbrev j0:=@decide_false
abbrev j1:=@Option.getD_some
inductive T (α:Type) where
 |nil
 |node (v:Option α) (l r:T α)
 deriving Inhabited
def T.get {j:Type}:T j→Nat→Option j
 |.nil,_=>none
 |.node v l r,i=>
  match Nat.beq i 0 with
  |true=>v
  |false=>match Nat.beq (i%2) 1 with
   |true=>l.get (i/2)
   |false=>r.get (i/2-1)
def T.setF {j:Type}:Nat→T j→Nat→Option j→T j
 |0,t,_,_=>t
 |f+1,.nil,i,x=>
  match Nat.beq i 0 with
  |true=>.node x .nil .nil
  |false=>match Nat.beq (i%2) 1 with
   |true=>.node none (T.setF f .nil (i/2) x) .nil
   |false=>.node none .nil (T.setF f .nil (i/2-1) x)
 |f+1,.node v l r,i,x=>
  match Nat.beq i 0 with
  |true=>.node x l r
  |false=>match Nat.beq (i%2) 1 with
   |true=>.node v (T.setF f l (i/2) x) r
   |false=>.node v l (T.setF f r (i/2-1) x)
def T.set {j:Type} (t:T j) (i:Nat) (x:j):T j:=T.setF (i+1) t i (some x)
def T.del {j:Type} (t:T j) (i:Nat):T j:=T.setF (i+1) t i none
def T.ofListFrom {j:Type}:List j→Nat→T j→T j
 |[],_,t=>t
 |x::r,i,t=>T.ofListFrom r (i+1) (t.set i x)
def T.ofList {j:Type} (l:List j):T j:=T.ofListFrom l 0 .nil
def T.range {j:Type} (t:T j) (i:Nat):Nat→Option (List j)
 |0=>some []
 |n+1=>match t.get i with
  |some x=>match t.range (i+1) n with
   |some r=>some (x::r)
   |none=>none
  |none=>none
inductive D where
 |bool (b:Bool)
 |int (n:Int)
 |str (s:ByteArray)
 |slc (nl:Bool) (rows:List D)
 |row (cells:List D)
 deriving Inhabited
def D.toInt:D→Int
 |.int n=>n
 |_=>0
def D.toBool:D→Bool
 |.bool b=>b
 |_=>false
def D.toStr:D→ByteArray
 |.str s=>s
 |_=>.empty
def D.rows:D→List D
 |.slc _ l=>l
 |_=>[]
def D.cells:D→List D
 |.row l=>l
 |_=>[]
def D.isNil:D→Bool
 |.slc b _=>b
 |_=>false
inductive Kd where
 |int (k:IntKind)
 |bool
 |str
 |slice (e:TypeId)
 deriving DecidableEq,Inhabited
inductive SE where
 |c (n:Int)
 |var (i:Nat)
 |lenS (a:SE)
 |lenL (a:SE)
 |arith (op:BinOp) (k:IntKind) (a b:SE)
 |conv (k:IntKind) (a:SE)
 |lss (a b:SE)
 |eql (a b:SE)
 |eqS (a:SE) (l b:Nat)
 |eqSS (a b:SE)
 |isNil (a:SE)
 |bc (b:Bool)
 |neg (a:SE)
 |and (a b:SE)
 |nilIs (a b:SE)
 |strc (l b:Nat)
 |strAt (a i:SE)
 |strCat (a b:SE)
 |strSub (a lo hi:SE)
 |cell (a i:SE) (j:Nat)
 |sel (a:SE) (j:Nat)
 |nilL
 |emptyL
 |snoc (a r:SE)
 |upd (a i:SE) (j:Nat) (x:SE)
 |rep (n r:SE)
 |cat (a b:SE)
 |sub (a lo hi:SE)
 |rnil
 |rcons (x r:SE)
 |app (f:Nat) (x:SE)
 |bytes (a:SE)
 |ofBytes (a:SE)
 |mIdx (ks:List Kd) (a k:SE)
 |rmv (a i:SE)
 deriving Inhabited
abbrev SB:=SE
inductive AV where
 |top
 |bool (b:Bool)
 |int (k:IntKind) (n:Int)
 |str (len bits:Nat)
 |ptr0
 |ptr (b off:Nat)
 |slice0
 |slice (b off len es:Nat)
 |map0
 |map (b:Nat)
 |func (fn:Fn) (first captured:List AV)
 |nilFunc
 |iface (t:TypeId) (v:AV)
 |nilIface
 |agg (cells:List AV)
 |tuple (vs:List AV)
 |sb (pos:Bool) (e:SB)
 |si (k:IntKind) (e:SE)
 |ss (x:SE)
 |dat (e:TypeId) (x:SE)
 |dptr (e:TypeId) (x i:SE) (off:Nat)
 |asl (b es:Nat) (n nl:SE)
 |eslc (nl:SE)
 |aptr (b es:Nat) (i:SE) (off:Nat)
 |nmap (b:Nat) (nl:SE)
 deriving Inhabited
def AV.undef:AV:=.tuple []
def AL:List UInt8→Nat
 |[]=>0
 |b::r=>b.toNat+256*AL r
def AV.isTop:AV→Bool
 |.top=>true
 |_=>false
def AV.cells:AV→List AV
 |.agg l=>l
 |v=>[v]
def A8:Value→Option AV
 |.bool b=>some (.bool b)
 |.int k n=>some (.int k n)
 |.string s=>some (.str s.data.toList.length (AL s.data.toList))
 |.pointer none=>some .ptr0
 |.slice none 0 0=>some .slice0
 |.map none=>some .map0
 |.nilFunc=>some .nilFunc
 |.nilIface=>some .nilIface
 |_=>none
def Dv:List Value→Option (List AV)
 |[]=>some []
 |v::r=>match A8 v,Dv r with
  |some a,some b=>some (a::b)
  |_,_=>none
def ofValue:Value→Option AV
 |.agg c=>match Dv c.toList with
  |some l=>some (.agg l)
  |none=>none
 |v=>A8 v
structure AD where
 fn:Option Fn
 coll:Nat
 captured:List AV
 args:List AV
 deriving Inhabited
structure A0 where
 key:AV
 val:AV
 born:Nat
 deriving Inhabited
inductive Aj where
 |cells (n:Nat) (c:T AV)
 |arr (e:TypeId) (x:SE)
 |map (es:List A0) (clock:Nat)
 |dmap (kt vt:TypeId) (x:SE)
 |loop (st:LoopState) (pending:Option Code) (fn:FuncId) (nt:Nat) (tmps:T AV) (params:List Tmp) (assign body:Code) (defers:Nat)
 |deferred (ds:Option (List AD))
 |mapIter (m:Option Nat) (since:Nat) (seen:List Nat) (last:Nat)
 deriving Inhabited
structure Aa where
 blk:T Aj
 nx:Nat
 log:List Nat
 deriving Inhabited
inductive Jf where
 |run
 |ret
 |panic (Jp:List (AV×Bool))
 deriving Inhabited
inductive AI where
 |code (c:Code)
 |inBlock (id:Nat)
 |inLoop (body:Code)
 |inScope (body:Code)
 |ops (all:Array Oper) (rest:List Oper)
 |inRange (l:Nat)
 |endRange (l:Nat)
 |beginRound
 |dead
 |rest
 deriving Inhabited
structure AF where
 fn:FuncId
 nt:Nat
 tmps:T AV
 todo:List AI
 defers:List AD
 mode:Jf
 kind:CallKind
 round:Option Nat
 deriving Inhabited
structure AS where
 fr:AF
 cs:List AF
 h:Aa
 deriving Inhabited
structure Orc where
 f:FuncId
 args:List AV
 part:T Aj
 nx:Nat
 ok:Bool
 v:AV
 out:T Aj
 nx':Nat
 wr:List Nat
 deriving Inhabited
structure Sm where
 f:FuncId
 nv:Nat
 args:List AV
 pre:List (Option Aj)
 facts:List (SB×Bool)
 res:AV
 post:List (Option Aj)
 deriving Inhabited
structure Env where
 P:Program
 ty:T TypeInfo
 fn:T Func
 orc:List Orc
 sms:List Sm
 deriving Inhabited
def Env.ofS (P:Program) (l:List Orc) (m:List Sm):Env:={P,ty:=.ofList P.types.toList,fn:=.ofList P.funcs.toList,orc:=l,sms:=m}
def Env.ofO (P:Program) (l:List Orc):Env:=Env.ofS P l []
def Env.of (P:Program):Env:=Env.ofO P []
inductive Ask where
 |enter (f:FuncId) (args:List AV)
 |round (l:Nat) (args:List AV)
 deriving Inhabited
def SE.same:SE→SE→Bool
 |.c n,.c m=>n==m
 |.var i,.var j=>Nat.beq i j
 |.lenS a,.lenS b=>a.same b
 |.lenL a,.lenL b=>a.same b
 |.arith op k a b,.arith ab I r C=>decide (op=ab)&&decide (k=I)&&a.same r&&b.same C
 |.conv k a,.conv I r=>decide (k=I)&&a.same r
 |.lss a b,.lss r C=>a.same r&&b.same C
 |.eql a b,.eql r C=>a.same r&&b.same C
 |.eqS a l b,.eqS r l' C=>a.same r&&Nat.beq l l'&&Nat.beq b C
 |.eqSS a b,.eqSS r C=>a.same r&&b.same C
 |.isNil a,.isNil b=>a.same b
 |.bc a,.bc b=>a==b
 |.neg a,.neg b=>a.same b
 |.and a b,.and r C=>a.same r&&b.same C
 |.nilIs a b,.nilIs r C=>a.same r&&b.same C
 |.strc l b,.strc l' C=>Nat.beq l l'&&Nat.beq b C
 |.strAt a b,.strAt r C=>a.same r&&b.same C
 |.strCat a b,.strCat r C=>a.same r&&b.same C
 |.strSub a b x,.strSub r C J=>a.same r&&b.same C&&x.same J
 |.cell a b j,.cell r C j'=>a.same r&&b.same C&&Nat.beq j j'
 |.sel a j,.sel r j'=>a.same r&&Nat.beq j j'
 |.nilL,.nilL=>true
 |.emptyL,.emptyL=>true
 |.snoc a b,.snoc r C=>a.same r&&b.same C
 |.upd a b j x,.upd r C j' J=>a.same r&&b.same C&&Nat.beq j j'&&x.same J
 |.rep a b,.rep r C=>a.same r&&b.same C
 |.cat a b,.cat r C=>a.same r&&b.same C
 |.sub a b x,.sub r C J=>a.same r&&b.same C&&x.same J
 |.rnil,.rnil=>true
 |.rcons a b,.rcons r C=>a.same r&&b.same C
 |.app f a,.app f' r=>Nat.beq f f'&&a.same r
 |.bytes a,.bytes b=>a.same b
 |.ofBytes a,.ofBytes b=>a.same b
 |.mIdx ks a k,.mIdx ar r I=>decide (ks=ar)&&a.same r&&k.same I
 |.rmv a i,.rmv r i'=>a.same r&&i.same i'
 |_,_=>false
def jv:Fn→Fn→Bool
 |.func f,.func g=>Nat.beq f g
 |_,_=>false
mutual
def BO:AV→AV→Bool
 |.top,.top=>true
 |.bool a,.bool b=>a==b
 |.int k a,.int i b=>decide (k=i)&&a==b
 |.str l a,.str h b=>Nat.beq l h&&Nat.beq a b
 |.ptr0,.ptr0=>true
 |.ptr b o,.ptr g j=>Nat.beq b g&&Nat.beq o j
 |.slice0,.slice0=>true
 |.slice b o n e,.slice g j q d=>Nat.beq b g&&Nat.beq o j&&Nat.beq n q&&Nat.beq e d
 |.map0,.map0=>true
 |.map b,.map g=>Nat.beq b g
 |.func fn f c,.func r x y=>jv fn r&&If f x&&If c y
 |.nilFunc,.nilFunc=>true
 |.iface t v,.iface s z=>Nat.beq t s&&BO v z
 |.nilIface,.nilIface=>true
 |.agg l,.agg h=>If l h
 |.tuple l,.tuple h=>If l h
 |.sb p e,.sb A d=>p==A&&e.same d
 |.si k e,.si i d=>decide (k=i)&&e.same d
 |.ss e,.ss d=>e.same d
 |.dat t e,.dat s d=>Nat.beq t s&&e.same d
 |.asl b B n nl,.asl g u q w=>Nat.beq b g&&Nat.beq B u&&n.same q&&nl.same w
 |.eslc e,.eslc d=>e.same d
 |.nmap b e,.nmap g d=>Nat.beq b g&&e.same d
 |_,_=>false
termination_by structural a=>a
def If:List AV→List AV→Bool
 |[],[]=>true
 |a::l,b::m=>BO a b&&If l m
 |_,_=>false
termination_by structural l=>l
end
def eqO {c:Type} (d:c→c→Bool):Option c→Option c→Bool
 |none,none=>true
 |some a,some b=>d a b
 |_,_=>false
def eqT {a:Type} (b:a→a→Bool):T a→T a→Bool
 |.nil,.nil=>true
 |.node v l r,.node c d e=>eqO b v c&&eqT b l d&&eqT b r e
 |_,_=>false
def Xs:List A0→List A0→Bool
 |[],[]=>true
 |a::l,b::m=>BO a.key b.key&&BO a.val b.val&&Nat.beq a.born b.born&&Xs l m
 |_,_=>false
def VJ:Aj→Aj→Bool
 |.cells n c,.cells m d=>Nat.beq n m&&eqT BO c d
 |.map g k,.map a b=>Nat.beq k b&&Xs g a
 |.arr e x,.arr h f=>Nat.beq e h&&x.same f
 |.dmap k v x,.dmap b i f=>Nat.beq k b&&Nat.beq v i&&x.same f
 |_,_=>false
def T8:T Aj→T Aj→Bool
 |.nil,_=>true
 |.node v l r,.node a b c=>(match v with
   |none=>true
   |some x=>(match a with
    |some y=>VJ x y
    |none=>false))&&T8 l b&&T8 r c
 |.node _ _ _,.nil=>false
def MC (b:Nat):List Nat→Bool
 |[]=>false
 |c::r=>Nat.beq b c||MC b r
def eJ (nx:Nat) (wr:List Nat):List Nat→Bool
 |[]=>true
 |b::r=>(Nat.ble nx b||MC b wr)&&eJ nx wr r
def lf {a:Type} (x:a):T a:=.node (some x) .nil .nil
def nd {a:Type} (x:a) (l r:T a):T a:=.node (some x) l r
def no {a:Type} (l r:T a):T a:=.node none l r
def Env.desc (E:Env) (t:TypeId):Option TypeDesc:=
 match E.ty.get t with
 |some i=>match i.desc with
  |.named _ u=>match E.ty.get u with
   |some j=>some j.desc
   |none=>none
  |d=>some d
 |none=>none
def Env.size (E:Env) (t:TypeId):Nat:=match E.ty.get t with|some i=>i.size|none=>0
def Env.szIs (E:Env) (t:TypeId) (n:Nat):Bool:=match E.ty.get t with|some i=>Nat.beq i.size n|none=>false
def Env.has (E:Env) (t:TypeId):Bool:=match E.ty.get t with|some _=>true|none=>false
def Env.zero (E:Env) (t:TypeId):Option AV:=
 match E.ty.get t with
 |some i=>match i.zero with
  |some v=>ofValue v
  |none=>none
 |none=>none
def Fh (b:TypeId→Nat→Bool) (rec_:TypeId→Option (List Kd)):List Field→Nat→Option (List Kd)
 |[],_=>some []
 |f::r,off=>match Nat.beq f.offset off,rec_ f.type with
  |true,some a=>match b f.type a.length,Fh b rec_ r (off+a.length) with
   |true,some l=>some (a++l)
   |_,_=>none
  |_,_=>none
def QT:Nat→List Kd→List Kd
 |0,_=>[]
 |n+1,a=>a++QT n a
def J5 (b:Bool) (c:TypeId→Nat→Bool) (rec_:TypeId→Option (List Kd)):Option TypeDesc→Option (List Kd)
 |some (.int k)=>some [.int k]
 |some .bool=>some [.bool]
 |some .string=>some [.str]
 |some (.slice e)=>some [.slice e]
 |some (.struct d)=>Fh c rec_ d.toList 0
 |some (.array n e)=>match b,rec_ e with
  |true,some a=>match Nat.blt (n*a.length) 200 with
   |true=>some (QT n a)
   |false=>none
  |_,_=>none
 |_=>none
def Et (b:Bool) (desc:TypeId→Option TypeDesc) (a:TypeId→Nat→Bool):Nat→TypeId→Option (List Kd)
 |0,_=>none
 |n+1,t=>match J5 b a (Et b desc a n) (desc t) with
  |some l=>match a t l.length with
   |true=>some l
   |false=>none
  |none=>none
def Env.kinds (E:Env) (t:TypeId):Option (List Kd):=Et true E.desc E.szIs 20 t
def Env.kinds0 (E:Env) (t:TypeId):Option (List Kd):=Et false E.desc E.szIs 20 t
inductive Res where
 |val (v:AV) (h:Aa)
 |enter (f:FuncId) (args:List AV) (h:Aa)
 |round (l:Nat) (args:List AV) (h:Aa)
 |defer (d:AD) (h:Aa)
 |recover (h:Aa)
 |panic (v:AV) (h:Aa)
 |bad (why:String)
 deriving Inhabited
def Al (tmps:T AV):Operand→AV
 |.tmp t=>match tmps.get t with
  |some v=>v
  |none=>.top
 |.const v=>match ofValue v with
  |some a=>a
  |none=>.top
 |.func f=>.func (.func f) [] []
 |.global _=>.top
def Aa.new (h:Aa) (b:Aj):Aa:={blk:=h.blk.set h.nx b,nx:=h.nx+1,log:=h.log}
def Aa.put (h:Aa) (r:Nat) (b:Aj):Aa:={blk:=h.blk.set r b,nx:=h.nx,log:=r::h.log}
def Aa.strike (h:Aa) (r:Nat):Aa:={blk:=h.blk.del r,nx:=h.nx,log:=r::h.log}
def Cr (h:Aa) (l:List AV):Aa:=h.new (.cells l.length (.ofList l))
def Ek (h:Aa) (b off n:Nat):Option (List AV):=
 match h.blk.get b with
 |some (.cells a c)=>match Nat.ble (off+n) a with
  |true=>c.range off n
  |false=>none
 |_=>none
def FC:T AV→Nat→List AV→T AV
 |c,_,[]=>c
 |c,off,v::r=>FC (c.set off v) (off+1) r
def AV.one:AV→Bool
 |.agg _=>false
 |.tuple _=>false
 |.top=>false
 |_=>true
def E8:List AV→Bool
 |[]=>true
 |v::r=>match v.one with
  |true=>E8 r
  |false=>false
def storeN (h:Aa) (b off:Nat) (l:List AV):Option Aa:=
 match h.blk.get b with
 |some (.cells n c)=>
  match Nat.ble (off+l.length) n&&E8 l with
  |true=>some (h.put b (.cells n (FC c off l)))
  |false=>none
 |_=>none
def IP:TypeDesc→Bool
 |.struct _=>true
 |.array _ _=>true
 |_=>false
def AZ:List AV→Nat→List AV→List AV
 |l,_,[]=>l
 |[],_,_=>[]
 |x::l,0,v::r=>v::AZ l 0 r
 |x::l,off+1,r=>x::AZ l off r
def FV (a:Nat→Option (Nat×Nat)):List AV→List (Nat×AV)→Option (List AV)
 |cells,[]=>some cells
 |cells,(i,v)::rest=>
  match a i with
  |none=>none
  |some (off,size)=>
   match Nat.beq v.cells.length size&&Nat.ble (off+size) cells.length && !v.isTop with
   |true=>FV a (AZ cells off v.cells) rest
   |false=>none
def DH (z:List AV):Nat→List AV
 |0=>[]
 |n+1=>z++DH z n
def D0 (E:Env) (t:TypeId) (cs:List AV) (off:Nat):Option AV:=
 match E.desc t with
 |some d=>match IP d with
  |true=>some (.agg ((cs.drop off).take (E.size t)))
  |false=>cs[off]?
 |none=>none
def strEq (l b a c:Nat):Bool:=Nat.beq l a&&Nat.beq b c
def ED:Nat→Nat→Nat→Nat→Nat→Bool
 |0,_,_,_,_=>false
 |f+1,e,a,lb,b=>
  match lb with
  |0=>false
  |c+1=>match e with
   |0=>true
   |d+1=>
    match Nat.blt (a%256) (b%256) with
    |true=>true
    |false=>match Nat.beq (a%256) (b%256) with
     |true=>ED f d (a/256) c (b/256)
     |false=>false
def eqFields (E:Env) (c:TypeId→AV→AV→Option Bool) (d e:List AV):List Field→Option Bool
 |[]=>some true
 |f::r=>
  match f.name == "_" with
  |true=>none
  |false=>
   match D0 E f.type d f.offset,D0 E f.type e f.offset with
   |some a,some b=>match c f.type a b with
    |some true=>eqFields E c d e r
    |o=>o
   |_,_=>none
def Ji (E:Env) (c:TypeId→AV→AV→Option Bool) (e:TypeId) (n:Nat) (d f:List AV):Nat→Nat→Option Bool
 |0,_=>some true
 |k+1,i=>
  match D0 E e d (i*n),D0 E e f (i*n) with
  |some a,some b=>match c e a b with
   |some true=>Ji E c e n d f k (i+1)
   |o=>o
  |_,_=>none
def aeq (E:Env):Nat→TypeId→AV→AV→Option Bool
 |0,_,_,_=>none
 |d+1,t,x,y=>
  match E.desc t,x,y with
  |some .bool,.bool a,.bool b=>some (a==b)
  |some (.int _),.int k a,.int k' b=>match decide (k=k') with|true=>some (a==b)|false=>none
  |some .string,.str l a,.str h b=>some (strEq l a h b)
  |some (.pointer _),.ptr0,.ptr0=>some true
  |some (.pointer _),.ptr0,.ptr _ _=>some false
  |some (.pointer _),.ptr _ _,.ptr0=>some false
  |some (.interface _),.nilIface,.nilIface=>some true
  |some (.interface _),.nilIface,.iface _ _=>some false
  |some (.interface _),.iface _ _,.nilIface=>some false
  |some (.interface _),.iface tx j,.iface ty m=>
   match Nat.beq tx ty with
   |false=>some false
   |true=>match E.ty.get tx with
    |some i=>match i.comparable with
     |true=>aeq E d tx j m
     |false=>none
    |none=>none
  |some (.struct c),.agg f,.agg g=>match E.P.stoodInHeld t with
   |true=>none
   |false=>eqFields E (aeq E d) f g c.toList
  |some (.array len e),.agg f,.agg g=>match E.has e with
   |true=>Ji E (aeq E d) e (E.size e) f g len 0
   |false=>none
  |some (.slice _),.slice0,.slice0=>some true
  |some (.slice _),.slice0,.slice ..=>some false
  |some (.slice _),.slice ..,.slice0=>some false
  |some (.map _ _),.map0,.map0=>some true
  |some (.map _ _),.map0,.map _=>some false
  |some (.map _ _),.map _,.map0=>some false
  |some (.func ..),.nilFunc,.nilFunc=>some true
  |some (.func ..),.nilFunc,.func ..=>some false
  |some (.func ..),.func ..,.nilFunc=>some false
  |_,_,_=>none
def bits (k:IntKind) (x:Int):Nat:=(x%(2^k.bits:Int)).toNat
def D7 (c:BinOp) (k:IntKind) (a b:Int):Option AV:=
 match c with
 |.add=>some (.int k (k.wrap (a+b)))
 |.sub=>some (.int k (k.wrap (a-b)))
 |.mul=>some (.int k (k.wrap (a*b)))
 |.quo=>match b==0 with|true=>none|false=>some (.int k (k.wrap (a.tdiv b)))
 |.rem=>match b==0 with|true=>none|false=>some (.int k (a.tmod b))
 |.and=>some (.int k (k.wrap (Nat.land (bits k a) (bits k b):Nat)))
 |.or=>some (.int k (k.wrap (Nat.lor (bits k a) (bits k b):Nat)))
 |.xor=>some (.int k (k.wrap (Nat.xor (bits k a) (bits k b):Nat)))
 |.eql=>some (.bool (a==b))
 |.neq=>some (.bool (a != b))
 |.lss=>some (.bool (a<b))
 |.leq=>some (.bool (a≤b))
 |.gtr=>some (.bool (a>b))
 |.geq=>some (.bool (a≥b))
 |_=>none
structure Val where
 d:Nat→D
 fn:Nat→D→D
def DO:Nat→Nat→List UInt8
 |0,_=>[]
 |n+1,b=>UInt8.ofNat (b%256)::DO n (b/256)
def D.strEq (a b:D):Bool:=AE.strEq a.toStr.data.toList.length (AL a.toStr.data.toList) b.toStr.data.toList.length (AL b.toStr.data.toList)
def CC:List Kd→List D→List D→Bool
 |[],_,_=>true
 |.int _::ks,a::l,b::m=>(a.toInt==b.toInt)&&CC ks l m
 |.bool::ks,a::l,b::m=>(a.toBool==b.toBool)&&CC ks l m
 |.str::ks,a::l,b::m=>D.strEq a b&&CC ks l m
 |_,_,_=>false
def Ev (ks:List Kd) (k:List D):List D→Nat→Int
 |[],_=>-1
 |r::a,i=>match CC ks r.cells k with
  |true=>i
  |false=>Ev ks k a (i+1)
def Ab (V:Val):SE→D
 |.c n=>.int n
 |.var i=>V.d i
 |.lenS a=>.int ((Ab V a).toStr.data.toList.length:Nat)
 |.lenL a=>.int ((Ab V a).rows.length:Nat)
 |.arith e k a b=>.int (match D7 e k (Ab V a).toInt (Ab V b).toInt with
  |some (.int _ n)=>n
  |_=>0)
 |.conv k a=>.int (k.wrap (Ab V a).toInt)
 |.lss a b=>.bool (decide ((Ab V a).toInt<(Ab V b).toInt))
 |.eql a b=>.bool ((Ab V a).toInt==(Ab V b).toInt)
 |.eqS a l b=>.bool (strEq (Ab V a).toStr.data.toList.length (AL (Ab V a).toStr.data.toList) l b)
 |.eqSS a b=>.bool (D.strEq (Ab V a) (Ab V b))
 |.isNil a=>.bool (Ab V a).isNil
 |.bc b=>.bool b
 |.neg a=>.bool (!(Ab V a).toBool)
 |.and a b=>.bool ((Ab V a).toBool&&(Ab V b).toBool)
 |.nilIs a b=>.slc (Ab V b).toBool (Ab V a).rows
 |.strc l b=>.str ⟨(DO l b).toArray⟩
 |.strAt a i=>.int (((Ab V a).toStr.data.toList[(Ab V i).toInt.toNat]?).getD 0).toNat
 |.strCat a b=>.str ((Ab V a).toStr++(Ab V b).toStr)
 |.strSub a lo hi=>.str ((Ab V a).toStr.extract (Ab V lo).toInt.toNat (Ab V hi).toInt.toNat)
 |.cell a i j=>((Ab V a).rows.getD (Ab V i).toInt.toNat default).cells.getD j default
 |.sel a j=>(Ab V a).cells.getD j default
 |.nilL=>.slc true []
 |.emptyL=>.slc false []
 |.snoc a r=>.slc false ((Ab V a).rows++[Ab V r])
 |.upd a i j x=>.slc (Ab V a).isNil ((Ab V a).rows.modify (Ab V i).toInt.toNat fun r=>.row (r.cells.set j (Ab V x)))
 |.rep n r=>.slc false (List.replicate (Ab V n).toInt.toNat (Ab V r))
 |.cat a b=>.slc ((Ab V a).isNil&&(Ab V b).rows.isEmpty) ((Ab V a).rows++(Ab V b).rows)
 |.sub a lo hi=>.slc (Ab V a).isNil (((Ab V a).rows.drop (Ab V lo).toInt.toNat).take ((Ab V hi).toInt.toNat-(Ab V lo).toInt.toNat))
 |.rnil=>.row []
 |.rcons x r=>.row (Ab V x::(Ab V r).cells)
 |.app f x=>V.fn f (Ab V x)
 |.bytes a=>.slc false ((Ab V a).toStr.data.toList.map fun b=>.row [.int b.toNat])
 |.ofBytes a=>.str ⟨((Ab V a).rows.map fun r=>UInt8.ofNat (r.cells.getD 0 default).toInt.toNat).toArray⟩
 |.mIdx ks a k=>.int (Ev ks (Ab V k).cells (Ab V a).rows 0)
 |.rmv a i=>.slc (Ab V a).isNil ((Ab V a).rows.eraseIdx (Ab V i).toInt.toNat)
def Af (V:Val) (e:SE):Int:=(Ab V e).toInt
def Ah (V:Val) (e:SB):Bool:=(Ab V e).toBool
def Ba (V:Val) (e:SE):ByteArray:=(Ab V e).toStr
class Facts where
 facts:List (SB×Bool)
class Vals where
 V:Val
 K:TypeId→Option (List Kd)
 R:List Item
 hR:∀d b r a k,R≠.call d b r a::k
class Unk extends Facts,Vals where
 ok:∀e b,(e,b)∈facts→Ah V e=b
def R6:Option Int→Option Int→Option Int
 |some a,some b=>match decide (a≤b) with|true=>some b|false=>some a
 |some a,none=>some a
 |none,b=>b
def XH:Option Int→Option Int→Option Int
 |some a,some b=>match decide (a≤b) with|true=>some a|false=>some b
 |some a,none=>some a
 |none,b=>b
def UL (e:SE):SB×Bool→Option Int
 | (.lss a (.c m),false)=>match a.same e with|true=>some m|false=>none
 | (.lss (.c m) a,true)=>match a.same e with|true=>some (m+1)|false=>none
 | (.eql a (.c m),true)=>match a.same e with|true=>some m|false=>none
 |_=>none
def Tj (e:SE):SB×Bool→Option Int
 | (.lss a (.c m),true)=>match a.same e with|true=>some (m-1)|false=>none
 | (.lss (.c m) a,false)=>match a.same e with|true=>some m|false=>none
 | (.eql a (.c m),true)=>match a.same e with|true=>some m|false=>none
 |_=>none
def Dg (e:SE):List (SB×Bool)→Option Int
 |[]=>none
 |p::r=>R6 (UL e p) (Dg e r)
def De (e:SE):List (SB×Bool)→Option Int
 |[]=>none
 |p::r=>XH (Tj e p) (De e r)
def CZ:SE→SE
 |.upd a _ _ _=>CZ a
 |.nilIs a _=>CZ a
 |x=>x
def LQ (n y:SE):Bool:=match n with
 |.lenL x=>(CZ x).same (CZ y)
 |_=>false
def HC:SE→Option Nat
 |.nilL=>some 0
 |.emptyL=>some 0
 |.snoc a _=>match HC a with
  |some n=>some (n+1)
  |none=>none
 |.nilIs a _=>HC a
 |_=>none
def Qx (k:IntKind) (lo hi:Option Int):Bool:=match lo,hi with
 |some l,some h=>decide (k.min≤l)&&decide (h≤k.max)
 |_,_=>false
def bnd (F:List (SB×Bool)):SE→Option Int×Option Int
 |.c n=>(some n,some n)
 |.lenS i=>(R6 (some 0) (Dg (.lenS i) F),De (.lenS i) F)
 |.lenL i=>match HC i with
  |some n=>(some (n:Int),some (n:Int))
  |none=>(R6 (some 0) (Dg (.lenL i) F),De (.lenL i) F)
 |.conv k a=>match bnd F a with
  | (lo,hi)=>match Qx k lo hi with
   |true=>(R6 lo (Dg (.conv k a) F),XH hi (De (.conv k a) F))
   |false=>(R6 (some k.min) (Dg (.conv k a) F),XH (some k.max) (De (.conv k a) F))
 |.arith d k a b=>match d,b with
  |.rem,.c m=>match bnd F a with
   | (some l,_)=>match decide (0≤l)&&decide (0<m) with
    |true=>(R6 (some 0) (Dg (.arith d k a b) F),XH (some (m-1)) (De (.arith d k a b) F))
    |false=>(Dg (.arith d k a b) F,De (.arith d k a b) F)
   |_=>(Dg (.arith d k a b) F,De (.arith d k a b) F)
  |_,_=>(Dg (.arith d k a b) F,De (.arith d k a b) F)
 |e=>(Dg e F,De e F)
def JC (e:SB):List (SB×Bool)→Option Bool
 |[]=>none
 | (x,b)::r=>match e.same x with
  |true=>some b
  |false=>JC e r
def ltO:Option Int→Option Int→Bool
 |some a,some b=>decide (a<b)
 |_,_=>false
def leO:Option Int→Option Int→Bool
 |some a,some b=>decide (a≤b)
 |_,_=>false
def P7 (F:List (SB×Bool)) (e:SB):Option Bool:=
 match e with
  |.bc b=>some b
  |.lss a b=>match ltO (bnd F a).2 (bnd F b).1 with
   |true=>some true
   |false=>match leO (bnd F b).2 (bnd F a).1 with
    |true=>some false
    |false=>none
  |.eql a b=>match ltO (bnd F a).2 (bnd F b).1||ltO (bnd F b).2 (bnd F a).1 with
   |true=>some false
   |false=>match a.same b with
    |true=>some true
    |false=>none
  |_=>none
def Ef (F:List (SB×Bool)):SB→Option Bool
 |.neg a=>match JC a F with
  |some b=>some (!b)
  |none=>match Ef F a with
   |some b=>some (!b)
   |none=>none
 |.and a b=>match (match JC a F with
   |some c=>some c
   |none=>Ef F a) with
  |some false=>some false
  |some true=>(match JC b F with
   |some c=>some c
   |none=>Ef F b)
  |none=>match (match JC b F with
   |some c=>some c
   |none=>Ef F b) with
   |some false=>some false
   |_=>none
 |e=>P7 F e
def AW (F:List (SB×Bool)) (e:SB):Option Bool:=
 match JC e F with
 |some b=>some b
 |none=>Ef F e
def mkB [U:Facts] (pos:Bool) (e:SB):AV:=
 match AW U.facts e with
 |some b=>.bool (b==pos)
 |none=>.sb pos e
def mkI [U:Facts] (k:IntKind) (e:SE):AV:=
 match bnd U.facts e with
 | (some l,some h)=>match l==h with
  |true=>.int k l
  |false=>.si k e
 |_=>.si k e
def toI:AV→Option (IntKind×SE)
 |.int k n=>some (k,.c n)
 |.si k e=>some (k,e)
 |_=>none
def f7:SE→Bool
 |.c n=>!(n==0)
 |_=>false
def Wj [U:Facts] (b:SE):Bool:=f7 b||(match AW U.facts (.eql b (.c 0)) with
 |some false=>true
 |_=>false)
def jA [Facts] (c:BinOp) (k:IntKind) (a b:SE):Option AV:=
 match c with
 |.add=>some (mkI k (.arith .add k a b))
 |.sub=>some (mkI k (.arith .sub k a b))
 |.mul=>some (mkI k (.arith .mul k a b))
 |.quo=>match Wj b with|true=>some (mkI k (.arith .quo k a b))|false=>none
 |.rem=>match Wj b with|true=>some (mkI k (.arith .rem k a b))|false=>none
 |.eql=>some (mkB true (.eql a b))
 |.neq=>some (mkB false (.eql a b))
 |.lss=>some (mkB true (.lss a b))
 |.leq=>some (mkB false (.lss b a))
 |.gtr=>some (mkB true (.lss b a))
 |.geq=>some (mkB false (.lss a b))
 |_=>none
def ZS [Facts] (a:BinOp) (e:SB):Option AV:=
 match a with
 |.eql=>some (mkB true e)
 |.neq=>some (mkB false e)
 |_=>none
def iK [Facts] (d:BinOp) (x y:AV):Option AV:=
 match x,y with
 |.ss a,.ss c=>ZS d (.eqSS a c)
 |.ss a,.str l b=>ZS d (.eqS a l b)
 |.str l b,.ss a=>ZS d (.eqS a l b)
 |_,_=>match toI x,toI y with
  |some (k,a),some (e,b)=>match decide (k=e) with
   |true=>jA d k a b
   |false=>none
  |_,_=>none
def Q8 [U:Facts]:AV→Option (Bool ⊕ (Bool×SB))
 |.bool b=>some (.inl b)
 |.sb p e=>match AW U.facts e with
  |some c=>some (.inl (c==p))
  |none=>some (.inr (p,e))
 |_=>none
def cY:AV→Option SE
 |.map0=>some (.bc true)
 |.map _=>some (.bc false)
 |.nmap _ nl=>some nl
 |_=>none
def aW [U:Facts] (v:AV):AV:=match v with
 |.nmap b nl=>match AW U.facts nl with
  |some true=>.map0
  |some false=>.map b
  |none=>.nmap b nl
 |v=>v
def fH:AV→Option SE
 |.slice0=>some (.bc true)
 |.slice _ _ _ _=>some (.bc false)
 |.dat _ x=>some (.isNil x)
 |.asl _ _ _ nl=>some nl
 |.eslc nl=>some nl
 |_=>none
def Cb (a:BinOp) (p:Bool):Option Bool:=match a with
 |.eql=>some p
 |.neq=>some (!p)
 |_=>none
def eqV [Facts] (d:Option TypeDesc) (c:BinOp) (x y:AV):Option AV:=
 match d with
 |some .bool=>match Q8 x,Q8 y with
  |some (.inl a),some (.inl b)=>(Cb c (a==b)).map .bool
  |some (.inr (p,e)),some (.inl b)=>(Cb c (p==b)).map fun q=>.sb q e
  |some (.inl b),some (.inr (p,e))=>(Cb c (p==b)).map fun q=>.sb q e
  |_,_=>none
 |some (.slice _)=>match x,y with
  |.slice0,_=>match fH y with
   |some e=>(Cb c true).map fun q=>mkB q e
   |none=>none
  |_,.slice0=>match fH x with
   |some e=>(Cb c true).map fun q=>mkB q e
   |none=>none
  |_,_=>none
 |some (.map _ _)=>match x,y with
  |.map0,_=>match cY y with
   |some e=>(Cb c true).map fun q=>mkB q e
   |none=>none
  |_,.map0=>match cY x with
   |some e=>(Cb c true).map fun q=>mkB q e
   |none=>none
  |_,_=>none
 |_=>none
def AV.isSym:AV→Bool
 |.sb ..=>true
 |.si ..=>true
 |.ss _=>true
 |.dat _ _=>true
 |.dptr _ _ _ _=>true
 |.asl _ _ _ _=>true
 |.eslc _=>true
 |.aptr _ _ _ _=>true
 |.nmap _ _=>true
 |_=>false
def P2 (d:BinOp) (l a c b:Nat):Option AV:=
 match d with
 |.add=>match Nat.ble (l+c) 4611686018427387904 with|true=>some (.str (l+c) (a+b*2^(8*l)))|false=>none
 |.eql=>some (.bool (strEq l a c b))
 |.neq=>some (.bool (!strEq l a c b))
 |.lss=>some (.bool (ED (l+1) l a c b))
 |.leq=>some (.bool (ED (l+1) l a c b||strEq l a c b))
 |.gtr=>some (.bool (!(ED (l+1) l a c b||strEq l a c b)))
 |.geq=>some (.bool (!ED (l+1) l a c b))
 |_=>none
def Nz (c:BinOp) (k:IntKind) (a b:Int):Option AV:=
 match decide (b<0) with
 |true=>none
 |false=>
  let n:=min b.toNat k.bits
  match c with
  |.shl=>some (.int k (k.wrap (a*2^n)))
  |.shr=>some (.int k (a.fdiv (2^n)))
  |_=>none
def TP (E:Env) (c:BinOp) (t:TypeId) (x y:AV):Option AV:=
 match x,y with
 |.int k a,.int k' b=>
  match c with
  |.shl=>Nz .shl k a b
  |.shr=>Nz .shr k a b
  |_=>match decide (k=k') with
   |true=>D7 c k a b
   |false=>none
 |.str l a,.str d b=>P2 c l a d b
 |.agg e,.agg f=>
  match E.P.eqGuardType E.P.depth t with
  |true=>none
  |false=>match c with
   |.eql=>(aeq E 10000 t x y).map .bool
   |.neq=>(aeq E 10000 t x y).map fun b=>.bool (!b)
   |_=>none
 |.nilIface,.nilIface=>none
 |_,_=>match c with
  |.eql=>(aeq E 10000 t x y).map .bool
  |.neq=>(aeq E 10000 t x y).map fun b=>.bool (!b)
  |_=>none
def unA (a:UnOp) (x:AV):Option AV:=
 match a,x with
 |.not,.sb pos e=>some (.sb (!pos) e)
 |.neg,.int k n=>some (.int k (k.wrap (0-n)))
 |.not,.bool b=>some (.bool !b)
 |_,_=>none
def unB [Facts] (a:UnOp) (x:AV):Option AV:=
 match a,x with
 |.neg,.si k e=>some (mkI k (.arith .sub k (.c 0) e))
 |_,_=>unA a x
def bytesOf:Nat→Nat→List AV
 |0,_=>[]
 |n+1,b=>.int .u8 (b%256:Nat)::bytesOf n (b/256)
def Vi [Facts] (E:Env) (a dst:TypeId) (x:AV) (h:Aa):Option (AV×Aa):=
 match E.desc a,E.desc dst,x with
 |some _,some (.int k),.int _ n=>some (.int k (k.wrap n),h)
 |some _,some (.int k),.si _ e=>some (mkI k (.conv k e),h)
 |some _,some .string,.ss i=>some (.ss i,h)
 |some _,some .string,.str l b=>some (.str l b,h)
 |some _,some (.slice e),.str l b=>
  match E.desc e with
  |some (.int .u8)=>some (.slice h.nx 0 l 1,h.new (.cells l (.ofList (bytesOf l b))))
  |_=>none
 |_,_,_=>none
def Hj:AV→Option Nat
 |.int _ (.ofNat n)=>some n
 |_=>none
def GF (x:Option AV) (a:Nat):Option Nat:=
 match x with
 |some v=>Hj v
 |none=>some a
def DG (n:Nat) (lo hi a:Option AV):Option (Nat×Nat):=
 match GF a n with
 |none=>none
 |some m=>match GF hi n,GF lo 0 with
  |some h,some l=>match Nat.ble l h&&Nat.ble h m&&Nat.ble m n with
   |true=>some (l,h)
   |false=>none
  |_,_=>none
def SV (E:Env) (t:TypeId) (x:AV) (lo hi d:Option AV) (h:Aa):Option AV:=
 match E.desc t,x with
 |some .string,.str l b=>
  match d with
  |some _=>none
  |none=>match DG l lo hi none with
   |some (a,c)=>some (.str (c-a) ((b/2^(8*a))%2^(8*(c-a))))
   |none=>none
 |some (.slice e),.slice0=>
  match DG 0 lo hi d,E.has e with
  |some _,true=>some .slice0
  |_,_=>none
 |some (.slice e),.slice b off len f=>
  match DG len lo hi d with
  |some (a,c)=>match E.szIs e f with
   |true=>some (.slice b (off+a*f) (c-a) f)
   |false=>none
  |none=>none
 |some (.array n e),.ptr b off=>
  match DG n lo hi d,E.has e,h.blk.get b with
  |some (a,c),true,some (.cells g _)=>match Nat.ble (off+n*E.size e) g with
   |true=>some (.slice b (off+a*E.size e) (c-a) (E.size e))
   |false=>none
  |_,_,_=>none
 |_,_=>none
def Ix (E:Env) (t:TypeId) (x i:AV):Option AV:=
 match E.desc t,x,Hj i with
 |some (.slice e),.slice b off len a,some n=>match Nat.blt n len&&E.szIs e a with
  |true=>some (.ptr b (off+n*a))
  |false=>none
 |some (.array len e),.ptr b off,some n=>match Nat.blt n len&&E.has e with
  |true=>some (.ptr b (off+n*E.size e))
  |false=>none
 |_,_,_=>none
def Ik (E:Env) (t:TypeId) (x:AV) (f:Nat):Option AV:=
 match E.desc t,x with
 |some (.struct a),.ptr b off=>match a.toList[f]? with
  |some fd=>match E.size fd.type with
   |0=>none
   |_=>some (.ptr b (off+fd.offset))
  |none=>none
 |_,_=>none
def Tg (E:Env) (t:TypeId) (x:AV) (f:Nat):Option AV:=none
def Sz (E:Env) (t:TypeId) (x:AV) (h:Aa):Option AV:=
 match E.desc t,x with
 |some d,.ptr b off=>match IP d with
  |true=>(Ek h b off (E.size t)).map .agg
  |false=>match h.blk.get b with
   |some (.cells a c)=>match Nat.blt off a with
    |true=>c.get off
    |false=>none
   |_=>none
 |_,_=>none
def PF (E:Env) (t:TypeId) (x v:AV) (h:Aa):Option Aa:=
 match x with
 |.ptr b off=>match E.szIs t v.cells.length with
  |true=>storeN h b off v.cells
  |false=>none
 |_=>none
def Mr (h:Aa) (a n:Nat):AV→Option (List AV)
 |.slice0=>some []
 |.slice b off _ c=>match Nat.beq a c with
  |true=>Ek h b off (n*a)
  |false=>none
 |.str l b=>match Nat.beq a 1 with
  |true=>some ((bytesOf l b).take n)
  |false=>none
 |_=>none
def Hf:AV→Option Nat
 |.slice0=>some 0
 |.slice _ _ n _=>some n
 |.str l _=>some l
 |_=>none
def DP (d:TypeInfo) (s:AV) (m:Nat) (a:List AV) (h:Aa):Option (AV×Aa):=
 match s with
 |.slice0=>match Nat.ble m 4611686018427387904&&Nat.ble (m*d.bytes) 140737488355328 with
  |false=>none
  |true=>match m with
   |0=>some (.slice0,h)
   |_=>some (.slice h.nx 0 m d.size,Cr h a)
 |.slice b off n e=>match Nat.beq d.size e&&E8 a&&Nat.ble (n+m) 4611686018427387904&&Nat.ble ((n+m)*d.bytes) 140737488355328 with
  |false=>none
  |true=>match m with
   |0=>some (.slice b off n e,h)
   |_=>match h.blk.get b with
    |some (.cells f c)=>match Nat.beq off 0&&Nat.beq (n*e) f with
     |true=>some (.slice h.nx 0 (n+m) e,(h.strike b).new (.cells (n*e+a.length) (FC c (n*e) a)))
     |false=>match Ek h b off (n*e) with
      |none=>none
      |some olds=>some (.slice h.nx 0 (n+m) e,(h.strike b).new (.cells (n*e+a.length) (.ofList (olds++a))))
    |_=>none
 |_=>none
def Js (E:Env) (t c:TypeId) (s x:AV) (h:Aa):Option (AV×Aa):=
 match E.desc t with
 |some (.slice e)=>match E.ty.get e with
  |none=>none
  |some a=>match E.zero e with
   |none=>none
   |some z=>match Nat.beq z.cells.length a.size with
    |false=>none
    |true=>match E.desc c with
     |some (.int _)=>match Hj x with
      |none=>none
      |some m=>match Nat.ble m 1048576&&Nat.ble (m*a.bytes) 140737488355328 with
       |true=>DP a s m (DH z.cells m) h
       |false=>none
     |some (.slice _)=>match Hf x with
      |none=>none
      |some m=>match Mr h a.size m x with
       |none=>none
       |some b=>DP a s m b h
     |some .string=>match Hf x with
      |none=>none
      |some m=>match Mr h a.size m x with
       |none=>none
       |some b=>DP a s m b h
     |_=>none
 |_=>none
def Vv (E:Env) (t:TypeId) (d x:AV) (h:Aa):Option (AV×Aa):=
 match E.desc t with
 |some (.slice e)=>match E.ty.get e with
  |none=>none
  |some a=>
  match Hf d,Hf x with
  |some n,some m=>match Mr h a.size (min m n) x with
   |none=>none
   |some l=>match d with
    |.slice0=>some (.int .i64 0,h)
    |.slice b off _ c=>match Nat.beq a.size c with
     |true=>match l with
      |[]=>some (.int .i64 (min m n:Nat),h)
      |_=>match storeN h b off l with
       |some h'=>some (.int .i64 (min m n:Nat),h')
       |none=>none
     |false=>none
    |_=>none
  |_,_=>none
 |_=>none
def EW (E:Env) (t:TypeId) (k:AV):List A0→Nat→Option (Option (Nat×AV))
 |[],_=>some none
 |e::r,i=>match aeq E 10000 t k e.key with
  |some true=>some (some (i,e.val))
  |some false=>EW E t k r (i+1)
  |none=>none
def Kl (E:Env) (ok:TypeId→AV→Bool) (cs:List AV):List Field→Bool
 |[]=>true
 |f::r=>match D0 E f.type cs f.offset with
  |some a=>match ok f.type a with
   |true=>Kl E ok cs r
   |false=>false
  |none=>false
def Mv (E:Env) (ok:TypeId→AV→Bool) (e:TypeId) (cs:List AV):Nat→Nat→Bool
 |0,_=>true
 |k+1,i=>match D0 E e cs (i*E.size e) with
  |some a=>match ok e a with
   |true=>Mv E ok e cs k (i+1)
   |false=>false
  |none=>false
def CP (E:Env):Nat→TypeId→AV→Bool
 |0,_,_=>false
 |d+1,t,v=>match E.desc t with
  |some (.int _)=>true
  |some .string=>true
  |some .bool=>true
  |some (.struct a)=>match v with
   |.agg cs=>Kl E (CP E d) cs a.toList
   |_=>false
  |some (.array n e)=>match v with
   |.agg cs=>match E.has e with
    |true=>Mv E (CP E d) e cs n 0
    |false=>false
   |_=>false
  |_=>false
def N0 (ok:Bool) (v:AV) (b:Bool):AV:=match ok with|true=>.tuple [v,.bool b]|false=>v
def PZ (E:Env) (t:TypeId) (m k:AV) (ok:Bool) (h:Aa):Option AV:=
 match E.desc t with
 |some (.map a b)=>
  match CP E 20 a k,E.zero b with
  |true,some z=>
   match m with
   |.map0=>some (N0 ok z false)
   |.map r=>match h.blk.get r with
    |some (.map es _)=>match EW E a k es 0 with
     |some (some (_,v))=>some (N0 ok v true)
     |some none=>some (N0 ok z false)
     |none=>none
    |_=>none
   |_=>none
  |_,_=>none
 |_=>none
def HH:AV→AV→Bool
 |.bool a,.bool b=>match a,b with
  |true,true=>true
  |false,false=>true
  |_,_=>false
 |.int k a,.int c b=>match decide (k=c) with
  |true=>a==b
  |false=>false
 |.str l a,.str d b=>strEq l a d b
 |_,_=>false
def J8:List AV→List AV→Bool
 |[],[]=>true
 |a::l,b::m=>match HH a b with
  |true=>J8 l m
  |false=>false
 |_,_=>false
def ME:AV→AV→Bool
 |.agg l,.agg m=>J8 l m
 |a,b=>HH a b
def setVal:List A0→Nat→AV→AV→List A0
 |[],_,_,_=>[]
 |e::r,0,k,v=>{e with key:=k,val:=v}::r
 |e::r,i+1,k,v=>e::setVal r i k v
def JL (E:Env) (t:TypeId) (m k v:AV) (h:Aa):Option Aa:=
 match E.desc t with
 |some (.map c _)=>
  match CP E 20 c k with
  |true=>match m with
   |.map r=>match h.blk.get r with
    |some (.map b a)=>match EW E c k b 0 with
     |some (some (i,_))=>match b[i]? with
      |some e=>match ME k e.key with
       |true=>some (h.put r (.map (setVal b i k v) a))
       |false=>none
      |none=>none
     |some none=>some (h.put r (.map (b++[{key:=k,val:=v,born:=a}]) (a+1)))
     |none=>none
    |_=>none
   |_=>none
  |false=>none
 |_=>none
def LF (E:Env) (t:TypeId) (m k:AV) (h:Aa):Option Aa:=
 match E.desc t with
 |some (.map c _)=>
  match CP E 20 c k with
  |true=>match m with
   |.map0=>some h
   |.map r=>match h.blk.get r with
    |some (.map b a)=>match EW E c k b 0 with
     |some (some (i,_))=>some (h.put r (.map (b.eraseIdx i) a))
     |some none=>some (h.put r (.map b a))
     |none=>none
    |_=>none
   |_=>none
  |false=>none
 |_=>none
def Ux (E:Env) (t:TypeId) (m k:AV) (h:Aa):Option (AV×Aa):=none
def Hh (m st v:AV) (h:Aa):Option Aa:=none
def UO (E:Env) (t:TypeId) (x:AV) (h:Aa):Option (AV×Aa):=none
def aH (it:AV) (a:Bool) (h:Aa):Option (AV×Aa):=none
def Ir (it:AV) (h:Aa):Option AV:=none
def lz [Facts] (E:Env) (t:TypeId) (x:AV) (h:Aa):Option AV:=
 match E.desc t,x with
 |some .string,.str l _=>some (.int .i64 l)
 |some .string,.ss i=>some (mkI .i64 (.lenS i))
 |some (.slice _),.dat _ x=>some (mkI .i64 (.lenL x))
 |some (.slice _),.asl _ _ n _=>some (mkI .i64 n)
 |some (.slice _),.eslc _=>some (.int .i64 0)
 |some (.array n _),_=>some (.int .i64 n)
 |some (.slice _),.slice0=>some (.int .i64 0)
 |some (.slice _),.slice _ _ n _=>some (.int .i64 n)
 |some (.map _ _),.map0=>some (.int .i64 0)
 |some (.map _ _),.map r=>match h.blk.get r with
  |some (.map a _)=>some (.int .i64 a.length)
  |some (.dmap _ _ x)=>some (mkI .i64 (.lenL x))
  |_=>none
 |_,_=>none
def JN (k:IntKind) (x:Int):List AV→Option AV
 |[]=>some (.int k x)
 |.int _ y::r=>JN k (if y>x then y else x) r
 |_=>none
def Jh (k:IntKind) (x:Int):List AV→Option AV
 |[]=>some (.int k x)
 |.int _ y::r=>Jh k (if y<x then y else x) r
 |_=>none
def xV:List AV→Option AV
 |.int k x::r=>JN k x r
 |_=>none
def qq:List AV→Option AV
 |.int k x::r=>Jh k x r
 |_=>none
def Po [U:Facts] (k:IntKind):SE→List AV→Option AV
 |x,[]=>some (mkI k x)
 |x,y::r=>match toI y with
  |some (_,b)=>match AW U.facts (.lss x b) with
   |some true=>Po k b r
   |some false=>Po k x r
   |none=>none
  |none=>none
def Pj [U:Facts] (k:IntKind):SE→List AV→Option AV
 |x,[]=>some (mkI k x)
 |x,y::r=>match toI y with
  |some (_,b)=>match AW U.facts (.lss b x) with
   |some true=>Pj k b r
   |some false=>Pj k x r
   |none=>none
  |none=>none
def ay [Facts]:List AV→Option AV
 |y::r=>match toI y with
  |some (k,a)=>Po k a r
  |none=>none
 |[]=>none
def Zx [Facts]:List AV→Option AV
 |y::r=>match toI y with
  |some (k,a)=>Pj k a r
  |none=>none
 |[]=>none
def orA (a b:Option AV):Option AV:=match a with
 |some v=>some v
 |none=>b
def NT [U:Facts] (e:SB):Bool:=match AW U.facts e with
 |some true=>true
 |_=>false
def W3 [U:Facts] (e:SB):Bool:=match AW U.facts e with
 |some false=>true
 |_=>false
def inR [Facts] (i n:SE):Bool:=W3 (.lss i (.c 0))&&NT (.lss i n)
def Ks [Facts] (x i:SE) (j:Nat):Kd→AV
 |.int k=>match decide (k=.i64) with
  |true=>mkI k (.cell x i j)
  |false=>mkI k (.conv k (.cell x i j))
 |.bool=>mkB true (.cell x i j)
 |.str=>.ss (.cell x i j)
 |.slice e=>.dat e (.cell x i j)
def HN [Facts] (x i:SE) (a:List Kd):Nat→Nat→Option (List AV)
 |_,0=>some []
 |j,n+1=>match a[j]?,HN x i a (j+1) n with
  |some k,some l=>some (Ks x i j k::l)
  |_,_=>none
def LP [Facts] (E:Env) (t:TypeId) (a:List Kd) (y i:SE) (off:Nat):Option AV:=
 match E.desc t with
 |some d=>match IP d with
  |true=>match HN y i a off (E.size t) with
   |some l=>some (.agg l)
   |none=>none
  |false=>match a[off]? with
   |some k=>some (Ks y i off k)
   |none=>none
 |none=>none
def Z1 [Facts] (E:Env) (t:TypeId) (x:AV) (h:Aa):Option AV:=
 match x with
 |.dptr e y i off=>match E.kinds e with
  |some a=>LP E t a y i off
  |none=>none
 |.aptr b c i off=>match h.blk.get b with
  |some (.arr e y)=>match E.kinds e with
   |some a=>match Nat.beq c a.length&&inR i (.lenL (CZ y)) with
    |true=>LP E t a y i off
    |false=>none
   |none=>none
  |_=>none
 |_=>Sz E t x h
def It (E:Env) (t:TypeId) (x:AV) (f:Nat):Option AV:=
 match x with
 |.dptr e y i off=>match E.desc t,E.kinds e with
  |some (.struct a),some c=>match a.toList[f]? with
   |some fd=>match E.size fd.type,Nat.blt (off+fd.offset) c.length with
    |_+1,true=>some (.dptr e y i (off+fd.offset))
    |_,_=>none
   |none=>none
  |_,_=>none
 |.aptr b d i off=>match E.desc t with
  |some (.struct a)=>match a.toList[f]? with
   |some fd=>match E.size fd.type with
    |0=>none
    |_=>some (.aptr b d i (off+fd.offset))
   |none=>none
  |_=>none
 |_=>Ik E t x f
def NR [U:Facts]:AV→AV
 |.si k e=>match bnd U.facts e with
  | (some l,some h)=>match l==h with
   |true=>.int k l
   |false=>.si k e
  |_=>.si k e
 |x=>x
def IK [Facts] (E:Env) (t:TypeId) (x i:AV):Option AV:=
 match x with
 |.dat c y=>match E.desc t,toI i with
  |some (.slice e),some (_,a)=>match E.kinds e with
   |some (_::_)=>match Nat.beq e c&&inR a (.lenL (CZ y)) with
    |true=>some (.dptr e y a 0)
    |false=>none
   |_=>none
  |_,_=>none
 |.asl b d n _=>match E.desc t,toI i with
  |some (.slice e),some (_,a)=>match E.szIs e d&&inR a n with
   |true=>some (.aptr b d a 0)
   |false=>none
  |_,_=>none
 |.aptr b d f off=>match E.desc t,Hj (NR i) with
  |some (.array len e),some n=>match Nat.blt n len&&E.has e with
   |true=>some (.aptr b d f (off+n*E.size e))
   |false=>none
  |_,_=>none
 |.dptr c y f off=>match E.desc t,Hj (NR i),E.kinds c with
  |some (.array len e),some n,some g=>match Nat.blt n len&&E.has e&&Nat.blt (off+n*E.size e) g.length with
   |true=>some (.dptr c y f (off+n*E.size e))
   |false=>none
  |_,_,_=>none
 |_=>Ix E t x (NR i)
def fF [U:Facts]:Kd→AV→Option SE
 |.int k,.int a n=>match decide (k=a)&&(decide (k=.i64)||(decide (k.min≤n)&&decide (n≤k.max))) with
  |true=>some (.c n)
  |false=>none
 |.int k,.si a e=>match decide (k=a)&&(decide (k=.i64)||Qx k (bnd U.facts e).1 (bnd U.facts e).2) with
  |true=>some e
  |false=>none
 |.bool,.bool b=>some (.bc b)
 |.bool,.sb pos e=>some (match pos with|true=>e|false=>.neg e)
 |.str,.str l b=>some (.strc l b)
 |.str,.ss x=>some x
 |.slice e,.dat d x=>match Nat.beq e d with
  |true=>some x
  |false=>none
 |.slice _,.slice0=>some .nilL
 |_,_=>none
def MA [Facts]:List Kd→List AV→Option SE
 |[],[]=>some .rnil
 |k::b,a::r=>match fF k a,MA b r with
  |some x,some y=>some (.rcons x y)
  |_,_=>none
 |_,_=>none
def Es [Facts] (ks:List Kd):Nat→SE→List AV→Option SE
 |0,y,[]=>some y
 |0,_,_::_=>none
 |n+1,y,l=>match MA ks (l.take ks.length) with
  |some r=>Es ks n (.snoc y r) (l.drop ks.length)
  |none=>none
def Fy [Facts] (n y:SE):Bool:=LQ n y||NT (.eql n (.lenL y))
def S2 [Facts] (E:Env) (t:TypeId) (x i:AV):Option AV:=none
def jy:Option TypeDesc→Bool
 |some (.int .u8)=>true
 |_=>false
def UG:Option (List Kd)→Bool
 |some [.int .u8]=>true
 |_=>false
def Yo [Facts] (E:Env) (a dst:TypeId) (x:AV) (h:Aa):Option (AV×Aa):=
 match x with
 |.ss y=>match E.desc dst with
  |some (.slice e)=>match jy (E.desc e)&&UG (E.kinds e)&&(E.desc a).isSome with
   |true=>some (.asl h.nx 1 (.lenL (.bytes y)) (.bc false),h.new (.arr e (.bytes y)))
   |false=>none
  |_=>Vi E a dst x h
 |_=>Vi E a dst x h
def Wm [Facts] (e:TypeId) (ks:List Kd) (h:Aa):AV→Option (SE×SE×Option Nat)
 |.slice0=>some (.nilL,.bc true,none)
 |.eslc nl=>some (.nilL,nl,none)
 |.slice b off n a=>match Nat.beq a ks.length with
  |true=>match Ek h b off (n*a) with
   |some l=>match Es ks n .emptyL l with
    |some y=>some (y,.bc false,some b)
    |none=>none
   |none=>none
  |false=>none
 |.asl b a n nl=>match Nat.beq a ks.length,h.blk.get b with
  |true,some (.arr c y)=>match Nat.beq e c&&Fy n y with
   |true=>some (y,nl,some b)
   |false=>none
  |_,_=>none
 |_=>none
def cW [Facts] (e:TypeId) (ks:List Kd) (h:Aa) (y:SE):AV→Option (SE×SE)
 |.slice0=>some (y,.c 0)
 |.eslc _=>some (y,.c 0)
 |.dat d x=>match Nat.beq e d with
  |true=>some (.cat y x,.lenL x)
  |false=>none
 |.asl b a n _=>match Nat.beq a ks.length,h.blk.get b with
  |true,some (.arr d z)=>match Nat.beq e d&&Fy n z with
   |true=>some (.cat y z,.lenL z)
   |false=>none
  |_,_=>none
 |.slice b off n a=>match Nat.beq a ks.length with
  |true=>match Ek h b off (n*a) with
   |some l=>match Es ks n y l with
    |some f=>some (f,.c n)
    |none=>none
   |none=>none
  |false=>none
 |_=>none
def Fj (h:Aa):Option Nat→Aa
 |some b=>h.strike b
 |none=>h
def I4 [Facts] (E:Env) (t f:TypeId) (s x:AV) (h:Aa):Option (AV×Aa):=
 match s.isSym||x.isSym with
 |false=>Js E t f s x h
 |true=>match E.desc t,E.desc f with
  |some (.slice e),some (.slice _)=>match E.ty.get e,E.kinds e,E.zero e with
   |some a,some b,some z=>match Nat.beq b.length a.size&&Nat.beq z.cells.length a.size&&Nat.ble a.bytes 1024 with
    |true=>match Wm e b h s with
     |some (g,d,i)=>match cW e b h g x with
      |some (y,m)=>match NT (.lss (.lenL g) (.c 1073741824))&&NT (.lss m (.c 1048576)) with
       |true=>some (.asl h.nx a.size (.lenL y) (.and d (.eql m (.c 0))),(Fj h i).new (.arr e y))
       |false=>none
      |none=>none
     |none=>none
    |false=>none
   |_,_,_=>none
  |_,_=>none
def Eb [Facts] (i:SE) (b:List Kd):SE→Nat→List AV→Option SE
 |y,_,[]=>some y
 |y,j,a::r=>match b[j]? with
  |some k=>match fF k a with
   |some x=>Eb i b (.upd y i j x) (j+1) r
   |none=>none
  |none=>none
def Er [Facts] (E:Env) (t:TypeId) (x v:AV) (h:Aa):Option Aa:=
 match x with
 |.aptr b c i off=>match h.blk.get b with
  |some (.arr e y)=>match E.kinds e with
   |some a=>match Nat.beq c a.length&&inR i (.lenL (CZ y))&&E.szIs t v.cells.length && !v.isTop with
    |true=>match Eb i a y off v.cells with
     |some d=>some (h.put b (.arr e d))
     |none=>none
    |false=>none
   |none=>none
  |_=>none
 |_=>PF E t x v h
def Ls [Facts] (E:Env) (kd:Kd) (a:AV) (h:Aa):AV×Aa:=
 match kd with
 |.slice e=>match a with
  |.asl b c n nl=>match h.blk.get b,E.kinds e with
   |some (.arr d x),some ks=>match Nat.beq e d&&Nat.beq c ks.length&&Fy n x with
    |true=>(.dat e (.nilIs x nl),h.strike b)
    |false=>(a,h)
   |_,_=>(a,h)
  |.eslc nl=>(.dat e (.nilIs .nilL nl),h)
  |.slice b off n c=>match E.kinds e with
   |some ks=>match Nat.beq c ks.length,Ek h b off (n*c) with
    |true,some l=>match Es ks n .emptyL l with
     |some y=>(.dat e y,h.strike b)
     |none=>(a,h)
    |_,_=>(a,h)
   |none=>(a,h)
  |_=>(a,h)
 |_=>(a,h)
def Jk [Facts] (E:Env):List Kd→List AV→Aa→List AV×Aa
 |k::b,a::l,h=>match Ls E k a h with
  | (c,d)=>match Jk E b l d with
   | (e,f)=>(c::e,f)
 |_,l,h=>(l,h)
def uK:Nat→List Kd→List Kd
 |0,_=>[]
 |n+1,a=>a++uK n a
def EU [Facts] (E:Env) (ks:List Kd) (b:Nat) (h:Aa):Aa:=
 match h.blk.get b with
 |some (.cells n c)=>match c.range 0 n with
  |some l=>match Jk E ks l h with
   | (a,h')=>match h'.blk.get b with
    |some (.cells m _)=>match Nat.beq m n&&Nat.beq a.length n with
     |true=>h'.put b (.cells n (.ofList a))
     |false=>h
    |_=>h
  |none=>h
 |_=>h
def Is [Facts] (E:Env) (e:TypeId) (b:Nat) (h:Aa):Aa:=
 match h.blk.get b,E.kinds e with
 |some (.cells n _),some ks=>EU E (uK (n/ks.length) ks) b h
 |_,_=>h
def O0:List AV→List Kd
 |[]=>[]
 |.dat e _::r=>.slice e::O0 r
 |_::r=>.bool::O0 r
def G4:List Kd→Bool
 |[]=>false
 |.slice _::_=>true
 |_::r=>G4 r
def GT [Facts] (E:Env) (e:TypeId) (a:AV) (h:Aa):Aa:=
 match a with
 |.slice b _ _ _=>match E.kinds e with
  |some c=>match G4 c with
   |true=>Is E e b h
   |false=>h
  |none=>h
 |_=>h
def M2 [Facts] (E:Env) (t:TypeId) (x v:AV) (h:Aa):Option Aa:=
 match x with
 |.aptr b _ _ off=>match h.blk.get b with
  |some (.arr e _)=>match E.kinds e with
   |some a=>match G4 a with
    |true=>match v with
     |.agg l=>match Jk E (a.drop off) l h with
      | (c,h')=>Er E t x (.agg c) h'
     |_=>match Ls E (a.getD off .bool) v h with
      | (d,h')=>Er E t x d h'
    |false=>Er E t x v h
   |none=>Er E t x v h
  |_=>Er E t x v h
 |_=>Er E t x v h
def J4 [Facts] (E:Env) (t a:TypeId) (s x:AV) (h:Aa):Option (AV×Aa):=
 match s.isSym||x.isSym with
 |true=>match E.desc t with
  |some (.slice e)=>I4 E t a s x (GT E e x (GT E e s h))
  |_=>I4 E t a s x h
 |false=>I4 E t a s x h
def H7 (d:SE):Option AV→Option SE
 |none=>some d
 |some v=>match toI v with
  |some (_,e)=>some e
  |none=>none
def inB [Facts] (l u n:SE):Bool:=W3 (.lss l (.c 0))&&W3 (.lss u l)&&W3 (.lss n u)
def QH [Facts] (E:Env) (t:TypeId) (x:AV) (lo hi:Option AV) (h:Aa):Option (AV×Aa):=
 match x with
 |.dat a y=>match E.desc t,H7 (.c 0) lo,H7 (.lenL y) hi with
  |some (.slice e),some l,some u=>match E.kinds e with
   |some b=>match Nat.beq e a&&E.szIs e b.length&&inB l u (.lenL y) with
    |true=>some (.dat e (.sub y l u),h)
    |false=>none
   |none=>none
  |_,_,_=>none
 |_=>none
def dP:SE→Bool
 |.c n=>n==0
 |_=>false
def sliceB [Facts] (E:Env) (t:TypeId) (x:AV) (lo hi g:Option AV) (h:Aa):Option (AV×Aa):=
 match x,g with
 |.dat _ _,none=>QH E t x lo hi h
 |.ss y,none=>match E.desc t,H7 (.c 0) lo,H7 (.lenS y) hi with
  |some .string,some l,some u=>match inB l u (.lenS y) with
   |true=>some (.ss (.strSub y l u),h)
   |false=>none
  |_,_,_=>none
 |.asl b d n nl,none=>match E.desc t,h.blk.get b with
  |some (.slice e),some (.arr f y)=>match Nat.beq e f&&E.szIs e d&&Fy n y with
   |true=>match H7 (.c 0) lo,H7 (.lenL y) hi with
    |some l,some u=>match dP l with
     |true=>match inB (.c 0) u (.lenL y) with
      |true=>some (.asl b d (.lenL (.sub y (.c 0) u)) nl,h.put b (.arr f (.sub y (.c 0) u)))
      |false=>none
     |false=>match Ls E (.slice e) x h with
      | (i,h')=>QH E t i lo hi h'
    |_,_=>none
   |false=>match H7 (.c 0) lo,hi,H7 n hi with
    |some l,some _,some u=>match Nat.beq e f&&(E.szIs e d&&(dP l&&(inB (.c 0) u n&&inB (.c 0) u (.lenL y)))) with
     |true=>some (.asl b d (.lenL (.sub y (.c 0) u)) nl,h.put b (.arr f (.sub y (.c 0) u)))
     |false=>none
    |_,_,_=>none
  |_,_=>none
 |_,_=>match SV E t x (lo.map NR) (hi.map NR) (g.map NR) h with
  |some a=>some (a,h)
  |none=>none
def Ez (h:Aa) (a:String):Option AV→Res
 |some v=>.val v h
 |none=>.bad a
def FA (a:String):Option (AV×Aa)→Res
 |some (v,h)=>.val v h
 |none=>.bad a
def Gv (a:String):Option Aa→Res
 |some h=>.val .undef h
 |none=>.bad a
def TX (E:Env) (t:TypeId) (x:AV) (h:Aa):Option Aa:=
 match E.desc t with
 |none=>none
 |some d=>match x with
  |.map r=>match h.blk.get r with
   |some (.map _ a)=>some (h.put r (.map [] a))
   |some (.dmap c f _)=>some (h.put r (.dmap c f .emptyL))
   |_=>none
  |.slice0=>some h
  |.slice b off n g=>match n with
   |0=>some h
   |_=>match d with
    |.slice e=>match E.zero e with
     |some z=>match Nat.beq z.cells.length g with
      |true=>storeN h b off (DH z.cells n)
      |false=>none
     |none=>none
    |_=>none
  |_=>none
def Su:AV→Option SE
 |.ss e=>some e
 |.str l b=>some (.strc l b)
 |_=>none
def MG:AV→Option SE
 |.sb true e=>some (.and e (.bc true))
 |.sb false e=>some (.neg e)
 |.bool b=>some (.bc b)
 |_=>none
def fR (a b:SE):SE:=match b with
 |.bc true=>a
 |_=>.and a b
def kV (a b:SE):SE:=match a,b with
 |.c n,.c m=>.bc (n==m)
 |_,_=>.eql a b
def jc (a b:SE):SE:=.neg (.and (.neg (.and a b)) (.neg (.and (.neg a) (.neg b))))
def FO (E:Env) (c:TypeId→AV→AV→Option SE) (d g:List AV):List Field→Option SE
 |[]=>some (.bc true)
 |f::r=>match f.name == "_" with
  |true=>none
  |false=>match D0 E f.type d f.offset,D0 E f.type g f.offset with
   |some a,some b=>match c f.type a b,FO E c d g r with
    |some e,some h=>some (fR e h)
    |_,_=>none
   |_,_=>none
def Hm (E:Env) (c:TypeId→AV→AV→Option SE) (e:TypeId) (n:Nat) (d f:List AV):Nat→Nat→Option SE
 |0,_=>some (.bc true)
 |k+1,i=>match D0 E e d (i*n),D0 E e f (i*n) with
  |some a,some b=>match c e a b,Hm E c e n d f k (i+1) with
   |some x,some y=>some (fR x y)
   |_,_=>none
  |_,_=>none
def IC (E:Env):Nat→TypeId→AV→AV→Option SE
 |0,_,_,_=>none
 |d+1,t,x,y=>match E.desc t with
  |some .bool=>match MG x,MG y with
   |some a,some b=>some (jc a b)
   |_,_=>none
  |some (.int _)=>match toI x,toI y with
   |some (k,a),some (h,b)=>match decide (k=h) with
    |true=>some (kV a b)
    |false=>none
   |_,_=>none
  |some .string=>match Su x,Su y with
   |some a,some b=>some (.eqSS a b)
   |_,_=>none
  |some (.struct c)=>match x,y with
   |.agg f,.agg g=>match E.P.stoodInHeld t with
    |true=>none
    |false=>FO E (IC E d) f g c.toList
   |_,_=>none
  |some (.array len e)=>match x,y with
   |.agg f,.agg g=>match E.has e with
    |true=>Hm E (IC E d) e (E.size e) f g len 0
    |false=>none
   |_,_=>none
  |_=>none
def YJ [Facts] (E:Env) (c:BinOp) (t:TypeId) (a b:AV):Option AV:=
 match a,b with
 |.agg _,.agg _=>match E.P.eqGuardType E.P.depth t with
  |true=>none
  |false=>match IC E 10000 t a b with
   |some e=>match Cb c true with
    |some q=>some (mkB q e)
    |none=>none
   |none=>none
 |_,_=>none
def eqK [U:Facts] (E:Env) (t:TypeId) (k key:AV):Option Bool:=match aeq E 10000 t k key with
 |some b=>some b
 |none=>match IC E 10000 t k key with
  |some e=>AW U.facts e
  |none=>none
def Ft [Facts] (E:Env) (t:TypeId) (k:AV):List A0→Nat→Option (Option (Nat×AV))
 |[],_=>some none
 |e::r,i=>match eqK E t k e.key with
  |some true=>some (some (i,e.val))
  |some false=>Ft E t k r (i+1)
  |none=>none
def Ov:List AV→AV
 |[a]=>a
 |l=>.agg l
def JE (b:List Kd) (a:AV):Bool:=match b,a with
 |[_],.agg _=>false
 |[_],.top=>false
 |[_],_=>true
 |_,.agg _=>true
 |_,_=>false
def Kk:List Kd→Bool
 |[]=>true
 |.slice _::_=>false
 |_::r=>Kk r
def pC (j:Nat):Kd→AV
 |.int k=>.si k (.var j)
 |.bool=>.sb true (.var j)
 |.str=>.ss (.var j)
 |.slice _=>.top
def Ol:Nat→List Kd→List AV
 |_,[]=>[]
 |j,k::r=>pC j k::Ol (j+1) r
def LX:SE→List SE
 |.and a b=>LX a++LX b
 |.bc true=>[]
 |e=>[e]
def jW (i j:Nat):Kd→SE
 |.int _=>.eql (.var i) (.var j)
 |.bool=>jc (.and (.var i) (.bc true)) (.and (.var j) (.bc true))
 |.str=>.eqSS (.var i) (.var j)
 |.slice _=>.bc false
def U6:Nat→Nat→List Kd→List SE
 |_,_,[]=>[]
 |i,j,k::r=>jW i j k::U6 (i+1) (j+1) r
def Lx:List SE→List SE→Bool
 |[],[]=>true
 |a::l,b::m=>a.same b&&Lx l m
 |_,_=>false
def HX (E:Env) (b:TypeId) (a:List Kd):Bool:=
 match IC E 10000 b (Ov (Ol a.length a)) (Ov (Ol 0 a)) with
 |some e=>Kk a&&Lx (LX e) (U6 a.length 0 a)
 |none=>false
def Pa (E:Env) (t:TypeId):Option (TypeId×TypeId×List Kd×List Kd):=
 match E.desc t with
 |some (.map b d)=>match E.kinds b,E.kinds d with
  |some a,some c=>match HX E b a with
   |true=>some (b,d,a,c)
   |false=>none
  |_,_=>none
 |_=>none
def bu [Facts] (a b:List Kd) (k v:AV):Option SE:=
 match JE a k&&JE b v&&Nat.beq k.cells.length a.length with
 |true=>MA (a++b) (k.cells++v.cells)
 |false=>none
def NJ [Facts] (a b:List Kd):SE→List A0→Option SE
 |y,[]=>some y
 |y,e::r=>match bu a b e.key e.val with
  |some x=>NJ a b (.snoc y x) r
  |none=>none
def WT [Facts] (a:List Kd) (k:AV):Option SE:=
 match JE a k with
 |true=>MA a k.cells
 |false=>none
def ak (k:AV):Bool:=k.cells.any AV.isSym
def bW [Facts] (e f:TypeId) (a b:List Kd):Option Aj→Option SE
 |some (.dmap c d x)=>match Nat.beq e c&&Nat.beq f d with
  |true=>some x
  |false=>none
 |some (.map g _)=>NJ a b .emptyL g
 |_=>none
def PN [U:Facts] (E:Env) (t:TypeId) (m k:AV) (ok:Bool) (h:Aa):Option AV:=
 match Pa E t,m with
 |some (f,g,a,b),.map r=>match h.blk.get r with
  |some (.dmap d e x)=>match Nat.beq f d&&Nat.beq g e&&CP E 20 f k,E.zero g,WT a k with
   |true,some z,some i=>match AW U.facts (.lss (.mIdx a x i) (.c 0)) with
    |some true=>some (N0 ok z false)
    |some false=>match HN x (.mIdx a x i) (a++b) a.length b.length with
     |some l=>some (N0 ok (Ov l) true)
     |none=>none
    |none=>none
   |_,_,_=>none
  |_=>none
 |_,_=>none
def Qr [Facts] (E:Env) (t:TypeId) (m k:AV) (ok:Bool) (h:Aa):Option AV:=
 match PZ E t m k ok h with
 |some r=>some r
 |none=>match PN E t m k ok h with
 |some r=>some r
 |none=>match E.desc t,m with
  |some (.map a b),.map r=>match CP E 20 a k,E.zero b,h.blk.get r with
   |true,some z,some (.map c _)=>match Ft E a k c 0 with
    |some (some (_,v))=>some (N0 ok v true)
    |some none=>some (N0 ok z false)
    |none=>none
   |_,_,_=>none
  |_,_=>none
def Qb [U:Facts] (E:Env) (t:TypeId) (m k v:AV) (h:Aa):Option Aa:=
 match Pa E t,m with
 |some (d,e,a,b),.map r=>match CP E 20 d k,bW d e a b (h.blk.get r),WT a k with
  |true,some x,some f=>match bu a b k v,AW U.facts (.lss (.mIdx a x f) (.c 0)) with
   |some row,some true=>some (h.put r (.dmap d e (.snoc x row)))
   |some _,some false=>match Eb (.mIdx a x f) (a++b) x a.length v.cells with
    |some y=>some (h.put r (.dmap d e y))
    |none=>none
   |_,_=>none
  |_,_,_=>none
 |_,_=>none
def uh:Option Aj→Bool
 |some (.dmap _ _ _)=>true
 |_=>false
def gR (h:Aa):AV→Option Aj
 |.map r=>h.blk.get r
 |_=>none
def PR [Facts] (E:Env) (t:TypeId) (m k v:AV) (h:Aa):Option Aa:=
 match ak k||uh (gR h m) with
 |true=>match Qb E t m k v h with
  |some h'=>some h'
  |none=>JL E t m k v h
 |false=>JL E t m k v h
def QJ [U:Facts] (E:Env) (t:TypeId) (m k:AV) (h:Aa):Option Aa:=
 match Pa E t,m with
 |some (b,d,a,e),.map r=>match CP E 20 b k,bW b d a e (h.blk.get r),WT a k with
  |true,some x,some f=>match AW U.facts (.lss (.mIdx a x f) (.c 0)) with
   |some true=>some (h.put r (.dmap b d x))
   |some false=>some (h.put r (.dmap b d (.rmv x (.mIdx a x f))))
   |none=>none
  |_,_,_=>none
 |_,_=>none
def QF [Facts] (E:Env) (t:TypeId) (m k:AV) (h:Aa):Option Aa:=
 match LF E t m k h with
 |some h'=>some h'
 |none=>QJ E t m k h
def S7 [Facts] (e:TypeId) (h:Aa):AV→Option SE
 |.dat a y=>match Nat.beq e a with
  |true=>some y
  |false=>none
 |.asl b c n _=>match h.blk.get b with
  |some (.arr a y)=>match Nat.beq e a&&Nat.beq c 1&&Fy n y with
   |true=>some y
   |false=>none
  |_=>none
 |_=>none
def iC [U:Facts] (L:SE) (n:Nat):Option Nat:=
 match AW U.facts (.lss L (.c n)) with
 |some false=>some n
 |some true=>match bnd U.facts L with
  | (some l,some h)=>match l==h&&decide (0≤l) with
   |true=>some l.toNat
   |false=>none
  |_=>none
 |none=>none
def Gn [Facts] (y:SE) (kd:Kd):Nat→Nat→List AV
 |_,0=>[]
 |i,n+1=>Ks y (.c i) 0 kd::Gn y kd (i+1) n
def yV:Option (List Kd)→Option Kd
 |some [k]=>some k
 |_=>none
def az [Facts] (E:Env) (t:TypeId) (d x:AV) (h:Aa):Option (AV×Aa):=
 match Vv E t d x h with
 |some r=>some r
 |none=>match E.desc t with
  |some (.slice e)=>match yV (E.kinds e),E.szIs e 1,d,S7 e h x with
   |some kd,true,.slice b off n a,some y=>match Nat.beq a 1,iC (.lenL y) n with
    |true,some k=>match storeN h b off (Gn y kd 0 k) with
     |some h'=>some (.int .i64 k,h')
     |none=>none
    |_,_=>none
   |_,_,_,_=>none
  |_=>none
def Nv [Facts] (E:Env) (b:Builtin) (argTypes:List TypeId) (args:List AV) (h:Aa):Res:=
 match b,argTypes,args with
 |.len,t::_,x::_=>Ez h "len" (lz E t x h)
 |.append,[t,t'],[s,x]=>FA "append" (J4 E t t' s x h)
 |.copy,t::_,[d,x]=>FA "copy" (az E t d x h)
 |.delete,t::_,[m,k]=>Gv "delete" (QF E t m k h)
 |.max,_,l=>Ez h "max" (orA (xV l) (ay l))
 |.min,_,l=>Ez h "min" (orA (qq l) (Zx l))
 |.recover,_,_=>.recover h
 |.panic,_,[.iface t v]=>.panic (.iface t v) h
 |.clear,[t],[x]=>Gv "clear" (TX E t x h)
 |b,_,_=>.bad ("builtin " ++ reprStr b)
def Ed (c:Nat):Nat→Nat→Nat→Int
 |0,_,_=>-1
 |n+1,b,i=>match Nat.beq (b%256) c with
  |true=>i
  |false=>Ed c n (b/256) (i+1)
def PE (name:String) (args:List AV) (h:Aa):Res:=
 match name with
 | "maps.clone"=> match args with
  |[.iface t (.map r)]=>match h.blk.get r with
   |some (.map d a)=>.val (.iface t (.map h.nx)) (h.new (.map d a))
   |some (.dmap e f x)=>.val (.iface t (.map h.nx)) (h.new (.dmap e f x))
   |_=>.bad "maps.clone"
  |_=>.bad "maps.clone"
 | "internal/bytealg.IndexByteString"=> match args with
  |[.str l b,.int .u8 (.ofNat c)]=>match Nat.blt c 256 with
   |true=>.val (.int .i64 (Ed c l b 0)) h
   |false=>.bad "IndexByteString"
  |_=>.bad "IndexByteString"
 |_=>.bad ("native " ++ name)
def ZR (E:Env) (f:FuncId) (args:List AV) (h:Aa):Res:=
 match E.fn.get f with
 |some fn=>match fn.body with
  |some _=>.enter f args h
  |none=>PE fn.name args h
 |none=>.bad "no function"
def Fm (E:Env) (fn:Fn) (captured args:List AV) (h:Aa):Res:=
 match fn with
 |.func f=>ZR E f (args++captured) h
 |.yield l=>.round l args h
 |_=>.bad ""
def Uu [Facts] (E:Env) (tmps:T AV) (c:Call) (h:Aa):Res:=
 let args:=c.args.toList.map (Al tmps)
 match c.callee with
 |.builtin b=>Nv E b c.argTypes.toList args h
 |.invoke r name=>Fm E (.method name) [] (Al tmps r::args) h
 |.value f=>match Al tmps f with
  |.func fn first captured=>Fm E fn captured (first++args) h
  |_=>.bad "call of what"
def HK (tmps:T AV) (c:Call) (h:Aa):Res:=
 let args:=c.args.toList.map (Al tmps)
 match c.callee with
 |.value f=>match Al tmps f with
  |.func fn first captured=>.defer {fn:=some fn,coll:=0,captured,args:=first++args} h
  |_=>.bad "defer of what"
 |_=>.bad "defer builtin"
def Bp (tmps:T AV):Option Operand→Option AV
 |some o=>some (Al tmps o)
 |none=>none
def PC (E:Env) (a:List Field) (i:Nat):Option (Nat×Nat):=
 match a[i]? with
 |some f=>some (f.offset,E.size f.type)
 |none=>none
def SW (E:Env) (t:TypeId) (parts:List (Nat×AV)):Option AV:=
 match E.zero t,E.desc t with
 |some z,some (.struct a)=>match a.toList.all fun f=>E.has f.type with
  |true=>(FV (PC E a.toList) z.cells parts).map .agg
  |false=>none
 |some z,some (.array _ e)=>match E.has e with
  |true=>(FV (fun i=>some (i*E.size e,E.size e)) z.cells parts).map .agg
  |false=>none
 |_,_=>none
def Hu (E:Env) (t:TypeId) (len:Nat) (parts:List (Nat×AV)) (h:Aa):Option (AV×Aa):=
 match E.desc t with
 |some (.slice e)=>
  match Nat.ble (len*E.size e) 16777216,E.zero e with
  |true,some z=>match Nat.beq z.cells.length (E.size e) with
   |false=>none
   |true=>match FV (fun i=>some (i*E.size e,E.size e)) (DH z.cells len) parts with
    |some cells=>some (.slice h.nx 0 len (E.size e),Cr h cells)
    |none=>none
  |_,_=>none
 |_=>none
def In [Facts] (E:Env) (t:TypeId) (l c:AV) (h:Aa):Option (AV×Aa):=none
def RQ:TypeDesc→Bool
 |.interface _=>true
 |_=>false
def Qo (E:Env) (x:AV) (a:TypeId) (ok:Bool):Option AV:=
 match x with
 |.nilIface=>match ok,E.zero a with
  |true,some z=>some (.tuple [z,.bool false])
  |_,_=>none
 |.iface t v=>match Nat.beq t a with
  |true=>match ok with
   |true=>some (.tuple [v,.bool true])
   |false=>some v
  |false=>match ok,E.zero a with
   |true,some z=>some (.tuple [z,.bool false])
   |_,_=>none
 |_=>none
def P0 (E:Env) (x:AV) (a:TypeId) (ok:Bool):Option AV:=
 match E.desc a with
 |some d=>match RQ d with
  |true=>none
  |false=>Qo E x a ok
 |none=>none
def AV.isNil:AV→Bool
 |.nilIface=>true
 |_=>false
def QG [Facts]:SE→Bool
 |.strc l _=>Nat.ble l 4611686018427387903
 |e=>NT (.lss (.lenS e) (.c 4611686018427387904))
def kf [Facts] (c:BinOp) (a b:AV):Option AV:=
 match c with
 |.add=>match Su a,Su b with
  |some x,some y=>match QG x&&QG y with
   |true=>some (.ss (.strCat x y))
   |false=>none
  |_,_=>none
 |_=>none
def tC [Facts] (E:Env) (c:BinOp) (t:TypeId) (x y:Operand) (a b:AV):Option AV:=
 match a.isSym||b.isSym with
 |true=>match eqV (E.desc t) c a b with
  |some r=>some r
  |none=>match kf c a b with
   |some r=>some r
   |none=>iK c a b
 |false=>match a.isNil&&b.isNil with
 |true=>match Region.isConst x||Region.isConst y,E.desc t with
  |true,some (.interface _)=>match c with
   |.eql=>some (.bool true)
   |.neq=>some (.bool false)
   |_=>none
  |_,_=>none
 |false=>match TP E c t a b with
  |some r=>some r
  |none=>YJ E c t a b
def aop [U:Facts] (E:Env) (tmps:T AV) (h:Aa) (j:Op):Res:=
 match j with
 |.move x=>.val (Al tmps x) h
 |.assign x=>.val (Al tmps x) h
 |.pick c a b=>match Al tmps c with
  |.bool true=>.val (Al tmps a) h
  |.bool false=>.val (Al tmps b) h
  |.sb pos e=>match AW U.facts e with
   |some q=>match q==pos with
    |true=>.val (Al tmps a) h
    |false=>.val (Al tmps b) h
   |none=>.bad "pick"
  |_=>.bad "pick"
 |.alloc t=>match E.zero t with
  |some z=>.val (.ptr h.nx 0) (Cr h z.cells)
  |none=>.bad "alloc"
 |.box _ x=>match (Al tmps x).isTop with
  |true=>.bad "box"
  |false=>.val (.ptr h.nx 0) (Cr h (Al tmps x).cells)
 |.build t n=>Ez h "build" (SW E t (n.toList.map fun (i,x)=>(i,Al tmps x)))
 |.buildSlice t len n=>FA "buildSlice" (Hu E t len (n.toList.map fun (i,x)=>(i,Al tmps x)) h)
 |.load t a=>Ez h "load" (Z1 E t (Al tmps a) h)
 |.store t a x=>Gv "store" (M2 E t (Al tmps a) (Al tmps x) h)
 |.nilCheck x=>match Al tmps x with
  |.ptr b off=>.val (.ptr b off) h
  |.func (.func f) a b=>.val (.func (.func f) a b) h
  |.func (.yield f) a b=>.val (.func (.yield f) a b) h
  |.iface t v=>.val (.iface t v) h
  |_=>.bad "nilCheck"
 |.binOp j t x y _=>Ez h "binOp" (tC E j t x y (Al tmps x) (Al tmps y))
 |.unOp j _ x=>Ez h "unOp" (unB j (Al tmps x))
 |.convert s d x=>FA "convert" (Yo E s d (Al tmps x) h)
 |.makeInterface t x=>match E.desc t with
  |some (.interface _)=>.bad "makeInterface"
  |some _=>.val (.iface t (Al tmps x)) h
  |none=>.bad "makeInterface"
 |.makeFunc (.yield _) _ _=>.bad "makeFunc"
 |.makeFunc fn first captured=>.val (.func fn (first.toList.map (Al tmps)) (captured.toList.map (Al tmps))) h
 |.makeMap _ none=>.val (.map h.nx) (h.new (.map [] 0))
 |.makeMap t (some r)=>match E.desc t,Al tmps r with
  |some (.map _ _),.int _ _=>.val (.map h.nx) (h.new (.map [] 0))
  |_,_=>.bad "makeMap"
 |.makeSlice t l c=>FA "makeSlice" (In E t (Al tmps l) (Al tmps c) h)
 |.slice t x lo hi o=>FA "slice" (match o,hi with
  |some _,none=>none
  |_,_=>sliceB E t (Al tmps x) (Bp tmps lo) (Bp tmps hi) (Bp tmps o) h)
 |.fieldAddr t x f=>Ez h "fieldAddr" (It E t (Al tmps x) f)
 |.field t x f=>Ez h "field" (Tg E t (Al tmps x) f)
 |.indexAddr t x i=>Ez h "indexAddr" (IK E t (Al tmps x) (Al tmps i))
 |.index t x i=>Ez h "index" (S2 E t (Al tmps x) (Al tmps i))
 |.lookup t m k ok=>Ez h "lookup" (Qr E t (Al tmps m) (Al tmps k) ok h)
 |.mapUpdate t m k v=>Gv "mapUpdate" (PR E t (Al tmps m) (Al tmps k) (Al tmps v) h)
 |.insert t m k v=>Gv "insert" (JL E t (Al tmps m) (Al tmps k) (Al tmps v) h)
 |.mapEntry t m k=>FA "mapEntry" (Ux E t (Al tmps m) (Al tmps k) h)
 |.entryStore _ m st v=>Gv "entryStore" (Hh (Al tmps m) (Al tmps st) (Al tmps v) h)
 |.range t x=>FA "range" (UO E t (Al tmps x) h)
 |.next it g=>FA "next" (aH (Al tmps it) g h)
 |.typeAssert x _ t ok=>Ez h "typeAssert" (P0 E (Al tmps x) t ok)
 |.extract t i=>match Al tmps t with
  |.tuple vs=>Ez h "extract" vs[i]?
  |_=>.bad "extract"
 |.call c=>Uu E tmps c h
 |.defer c=>HK tmps c h
 |.panic x=>match Al tmps x with
  |.iface t v=>.panic (.iface t v) h
  |_=>.bad "panic"
 |.sliceToArrayPointer ..=>.bad "sliceToArrayPointer"
 |.ready _=>.bad "ready"
 |.waits _=>.bad "waits"
 |.entry it=>Ez h "entry" (Ir (Al tmps it) h)
 |.makeChan ..=>.bad "makeChan"
 |.go _=>.bad "go"
 |.send ..=>.bad "send"
 |.recv ..=>.bad "recv"
 |.select ..=>.bad "select"
def Eh [U:Facts] (all:Array Oper) (o:Oper) (tmps:T AV):Option Bool:=
 match o.guard with
 |none=>some true
 |some (j,a)=>
  match all.toList[j]? with
  |some g=>match g.dst with
   |some d=>match tmps.get d with
    |some (.bool b)=>some (b==a)
    |some .top=>none
    |some (.sb pos e)=>match AW U.facts e with
     |some c=>some ((c==pos)==a)
     |none=>none
    |none=>none
    |_=>some false
   |none=>some false
  |none=>some false
def MX (nt:Nat) (tmps:T AV) (dst:Option Tmp) (v:AV):Option (T AV):=
 match dst with
 |some d=>match Nat.blt d nt with
  |true=>some (tmps.set d v)
  |false=>none
 |none=>some tmps
def Dh (fr:AF) (v:AV):Option AF:=
 match fr.todo with
 |.ops all (o::rest)::k=>match MX fr.nt fr.tmps o.dst v with
  |some t=>some {fr with tmps:=t,todo:=.ops all rest::k}
  |none=>none
 |.inRange l::k=>some {fr with todo:=.endRange l::k}
 |.beginRound::k=>some {fr with todo:=k}
 |_=>none
def Oy (id:Nat):List AI→Option (List AI)
 |.inBlock a::k=>match Nat.beq a id with|true=>some k|false=>Oy id k
 |_::k=>Oy id k
 |[]=>none
def Jc:List AI→Bool
 |.rest::_=>true
 |_::k=>Jc k
 |[]=>false
def Om (l:Nat):List AI→Option (List AI)
 |.inScope body::k=>
  match findLabel body l with
  |some rest=>some (.code rest::.inScope body::k)
  |none=>Om l k
 |_::k=>Om l k
 |[]=>none
inductive Out where
 |next (s:AS)
 |done (ok:Bool) (v:AV) (h:Aa)
 |draw (s:AS) (ops:Array Oper) (k:List AI)
 |bad (why:String)
 deriving Inhabited
def BT (E:Env) (f:FuncId) (args:List AV) (kind:CallKind):Option AF:=
 match E.fn.get f with
 |some fn=>match fn.body with
  |some c=>some {fn:=f,nt:=max fn.ntmps args.length,tmps:=.ofList args,todo:=[.code c],defers:=[],mode:=.run,kind,round:=none}
  |none=>none
 |none=>none
def FD (nt:Nat):T AV→List Tmp→List AV→Option (T AV)
 |t,[],[]=>some t
 |t,p::b,a::c=>match Nat.blt p nt with
  |true=>FD nt (t.set p a) b c
  |false=>none
 |_,_,_=>none
def Hr (l:Nat) (args:List AV) (h:Aa):Option AF:=
 match h.blk.get l with
 |some (.loop _ _ fn nt tmps params assign body _)=>match FD nt tmps params args with
  |some t=>some {fn,nt,tmps:=t,todo:=[.code assign,.beginRound,.code body],defers:=[],mode:=.run,kind:=.normal,round:=some l}
  |none=>none
 |_=>none
def EB (fr:AF) (cs:List AF) (v:AV) (h:Aa):Out:=
 match cs with
 |c::rest=>
  match fr.kind with
  |.normal=>match Dh c v with
   |some a=>.next {fr:=a,cs:=rest,h}
   |none=>.bad "finish"
  |.deferred=>
   match c.mode with
   |.panic ((_,true)::_)=>.next {fr:={c with mode:=.ret},cs:=rest,h}
   |_=>.next {fr:=c,cs:=rest,h}
  |_=>.bad "kind"
 |[]=>match fr.kind with
  |.normal=>.done true v h
  |_=>.bad "kind at the bottom"
def CM (E:Env) (fr:AF) (cs:List AF) (r:Res):Out:=
 match r with
 |.val v h=>match Dh fr v with
  |some a=>.next {fr:=a,cs,h}
  |none=>.bad "finish"
 |.enter f args h=>match BT E f args .normal with
  |some g=>.next {fr:=g,cs:=fr::cs,h}
  |none=>.bad "enter"
 |.round l args h=>match Hr l args h with
  |some g=>.next {fr:=g,cs:=fr::cs,h}
  |none=>.bad "yield"
 |.defer d h=>match fr.round with
  |some _=>.bad "defer in a round"
  |none=>match Dh fr .undef with
   |some a=>.next {fr:={a with defers:=d::a.defers},cs,h}
   |none=>.bad "finish"
 |.recover h=>match fr.round,fr.kind,cs with
  |none,.deferred,c::rest=>match c.mode with
   |.panic ((v,false)::b)=>match Dh fr v with
    |some a=>.next {fr:=a,cs:={c with mode:=.panic ((v,true)::b)}::rest,h}
    |none=>.bad "finish"
   |_=>match Dh fr .nilIface with
    |some a=>.next {fr:=a,cs,h}
    |none=>.bad "finish"
  |_,_,_=>.bad "recover"
 |.panic v h=>match fr.mode with
  |.run=>.next {fr:={fr with mode:=.panic [(v,false)]},cs,h}
  |_=>.bad "panic"
 |.bad w=>.bad w
def Fs (fr:AF) (cs:List AF) (h:Aa) (a:Option Code):Out:=
 match fr.round with
 |none=>match a with
  |none=>.next {fr:={fr with mode:=.ret},cs,h}
  |some .ret=>.next {fr:={fr with mode:=.ret},cs,h}
  |_=>.bad "leave"
 |some l=>match h.blk.get l with
  |some (.loop _ _ fn nt tmps params assign body defers)=>
   EB fr cs (.bool a.isNone) (h.put l (.loop (if a.isNone then .ready else .done) a fn nt tmps params assign body defers))
  |_=>.bad "no loop"
def Dc (E:Env) (fr:AF) (h:Aa):List ResultVar→Option (List AV)
 |[]=>some []
 |.tmp t::r=>match Dc E fr h r with
  |some l=>some ((match fr.tmps.get t with|some v=>v|none=>.top)::l)
  |none=>none
 |.cell a t::r=>match fr.tmps.get a with
  |some p=>match Sz E t p h,Dc E fr h r with
   |some v,some l=>some (v::l)
   |_,_=>none
  |none=>none
def GK (E:Env) (fr:AF) (cs:List AF) (h:Aa):Out:=
 match fr.defers with
 |d::a=>match d.fn with
  |none=>match h.blk.get d.coll with
   |some (.deferred (some l))=>.next {fr:={fr with defers:=l++a},cs,h:=h.put d.coll (.deferred none)}
   |_=>.bad "collected"
  |some fn=>match Fm E fn d.captured d.args h with
   |.enter f args h=>match BT E f args .deferred with
    |some g=>.next {fr:=g,cs:={fr with defers:=a}::cs,h}
    |none=>.bad "enter deferred"
   |_=>.bad "deferred what"
 |[]=>match fr.mode with
  |.run=>.bad "unwind run"
  |.panic Jp=>match cs with
   |c::rest=>match c.mode with
    |.run=>.next {fr:={c with mode:=.panic Jp},cs:=rest,h}
    |_=>.bad "panic in a deferred call"
   |[]=>match Jp with
    |[(v,false)]=>match E.fn.get fr.fn with
     |some _=>.done false v h
     |none=>.bad "no function"
    |_=>.bad "panic at the bottom"
  |.ret=>match E.fn.get fr.fn with
   |some fn=>match Dc E fr h fn.results.toList with
    |some [v]=>EB fr cs v h
    |some l=>EB fr cs (.tuple l) h
    |none=>.bad "results"
   |none=>.bad "no function"
def U9 (fr:AF) (h:Aa):Option (Nat×Aa×List AD):=
 match fr.round with
 |some l=>match h.blk.get l with
  |some (.loop _ _ _ _ _ _ _ _ d)=>some (d,h,[])
  |_=>none
 |none=>some (h.nx,h.new (.deferred (some [])),[{fn:=none,coll:=h.nx,captured:=[],args:=[]}])
def H3 (E:Env) (s:AS) (f:Operand) (params:List Tmp) (assign body:Code) (k:List AI):Out:=
 match U9 s.fr s.h with
 |some (d,a,mark)=>
  match Al s.fr.tmps f with
  |.func fn first captured=>
   match Fm E fn captured (first++[.func (.yield a.nx) [] []]) (a.new (.loop .ready none s.fr.fn s.fr.nt s.fr.tmps params assign body d)) with
   |.enter g args _=>match BT E g args .normal with
    |some b=>.next {fr:=b,cs:={s.fr with todo:=.inRange a.nx::k,defers:=mark++s.fr.defers}::s.cs,h:=a.new (.loop .ready none s.fr.fn s.fr.nt s.fr.tmps params assign body d)}
    |none=>.bad "enter"
   |_=>.bad "range over what"
  |_=>.bad "range over what"
 |none=>.bad "rangeFunc"
def HD [U:Facts] (E:Env) (s:AS):Out:=
 let fr:=s.fr
 let to (k:List AI):Out:=.next {s with fr:={fr with todo:=k}}
 match fr.mode with
 |.run=>match fr.todo with
  |[]=>Fs fr s.cs s.h none
  |.inBlock _::k=>to k
  |.inScope _::k=>to k
  |.inLoop body::k=>to (.code body::.inLoop body::k)
  |.ops _ []::k=>to k
  |.ops all (o::_)::_=>
   match Eh all o fr.tmps with
   |some true=>CM E fr s.cs (aop E fr.tmps s.h o.op)
   |some false=>CM E fr s.cs (.val .undef s.h)
   |none=>.bad "wanted"
  |.inRange _::_=>.bad "inRange"
  |.dead::_=>.bad "dead"
  |.rest::_=>.bad "rest"
  |.endRange l::k=>match s.h.blk.get l with
   |some (.loop st pending fn nt tmps params assign body defers)=>match st with
    |.busy=>.bad "loop busy"
    |_=>.next {s with fr:={fr with todo:=match pending with|some c=>.code c::k|none=>k},h:=s.h.put l (.loop .exhausted pending fn nt tmps params assign body defers)}
   |_=>.bad "endRange"
  |.beginRound::k=>match fr.round with
   |some l=>match s.h.blk.get l with
    |some (.loop .ready pending fn nt tmps params assign body defers)=>
     .next {s with fr:={fr with todo:=k},h:=s.h.put l (.loop .busy pending fn nt tmps params assign body defers)}
    |_=>.bad "beginRound"
   |none=>.bad "beginRound"
  |.code c::k=>match c with
   |.ret=>Fs fr s.cs s.h (some .ret)
   |.skip=>to k
   |.label _=>to k
   |.seq a b=>to (.code a::.code b::k)
   |.cond c x y=>match Al fr.tmps c with
    |.bool true=>to (.code x::k)
    |.bool false=>to (.code y::k)
    |.sb pos e=>match AW U.facts e with
     |some c=>match c==pos with
      |true=>to (.code x::k)
      |false=>to (.code y::k)
     |none=>.bad "cond"
    |_=>.bad "cond"
   |.block id body=>to (.code body::.inBlock id::k)
   |.loop body=>to (.code body::.inLoop body::k)
   |.scope body=>to (.code body::.inScope body::k)
   |.exit id=>match Oy id k with
    |some g=>to g
    |none=>match Jc k with
     |true=>.bad "exit"
     |false=>Fs fr s.cs s.h (some (.exit id))
   |.goto l=>match Om l k with
    |some g=>to g
    |none=>match Jc k with
     |true=>.bad "goto"
     |false=>Fs fr s.cs s.h (some (.goto l))
   |.rangeFunc f params assign body=>H3 E s f params.toList assign body k
   |.region _ ops d=>match d with
    |false=>to (.ops ops ops.toList::k)
    |true=>.draw s ops k
   |.refuse i=>.bad i
 |_=>GK E fr s.cs s.h
structure Rc where
 wr:List Nat
 fp:Option (List Nat)
 lo:Nat
 hi:Nat
 dst:Option Tmp
 looks:List Tmp
 mask:Nat
 deriving Inhabited
def tH:AV→List Nat
 |.ptr b _=>[b]
 |.slice b _ _ _=>[b]
 |.map b=>[b]
 |.asl b _ _ _=>[b]
 |.aptr b _ _ _=>[b]
 |.nmap b _=>[b]
 |_=>[]
def pX:Operand→List Tmp
 |.tmp t=>[t]
 |_=>[]
def C0 (all:Array Oper) (o:Oper):List Tmp:=
 o.op.operands.toList.flatMap pX++(match o.guard with
  |some (g,_)=>(match all.toList[g]? with
   |some x=>x.dst.toList
   |none=>[])
  |none=>[])
def NQ (b:Nat):List Nat→Bool
 |[]=>false
 |c::r=>match Nat.beq b c with
  |true=>true
  |false=>NQ b r
def Ma:List Nat→List Nat→Bool
 |[],_=>true
 |b::r,l=>match NQ b l with
  |true=>false
  |false=>Ma r l
def M9 (w:List Nat):Option (List Nat)→Bool
 |none=>w.isEmpty
 |some l=>Ma w l
def eS (l:List Nat):Option Tmp→Bool
 |some d=>NQ d l
 |none=>false
def gN:Option Tmp→Option Tmp→Bool
 |some a,some b=>Nat.beq a b
 |_,_=>false
def dz (lo hi:Nat):List Nat→Bool
 |[]=>true
 |b::r=>match Nat.ble lo b&&Nat.blt b hi with
  |true=>false
  |false=>dz lo hi r
def Rc.apart (x y:Rc):Bool:=
 M9 x.wr y.fp&&M9 y.wr x.fp&&Ma x.wr y.wr&&dz x.lo x.hi y.wr && !eS y.looks x.dst && !eS x.looks y.dst && !gN x.dst y.dst
def Gi (y:Rc):List Rc→Nat→Bool
 |[],_=>true
 |x::r,i=>match Nat.beq (y.mask/2^i%2) 1||x.apart y with
  |true=>Gi y r (i+1)
  |false=>false
def C7 (recs:List Rc):List Edge→Option Nat
 |[]=>some 0
 |e::r=>match C7 recs r with
  |none=>none
  |some m=>match Region.binds .any e with
   |false=>some m
   |true=>match recs[e.on]? with
    |some x=>some (m ||| x.mask ||| 2^e.on)
    |none=>none
def D8 (h:Aa):List Nat→T Aj
 |[]=>.nil
 |b::r=>match h.blk.get b with
  |some x=>(D8 h r).set b x
  |none=>D8 h r
def IG (blk a:T Aj):List Nat→T Aj
 |[]=>blk
 |b::r=>match a.get b,blk.get b with
  |some x,some _=>(IG blk a r).set b x
  |_,_=>(IG blk a r).del b
def Kv (blk a:T Aj) (i:Nat):Nat→T Aj
 |0=>blk
 |n+1=>match a.get i with
  |some x=>(Kv blk a (i+1) n).set i x
  |none=>Kv blk a (i+1) n
def NA:Op→Bool
 |.next ..=>false
 |.entry _=>false
 |.call c=>match c.callee with
  |.builtin _=>true
  |_=>false
 |.defer _=>false
 |.panic _=>false
 |_=>true
def dK:Op→List Operand
 |.load _ a=>[a]
 |.store _ a x=>[a,x]
 |.convert _ _ x=>[x]
 |.slice _ x _ _ _=>[x]
 |.lookup _ m _ _=>[m]
 |.mapUpdate _ m _ _=>[m]
 |.insert _ m _ _=>[m]
 |.mapEntry _ m _=>[m]
 |.entryStore _ m _ _=>[m]
 |.range _ x=>[x]
 |.call c=>c.args.toList
 |_=>[]
def ly:AV→List Nat
 |.slice b _ _ _=>[b]
 |.asl b _ _ _=>[b]
 |_=>[]
def TV (c:T AV):Nat→List Nat
 |0=>[]
 |n+1=>match c.get n with
  |some a=>ly a++TV c n
  |none=>TV c n
def rN (h:Aa) (b:Nat):List Nat:=
 match h.blk.get b with
 |some (.cells n c)=>match Nat.ble n 256 with
  |true=>TV c n
  |false=>[]
 |_=>[]
def nw:AV→List Nat
 |.agg l=>l.flatMap ly
 |a=>ly a
def cH (tmps:T AV) (h:Aa):Op→List Nat
 |.call c=>match c.callee with
  |.builtin .append=>(c.args.toList.flatMap fun x=>tH (Al tmps x)).flatMap (rN h)
  |_=>[]
 |.store _ a x=>match Al tmps a with
  |.aptr ..=>nw (Al tmps x)
  |_=>[]
 |_=>[]
def Y2 (tmps:T AV) (h:Aa) (o:Op):List Nat:=((dK o).map (Al tmps)).flatMap tH++cH tmps h o
def Db (n:Nat):List Nat→List Nat
 |[]=>[]
 |b::r=>match Nat.blt b n with
  |true=>b::Db n r
  |false=>Db n r
def BA (h g:Aa):Aa:=
 {blk:=Kv (IG h.blk g.blk (Db h.nx g.log)) g.blk h.nx (g.nx-h.nx),nx:=g.nx,log:=Db h.nx g.log++h.log}
def B9 [Facts] (tmps:T AV):List Tmp→T AV
 |[]=>.nil
 |t::r=>match tmps.get t with
  |some v=>(B9 tmps r).set t (aW v)
  |none=>B9 tmps r
structure Did where
 ok:Bool
 v:AV
 g:Aa
 fp:Option (List Nat)
 deriving Inhabited
def G7 [Facts] (E:Env) (a:Ask→Aa→Option (Bool×AV×Aa)) (all:Array Oper) (o:Oper) (tmps:T AV) (h:Aa):Option Did:=
 match Eh all o tmps with
 |none=>none
 |some false=>some ⟨true,.undef,{blk:=.nil,nx:=h.nx,log:=[]},some []⟩
 |some true=>match NA o.op with
  |true=>
   let b:=Y2 tmps h o.op
   match aop E tmps {blk:=D8 h b,nx:=h.nx,log:=[]} o.op with
   |.val v g=>some ⟨true,v,g,some b⟩
   |_=>none
  |false=>match aop E tmps {h with log:=[]} o.op with
   |.enter f args _=>match a (.enter f args) {h with log:=[]} with
    |some (ok,v,g)=>some ⟨ok,v,g,none⟩
    |none=>none
   |.round l args _=>match a (.round l args) {h with log:=[]} with
    |some (ok,v,g)=>some ⟨ok,v,g,none⟩
    |none=>none
   |_=>none
def FQ (recs:List Rc) (j:Nat):List Oper→Bool
 |[]=>true
 |o::rest=>match C7 recs o.after.toList with
  |none=>false
  |some mask=>match Nat.beq (mask/2^j%2) 1 with
   |false=>false
   |true=>FQ (recs++[{wr:=[],fp:=none,lo:=0,hi:=0,dst:=none,looks:=[],mask}]) j rest
def DJ [Facts] (E:Env) (b:Ask→Aa→Option (Bool×AV×Aa)) (all:Array Oper) (nt:Nat):List Oper→List Rc→T AV→Aa→Option (Option AV×T AV×Aa)
 |[],_,tmps,h=>some (none,tmps,h)
 |o::rest,a,tmps,h=>
  match C7 a o.after.toList with
  |none=>none
  |some mask=>match G7 E b all o (B9 tmps (C0 all o)) h with
   |none=>none
   |some d=>match Nat.ble h.nx d.g.nx,d.ok with
    |false,_=>none
    |true,true=>
     match Gi {wr:=Db h.nx d.g.log,fp:=d.fp,lo:=h.nx,hi:=d.g.nx,dst:=o.dst,looks:=C0 all o,mask} a 0 with
     |false=>none
     |true=>match MX nt tmps o.dst d.v with
      |none=>none
      |some c=>DJ E b all nt rest (a++[{wr:=Db h.nx d.g.log,fp:=d.fp,lo:=h.nx,hi:=d.g.nx,dst:=o.dst,looks:=C0 all o,mask}]) c (BA h d.g)
    |true,false=>match Nat.beq (mask+1) (2^a.length)&&FQ (a++[{wr:=[],fp:=none,lo:=0,hi:=0,dst:=none,looks:=[],mask}]) a.length rest with
     |true=>some (some d.v,tmps,BA h d.g)
     |false=>none
end Go.AE
namespace Go.AE
theorem AK {i j:Nat} (h:Nat.beq i j=true):i=j:=F7 h
theorem ZX {i j:Nat} (h:Nat.beq i j=false):i≠j:=Nat.ne_of_beq_eq_false h
theorem FL (i:Nat):Nat.beq i i=true:=Nat.beq_refl i
theorem Gr {i j:Nat} (h:i≠j):Nat.beq i j=false:=by
 cases e:Nat.beq i j with
 |false=>rfl
 |true=>exact absurd (AK e) h
theorem T.get_zero {j:Type} (v:Option j) (l r:T j) {i:Nat} (h:i=0):(T.node v l r).get i=v:=by
 subst h;rfl
theorem T.get_odd {j:Type} (v:Option j) (l r:T j) {i:Nat} (h:i%2=1):(T.node v l r).get i=l.get (i/2):=by
 rw [T.get,Gr (show i≠0 by omega),h]
theorem T.get_even {j:Type} (v:Option j) (l r:T j) {i:Nat} (h:i%2=0) (h0:i≠0):(T.node v l r).get i=r.get (i/2-1):=by
 rw [T.get,Gr h0,h]
theorem T.get_setF {I:Type} (x:Option I):∀(f:Nat) (t:T I) (i j:Nat),i<f→(T.setF f t i x).get j=if i=j then x else t.get j:=by
 intro f
 induction f with
 |zero=>intro t i j h;omega
 |succ f ih=>
  intro t i j h
  have key:∀(v:Option I) (l r:T I),(T.setF (f+1) (.node v l r) i x).get j=if i=j then x else (T.node v l r).get j:=by
   intro v l r;by_cases hi:i=0
   ·have e:T.setF (f+1) (.node v l r) i x=.node x l r:=by rw [T.setF,hi]
    rw [e];by_cases C:i=j
    ·rw [if_pos C,T.get_zero _ _ _ (by omega)]
    ·rw [if_neg C];by_cases hp:j%2=1
     ·rw [T.get_odd _ _ _ hp,T.get_odd _ _ _ hp]
     ·rw [T.get_even _ _ _ (by omega) (by omega),T.get_even _ _ _ (by omega) (by omega)]
   ·by_cases hp:i%2=1
    ·have e:T.setF (f+1) (.node v l r) i x=.node v (T.setF f l (i/2) x) r:=by rw [T.setF,Gr hi,hp]
     rw [e];by_cases C:j=0
     ·rw [if_neg (by omega),T.get_zero _ _ _ C,T.get_zero _ _ _ C]
     ·by_cases J:j%2=1
      ·rw [T.get_odd _ _ _ J,T.get_odd _ _ _ J,ih l (i/2) (j/2) (by omega)]
       by_cases e:i=j
       ·rw [if_pos e,if_pos (by omega)]
       ·rw [if_neg e,if_neg (by omega)]
      ·rw [if_neg (by omega),T.get_even _ _ _ (by omega) C,T.get_even _ _ _ (by omega) C]
    ·have e:T.setF (f+1) (.node v l r) i x=.node v l (T.setF f r (i/2-1) x):=by
      rw [T.setF,Gr hi,Gr hp]
     rw [e];by_cases C:j=0
     ·rw [if_neg (by omega),T.get_zero _ _ _ C,T.get_zero _ _ _ C]
     ·by_cases J:j%2=1
      ·rw [if_neg (by omega),T.get_odd _ _ _ J,T.get_odd _ _ _ J]
      ·rw [T.get_even _ _ _ (by omega) C,T.get_even _ _ _ (by omega) C,ih r (i/2-1) (j/2-1) (by omega)]
       by_cases e:i=j
       ·rw [if_pos e,if_pos (by omega)]
       ·rw [if_neg e,if_neg (by omega)]
  cases t with
  |node v l r=>exact key v l r
  |nil=>
   have h1:T.setF (f+1) .nil i x=T.setF (f+1) (.node none .nil .nil) i x:=by
    simp only [T.setF]
   have h2:(T.node (none:Option I) .nil .nil).get j=(T.nil:T I).get j:=by
    by_cases C:j=0
    ·rw [T.get_zero _ _ _ C];rfl
    ·by_cases hp:j%2=1
     ·rw [T.get_odd _ _ _ hp];rfl
     ·rw [T.get_even _ _ _ (by omega) C];rfl
   rw [h1,key,h2]
theorem T.get_set {r:Type} (t:T r) (i j:Nat) (x:r):(t.set i x).get j=if i=j then some x else t.get j:=T.get_setF _ _ _ _ _ (by omega)
theorem T.get_del {r:Type} (t:T r) (i j:Nat):(t.del i).get j=if i=j then none else t.get j:=T.get_setF _ _ _ _ _ (by omega)
theorem T.get_nil {j:Type} (i:Nat):(T.nil:T j).get i=none:=rfl
theorem T.get_ofListFrom {C:Type}:∀(l:List C) (i:Nat) (t:T C) (j:Nat),(T.ofListFrom l i t).get j=if i≤j∧j<i+l.length then l[j-i]? else t.get j:=by
 intro l
 induction l with
 |nil=>intro i t j;simp [T.ofListFrom];omega
 |cons x r I=>
  intro i t j;simp only [T.ofListFrom,I,T.get_set,F2];by_cases h1:i+1≤j∧j<i+1+r.length
  ·rw [if_pos h1,if_pos (by omega)]
   have:j-i=(j-(i+1))+1:=by omega
   rw [this,EQ]
  ·rw [if_neg h1];by_cases h2:i=j
   ·subst h2;rw [if_pos rfl,if_pos (by omega)];simp
   ·rw [if_neg h2,if_neg (by omega)]
theorem T.get_ofList {r:Type} (l:List r) (j:Nat):(T.ofList l).get j=l[j]?:=by
 simp only [T.ofList,T.get_ofListFrom,T.get_nil];by_cases h:j<l.length
 ·rw [if_pos (by omega)];simp
 ·rw [if_neg (by omega)];simp;omega
theorem T.range_spec {J:Type} (t:T J):∀(n i:Nat) (l:List J),t.range i n=some l→l.length=n∧∀j,j<n→t.get (i+j)=l[j]?:=by
 intro n
 induction n with
 |zero=>intro i l h;simp [T.range] at h;subst h;simp
 |succ n ih=>
  intro i l h;simp only [T.range] at h;cases C:t.get i with
  |none=>simp [C] at h
  |some x=>
   simp only [C] at h;cases I:t.range (i+1) n with
   |none=>simp [I] at h
   |some r=>
    simp only [I,A1] at h;subst h;obtain ⟨h1,h2⟩:=ih _ _ I;refine ⟨by simp [h1],fun j hj=>?_⟩
    cases j with
    |zero=>simpa using C
    |succ j=>have:=h2 j (by omega);simp only [EQ];rw [←this];congr 1;omega
theorem Gs:∀(l:List AV) (c:T AV) (off j:Nat),(FC c off l).get j=if off≤j∧j<off+l.length then l[j-off]? else c.get j:=by
 intro l
 induction l with
 |nil=>intro c off j;simp [FC];omega
 |cons x r d=>
  intro c i j;simp only [FC,d,T.get_set,F2];by_cases a:i+1≤j∧j<i+1+r.length
  ·rw [if_pos a,if_pos (by omega)]
   have:j-i=(j-(i+1))+1:=by omega
   rw [this,EQ]
  ·rw [if_neg a];by_cases b:i=j
   ·subst b;rw [if_pos rfl,if_pos (by omega)];simp
   ·rw [if_neg b,if_neg (by omega)]
variable [U:Vals]
structure DF where
 cb:Nat
 co:Nat
 csz:Nat
structure Ren where
 m:Nat→Option DF
 imm:Nat→Option (Array Value)
instance:CoeFun Ren (fun _=>Nat→Option DF):=⟨Ren.m⟩
def Ren.empty:Ren:=⟨fun _=>none,fun _=>none⟩
structure Ren.le (ρ σ:Ren):Prop where
 m:∀b base,ρ b=some base→σ b=some base
 imm:∀k a,ρ.imm k=some a→σ.imm k=some a
theorem Ren.le_refl (ρ:Ren):ρ.le ρ:=⟨fun _ _ h=>h,fun _ _ h=>h⟩
theorem Ren.le.trans {ρ j r:Ren} (h:ρ.le j) (k:j.le r):ρ.le r:=⟨fun b base e=>k.m b base (h.m b base e),fun b a e=>k.imm b a (h.imm b a e)⟩
def Ren.upd (ρ:Ren) (b:Nat) (base:DF):Ren:=⟨fun c=>if c=b then some base else ρ c,ρ.imm⟩
theorem Ren.le_upd {ρ:Ren} {b:Nat} (h:ρ b=none) (base:DF):ρ.le (ρ.upd b base):=by
 refine ⟨?_,fun _ _ h=>h⟩
 intro c d j;unfold Ren.upd;by_cases e:c=b
 ·subst e;rw [h] at j;cases j
 ·show (if c=b then some base else ρ c)=some d
  rw [if_neg e];exact j
theorem Ren.upd_same (ρ:Ren) (b:Nat) (base:DF):ρ.upd b base b=some base:=by simp [Ren.upd]
inductive DV (K:TypeId→Option (List Kd)) (M:Nat→Option (Array Value)):Kd→Value→D→Prop
 |bool (b:Bool) (d:D) (h:d.toBool=b):DV K M .bool (.bool b) d
 |int (k:IntKind) (n:Int) (d:D) (hr:k=.i64∨(k.min≤n∧n≤k.max)) (h:d.toInt=n):DV K M (.int k) (.int k n) d
 |str (s:ByteArray) (d:D) (h:d.toStr=s):DV K M .str (.string s) d
 |nil (e:TypeId) (d:D) (h1:d.isNil=true) (h2:d.rows=[]):DV K M (.slice e) (.slice none 0 0) d
 |empty (e:TypeId) (a:Addr) (cap:Nat) (d:D) (h1:d.isNil=false) (h2:d.rows=[]):DV K M (.slice e) (.slice (some a) 0 cap) d
 |slc (e:TypeId) (b off n cap:Nat) (d:D) (ks:List Kd) (arr:Array Value) (hk:K e=some ks) (ha:M b=some arr) (hn:d.rows.length=n) (hc:n≤cap) (h1:d.isNil=false)
   (hin:off+n*ks.length≤arr.size) (hrow:∀i,i<n→(d.rows.getD i default).cells.length=ks.length)
   (hv:∀i j kd,i<n→ks[j]?=some kd→DV K M kd (arr.getD (off+i*ks.length+j) Go.undef) ((d.rows.getD i default).cells.getD j default)) :
   DV K M (.slice e) (.slice (some ⟨b,off,none⟩) n cap) d
omit U in
theorem DV.mono {K:TypeId→Option (List Kd)} {M N:Nat→Option (Array Value)} (hle:∀k a,M k=some a→N k=some a) {k:Kd} {v:Value} {d:D} (h:DV K M k v d):DV K N k v d:=by
 induction h with
 |bool b d h=>exact .bool b d h
 |int k n d hr h=>exact .int k n d hr h
 |str s d h=>exact .str s d h
 |nil e d h1 h2=>exact .nil e d h1 h2
 |empty e a cap d h1 h2=>exact .empty e a cap d h1 h2
 |slc e b off n cap d ks arr hk ha hn hc h1 hin hrow hv ih=>exact .slc e b off n cap d ks arr hk (hle _ _ ha) hn hc h1 hin hrow ih
omit U in
theorem DV.slice_inv {K:TypeId→Option (List Kd)} {M:Nat→Option (Array Value)} {e:TypeId} {v:Value} {d:D} (h:DV K M (.slice e) v d):∃a n c,v=.slice a n c∧d.rows.length=n:=by
 cases h with
 |nil _ _ h1 h2=>exact ⟨_,_,_,rfl,by rw [h2];rfl⟩
 |empty _ _ _ _ h1 h2=>exact ⟨_,_,_,rfl,by rw [h2];rfl⟩
 |slc _ _ _ _ _ _ _ _ hk ha hn=>exact ⟨_,_,_,rfl,hn⟩
def By (K:TypeId→Option (List Kd)) (M:Nat→Option (Array Value)) (ks:List Kd) (f:Array Value) (off:Nat) (rows:List D):Prop:=
 off+rows.length*ks.length≤f.size∧(∀i,i<rows.length→(rows.getD i default).cells.length=ks.length)∧
  ∀i j kd,i<rows.length→ks[j]?=some kd→DV K M kd (f.getD (off+i*ks.length+j) Go.undef) ((rows.getD i default).cells.getD j default)
omit U in
theorem By.mono {K:TypeId→Option (List Kd)} {M N:Nat→Option (Array Value)} (hle:∀k a,M k=some a→N k=some a) {ks:List Kd} {cur:Array Value} {off:Nat} {rows:List D} (h:By K M ks cur off rows):By K N ks cur off rows:=
 ⟨h.1,h.2.1,fun i j kd a b=>(h.2.2 i j kd a b).mono hle⟩
def Ve:List Value→Value
 |[v]=>v
 |l=>.agg l.toArray
def KV (K:TypeId→Option (List Kd)) (M:Nat→Option (Array Value)) (ks:List Kd) (v:Value) (cs:List D):Prop:=
 ∃l:List Value,v=Ve l∧l.length=ks.length∧(∀u,l=[u]→∀a,u≠.agg a)∧∀(j:Nat) kd,ks[j]?=some kd→DV K M kd (l.getD j Go.undef) (cs.getD j default)
omit U in
theorem KV.mono {K:TypeId→Option (List Kd)} {M N:Nat→Option (Array Value)} (hle:∀k a,M k=some a→N k=some a) {ks:List Kd} {v:Value} {cs:List D} (h:KV K M ks v cs):KV K N ks v cs:=by
 obtain ⟨l,h1,h2,h3,h4⟩:=h;exact ⟨l,h1,h2,h3,fun j kd hj=>(h4 j kd hj).mono hle⟩
def Bx (K:TypeId→Option (List Kd)) (M:Nat→Option (Array Value)) (f g:List Kd):List MapEntry→List D→Prop
 |[],[]=>True
 |e::m,r::o=>r.cells.length=f.length+g.length∧KV K M f e.key r.cells∧KV K M g e.val (r.cells.drop f.length)∧Bx K M f g m o
 |_,_=>False
omit U in
theorem Bx.mono {K:TypeId→Option (List Kd)} {M N:Nat→Option (Array Value)} (hle:∀k a,M k=some a→N k=some a) {kks vks:List Kd}:∀{es:List MapEntry} {rs:List D},Bx K M kks vks es rs→Bx K N kks vks es rs
 |[],[],_=>trivial
 |_::_,_::_,⟨h1,h2,h3,h4⟩=>⟨h1,h2.mono hle,h3.mono hle,h4.mono hle⟩
 |[],_::_,h=>h.elim
 |_::_,[],h=>h.elim
omit U in
theorem Bx.length {K:TypeId→Option (List Kd)} {M:Nat→Option (Array Value)} {kks vks:List Kd}:∀{es:List MapEntry} {rs:List D},Bx K M kks vks es rs→es.length=rs.length
 |[],[],_=>rfl
 |_::_,_::_,⟨_,_,_,h4⟩=>by simp [h4.length]
 |[],_::_,h=>h.elim
 |_::_,[],h=>h.elim
def FnR (o:Ren):Fn→Fn→Prop
 |.yield l,g=>∃m,o l=some m∧g=.yield m.cb
 |f,g=>g=f
inductive VR (ρ:Ren):AV→Value→Prop
 |top (v:Value):VR ρ .top v
 |bool (b:Bool):VR ρ (.bool b) (.bool b)
 |int (k:IntKind) (n:Int):VR ρ (.int k n) (.int k n)
 |str (s:ByteArray):VR ρ (.str s.data.toList.length (AL s.data.toList)) (.string s)
 |ptr0:VR ρ .ptr0 (.pointer none)
 |ptr (b off:Nat) (base:DF) (h:ρ b=some base):VR ρ (.ptr b off) (.pointer (some ⟨base.cb,base.co+off,none⟩))
 |slice0:VR ρ .slice0 (.slice none 0 0)
 |slice (b off n es cap:Nat) (base:DF) (h:ρ b=some base) (hc:n≤cap) (hz:base.co+off+cap*es≤base.csz) :
   VR ρ (.slice b off n es) (.slice (some ⟨base.cb,base.co+off,none⟩) n cap)
 |sliceEnd (b off es:Nat) (a:Addr):VR ρ (.slice b off 0 es) (.slice (some a) 0 0)
 |map0:VR ρ .map0 (.map none)
 |map (b:Nat) (base:DF) (h:ρ b=some base):VR ρ (.map b) (.map (some base.cb))
 |func (fn fn':Fn) (f c:List AV) (f' c':List Value) (h:FnR ρ fn fn') (h1:f.length=f'.length)
   (h2:∀(i:Nat) (a:AV) (v:Value),f[i]?=some a→f'[i]?=some v→VR ρ a v) (h3:c.length=c'.length)
   (h4:∀(i:Nat) (a:AV) (v:Value),c[i]?=some a→c'[i]?=some v→VR ρ a v):VR ρ (.func fn f c) (.func fn' f'.toArray c'.toArray)
 |nilFunc:VR ρ .nilFunc .nilFunc
 |iface (t:TypeId) (a:AV) (v:Value) (h:VR ρ a v):VR ρ (.iface t a) (.iface t v)
 |nilIface:VR ρ .nilIface .nilIface
 |agg (l:List AV) (l':List Value) (h1:l.length=l'.length) (h2:∀(i:Nat) (a:AV) (v:Value),l[i]?=some a→l'[i]?=some v→VR ρ a v):VR ρ (.agg l) (.agg l'.toArray)
 |tuple (l:List AV) (l':List Value) (h1:l.length=l'.length) (h2:∀(i:Nat) (a:AV) (v:Value),l[i]?=some a→l'[i]?=some v→VR ρ a v):VR ρ (.tuple l) (.tuple l'.toArray)
 |sb (pos:Bool) (e:SB):VR ρ (.sb pos e) (.bool (Ah U.V e==pos))
 |si (k:IntKind) (e:SE):VR ρ (.si k e) (.int k (Af U.V e))
 |ss (x:SE):VR ρ (.ss x) (.string (Ba U.V x))
 |dat (e:TypeId) (x:SE) (a:Option Addr) (n c:Nat) (h:DV U.K ρ.imm (.slice e) (.slice a n c) (Ab U.V x)):VR ρ (.dat e x) (.slice a n c)
 |dptr (e:TypeId) (x i:SE) (off:Nat) (b o n cap:Nat) (ks:List Kd) (h:DV U.K ρ.imm (.slice e) (.slice (some ⟨b,o,none⟩) n cap) (Ab U.V x)) (hk:U.K e=some ks)
   (h0:0≤Af U.V i) (hi:(Af U.V i).toNat<n) (ho:off<ks.length):VR ρ (.dptr e x i off) (.pointer (some ⟨b,o+(Af U.V i).toNat*ks.length+off,none⟩))
 |asl (b es:Nat) (n nl:SE) (cap:Nat) (base:DF) (h:ρ b=some base) (h0:0≤Af U.V n) (hc:(Af U.V n).toNat≤cap) (hz:base.co+cap*es≤base.csz) (hn:Ah U.V nl=false) :
   VR ρ (.asl b es n nl) (.slice (some ⟨base.cb,base.co,none⟩) (Af U.V n).toNat cap)
 |aslEnd (b es:Nat) (n nl:SE) (a:Option Addr) (h0:Af U.V n=0) (hn:a.isNone=Ah U.V nl):VR ρ (.asl b es n nl) (.slice a 0 0)
 |eslc (nl:SE) (a:Option Addr) (hn:a.isNone=Ah U.V nl):VR ρ (.eslc nl) (.slice a 0 0)
 |aptr (b es:Nat) (i:SE) (off:Nat) (base:DF) (h:ρ b=some base) (h0:0≤Af U.V i):VR ρ (.aptr b es i off) (.pointer (some ⟨base.cb,base.co+(Af U.V i).toNat*es+off,none⟩))
 |nmap (b:Nat) (nl:SE) (base:DF) (h:ρ b=some base) (hn:Ah U.V nl=false):VR ρ (.nmap b nl) (.map (some base.cb))
 |nmap0 (b:Nat) (nl:SE) (hn:Ah U.V nl=true):VR ρ (.nmap b nl) (.map none)
def VL (ρ:Ren) (l:List AV) (l':List Value):Prop:=l.length=l'.length∧∀(i:Nat) (a:AV) (v:Value),l[i]?=some a→l'[i]?=some v→VR ρ a v
theorem VL.nil (ρ:Ren):VL ρ [] []:=⟨rfl,by simp⟩
theorem VL.cons {ρ:Ren} {a:AV} {v:Value} {l:List AV} {l':List Value} (h:VR ρ a v) (k:VL ρ l l'):VL ρ (a::l) (v::l'):=by
 refine ⟨by simp [k.1],fun i x y r C=>?_⟩
 cases i with
 |zero=>simp at r C;subst r;subst C;exact h
 |succ i=>simp at r C;exact k.2 i x y r C
theorem VL.nil_inv {ρ:Ren} {l':List Value} (h:VL ρ [] l'):l'=[]:=by
 have:=h.1;simp at this;exact F0 this.symm
theorem VL.cons_inv {ρ:Ren} {a:AV} {l:List AV} {l':List Value} (h:VL ρ (a::l) l'):∃v r,l'=v::r∧VR ρ a v∧VL ρ l r:=by
 cases l' with
 |nil=>have:=h.1;simp at this
 |cons v r=>exact ⟨v,r,rfl,h.2 0 a v rfl rfl,by have:=h.1;simpa using this,fun i x y C I=>h.2 (i+1) x y (by simpa using C) (by simpa using I)⟩
theorem VL.append {ρ:Ren} {l m:List AV} {l' I:List Value} (h:VL ρ l l') (k:VL ρ m I):VL ρ (l++m) (l'++I):=by
 refine ⟨by simp [h.1,k.1],fun i x y r C=>?_⟩
 by_cases hi:i<l.length
 ·rw [Ea hi] at r;rw [Ea (by rw [←h.1];exact hi)] at C
  exact h.2 i x y r C
 ·rw [E3 (by omega)] at r
  rw [E3 (by rw [←h.1];omega),←h.1] at C
  exact k.2 _ x y r C
theorem VL.get {ρ:Ren} {l:List AV} {l':List Value} (h:VL ρ l l') {i:Nat} {a:AV} (ha:l[i]?=some a):∃v,l'[i]?=some v∧VR ρ a v:=by
 have hi:i<l.length:=(B3.1 ha).1;have hi':i<l'.length:=by rw [←h.1];exact hi
 exact ⟨l'[i],by simp [hi'],h.2 i a _ ha (by simp [hi'])⟩
theorem VL.drop {ρ:Ren} {l:List AV} {l':List Value} (h:VL ρ l l') (n:Nat):VL ρ (l.drop n) (l'.drop n):=
 ⟨by simp [h.1],fun i a v ha hv=>h.2 (n+i) a v (by simpa using ha) (by simpa using hv)⟩
theorem VL.take {ρ:Ren} {l:List AV} {l':List Value} (h:VL ρ l l') (n:Nat):VL ρ (l.take n) (l'.take n):=by
 refine ⟨by simp [h.1],fun i a v ha hv=>?_⟩
 rw [XB] at ha hv;by_cases e:i<n
 ·rw [if_pos e] at ha hv;exact h.2 i a v ha hv
 ·rw [if_neg e] at ha;cases ha
theorem FnR.mono {ρ r:Ren} (hle:ρ.le r) {f g:Fn} (h:FnR ρ f g):FnR r f g:=by
 cases f<;>simp only [FnR] at h ⊢<;>first|exact h | (obtain ⟨base,h1,h2⟩:=h;exact ⟨base,hle.m _ _ h1,h2⟩)
theorem VR.mono {ρ σ:Ren} (hle:ρ.le σ) {a:AV} {v:Value} (h:VR ρ a v):VR σ a v:=by
 induction h with
 |top v=>exact .top v
 |bool b=>exact .bool b
 |int k n=>exact .int k n
 |str s=>exact .str s
 |ptr0=>exact .ptr0
 |ptr b off base h=>exact .ptr b off base (hle.m _ _ h)
 |slice0=>exact .slice0
 |slice b off n es cap base h hc r=>exact .slice b off n es cap base (hle.m _ _ h) hc r
 |sliceEnd b off es a=>exact .sliceEnd b off es a
 |map0=>exact .map0
 |map b base h=>exact .map b base (hle.m _ _ h)
 |func fn C f c f' c' h h1 h2 h3 h4 I J=>exact .func fn C f c f' c' (h.mono hle) h1 I h3 J
 |nilFunc=>exact .nilFunc
 |iface t a v h ih=>exact .iface t a v ih
 |nilIface=>exact .nilIface
 |agg l l' h1 h2 ih=>exact .agg l l' h1 ih
 |tuple l l' h1 h2 ih=>exact .tuple l l' h1 ih
 |sb pos e=>exact .sb pos e
 |si k e=>exact .si k e
 |ss x=>exact .ss x
 |dat e x a n c h=>exact .dat e x a n c (h.mono hle.imm)
 |dptr e x i off b o n cap ks h hk h0 hi ho=>exact .dptr e x i off b o n cap ks (h.mono hle.imm) hk h0 hi ho
 |asl b es n nl cap base h h0 hc r hn=>exact .asl b es n nl cap base (hle.m _ _ h) h0 hc r hn
 |aslEnd b es n nl a h0 hn=>exact .aslEnd b es n nl a h0 hn
 |eslc nl a hn=>exact .eslc nl a hn
 |aptr b es i off base h h0=>exact .aptr b es i off base (hle.m _ _ h) h0
 |nmap b nl base h hn=>exact .nmap b nl base (hle.m _ _ h) hn
 |nmap0 b nl hn=>exact .nmap0 b nl hn
theorem VL.mono {ρ r:Ren} (hle:ρ.le r) {l:List AV} {l':List Value} (h:VL ρ l l'):VL r l l':=⟨h.1,fun i a v ha hv=>(h.2 i a v ha hv).mono hle⟩
theorem VR.undef (ρ:Ren):VR ρ .undef Go.undef:=.tuple [] [] rfl (by simp)
structure TR (ρ:Ren) (nt:Nat) (t:T AV) (a:Array Value):Prop where
 size:a.size=nt
 get:∀i x,t.get i=some x→VR ρ x (a.getD i Go.undef)
theorem TR.mono {ρ r:Ren} (hle:ρ.le r) {nt:Nat} {t:T AV} {a:Array Value} (h:TR ρ nt t a):TR r nt t a:=⟨h.size,fun i x C=>(h.get i x C).mono hle⟩
def DR (m:Ren) (d:AD) (o:Deferred):Prop:=
 match d.fn with
 |some fn=>∃g p q,FnR m fn g∧VL m d.captured p∧VL m d.args q∧o={target:=.fn g p.toArray,args:=q.toArray}
 |none=>∃f,m d.coll=some f∧o={target:=.collected f.cb,args:=#[]}
def DL (f:Ren):List AD→List Deferred→Prop
 |[],[]=>True
 |d::r,g::m=>DR f d g∧DL f r m
 |_,_=>False
theorem DR.mono {ρ C:Ren} (hle:ρ.le C) {d:AD} {I:Deferred} (h:DR ρ d I):DR C d I:=by
 unfold DR at *;cases J:d.fn with
 |none=>rw [J] at h;obtain ⟨base,h1,h2⟩:=h;exact ⟨base,hle.m _ _ h1,h2⟩
 |some fn=>rw [J] at h;obtain ⟨r,c',a',h1,h2,h3,h4⟩:=h;exact ⟨r,c',a',h1.mono hle,h2.mono hle,h3.mono hle,h4⟩
theorem DL.mono {ρ r:Ren} (hle:ρ.le r):∀{l:List AD} {C:List Deferred},DL ρ l C→DL r l C
 |[],[],_=>trivial
 |_::_,_::_,⟨h1,h2⟩=>⟨h1.mono hle,h2.mono hle⟩
theorem DL.append {ρ:Ren}:∀{l:List AD} {l':List Deferred} {m:List AD} {r:List Deferred},DL ρ l l'→DL ρ m r→DL ρ (l++m) (l'++r)
 |[],[],_,_,_,h=>h
 |_::_,_::_,_,_,⟨h1,h2⟩,h=>⟨h1,DL.append h2 h⟩
def ER (f:Ren):List A0→List MapEntry→Prop
 |[],[]=>True
 |e::r,g::m=>VR f e.key g.key∧VR f e.val g.val∧g.born=e.born∧ER f r m
 |_,_=>False
theorem ER.mono {ρ r:Ren} (hle:ρ.le r):∀{l:List A0} {C:List MapEntry},ER ρ l C→ER r l C
 |[],[],_=>trivial
 |_::_,_::_,⟨h1,h2,h3,h4⟩=>⟨h1.mono hle,h2.mono hle,h3,h4.mono hle⟩
def BR (ρ:Ren) (x:Aj) (f:DF) (o:Option Obj):Prop:=
 match x with
 |.cells n c=>∃cur e r,o=some (.cells cur e r)∧cur.size=f.csz∧f.co+n≤f.csz∧(r.1=r.2∨f.csz≤r.1)∧
   ∀i a,i<n→c.get i=some a→∃v,cur[f.co+i]?=some v∧VR ρ a v
 |.arr e x=>∃ks cur z r,U.K e=some ks∧o=some (.cells cur z r)∧cur.size=f.csz∧(r.1=r.2∨f.csz≤r.1)∧By U.K ρ.imm ks cur f.co (Ab U.V x).rows
 |.map es g=>∃p:List MapEntry,o=some (.map p.toArray g)∧ER ρ es p
 |.dmap A B x=>∃kks vks,∃p:List MapEntry,∃g,U.K A=some kks∧U.K B=some vks∧o=some (.map p.toArray g)∧Bx U.K ρ.imm kks vks p (Ab U.V x).rows
 |.loop st pending fn nt tmps params assign body d=>∃tm u,ρ d=some u∧TR ρ nt tmps tm∧
   o=some (.loop {state:=st,pending:=pending,fn:=fn,tmps:=tm,params:=params.toArray,assign:=assign,body:=body,defers:=u.cb})
 |.deferred C=>match C with
  |none=>o=some (.deferred none)
  |some l=>∃w,DL ρ l w∧o=some (.deferred (some w))
 |.mapIter m q seen t=>f.co=0∧(match m with
  |none=>o=some (.mapIter none q seen.toArray t)
  |some b=>∃y,ρ b=some y∧o=some (.mapIter (some y.cb) q seen.toArray t))
theorem BR.mono {ρ σ:Ren} (hle:ρ.le σ) {x:Aj} {base:DF} {o:Option Obj} (h:BR ρ x base o):BR σ x base o:=by
 cases x with
 |cells n c=>
  obtain ⟨cur,e,C,h1,h2,h3,h4,h5⟩:=h;exact ⟨cur,e,C,h1,h2,h3,h4,fun i a hi ha=>let ⟨v,hv,hr⟩:=h5 i a hi ha;⟨v,hv,hr.mono hle⟩⟩
 |arr e x=>obtain ⟨ks,cur,et,C,h1,h2,h3,h4,h5⟩:=h;exact ⟨ks,cur,et,C,h1,h2,h3,h4,h5.mono hle.imm⟩
 |map es I=>obtain ⟨r,h1,h2⟩:=h;exact ⟨r,h1,h2.mono hle⟩
 |dmap kt vt x=>obtain ⟨kks,vks,r,c,h1,h2,h3,h4⟩:=h;exact ⟨kks,vks,r,c,h1,h2,h3,h4.mono hle.imm⟩
 |loop st pending fn nt tmps params assign body d=>obtain ⟨tm,bd,h1,h2,h3⟩:=h;exact ⟨tm,bd,hle.m _ _ h1,h2.mono hle,h3⟩
 |deferred ds=>cases ds with
  |none=>exact h
  |some l=>obtain ⟨l',h1,h2⟩:=h;exact ⟨l',h1.mono hle,h2⟩
 |mapIter m J seen ab=>cases m with
  |none=>exact h
  |some b=>obtain ⟨h0,bm,h1,h2⟩:=h;exact ⟨h0,bm,hle.m _ _ h1,h2⟩
structure HR (ρ:Ren) (g:Nat→Option Aj) (w:World):Prop where
 lt:∀b base,ρ b=some base→base.cb<w.heap.size
 blk:∀b base x,ρ b=some base→g b=some x→BR ρ x base w.heap[base.cb]?
 apart:∀b b' base base',b≠b'→ρ b=some base→ρ b'=some base'→g b≠none→g b'≠none→base.cb≠base'.cb
 imm:∀k arr,ρ.imm k=some arr→∃e fz,w.heap[k]?=some (.cells arr e fz)
 off:∀k arr b base,ρ.imm k=some arr→ρ b=some base→g b≠none→base.cb≠k
theorem HR.immLt {ρ:Ren} {g:Nat→Option Aj} {w:World} (h:HR ρ g w) {k:Nat} {arr:Array Value} (hk:ρ.imm k=some arr):k<w.heap.size:=by
 obtain ⟨e,r,h1⟩:=h.imm k arr hk;exact (Array.getElem?_eq_some_iff.1 h1).1
theorem HR.restrict {ρ:Ren} {g C:Nat→Option Aj} {w:World} (h:HR ρ g w) (hg:∀b,C b=none∨C b=g b):HR ρ C w:=by
 have live:∀b,C b≠none→g b≠none:=by
  intro b r;rcases hg b with e|e
  ·exact absurd e r
  ·exact e▸r
 refine ⟨h.lt,fun b base x r I=>?_,fun b b' base base' J r ab h1 h2=>h.apart b b' base base' J r ab (live b h1) (live b' h2),h.imm,fun k arr b base hk r hl=>h.off k arr b base hk r (live b hl)⟩
 rcases hg b with e|e
 ·rw [e] at I;cases I
 ·exact h.blk b base x r (e▸I)
structure IH (w w':World):Prop where
 os:w'.os=w.os
 tape:w'.tape=w.tape
 output:w'.output=w.output
 size:w.heap.size≤w'.heap.size
theorem IH.refl (w:World):IH w w:=⟨rfl,rfl,rfl,C1 _⟩
theorem IH.trans {a b c:World} (h:IH a b) (k:IH b c):IH a c:=⟨k.os.trans h.os,k.tape.trans h.tape,k.output.trans h.output,hY h.size k.size⟩
structure Ext (ρ σ:Ren) (h h':Aa) (w w':World):Prop where
 le:ρ.le σ
 nx:h.nx≤h'.nx
 new:∀b base,σ b=some base→ρ b=some base∨(h.nx≤b∧b<h'.nx∧(w.heap.size≤base.cb∨∃b0 base0,ρ b0=some base0∧h.blk.get b0≠none∧base0.cb=base.cb))
 calm:IH w w'
 kept:∀k,k<w.heap.size→(∀b base,ρ b=some base→h.blk.get b≠none→base.cb≠k)→w'.heap[k]?=w.heap[k]?
 log:∃l,h'.log=l++h.log∧∀b,b∉l→(b<h.nx∨h'.nx≤b)→h'.blk.get b=h.blk.get b
 live:∀b,h'.blk.get b≠none→h.blk.get b≠none∨(h.nx≤b∧b<h'.nx)
 imm:∀k arr,σ.imm k=some arr→ρ.imm k=some arr∨w.heap.size≤k∨∃b0 base0,ρ b0=some base0∧h.blk.get b0≠none∧base0.cb=k
def Bs (ρ:Ren) (n m:Nat):Prop:=∀b,n≤b→b<m→ρ b=none
theorem Ext.refl (ρ:Ren) (h:Aa) (w:World):Ext ρ ρ h h w w:=
 ⟨Ren.le_refl ρ,C1 _,fun _ _ e=>.inl e,IH.refl w,fun _ _ _=>rfl,⟨[],rfl,fun _ _ _=>rfl⟩,fun _ e=>.inl e,fun _ _ e=>.inl e⟩
theorem Ext.free {ρ r:Ren} {h h':Aa} {w C:World} (e:Ext ρ r h h' w C) {m:Nat} (f:Bs ρ h.nx m):Bs r h'.nx m:=by
 intro b J I;have:=e.nx;cases hs:r b with
 |none=>rfl
 |some base=>
  rcases e.new b base hs with h1|⟨_,h2,_⟩
  ·rw [f b (by omega) I] at h1;cases h1
  ·omega
theorem Ext.trans {ρ σ τ:Ren} {h h1 h2:Aa} {w w1 w2:World} (e:Ext ρ σ h h1 w w1) (k:Ext σ τ h1 h2 w1 w2) (f:Bs ρ h.nx h2.nx):Ext ρ τ h h2 w w2:=by
 have n1:=e.nx;have n2:=k.nx;have hs:=e.calm.size
 have ab:∀b base,σ b=some base→h1.blk.get b≠none→(ρ b=some base∧h.blk.get b≠none)∨(w.heap.size≤base.cb∨∃J r,ρ J=some r∧h.blk.get J≠none∧r.cb=base.cb):=by
  intro b base I hl;rcases e.new b base I with h3|⟨_,_,h3⟩
  ·rcases e.live b hl with h4|⟨h4,h5⟩
   ·exact .inl ⟨h3,h4⟩
   ·rw [f b h4 (by omega)] at h3;cases h3
  ·exact .inr h3
 refine ⟨e.le.trans k.le,by omega,?_,e.calm.trans k.calm,?_,?_,?_,?_⟩
 ·intro b base I;rcases k.new b base I with h3|⟨h3,h4,h5⟩
  ·rcases e.new b base h3 with h6|⟨h6,h7,h8⟩
   ·exact .inl h6
   ·exact .inr ⟨h6,by omega,h8⟩
  ·refine .inr ⟨by omega,h4,?_⟩
   rcases h5 with h5|⟨J,r,h6,h7,h8⟩
   ·exact .inl (by omega)
   ·rcases ab J r h6 h7 with ⟨h9,ar⟩|h9|⟨b1,C,h9,ar,av⟩
    ·exact .inr ⟨J,r,h9,ar,h8⟩
    ·exact .inl (by omega)
    ·exact .inr ⟨b1,C,h9,ar,av.trans h8⟩
 ·intro j hj hn;rw [k.kept j (by omega) ?_,e.kept j hj hn]
  intro b base I hl;rcases ab b base I hl with ⟨h3,h4⟩|h3|⟨J,r,h3,h4,h5⟩
  ·exact hn b base h3 h4
  ·omega
  ·rw [←h5];exact hn J r h3 h4
 ·obtain ⟨l,hl,bd⟩:=e.log;obtain ⟨m,hm,bm⟩:=k.log;refine ⟨m++l,by rw [hm,hl,List.append_assoc],fun b I hr=>?_⟩
  simp only [eq,not_or] at I;rw [bm b I.1 (by omega),bd b I.2 (by omega)]
 ·intro b I;rcases k.live b I with h3|⟨h3,h4⟩
  ·rcases e.live b h3 with h5|⟨h5,h6⟩
   ·exact .inl h5
   ·exact .inr ⟨h5,by omega⟩
  ·exact .inr ⟨by omega,h4⟩
 ·intro j arr hj;rcases k.imm j arr hj with h3|h3|⟨J,r,h3,h4,h5⟩
  ·exact e.imm j arr h3
  ·exact .inr (.inl (by omega))
  ·rcases ab J r h3 h4 with ⟨h6,h7⟩|h6|⟨b1,C,h6,h7,h8⟩
   ·exact .inr (.inr ⟨J,r,h6,h7,h5⟩)
   ·exact .inr (.inl (by omega))
   ·exact .inr (.inr ⟨b1,C,h6,h7,h8.trans h5⟩)
theorem HR.new {ρ:Ren} {h:Aa} {w:World} (hr:HR ρ h.blk.get w) (hf:ρ h.nx=none) (x:Aj) (o:Obj) (csz:Nat)
  (bd:BR (ρ.upd h.nx ⟨w.heap.size,0,csz⟩) x ⟨w.heap.size,0,csz⟩ (some o)) (J:World) (hw:J.heap=w.heap.push o) (bm:J.os=w.os) (ht:J.tape=w.tape) (ho:J.output=w.output) :
  HR (ρ.upd h.nx ⟨w.heap.size,0,csz⟩) (h.new x).blk.get J∧Ext ρ (ρ.upd h.nx ⟨w.heap.size,0,csz⟩) h (h.new x) w J:=by
 have hle:=Ren.le_upd hf ⟨w.heap.size,0,csz⟩;have I:∀k,k<w.heap.size→J.heap[k]?=w.heap[k]?:=fun k hk=>by rw [hw,Array.getElem?_push,if_neg (by omega)]
 have bs:J.heap.size=w.heap.size+1:=by rw [hw];simp
 have C:∀b base,ρ.upd h.nx ⟨w.heap.size,0,csz⟩ b=some base→(b=h.nx∧base=⟨w.heap.size,0,csz⟩)∨(b≠h.nx∧ρ b=some base):=by
  intro b base r;simp only [Ren.upd] at r;by_cases e:b=h.nx
  ·rw [if_pos e] at r;exact .inl ⟨e,by simpa using r.symm⟩
  ·rw [if_neg e] at r;exact .inr ⟨e,r⟩
 refine ⟨⟨?_,?_,?_,?_,?_⟩,⟨hle,Nat.le_succ _,?_,⟨bm,ht,ho,by omega⟩,fun k hk _=>I k hk,⟨[],rfl,?_⟩,?_,fun _ _ e=>.inl e⟩⟩
 ·intro b base r;rcases C b base r with ⟨_,rfl⟩|⟨_,h1⟩
  ·show w.heap.size<_;omega
  ·have:=hr.lt b base h1;omega
 ·intro b base y r hy;simp only [Aa.new,T.get_set] at hy;rcases C b base r with ⟨rfl,rfl⟩|⟨ab,h1⟩
  ·rw [if_pos rfl] at hy;cases hy;have:J.heap[w.heap.size]?=some o:=by rw [hw];simp
   rw [this];exact bd
  ·rw [if_neg (fun e=>ab e.symm)] at hy
   rw [I _ (hr.lt b base h1)];exact (hr.blk b base y h1 hy).mono hle
 ·intro b b' base base' ab r ar h1 h2;simp only [Aa.new,T.get_set] at h1 h2;rcases C b base r with ⟨rfl,rfl⟩|⟨hn,h3⟩
  ·rcases C b' base' ar with ⟨e,_⟩|⟨av,h4⟩
   ·exact absurd e.symm ab
   ·have:=hr.lt b' base' h4;show w.heap.size≠_;omega
  ·rcases C b' base' ar with ⟨rfl,rfl⟩|⟨av,h4⟩
   ·have:=hr.lt b base h3;show _≠w.heap.size;omega
   ·rw [if_neg (fun e=>hn e.symm)] at h1
    rw [if_neg (fun e=>av e.symm)] at h2
    exact hr.apart b b' base base' ab h3 h4 h1 h2
 ·intro k arr hk;rw [I k (hr.immLt hk)];exact hr.imm k arr hk
 ·intro k arr b base hk r hl;rcases C b base r with ⟨rfl,rfl⟩|⟨hn,h3⟩
  ·have:=hr.immLt (k:=k) (arr:=arr) hk;show w.heap.size≠k;omega
  ·simp only [Aa.new,T.get_set] at hl;rw [if_neg (fun e=>hn e.symm)] at hl
   exact hr.off k arr b base hk h3 hl
 ·intro b base r;rcases C b base r with ⟨rfl,rfl⟩|⟨_,h1⟩
  ·exact .inr ⟨C1 _,Nat.lt_succ_self _,.inl (C1 _)⟩
  ·exact .inl h1
 ·intro b _ r;simp only [Aa.new,T.get_set] at r ⊢;rw [if_neg (by omega)]
 ·intro b r;simp only [Aa.new,T.get_set] at r ⊢;by_cases e:h.nx=b
  ·exact .inr ⟨by omega,by omega⟩
  ·rw [if_neg e] at r;exact .inl r
theorem HR.put {ρ:Ren} {h:Aa} {w:World} (hr:HR ρ h.blk.get w) {r:Nat} {base:DF} (hb:ρ r=some base) (hl:h.blk.get r≠none) (x:Aj)
  (I:World) (hx:BR ρ x base I.heap[base.cb]?) (ab:I.heap.size=w.heap.size) (C:∀k,k≠base.cb→I.heap[k]?=w.heap[k]?) (ar:I.os=w.os) (ht:I.tape=w.tape) (ho:I.output=w.output) :
  HR ρ (h.put r x).blk.get I∧Ext ρ ρ h (h.put r x) w I:=by
 have live:∀b,(h.put r x).blk.get b≠none→h.blk.get b≠none:=by
  intro b h1;simp only [Aa.put,T.get_set] at h1;by_cases e:r=b
  ·subst e;exact hl
  ·rw [if_neg e] at h1;exact h1
 refine ⟨⟨fun b c hc=>ab▸hr.lt b c hc,?_,?_,fun k arr hk=>by rw [C k (hr.off k arr r base hk hb hl).symm];exact hr.imm k arr hk,fun k arr b c hk hc h1=>hr.off k arr b c hk hc (live b h1)⟩,⟨Ren.le_refl ρ,C1 _,fun _ _ e=>.inl e,⟨ar,ht,ho,by omega⟩,?_,⟨[r],rfl,?_⟩,?_,fun _ _ e=>.inl e⟩⟩
 ·intro b c y hc J;simp only [Aa.put,T.get_set] at J;by_cases e:r=b
  ·subst e;rw [if_pos rfl] at J;cases J;rw [hb] at hc;cases hc;exact hx
  ·rw [if_neg e] at J;rw [C _ (hr.apart b r c base (fun h=>e h.symm) hc hb (by rw [J];simp) hl)]
   exact hr.blk b c y hc J
 ·intro b b' c c' av hc bd h1 h2;simp only [Aa.put,T.get_set] at h1 h2;refine hr.apart b b' c c' av hc bd ?_ ?_
  ·by_cases e:r=b
   ·subst e;exact hl
   ·rw [if_neg e] at h1;exact h1
  ·by_cases e:r=b'
   ·subst e;exact hl
   ·rw [if_neg e] at h2;exact h2
 ·intro k hk hn;exact C k (fun e=>hn r base hb hl e.symm)
 ·intro b bm _;simp only [Aa.put,T.get_set];rw [if_neg (fun e=>bm (by simp [e]))]
 ·intro b h1;simp only [Aa.put,T.get_set] at h1;by_cases e:r=b
  ·subst e;exact .inl hl
  ·rw [if_neg e] at h1;exact .inl h1
theorem HR.same {ρ:Ren} {g:Nat→Option Aj} {w C:World} (hr:HR ρ g w) (r:C.heap=w.heap):HR ρ g C:=
 ⟨fun b base h=>r▸hr.lt b base h,fun b base x h I=>r▸hr.blk b base x h I,hr.apart,fun k arr hk=>r▸hr.imm k arr hk,hr.off⟩
end Go.AE
namespace Go.AE
variable [U:Unk]
structure OK (E:Env):Prop where
 ty:∀t i,E.ty.get t=some i→E.P.info? t=some i
 fn:∀f x,E.fn.get f=some x→E.P.funcs[f]?=some x
 num:∀f x,E.fn.get f=some x→(x.name == "runtime.NumGoroutine")=false
 clone:∀f x,E.fn.get f=some x→x.body=none→x.name = "maps.clone"→Extern.findNext x=none∧Extern.find x=some Extern.MapsClone.clone
 ixb:∀f x,E.fn.get f=some x→x.body=none→x.name = "internal/bytealg.IndexByteString"→Extern.findNext x=none∧Extern.find x=some Extern.BytealgIndexByte.indexByte
 mixed:E.P.follows .mixedOrders=true
 kd:U.K=(Env.of E.P).kinds
 ke:E.kinds=(Env.of E.P).kinds
section
variable {E:Env} (hE:OK E)
include hE
theorem OK.und {t:TypeId} {d:TypeDesc} (h:E.desc t=some d):E.P.underlying t=some d:=by
 unfold Env.desc at h;cases hi:E.ty.get t with
 |none=>simp [hi] at h
 |some i=>
  simp only [hi] at h;have h1:=hE.ty t i hi;unfold Program.underlying;rw [h1];cases i with
  |mk desc str size bytes r ab C zero I J=>
   cases desc<;>simp only [A1] at h ⊢<;>first|exact h|skip
   rename_i n u;cases hu:E.ty.get u with
   |none=>simp [hu] at h
   |some j=>simp only [hu,A1] at h;rw [hE.ty u j hu];simpa using h
theorem OK.run_und {t:TypeId} {d:TypeDesc} (h:E.desc t=some d) (w:World):(underlying t).run E.P w=.ok d w:=by
 simp [underlying,hE.und h]
theorem OK.run_info {t:TypeId} {i:TypeInfo} (h:E.ty.get t=some i) (w:World):(typeInfo t).run E.P w=.ok i w:=by
 simp [typeInfo,hE.ty t i h]
theorem OK.run_sz {t:TypeId} {i:TypeInfo} (h:E.ty.get t=some i) (w:World):(sizeOf t).run E.P w=.ok i.size w:=by
 simp [sizeOf,hE.run_info h]
omit hE in
theorem Yp {t:TypeId} {d:TypeDesc} (h:E.desc t=some d):∃i,E.ty.get t=some i∧E.size t=i.size:=by
 unfold Env.desc at h;cases hi:E.ty.get t with
 |none=>simp [hi] at h
 |some i=>exact ⟨i,rfl,by simp [Env.size,hi]⟩
theorem OK.run_size {t:TypeId} {d:TypeDesc} (h:E.desc t=some d) (w:World):(sizeOf t).run E.P w=.ok (E.size t) w:=by
 obtain ⟨i,j,r⟩:=Yp h;rw [r];exact hE.run_sz j w
theorem OK.run_has {t:TypeId} (h:E.has t=true) (w:World):(sizeOf t).run E.P w=.ok (E.size t) w:=by
 unfold Env.has at h;cases hi:E.ty.get t with
 |none=>simp [hi] at h
 |some i=>rw [hE.run_sz hi];simp [Env.size,hi]
theorem OK.run_szIs {t:TypeId} {n:Nat} (h:E.szIs t n=true) (w:World):(sizeOf t).run E.P w=.ok n w:=by
 unfold Env.szIs at h;cases hi:E.ty.get t with
 |none=>simp [hi] at h
 |some i=>simp only [hi] at h;rw [hE.run_sz hi,AK h]
theorem OK.run_isAgg {t:TypeId} {d:TypeDesc} (h:E.desc t=some d) (w:World):(isAgg t).run E.P w=.ok (IP d) w:=by
 simp only [isAgg,B2,hE.run_und h,A2];cases d<;>simp [IP]
omit hE in
theorem G5 {t:TypeId} {z:AV} (h:E.zero t=some z):∃i v,E.ty.get t=some i∧i.zero=some v∧ofValue v=some z:=by
 unfold Env.zero at h;cases hi:E.ty.get t with
 |none=>simp [hi] at h
 |some i=>
  simp only [hi] at h;cases hz:i.zero with
  |none=>simp [hz] at h
  |some v=>simp only [hz] at h;exact ⟨i,v,rfl,hz,h⟩
omit hE in
theorem KG (ρ:Ren) {v:Value} {a:AV} (h:A8 v=some a):VR ρ a v:=by
 cases v with
 |bool b=>simp [A8] at h;subst h;exact .bool b
 |int k n=>simp [A8] at h;subst h;exact .int k n
 |string s=>simp only [A8,A1] at h;subst h;exact .str s
 |pointer p=>cases p<;>simp [A8] at h;subst h;exact .ptr0
 |slice p l c=>
  cases p with
  |some a=>simp [A8] at h
  |none=>cases l with
   |succ n=>simp [A8] at h
   |zero=>cases c with
    |succ n=>simp [A8] at h
    |zero=>simp [A8] at h;subst h;exact .slice0
 |map r=>cases r<;>simp [A8] at h;subst h;exact .map0
 |nilFunc=>simp [A8] at h;subst h;exact .nilFunc
 |nilIface=>simp [A8] at h;subst h;exact .nilIface
 |_=>simp [A8] at h
omit hE in
theorem PX (ρ:Ren):∀{l:List Value} {as:List AV},Dv l=some as→VL ρ as l:=by
 intro l
 induction l with
 |nil=>intro as h;simp [Dv] at h;subst h;exact VL.nil ρ
 |cons v r ih=>
  intro as h;simp only [Dv] at h;cases hv:A8 v with
  |none=>simp [hv] at h
  |some a=>
   cases hr:Dv r with
   |none=>simp [hv,hr] at h
   |some as'=>simp only [hv,hr,A1] at h;subst h;exact VL.cons (KG ρ hv) (ih hr)
omit hE in
theorem Bg (ρ:Ren) {v:Value} {a:AV} (h:ofValue v=some a):VR ρ a v:=by
 cases v with
 |agg c=>
  simp only [ofValue] at h;cases hc:Dv c.toList with
  |none=>simp [hc] at h
  |some l=>
   simp only [hc,A1] at h;subst h;have:=PX ρ hc;exact .agg l c.toList this.1 this.2
 |_=>exact KG ρ (by simpa [ofValue] using h)
omit hE in
theorem VR.cells {ρ:Ren} {a:AV} {v:Value} (h:VR ρ a v) (ht:a≠.top):VL ρ a.cells v.cells.toList:=by
 cases h with
 |top v=>exact absurd rfl ht
 |agg l l' h1 h2=>exact ⟨h1,h2⟩
 |bool b=>exact VL.cons (.bool b) (VL.nil ρ)
 |int k n=>exact VL.cons (.int k n) (VL.nil ρ)
 |str s=>exact VL.cons (.str s) (VL.nil ρ)
 |ptr0=>exact VL.cons .ptr0 (VL.nil ρ)
 |ptr b off base h=>exact VL.cons (.ptr b off base h) (VL.nil ρ)
 |slice0=>exact VL.cons .slice0 (VL.nil ρ)
 |slice b off n es cap base h hc hz=>exact VL.cons (.slice b off n es cap base h hc hz) (VL.nil ρ)
 |sliceEnd b off es a=>exact VL.cons (.sliceEnd b off es a) (VL.nil ρ)
 |map0=>exact VL.cons .map0 (VL.nil ρ)
 |map b base h=>exact VL.cons (.map b base h) (VL.nil ρ)
 |func fn fn' f c f' c' h h1 h2 h3 h4=>exact VL.cons (.func fn fn' f c f' c' h h1 h2 h3 h4) (VL.nil ρ)
 |nilFunc=>exact VL.cons .nilFunc (VL.nil ρ)
 |iface t a v h=>exact VL.cons (.iface t a v h) (VL.nil ρ)
 |nilIface=>exact VL.cons .nilIface (VL.nil ρ)
 |tuple l l' h1 h2=>exact VL.cons (.tuple l l' h1 h2) (VL.nil ρ)
 |sb pos e=>exact VL.cons (.sb pos e) (VL.nil ρ)
 |si k e=>exact VL.cons (.si k e) (VL.nil ρ)
 |ss i=>exact VL.cons (.ss i) (VL.nil ρ)
 |dat e x a n c h=>exact VL.cons (.dat e x a n c h) (VL.nil ρ)
 |dptr e x i off b o n cap ks h hk h0 hi ho=>exact VL.cons (.dptr e x i off b o n cap ks h hk h0 hi ho) (VL.nil ρ)
 |asl b es n nl cap base h h0 hc hz hn=>exact VL.cons (.asl b es n nl cap base h h0 hc hz hn) (VL.nil ρ)
 |aslEnd b es n nl a h0 hn=>exact VL.cons (.aslEnd b es n nl a h0 hn) (VL.nil ρ)
 |eslc nl a hn=>exact VL.cons (.eslc nl a hn) (VL.nil ρ)
 |aptr b es i off base h h0=>exact VL.cons (.aptr b es i off base h h0) (VL.nil ρ)
 |nmap b nl base h hn=>exact VL.cons (.nmap b nl base h hn) (VL.nil ρ)
 |nmap0 b nl hn=>exact VL.cons (.nmap0 b nl hn) (VL.nil ρ)
theorem OK.run_zero {t:TypeId} {z:AV} (ρ:Ren) (h:E.zero t=some z) (w:World):∃v,(zeroValue t).run E.P w=.ok v w∧ofValue v=some z:=by
 obtain ⟨i,v,h1,h2,h3⟩:=G5 h;exact ⟨v,by simp [zeroValue,hE.run_info h1,h2],h3⟩
theorem OK.run_part {ρ:Ren} {t:TypeId} {cs:List AV} {j:List Value} {off:Nat} {a:AV} (h:D0 E t cs off=some a) (hc:VL ρ cs j) (w:World) :
  ∃v,(part t j.toArray off).run E.P w=.ok v w∧VR ρ a v:=by
 unfold D0 at h;cases I:E.desc t with
 |none=>simp [I] at h
 |some d=>
  simp only [I] at h;unfold part;simp only [B2,hE.run_isAgg I,A2];cases C:IP d with
  |true=>
   simp only [C,A1] at h;subst h;simp only [if_true,B2,hE.run_size I,A2,CU];refine ⟨_,rfl,?_⟩
   have e:j.toArray.extract off (off+E.size t)=((j.drop off).take (E.size t)).toArray:=by
    simp [List.extract_toArray]
   rw [e];exact .agg _ _ ((hc.drop off).take _).1 ((hc.drop off).take _).2
  |false=>
   simp only [C] at h;obtain ⟨v,hv,hr⟩:=hc.get h;simp only [E2,ez,Sf,hv];exact ⟨v,rfl,hr⟩
end
end Go.AE
namespace Go.AE
variable [U:Unk]
theorem Ep {i j:Nat} (h:Nat.ble i j=true):i≤j:=XA h
theorem N4 {i j:Nat} (h:Nat.blt i j=true):i<j:=XA h
theorem AC {a b:Bool} (h:(a&&b)=true):a=true∧b=true:=by simpa using h
theorem orF {a b:Bool} (h:(a||b)=true):a=true∨b=true:=by simpa using h
theorem CG (b o n:Nat):(⟨b,o,none⟩:Addr).add n=⟨b,o+n,none⟩:=by
 unfold Addr.add;split
 ·next h=>subst h;rfl
 ·rfl
section
variable {ρ:Ren} {g:Nat→Option Aj} {w:World}
theorem HR.cell (r:HR ρ g w) {b n i:Nat} {base:DF} {c:T AV} {a:AV} (C:ρ b=some base) (I:g b=some (.cells n c)) (hi:i<n) (J:c.get i=some a) :
  ∃v,w.cell? ⟨base.cb,base.co+i,none⟩=some v∧VR ρ a v:=by
 obtain ⟨ab,e,fz,h1,h2,h3,h4,h5⟩:=r.blk b base _ C I;obtain ⟨v,hv,j⟩:=h5 i a hi J;exact ⟨v,by simp [World.cell?,h1,hv],j⟩
theorem DI (P:Program) (b o:Nat):∀(vs:List Value) (i:Nat) (a:Array Value),(∀j v,vs[j]?=some v→w.cell? ⟨b,o+(i+j),none⟩=some v)→
  (loadCellsFrom ⟨b,o,none⟩ i vs.length a).run P w=.ok (a++vs.toArray) w:=by
 intro vs
 induction vs with
 |nil=>intro i a _;simp [loadCellsFrom]
 |cons v r d=>
  intro i a h;have c:=h 0 v rfl;simp only [S1] at c;simp only [F2,loadCellsFrom,B2,run_load,CG,c,A2];rw [d (i+1) (a.push v) (fun j u e=>by have:=h (j+1) u (by simpa using e);rwa [show i+(j+1)=i+1+j from by omega] at this)]
  simp
theorem HR.loadCells (hr:HR ρ g w) (P:Program) {b n off k:Nat} {base:DF} {c:T AV} {l:List AV} (hb:ρ b=some base) (hg:g b=some (.cells n c)) (hk:off+k≤n) (hl:c.range off k=some l) :
  ∃vs:List Value,VL ρ l vs∧(loadCells ⟨base.cb,base.co+off,none⟩ k).run P w=.ok vs.toArray w∧(∀j v,vs[j]?=some v→w.cell? ⟨base.cb,base.co+off+j,none⟩=some v):=by
 obtain ⟨av,I⟩:=T.range_spec c k off l hl
 have ab:∀m,m≤k→∃vs:List Value,vs.length=m∧∀j,j<m→∃a v,l[j]?=some a∧vs[j]?=some v∧VR ρ a v∧w.cell? ⟨base.cb,base.co+off+j,none⟩=some v:=by
  intro m
  induction m with
  |zero=>intro _;exact ⟨[],rfl,fun j h=>absurd h (iv _)⟩
  |succ m ih=>
   intro hm;obtain ⟨vs,h1,h2⟩:=ih (by omega)
   have J:m<l.length:=by omega
   have ha:c.get (off+m)=some l[m]:=by rw [I m (by omega)];simp [J]
   obtain ⟨v,r,ar⟩:=hr.cell hb hg (by omega) ha
   refine ⟨vs++[v],by simp [h1],fun j hj=>?_⟩
   by_cases e:j<m
   ·obtain ⟨a,u,q1,q2,q3,q4⟩:=h2 j e;exact ⟨a,u,q1,by rw [Ea (by omega)];exact q2,q3,q4⟩
   ·have:j=m:=by omega
    subst this;exact ⟨l[j],v,by simp [J],by rw [E3 (by omega)];simp [h1],ar,by rw [←r];congr 2;omega⟩
 obtain ⟨vs,h1,h2⟩:=ab k (C1 k)
 have C:∀j v,vs[j]?=some v→w.cell? ⟨base.cb,base.co+off+j,none⟩=some v:=by
  intro j v r;have hj:j<k:=by have:=(B3.1 r).1;omega
  obtain ⟨a,u,q1,q2,q3,q4⟩:=h2 j hj;rw [q2] at r;cases r;exact q4
 refine ⟨vs,⟨by omega,fun i a v ha r=>?_⟩,?_,C⟩
 ·have hi:i<k:=by have:=(B3.1 r).1;omega
  obtain ⟨a',v',q1,q2,q3,_⟩:=h2 i hi;rw [q1] at ha;rw [q2] at r;cases ha;cases r;exact q3
 ·unfold Go.loadCells;have:=DI (w:=w) P base.cb (base.co+off) vs 0 #[] (fun j v r=>by simpa using C j v r)
  rw [h1] at this;simpa using this
theorem CE (P:Program) (b o:Nat) (e:TypeId) (m:Nat×Nat):∀(l:List Value) (i:Nat) (w:World) (a:Array Value),w.heap[b]?=some (.cells a e m)→o+i+l.length≤a.size→
  (m.1=m.2∨a.size≤m.1)→(∀v∈l,v.oneCell'=true)→
  ∃d c,(storeCells ⟨b,o,none⟩ l i).run P w=.ok () d∧d.heap[b]?=some (.cells c e m)∧c.size=a.size∧(∀j,c[j]?=if o+i≤j∧j<o+i+l.length then l[j-(o+i)]? else a[j]?)∧
   d.heap.size=w.heap.size∧(∀k,k≠b→d.heap[k]?=w.heap[k]?)∧d.os=w.os∧d.tape=w.tape∧d.output=w.output:=by
 intro l
 induction l with
 |nil=>
  intro i w a n y p x;exact ⟨w,a,by simp [storeCells],n,rfl,fun j=>by rw [if_neg (by simp)],rfl,fun _ _=>rfl,rfl,rfl,rfl⟩
 |cons v r A=>
  intro i w a n y p x;have B:=x v (by simp)
  simp only [F2] at y;have q:o+i<a.size:=by omega
  have f:w.cell? ⟨b,o+i,none⟩=some a[o+i]:=by simp [World.cell?,n,q]
  have s:w.frozen? ⟨b,o+i,none⟩=false:=by
   simp only [World.frozen?,n];rcases p with p|p
   ·simp;omega
   ·simp;omega
  have M:b<w.heap.size:=(Array.getElem?_eq_some_iff.1 n).1
  have t:(w.setCell ⟨b,o+i,none⟩ v).heap[b]?=some (.cells (a.setIfInBounds (o+i) v) e m):=by
   simp only [World.setCell,Array.getElem?_modify];simp [n]
  obtain ⟨d,c,C,D,E,F,G,H,I,J,K⟩:=A (i+1) (w.setCell ⟨b,o+i,none⟩ v) (a.setIfInBounds (o+i) v) t (by simp;omega) (by simpa using p) (fun u L=>x u (by simp [L]))
  refine ⟨d,c,?_,D,by simpa using E,?_,?_,?_,?_,?_,?_⟩
  ·simp only [storeCells,B2,CG,run_store _ _ _ _ _ B,f,s];simpa using C
  ·intro j;rw [F j];simp only [F2];by_cases c1:o+(i+1)≤j∧j<o+(i+1)+r.length
   ·rw [if_pos c1,if_pos (by omega)]
    have:j-(o+i)=(j-(o+(i+1)))+1:=by omega
    rw [this,EQ]
   ·rw [if_neg c1];by_cases c2:j=o+i
    ·subst c2;rw [if_pos (by omega)]
     simp [q]
    ·rw [if_neg (by omega),X1 (fun h=>c2 h.symm)]
  ·rw [G];simp [World.setCell]
  ·intro k z;rw [H k z];simp only [World.setCell,Array.getElem?_modify];rw [if_neg (fun h=>z h.symm)]
  ·rw [I];rfl
  ·rw [J];rfl
  ·rw [K];rfl
theorem VR.one {a:AV} {v:Value} (h:VR ρ a v) (j:a.one=true):v.oneCell'=true:=by
 cases h<;>simp_all [AV.one,Value.oneCell']
theorem Iq:∀{l:List AV} {b:List Value},E8 l=true→VL ρ l b→∀v∈b,v.oneCell'=true:=by
 intro l
 induction l with
 |nil=>intro b _ h;rw [h.nil_inv];simp
 |cons a r f=>
  intro b c i;obtain ⟨v,m,rfl,j,k⟩:=i.cons_inv;simp only [E8] at c;cases d:a.one with
  |false=>simp [d] at c
  |true=>
   simp only [d] at c;intro u e;rcases F5.1 e with rfl|e
   ·exact j.one d
   ·exact f c k u e
end
theorem HR.storeN {ρ:Ren} {h h':Aa} {w:World} (hr:HR ρ h.blk.get w) (P:Program) {b off:Nat} {base:DF} {l:List AV} {l':List Value} (hb:ρ b=some base) (hl:VL ρ l l') (hs:storeN h b off l=some h') :
  ∃j,(storeCells ⟨base.cb,base.co+off,none⟩ l' 0).run P w=.ok () j∧HR ρ h'.blk.get j∧Ext ρ ρ h h' w j:=by
 unfold AE.storeN at hs;cases r:h.blk.get b with
 |none=>simp [r] at hs
 |some x=>
  cases x with
  |cells n c=>
   simp only [r] at hs;cases J:(Nat.ble (off+l.length) n&&E8 l) with
   |false=>simp [J] at hs
   |true=>
    simp only [J,A1] at hs;subst hs;obtain ⟨c1,c2⟩:=AC J;have av:=Ep c1;obtain ⟨ab,e,fz,h1,h2,h3,h4,h5⟩:=hr.blk b base _ hb r;obtain ⟨j,C,q1,q2,q3,q4,q5,q6,q7,q8,q9⟩:=CE P base.cb (base.co+off) e fz l' 0 w ab h1 (by rw [←hl.1,h2];omega) (by rw [h2];exact h4) (Iq c2 hl)
    refine ⟨j,q1,?_⟩;refine hr.put hb (by rw [r];simp) _ j ?_ q5 q6 q7 q8 q9
    refine ⟨C,e,fz,q2,by rw [q3,h2],h3,h4,?_⟩
    intro i a hi I;rw [Gs] at I;rw [q4 (base.co+i)];simp only [S1];by_cases c:off≤i∧i<off+l.length
    ·rw [if_pos c] at I;rw [if_pos (by rw [←hl.1];omega)]
     obtain ⟨v,hv,ar⟩:=hl.get I;exact ⟨v,by rw [←hv];congr 1;omega,ar⟩
    ·rw [if_neg c] at I;rw [if_neg (by rw [←hl.1];omega)]
     exact h5 i a hi I
  |_=>simp [r] at hs
theorem HR.newRow {ρ:Ren} {h:Aa} {w:World} (I:HR ρ h.blk.get w) (C:ρ h.nx=none) (e:TypeId) {n:Nat} {c:T AV} (arr:Array Value) (hn:n≤arr.size)
  (J:∀i a,i<n→c.get i=some a→∃v,arr[i]?=some v∧VR ρ a v) :
  ∃j:Ren,j h.nx=some ⟨w.heap.size,0,arr.size⟩∧HR j (h.new (.cells n c)).blk.get {w with heap:=w.heap.push (.cells arr e)}∧
  Ext ρ j h (h.new (.cells n c)) w {w with heap:=w.heap.push (.cells arr e)}:=by
 refine ⟨ρ.upd h.nx ⟨w.heap.size,0,arr.size⟩,Ren.upd_same _ _ _,?_⟩;refine I.new C _ _ _ ?_ _ rfl rfl rfl rfl;refine ⟨_,_,_,rfl,rfl,by simpa using hn,.inl rfl,?_⟩
 intro i a hi ha;obtain ⟨v,hv,r⟩:=J i a hi ha;exact ⟨v,by simpa using hv,r.mono (Ren.le_upd C _)⟩
theorem HR.newList {ρ:Ren} {h:Aa} {w:World} (I:HR ρ h.blk.get w) (J:ρ h.nx=none) (e:TypeId) {l:List AV} (arr:Array Value) (hl:VL ρ l arr.toList) :
  ∃j:Ren,j h.nx=some ⟨w.heap.size,0,arr.size⟩∧HR j (Cr h l).blk.get {w with heap:=w.heap.push (.cells arr e)}∧
  Ext ρ j h (Cr h l) w {w with heap:=w.heap.push (.cells arr e)}:=by
 refine I.newRow J e arr (by have:=hl.1;simp at this;omega) ?_
 intro i a hi C;rw [T.get_ofList] at C;obtain ⟨v,hv,r⟩:=hl.get C;exact ⟨v,by simpa using hv,r⟩
end Go.AE
namespace Go.AE
variable [U:Unk]
theorem QW:∀(l:List UInt8),AL l<256^l.length
 |[]=>by simp [AL]
 |b::r=>by
  have a:=QW r;have c:b.toNat<256:=b.toNat_lt;simp only [AL,F2,Nat.pow_succ];omega
theorem Gk:∀(l m:List UInt8),AL (l++m)=AL l+AL m*256^l.length
 |[],m=>by simp [AL]
 |b::r,m=>by
  have:=Gk r m;simp only [List.cons_append,AL,this,F2,Nat.pow_succ,Nat.mul_add];rw [hS,Nat.mul_left_comm,Nat.mul_comm 256 (256^r.length)]
theorem OS:∀(l m:List UInt8),l.length=m.length→AL l=AL m→l=m
 |[],[],_,_=>rfl
 |[],_::_,h,_=>by simp at h
 |_::_,[],h,_=>by simp at h
 |a::l,b::m,h,e=>by
  simp only [AL] at e;have d:a.toNat<256:=a.toNat_lt;have f:b.toNat<256:=b.toNat_lt;have c:a.toNat=b.toNat:=by omega
  have hp:AL l=AL m:=by omega
  rw [OS l m (by simpa using h) hp,UInt8.toNat_inj.1 c]
theorem TB (n:Nat):2^(8*n)=256^n:=by rw [Nat.pow_mul]
theorem Nh:∀(n:Nat) (l:List UInt8),AL l/256^n=AL (l.drop n)
 |0,l=>by simp
 |n+1,[]=>by simp [AL]
 |n+1,b::r=>by
  have a:b.toNat<256:=b.toNat_lt;simp only [AL,List.drop_succ_cons,Nat.pow_succ];rw [←Nh n r,Nat.mul_comm (256^n) 256,←Nat.div_div_eq_div_mul]
  congr 1
  omega
theorem UR:∀(n:Nat) (l:List UInt8),n≤l.length→AL l%256^n=AL (l.take n):=by
 intro n l h;have e:=Gk (l.take n) (l.drop n);rw [List.take_append_drop] at e;have hl:(l.take n).length=n:=by simp;omega
 rw [hl] at e;rw [e,Nat.add_mul_mod_self_right,Nat.mod_eq_of_lt];have:=QW (l.take n)
 rwa [hl] at this
theorem NP {l:List UInt8} {a b:Nat} (c:a≤b) (d:b≤l.length):AL l/2^(8*a)%2^(8*(b-a))=AL ((l.drop a).take (b-a)):=by
 rw [TB,TB,Nh,UR];simp;omega
theorem Ge (b:UInt8) (r:List UInt8):AL (b::r)%256=b.toNat∧AL (b::r)/256=AL r:=by
 have:=b.toNat_lt;simp only [AL];omega
theorem CS (s t:ByteArray):strEq s.data.toList.length (AL s.data.toList) t.data.toList.length (AL t.data.toList)=(s.toList==t.toList):=by
 have hs:∀u:ByteArray,u.toList=u.data.toList:=fun u=>ie u
 rw [hs,hs];unfold strEq;rw [Bool.eq_iff_iff];simp only [B1,beq_iff_eq];constructor
 ·rintro ⟨a,b⟩
  exact OS _ _ (AK a) (AK b)
 ·intro h;rw [h];exact ⟨FL _,FL _⟩
theorem PV:∀(f:Nat) (l m:List UInt8),l.length<f→ED f l.length (AL l) m.length (AL m)=Op.bytesLess l m:=by
 intro f
 induction f with
 |zero=>intro l m h;omega
 |succ f i=>
  intro l m h;cases m with
  |nil=>cases l<;>simp [ED,Op.bytesLess]
  |cons b m=>
   cases l with
   |nil=>simp [ED,Op.bytesLess]
   |cons a l=>
    obtain ⟨j,k⟩:=Ge a l;obtain ⟨n,o⟩:=Ge b m;simp only [ED,F2,Op.bytesLess,j,k,n,o];simp only [F2] at h;by_cases c:a.toNat<b.toNat
    ·have e:Nat.blt a.toNat b.toNat=true:=by simp [Nat.blt];omega
     have g:a<b:=UInt8.lt_iff_toNat_lt.2 c;simp [e,g]
    ·have e:Nat.blt a.toNat b.toNat=false:=by
      cases q:Nat.blt a.toNat b.toNat with
      |false=>rfl
      |true=>exact absurd (N4 q) c
     have g:¬a<b:=fun q=>c (UInt8.lt_iff_toNat_lt.1 q)
     simp only [e,g,j0,R1];by_cases d:a=b
     ·subst d;rw [FL];simp [i l m (by omega)]
     ·have p:Nat.beq a.toNat b.toNat=false:=Gr (fun q=>d (UInt8.toNat_inj.1 q))
      simp [p,d]
end Go.AE
namespace Go.AE
variable [U:Unk]
section
variable {E:Env} (hE:OK E) {ρ:Ren} {h:Aa} {w:World}
include hE
theorem Sp (n:HR ρ h.blk.get w) {t:TypeId} {x a:AV} {o:Value} (r:VR ρ x o) (hl:Sz E t x h=some a) :
  ∃v,(Instr.loadAt t o).run E.P w=.ok v w∧VR ρ a v:=by
 unfold Sz at hl;cases g:E.desc t with
 |none=>simp [g] at hl
 |some d=>
  cases r with
  |ptr b off p q=>
   simp only [g] at hl;unfold Instr.loadAt loadVar;simp only [Instr.sureAddr,B2,CU,A2,hE.run_isAgg g];cases i:IP d with
   |true=>
    simp only [i] at hl;cases hn:Ek h b off (E.size t) with
    |none=>simp [hn] at hl
    |some l=>
     simp only [hn,X8,A1] at hl;subst hl;unfold Ek at hn;cases e:h.blk.get b with
     |none=>simp [e] at hn
     |some y=>
      cases y with
      |cells k c=>
       simp only [e] at hn;cases f:Nat.ble (off+E.size t) k with
       |false=>simp [f] at hn
       |true=>
        simp only [f] at hn;obtain ⟨vs,j,m,_⟩:=n.loadCells E.P q e (Ep f) hn;simp only [if_true,B2,hE.run_size g,A2,m,CU];exact ⟨_,rfl,.agg _ _ j.1 j.2⟩
      |_=>simp [e] at hn
   |false=>
    simp only [i] at hl;cases e:h.blk.get b with
    |none=>simp [e] at hl
    |some y=>
     cases y with
     |cells k c=>
      simp only [e] at hl;cases f:Nat.blt off k with
      |false=>simp [f] at hl
      |true=>
       simp only [f] at hl;obtain ⟨v,j,m⟩:=n.cell q e (N4 f) hl;simp only [E2,ez,run_load,j];exact ⟨v,rfl,m⟩
     |_=>simp [e] at hl
  |_=>simp [g] at hl
theorem Xc (j:HR ρ h.blk.get w) {t:TypeId} {x a:AV} {f v:Value} {h':Aa} (k:VR ρ x f) (l:VR ρ a v) (hl:PF E t x a h=some h') :
  ∃c,(Instr.storeAt t f v).run E.P w=.ok () c∧HR ρ h'.blk.get c∧Ext ρ ρ h h' w c:=by
 unfold PF at hl;cases k with
 |ptr b off g m=>
  simp only [] at hl;cases hs:E.szIs t a.cells.length with
  |false=>simp [hs] at hl
  |true=>
   simp only [hs] at hl
   have n:a≠.top:=by
    rintro rfl
    unfold storeN at hl;cases i:h.blk.get b with
    |none=>simp [i] at hl
    |some y=>cases y<;>simp [i,AV.cells,E8,AV.one] at hl
   have d:=l.cells n;obtain ⟨c,o,p,q⟩:=j.storeN E.P m d hl;refine ⟨c,?_,p,q⟩;unfold Instr.storeAt storeVar;have e:v.cells.size=a.cells.length:=by have:=d.1;simp at this;omega
   simp [Instr.sureAddr,hE.run_szIs hs,e,o]
 |_=>simp at hl
theorem NZ {t:TypeId} {x a:AV} {f:Nat} {l:Value} (m:VR ρ x l) (hl:Ik E t x f=some a) :
  ∃v,(Instr.fieldAt t l f).run E.P w=.ok v w∧VR ρ a v:=by
 unfold Ik at hl;cases e:E.desc t with
 |none=>simp [e] at hl
 |some d=>
  cases d with
  |struct o=>
   cases m with
   |ptr b off c p=>
    simp only [e] at hl;cases g:o.toList[f]? with
    |none=>simp [g] at hl
    |some fd=>
     simp only [g] at hl;have j:o[f]?=some fd:=by simpa using g
     cases hs:E.size fd.type with
     |zero=>simp [hs] at hl
     |succ n=>
      simp only [hs,A1] at hl;subst hl
      have k:∀w,(sizeOf fd.type).run E.P w=.ok (n+1) w:=by
       intro w;unfold Env.size at hs;cases hi:E.ty.get fd.type with
       |none=>simp [hi] at hs
       |some i=>simp only [hi] at hs;rw [hE.run_sz hi,hs]
      refine ⟨.pointer (some ⟨c.cb,c.co+(off+fd.offset),none⟩),?_,.ptr b _ c p⟩;simp [Instr.fieldAt,hE.run_und e,j,Instr.sureAddr,fieldPlace,k,CG,hS]
   |_=>simp [e] at hl
  |_=>cases m<;>simp [e] at hl
theorem XY {t:TypeId} {x a:AV} {f:Nat} {b:Value} (c:VR ρ x b) (hl:Tg E t x f=some a) :
  ∃v,(Instr.field t b f).run E.P w=.ok v w∧VR ρ a v:=by unfold Tg at hl;cases hl
omit hE in
theorem FP {ρ:Ren} {a:AV} {v:Value} {n:Nat} (hv:VR ρ a v) (h:Hj a=some n):∃k,v=.int k (n:Int):=by
 cases hv with
 |int k m=>
  cases m with
  |ofNat m=>simp only [Hj,A1] at h;subst h;exact ⟨k,rfl⟩
  |negSucc m=>simp [Hj] at h
 |_=>simp [Hj] at h
theorem NS {t:TypeId} {x i a:AV} {q r:Value} (l:VR ρ x q) (hi:VR ρ i r) (hl:Ix E t x i=some a) :
  ∃v,(Instr.indexAt t q r).run E.P w=.ok v w∧VR ρ a v:=by
 unfold Ix at hl;cases g:E.desc t with
 |none=>simp [g] at hl
 |some d=>
  cases hn:Hj i with
  |none=>cases d<;>cases x<;>simp [g,hn] at hl
  |some n=>
   obtain ⟨k,rfl⟩:=FP hi hn;cases d with
   |slice e=>
    cases l with
    |slice b off len o s c p u y=>
     simp only [g,hn] at hl;cases f:(Nat.blt n len&&E.szIs e o) with
     |false=>simp [f] at hl
     |true=>
      simp only [f,A1] at hl;subst hl;obtain ⟨c1,c2⟩:=AC f;have j:=N4 c1;refine ⟨.pointer (some ⟨c.cb,c.co+(off+n*o),none⟩),?_,.ptr b _ c p⟩;simp [Instr.indexAt,asIntOf,hE.run_und g,hE.run_szIs c2,j,CG,hS]
    |sliceEnd b off o a=>
     have e0:Nat.blt n 0=false:=rfl;simp [g,hn,e0] at hl
    |_=>simp [g,hn] at hl
   |array len e=>
    cases l with
    |ptr b off c p=>
     simp only [g,hn] at hl;cases f:(Nat.blt n len&&E.has e) with
     |false=>simp [f] at hl
     |true=>
      simp only [f,A1] at hl;subst hl;obtain ⟨c1,c2⟩:=AC f;have j:=N4 c1;refine ⟨.pointer (some ⟨c.cb,c.co+(off+n*E.size e),none⟩),?_,.ptr b _ c p⟩;simp [Instr.indexAt,asIntOf,hE.run_und g,hE.run_has c2,Instr.sureAddr,j,CG,hS]
    |_=>simp [g,hn] at hl
   |_=>cases l<;>simp [g,hn] at hl
end
end Go.AE
namespace Go.AE
variable [U:Unk]
section
variable {E:Env} (hE:OK E) {ρ:Ren} {h:Aa} {w:World}
include hE
omit hE in
theorem E7 {len cap:Nat} {lo hi mx:Option AV} {lo' hi' mx':Option Value} {l hh:Nat} (P:Program) (w:World) (isSlice:Bool)
  (hlo:∀a,lo=some a→∃v,lo'=some v∧VR ρ a v) (hlo0:lo=none→lo'=none)
  (hhi:∀a,hi=some a→∃v,hi'=some v∧VR ρ a v) (hhi0:hi=none→hi'=none)
  (hmx:∀a,mx=some a→∃v,mx'=some v∧VR ρ a v) (hmx0:mx=none→mx'=none)
  (hmh:mx≠none→hi≠none) (hc:len≤cap)
  (hb:DG len lo hi mx=some (l,hh)):∃m,(Instr.sliceBounds isSlice len cap lo' hi' mx').run P w=.ok (l,hh,m) w∧l≤hh∧hh≤m∧m≤cap∧hh≤len:=by
 unfold DG at hb
 have getb:∀(o:Option AV) (o':Option Value) (d k:Nat),(∀a,o=some a→∃v,o'=some v∧VR ρ a v)→(o=none→o'=none)→GF o d=some k→(o=none∧o'=none∧k=d)∨(o≠none∧∃kd,o'=some (.int kd (k:Int))):=by
  intro o o' d k h1 h2 h3;cases o with
  |none=>simp [GF] at h3;exact .inl ⟨rfl,h2 rfl,h3.symm⟩
  |some a=>
   obtain ⟨v,hv,hvr⟩:=h1 a rfl;simp only [GF] at h3;obtain ⟨kd,rfl⟩:=FP hvr h3;exact .inr ⟨by simp,kd,hv⟩
 cases hm:GF mx len with
 |none=>simp [hm] at hb
 |some m=>
  simp only [hm] at hb;cases h1:GF hi len with
  |none=>simp [h1] at hb
  |some H=>
   cases h2:GF lo 0 with
   |none=>simp [h1,h2] at hb
   |some L=>
    simp only [h1,h2] at hb;cases hcc:(Nat.ble L H&&Nat.ble H m&&Nat.ble m len) with
    |false=>simp [hcc] at hb
    |true=>
     simp only [hcc,A1,E5] at hb;obtain ⟨rfl,rfl⟩:=hb;obtain ⟨c12,c3⟩:=AC hcc;obtain ⟨c1,c2⟩:=AC c12;have b1:=Ep c1;have b2:=Ep c2;have b3:=Ep c3
     have JV:∀(kd:IntKind) (x y:Nat) (code:BoundsCode),x≤y→(Instr.sliceBound (.int kd (x:Int)) y code).run P w=.ok x w:=by
      intro kd x y code hxy;simp [Instr.sliceBound,asIntOf,hxy]
     rcases getb mx mx' len m hmx hmx0 hm with ⟨e1,e2,e3⟩|⟨e1,kd1,e2⟩
     ·subst e1;subst e2;subst e3;rcases getb hi hi' m H hhi hhi0 h1 with ⟨f1,f2,f3⟩|⟨f1,kd2,f2⟩
      ·subst f2;rcases getb lo lo' 0 L hlo hlo0 h2 with ⟨g1,g2,g3⟩|⟨g1,kd3,g2⟩
       ·subst g2;subst g3;subst f3;exact ⟨cap,by simp [Instr.sliceBounds],by omega,by omega,by omega,by omega⟩
       ·subst g2;subst f3;exact ⟨cap,by simp [Instr.sliceBounds,JV _ _ _ _ b1],by omega,by omega,by omega,by omega⟩
      ·subst f2;rcases getb lo lo' 0 L hlo hlo0 h2 with ⟨g1,g2,g3⟩|⟨g1,kd3,g2⟩
       ·subst g2;subst g3;exact ⟨cap,by simp [Instr.sliceBounds,JV _ H cap _ (by omega)],by omega,by omega,by omega,by omega⟩
       ·subst g2;exact ⟨cap,by simp [Instr.sliceBounds,JV _ H cap _ (by omega),JV _ L H _ b1],by omega,by omega,by omega,by omega⟩
     ·subst e2;rcases getb hi hi' len H hhi hhi0 h1 with ⟨f1,f2,f3⟩|⟨f1,kd2,f2⟩
      ·exact absurd f1 (hmh e1)
      ·subst f2;rcases getb lo lo' 0 L hlo hlo0 h2 with ⟨g1,g2,g3⟩|⟨g1,kd3,g2⟩
       ·subst g2;subst g3;exact ⟨m,by simp [Instr.sliceBounds,JV _ m cap _ (by omega),JV _ H m _ b2],by omega,by omega,by omega,by omega⟩
       ·subst g2;exact ⟨m,by simp [Instr.sliceBounds,JV _ m cap _ (by omega),JV _ H m _ b2,JV _ L H _ b1],by omega,by omega,by omega,by omega⟩
theorem XS (K:HR ρ h.blk.get w) {t:TypeId} {x a:AV} {J:Value} {lo hi mx:Option AV} {lo' hi' mx':Option Value} (u:VR ρ x J)
  (hlo:∀a,lo=some a→∃v,lo'=some v∧VR ρ a v) (hlo0:lo=none→lo'=none)
  (hhi:∀a,hi=some a→∃v,hi'=some v∧VR ρ a v) (hhi0:hi=none→hi'=none)
  (hmx:∀a,mx=some a→∃v,mx'=some v∧VR ρ a v) (hmx0:mx=none→mx'=none)
  (hmh:mx≠none→hi≠none)
  (hl:SV E t x lo hi mx h=some a):∃v,(Instr.sliceAt t J lo' hi' mx').run E.P w=.ok v w∧VR ρ a v:=by
 unfold SV at hl;cases g:E.desc t with
 |none=>simp [g] at hl
 |some d=>
  cases d with
  |string=>
   cases u with
   |str s=>
    simp only [g] at hl;cases mx with
    |some m=>simp at hl
    |none=>
     simp only [] at hl;cases hb:DG s.data.toList.length lo hi none with
     |none=>simp only [hb] at hl;cases hl
     |some p=>
      obtain ⟨L,H⟩:=p;simp only [hb,A1] at hl;subst hl;obtain ⟨m,i,A,D,z,B⟩:=E7 E.P w false hlo hlo0 hhi hhi0 hmx hmx0 hmh (C1 _) hb;have e0:=hmx0 rfl;subst e0;have G:s.size=s.data.toList.length:=by simp
      rw [NP A B]
      have u:(s.extract L H).data.toList=(s.data.toList.drop L).take (H-L):=by
       simp [ByteArray.data_extract]
      have C:H-L=((s.data.toList.drop L).take (H-L)).length:=by simp;omega
      refine ⟨.string (s.extract L H),?_,?_⟩
      ·simp only [Instr.sliceAt,B2,hE.run_und g,A2,Instr.slice];rw [←G] at i;simp [i]
      ·have:=VR.str (ρ:=ρ) (s.extract L H);rw [u] at this;rw [←C] at this;exact this
   |_=>simp [g] at hl
  |slice e=>
   cases u with
   |slice0=>
    simp only [g] at hl;cases hb:DG 0 lo hi mx with
    |none=>simp [hb] at hl
    |some p=>
     obtain ⟨L,H⟩:=p;cases hs:E.has e with
     |false=>simp [hb,hs] at hl
     |true=>
      simp only [hb,hs,A1] at hl;subst hl;obtain ⟨m,i,A,D,z,B⟩:=E7 E.P w true hlo hlo0 hhi hhi0 hmx hmx0 hmh (C1 0) hb;have:L=0∧H=0∧m=0:=by omega
      obtain ⟨rfl,rfl,rfl⟩:=this;exact ⟨.slice none 0 0,by simp [Instr.sliceAt,Instr.slice,hE.run_und g,i,hE.run_has hs],.slice0⟩
   |slice b off len q cap f r hc Q=>
    simp only [g] at hl;cases hb:DG len lo hi mx with
    |none=>simp [hb] at hl
    |some p=>
     obtain ⟨L,H⟩:=p;simp only [hb] at hl;cases hs:E.szIs e q with
     |false=>simp [hs] at hl
     |true=>
      simp only [hs,A1] at hl;subst hl;obtain ⟨m,i,A,D,z,B⟩:=E7 E.P w true hlo hlo0 hhi hhi0 hmx hmx0 hmh hc hb;by_cases j:m=L
      ·have:H=L:=by omega
       subst this;subst j;refine ⟨.slice (some ⟨f.cb,f.co+off,none⟩) 0 0,?_,?_⟩
       ·simp [Instr.sliceAt,Instr.slice,hE.run_und g,i,hE.run_szIs hs]
       ·rw [Nat.sub_self];exact .sliceEnd _ _ _ _
      ·refine ⟨.slice (some ⟨f.cb,f.co+(off+L*q),none⟩) (H-L) (m-L),?_,?_⟩
       ·simp [Instr.sliceAt,Instr.slice,hE.run_und g,i,hE.run_szIs hs,j,CG,hS]
       ·refine .slice b _ _ q _ f r (by omega) ?_
        have h1:L*q+(m-L)*q=m*q:=by rw [←ce];congr 1;omega
        have h2:m*q≤cap*q:=F3 _ z;omega
   |sliceEnd b off q a=>
    simp only [g] at hl;cases hb:DG 0 lo hi mx with
    |none=>simp [hb] at hl
    |some p=>
     obtain ⟨L,H⟩:=p;simp only [hb] at hl;cases hs:E.szIs e q with
     |false=>simp [hs] at hl
     |true=>
      simp only [hs,A1] at hl;subst hl;obtain ⟨m,i,A,D,z,B⟩:=E7 E.P w true hlo hlo0 hhi hhi0 hmx hmx0 hmh (C1 0) hb;have:L=0∧H=0∧m=0:=by omega
      obtain ⟨rfl,rfl,rfl⟩:=this;refine ⟨.slice (some a) 0 0,?_,?_⟩
      ·simp [Instr.sliceAt,Instr.slice,hE.run_und g,i,hE.run_szIs hs]
      ·rw [Nat.sub_self];exact .sliceEnd _ _ _ _
   |_=>simp [g] at hl
  |array n e=>
   cases u with
   |ptr b off f r=>
    simp only [g] at hl;cases hb:DG n lo hi mx with
    |none=>simp [hb] at hl
    |some p=>
     obtain ⟨L,H⟩:=p;cases hs:E.has e with
     |false=>simp [hb,hs] at hl
     |true=>
      cases F:h.blk.get b with
      |none=>simp [hb,hs,F] at hl
      |some y=>
       cases y with
       |cells M c=>
        simp only [hb,hs,F] at hl;cases I:Nat.ble (off+n*E.size e) M with
        |false=>simp [I] at hl
        |true=>
         simp only [I,A1] at hl;subst hl;have N:=Ep I;obtain ⟨O,e1,R,h1,h2,h3,S,T⟩:=K.blk b f _ r F;obtain ⟨m,i,A,D,z,B⟩:=E7 E.P w false hlo hlo0 hhi hhi0 hmx hmx0 hmh (C1 n) hb;by_cases j:m=L
         ·have:H=L:=by omega
          subst this;subst j;refine ⟨.slice (some ⟨f.cb,f.co+off,none⟩) 0 0,?_,?_⟩
          ·simp [Instr.sliceAt,Instr.sureAddr,hE.run_und g,i,hE.run_has hs]
          ·rw [Nat.sub_self];exact .sliceEnd _ _ _ _
         ·refine ⟨.slice (some ⟨f.cb,f.co+(off+L*E.size e),none⟩) (H-L) (m-L),?_,?_⟩
          ·simp [Instr.sliceAt,Instr.sureAddr,hE.run_und g,i,hE.run_has hs,j,CG,hS]
          ·refine .slice b _ _ _ _ f r (by omega) ?_
           have g1:L*E.size e+(m-L)*E.size e=m*E.size e:=by rw [←ce];congr 1;omega
           have g2:m*E.size e≤n*E.size e:=F3 _ z;omega
       |_=>simp [hb,hs,F] at hl
   |_=>simp [g] at hl
  |_=>cases u<;>simp [g] at hl
end
end Go.AE

