/- What is proved here: an evaluator of the model's steps that the kernel can run, and that whatever it answers is what the model does (part 1 of 8: Ae, AeRel, AeOps1). Conditions: those that each theorem states; they hold of no one program. -/
import GoSem.Step
import Derived.Calls
import Derived.Laws.Sem
set_option linter.unusedVariables false
set_option linter.unusedSectionVars false
set_option linter.unusedSimpArgs false
namespace Go.AE
inductive T (α:Type) where
 |nil
 |node (v:Option α) (l r:T α)
 deriving Inhabited
def T.get0 {α:Type}:T α→Nat→Option α
 |.nil,_=>none
 |.node v l r,i=>
  match Nat.beq i 0 with
  |true=>v
  |false=>match Nat.beq (i%2) 1 with
   |true=>l.get0 (i/2)
   |false=>r.get0 (i/2-1)
def T.setF {α:Type}:Nat→T α→Nat→Option α→T α
 |0,t,_,_=>t
 |f+1,.nil,i,x=>
  match Nat.beq i 0 with
  |true=>.node x .nil .nil
  |false=>match Nat.beq (i%2) 1 with
   |true=>.node none (T.setF f .nil (i/2) x) .nil
   |false=>.node none .nil (T.setF f .nil (i/2-1) x)
 |f+1,.node v l r,i,x=>
  match Nat.beq i 0 with
  |true=>.node x l r
  |false=>match Nat.beq (i%2) 1 with
   |true=>.node v (T.setF f l (i/2) x) r
   |false=>.node v l (T.setF f r (i/2-1) x)
structure Sel (α:Type) where
 f:T α→Option α
structure Upd (α:Type) where
 f:Option α→T α→T α
def T.val {α:Type} (t:T α):Option α:=T.casesOn (motive:=fun _=>Option α) t none (fun v _ _=>v)
def T.putV {α:Type} (x:Option α) (t:T α):T α:=T.casesOn (motive:=fun _=>T α) t (.node x .nil .nil) (fun _ l r=>.node x l r)
def Sq {α:Type} (F:Nat):Nat→Sel α:=Nat.rec (motive:=fun _=>Nat→Sel α) (fun _=>⟨fun _=>none⟩)
 (fun _ ih m=>Nat.casesOn (motive:=fun _=>Sel α) (Nat.div m 2)
  (Nat.casesOn (motive:=fun _=>Sel α) (Nat.mod m 2)
   ⟨fun t=>T.casesOn (motive:=fun _=>Option α) t none (fun _ l _=>T.val l)⟩
   (fun _=>⟨fun t=>T.casesOn (motive:=fun _=>Option α) t none (fun _ _ r=>T.val r)⟩))
  (fun k=>Nat.casesOn (motive:=fun _=>Sel α) (Nat.mod m 2)
   ⟨fun t=>T.casesOn (motive:=fun _=>Option α) t none (fun _ l _=>(ih k).f l)⟩
   (fun _=>⟨fun t=>T.casesOn (motive:=fun _=>Option α) t none (fun _ _ r=>(ih k).f r)⟩))) F
def JL {α:Type} (F:Nat):Nat→Upd α:=Nat.rec (motive:=fun _=>Nat→Upd α) (fun _=>⟨fun _ t=>t⟩)
 (fun _ ih m=>Nat.casesOn (motive:=fun _=>Upd α) (Nat.div m 2)
  (Nat.casesOn (motive:=fun _=>Upd α) (Nat.mod m 2)
   ⟨fun x t=>T.casesOn (motive:=fun _=>T α) t (.node none (T.putV x .nil) .nil) (fun v l r=>.node v (T.putV x l) r)⟩
   (fun _=>⟨fun x t=>T.casesOn (motive:=fun _=>T α) t (.node none .nil (T.putV x .nil)) (fun v l r=>.node v l (T.putV x r))⟩))
  (fun k=>Nat.casesOn (motive:=fun _=>Upd α) (Nat.mod m 2)
   ⟨fun x t=>T.casesOn (motive:=fun _=>T α) t (.node none ((ih k).f x .nil) .nil) (fun v l r=>.node v ((ih k).f x l) r)⟩
   (fun _=>⟨fun x t=>T.casesOn (motive:=fun _=>T α) t (.node none .nil ((ih k).f x .nil)) (fun v l r=>.node v l ((ih k).f x r))⟩))) F
def TV {α:Type} (m:Nat):Sel α:=Bool.casesOn (motive:=fun _=>Sel α) (Nat.ble m 9223372036854775807) ⟨fun t=>T.get0 t (m+1)⟩ (Sq 64 m)
def TQ {α:Type} (m:Nat):Upd α:=Bool.casesOn (motive:=fun _=>Upd α) (Nat.ble m 9223372036854775807) ⟨fun x t=>T.setF (m+2) t (m+1) x⟩ (JL 64 m)
def T.get {α:Type} (t:T α) (i:Nat):Option α:=Nat.casesOn (motive:=fun _=>Option α) i (T.val t) (fun m=>(TV m).f t)
def T.put {α:Type} (t:T α) (i:Nat) (x:Option α):T α:=Nat.casesOn (motive:=fun _=>T α) i (T.putV x t) (fun m=>(TQ m).f x t)
def T.set {α:Type} (t:T α) (i:Nat) (x:α):T α:=t.put i (some x)
def T.del {α:Type} (t:T α) (i:Nat):T α:=t.put i none
def T.ofListFrom {α:Type}:List α→Nat→T α→T α
 |[],_,t=>t
 |x::r,i,t=>T.ofListFrom r (i+1) (t.set i x)
def T.ofList {α:Type} (l:List α):T α:=T.ofListFrom l 0 .nil
def T.range {α:Type} (t:T α) (i:Nat):Nat→Option (List α)
 |0=>some []
 |n+1=>match t.get i with
  |some x=>match t.range (i+1) n with
   |some r=>some (x::r)
   |none=>none
  |none=>none
inductive D where
 |bool (b:Bool)
 |int (n:Int)
 |str (s:ByteArray)
 |slc (nl:Bool) (rows:List D)
 |row (cells:List D)
 deriving Inhabited
def D.toInt:D→Int
 |.int n=>n
 |_=>0
def D.toBool:D→Bool
 |.bool b=>b
 |_=>false
def D.toStr:D→ByteArray
 |.str s=>s
 |_=>.empty
def D.rows:D→List D
 |.slc _ l=>l
 |_=>[]
def D.cells:D→List D
 |.row l=>l
 |_=>[]
def D.isNil:D→Bool
 |.slc b _=>b
 |_=>false
inductive Kd where
 |int (k:IntKind)
 |bool
 |str
 |slice (e:TypeId)
 deriving DecidableEq,Inhabited
inductive SE where
 |c (n:Int)
 |var (i:Nat)
 |lenS (a:SE)
 |lenL (a:SE)
 |arith (op:BinOp) (k:IntKind) (a b:SE)
 |conv (k:IntKind) (a:SE)
 |lss (a b:SE)
 |eql (a b:SE)
 |eqS (a:SE) (l b:Nat)
 |eqSS (a b:SE)
 |isNil (a:SE)
 |bc (b:Bool)
 |neg (a:SE)
 |and (a b:SE)
 |nilIs (a b:SE)
 |strc (l b:Nat)
 |strAt (a i:SE)
 |strCat (a b:SE)
 |strSub (a lo hi:SE)
 |cell (a i:SE) (j:Nat)
 |sel (a:SE) (j:Nat)
 |nilL
 |emptyL
 |snoc (a r:SE)
 |upd (a i:SE) (j:Nat) (x:SE)
 |rep (n r:SE)
 |cat (a b:SE)
 |sub (a lo hi:SE)
 |rnil
 |rcons (x r:SE)
 |app (f:Nat) (x:SE)
 |bytes (a:SE)
 |ofBytes (a:SE)
 |mIdx (ks:List Kd) (a k:SE)
 |rmv (a i:SE)
 deriving Inhabited
abbrev SB:=SE
inductive AV where
 |top
 |bool (b:Bool)
 |int (k:IntKind) (n:Int)
 |str (len bits:Nat)
 |ptr0
 |ptr (b off:Nat)
 |slice0
 |slice (b off len es:Nat)
 |map0
 |map (b:Nat)
 |func (fn:Fn) (first captured:List AV)
 |nilFunc
 |iface (t:TypeId) (v:AV)
 |nilIface
 |agg (cells:List AV)
 |tuple (vs:List AV)
 |sb (pos:Bool) (e:SB)
 |si (k:IntKind) (e:SE)
 |ss (x:SE)
 |dat (e:TypeId) (x:SE)
 |dptr (e:TypeId) (x i:SE) (off:Nat)
 |asl (b es:Nat) (n nl:SE)
 |eslc (nl:SE)
 |aptr (b es:Nat) (i:SE) (off:Nat)
 |nmap (b:Nat) (nl:SE)
 |stamp (b:Nat)
 |glob (g off:Nat)
 deriving Inhabited
def AV.undef:AV:=.tuple []
def As:List UInt8→Nat
 |[]=>0
 |b::r=>b.toNat+256*As r
def AV.isTop:AV→Bool
 |.top=>true
 |_=>false
def AV.cells:AV→List AV
 |.agg l=>l
 |v=>[v]
def AM:Value→Option AV
 |.bool b=>some (.bool b)
 |.int k n=>some (.int k n)
 |.string s=>some (.str s.data.toList.length (As s.data.toList))
 |.pointer none=>some .ptr0
 |.slice none 0 0=>some .slice0
 |.map none=>some .map0
 |.nilFunc=>some .nilFunc
 |.nilIface=>some .nilIface
 |_=>none
def Cl:List Value→Option (List AV)
 |[]=>some []
 |v::r=>match AM v,Cl r with
  |some a,some as=>some (a::as)
  |_,_=>none
def ofValue:Value→Option AV
 |.agg c=>match Cl c.toList with
  |some l=>some (.agg l)
  |none=>none
 |v=>AM v
structure AD where
 fn:Option Fn
 coll:Nat
 captured:List AV
 args:List AV
 deriving Inhabited
structure Ak where
 key:AV
 val:AV
 born:Nat
 deriving Inhabited
inductive Ac where
 |cells (n:Nat) (c:T AV)
 |arr (e:TypeId) (x:SE)
 |map (es:List Ak) (clock:Nat)
 |dmap (kt vt:TypeId) (x:SE)
 |loop (st:LoopState) (pending:Option Code) (fn:FuncId) (nt:Nat) (tmps:T AV) (params:List Tmp) (assign body:Code) (defers:Nat)
 |deferred (ds:Option (List AD))
 |mapIter (m:Option Nat) (since:Nat) (seen:List Nat) (last:Nat)
 |dmapS (kt vt:TypeId) (x n:SE) (b:Nat)
 |strIter (l b pos:Nat)
 deriving Inhabited
structure Aa where
 blk:T Ac
 nx:Nat
 log:List Nat
 deriving Inhabited
inductive F5 where
 |run
 |ret
 |panic (chain:List (AV×Bool))
 deriving Inhabited
inductive AI where
 |code (c:Code)
 |inBlock (id:Nat)
 |inLoop (body:Code)
 |inScope (body:Code)
 |ops (all:Array Oper) (rest:List Oper)
 |inRange (l:Nat)
 |endRange (l:Nat)
 |beginRound
 |dead
 |rest
 deriving Inhabited
structure AF where
 fn:FuncId
 nt:Nat
 tmps:T AV
 todo:List AI
 defers:List AD
 mode:F5
 kind:CallKind
 round:Option Nat
 deriving Inhabited
structure AS where
 fr:AF
 cs:List AF
 h:Aa
 deriving Inhabited
structure Orc where
 f:FuncId
 args:List AV
 part:T Ac
 nx:Nat
 ok:Bool
 v:AV
 out:T Ac
 nx':Nat
 wr:List Nat
 deriving Inhabited
structure Sm where
 f:FuncId
 nv:Nat
 args:List AV
 pre:List (Option Ac)
 facts:List (SB×Bool)
 res:AV
 post:List (Option Ac)
 ok:Bool:=true
 deriving Inhabited
structure Env where
 P:Program
 ty:T TypeInfo
 fn:T Func
 orc:List Orc
 sms:List Sm
 gl:T (List AV):=.nil
 ox:T (List Orc):=.nil
 deriving Inhabited
class Au where
 tab:T (List AV)
def V1 (e:Orc) (t:T (List Orc)):T (List Orc):=match t.get e.f with
 |some l=>t.set e.f (e::l)
 |none=>t.set e.f [e]
def RH:List Orc→T (List Orc)
 |[]=>.nil
 |e::r=>V1 e (RH r)
def Env.ofS [Gl:Au] (P:Program) (l:List Orc) (m:List Sm):Env:={P,ty:=.ofList P.types.toList,fn:=.ofList P.funcs.toList,orc:=l,sms:=m,gl:=Gl.tab,ox:=RH l}
def Env.ofO [Gl:Au] (P:Program) (l:List Orc):Env:=Env.ofS P l []
def Env.of [Gl:Au] (P:Program):Env:=Env.ofO P []
inductive Ask where
 |enter (f:FuncId) (args:List AV)
 |round (l:Nat) (args:List AV)
 deriving Inhabited
def SE.same:SE→SE→Bool
 |.c n,.c m=>n==m
 |.var i,.var j=>Nat.beq i j
 |.lenS a,.lenS b=>a.same b
 |.lenL a,.lenL b=>a.same b
 |.arith op k a b,.arith op' k' a' b'=>decide (op=op')&&decide (k=k')&&a.same a'&&b.same b'
 |.conv k a,.conv k' a'=>decide (k=k')&&a.same a'
 |.lss a b,.lss a' b'=>a.same a'&&b.same b'
 |.eql a b,.eql a' b'=>a.same a'&&b.same b'
 |.eqS a l b,.eqS a' l' b'=>a.same a'&&Nat.beq l l'&&Nat.beq b b'
 |.eqSS a b,.eqSS a' b'=>a.same a'&&b.same b'
 |.isNil a,.isNil b=>a.same b
 |.bc a,.bc b=>a==b
 |.neg a,.neg b=>a.same b
 |.and a b,.and a' b'=>a.same a'&&b.same b'
 |.nilIs a b,.nilIs a' b'=>a.same a'&&b.same b'
 |.strc l b,.strc l' b'=>Nat.beq l l'&&Nat.beq b b'
 |.strAt a b,.strAt a' b'=>a.same a'&&b.same b'
 |.strCat a b,.strCat a' b'=>a.same a'&&b.same b'
 |.strSub a b x,.strSub a' b' x'=>a.same a'&&b.same b'&&x.same x'
 |.cell a b j,.cell a' b' j'=>a.same a'&&b.same b'&&Nat.beq j j'
 |.sel a j,.sel a' j'=>a.same a'&&Nat.beq j j'
 |.nilL,.nilL=>true
 |.emptyL,.emptyL=>true
 |.snoc a b,.snoc a' b'=>a.same a'&&b.same b'
 |.upd a b j x,.upd a' b' j' x'=>a.same a'&&b.same b'&&Nat.beq j j'&&x.same x'
 |.rep a b,.rep a' b'=>a.same a'&&b.same b'
 |.cat a b,.cat a' b'=>a.same a'&&b.same b'
 |.sub a b x,.sub a' b' x'=>a.same a'&&b.same b'&&x.same x'
 |.rnil,.rnil=>true
 |.rcons a b,.rcons a' b'=>a.same a'&&b.same b'
 |.app f a,.app f' a'=>Nat.beq f f'&&a.same a'
 |.bytes a,.bytes b=>a.same b
 |.ofBytes a,.ofBytes b=>a.same b
 |.mIdx ks a k,.mIdx ks' a' k'=>decide (ks=ks')&&a.same a'&&k.same k'
 |.rmv a i,.rmv a' i'=>a.same a'&&i.same i'
 |_,_=>false
def XP:Fn→Fn→Bool
 |.func f,.func g=>Nat.beq f g
 |_,_=>false
mutual
def Bg:AV→AV→Bool
 |.top,.top=>true
 |.bool a,.bool b=>a==b
 |.int k a,.int k' b=>decide (k=k')&&a==b
 |.str l a,.str l' b=>Nat.beq l l'&&Nat.beq a b
 |.ptr0,.ptr0=>true
 |.ptr b o,.ptr b' o'=>Nat.beq b b'&&Nat.beq o o'
 |.slice0,.slice0=>true
 |.slice b o n e,.slice b' o' n' e'=>Nat.beq b b'&&Nat.beq o o'&&Nat.beq n n'&&Nat.beq e e'
 |.map0,.map0=>true
 |.map b,.map b'=>Nat.beq b b'
 |.func fn f c,.func fn' f' c'=>XP fn fn'&&F7 f f'&&F7 c c'
 |.nilFunc,.nilFunc=>true
 |.iface t v,.iface t' v'=>Nat.beq t t'&&Bg v v'
 |.nilIface,.nilIface=>true
 |.agg l,.agg l'=>F7 l l'
 |.tuple l,.tuple l'=>F7 l l'
 |.sb p e,.sb p' e'=>p==p'&&e.same e'
 |.si k e,.si k' e'=>decide (k=k')&&e.same e'
 |.ss e,.ss e'=>e.same e'
 |.dat t e,.dat t' e'=>Nat.beq t t'&&e.same e'
 |.asl b es n nl,.asl b' es' n' nl'=>Nat.beq b b'&&Nat.beq es es'&&n.same n'&&nl.same nl'
 |.eslc e,.eslc e'=>e.same e'
 |.nmap b e,.nmap b' e'=>Nat.beq b b'&&e.same e'
 |_,_=>false
termination_by structural a=>a
def F7:List AV→List AV→Bool
 |[],[]=>true
 |a::l,b::m=>Bg a b&&F7 l m
 |_,_=>false
termination_by structural l=>l
end
def eqO {α:Type} (eq:α→α→Bool):Option α→Option α→Bool
 |none,none=>true
 |some a,some b=>eq a b
 |_,_=>false
def eqT {α:Type} (eq:α→α→Bool):T α→T α→Bool
 |.nil,.nil=>true
 |.node v l r,.node v' l' r'=>eqO eq v v'&&eqT eq l l'&&eqT eq r r'
 |_,_=>false
def Rn:List Ak→List Ak→Bool
 |[],[]=>true
 |a::l,b::m=>Bg a.key b.key&&Bg a.val b.val&&Nat.beq a.born b.born&&Rn l m
 |_,_=>false
def Nu:Ac→Ac→Bool
 |.cells n c,.cells m d=>Nat.beq n m&&eqT Bg c d
 |.map es k,.map es' k'=>Nat.beq k k'&&Rn es es'
 |.arr e x,.arr e' x'=>Nat.beq e e'&&x.same x'
 |.dmap k v x,.dmap k' v' x'=>Nat.beq k k'&&Nat.beq v v'&&x.same x'
 |_,_=>false
def NK:T Ac→T Ac→Bool
 |.nil,_=>true
 |.node v l r,.node v' l' r'=>(match v with
   |none=>true
   |some x=>(match v' with
    |some y=>Nu x y
    |none=>false))&&NK l l'&&NK r r'
 |.node _ _ _,.nil=>false
def Gq (b:Nat):List Nat→Bool
 |[]=>false
 |c::r=>Nat.beq b c||Gq b r
def Ti (nx:Nat) (wr:List Nat):List Nat→Bool
 |[]=>true
 |b::r=>(Nat.ble nx b||Gq b wr)&&Ti nx wr r
def lf {α:Type} (x:α):T α:=.node (some x) .nil .nil
def nd {α:Type} (x:α) (l r:T α):T α:=.node (some x) l r
def no {α:Type} (l r:T α):T α:=.node none l r
def Env.desc (E:Env) (t:TypeId):Option TypeDesc:=
 match E.ty.get t with
 |some i=>match i.desc with
  |.named _ u=>match E.ty.get u with
   |some j=>some j.desc
   |none=>none
  |d=>some d
 |none=>none
def Env.size (E:Env) (t:TypeId):Nat:=match E.ty.get t with|some i=>i.size|none=>0
def Env.szIs (E:Env) (t:TypeId) (n:Nat):Bool:=match E.ty.get t with|some i=>Nat.beq i.size n|none=>false
def Env.has (E:Env) (t:TypeId):Bool:=match E.ty.get t with|some _=>true|none=>false
def Env.zero (E:Env) (t:TypeId):Option AV:=
 match E.ty.get t with
 |some i=>match i.zero with
  |some v=>ofValue v
  |none=>none
 |none=>none
def DS (sz:TypeId→Nat→Bool) (rec_:TypeId→Option (List Kd)):List Field→Nat→Option (List Kd)
 |[],_=>some []
 |f::r,off=>match Nat.beq f.offset off,rec_ f.type with
  |true,some ks=>match sz f.type ks.length,DS sz rec_ r (off+ks.length) with
   |true,some l=>some (ks++l)
   |_,_=>none
  |_,_=>none
def MZ:Nat→List Kd→List Kd
 |0,_=>[]
 |n+1,ks=>ks++MZ n ks
def HU (ar:Bool) (sz:TypeId→Nat→Bool) (rec_:TypeId→Option (List Kd)):Option TypeDesc→Option (List Kd)
 |some (.int k)=>some [.int k]
 |some .bool=>some [.bool]
 |some .string=>some [.str]
 |some (.slice e)=>some [.slice e]
 |some (.struct fs)=>DS sz rec_ fs.toList 0
 |some (.array n e)=>match ar,rec_ e with
  |true,some ks=>match Nat.blt (n*ks.length) 200 with
   |true=>some (MZ n ks)
   |false=>none
  |_,_=>none
 |_=>none
def C9 (ar:Bool) (desc:TypeId→Option TypeDesc) (sz:TypeId→Nat→Bool):Nat→TypeId→Option (List Kd)
 |0,_=>none
 |n+1,t=>match HU ar sz (C9 ar desc sz n) (desc t) with
  |some l=>match sz t l.length with
   |true=>some l
   |false=>none
  |none=>none
def Env.kinds (E:Env) (t:TypeId):Option (List Kd):=C9 true E.desc E.szIs 20 t
def Env.kinds0 (E:Env) (t:TypeId):Option (List Kd):=C9 false E.desc E.szIs 20 t
inductive Res where
 |val (v:AV) (h:Aa)
 |enter (f:FuncId) (args:List AV) (h:Aa)
 |round (l:Nat) (args:List AV) (h:Aa)
 |defer (d:AD) (h:Aa)
 |recover (h:Aa)
 |panic (v:AV) (h:Aa)
 |bad (why:String)
 deriving Inhabited
def Ah (tmps:T AV):Operand→AV
 |.tmp t=>match tmps.get t with
  |some v=>v
  |none=>.top
 |.const v=>match ofValue v with
  |some a=>a
  |none=>.top
 |.func f=>.func (.func f) [] []
 |.global g=>.glob g 0
def Aa.new (h:Aa) (b:Ac):Aa:={blk:=h.blk.set h.nx b,nx:=h.nx+1,log:=h.log}
def Aa.put (h:Aa) (r:Nat) (b:Ac):Aa:={blk:=h.blk.set r b,nx:=h.nx,log:=r::h.log}
def Aa.strike (h:Aa) (r:Nat):Aa:={blk:=h.blk.del r,nx:=h.nx,log:=r::h.log}
def Aa.stampN (h:Aa):Aa:={blk:=h.blk.del h.nx,nx:=h.nx+1,log:=h.log}
def A4 (h:Aa) (l:List AV):Aa:=h.new (.cells l.length (.ofList l))
def B1 (h:Aa) (b off n:Nat):Option (List AV):=
 match h.blk.get b with
 |some (.cells sz c)=>match Nat.ble (off+n) sz with
  |true=>c.range off n
  |false=>none
 |_=>none
def Ec:T AV→Nat→List AV→T AV
 |c,_,[]=>c
 |c,off,v::r=>Ec (c.set off v) (off+1) r
def AV.one:AV→Bool
 |.agg _=>false
 |.tuple _=>false
 |.top=>false
 |_=>true
def DF:List AV→Bool
 |[]=>true
 |v::r=>match v.one with
  |true=>DF r
  |false=>false
def storeN (h:Aa) (b off:Nat) (l:List AV):Option Aa:=
 match h.blk.get b with
 |some (.cells n c)=>
  match Nat.ble (off+l.length) n&&DF l with
  |true=>some (h.put b (.cells n (Ec c off l)))
  |false=>none
 |_=>none
def Fy:TypeDesc→Bool
 |.struct _=>true
 |.array _ _=>true
 |_=>false
def AH:List AV→Nat→List AV→List AV
 |l,_,[]=>l
 |[],_,_=>[]
 |x::l,0,v::r=>v::AH l 0 r
 |x::l,off+1,r=>x::AH l off r
def Ep (place:Nat→Option (Nat×Nat)):List AV→List (Nat×AV)→Option (List AV)
 |cells,[]=>some cells
 |cells,(i,v)::rest=>
  match place i with
  |none=>none
  |some (off,size)=>
   match Nat.beq v.cells.length size&&Nat.ble (off+size) cells.length && !v.isTop with
   |true=>Ep place (AH cells off v.cells) rest
   |false=>none
def Bj (z:List AV):Nat→List AV
 |0=>[]
 |n+1=>z++Bj z n
def B6 (E:Env) (t:TypeId) (cs:List AV) (off:Nat):Option AV:=
 match E.desc t with
 |some d=>match Fy d with
  |true=>some (.agg ((cs.drop off).take (E.size t)))
  |false=>cs[off]?
 |none=>none
def strEq (l b l' b':Nat):Bool:=Nat.beq l l'&&Nat.beq b b'
def Di:Nat→Nat→Nat→Nat→Nat→Bool
 |0,_,_,_,_=>false
 |f+1,la,a,lb,b=>
  match lb with
  |0=>false
  |lb'+1=>match la with
   |0=>true
   |la'+1=>
    match Nat.blt (a%256) (b%256) with
    |true=>true
    |false=>match Nat.beq (a%256) (b%256) with
     |true=>Di f la' (a/256) lb' (b/256)
     |false=>false
def eqFields (E:Env) (eq:TypeId→AV→AV→Option Bool) (xs ys:List AV):List Field→Option Bool
 |[]=>some true
 |f::r=>
  match f.name == "_" with
  |true=>none
  |false=>
   match B6 E f.type xs f.offset,B6 E f.type ys f.offset with
   |some a,some b=>match eq f.type a b with
    |some true=>eqFields E eq xs ys r
    |o=>o
   |_,_=>none
def G6 (E:Env) (eq:TypeId→AV→AV→Option Bool) (e:TypeId) (n:Nat) (xs ys:List AV):Nat→Nat→Option Bool
 |0,_=>some true
 |k+1,i=>
  match B6 E e xs (i*n),B6 E e ys (i*n) with
  |some a,some b=>match eq e a b with
   |some true=>G6 E eq e n xs ys k (i+1)
   |o=>o
  |_,_=>none
def aeq (E:Env):Nat→TypeId→AV→AV→Option Bool
 |0,_,_,_=>none
 |d+1,t,x,y=>
  match E.desc t,x,y with
  |some .bool,.bool a,.bool b=>some (a==b)
  |some (.int _),.int k a,.int k' b=>match decide (k=k') with|true=>some (a==b)|false=>none
  |some .string,.str l a,.str l' b=>some (strEq l a l' b)
  |some (.pointer _),.ptr0,.ptr0=>some true
  |some (.pointer _),.ptr0,.ptr _ _=>some false
  |some (.pointer _),.ptr _ _,.ptr0=>some false
  |some (.interface _),.nilIface,.nilIface=>some true
  |some (.interface _),.nilIface,.iface _ _=>some false
  |some (.interface _),.iface _ _,.nilIface=>some false
  |some (.interface _),.iface tx vx,.iface ty vy=>
   match Nat.beq tx ty with
   |false=>some false
   |true=>match E.ty.get tx with
    |some i=>match i.comparable with
     |true=>aeq E d tx vx vy
     |false=>none
    |none=>none
  |some (.struct fields),.agg xs,.agg ys=>match E.P.stoodInHeld t with
   |true=>none
   |false=>eqFields E (aeq E d) xs ys fields.toList
  |some (.array len e),.agg xs,.agg ys=>match E.has e with
   |true=>G6 E (aeq E d) e (E.size e) xs ys len 0
   |false=>none
  |some (.slice _),.slice0,.slice0=>some true
  |some (.slice _),.slice0,.slice ..=>some false
  |some (.slice _),.slice ..,.slice0=>some false
  |some (.map _ _),.map0,.map0=>some true
  |some (.map _ _),.map0,.map _=>some false
  |some (.map _ _),.map _,.map0=>some false
  |some (.func ..),.nilFunc,.nilFunc=>some true
  |some (.func ..),.nilFunc,.func ..=>some false
  |some (.func ..),.func ..,.nilFunc=>some false
  |_,_,_=>none
def bits (k:IntKind) (x:Int):Nat:=(x%(2^k.bits:Int)).toNat
def CK (op:BinOp) (k:IntKind) (a b:Int):Option AV:=
 match op with
 |.add=>some (.int k (k.wrap (a+b)))
 |.sub=>some (.int k (k.wrap (a-b)))
 |.mul=>some (.int k (k.wrap (a*b)))
 |.quo=>match b==0 with|true=>none|false=>some (.int k (k.wrap (a.tdiv b)))
 |.rem=>match b==0 with|true=>none|false=>some (.int k (a.tmod b))
 |.and=>some (.int k (k.wrap (Nat.land (bits k a) (bits k b):Nat)))
 |.or=>some (.int k (k.wrap (Nat.lor (bits k a) (bits k b):Nat)))
 |.xor=>some (.int k (k.wrap (Nat.xor (bits k a) (bits k b):Nat)))
 |.eql=>some (.bool (a==b))
 |.neq=>some (.bool (a != b))
 |.lss=>some (.bool (a<b))
 |.leq=>some (.bool (a≤b))
 |.gtr=>some (.bool (a>b))
 |.geq=>some (.bool (a≥b))
 |.shl=>match decide (b<0) with|true=>none|false=>some (.int k (k.wrap (a*2^min b.toNat k.bits)))
 |_=>none
structure Val where
 d:Nat→D
 fn:Nat→D→D
def CW:Nat→Nat→List UInt8
 |0,_=>[]
 |n+1,b=>UInt8.ofNat (b%256)::CW n (b/256)
def D.strEq (a b:D):Bool:=AE.strEq a.toStr.data.toList.length (As a.toStr.data.toList) b.toStr.data.toList.length (As b.toStr.data.toList)
def DH:List Kd→List D→List D→Bool
 |[],_,_=>true
 |.int _::ks,a::l,b::m=>(a.toInt==b.toInt)&&DH ks l m
 |.bool::ks,a::l,b::m=>(a.toBool==b.toBool)&&DH ks l m
 |.str::ks,a::l,b::m=>D.strEq a b&&DH ks l m
 |_,_,_=>false
def F2 (ks:List Kd) (k:List D):List D→Nat→Int
 |[],_=>-1
 |r::rs,i=>match DH ks r.cells k with
  |true=>i
  |false=>F2 ks k rs (i+1)
def Af (V:Val):SE→D
 |.c n=>.int n
 |.var i=>V.d i
 |.lenS a=>.int ((Af V a).toStr.data.toList.length:Nat)
 |.lenL a=>.int ((Af V a).rows.length:Nat)
 |.arith op k a b=>.int (match CK op k (Af V a).toInt (Af V b).toInt with
  |some (.int _ n)=>n
  |_=>0)
 |.conv k a=>.int (k.wrap (Af V a).toInt)
 |.lss a b=>.bool (decide ((Af V a).toInt<(Af V b).toInt))
 |.eql a b=>.bool ((Af V a).toInt==(Af V b).toInt)
 |.eqS a l b=>.bool (strEq (Af V a).toStr.data.toList.length (As (Af V a).toStr.data.toList) l b)
 |.eqSS a b=>.bool (D.strEq (Af V a) (Af V b))
 |.isNil a=>.bool (Af V a).isNil
 |.bc b=>.bool b
 |.neg a=>.bool (!(Af V a).toBool)
 |.and a b=>.bool ((Af V a).toBool&&(Af V b).toBool)
 |.nilIs a b=>.slc (Af V b).toBool (Af V a).rows
 |.strc l b=>.str ⟨(CW l b).toArray⟩
 |.strAt a i=>.int (((Af V a).toStr.data.toList[(Af V i).toInt.toNat]?).getD 0).toNat
 |.strCat a b=>.str ((Af V a).toStr++(Af V b).toStr)
 |.strSub a lo hi=>.str ((Af V a).toStr.extract (Af V lo).toInt.toNat (Af V hi).toInt.toNat)
 |.cell a i j=>((Af V a).rows.getD (Af V i).toInt.toNat default).cells.getD j default
 |.sel a j=>(Af V a).cells.getD j default
 |.nilL=>.slc true []
 |.emptyL=>.slc false []
 |.snoc a r=>.slc false ((Af V a).rows++[Af V r])
 |.upd a i j x=>.slc (Af V a).isNil ((Af V a).rows.modify (Af V i).toInt.toNat fun r=>.row (r.cells.set j (Af V x)))
 |.rep n r=>.slc false (List.replicate (Af V n).toInt.toNat (Af V r))
 |.cat a b=>.slc ((Af V a).isNil&&(Af V b).rows.isEmpty) ((Af V a).rows++(Af V b).rows)
 |.sub a lo hi=>.slc (Af V a).isNil (((Af V a).rows.drop (Af V lo).toInt.toNat).take ((Af V hi).toInt.toNat-(Af V lo).toInt.toNat))
 |.rnil=>.row []
 |.rcons x r=>.row (Af V x::(Af V r).cells)
 |.app f x=>V.fn f (Af V x)
 |.bytes a=>.slc false ((Af V a).toStr.data.toList.map fun b=>.row [.int b.toNat])
 |.ofBytes a=>.str ⟨((Af V a).rows.map fun r=>UInt8.ofNat (r.cells.getD 0 default).toInt.toNat).toArray⟩
 |.mIdx ks a k=>.int (F2 ks (Af V k).cells (Af V a).rows 0)
 |.rmv a i=>.slc (Af V a).isNil ((Af V a).rows.eraseIdx (Af V i).toInt.toNat)
def Ag (V:Val) (e:SE):Int:=(Af V e).toInt
def Ai (V:Val) (e:SB):Bool:=(Af V e).toBool
def AG (V:Val) (e:SE):ByteArray:=(Af V e).toStr
class Facts where
 facts:List (SB×Bool)
class Vals where
 V:Val
 K:TypeId→Option (List Kd)
 R:List Item
 hR:∀d b r a k,R≠.call d b r a::k
class Unk extends Facts,Vals where
 ok:∀e b,(e,b)∈facts→Ai V e=b
def NV:Option Int→Option Int→Option Int
 |some a,some b=>match decide (a≤b) with|true=>some b|false=>some a
 |some a,none=>some a
 |none,b=>b
def Rq:Option Int→Option Int→Option Int
 |some a,some b=>match decide (a≤b) with|true=>some a|false=>some b
 |some a,none=>some a
 |none,b=>b
def PF (e:SE):SB×Bool→Option Int
 | (.lss a (.c m),false)=>match a.same e with|true=>some m|false=>none
 | (.lss (.c m) a,true)=>match a.same e with|true=>some (m+1)|false=>none
 | (.eql a (.c m),true)=>match a.same e with|true=>some m|false=>none
 |_=>none
def OE (e:SE):SB×Bool→Option Int
 | (.lss a (.c m),true)=>match a.same e with|true=>some (m-1)|false=>none
 | (.lss (.c m) a,false)=>match a.same e with|true=>some m|false=>none
 | (.eql a (.c m),true)=>match a.same e with|true=>some m|false=>none
 |_=>none
def Ca (e:SE):List (SB×Bool)→Option Int
 |[]=>none
 |p::r=>NV (PF e p) (Ca e r)
def B9 (e:SE):List (SB×Bool)→Option Int
 |[]=>none
 |p::r=>Rq (OE e p) (B9 e r)
def BZ:SE→SE
 |.upd a _ _ _=>BZ a
 |.nilIs a _=>BZ a
 |x=>x
def Jh (n y:SE):Bool:=match n with
 |.lenL x=>(BZ x).same (BZ y)
 |_=>false
def Ft:SE→Option Nat
 |.nilL=>some 0
 |.emptyL=>some 0
 |.snoc a _=>match Ft a with
  |some n=>some (n+1)
  |none=>none
 |.nilIs a _=>Ft a
 |_=>none
def MK (k:IntKind) (lo hi:Option Int):Bool:=match lo,hi with
 |some l,some h=>decide (k.min≤l)&&decide (h≤k.max)
 |_,_=>false
def NS (x:SE):List (SB×Bool)→Option (Nat×Nat)
 |[]=>none
 | (e,b)::r=>match e with
  |.eqS a l c=>match b&&a.same x with
   |true=>some (l,c)
   |false=>NS x r
  |_=>NS x r
def bnd (F:List (SB×Bool)):SE→Option Int×Option Int
 |.c n=>(some n,some n)
 |.lenS i=>match NS i F with
  |some (l,_)=>(some (l:Int),some (l:Int))
  |none=>(NV (some 0) (Ca (.lenS i) F),B9 (.lenS i) F)
 |.lenL i=>match Ft i with
  |some n=>(some (n:Int),some (n:Int))
  |none=>(NV (some 0) (Ca (.lenL i) F),B9 (.lenL i) F)
 |.conv k a=>match bnd F a with
  | (lo,hi)=>match MK k lo hi with
   |true=>(NV lo (Ca (.conv k a) F),Rq hi (B9 (.conv k a) F))
   |false=>(NV (some k.min) (Ca (.conv k a) F),Rq (some k.max) (B9 (.conv k a) F))
 |.arith op k a b=>match op,b with
  |.rem,.c m=>match bnd F a with
   | (some l,_)=>match decide (0≤l)&&decide (0<m) with
    |true=>(NV (some 0) (Ca (.arith op k a b) F),Rq (some (m-1)) (B9 (.arith op k a b) F))
    |false=>(Ca (.arith op k a b) F,B9 (.arith op k a b) F)
   |_=>(Ca (.arith op k a b) F,B9 (.arith op k a b) F)
  |_,_=>(Ca (.arith op k a b) F,B9 (.arith op k a b) F)
 |e=>(Ca e F,B9 e F)
def Ho (e:SB):List (SB×Bool)→Option Bool
 |[]=>none
 | (x,b)::r=>match e.same x with
  |true=>some b
  |false=>Ho e r
def ltO:Option Int→Option Int→Bool
 |some a,some b=>decide (a<b)
 |_,_=>false
def leO:Option Int→Option Int→Bool
 |some a,some b=>decide (a≤b)
 |_,_=>false
def Ml (F:List (SB×Bool)) (e:SB):Option Bool:=
 match e with
  |.bc b=>some b
  |.lss a b=>match ltO (bnd F a).2 (bnd F b).1 with
   |true=>some true
   |false=>match leO (bnd F b).2 (bnd F a).1 with
    |true=>some false
    |false=>none
  |.eql a b=>match ltO (bnd F a).2 (bnd F b).1||ltO (bnd F b).2 (bnd F a).1 with
   |true=>some false
   |false=>match a.same b with
    |true=>some true
    |false=>none
  |_=>none
def CU (F:List (SB×Bool)):SB→Option Bool
 |.neg a=>match Ho a F with
  |some b=>some (!b)
  |none=>match CU F a with
   |some b=>some (!b)
   |none=>none
 |.and a b=>match (match Ho a F with
   |some c=>some c
   |none=>CU F a) with
  |some false=>some false
  |some true=>(match Ho b F with
   |some c=>some c
   |none=>CU F b)
  |none=>match (match Ho b F with
   |some c=>some c
   |none=>CU F b) with
   |some false=>some false
   |_=>none
 |e=>Ml F e
def Az (F:List (SB×Bool)) (e:SB):Option Bool:=
 match Ho e F with
 |some b=>some b
 |none=>CU F e
def mkB [U:Facts] (pos:Bool) (e:SB):AV:=
 match Az U.facts e with
 |some b=>.bool (b==pos)
 |none=>.sb pos e
def mkI [U:Facts] (k:IntKind) (e:SE):AV:=
 match bnd U.facts e with
 | (some l,some h)=>match l==h with
  |true=>.int k l
  |false=>.si k e
 |_=>.si k e
def toI:AV→Option (IntKind×SE)
 |.int k n=>some (k,.c n)
 |.si k e=>some (k,e)
 |_=>none
def VU:SE→Bool
 |.c n=>!(n==0)
 |_=>false
def Qy [U:Facts] (b:SE):Bool:=VU b||(match Az U.facts (.eql b (.c 0)) with
 |some false=>true
 |_=>false)
def XZ [U:Facts] (op:BinOp) (k:IntKind) (a b:SE):Option AV:=
 match op with
 |.add=>some (mkI k (.arith .add k a b))
 |.sub=>some (mkI k (.arith .sub k a b))
 |.mul=>some (mkI k (.arith .mul k a b))
 |.quo=>match Qy b with|true=>some (mkI k (.arith .quo k a b))|false=>none
 |.rem=>match Qy b with|true=>some (mkI k (.arith .rem k a b))|false=>none
 |.eql=>some (mkB true (.eql a b))
 |.neq=>some (mkB false (.eql a b))
 |.lss=>some (mkB true (.lss a b))
 |.leq=>some (mkB false (.lss b a))
 |.gtr=>some (mkB true (.lss b a))
 |.geq=>some (mkB false (.lss a b))
 |.shl=>match Az U.facts (.lss b (.c 0)) with|some false=>some (mkI k (.arith .shl k a b))|_=>none
 |_=>none
def S2 [Facts] (op:BinOp) (e:SB):Option AV:=
 match op with
 |.eql=>some (mkB true e)
 |.neq=>some (mkB false e)
 |_=>none
def WA [Facts] (op:BinOp) (x y:AV):Option AV:=
 match x,y with
 |.ss a,.ss c=>S2 op (.eqSS a c)
 |.ss a,.str l b=>S2 op (.eqS a l b)
 |.str l b,.ss a=>S2 op (.eqS a l b)
 |_,_=>match toI x,toI y with
  |some (k,a),some (k',b)=>match decide (k=k') with
   |true=>XZ op k a b
   |false=>none
  |_,_=>none
def M6 [U:Facts]:AV→Option (Bool ⊕ (Bool×SB))
 |.bool b=>some (.inl b)
 |.sb p e=>match Az U.facts e with
  |some c=>some (.inl (c==p))
  |none=>some (.inr (p,e))
 |_=>none
def Ux:AV→Option SE
 |.map0=>some (.bc true)
 |.map _=>some (.bc false)
 |.nmap _ nl=>some nl
 |_=>none
def TI [U:Facts] (v:AV):AV:=match v with
 |.nmap b nl=>match Az U.facts nl with
  |some true=>.map0
  |some false=>.map b
  |none=>.nmap b nl
 |v=>v
def Vz:AV→Option SE
 |.slice0=>some (.bc true)
 |.slice _ _ _ _=>some (.bc false)
 |.dat _ x=>some (.isNil x)
 |.asl _ _ _ nl=>some nl
 |.eslc nl=>some nl
 |_=>none
def Bu (op:BinOp) (p:Bool):Option Bool:=match op with
 |.eql=>some p
 |.neq=>some (!p)
 |_=>none
def eqV [Facts] (d:Option TypeDesc) (op:BinOp) (x y:AV):Option AV:=
 match d with
 |some .bool=>match M6 x,M6 y with
  |some (.inl a),some (.inl b)=>(Bu op (a==b)).map .bool
  |some (.inr (p,e)),some (.inl b)=>(Bu op (p==b)).map fun q=>.sb q e
  |some (.inl b),some (.inr (p,e))=>(Bu op (p==b)).map fun q=>.sb q e
  |_,_=>none
 |some (.slice _)=>match x,y with
  |.slice0,_=>match Vz y with
   |some e=>(Bu op true).map fun q=>mkB q e
   |none=>none
  |_,.slice0=>match Vz x with
   |some e=>(Bu op true).map fun q=>mkB q e
   |none=>none
  |_,_=>none
 |some (.map _ _)=>match x,y with
  |.map0,_=>match Ux y with
   |some e=>(Bu op true).map fun q=>mkB q e
   |none=>none
  |_,.map0=>match Ux x with
   |some e=>(Bu op true).map fun q=>mkB q e
   |none=>none
  |_,_=>none
 |_=>none
def AV.isSym:AV→Bool
 |.sb ..=>true
 |.si ..=>true
 |.ss _=>true
 |.dat _ _=>true
 |.dptr _ _ _ _=>true
 |.asl _ _ _ _=>true
 |.eslc _=>true
 |.aptr _ _ _ _=>true
 |.nmap _ _=>true
 |.stamp _=>true
 |_=>false
def Mg (op:BinOp) (l a l' b:Nat):Option AV:=
 match op with
 |.add=>match Nat.ble (l+l') 4611686018427387904 with|true=>some (.str (l+l') (a+b*2^(8*l)))|false=>none
 |.eql=>some (.bool (strEq l a l' b))
 |.neq=>some (.bool (!strEq l a l' b))
 |.lss=>some (.bool (Di (l+1) l a l' b))
 |.leq=>some (.bool (Di (l+1) l a l' b||strEq l a l' b))
 |.gtr=>some (.bool (!(Di (l+1) l a l' b||strEq l a l' b)))
 |.geq=>some (.bool (!Di (l+1) l a l' b))
 |_=>none
def Ks (op:BinOp) (k:IntKind) (a b:Int):Option AV:=
 match decide (b<0) with
 |true=>none
 |false=>
  let n:=min b.toNat k.bits
  match op with
  |.shl=>some (.int k (k.wrap (a*2^n)))
  |.shr=>some (.int k (a.fdiv (2^n)))
  |_=>none
def O2 (E:Env) (op:BinOp) (t:TypeId) (x y:AV):Option AV:=
 match x,y with
 |.int k a,.int k' b=>
  match op with
  |.shl=>Ks .shl k a b
  |.shr=>Ks .shr k a b
  |_=>match decide (k=k') with
   |true=>CK op k a b
   |false=>none
 |.str l a,.str l' b=>Mg op l a l' b
 |.agg xs,.agg ys=>
  match E.P.eqGuardType E.P.depth t with
  |true=>none
  |false=>match op with
   |.eql=>(aeq E 10000 t x y).map .bool
   |.neq=>(aeq E 10000 t x y).map fun b=>.bool (!b)
   |_=>none
 |.nilIface,.nilIface=>none
 |_,_=>match op with
  |.eql=>(aeq E 10000 t x y).map .bool
  |.neq=>(aeq E 10000 t x y).map fun b=>.bool (!b)
  |_=>none
def unA (op:UnOp) (x:AV):Option AV:=
 match op,x with
 |.not,.sb pos e=>some (.sb (!pos) e)
 |.neg,.int k n=>some (.int k (k.wrap (0-n)))
 |.not,.bool b=>some (.bool !b)
 |_,_=>none
def unB [Facts] (op:UnOp) (x:AV):Option AV:=
 match op,x with
 |.neg,.si k e=>some (mkI k (.arith .sub k (.c 0) e))
 |_,_=>unA op x
def bytesOf:Nat→Nat→List AV
 |0,_=>[]
 |n+1,b=>.int .u8 (b%256:Nat)::bytesOf n (b/256)
def ID:List AV→Option Nat
 |[]=>some 0
 |.int .u8 (.ofNat n)::r=>match ID r with
  |some m=>some (n%256+256*m)
  |none=>none
 |_::_=>none
def P3 [Facts] (E:Env) (src dst:TypeId) (x:AV) (h:Aa):Option (AV×Aa):=
 match E.desc src,E.desc dst,x with
 |some _,some (.int k),.int _ n=>some (.int k (k.wrap n),h)
 |some _,some (.int k),.si _ e=>some (mkI k (.conv k e),h)
 |some _,some .string,.ss i=>some (.ss i,h)
 |some _,some .string,.str l b=>some (.str l b,h)
 |some _,some (.slice e),.str l b=>
  match E.desc e with
  |some (.int .u8)=>some (.slice h.nx 0 l 1,h.new (.cells l (.ofList (bytesOf l b))))
  |_=>none
 |some (.slice _),some (.slice e),.slice b off len es=>match E.desc e with
  |some (.int .u8)=>match Nat.beq src dst,len,h.blk.get b with
   |true,_+1,some (.cells _ _)=>some (.slice b off len es,h)
   |_,_,_=>none
  |_=>none
 |some (.slice e),some .string,.slice0=>match E.desc e with
  |some (.int .u8)=>some (.str 0 0,h)
  |_=>none
 |some (.slice e),some .string,.slice b off len _=>match E.desc e with
  |some (.int .u8)=>match B1 h b off len with
   |some l=>match ID l with
    |some n=>some (.str len n,h)
    |none=>none
   |none=>none
  |_=>none
 |_,_,_=>none
def Cm:AV→Option Nat
 |.int _ (.ofNat n)=>some n
 |_=>none
def EN (x:Option AV) (dflt:Nat):Option Nat:=
 match x with
 |some v=>Cm v
 |none=>some dflt
def Ct (n:Nat) (lo hi mx:Option AV):Option (Nat×Nat):=
 match EN mx n with
 |none=>none
 |some m=>match EN hi n,EN lo 0 with
  |some h,some l=>match Nat.ble l h&&Nat.ble h m&&Nat.ble m n with
   |true=>some (l,h)
   |false=>none
  |_,_=>none
def Ok (E:Env) (t:TypeId) (x:AV) (lo hi mx:Option AV) (h:Aa):Option AV:=
 match E.desc t,x with
 |some .string,.str l b=>
  match mx with
  |some _=>none
  |none=>match Ct l lo hi none with
   |some (ll,hh)=>some (.str (hh-ll) ((b/2^(8*ll))%2^(8*(hh-ll))))
   |none=>none
 |some (.slice e),.slice0=>
  match Ct 0 lo hi mx,E.has e with
  |some _,true=>some .slice0
  |_,_=>none
 |some (.slice e),.slice b off len es=>
  match Ct len lo hi mx with
  |some (ll,hh)=>match E.szIs e es with
   |true=>some (.slice b (off+ll*es) (hh-ll) es)
   |false=>none
  |none=>none
 |some (.array n e),.ptr b off=>
  match Ct n lo hi mx,E.has e,h.blk.get b with
  |some (ll,hh),true,some (.cells sz _)=>match Nat.ble (off+n*E.size e) sz with
   |true=>some (.slice b (off+ll*E.size e) (hh-ll) (E.size e))
   |false=>none
  |_,_,_=>none
 |_,_=>none
def Gm (E:Env) (t:TypeId) (x i:AV):Option AV:=
 match E.desc t,x,Cm i with
 |some (.slice e),.slice b off len es,some n=>match Nat.blt n len&&E.szIs e es with
  |true=>some (.ptr b (off+n*es))
  |false=>none
 |some (.array len e),.ptr b off,some n=>match Nat.blt n len&&E.has e with
  |true=>some (.ptr b (off+n*E.size e))
  |false=>none
 |_,_,_=>none
def OY (E:Env) (t:TypeId) (x i:AV):Option AV:=
 match E.desc t,x,Cm i with
 |some .string,.str l b,some n=>match Nat.blt n l with
  |true=>some (.int .u8 ((b/2^(8*n))%256:Nat))
  |false=>none
 |some (.array len e),.agg cs,some n=>match Nat.blt n len with
  |true=>B6 E e cs (n*E.size e)
  |false=>none
 |_,_,_=>none
def Gd (E:Env) (t:TypeId) (x:AV) (f:Nat):Option AV:=
 match E.desc t,x with
 |some (.struct fs),.ptr b off=>match fs.toList[f]? with
  |some fd=>match E.size fd.type with
   |0=>none
   |_=>some (.ptr b (off+fd.offset))
  |none=>none
 |_,_=>none
def L6 (E:Env) (t:TypeId) (x:AV) (f:Nat):Option AV:=
 match E.desc t,x with
 |some (.struct fs),.agg cs=>match fs.toList[f]? with
  |some fd=>B6 E fd.type cs fd.offset
  |none=>none
 |_,_=>none
def LG (E:Env) (t:TypeId) (x:AV) (h:Aa):Option AV:=
 match E.desc t,x with
 |some d,.ptr b off=>match Fy d with
  |true=>(B1 h b off (E.size t)).map .agg
  |false=>match h.blk.get b with
   |some (.cells sz c)=>match Nat.blt off sz with
    |true=>c.get off
    |false=>none
   |_=>none
 |_,_=>none
def HL (E:Env) (t:TypeId) (x v:AV) (h:Aa):Option Aa:=
 match x with
 |.ptr b off=>match E.szIs t v.cells.length with
  |true=>storeN h b off v.cells
  |false=>none
 |_=>none
def JN (h:Aa) (es n:Nat):AV→Option (List AV)
 |.slice0=>some []
 |.slice b off _ es'=>match Nat.beq es es' with
  |true=>B1 h b off (n*es)
  |false=>none
 |.str l b=>match Nat.beq es 1 with
  |true=>some ((bytesOf l b).take n)
  |false=>none
 |_=>none
def E8:AV→Option Nat
 |.slice0=>some 0
 |.slice _ _ n _=>some n
 |.str l _=>some l
 |_=>none
def Cv (inf:TypeInfo) (s:AV) (m:Nat) (news:List AV) (h:Aa):Option (AV×Aa):=
 match s with
 |.slice0=>match Nat.ble m 4611686018427387904&&Nat.ble (m*inf.bytes) 140737488355328 with
  |false=>none
  |true=>match m with
   |0=>some (.slice0,h)
   |_=>some (.slice h.nx 0 m inf.size,A4 h news)
 |.slice b off n es=>match Nat.beq inf.size es&&DF news&&Nat.ble (n+m) 4611686018427387904&&Nat.ble ((n+m)*inf.bytes) 140737488355328 with
  |false=>none
  |true=>match m with
   |0=>some (.slice b off n es,h)
   |_=>match h.blk.get b with
    |some (.cells sz c)=>match Nat.beq off 0&&Nat.beq (n*es) sz with
     |true=>some (.slice h.nx 0 (n+m) es,(h.strike b).new (.cells (n*es+news.length) (Ec c (n*es) news)))
     |false=>match B1 h b off (n*es) with
      |none=>none
      |some olds=>some (.slice h.nx 0 (n+m) es,(h.strike b).new (.cells (n*es+news.length) (.ofList (olds++news))))
    |_=>none
 |_=>none
def Hf (E:Env) (t t':TypeId) (s x:AV) (h:Aa):Option (AV×Aa):=
 match E.desc t with
 |some (.slice e)=>match E.ty.get e with
  |none=>none
  |some inf=>match E.zero e with
   |none=>none
   |some z=>match Nat.beq z.cells.length inf.size with
    |false=>none
    |true=>match E.desc t' with
     |some (.int _)=>match Cm x with
      |none=>none
      |some m=>match Nat.ble m 1048576&&Nat.ble (m*inf.bytes) 140737488355328 with
       |true=>Cv inf s m (Bj z.cells m) h
       |false=>none
     |some (.slice _)=>match E8 x with
      |none=>none
      |some m=>match JN h inf.size m x with
       |none=>none
       |some news=>Cv inf s m news h
     |some .string=>match E8 x with
      |none=>none
      |some m=>match JN h inf.size m x with
       |none=>none
       |some news=>Cv inf s m news h
     |_=>none
 |_=>none
def P9 (E:Env) (t:TypeId) (d x:AV) (h:Aa):Option (AV×Aa):=
 match E.desc t with
 |some (.slice e)=>match E.ty.get e with
  |none=>none
  |some inf=>
  match E8 d,E8 x with
  |some n,some m=>match JN h inf.size (min m n) x with
   |none=>none
   |some l=>match d with
    |.slice0=>some (.int .i64 0,h)
    |.slice b off _ es'=>match Nat.beq inf.size es' with
     |true=>match l with
      |[]=>some (.int .i64 (min m n:Nat),h)
      |_=>match storeN h b off l with
       |some h'=>some (.int .i64 (min m n:Nat),h')
       |none=>none
     |false=>none
    |_=>none
  |_,_=>none
 |_=>none
def C1 (E:Env) (t:TypeId) (k:AV):List Ak→Nat→Option (Option (Nat×AV))
 |[],_=>some none
 |e::r,i=>match aeq E 10000 t k e.key with
  |some true=>some (some (i,e.val))
  |some false=>C1 E t k r (i+1)
  |none=>none
def H9 (E:Env) (ok:TypeId→AV→Bool) (cs:List AV):List Field→Bool
 |[]=>true
 |f::r=>match B6 E f.type cs f.offset with
  |some a=>match ok f.type a with
   |true=>H9 E ok cs r
   |false=>false
  |none=>false
def JQ (E:Env) (ok:TypeId→AV→Bool) (e:TypeId) (cs:List AV):Nat→Nat→Bool
 |0,_=>true
 |k+1,i=>match B6 E e cs (i*E.size e) with
  |some a=>match ok e a with
   |true=>JQ E ok e cs k (i+1)
   |false=>false
  |none=>false
def Bw (E:Env):Nat→TypeId→AV→Bool
 |0,_,_=>false
 |d+1,t,v=>match E.desc t with
  |some (.int _)=>true
  |some .string=>true
  |some .bool=>true
  |some (.struct fs)=>match v with
   |.agg cs=>H9 E (Bw E d) cs fs.toList
   |_=>false
  |some (.array n e)=>match v with
   |.agg cs=>match E.has e with
    |true=>JQ E (Bw E d) e cs n 0
    |false=>false
   |_=>false
  |_=>false
def KI (ok:Bool) (v:AV) (b:Bool):AV:=match ok with|true=>.tuple [v,.bool b]|false=>v
def Mc (E:Env) (t:TypeId) (m k:AV) (ok:Bool) (h:Aa):Option AV:=
 match E.desc t with
 |some (.map kt et)=>
  match Bw E 20 kt k,E.zero et with
  |true,some z=>
   match m with
   |.map0=>some (KI ok z false)
   |.map r=>match h.blk.get r with
    |some (.map es _)=>match C1 E kt k es 0 with
     |some (some (_,v))=>some (KI ok v true)
     |some none=>some (KI ok z false)
     |none=>none
    |_=>none
   |_=>none
  |_,_=>none
 |_=>none
def Oc:AV→AV→Bool
 |.bool a,.bool b=>match a,b with
  |true,true=>true
  |false,false=>true
  |_,_=>false
 |.int k a,.int k' b=>match decide (k=k') with
  |true=>a==b
  |false=>false
 |.str l a,.str l' b=>strEq l a l' b
 |_,_=>false
def HZ:List AV→List AV→Bool
 |[],[]=>true
 |a::l,b::m=>match Oc a b with
  |true=>HZ l m
  |false=>false
 |_,_=>false
def Fi:AV→AV→Bool
 |.agg l,.agg m=>HZ l m
 |a,b=>Oc a b
def setVal:List Ak→Nat→AV→AV→List Ak
 |[],_,_,_=>[]
 |e::r,0,k,v=>{e with key:=k,val:=v}::r
 |e::r,i+1,k,v=>e::setVal r i k v
def Hy (E:Env) (t:TypeId) (m k v:AV) (h:Aa):Option Aa:=
 match E.desc t with
 |some (.map kt _)=>
  match Bw E 20 kt k with
  |true=>match m with
   |.map r=>match h.blk.get r with
    |some (.map es clock)=>match C1 E kt k es 0 with
     |some (some (i,_))=>match es[i]? with
      |some e=>match Fi k e.key with
       |true=>some (h.put r (.map (setVal es i k v) clock))
       |false=>none
      |none=>none
     |some none=>some (h.put r (.map (es++[{key:=k,val:=v,born:=clock}]) (clock+1)))
     |none=>none
    |_=>none
   |_=>none
  |false=>none
 |_=>none
def I7 (E:Env) (t:TypeId) (m k:AV) (h:Aa):Option Aa:=
 match E.desc t with
 |some (.map kt _)=>
  match Bw E 20 kt k with
  |true=>match m with
   |.map0=>some h
   |.map r=>match h.blk.get r with
    |some (.map es clock)=>match C1 E kt k es 0 with
     |some (some (i,_))=>some (h.put r (.map (es.eraseIdx i) clock))
     |some none=>some (h.put r (.map es clock))
     |none=>none
    |_=>none
   |_=>none
  |false=>none
 |_=>none
def ML (E:Env) (t:TypeId) (m k:AV) (h:Aa):Option (AV×Aa):=
 match E.desc t with
 |some (.map kt et)=>
  match Bw E 20 kt k,E.zero et with
  |true,some z=>match m with
   |.map r=>match h.blk.get r with
    |some (.map es clock)=>match C1 E kt k es 0 with
     |some (some (i,v))=>match es[i]? with
      |some e=>match Fi k e.key with
       |true=>some (.tuple [v,.int .i64 e.born],h.put r (.map (setVal es i k e.val) clock))
       |false=>none
      |none=>none
     |some none=>some (.tuple [z,.int .i64 clock],(h.put r (.map (es++[{key:=k,val:=z,born:=clock}]) (clock+1))))
     |none=>none
    |_=>none
   |_=>none
  |_,_=>none
 |_=>none
def CQ:List Ak→Nat→AV→Option (List Ak)
 |[],_,_=>none
 |e::r,n,v=>match Nat.beq e.born n with
  |true=>some ({e with val:=v}::r)
  |false=>match CQ r n v with
   |some r'=>some (e::r')
   |none=>none
def E9 (m st v:AV) (h:Aa):Option Aa:=
 match m,Cm st with
 |.map r,some n=>match h.blk.get r with
  |some (.map es clock)=>match CQ es n v with
   |some es'=>some (h.put r (.map es' clock))
   |none=>none
  |_=>none
 |_,_=>none
def PH (E:Env) (t:TypeId) (x:AV) (h:Aa):Option (AV×Aa):=
 match E.desc t,x with
 |some .string,.str l b=>some (.ptr h.nx 0,h.new (.strIter l b 0))
 |some (.map _ _),.map0=>some (.ptr h.nx 0,h.new (.mapIter none 0 [] 0))
 |some (.map _ _),.map m=>match h.blk.get m with
  |some (.map _ clock)=>some (.ptr h.nx 0,h.new (.mapIter (some m) clock [] clock))
  |_=>none
 |_,_=>none
def Hw (b:Nat):List Nat→Bool
 |[]=>false
 |a::r=>match Nat.beq a b with
  |true=>true
  |false=>Hw b r
def Bb (seen:List Nat):List Ak→List Ak
 |[]=>[]
 |e::r=>match Hw e.born seen with
  |true=>Bb seen r
  |false=>e::Bb seen r
def IT (since last:Nat):List Ak→Bool
 |[]=>true
 |e::r=>Nat.blt e.born since&&Nat.blt e.born last&&IT since last r
def Lg (r m since clock:Nat) (seen:List Nat) (h:Aa) (e:Ak):AV×Aa:=
 (.tuple [.bool true,e.key,e.val],h.put r (.mapIter (some m) since (seen++[e.born]) clock))
def NW (it:AV) (isString:Bool) (h:Aa):Option (AV×Aa):=
 match it with
 |.ptr r 0=>match h.blk.get r,isString with
  |some (.strIter l b p),true=>match Nat.blt p l with
   |true=>match Nat.blt (b/2^(8*p)%256) 128 with
    |true=>some (.tuple [.bool true,.int .i64 p,.int .i32 (b/2^(8*p)%256:Nat)],h.put r (.strIter l b (p+1)))
    |false=>none
   |false=>some (.tuple [.bool false],h)
  |some (.mapIter none _ _ _),false=>some (.tuple [.bool false],h)
  |some (.mapIter (some m) since seen last),false=>match h.blk.get m with
   |some (.map es clock)=>match IT since last es,Bb seen es with
    |true,[]=>some (.tuple [.bool false],h)
    |true,[e]=>some (Lg r m since clock seen h e)
    |_,_=>none
   |_=>none
  |_,_=>none
 |_=>none
def Jk (it:AV) (h:Aa):Option (List (AV×Aa)):=
 match it with
 |.ptr r 0=>match h.blk.get r with
  |some (.mapIter (some m) since seen last)=>match h.blk.get m with
   |some (.map es clock)=>match IT since last es,Bb seen es with
    |true,e1::e2::l=>some ((e1::e2::l).map (Lg r m since clock seen h))
    |_,_=>none
   |_=>none
  |_=>none
 |_=>none
def Sl:List Nat→Option Nat
 |[]=>none
 |[n]=>some n
 |_::r=>Sl r
def NP (n:Nat):List Ak→Option Ak
 |[]=>none
 |e::r=>match Nat.beq e.born n with
  |true=>some e
  |false=>NP n r
def Gh (it:AV) (h:Aa):Option AV:=
 match it with
 |.ptr r 0=>match h.blk.get r with
  |some (.mapIter (some m) _ seen stepped)=>match Sl seen,h.blk.get m with
   |some n,some (.map es clock)=>match Nat.beq clock stepped,NP n es with
    |true,some e=>some (.tuple [e.key,e.val])
    |_,_=>none
   |_,_=>none
  |_=>none
 |_=>none
def bB [Facts] (E:Env) (t:TypeId) (x:AV) (h:Aa):Option AV:=
 match E.desc t,x with
 |some .string,.str l _=>some (.int .i64 l)
 |some .string,.ss i=>some (mkI .i64 (.lenS i))
 |some (.slice _),.dat _ x=>some (mkI .i64 (.lenL x))
 |some (.slice _),.asl _ _ n _=>some (mkI .i64 n)
 |some (.slice _),.eslc _=>some (.int .i64 0)
 |some (.array n _),_=>some (.int .i64 n)
 |some (.slice _),.slice0=>some (.int .i64 0)
 |some (.slice _),.slice _ _ n _=>some (.int .i64 n)
 |some (.map _ _),.map0=>some (.int .i64 0)
 |some (.map _ _),.map r=>match h.blk.get r with
  |some (.map es _)=>some (.int .i64 es.length)
  |some (.dmap _ _ x)=>some (mkI .i64 (.lenL x))
  |_=>none
 |_,_=>none
def HA (k:IntKind) (x:Int):List AV→Option AV
 |[]=>some (.int k x)
 |.int _ y::r=>HA k (if y>x then y else x) r
 |_=>none
def G5 (k:IntKind) (x:Int):List AV→Option AV
 |[]=>some (.int k x)
 |.int _ y::r=>G5 k (if y<x then y else x) r
 |_=>none
def pk:List AV→Option AV
 |.int k x::r=>HA k x r
 |_=>none
def gU:List AV→Option AV
 |.int k x::r=>G5 k x r
 |_=>none
def LI [U:Facts] (k:IntKind):SE→List AV→Option AV
 |x,[]=>some (mkI k x)
 |x,y::r=>match toI y with
  |some (_,b)=>match Az U.facts (.lss x b) with
   |some true=>LI k b r
   |some false=>LI k x r
   |none=>none
  |none=>none
def LC [U:Facts] (k:IntKind):SE→List AV→Option AV
 |x,[]=>some (mkI k x)
 |x,y::r=>match toI y with
  |some (_,b)=>match Az U.facts (.lss b x) with
   |some true=>LC k b r
   |some false=>LC k x r
   |none=>none
  |none=>none
def To [Facts]:List AV→Option AV
 |y::r=>match toI y with
  |some (k,a)=>LI k a r
  |none=>none
 |[]=>none
def SI [Facts]:List AV→Option AV
 |y::r=>match toI y with
  |some (k,a)=>LC k a r
  |none=>none
 |[]=>none
def orA (a b:Option AV):Option AV:=match a with
 |some v=>some v
 |none=>b
def JK [U:Facts] (e:SB):Bool:=match Az U.facts e with
 |some true=>true
 |_=>false
def OH [U:Facts] (e:SB):Bool:=match Az U.facts e with
 |some false=>true
 |_=>false
def inR [Facts] (i n:SE):Bool:=OH (.lss i (.c 0))&&JK (.lss i n)
def Ib [Facts] (x i:SE) (j:Nat):Kd→AV
 |.int k=>match decide (k=.i64) with
  |true=>mkI k (.cell x i j)
  |false=>mkI k (.conv k (.cell x i j))
 |.bool=>mkB true (.cell x i j)
 |.str=>.ss (.cell x i j)
 |.slice e=>.dat e (.cell x i j)
def FC [Facts] (x i:SE) (ks:List Kd):Nat→Nat→Option (List AV)
 |_,0=>some []
 |j,n+1=>match ks[j]?,FC x i ks (j+1) n with
  |some k,some l=>some (Ib x i j k::l)
  |_,_=>none
def Je [Facts] (E:Env) (t:TypeId) (ks:List Kd) (y i:SE) (off:Nat):Option AV:=
 match E.desc t with
 |some d=>match Fy d with
  |true=>match FC y i ks off (E.size t) with
   |some l=>some (.agg l)
   |none=>none
  |false=>match ks[off]? with
   |some k=>some (Ib y i off k)
   |none=>none
 |none=>none
def Qq [Facts] (E:Env) (t:TypeId) (x:AV) (h:Aa):Option AV:=
 match x with
 |.dptr e y i off=>match E.kinds e with
  |some ks=>Je E t ks y i off
  |none=>none
 |.aptr b es i off=>match h.blk.get b with
  |some (.arr e y)=>match E.kinds e with
   |some ks=>match Nat.beq es ks.length&&inR i (.lenL (BZ y)) with
    |true=>Je E t ks y i off
    |false=>none
   |none=>none
  |_=>none
 |.glob g off=>match E.desc t with
  |some d=>match Fy d with
   |false=>match E.gl.get g with
    |some l=>l[off]?
    |none=>none
   |true=>none
  |none=>none
 |_=>LG E t x h
def EB (E:Env) (t:TypeId) (x:AV) (f:Nat):Option AV:=
 match x with
 |.dptr e y i off=>match E.desc t,E.kinds e with
  |some (.struct fs),some ks=>match fs.toList[f]? with
   |some fd=>match E.size fd.type,Nat.blt (off+fd.offset) ks.length with
    |_+1,true=>some (.dptr e y i (off+fd.offset))
    |_,_=>none
   |none=>none
  |_,_=>none
 |.aptr b es i off=>match E.desc t with
  |some (.struct fs)=>match fs.toList[f]? with
   |some fd=>match E.size fd.type with
    |0=>none
    |_=>some (.aptr b es i (off+fd.offset))
   |none=>none
  |_=>none
 |_=>Gd E t x f
def JA [U:Facts]:AV→AV
 |.si k e=>match bnd U.facts e with
  | (some l,some h)=>match l==h with
   |true=>.int k l
   |false=>.si k e
  |_=>.si k e
 |x=>x
def ES [Facts] (E:Env) (t:TypeId) (x i:AV):Option AV:=
 match x with
 |.dat e' y=>match E.desc t,toI i with
  |some (.slice e),some (_,ie)=>match E.kinds e with
   |some (_::_)=>match Nat.beq e e'&&inR ie (.lenL (BZ y)) with
    |true=>some (.dptr e y ie 0)
    |false=>none
   |_=>none
  |_,_=>none
 |.asl b es n _=>match E.desc t,toI i with
  |some (.slice e),some (_,ie)=>match E.szIs e es&&inR ie n with
   |true=>some (.aptr b es ie 0)
   |false=>none
  |_,_=>none
 |.aptr b es i0 off=>match E.desc t,Cm (JA i) with
  |some (.array len e),some n=>match Nat.blt n len&&E.has e with
   |true=>some (.aptr b es i0 (off+n*E.size e))
   |false=>none
  |_,_=>none
 |.dptr e' y i0 off=>match E.desc t,Cm (JA i),E.kinds e' with
  |some (.array len e),some n,some ks=>match Nat.blt n len&&E.has e&&Nat.blt (off+n*E.size e) ks.length with
   |true=>some (.dptr e' y i0 (off+n*E.size e))
   |false=>none
  |_,_,_=>none
 |.glob g off=>match E.desc t,Cm i with
  |some (.array len e),some n=>match Nat.blt n len&&E.has e with
   |true=>some (.glob g (off+n*E.size e))
   |false=>none
  |_,_=>none
 |_=>Gm E t x (JA i)
def Vy [U:Facts]:Kd→AV→Option SE
 |.int k,.int k' n=>match decide (k=k')&&(decide (k=.i64)||(decide (k.min≤n)&&decide (n≤k.max))) with
  |true=>some (.c n)
  |false=>none
 |.int k,.si k' e=>match decide (k=k')&&(decide (k=.i64)||MK k (bnd U.facts e).1 (bnd U.facts e).2) with
  |true=>some e
  |false=>none
 |.bool,.bool b=>some (.bc b)
 |.bool,.sb pos e=>some (match pos with|true=>e|false=>.neg e)
 |.str,.str l b=>some (.strc l b)
 |.str,.ss x=>some x
 |.slice e,.dat e' x=>match Nat.beq e e' with
  |true=>some x
  |false=>none
 |.slice _,.slice0=>some .nilL
 |_,_=>none
def Fg [Facts]:List Kd→List AV→Option SE
 |[],[]=>some .rnil
 |k::ks,a::r=>match Vy k a,Fg ks r with
  |some x,some y=>some (.rcons x y)
  |_,_=>none
 |_,_=>none
def C8 [Facts] (ks:List Kd):Nat→SE→List AV→Option SE
 |0,y,[]=>some y
 |0,_,_::_=>none
 |n+1,y,l=>match Fg ks (l.take ks.length) with
  |some r=>C8 ks n (.snoc y r) (l.drop ks.length)
  |none=>none
def DM [Facts] (n y:SE):Bool:=Jh n y||JK (.eql n (.lenL y))
def LS [Facts] (E:Env) (t:TypeId) (x i:AV):Option AV:=
 match x with
 |.ss y=>match E.desc t,toI i with
  |some .string,some (_,ie)=>match inR ie (.lenS y) with
   |true=>some (mkI .u8 (.strAt y ie))
   |false=>none
  |_,_=>none
 |_=>OY E t x (JA i)
def Sp:Option TypeDesc→Bool
 |some (.int .u8)=>true
 |_=>false
def ME:Option TypeDesc→Bool
 |some .string=>true
 |_=>false
def Kp:Option (List Kd)→Bool
 |some [.int .u8]=>true
 |_=>false
def PU [Facts] (E:Env) (src dst:TypeId) (x:AV) (h:Aa):Option (AV×Aa):=
 match x with
 |.ss y=>match E.desc dst with
  |some (.slice e)=>match Sp (E.desc e)&&Kp (E.kinds e)&&(E.desc src).isSome with
   |true=>some (.asl h.nx 1 (.lenL (.bytes y)) (.bc false),h.new (.arr e (.bytes y)))
   |false=>none
  |_=>P3 E src dst x h
 |.dat e' y=>match E.desc src with
  |some (.slice e)=>match Nat.beq e e'&&Sp (E.desc e)&&Kp (E.kinds e)&&ME (E.desc dst) with
   |true=>some (.ss (.ofBytes y),h)
   |false=>none
  |_=>none
 |.asl b _ n _=>match E.desc src,h.blk.get b with
  |some (.slice e),some (.arr e' y)=>match Nat.beq e e'&&Sp (E.desc e)&&Kp (E.kinds e)&&ME (E.desc dst)&&DM n y with
   |true=>some (.ss (.ofBytes y),h)
   |false=>none
  |_,_=>none
 |_=>P3 E src dst x h
def Qz [Facts] (e:TypeId) (ks:List Kd) (h:Aa):AV→Option (SE×SE×Option Nat)
 |.slice0=>some (.nilL,.bc true,none)
 |.eslc nl=>some (.nilL,nl,none)
 |.slice b off n es=>match Nat.beq es ks.length with
  |true=>match B1 h b off (n*es) with
   |some l=>match C8 ks n .emptyL l with
    |some y=>some (y,.bc false,some b)
    |none=>none
   |none=>none
  |false=>none
 |.asl b es n nl=>match Nat.beq es ks.length,h.blk.get b with
  |true,some (.arr e' y)=>match Nat.beq e e'&&DM n y with
   |true=>some (y,nl,some b)
   |false=>none
  |_,_=>none
 |_=>none
def Us [Facts] (e:TypeId) (ks:List Kd) (h:Aa) (y:SE):AV→Option (SE×SE)
 |.slice0=>some (y,.c 0)
 |.eslc _=>some (y,.c 0)
 |.dat e' x=>match Nat.beq e e' with
  |true=>some (.cat y x,.lenL x)
  |false=>none
 |.asl b es n _=>match Nat.beq es ks.length,h.blk.get b with
  |true,some (.arr e' z)=>match Nat.beq e e'&&DM n z with
   |true=>some (.cat y z,.lenL z)
   |false=>none
  |_,_=>none
 |.slice b off n es=>match Nat.beq es ks.length with
  |true=>match B1 h b off (n*es) with
   |some l=>match C8 ks n y l with
    |some y'=>some (y',.c n)
    |none=>none
   |none=>none
  |false=>none
 |_=>none
def DW (h:Aa):Option Nat→Aa
 |some b=>h.strike b
 |none=>h
def GV [Facts] (E:Env) (t t':TypeId) (s x:AV) (h:Aa):Option (AV×Aa):=
 match s.isSym||x.isSym with
 |false=>Hf E t t' s x h
 |true=>match E.desc t,E.desc t' with
  |some (.slice e),some (.slice _)=>match E.ty.get e,E.kinds e,E.zero e with
   |some inf,some ks,some z=>match Nat.beq ks.length inf.size&&Nat.beq z.cells.length inf.size&&Nat.ble inf.bytes 1024 with
    |true=>match Qz e ks h s with
     |some (ys,nls,bs)=>match Us e ks h ys x with
      |some (y,m)=>match JK (.lss (.lenL ys) (.c 1073741824))&&JK (.lss m (.c 1048576)) with
       |true=>some (.asl h.nx inf.size (.lenL y) (.and nls (.eql m (.c 0))),(DW h bs).new (.arr e y))
       |false=>none
      |none=>none
     |none=>none
    |false=>none
   |_,_,_=>none
  |_,_=>none
def Cw [Facts] (i:SE) (ks:List Kd):SE→Nat→List AV→Option SE
 |y,_,[]=>some y
 |y,j,a::r=>match ks[j]? with
  |some k=>match Vy k a with
   |some x=>Cw i ks (.upd y i j x) (j+1) r
   |none=>none
  |none=>none
def C7 [Facts] (E:Env) (t:TypeId) (x v:AV) (h:Aa):Option Aa:=
 match x with
 |.aptr b es i off=>match h.blk.get b with
  |some (.arr e y)=>match E.kinds e with
   |some ks=>match Nat.beq es ks.length&&inR i (.lenL (BZ y))&&E.szIs t v.cells.length && !v.isTop with
    |true=>match Cw i ks y off v.cells with
     |some y'=>some (h.put b (.arr e y'))
     |none=>none
    |false=>none
   |none=>none
  |_=>none
 |_=>HL E t x v h
def IV [Facts] (E:Env) (kd:Kd) (a:AV) (h:Aa):AV×Aa:=
 match kd with
 |.slice e=>match a with
  |.asl b es n nl=>match h.blk.get b,E.kinds e with
   |some (.arr e' x),some ks=>match Nat.beq e e'&&Nat.beq es ks.length&&DM n x with
    |true=>(.dat e (.nilIs x nl),h.strike b)
    |false=>(a,h)
   |_,_=>(a,h)
  |.eslc nl=>(.dat e (.nilIs .nilL nl),h)
  |.slice b off n es=>match E.kinds e with
   |some ks=>match Nat.beq es ks.length,B1 h b off (n*es) with
    |true,some l=>match C8 ks n .emptyL l with
     |some y=>(.dat e y,h.strike b)
     |none=>(a,h)
    |_,_=>(a,h)
   |none=>(a,h)
  |_=>(a,h)
 |_=>(a,h)
def G9 [Facts] (E:Env):List Kd→List AV→Aa→List AV×Aa
 |k::ks,a::l,h=>match IV E k a h with
  | (a',h1)=>match G9 E ks l h1 with
   | (l',h2)=>(a'::l',h2)
 |_,l,h=>(l,h)
def lT:Nat→List Kd→List Kd
 |0,_=>[]
 |n+1,ks=>ks++lT n ks
def Dw [Facts] (E:Env) (ks:List Kd) (b:Nat) (h:Aa):Aa:=
 match h.blk.get b with
 |some (.cells n c)=>match c.range 0 n with
  |some l=>match G9 E ks l h with
   | (l',h')=>match h'.blk.get b with
    |some (.cells m _)=>match Nat.beq m n&&Nat.beq l'.length n with
     |true=>h'.put b (.cells n (.ofList l'))
     |false=>h
    |_=>h
  |none=>h
 |_=>h
def Gi [Facts] (E:Env) (e:TypeId) (b:Nat) (h:Aa):Aa:=
 match h.blk.get b,E.kinds e with
 |some (.cells n _),some ks=>Dw E (lT (n/ks.length) ks) b h
 |_,_=>h
def Lp:List AV→List Kd
 |[]=>[]
 |.dat e _::r=>.slice e::Lp r
 |_::r=>.bool::Lp r
def E1:List Kd→Bool
 |[]=>false
 |.slice _::_=>true
 |_::r=>E1 r
def EX [Facts] (E:Env) (e:TypeId) (a:AV) (h:Aa):Aa:=
 match a with
 |.slice b _ _ _=>match E.kinds e with
  |some ks=>match E1 ks with
   |true=>Gi E e b h
   |false=>h
  |none=>h
 |_=>h
def Hl [Facts] (E:Env) (t:TypeId) (x v:AV) (h:Aa):Option Aa:=
 match x with
 |.aptr b _ _ off=>match h.blk.get b with
  |some (.arr e _)=>match E.kinds e with
   |some ks=>match E1 ks with
    |true=>match v with
     |.agg l=>match G9 E (ks.drop off) l h with
      | (l',h')=>C7 E t x (.agg l') h'
     |_=>match IV E (ks.getD off .bool) v h with
      | (v',h')=>C7 E t x v' h'
    |false=>C7 E t x v h
   |none=>C7 E t x v h
  |_=>C7 E t x v h
 |_=>C7 E t x v h
def HQ [Facts] (E:Env) (t t':TypeId) (s x:AV) (h:Aa):Option (AV×Aa):=
 match s.isSym||x.isSym with
 |true=>match E.desc t with
  |some (.slice e)=>GV E t t' s x (EX E e x (EX E e s h))
  |_=>GV E t t' s x h
 |false=>GV E t t' s x h
def FV (d:SE):Option AV→Option SE
 |none=>some d
 |some v=>match toI v with
  |some (_,e)=>some e
  |none=>none
def inB [Facts] (l u n:SE):Bool:=OH (.lss l (.c 0))&&OH (.lss u l)&&OH (.lss n u)
def MT [Facts] (E:Env) (t:TypeId) (x:AV) (lo hi:Option AV) (h:Aa):Option (AV×Aa):=
 match x with
 |.dat e' y=>match E.desc t,FV (.c 0) lo,FV (.lenL y) hi with
  |some (.slice e),some l,some u=>match E.kinds e with
   |some ks=>match Nat.beq e e'&&E.szIs e ks.length&&inB l u (.lenL y) with
    |true=>some (.dat e (.sub y l u),h)
    |false=>none
   |none=>none
  |_,_,_=>none
 |_=>none
def UZ:SE→Bool
 |.c n=>n==0
 |_=>false
def sliceB [Facts] (E:Env) (t:TypeId) (x:AV) (lo hi mx:Option AV) (h:Aa):Option (AV×Aa):=
 match x,mx with
 |.dat _ _,none=>MT E t x lo hi h
 |.ss y,none=>match E.desc t,FV (.c 0) lo,FV (.lenS y) hi with
  |some .string,some l,some u=>match inB l u (.lenS y) with
   |true=>some (.ss (.strSub y l u),h)
   |false=>none
  |_,_,_=>none
 |.asl b es n nl,none=>match E.desc t,h.blk.get b with
  |some (.slice e),some (.arr e' y)=>match Nat.beq e e'&&E.szIs e es&&DM n y with
   |true=>match FV (.c 0) lo,FV (.lenL y) hi with
    |some l,some u=>match UZ l with
     |true=>match inB (.c 0) u (.lenL y) with
      |true=>some (.asl b es (.lenL (.sub y (.c 0) u)) nl,h.put b (.arr e' (.sub y (.c 0) u)))
      |false=>none
     |false=>match IV E (.slice e) x h with
      | (x',h')=>MT E t x' lo hi h'
    |_,_=>none
   |false=>match FV (.c 0) lo,hi,FV n hi with
    |some l,some _,some u=>match Nat.beq e e'&&(E.szIs e es&&(UZ l&&(inB (.c 0) u n&&inB (.c 0) u (.lenL y)))) with
     |true=>some (.asl b es (.lenL (.sub y (.c 0) u)) nl,h.put b (.arr e' (.sub y (.c 0) u)))
     |false=>none
    |_,_,_=>none
  |_,_=>none
 |_,_=>match Ok E t x (lo.map JA) (hi.map JA) (mx.map JA) h with
  |some a=>some (a,h)
  |none=>none
def Bv (h:Aa) (why:String):Option AV→Res
 |some v=>.val v h
 |none=>.bad why
def CA (why:String):Option (AV×Aa)→Res
 |some (v,h)=>.val v h
 |none=>.bad why
def DA (why:String):Option Aa→Res
 |some h=>.val .undef h
 |none=>.bad why
def O7 (E:Env) (t:TypeId) (x:AV) (h:Aa):Option Aa:=
 match E.desc t with
 |none=>none
 |some d=>match x with
  |.map r=>match h.blk.get r with
   |some (.map _ clock)=>some (h.put r (.map [] clock))
   |some (.dmap kt vt _)=>some (h.put r (.dmap kt vt .emptyL))
   |_=>none
  |.slice0=>some h
  |.slice b off n es=>match n with
   |0=>some h
   |_=>match d with
    |.slice e=>match E.zero e with
     |some z=>match Nat.beq z.cells.length es with
      |true=>storeN h b off (Bj z.cells n)
      |false=>none
     |none=>none
    |_=>none
  |_=>none
def N5:AV→Option SE
 |.ss e=>some e
 |.str l b=>some (.strc l b)
 |_=>none
def JW:AV→Option SE
 |.sb true e=>some (.and e (.bc true))
 |.sb false e=>some (.neg e)
 |.bool b=>some (.bc b)
 |_=>none
def VF (a b:SE):SE:=match b with
 |.bc true=>a
 |_=>.and a b
def aB (a b:SE):SE:=match a,b with
 |.c n,.c m=>.bc (n==m)
 |_,_=>.eql a b
def Xr (a b:SE):SE:=.neg (.and (.neg (.and a b)) (.neg (.and (.neg a) (.neg b))))
def En (E:Env) (eq:TypeId→AV→AV→Option SE) (xs ys:List AV):List Field→Option SE
 |[]=>some (.bc true)
 |f::r=>match f.name == "_" with
  |true=>none
  |false=>match B6 E f.type xs f.offset,B6 E f.type ys f.offset with
   |some a,some b=>match eq f.type a b,En E eq xs ys r with
    |some e,some e'=>some (VF e e')
    |_,_=>none
   |_,_=>none
def Fe (E:Env) (eq:TypeId→AV→AV→Option SE) (e:TypeId) (n:Nat) (xs ys:List AV):Nat→Nat→Option SE
 |0,_=>some (.bc true)
 |k+1,i=>match B6 E e xs (i*n),B6 E e ys (i*n) with
  |some a,some b=>match eq e a b,Fe E eq e n xs ys k (i+1) with
   |some x,some y=>some (VF x y)
   |_,_=>none
  |_,_=>none
def Gs (E:Env):Nat→TypeId→AV→AV→Option SE
 |0,_,_,_=>none
 |d+1,t,x,y=>match E.desc t with
  |some .bool=>match JW x,JW y with
   |some a,some b=>some (Xr a b)
   |_,_=>none
  |some (.int _)=>match toI x,toI y with
   |some (k,a),some (k',b)=>match decide (k=k') with
    |true=>some (aB a b)
    |false=>none
   |_,_=>none
  |some .string=>match N5 x,N5 y with
   |some a,some b=>some (.eqSS a b)
   |_,_=>none
  |some (.struct fields)=>match x,y with
   |.agg xs,.agg ys=>match E.P.stoodInHeld t with
    |true=>none
    |false=>En E (Gs E d) xs ys fields.toList
   |_,_=>none
  |some (.array len e)=>match x,y with
   |.agg xs,.agg ys=>match E.has e with
    |true=>Fe E (Gs E d) e (E.size e) xs ys len 0
    |false=>none
   |_,_=>none
  |_=>none
def R5 [Facts] (E:Env) (op:BinOp) (t:TypeId) (a b:AV):Option AV:=
 match a,b with
 |.agg _,.agg _=>match E.P.eqGuardType E.P.depth t with
  |true=>none
  |false=>match Gs E 10000 t a b with
   |some e=>match Bu op true with
    |some q=>some (mkB q e)
    |none=>none
   |none=>none
 |_,_=>none
def eqK [U:Facts] (E:Env) (t:TypeId) (k key:AV):Option Bool:=match aeq E 10000 t k key with
 |some b=>some b
 |none=>match Gs E 10000 t k key with
  |some e=>Az U.facts e
  |none=>none
def D5 [Facts] (E:Env) (t:TypeId) (k:AV):List Ak→Nat→Option (Option (Nat×AV))
 |[],_=>some none
 |e::r,i=>match eqK E t k e.key with
  |some true=>some (some (i,e.val))
  |some false=>D5 E t k r (i+1)
  |none=>none
def K5:List AV→AV
 |[a]=>a
 |l=>.agg l
def Ga (ks:List Kd) (a:AV):Bool:=match ks,a with
 |[_],.agg _=>false
 |[_],.top=>false
 |[_],_=>true
 |_,.agg _=>true
 |_,_=>false
def H8:List Kd→Bool
 |[]=>true
 |.slice _::_=>false
 |_::r=>H8 r
def gk (j:Nat):Kd→AV
 |.int k=>.si k (.var j)
 |.bool=>.sb true (.var j)
 |.str=>.ss (.var j)
 |.slice _=>.top
def KZ:Nat→List Kd→List AV
 |_,[]=>[]
 |j,k::r=>gk j k::KZ (j+1) r
def Jr:SE→List SE
 |.and a b=>Jr a++Jr b
 |.bc true=>[]
 |e=>[e]
def YJ (i j:Nat):Kd→SE
 |.int _=>.eql (.var i) (.var j)
 |.bool=>Xr (.and (.var i) (.bc true)) (.and (.var j) (.bc true))
 |.str=>.eqSS (.var i) (.var j)
 |.slice _=>.bc false
def PV:Nat→Nat→List Kd→List SE
 |_,_,[]=>[]
 |i,j,k::r=>YJ i j k::PV (i+1) (j+1) r
def I2:List SE→List SE→Bool
 |[],[]=>true
 |a::l,b::m=>a.same b&&I2 l m
 |_,_=>false
def FK (E:Env) (kt:TypeId) (ks:List Kd):Bool:=
 match Gs E 10000 kt (K5 (KZ ks.length ks)) (K5 (KZ 0 ks)) with
 |some e=>H8 ks&&I2 (Jr e) (PV ks.length 0 ks)
 |none=>false
def IE (E:Env) (t:TypeId):Option (TypeId×TypeId×List Kd×List Kd):=
 match E.desc t with
 |some (.map kt vt)=>match E.kinds kt,E.kinds vt with
  |some kks,some vks=>match FK E kt kks with
   |true=>some (kt,vt,kks,vks)
   |false=>none
  |_,_=>none
 |_=>none
def RD [Facts] (kks vks:List Kd) (k v:AV):Option SE:=
 match Ga kks k&&Ga vks v&&Nat.beq k.cells.length kks.length with
 |true=>Fg (kks++vks) (k.cells++v.cells)
 |false=>none
def KB [Facts] (kks vks:List Kd):SE→List Ak→Option SE
 |y,[]=>some y
 |y,e::r=>match RD kks vks e.key e.val with
  |some x=>KB kks vks (.snoc y x) r
  |none=>none
def Ow [Facts] (kks:List Kd) (k:AV):Option SE:=
 match Ga kks k with
 |true=>Fg kks k.cells
 |false=>none
def MC (k:AV):Bool:=k.cells.any AV.isSym
def MB (lo:Nat):List Ak→Nat→Bool
 |[],_=>true
 |e::r,c=>Nat.ble lo e.born&&Nat.blt e.born c&&MB (e.born+1) r c
def RL [Facts] (kt vt:TypeId) (kks vks:List Kd):Option Ac→Option SE
 |some (.dmap kt' vt' x)=>match Nat.beq kt kt'&&Nat.beq vt vt' with
  |true=>some x
  |false=>none
 |some (.map es clock)=>match MB 0 es clock with
  |true=>KB kks vks .emptyL es
  |false=>none
 |_=>none
def LY [U:Facts] (E:Env) (t:TypeId) (m k:AV) (ok:Bool) (h:Aa):Option AV:=
 match IE E t,m with
 |some (kt,vt,kks,vks),.map r=>match h.blk.get r with
  |some (.dmap kt' vt' x)=>match Nat.beq kt kt'&&Nat.beq vt vt'&&Bw E 20 kt k,E.zero vt,Ow kks k with
   |true,some z,some kr=>match Az U.facts (.lss (.mIdx kks x kr) (.c 0)) with
    |some true=>some (KI ok z false)
    |some false=>match FC x (.mIdx kks x kr) (kks++vks) kks.length vks.length with
     |some l=>some (KI ok (K5 l) true)
     |none=>none
    |none=>none
   |_,_,_=>none
  |_=>none
 |_,_=>none
def Ja [Facts] (E:Env) (t:TypeId) (m k:AV) (ok:Bool) (h:Aa):Option AV:=
 match Mc E t m k ok h with
 |some r=>some r
 |none=>match LY E t m k ok h with
 |some r=>some r
 |none=>match E.desc t,m with
  |some (.map kt et),.map r=>match Bw E 20 kt k,E.zero et,h.blk.get r with
   |true,some z,some (.map es _)=>match D5 E kt k es 0 with
    |some (some (_,v))=>some (KI ok v true)
    |some none=>some (KI ok z false)
    |none=>none
   |_,_,_=>none
  |_,_=>none
def Mp [U:Facts] (E:Env) (t:TypeId) (m k v:AV) (h:Aa):Option Aa:=
 match IE E t,m with
 |some (kt,vt,kks,vks),.map r=>match Bw E 20 kt k,RL kt vt kks vks (h.blk.get r),Ow kks k with
  |true,some x,some kr=>match RD kks vks k v,Az U.facts (.lss (.mIdx kks x kr) (.c 0)) with
   |some row,some true=>some (h.put r (.dmap kt vt (.snoc x row)))
   |some _,some false=>match Cw (.mIdx kks x kr) (kks++vks) x kks.length v.cells with
    |some y=>some (h.put r (.dmap kt vt y))
    |none=>none
   |_,_=>none
  |_,_,_=>none
 |_,_=>none
def PP [U:Facts] (E:Env) (t:TypeId) (m k:AV) (h:Aa):Option (AV×Aa):=
 match IE E t,m with
 |some (kt,vt,kks,vks),.map r=>match Bw E 20 kt k,RL kt vt kks vks (h.blk.get r),Ow kks k,E.zero vt with
  |true,some x,some kr,some z=>match RD kks vks k z,Az U.facts (.lss (.mIdx kks x kr) (.c 0)) with
   |some row,some true=>some (.tuple [z,.stamp h.nx],(h.put r (.dmap kt vt (.snoc x row))).stampN.put r (.dmapS kt vt (.snoc x row) (.lenL x) h.nx))
   |_,_=>none
  |_,_,_,_=>none
 |_,_=>none
def Vc:Option Ac→Bool
 |some (.dmap _ _ _)=>true
 |_=>false
def Qs (h:Aa):AV→Option Ac
 |.map r=>h.blk.get r
 |_=>none
def Ot [Facts] (E:Env) (t:TypeId) (m k:AV) (h:Aa):Option (AV×Aa):=
 match MC k||Vc (Qs h m) with
 |true=>(match PP E t m k h with
  |some r=>some r
  |none=>ML E t m k h)
 |false=>ML E t m k h
def Fb [Facts] (E:Env) (t:TypeId) (m:AV) (b:Nat) (v:AV) (h:Aa):Option Aa:=
 match IE E t,m with
 |some (kt,vt,kks,vks),.map r=>match h.blk.get r with
  |some (.dmapS kt' vt' x n b')=>match Nat.beq kt kt'&&Nat.beq vt vt'&&Nat.beq b b'&&Ga vks v&&Nat.beq v.cells.length vks.length,Cw n (kks++vks) x kks.length v.cells with
   |true,some y=>some (h.put r (.dmap kt vt y))
   |_,_=>none
  |_=>none
 |_,_=>none
def E6 [Facts] (E:Env) (t:TypeId) (m st v:AV) (h:Aa):Option Aa:=
 match st with
 |.stamp b=>Fb E t m b v h
 |st=>E9 m st v h
def L4 [Facts] (E:Env) (t:TypeId) (m k v:AV) (h:Aa):Option Aa:=
 match MC k||Vc (Qs h m) with
 |true=>match Mp E t m k v h with
  |some h'=>some h'
  |none=>Hy E t m k v h
 |false=>Hy E t m k v h
def MU [U:Facts] (E:Env) (t:TypeId) (m k:AV) (h:Aa):Option Aa:=
 match IE E t,m with
 |some (kt,vt,kks,vks),.map r=>match Bw E 20 kt k,RL kt vt kks vks (h.blk.get r),Ow kks k with
  |true,some x,some kr=>match Az U.facts (.lss (.mIdx kks x kr) (.c 0)) with
   |some true=>some (h.put r (.dmap kt vt x))
   |some false=>some (h.put r (.dmap kt vt (.rmv x (.mIdx kks x kr))))
   |none=>none
  |_,_,_=>none
 |_,_=>none
def MQ [Facts] (E:Env) (t:TypeId) (m k:AV) (h:Aa):Option Aa:=
 match I7 E t m k h with
 |some h'=>some h'
 |none=>MU E t m k h
def Ov [Facts] (e:TypeId) (h:Aa):AV→Option SE
 |.dat e' y=>match Nat.beq e e' with
  |true=>some y
  |false=>none
 |.asl b es n _=>match h.blk.get b with
  |some (.arr e' y)=>match Nat.beq e e'&&Nat.beq es 1&&DM n y with
   |true=>some y
   |false=>none
  |_=>none
 |_=>none
def Wh [U:Facts] (L:SE) (n:Nat):Option Nat:=
 match Az U.facts (.lss L (.c n)) with
 |some false=>some n
 |some true=>match bnd U.facts L with
  | (some l,some h)=>match l==h&&decide (0≤l) with
   |true=>some l.toNat
   |false=>none
  |_=>none
 |none=>none
def Ex [Facts] (y:SE) (kd:Kd):Nat→Nat→List AV
 |_,0=>[]
 |i,n+1=>Ib y (.c i) 0 kd::Ex y kd (i+1) n
def uZ:Option (List Kd)→Option Kd
 |some [k]=>some k
 |_=>none
def Tq [Facts] (E:Env) (t:TypeId) (d x:AV) (h:Aa):Option (AV×Aa):=
 match P9 E t d x h with
 |some r=>some r
 |none=>match E.desc t with
  |some (.slice e)=>match uZ (E.kinds e),E.szIs e 1,d,Ov e h x with
   |some kd,true,.slice b off n es,some y=>match Nat.beq es 1,Wh (.lenL y) n with
    |true,some k=>match storeN h b off (Ex y kd 0 k) with
     |some h'=>some (.int .i64 k,h')
     |none=>none
    |_,_=>none
   |_,_,_,_=>none
  |_=>none
def Eu [Facts] (E:Env) (b:Builtin) (argTypes:List TypeId) (args:List AV) (h:Aa):Res:=
 match b,argTypes,args with
 |.len,t::_,x::_=>Bv h "len" (bB E t x h)
 |.append,[t,t'],[s,x]=>CA "append" (HQ E t t' s x h)
 |.copy,t::_,[d,x]=>CA "copy" (Tq E t d x h)
 |.delete,t::_,[m,k]=>DA "delete" (MQ E t m k h)
 |.max,_,l=>Bv h "max" (orA (pk l) (To l))
 |.min,_,l=>Bv h "min" (orA (gU l) (SI l))
 |.recover,_,_=>.recover h
 |.panic,_,[.iface t v]=>.panic (.iface t v) h
 |.clear,[t],[x]=>DA "clear" (O7 E t x h)
 |b,_,_=>.bad ("builtin " ++ reprStr b)
def CR (c:Nat):Nat→Nat→Nat→Int
 |0,_,_=>-1
 |n+1,b,i=>match Nat.beq (b%256) c with
  |true=>i
  |false=>CR c n (b/256) (i+1)
def CG (c:Nat):Nat→Nat→Nat
 |0,_=>0
 |n+1,b=>match Nat.beq (b%256) c with
  |true=>CG c n (b/256)+1
  |false=>CG c n (b/256)
def GR (name:String) (args:List AV) (h:Aa):Res:=
 match name with
 | "maps.clone"=> match args with
  |[.iface t (.map r)]=>match h.blk.get r with
   |some (.map es clock)=>.val (.iface t (.map h.nx)) (h.new (.map es clock))
   |some (.dmap kt vt x)=>.val (.iface t (.map h.nx)) (h.new (.dmap kt vt x))
   |_=>.bad "maps.clone"
  |_=>.bad "maps.clone"
 | "internal/bytealg.IndexByteString"=> match args with
  |[.str l b,.int .u8 (.ofNat c)]=>match Nat.blt c 256 with
   |true=>.val (.int .i64 (CR c l b 0)) h
   |false=>.bad "IndexByteString"
  |_=>.bad "IndexByteString"
 | "internal/bytealg.CountString"=> match args with
  |[.str l b,.int .u8 (.ofNat c)]=>match Nat.blt c 256 with
   |true=>.val (.int .i64 (CG c l b:Nat)) h
   |false=>.bad "CountString"
  |_=>.bad "CountString"
 |_=>.bad ("native " ++ name)
def Hd (E:Env) (f:FuncId) (args:List AV) (h:Aa):Res:=
 match E.fn.get f with
 |some fn=>match fn.body with
  |some _=>.enter f args h
  |none=>GR fn.name args h
 |none=>.bad "no function"
def Bz (E:Env) (fn:Fn) (captured args:List AV) (h:Aa):Res:=
 match fn with
 |.func f=>Hd E f (args++captured) h
 |.yield l=>.round l args h
 |.methodOf t name=>.bad ("methodOf " ++ name)
 |.method name=>
  match args with
  |.iface t v::rest=>match E.ty.get t with
   |some i=>match i.methods.toList.find? (fun m=>m.name==name) with
    |some m=>match m.path.isEmpty,m.func with
     |true,some (f,ptr)=>match E.desc t,ptr with
      |some (.pointer _),true=>Hd E f (v::rest) h
      |some (.pointer _),false=>.bad "method of a value T3 a pointer"
      |some _,false=>Hd E f (v::rest) h
      |_,_=>.bad "method of a pointer to a value"
     |_,_=>.bad ("method promoted " ++ name)
    |none=>.bad "method none"
   |none=>.bad "method type"
  |_=>.bad ("method on " ++ name)
 |.via t path f ptr=>
  .bad "via"
def CO [Facts] (E:Env) (tmps:T AV) (c:Call) (h:Aa):Res:=
 let args:=c.args.toList.map (Ah tmps)
 match c.callee with
 |.builtin b=>Eu E b c.argTypes.toList args h
 |.invoke r name=>Bz E (.method name) [] (Ah tmps r::args) h
 |.value f=>match Ah tmps f with
  |.func fn first captured=>Bz E fn captured (first++args) h
  |_=>.bad "call of what"
def Fz (tmps:T AV) (c:Call) (h:Aa):Res:=
 let args:=c.args.toList.map (Ah tmps)
 match c.callee with
 |.value f=>match Ah tmps f with
  |.func fn first captured=>.defer {fn:=some fn,coll:=0,captured,args:=first++args} h
  |_=>.bad "defer of what"
 |_=>.bad "defer builtin"
def AR (tmps:T AV):Option Operand→Option AV
 |some o=>some (Ah tmps o)
 |none=>none
def LV (E:Env) (fs:List Field) (i:Nat):Option (Nat×Nat):=
 match fs[i]? with
 |some f=>some (f.offset,E.size f.type)
 |none=>none
def LO (E:Env) (t:TypeId) (parts:List (Nat×AV)):Option AV:=
 match E.zero t,E.desc t with
 |some z,some (.struct fs)=>match fs.toList.all fun f=>E.has f.type with
  |true=>(Ep (LV E fs.toList) z.cells parts).map .agg
  |false=>none
 |some z,some (.array _ e)=>match E.has e with
  |true=>(Ep (fun i=>some (i*E.size e,E.size e)) z.cells parts).map .agg
  |false=>none
 |_,_=>none
def D1 (E:Env) (t:TypeId) (len:Nat) (parts:List (Nat×AV)) (h:Aa):Option (AV×Aa):=
 match E.desc t with
 |some (.slice e)=>
  match Nat.ble (len*E.size e) 16777216,E.zero e with
  |true,some z=>match Nat.beq z.cells.length (E.size e) with
   |false=>none
   |true=>match Ep (fun i=>some (i*E.size e,E.size e)) (Bj z.cells len) parts with
    |some cells=>some (.slice h.nx 0 len (E.size e),A4 h cells)
    |none=>none
  |_,_=>none
 |_=>none
def GC (E:Env) (t:TypeId) (l c:AV) (h:Aa):Option (AV×Aa):=
 match E.desc t,Cm l,Cm c with
 |some (.slice e),some n,some m=>
  match E.ty.get e with
  |none=>none
  |some inf=>match E.zero e with
   |none=>none
   |some z=>match Nat.beq n m&&Nat.ble n 1048576&&Nat.ble (inf.bytes*n) 140737488355328&&Nat.beq z.cells.length inf.size with
    |true=>some (.slice h.nx 0 n inf.size,A4 h (Bj z.cells n))
    |false=>none
 |_,_,_=>none
def Ge [Facts] (E:Env) (t:TypeId) (l c:AV) (h:Aa):Option (AV×Aa):=
 match l with
 |.si k n=>match c with
  |.si _ m=>match decide (k=.i64)&&n.same m,E.desc t with
   |true,some (.slice e)=>match E.ty.get e,E.kinds e,E.zero e with
    |some inf,some ks,some z=>match Nat.beq ks.length inf.size&&Nat.beq z.cells.length inf.size&&Nat.ble inf.bytes 1024&&OH (.lss n (.c 0))&&JK (.lss n (.c 1048577)),Fg ks z.cells with
     |true,some r=>some (.asl h.nx inf.size (.lenL (.rep n r)) (.bc false),h.new (.arr e (.rep n r)))
     |_,_=>none
    |_,_,_=>none
   |_,_=>none
  |_=>none
 |_=>GC E t l c h
def NH:TypeDesc→Bool
 |.interface _=>true
 |_=>false
def Mx (E:Env) (x:AV) (asserted:TypeId) (ok:Bool):Option AV:=
 match x with
 |.nilIface=>match ok,E.zero asserted with
  |true,some z=>some (.tuple [z,.bool false])
  |_,_=>none
 |.iface t v=>match Nat.beq t asserted with
  |true=>match ok with
   |true=>some (.tuple [v,.bool true])
   |false=>some v
  |false=>match ok,E.zero asserted with
   |true,some z=>some (.tuple [z,.bool false])
   |_,_=>none
 |_=>none
def Me (E:Env) (x:AV) (asserted:TypeId) (ok:Bool):Option AV:=
 match E.desc asserted with
 |some d=>match NH d with
  |true=>none
  |false=>Mx E x asserted ok
 |none=>none
def AV.isNil:AV→Bool
 |.nilIface=>true
 |_=>false
def MS [Facts]:SE→Bool
 |.strc l _=>Nat.ble l 4611686018427387903
 |e=>JK (.lss (.lenS e) (.c 4611686018427387904))
def Zm [Facts] (op:BinOp) (a b:AV):Option AV:=
 match op with
 |.add=>match N5 a,N5 b with
  |some x,some y=>match MS x&&MS y with
   |true=>some (.ss (.strCat x y))
   |false=>none
  |_,_=>none
 |_=>none
def ZH [Facts] (E:Env) (op:BinOp) (t:TypeId) (x y:Operand) (a b:AV):Option AV:=
 match a.isSym||b.isSym with
 |true=>match eqV (E.desc t) op a b with
  |some r=>some r
  |none=>match Zm op a b with
   |some r=>some r
   |none=>WA op a b
 |false=>match a.isNil&&b.isNil with
 |true=>match Region.isConst x||Region.isConst y,E.desc t with
  |true,some (.interface _)=>match op with
   |.eql=>some (.bool true)
   |.neq=>some (.bool false)
   |_=>none
  |_,_=>none
 |false=>match O2 E op t a b with
  |some r=>some r
  |none=>R5 E op t a b
def aop [U:Facts] (E:Env) (tmps:T AV) (h:Aa) (op:Op):Res:=
 match op with
 |.move x=>.val (Ah tmps x) h
 |.assign x=>.val (Ah tmps x) h
 |.pick c a b=>match Ah tmps c with
  |.bool true=>.val (Ah tmps a) h
  |.bool false=>.val (Ah tmps b) h
  |.sb pos e=>match Az U.facts e with
   |some q=>match q==pos with
    |true=>.val (Ah tmps a) h
    |false=>.val (Ah tmps b) h
   |none=>.bad "pick"
  |_=>.bad "pick"
 |.alloc t=>match E.zero t with
  |some z=>.val (.ptr h.nx 0) (A4 h z.cells)
  |none=>.bad "alloc"
 |.box _ x=>match (Ah tmps x).isTop with
  |true=>.bad "box"
  |false=>.val (.ptr h.nx 0) (A4 h (Ah tmps x).cells)
 |.build t ps=>Bv h "build" (LO E t (ps.toList.map fun (i,x)=>(i,Ah tmps x)))
 |.buildSlice t len ps=>CA "buildSlice" (D1 E t len (ps.toList.map fun (i,x)=>(i,Ah tmps x)) h)
 |.load t a=>Bv h "load" (Qq E t (Ah tmps a) h)
 |.store t a x=>DA "store" (Hl E t (Ah tmps a) (Ah tmps x) h)
 |.nilCheck x=>match Ah tmps x with
  |.ptr b off=>.val (.ptr b off) h
  |.func (.func f) a b=>.val (.func (.func f) a b) h
  |.func (.yield f) a b=>.val (.func (.yield f) a b) h
  |.iface t v=>.val (.iface t v) h
  |_=>.bad "nilCheck"
 |.binOp op t x y _=>Bv h "binOp" (ZH E op t x y (Ah tmps x) (Ah tmps y))
 |.unOp op _ x=>Bv h "unOp" (unB op (Ah tmps x))
 |.convert s d x=>CA "convert" (PU E s d (Ah tmps x) h)
 |.makeInterface t x=>match E.desc t with
  |some (.interface _)=>.bad "makeInterface"
  |some _=>.val (.iface t (Ah tmps x)) h
  |none=>.bad "makeInterface"
 |.makeFunc (.yield _) _ _=>.bad "makeFunc"
 |.makeFunc fn first captured=>.val (.func fn (first.toList.map (Ah tmps)) (captured.toList.map (Ah tmps))) h
 |.makeMap _ none=>.val (.map h.nx) (h.new (.map [] 0))
 |.makeMap t (some r)=>match E.desc t,Ah tmps r with
  |some (.map _ _),.int _ _=>.val (.map h.nx) (h.new (.map [] 0))
  |_,_=>.bad "makeMap"
 |.makeSlice t l c=>CA "makeSlice" (Ge E t (Ah tmps l) (Ah tmps c) h)
 |.slice t x lo hi mx=>CA "slice" (match mx,hi with
  |some _,none=>none
  |_,_=>sliceB E t (Ah tmps x) (AR tmps lo) (AR tmps hi) (AR tmps mx) h)
 |.fieldAddr t x f=>Bv h "fieldAddr" (EB E t (Ah tmps x) f)
 |.field t x f=>Bv h "field" (L6 E t (Ah tmps x) f)
 |.indexAddr t x i=>Bv h "indexAddr" (ES E t (Ah tmps x) (Ah tmps i))
 |.index t x i=>Bv h "index" (LS E t (Ah tmps x) (Ah tmps i))
 |.lookup t m k ok=>Bv h "lookup" (Ja E t (Ah tmps m) (Ah tmps k) ok h)
 |.mapUpdate t m k v=>DA "mapUpdate" (L4 E t (Ah tmps m) (Ah tmps k) (Ah tmps v) h)
 |.insert t m k v=>DA "insert" (Hy E t (Ah tmps m) (Ah tmps k) (Ah tmps v) h)
 |.mapEntry t m k=>CA "mapEntry" (Ot E t (Ah tmps m) (Ah tmps k) h)
 |.entryStore t m st v=>DA "entryStore" (E6 E t (Ah tmps m) (Ah tmps st) (Ah tmps v) h)
 |.range t x=>CA "range" (PH E t (Ah tmps x) h)
 |.next it isString=>CA "next" (NW (Ah tmps it) isString h)
 |.typeAssert x _ t ok=>Bv h "typeAssert" (Me E (Ah tmps x) t ok)
 |.extract t i=>match Ah tmps t with
  |.tuple vs=>Bv h "extract" vs[i]?
  |_=>.bad "extract"
 |.call c=>CO E tmps c h
 |.defer c=>Fz tmps c h
 |.panic x=>match Ah tmps x with
  |.iface t v=>.panic (.iface t v) h
  |_=>.bad "panic"
 |.sliceToArrayPointer ..=>.bad "sliceToArrayPointer"
 |.ready _=>.bad "ready"
 |.waits _=>.bad "waits"
 |.entry it=>Bv h "entry" (Gh (Ah tmps it) h)
 |.makeChan ..=>.bad "makeChan"
 |.go _=>.bad "go"
 |.send ..=>.bad "send"
 |.recv ..=>.bad "recv"
 |.select ..=>.bad "select"
def A1 [U:Facts] (all:Array Oper) (o:Oper) (tmps:T AV):Option Bool:=
 match o.guard with
 |none=>some true
 |some (j,want)=>
  match all.toList[j]? with
  |some g=>match g.dst with
   |some d=>match tmps.get d with
    |some (.bool b)=>some (b==want)
    |some .top=>none
    |some (.sb pos e)=>match Az U.facts e with
     |some c=>some ((c==pos)==want)
     |none=>none
    |none=>none
    |_=>some false
   |none=>some false
  |none=>some false
def DB (nt:Nat) (tmps:T AV) (dst:Option Tmp) (v:AV):Option (T AV):=
 match dst with
 |some d=>match Nat.blt d nt with
  |true=>some (tmps.set d v)
  |false=>none
 |none=>some tmps
def AP (fr:AF) (v:AV):Option AF:=
 match fr.todo with
 |.ops all (o::rest)::k=>match DB fr.nt fr.tmps o.dst v with
  |some t=>some {fr with tmps:=t,todo:=.ops all rest::k}
  |none=>none
 |.inRange l::k=>some {fr with todo:=.endRange l::k}
 |.beginRound::k=>some {fr with todo:=k}
 |_=>none
def Im (id:Nat):List AI→Option (List AI)
 |.inBlock id'::k=>match Nat.beq id' id with|true=>some k|false=>Im id k
 |_::k=>Im id k
 |[]=>none
def G1:List AI→Bool
 |.rest::_=>true
 |_::k=>G1 k
 |[]=>false
def K0 (l:Nat):List AI→Option (List AI)
 |.inScope body::k=>
  match findLabel body l with
  |some rest=>some (.code rest::.inScope body::k)
  |none=>K0 l k
 |_::k=>K0 l k
 |[]=>none
inductive Out where
 |next (s:AS)
 |done (ok:Bool) (v:AV) (h:Aa)
 |draw (s:AS) (ops:Array Oper) (k:List AI)
 |bad (why:String)
 deriving Inhabited
def BO (E:Env) (f:FuncId) (args:List AV) (kind:CallKind):Option AF:=
 match E.fn.get f with
 |some fn=>match fn.body with
  |some c=>some {fn:=f,nt:=max fn.ntmps args.length,tmps:=.ofList args,todo:=[.code c],defers:=[],mode:=.run,kind,round:=none}
  |none=>none
 |none=>none
def Ed (nt:Nat):T AV→List Tmp→List AV→Option (T AV)
 |t,[],[]=>some t
 |t,p::ps,a::as=>match Nat.blt p nt with
  |true=>Ed nt (t.set p a) ps as
  |false=>none
 |_,_,_=>none
def Fl (l:Nat) (args:List AV) (h:Aa):Option AF:=
 match h.blk.get l with
 |some (.loop _ _ fn nt tmps params assign body _)=>match Ed nt tmps params args with
  |some t=>some {fn,nt,tmps:=t,todo:=[.code assign,.beginRound,.code body],defers:=[],mode:=.run,kind:=.normal,round:=some l}
  |none=>none
 |_=>none
def B8 (fr:AF) (cs:List AF) (v:AV) (h:Aa):Out:=
 match cs with
 |c::rest=>
  match fr.kind with
  |.normal=>match AP c v with
   |some c'=>.next {fr:=c',cs:=rest,h}
   |none=>.bad "finish"
  |.deferred=>
   match c.mode with
   |.panic ((_,true)::_)=>.next {fr:={c with mode:=.ret},cs:=rest,h}
   |_=>.next {fr:=c,cs:=rest,h}
  |_=>.bad "kind"
 |[]=>match fr.kind with
  |.normal=>.done true v h
  |_=>.bad "kind at the bottom"
def Bi (E:Env) (fr:AF) (cs:List AF) (r:Res):Out:=
 match r with
 |.val v h=>match AP fr v with
  |some fr'=>.next {fr:=fr',cs,h}
  |none=>.bad "finish"
 |.enter f args h=>match BO E f args .normal with
  |some g=>.next {fr:=g,cs:=fr::cs,h}
  |none=>.bad "enter"
 |.round l args h=>match Fl l args h with
  |some g=>.next {fr:=g,cs:=fr::cs,h}
  |none=>.bad "yield"
 |.defer d h=>match fr.round with
  |some _=>.bad "defer in a round"
  |none=>match AP fr .undef with
   |some fr'=>.next {fr:={fr' with defers:=d::fr'.defers},cs,h}
   |none=>.bad "finish"
 |.recover h=>match fr.round,fr.kind,cs with
  |none,.deferred,c::rest=>match c.mode with
   |.panic ((v,false)::older)=>match AP fr v with
    |some fr'=>.next {fr:=fr',cs:={c with mode:=.panic ((v,true)::older)}::rest,h}
    |none=>.bad "finish"
   |_=>match AP fr .nilIface with
    |some fr'=>.next {fr:=fr',cs,h}
    |none=>.bad "finish"
  |_,_,_=>.bad "recover"
 |.panic v h=>match fr.mode with
  |.run=>.next {fr:={fr with mode:=.panic [(v,false)]},cs,h}
  |_=>.bad "panic"
 |.bad w=>.bad w
def C6 (fr:AF) (cs:List AF) (h:Aa) (jump:Option Code):Out:=
 match fr.round with
 |none=>match jump with
  |none=>.next {fr:={fr with mode:=.ret},cs,h}
  |some .ret=>.next {fr:={fr with mode:=.ret},cs,h}
  |_=>.bad "leave"
 |some l=>match h.blk.get l with
  |some (.loop _ _ fn nt tmps params assign body defers)=>
   B8 fr cs (.bool jump.isNone) (h.put l (.loop (if jump.isNone then .ready else .done) jump fn nt tmps params assign body defers))
  |_=>.bad "no loop"
def Bp (E:Env) (fr:AF) (h:Aa):List ResultVar→Option (List AV)
 |[]=>some []
 |.tmp t::r=>match Bp E fr h r with
  |some l=>some ((match fr.tmps.get t with|some v=>v|none=>.top)::l)
  |none=>none
 |.cell a t::r=>match fr.tmps.get a with
  |some p=>match LG E t p h,Bp E fr h r with
   |some v,some l=>some (v::l)
   |_,_=>none
  |none=>none
def Dl (E:Env) (fr:AF) (cs:List AF) (h:Aa):Out:=
 match fr.defers with
 |d::ds=>match d.fn with
  |none=>match h.blk.get d.coll with
   |some (.deferred (some l))=>.next {fr:={fr with defers:=l++ds},cs,h:=h.put d.coll (.deferred none)}
   |_=>.bad "collected"
  |some fn=>match Bz E fn d.captured d.args h with
   |.enter f args h=>match BO E f args .deferred with
    |some g=>.next {fr:=g,cs:={fr with defers:=ds}::cs,h}
    |none=>.bad "enter deferred"
   |_=>.bad "deferred what"
 |[]=>match fr.mode with
  |.run=>.bad "unwind run"
  |.panic chain=>match cs with
   |c::rest=>match c.mode with
    |.run=>.next {fr:={c with mode:=.panic chain},cs:=rest,h}
    |_=>.bad "panic in a deferred call"
   |[]=>match chain with
    |[(v,false)]=>match E.fn.get fr.fn with
     |some _=>.done false v h
     |none=>.bad "no function"
    |_=>.bad "panic at the bottom"
  |.ret=>match E.fn.get fr.fn with
   |some fn=>match Bp E fr h fn.results.toList with
    |some [v]=>B8 fr cs v h
    |some l=>B8 fr cs (.tuple l) h
    |none=>.bad "results"
   |none=>.bad "no function"
def PW (fr:AF) (h:Aa):Option (Nat×Aa×List AD):=
 match fr.round with
 |some l=>match h.blk.get l with
  |some (.loop _ _ _ _ _ _ _ _ d)=>some (d,h,[])
  |_=>none
 |none=>some (h.nx,h.new (.deferred (some [])),[{fn:=none,coll:=h.nx,captured:=[],args:=[]}])
def FP (E:Env) (s:AS) (f:Operand) (params:List Tmp) (assign body:Code) (k:List AI):Out:=
 match PW s.fr s.h with
 |some (d,h1,mark)=>
  match Ah s.fr.tmps f with
  |.func fn first captured=>
   match Bz E fn captured (first++[.func (.yield h1.nx) [] []]) (h1.new (.loop .ready none s.fr.fn s.fr.nt s.fr.tmps params assign body d)) with
   |.enter g args _=>match BO E g args .normal with
    |some gf=>.next {fr:=gf,cs:={s.fr with todo:=.inRange h1.nx::k,defers:=mark++s.fr.defers}::s.cs,h:=h1.new (.loop .ready none s.fr.fn s.fr.nt s.fr.tmps params assign body d)}
    |none=>.bad "enter"
   |_=>.bad "range over what"
  |_=>.bad "range over what"
 |none=>.bad "rangeFunc"
def AQ [U:Facts] (E:Env) (s:AS):Out:=
 let fr:=s.fr
 let to (k:List AI):Out:=.next {s with fr:={fr with todo:=k}}
 match fr.mode with
 |.run=>match fr.todo with
  |[]=>C6 fr s.cs s.h none
  |.inBlock _::k=>to k
  |.inScope _::k=>to k
  |.inLoop body::k=>to (.code body::.inLoop body::k)
  |.ops _ []::k=>to k
  |.ops all (o::_)::_=>
   match A1 all o fr.tmps with
   |some true=>Bi E fr s.cs (aop E fr.tmps s.h o.op)
   |some false=>Bi E fr s.cs (.val .undef s.h)
   |none=>.bad "wanted"
  |.inRange _::_=>.bad "inRange"
  |.dead::_=>.bad "dead"
  |.rest::_=>.bad "rest"
  |.endRange l::k=>match s.h.blk.get l with
   |some (.loop st pending fn nt tmps params assign body defers)=>match st with
    |.busy=>.bad "loop busy"
    |_=>.next {s with fr:={fr with todo:=match pending with|some c=>.code c::k|none=>k},h:=s.h.put l (.loop .exhausted pending fn nt tmps params assign body defers)}
   |_=>.bad "endRange"
  |.beginRound::k=>match fr.round with
   |some l=>match s.h.blk.get l with
    |some (.loop .ready pending fn nt tmps params assign body defers)=>
     .next {s with fr:={fr with todo:=k},h:=s.h.put l (.loop .busy pending fn nt tmps params assign body defers)}
    |_=>.bad "beginRound"
   |none=>.bad "beginRound"
  |.code c::k=>match c with
   |.ret=>C6 fr s.cs s.h (some .ret)
   |.skip=>to k
   |.label _=>to k
   |.seq a b=>to (.code a::.code b::k)
   |.cond c x y=>match Ah fr.tmps c with
    |.bool true=>to (.code x::k)
    |.bool false=>to (.code y::k)
    |.sb pos e=>match Az U.facts e with
     |some c=>match c==pos with
      |true=>to (.code x::k)
      |false=>to (.code y::k)
     |none=>.bad "cond"
    |_=>.bad "cond"
   |.block id body=>to (.code body::.inBlock id::k)
   |.loop body=>to (.code body::.inLoop body::k)
   |.scope body=>to (.code body::.inScope body::k)
   |.exit id=>match Im id k with
    |some k'=>to k'
    |none=>match G1 k with
     |true=>.bad "exit"
     |false=>C6 fr s.cs s.h (some (.exit id))
   |.goto l=>match K0 l k with
    |some k'=>to k'
    |none=>match G1 k with
     |true=>.bad "goto"
     |false=>C6 fr s.cs s.h (some (.goto l))
   |.rangeFunc f params assign body=>FP E s f params.toList assign body k
   |.region _ ops draw=>match draw with
    |false=>to (.ops ops ops.toList::k)
    |true=>.draw s ops k
   |.refuse why=>.bad why
 |_=>Dl E fr s.cs s.h
structure Rc where
 wr:List Nat
 fp:Option (List Nat)
 lo:Nat
 hi:Nat
 dst:Option Tmp
 looks:List Tmp
 mask:Nat
 deriving Inhabited
def kJ:AV→List Nat
 |.ptr b _=>[b]
 |.slice b _ _ _=>[b]
 |.map b=>[b]
 |.asl b _ _ _=>[b]
 |.aptr b _ _ _=>[b]
 |.nmap b _=>[b]
 |_=>[]
def gI:Operand→List Tmp
 |.tmp t=>[t]
 |_=>[]
def A2 (all:Array Oper) (o:Oper):List Tmp:=
 o.op.operands.toList.flatMap gI++(match o.guard with
  |some (g,_)=>(match all.toList[g]? with
   |some x=>x.dst.toList
   |none=>[])
  |none=>[])
def KE (b:Nat):List Nat→Bool
 |[]=>false
 |c::r=>match Nat.beq b c with
  |true=>true
  |false=>KE b r
def HT:List Nat→List Nat→Bool
 |[],_=>true
 |b::r,l=>match KE b l with
  |true=>false
  |false=>HT r l
def Gw (w:List Nat):Option (List Nat)→Bool
 |none=>w.isEmpty
 |some l=>HT w l
def Rs (l:List Nat):Option Tmp→Bool
 |some d=>KE d l
 |none=>false
def Td:Option Tmp→Option Tmp→Bool
 |some a,some b=>Nat.beq a b
 |_,_=>false
def SA (lo hi:Nat):List Nat→Bool
 |[]=>true
 |b::r=>match Nat.ble lo b&&Nat.blt b hi with
  |true=>false
  |false=>SA lo hi r
def Rc.apart (x y:Rc):Bool:=
 Gw x.wr y.fp&&Gw y.wr x.fp&&HT x.wr y.wr&&SA x.lo x.hi y.wr && !Rs y.looks x.dst && !Rs x.looks y.dst && !Td x.dst y.dst
def Cz (y:Rc):List Rc→Nat→Bool
 |[],_=>true
 |x::r,i=>match Nat.beq (y.mask/2^i%2) 1||x.apart y with
  |true=>Cz y r (i+1)
  |false=>false
def Bs (recs:List Rc):List Edge→Option Nat
 |[]=>some 0
 |e::r=>match Bs recs r with
  |none=>none
  |some m=>match Region.binds .any e with
   |false=>some m
   |true=>match recs[e.on]? with
    |some x=>some (m ||| x.mask ||| 2^e.on)
    |none=>none
def CM (h:Aa):List Nat→T Ac
 |[]=>.nil
 |b::r=>match h.blk.get b with
  |some x=>(CM h r).set b x
  |none=>CM h r
def Fo (blk from_:T Ac):List Nat→T Ac
 |[]=>blk
 |b::r=>match from_.get b,blk.get b with
  |some x,some _=>(Fo blk from_ r).set b x
  |_,_=>(Fo blk from_ r).del b
def GF (blk from_:T Ac) (i:Nat):Nat→T Ac
 |0=>blk
 |n+1=>match from_.get i with
  |some x=>(GF blk from_ (i+1) n).set i x
  |none=>GF blk from_ (i+1) n
def Kt:Op→Bool
 |.next ..=>false
 |.entry _=>false
 |.call c=>match c.callee with
  |.builtin _=>true
  |_=>false
 |.defer _=>false
 |.panic _=>false
 |_=>true
def UW:Op→List Operand
 |.load _ a=>[a]
 |.store _ a _=>[a]
 |.convert _ _ x=>[x]
 |.slice _ x _ _ _=>[x]
 |.lookup _ m _ _=>[m]
 |.mapUpdate _ m _ _=>[m]
 |.insert _ m _ _=>[m]
 |.mapEntry _ m _=>[m]
 |.entryStore _ m _ _=>[m]
 |.range _ x=>[x]
 |.call c=>c.args.toList
 |_=>[]
def bz:AV→List Nat
 |.slice b _ _ _=>[b]
 |.asl b _ _ _=>[b]
 |_=>[]
def O6 (c:T AV):Nat→List Nat
 |0=>[]
 |n+1=>match c.get n with
  |some a=>bz a++O6 c n
  |none=>O6 c n
def jf (h:Aa) (b:Nat):List Nat:=
 match h.blk.get b with
 |some (.cells n c)=>match Nat.ble n 256 with
  |true=>O6 c n
  |false=>[]
 |_=>[]
def dS:AV→List Nat
 |.agg l=>l.flatMap bz
 |a=>bz a
def Uj (tmps:T AV) (h:Aa):Op→List Nat
 |.call c=>match c.callee with
  |.builtin .append=>(c.args.toList.flatMap fun x=>kJ (Ah tmps x)).flatMap (jf h)
  |_=>[]
 |.store _ a x=>match Ah tmps a with
  |.aptr ..=>dS (Ah tmps x)
  |_=>[]
 |_=>[]
def Sk (tmps:T AV) (h:Aa) (o:Op):List Nat:=((UW o).map (Ah tmps)).flatMap kJ++Uj tmps h o
def Bo (n:Nat):List Nat→List Nat
 |[]=>[]
 |b::r=>match Nat.blt b n with
  |true=>b::Bo n r
  |false=>Bo n r
def AK (h g:Aa):Aa:=
 {blk:=GF (Fo h.blk g.blk (Bo h.nx g.log)) g.blk h.nx (g.nx-h.nx),nx:=g.nx,log:=Bo h.nx g.log++h.log}
def AL [Facts] (tmps:T AV):List Tmp→T AV
 |[]=>.nil
 |t::r=>match tmps.get t with
  |some v=>(AL tmps r).set t (TI v)
  |none=>AL tmps r
structure Did where
 ok:Bool
 v:AV
 g:Aa
 fp:Option (List Nat)
 deriving Inhabited
def CD [Facts] (E:Env) (callF:Ask→Aa→Option (Bool×AV×Aa)) (all:Array Oper) (o:Oper) (tmps:T AV) (h:Aa):Option Did:=
 match A1 all o tmps with
 |none=>none
 |some false=>some ⟨true,.undef,{blk:=.nil,nx:=h.nx,log:=[]},some []⟩
 |some true=>match Kt o.op with
  |true=>
   let ids:=Sk tmps h o.op
   match aop E tmps {blk:=CM h ids,nx:=h.nx,log:=[]} o.op with
   |.val v g=>some ⟨true,v,g,some ids⟩
   |_=>none
  |false=>match aop E tmps {h with log:=[]} o.op with
   |.enter f args _=>match callF (.enter f args) {h with log:=[]} with
    |some (ok,v,g)=>some ⟨ok,v,g,none⟩
    |none=>none
   |.round l args _=>match callF (.round l args) {h with log:=[]} with
    |some (ok,v,g)=>some ⟨ok,v,g,none⟩
    |none=>none
   |_=>none
def Eo (recs:List Rc) (j:Nat):List Oper→Bool
 |[]=>true
 |o::rest=>match Bs recs o.after.toList with
  |none=>false
  |some mask=>match Nat.beq (mask/2^j%2) 1 with
   |false=>false
   |true=>Eo (recs++[{wr:=[],fp:=none,lo:=0,hi:=0,dst:=none,looks:=[],mask}]) j rest
def Br [Facts] (E:Env) (callF:Ask→Aa→Option (Bool×AV×Aa)) (all:Array Oper) (nt:Nat):List Oper→List Rc→T AV→Aa→Option (Option AV×T AV×Aa)
 |[],_,tmps,h=>some (none,tmps,h)
 |o::rest,recs,tmps,h=>
  match Bs recs o.after.toList with
  |none=>none
  |some mask=>match CD E callF all o (AL tmps (A2 all o)) h with
   |none=>none
   |some d=>match Nat.ble h.nx d.g.nx,d.ok with
    |false,_=>none
    |true,true=>
     match Cz {wr:=Bo h.nx d.g.log,fp:=d.fp,lo:=h.nx,hi:=d.g.nx,dst:=o.dst,looks:=A2 all o,mask} recs 0 with
     |false=>none
     |true=>match DB nt tmps o.dst d.v with
      |none=>none
      |some tmps'=>Br E callF all nt rest (recs++[{wr:=Bo h.nx d.g.log,fp:=d.fp,lo:=h.nx,hi:=d.g.nx,dst:=o.dst,looks:=A2 all o,mask}]) tmps' (AK h d.g)
    |true,false=>match Nat.beq (mask+1) (2^recs.length)&&Eo (recs++[{wr:=[],fp:=none,lo:=0,hi:=0,dst:=none,looks:=[],mask}]) recs.length rest with
     |true=>some (some d.v,tmps,AK h d.g)
     |false=>none
end Go.AE
namespace Go.AE
variable [Gl:Au]
theorem Aq {i j:Nat} (h:Nat.beq i j=true):i=j:=Nat.eq_of_beq_eq_true h
theorem NI {i j:Nat} (h:Nat.beq i j=false):i≠j:=Nat.ne_of_beq_eq_false h
theorem El (i:Nat):Nat.beq i i=true:=Nat.beq_refl i
theorem Dx {i j:Nat} (h:i≠j):Nat.beq i j=false:=by
 cases e:Nat.beq i j with
 |false=>rfl
 |true=>exact absurd (Aq e) h
theorem T.get0_zero {α:Type} (v:Option α) (l r:T α) {i:Nat} (h:i=0):(T.node v l r).get0 i=v:=by
 subst h;rfl
theorem T.get0_odd {α:Type} (v:Option α) (l r:T α) {i:Nat} (h:i%2=1):(T.node v l r).get0 i=l.get0 (i/2):=by
 rw [T.get0,Dx (show i≠0 by omega),h]
theorem T.get0_even {α:Type} (v:Option α) (l r:T α) {i:Nat} (h:i%2=0) (h0:i≠0):(T.node v l r).get0 i=r.get0 (i/2-1):=by
 rw [T.get0,Dx h0,h]
theorem T.val_eq {α:Type} (t:T α):t.val=t.get0 0:=by cases t<;>rfl
theorem MA {α:Type}:∀(F m:Nat) (t:T α),m+1<2^F→(Sq F m).f t=t.get0 (m+1)
 |0,m,t,h=>by simp at h
 |F+1,m,t,h=>by
  have e:(Sq (F+1) m:Sel α)=Nat.casesOn (motive:=fun _=>Sel α) (m/2)
   (Nat.casesOn (motive:=fun _=>Sel α) (m%2)
    ⟨fun t=>T.casesOn (motive:=fun _=>Option α) t none (fun _ l _=>T.val l)⟩
    (fun _=>⟨fun t=>T.casesOn (motive:=fun _=>Option α) t none (fun _ _ r=>T.val r)⟩))
   (fun k=>Nat.casesOn (motive:=fun _=>Sel α) (m%2)
    ⟨fun t=>T.casesOn (motive:=fun _=>Option α) t none (fun _ l _=>(Sq F k).f l)⟩
    (fun _=>⟨fun t=>T.casesOn (motive:=fun _=>Option α) t none (fun _ _ r=>(Sq F k).f r)⟩)):=rfl
  have h2:m+1<2*2^F:=by rw [Nat.pow_succ] at h;omega
  rw [e];cases t with
  |nil=>
   show _=none;cases m/2<;>cases m%2<;>rfl
  |node v l r=>
   by_cases o:m%2=0
   ·rw [T.get0_odd _ _ _ (show (m+1)%2=1 by omega),show (m+1)/2=m/2 by omega,o]
    cases hk:m/2 with
    |zero=>exact T.val_eq l
    |succ k=>exact MA F k l (by omega)
   ·rw [T.get0_even _ _ _ (show (m+1)%2=0 by omega) (by omega),show (m+1)/2-1=m/2 by omega,show m%2=1 by omega]
    cases hk:m/2 with
    |zero=>exact T.val_eq r
    |succ k=>exact MA F k r (by omega)
theorem T.get_eq {α:Type} (t:T α) (i:Nat):t.get i=t.get0 i:=by
 cases i with
 |zero=>exact T.val_eq t
 |succ m=>
  show (TV m).f t=_;unfold TV;cases hb:Nat.ble m 9223372036854775807 with
  |false=>rfl
  |true=>
   have:=Nat.le_of_ble_eq_true hb;exact MA 64 m t (by omega)
theorem T.get_zero {α:Type} (v:Option α) (l r:T α) {i:Nat} (h:i=0):(T.node v l r).get i=v:=by rw [T.get_eq,T.get0_zero _ _ _ h]
theorem T.get_odd {α:Type} (v:Option α) (l r:T α) {i:Nat} (h:i%2=1):(T.node v l r).get i=l.get (i/2):=by rw [T.get_eq,T.get_eq,T.get0_odd _ _ _ h]
theorem T.get_even {α:Type} (v:Option α) (l r:T α) {i:Nat} (h:i%2=0) (h0:i≠0):(T.node v l r).get i=r.get (i/2-1):=by rw [T.get_eq,T.get_eq,T.get0_even _ _ _ h h0]
theorem T.get_nil {α:Type} (i:Nat):(T.nil:T α).get i=none:=by rw [T.get_eq];rfl
theorem T.get_setF {α:Type} (x:Option α):∀(f:Nat) (t:T α) (i j:Nat),i<f→(T.setF f t i x).get j=if i=j then x else t.get j:=by
 intro f
 induction f with
 |zero=>intro t i j h;omega
 |succ f ih=>
  intro t i j h
  have key:∀(v:Option α) (l r:T α),(T.setF (f+1) (.node v l r) i x).get j=if i=j then x else (T.node v l r).get j:=by
   intro v l r;by_cases hi:i=0
   ·have e:T.setF (f+1) (.node v l r) i x=.node x l r:=by rw [T.setF,hi]
    rw [e];by_cases hj:i=j
    ·rw [if_pos hj,T.get_zero _ _ _ (by omega)]
    ·rw [if_neg hj];by_cases hp:j%2=1
     ·rw [T.get_odd _ _ _ hp,T.get_odd _ _ _ hp]
     ·rw [T.get_even _ _ _ (by omega) (by omega),T.get_even _ _ _ (by omega) (by omega)]
   ·by_cases hp:i%2=1
    ·have e:T.setF (f+1) (.node v l r) i x=.node v (T.setF f l (i/2) x) r:=by rw [T.setF,Dx hi,hp]
     rw [e];by_cases hj:j=0
     ·rw [if_neg (by omega),T.get_zero _ _ _ hj,T.get_zero _ _ _ hj]
     ·by_cases hq:j%2=1
      ·rw [T.get_odd _ _ _ hq,T.get_odd _ _ _ hq,ih l (i/2) (j/2) (by omega)]
       by_cases e:i=j
       ·rw [if_pos e,if_pos (by omega)]
       ·rw [if_neg e,if_neg (by omega)]
      ·rw [if_neg (by omega),T.get_even _ _ _ (by omega) hj,T.get_even _ _ _ (by omega) hj]
    ·have e:T.setF (f+1) (.node v l r) i x=.node v l (T.setF f r (i/2-1) x):=by
      rw [T.setF,Dx hi,Dx hp]
     rw [e];by_cases hj:j=0
     ·rw [if_neg (by omega),T.get_zero _ _ _ hj,T.get_zero _ _ _ hj]
     ·by_cases hq:j%2=1
      ·rw [if_neg (by omega),T.get_odd _ _ _ hq,T.get_odd _ _ _ hq]
      ·rw [T.get_even _ _ _ (by omega) hj,T.get_even _ _ _ (by omega) hj,ih r (i/2-1) (j/2-1) (by omega)]
       by_cases e:i=j
       ·rw [if_pos e,if_pos (by omega)]
       ·rw [if_neg e,if_neg (by omega)]
  cases t with
  |node v l r=>exact key v l r
  |nil=>
   have h1:T.setF (f+1) .nil i x=T.setF (f+1) (.node none .nil .nil) i x:=by
    simp only [T.setF]
   have h2:(T.node (none:Option α) .nil .nil).get j=(T.nil:T α).get j:=by
    by_cases hj:j=0
    ·rw [T.get_zero _ _ _ hj,T.get_nil]
    ·by_cases hp:j%2=1
     ·rw [T.get_odd _ _ _ hp,T.get_nil,T.get_nil]
     ·rw [T.get_even _ _ _ (by omega) hj,T.get_nil,T.get_nil]
   rw [h1,key,h2]
theorem T.putV_eq {α:Type} (x:Option α) (t:T α) (f:Nat):t.putV x=T.setF (f+1) t 0 x:=by cases t<;>rfl
theorem Kw {α:Type}:∀(F m:Nat) (t:T α) (x:Option α) (j:Nat),m+1<2^F→((JL F m).f x t).get j=if m+1=j then x else t.get j
 |0,m,t,x,j,h=>by simp at h
 |F+1,m,t,x,j,h=>by
  have e:(JL (F+1) m:Upd α)=Nat.casesOn (motive:=fun _=>Upd α) (m/2)
   (Nat.casesOn (motive:=fun _=>Upd α) (m%2)
    ⟨fun x t=>T.casesOn (motive:=fun _=>T α) t (.node none (T.putV x .nil) .nil) (fun v l r=>.node v (T.putV x l) r)⟩
    (fun _=>⟨fun x t=>T.casesOn (motive:=fun _=>T α) t (.node none .nil (T.putV x .nil)) (fun v l r=>.node v l (T.putV x r))⟩))
   (fun k=>Nat.casesOn (motive:=fun _=>Upd α) (m%2)
    ⟨fun x t=>T.casesOn (motive:=fun _=>T α) t (.node none ((JL F k).f x .nil) .nil) (fun v l r=>.node v ((JL F k).f x l) r)⟩
    (fun _=>⟨fun x t=>T.casesOn (motive:=fun _=>T α) t (.node none .nil ((JL F k).f x .nil)) (fun v l r=>.node v l ((JL F k).f x r))⟩)):=rfl
  have h2:m+1<2*2^F:=by rw [Nat.pow_succ] at h;omega
  have key:∀(v:Option α) (l r:T α),∃l' r',(JL (F+1) m).f x (.node v l r)=.node v l' r'∧(if m%2=0 then r'=r∧∀j,l'.get j=if m/2=j then x else l.get j else l'=l∧∀j,r'.get j=if m/2=j then x else r.get j):=by
   intro v l r;rw [e];have pv:∀(t:T α) (j:Nat),(T.putV x t).get j=if 0=j then x else t.get j:=fun t j=>by rw [T.putV_eq x t 0];exact T.get_setF x 1 t 0 j (by omega)
   by_cases o:m%2=0
   ·rw [o];cases hk:m/2 with
    |zero=>exact ⟨_,_,rfl,by rw [if_pos rfl];exact ⟨rfl,pv l⟩⟩
    |succ k=>exact ⟨_,_,rfl,by rw [if_pos rfl];exact ⟨rfl,fun j=>Kw F k l x j (by omega)⟩⟩
   ·rw [show m%2=1 by omega]
    cases hk:m/2 with
    |zero=>exact ⟨_,_,rfl,by rw [if_neg (by omega)];exact ⟨rfl,pv r⟩⟩
    |succ k=>exact ⟨_,_,rfl,by rw [if_neg (by omega)];exact ⟨rfl,fun j=>Kw F k r x j (by omega)⟩⟩
  have node:∀(v:Option α) (l r:T α),((JL (F+1) m).f x (.node v l r)).get j=if m+1=j then x else (T.node v l r).get j:=by
   intro v l r;obtain ⟨l',r',e1,e2⟩:=key v l r;rw [e1];by_cases hj:j=0
   ·rw [T.get_zero _ _ _ hj,T.get_zero _ _ _ hj,if_neg (by omega)]
   ·by_cases oj:j%2=1
    ·rw [T.get_odd _ _ _ oj,T.get_odd _ _ _ oj];by_cases o:m%2=0
     ·rw [if_pos o] at e2;rw [e2.2];by_cases q:m+1=j
      ·rw [if_pos q,if_pos (by omega)]
      ·rw [if_neg q,if_neg (by omega)]
     ·rw [if_neg o] at e2;rw [e2.1,if_neg (by omega)]
    ·rw [T.get_even _ _ _ (by omega) hj,T.get_even _ _ _ (by omega) hj]
     by_cases o:m%2=0
     ·rw [if_pos o] at e2;rw [e2.1,if_neg (by omega)]
     ·rw [if_neg o] at e2;rw [e2.2];by_cases q:m+1=j
      ·rw [if_pos q,if_pos (by omega)]
      ·rw [if_neg q,if_neg (by omega)]
  cases t with
  |node v l r=>exact node v l r
  |nil=>
   have e1:(JL (F+1) m).f x (.nil:T α)=(JL (F+1) m).f x (.node none .nil .nil):=by
    rw [e];cases m/2<;>cases m%2<;>rfl
   have e2:((T.node none .nil .nil:T α)).get j=(T.nil:T α).get j:=by
    by_cases hj:j=0
    ·rw [T.get_zero _ _ _ hj,T.get_nil]
    ·by_cases o:j%2=1
     ·rw [T.get_odd _ _ _ o,T.get_nil,T.get_nil]
     ·rw [T.get_even _ _ _ (by omega) hj,T.get_nil,T.get_nil]
   rw [e1,node,e2]
theorem T.get_put {α:Type} (t:T α) (i j:Nat) (x:Option α):(t.put i x).get j=if i=j then x else t.get j:=by
 cases i with
 |zero=>show (T.putV x t).get j=_;rw [T.putV_eq x t 0];exact T.get_setF x 1 t 0 j (by omega)
 |succ m=>
  show ((TQ m).f x t).get j=_;unfold TQ;cases hb:Nat.ble m 9223372036854775807 with
  |false=>exact T.get_setF x (m+2) t (m+1) j (by omega)
  |true=>
   have:=Nat.le_of_ble_eq_true hb;exact Kw 64 m t x j (by omega)
theorem T.get_set {α:Type} (t:T α) (i j:Nat) (x:α):(t.set i x).get j=if i=j then some x else t.get j:=T.get_put _ _ _ _
theorem T.get_del {α:Type} (t:T α) (i j:Nat):(t.del i).get j=if i=j then none else t.get j:=T.get_put _ _ _ _
theorem T.get_ofListFrom {α:Type}:∀(l:List α) (i:Nat) (t:T α) (j:Nat),(T.ofListFrom l i t).get j=if i≤j∧j<i+l.length then l[j-i]? else t.get j:=by
 intro l
 induction l with
 |nil=>intro i t j;simp [T.ofListFrom];omega
 |cons x r ih=>
  intro i t j;simp only [T.ofListFrom,ih,T.get_set,List.length_cons];by_cases h1:i+1≤j∧j<i+1+r.length
  ·rw [if_pos h1,if_pos (by omega)]
   have:j-i=(j-(i+1))+1:=by omega
   rw [this,List.getElem?_cons_succ]
  ·rw [if_neg h1];by_cases h2:i=j
   ·subst h2;rw [if_pos rfl,if_pos (by omega)];simp
   ·rw [if_neg h2,if_neg (by omega)]
theorem T.get_ofList {α:Type} (l:List α) (j:Nat):(T.ofList l).get j=l[j]?:=by
 simp only [T.ofList,T.get_ofListFrom,T.get_nil];by_cases h:j<l.length
 ·rw [if_pos (by omega)];simp
 ·rw [if_neg (by omega)];simp;omega
theorem T.range_spec {α:Type} (t:T α):∀(n i:Nat) (l:List α),t.range i n=some l→l.length=n∧∀j,j<n→t.get (i+j)=l[j]?:=by
 intro n
 induction n with
 |zero=>intro i l h;simp [T.range] at h;subst h;simp
 |succ n ih=>
  intro i l h;simp only [T.range] at h;cases hx:t.get i with
  |none=>simp [hx] at h
  |some x=>
   simp only [hx] at h;cases hr:t.range (i+1) n with
   |none=>simp [hr] at h
   |some r=>
    simp only [hr,Option.some.injEq] at h;subst h;obtain ⟨h1,h2⟩:=ih _ _ hr;refine ⟨by simp [h1],fun j hj=>?_⟩
    cases j with
    |zero=>simpa using hx
    |succ j=>have:=h2 j (by omega);simp only [List.getElem?_cons_succ];rw [←this];congr 1;omega
theorem EA:∀(l:List AV) (c:T AV) (off j:Nat),(Ec c off l).get j=if off≤j∧j<off+l.length then l[j-off]? else c.get j:=by
 intro l
 induction l with
 |nil=>intro c off j;simp [Ec];omega
 |cons x r ih=>
  intro c i j;simp only [Ec,ih,T.get_set,List.length_cons];by_cases h1:i+1≤j∧j<i+1+r.length
  ·rw [if_pos h1,if_pos (by omega)]
   have:j-i=(j-(i+1))+1:=by omega
   rw [this,List.getElem?_cons_succ]
  ·rw [if_neg h1];by_cases h2:i=j
   ·subst h2;rw [if_pos rfl,if_pos (by omega)];simp
   ·rw [if_neg h2,if_neg (by omega)]
variable [U:Vals]
structure Bf where
 cb:Nat
 co:Nat
 csz:Nat
structure Ren where
 m:Nat→Option Bf
 imm:Nat→Option (Array Value)
instance:CoeFun Ren (fun _=>Nat→Option Bf):=⟨Ren.m⟩
def Ren.empty:Ren:=⟨fun _=>none,fun _=>none⟩
structure Ren.le (ρ σ:Ren):Prop where
 m:∀b base,ρ b=some base→σ b=some base
 imm:∀k a,ρ.imm k=some a→σ.imm k=some a
theorem Ren.le_refl (ρ:Ren):ρ.le ρ:=⟨fun _ _ h=>h,fun _ _ h=>h⟩
theorem Ren.le.trans {ρ σ τ:Ren} (h:ρ.le σ) (k:σ.le τ):ρ.le τ:=⟨fun b base e=>k.m b base (h.m b base e),fun b a e=>k.imm b a (h.imm b a e)⟩
def Ren.upd (ρ:Ren) (b:Nat) (base:Bf):Ren:=⟨fun c=>if c=b then some base else ρ c,ρ.imm⟩
theorem Ren.le_upd {ρ:Ren} {b:Nat} (h:ρ b=none) (base:Bf):ρ.le (ρ.upd b base):=by
 refine ⟨?_,fun _ _ h=>h⟩
 intro c d hc;unfold Ren.upd;by_cases e:c=b
 ·subst e;rw [h] at hc;cases hc
 ·show (if c=b then some base else ρ c)=some d
  rw [if_neg e];exact hc
theorem Ren.upd_same (ρ:Ren) (b:Nat) (base:Bf):ρ.upd b base b=some base:=by simp [Ren.upd]
inductive DV (K:TypeId→Option (List Kd)) (M:Nat→Option (Array Value)):Kd→Value→D→Prop
 |bool (b:Bool) (d:D) (h:d.toBool=b):DV K M .bool (.bool b) d
 |int (k:IntKind) (n:Int) (d:D) (hr:k=.i64∨(k.min≤n∧n≤k.max)) (h:d.toInt=n):DV K M (.int k) (.int k n) d
 |str (s:ByteArray) (d:D) (h:d.toStr=s):DV K M .str (.string s) d
 |nil (e:TypeId) (d:D) (h1:d.isNil=true) (h2:d.rows=[]):DV K M (.slice e) (.slice none 0 0) d
 |empty (e:TypeId) (a:Addr) (cap:Nat) (d:D) (h1:d.isNil=false) (h2:d.rows=[]):DV K M (.slice e) (.slice (some a) 0 cap) d
 |slc (e:TypeId) (b off n cap:Nat) (d:D) (ks:List Kd) (arr:Array Value) (hk:K e=some ks) (ha:M b=some arr) (hn:d.rows.length=n) (hc:n≤cap) (h1:d.isNil=false)
   (hin:off+n*ks.length≤arr.size) (hrow:∀i,i<n→(d.rows.getD i default).cells.length=ks.length)
   (hv:∀i j kd,i<n→ks[j]?=some kd→DV K M kd (arr.getD (off+i*ks.length+j) Go.undef) ((d.rows.getD i default).cells.getD j default)) :
   DV K M (.slice e) (.slice (some ⟨b,off,none⟩) n cap) d
omit U in
theorem DV.mono {K:TypeId→Option (List Kd)} {M N:Nat→Option (Array Value)} (hle:∀k a,M k=some a→N k=some a) {k:Kd} {v:Value} {d:D} (h:DV K M k v d):DV K N k v d:=by
 induction h with
 |bool b d h=>exact .bool b d h
 |int k n d hr h=>exact .int k n d hr h
 |str s d h=>exact .str s d h
 |nil e d h1 h2=>exact .nil e d h1 h2
 |empty e a cap d h1 h2=>exact .empty e a cap d h1 h2
 |slc e b off n cap d ks arr hk ha hn hc h1 hin hrow hv ih=>exact .slc e b off n cap d ks arr hk (hle _ _ ha) hn hc h1 hin hrow ih
omit U in
theorem DV.slice_inv {K:TypeId→Option (List Kd)} {M:Nat→Option (Array Value)} {e:TypeId} {v:Value} {d:D} (h:DV K M (.slice e) v d):∃a n c,v=.slice a n c∧d.rows.length=n:=by
 cases h with
 |nil _ _ h1 h2=>exact ⟨_,_,_,rfl,by rw [h2];rfl⟩
 |empty _ _ _ _ h1 h2=>exact ⟨_,_,_,rfl,by rw [h2];rfl⟩
 |slc _ _ _ _ _ _ _ _ hk ha hn=>exact ⟨_,_,_,rfl,hn⟩
def A6 (K:TypeId→Option (List Kd)) (M:Nat→Option (Array Value)) (ks:List Kd) (cur:Array Value) (off:Nat) (rows:List D):Prop:=
 off+rows.length*ks.length≤cur.size∧(∀i,i<rows.length→(rows.getD i default).cells.length=ks.length)∧
  ∀i j kd,i<rows.length→ks[j]?=some kd→DV K M kd (cur.getD (off+i*ks.length+j) Go.undef) ((rows.getD i default).cells.getD j default)
omit U in
theorem A6.mono {K:TypeId→Option (List Kd)} {M N:Nat→Option (Array Value)} (hle:∀k a,M k=some a→N k=some a) {ks:List Kd} {cur:Array Value} {off:Nat} {rows:List D} (h:A6 K M ks cur off rows):A6 K N ks cur off rows:=
 ⟨h.1,h.2.1,fun i j kd a b=>(h.2.2 i j kd a b).mono hle⟩
def PZ:List Value→Value
 |[v]=>v
 |l=>.agg l.toArray
def KV (K:TypeId→Option (List Kd)) (M:Nat→Option (Array Value)) (ks:List Kd) (v:Value) (cs:List D):Prop:=
 ∃l:List Value,v=PZ l∧l.length=ks.length∧(∀u,l=[u]→∀a,u≠.agg a)∧∀(j:Nat) kd,ks[j]?=some kd→DV K M kd (l.getD j Go.undef) (cs.getD j default)
omit U in
theorem KV.mono {K:TypeId→Option (List Kd)} {M N:Nat→Option (Array Value)} (hle:∀k a,M k=some a→N k=some a) {ks:List Kd} {v:Value} {cs:List D} (h:KV K M ks v cs):KV K N ks v cs:=by
 obtain ⟨l,h1,h2,h3,h4⟩:=h;exact ⟨l,h1,h2,h3,fun j kd hj=>(h4 j kd hj).mono hle⟩
def AU (K:TypeId→Option (List Kd)) (M:Nat→Option (Array Value)) (kks vks:List Kd):List MapEntry→List D→Prop
 |[],[]=>True
 |e::es,r::rs=>r.cells.length=kks.length+vks.length∧KV K M kks e.key r.cells∧KV K M vks e.val (r.cells.drop kks.length)∧AU K M kks vks es rs
 |_,_=>False
omit U in
theorem AU.mono {K:TypeId→Option (List Kd)} {M N:Nat→Option (Array Value)} (hle:∀k a,M k=some a→N k=some a) {kks vks:List Kd}:∀{es:List MapEntry} {rs:List D},AU K M kks vks es rs→AU K N kks vks es rs
 |[],[],_=>trivial
 |_::_,_::_,⟨h1,h2,h3,h4⟩=>⟨h1,h2.mono hle,h3.mono hle,h4.mono hle⟩
 |[],_::_,h=>h.elim
 |_::_,[],h=>h.elim
omit U in
theorem AU.length {K:TypeId→Option (List Kd)} {M:Nat→Option (Array Value)} {kks vks:List Kd}:∀{es:List MapEntry} {rs:List D},AU K M kks vks es rs→es.length=rs.length
 |[],[],_=>rfl
 |_::_,_::_,⟨_,_,_,h4⟩=>by simp [h4.length]
 |[],_::_,h=>h.elim
 |_::_,[],h=>h.elim
def FnR (ρ:Ren):Fn→Fn→Prop
 |.yield l,g=>∃base,ρ l=some base∧g=.yield base.cb
 |f,g=>g=f
inductive VR (ρ:Ren):AV→Value→Prop
 |top (v:Value):VR ρ .top v
 |bool (b:Bool):VR ρ (.bool b) (.bool b)
 |int (k:IntKind) (n:Int):VR ρ (.int k n) (.int k n)
 |str (s:ByteArray):VR ρ (.str s.data.toList.length (As s.data.toList)) (.string s)
 |ptr0:VR ρ .ptr0 (.pointer none)
 |ptr (b off:Nat) (base:Bf) (h:ρ b=some base):VR ρ (.ptr b off) (.pointer (some ⟨base.cb,base.co+off,none⟩))
 |slice0:VR ρ .slice0 (.slice none 0 0)
 |slice (b off n es cap:Nat) (base:Bf) (h:ρ b=some base) (hc:n≤cap) (hz:base.co+off+cap*es≤base.csz) :
   VR ρ (.slice b off n es) (.slice (some ⟨base.cb,base.co+off,none⟩) n cap)
 |sliceEnd (b off es:Nat) (a:Addr):VR ρ (.slice b off 0 es) (.slice (some a) 0 0)
 |map0:VR ρ .map0 (.map none)
 |map (b:Nat) (base:Bf) (h:ρ b=some base):VR ρ (.map b) (.map (some base.cb))
 |func (fn fn':Fn) (f c:List AV) (f' c':List Value) (h:FnR ρ fn fn') (h1:f.length=f'.length)
   (h2:∀(i:Nat) (a:AV) (v:Value),f[i]?=some a→f'[i]?=some v→VR ρ a v) (h3:c.length=c'.length)
   (h4:∀(i:Nat) (a:AV) (v:Value),c[i]?=some a→c'[i]?=some v→VR ρ a v):VR ρ (.func fn f c) (.func fn' f'.toArray c'.toArray)
 |nilFunc:VR ρ .nilFunc .nilFunc
 |iface (t:TypeId) (a:AV) (v:Value) (h:VR ρ a v):VR ρ (.iface t a) (.iface t v)
 |nilIface:VR ρ .nilIface .nilIface
 |agg (l:List AV) (l':List Value) (h1:l.length=l'.length) (h2:∀(i:Nat) (a:AV) (v:Value),l[i]?=some a→l'[i]?=some v→VR ρ a v):VR ρ (.agg l) (.agg l'.toArray)
 |tuple (l:List AV) (l':List Value) (h1:l.length=l'.length) (h2:∀(i:Nat) (a:AV) (v:Value),l[i]?=some a→l'[i]?=some v→VR ρ a v):VR ρ (.tuple l) (.tuple l'.toArray)
 |sb (pos:Bool) (e:SB):VR ρ (.sb pos e) (.bool (Ai U.V e==pos))
 |si (k:IntKind) (e:SE):VR ρ (.si k e) (.int k (Ag U.V e))
 |ss (x:SE):VR ρ (.ss x) (.string (AG U.V x))
 |dat (e:TypeId) (x:SE) (a:Option Addr) (n c:Nat) (h:DV U.K ρ.imm (.slice e) (.slice a n c) (Af U.V x)):VR ρ (.dat e x) (.slice a n c)
 |dptr (e:TypeId) (x i:SE) (off:Nat) (b o n cap:Nat) (ks:List Kd) (h:DV U.K ρ.imm (.slice e) (.slice (some ⟨b,o,none⟩) n cap) (Af U.V x)) (hk:U.K e=some ks)
   (h0:0≤Ag U.V i) (hi:(Ag U.V i).toNat<n) (ho:off<ks.length):VR ρ (.dptr e x i off) (.pointer (some ⟨b,o+(Ag U.V i).toNat*ks.length+off,none⟩))
 |asl (b es:Nat) (n nl:SE) (cap:Nat) (base:Bf) (h:ρ b=some base) (h0:0≤Ag U.V n) (hc:(Ag U.V n).toNat≤cap) (hz:base.co+cap*es≤base.csz) (hn:Ai U.V nl=false) :
   VR ρ (.asl b es n nl) (.slice (some ⟨base.cb,base.co,none⟩) (Ag U.V n).toNat cap)
 |aslEnd (b es:Nat) (n nl:SE) (a:Option Addr) (h0:Ag U.V n=0) (hn:a.isNone=Ai U.V nl):VR ρ (.asl b es n nl) (.slice a 0 0)
 |eslc (nl:SE) (a:Option Addr) (hn:a.isNone=Ai U.V nl):VR ρ (.eslc nl) (.slice a 0 0)
 |aptr (b es:Nat) (i:SE) (off:Nat) (base:Bf) (h:ρ b=some base) (h0:0≤Ag U.V i):VR ρ (.aptr b es i off) (.pointer (some ⟨base.cb,base.co+(Ag U.V i).toNat*es+off,none⟩))
 |nmap (b:Nat) (nl:SE) (base:Bf) (h:ρ b=some base) (hn:Ai U.V nl=false):VR ρ (.nmap b nl) (.map (some base.cb))
 |nmap0 (b:Nat) (nl:SE) (hn:Ai U.V nl=true):VR ρ (.nmap b nl) (.map none)
 |stamp (b:Nat) (base:Bf) (h:ρ b=some base):VR ρ (.stamp b) (.int .i64 (base.co:Nat))
 |glob (g off:Nat):VR ρ (.glob g off) (.pointer (some ⟨g,off,none⟩))
def VL (ρ:Ren) (l:List AV) (l':List Value):Prop:=l.length=l'.length∧∀(i:Nat) (a:AV) (v:Value),l[i]?=some a→l'[i]?=some v→VR ρ a v
theorem VL.nil (ρ:Ren):VL ρ [] []:=⟨rfl,by simp⟩
theorem VL.cons {ρ:Ren} {a:AV} {v:Value} {l:List AV} {l':List Value} (h:VR ρ a v) (k:VL ρ l l'):VL ρ (a::l) (v::l'):=by
 refine ⟨by simp [k.1],fun i x y hx hy=>?_⟩
 cases i with
 |zero=>simp at hx hy;subst hx;subst hy;exact h
 |succ i=>simp at hx hy;exact k.2 i x y hx hy
theorem VL.nil_inv {ρ:Ren} {l':List Value} (h:VL ρ [] l'):l'=[]:=by
 have:=h.1;simp at this;exact List.eq_nil_of_length_eq_zero this.symm
theorem VL.cons_inv {ρ:Ren} {a:AV} {l:List AV} {l':List Value} (h:VL ρ (a::l) l'):∃v r,l'=v::r∧VR ρ a v∧VL ρ l r:=by
 cases l' with
 |nil=>have:=h.1;simp at this
 |cons v r=>exact ⟨v,r,rfl,h.2 0 a v rfl rfl,by have:=h.1;simpa using this,fun i x y hx hy=>h.2 (i+1) x y (by simpa using hx) (by simpa using hy)⟩
theorem VL.append {ρ:Ren} {l m:List AV} {l' m':List Value} (h:VL ρ l l') (k:VL ρ m m'):VL ρ (l++m) (l'++m'):=by
 refine ⟨by simp [h.1,k.1],fun i x y hx hy=>?_⟩
 by_cases hi:i<l.length
 ·rw [List.getElem?_append_left hi] at hx;rw [List.getElem?_append_left (by rw [←h.1];exact hi)] at hy
  exact h.2 i x y hx hy
 ·rw [List.getElem?_append_right (by omega)] at hx
  rw [List.getElem?_append_right (by rw [←h.1];omega),←h.1] at hy
  exact k.2 _ x y hx hy
theorem VL.get {ρ:Ren} {l:List AV} {l':List Value} (h:VL ρ l l') {i:Nat} {a:AV} (ha:l[i]?=some a):∃v,l'[i]?=some v∧VR ρ a v:=by
 have hi:i<l.length:=(List.getElem?_eq_some_iff.1 ha).1;have hi':i<l'.length:=by rw [←h.1];exact hi
 exact ⟨l'[i],by simp [hi'],h.2 i a _ ha (by simp [hi'])⟩
theorem VL.drop {ρ:Ren} {l:List AV} {l':List Value} (h:VL ρ l l') (n:Nat):VL ρ (l.drop n) (l'.drop n):=
 ⟨by simp [h.1],fun i a v ha hv=>h.2 (n+i) a v (by simpa using ha) (by simpa using hv)⟩
theorem VL.take {ρ:Ren} {l:List AV} {l':List Value} (h:VL ρ l l') (n:Nat):VL ρ (l.take n) (l'.take n):=by
 refine ⟨by simp [h.1],fun i a v ha hv=>?_⟩
 rw [List.getElem?_take] at ha hv;by_cases e:i<n
 ·rw [if_pos e] at ha hv;exact h.2 i a v ha hv
 ·rw [if_neg e] at ha;cases ha
theorem FnR.mono {ρ σ:Ren} (hle:ρ.le σ) {f g:Fn} (h:FnR ρ f g):FnR σ f g:=by
 cases f<;>simp only [FnR] at h ⊢<;>first|exact h | (obtain ⟨base,h1,h2⟩:=h;exact ⟨base,hle.m _ _ h1,h2⟩)
theorem VR.mono {ρ σ:Ren} (hle:ρ.le σ) {a:AV} {v:Value} (h:VR ρ a v):VR σ a v:=by
 induction h with
 |top v=>exact .top v
 |bool b=>exact .bool b
 |int k n=>exact .int k n
 |str s=>exact .str s
 |ptr0=>exact .ptr0
 |ptr b off base h=>exact .ptr b off base (hle.m _ _ h)
 |slice0=>exact .slice0
 |slice b off n es cap base h hc hz=>exact .slice b off n es cap base (hle.m _ _ h) hc hz
 |sliceEnd b off es a=>exact .sliceEnd b off es a
 |map0=>exact .map0
 |map b base h=>exact .map b base (hle.m _ _ h)
 |func fn fn' f c f' c' h h1 h2 h3 h4 ih2 ih4=>exact .func fn fn' f c f' c' (h.mono hle) h1 ih2 h3 ih4
 |nilFunc=>exact .nilFunc
 |iface t a v h ih=>exact .iface t a v ih
 |nilIface=>exact .nilIface
 |agg l l' h1 h2 ih=>exact .agg l l' h1 ih
 |tuple l l' h1 h2 ih=>exact .tuple l l' h1 ih
 |sb pos e=>exact .sb pos e
 |si k e=>exact .si k e
 |ss x=>exact .ss x
 |dat e x a n c h=>exact .dat e x a n c (h.mono hle.imm)
 |dptr e x i off b o n cap ks h hk h0 hi ho=>exact .dptr e x i off b o n cap ks (h.mono hle.imm) hk h0 hi ho
 |asl b es n nl cap base h h0 hc hz hn=>exact .asl b es n nl cap base (hle.m _ _ h) h0 hc hz hn
 |aslEnd b es n nl a h0 hn=>exact .aslEnd b es n nl a h0 hn
 |eslc nl a hn=>exact .eslc nl a hn
 |aptr b es i off base h h0=>exact .aptr b es i off base (hle.m _ _ h) h0
 |nmap b nl base h hn=>exact .nmap b nl base (hle.m _ _ h) hn
 |nmap0 b nl hn=>exact .nmap0 b nl hn
 |stamp b base h=>exact .stamp b base (hle.m _ _ h)
 |glob g off=>exact .glob g off
theorem VL.mono {ρ σ:Ren} (hle:ρ.le σ) {l:List AV} {l':List Value} (h:VL ρ l l'):VL σ l l':=⟨h.1,fun i a v ha hv=>(h.2 i a v ha hv).mono hle⟩
theorem VR.undef (ρ:Ren):VR ρ .undef Go.undef:=.tuple [] [] rfl (by simp)
structure TR (ρ:Ren) (nt:Nat) (t:T AV) (a:Array Value):Prop where
 size:a.size=nt
 get:∀i x,t.get i=some x→VR ρ x (a.getD i Go.undef)
theorem TR.mono {ρ σ:Ren} (hle:ρ.le σ) {nt:Nat} {t:T AV} {a:Array Value} (h:TR ρ nt t a):TR σ nt t a:=⟨h.size,fun i x hx=>(h.get i x hx).mono hle⟩
def DR (ρ:Ren) (d:AD) (d':Deferred):Prop:=
 match d.fn with
 |some fn=>∃fn' c' a',FnR ρ fn fn'∧VL ρ d.captured c'∧VL ρ d.args a'∧d'={target:=.fn fn' c'.toArray,args:=a'.toArray}
 |none=>∃base,ρ d.coll=some base∧d'={target:=.collected base.cb,args:=#[]}
def DL (ρ:Ren):List AD→List Deferred→Prop
 |[],[]=>True
 |d::r,d'::r'=>DR ρ d d'∧DL ρ r r'
 |_,_=>False
theorem DR.mono {ρ σ:Ren} (hle:ρ.le σ) {d:AD} {d':Deferred} (h:DR ρ d d'):DR σ d d':=by
 unfold DR at *;cases hf:d.fn with
 |none=>rw [hf] at h;obtain ⟨base,h1,h2⟩:=h;exact ⟨base,hle.m _ _ h1,h2⟩
 |some fn=>rw [hf] at h;obtain ⟨fn',c',a',h1,h2,h3,h4⟩:=h;exact ⟨fn',c',a',h1.mono hle,h2.mono hle,h3.mono hle,h4⟩
theorem DL.mono {ρ σ:Ren} (hle:ρ.le σ):∀{l:List AD} {l':List Deferred},DL ρ l l'→DL σ l l'
 |[],[],_=>trivial
 |_::_,_::_,⟨h1,h2⟩=>⟨h1.mono hle,h2.mono hle⟩
theorem DL.append {ρ:Ren}:∀{l:List AD} {l':List Deferred} {m:List AD} {m':List Deferred},DL ρ l l'→DL ρ m m'→DL ρ (l++m) (l'++m')
 |[],[],_,_,_,h=>h
 |_::_,_::_,_,_,⟨h1,h2⟩,h=>⟨h1,DL.append h2 h⟩
def ER (ρ:Ren):List Ak→List MapEntry→Prop
 |[],[]=>True
 |e::r,e'::r'=>VR ρ e.key e'.key∧VR ρ e.val e'.val∧e'.born=e.born∧ER ρ r r'
 |_,_=>False
theorem ER.mono {ρ σ:Ren} (hle:ρ.le σ):∀{l:List Ak} {l':List MapEntry},ER ρ l l'→ER σ l l'
 |[],[],_=>trivial
 |_::_,_::_,⟨h1,h2,h3,h4⟩=>⟨h1.mono hle,h2.mono hle,h3,h4.mono hle⟩
def Inc (es:List MapEntry) (clock:Nat):Prop:=(es.map (·.born)).Pairwise (· < ·)∧∀b∈es.map (·.born),b<clock
omit U in
theorem Inc.nil (c:Nat):Inc [] c:=⟨List.Pairwise.nil,fun b hb=>by cases hb⟩
omit U in
theorem Inc.push {es:List MapEntry} {c:Nat} (h:Inc es c) (k v:Value):Inc (es++[{key:=k,val:=v,born:=c}]) (c+1):=by
 obtain ⟨h1,h2⟩:=h;refine ⟨?_,fun b hb=>?_⟩
 ·rw [List.map_append,List.pairwise_append];refine ⟨h1,by simp,fun a ha b hb=>?_⟩
  simp only [List.map_cons,List.map_nil,List.mem_singleton] at hb;subst hb;exact h2 a ha
 ·rw [List.map_append] at hb;rcases List.mem_append.1 hb with q|q
  ·have:=h2 b q;omega
  ·simp only [List.map_cons,List.map_nil,List.mem_singleton] at q;omega
omit U in
theorem Inc.erase {es:List MapEntry} {c:Nat} (h:Inc es c) (n:Nat):Inc (es.eraseIdx n) c:=by
 have hs:((es.eraseIdx n).map (·.born)).Sublist (es.map (·.born)):=(List.eraseIdx_sublist es n).map _
 exact ⟨h.1.sublist hs,fun b hb=>h.2 b (hs.subset hb)⟩
omit U in
theorem If {f:MapEntry→MapEntry} (hf:∀e,(f e).born=e.born):∀(n:Nat) (es:List MapEntry),(es.modify n f).map (·.born)=es.map (·.born)
 |_,[]=>by simp
 |0,e::es=>by simp [hf]
 |n+1,e::es=>by simp [If hf n es]
omit U in
theorem Inc.modify {es:List MapEntry} {c:Nat} (h:Inc es c) {f:MapEntry→MapEntry} (hf:∀e,(f e).born=e.born) (n:Nat):Inc (es.modify n f) c:=by
 unfold Inc;rw [If hf];exact h
theorem Mj {ρ:Ren}:∀(es:List Ak) (es':List MapEntry) (lo c:Nat),MB lo es c=true→ER ρ es es'→(∀b∈es'.map (·.born),lo≤b)∧Inc es' c
 |[],[],lo,c,_,_=>⟨fun b hb=>(by cases hb),Inc.nil c⟩
 |e::r,e'::r',lo,c,h,he=>by
  obtain ⟨h1,h2,h3,h4⟩:=he;simp only [MB,Bool.and_eq_true] at h;obtain ⟨⟨a1,a2⟩,a3⟩:=h;have a1:=Nat.le_of_ble_eq_true a1;have a2:e.born<c:=Nat.le_of_ble_eq_true a2;obtain ⟨q1,q2,q3⟩:=Mj r r' (e.born+1) c a3 h4;refine ⟨fun b hb=>?_,?_,fun b hb=>?_⟩
  ·rw [List.map_cons] at hb;rcases List.mem_cons.1 hb with q|q
   ·omega
   ·have:=q1 b q;omega
  ·rw [List.map_cons,List.pairwise_cons];exact ⟨fun b hb=>by have:=q1 b hb;omega,q2⟩
  ·rw [List.map_cons] at hb;rcases List.mem_cons.1 hb with q|q
   ·omega
   ·exact q3 b q
 |[],_::_,_,_,_,h=>h.elim
 |_::_,[],_,_,_,h=>h.elim
def BR (ρ:Ren) (x:Ac) (base:Bf) (o:Option Obj):Prop:=
 match x with
 |.cells n c=>∃cur e fz,o=some (.cells cur e fz)∧cur.size=base.csz∧base.co+n≤base.csz∧(fz.1=fz.2∨base.csz≤fz.1)∧
   ∀i a,i<n→c.get i=some a→∃v,cur[base.co+i]?=some v∧VR ρ a v
 |.arr e x=>∃ks cur et fz,U.K e=some ks∧o=some (.cells cur et fz)∧cur.size=base.csz∧(fz.1=fz.2∨base.csz≤fz.1)∧A6 U.K ρ.imm ks cur base.co (Af U.V x).rows
 |.map es clock=>∃es':List MapEntry,o=some (.map es'.toArray clock)∧ER ρ es es'
 |.dmap kt vt x=>∃kks vks,∃es':List MapEntry,∃clock,U.K kt=some kks∧U.K vt=some vks∧o=some (.map es'.toArray clock)∧AU U.K ρ.imm kks vks es' (Af U.V x).rows∧Inc es' clock
 |.dmapS kt vt x n b=>∃kks vks,∃es':List MapEntry,∃clock,U.K kt=some kks∧U.K vt=some vks∧o=some (.map es'.toArray clock)∧AU U.K ρ.imm kks vks es' (Af U.V x).rows∧Inc es' clock∧∃bs,ρ b=some bs∧(es'[(Ag U.V n).toNat]?).map (·.born)=some bs.co
 |.loop st pending fn nt tmps params assign body d=>∃tm bd,ρ d=some bd∧TR ρ nt tmps tm∧
   o=some (.loop {state:=st,pending:=pending,fn:=fn,tmps:=tm,params:=params.toArray,assign:=assign,body:=body,defers:=bd.cb})
 |.deferred ds=>match ds with
  |none=>o=some (.deferred none)
  |some l=>∃l',DL ρ l l'∧o=some (.deferred (some l'))
 |.mapIter m since seen last=>base.co=0∧(match m with
  |none=>o=some (.mapIter none since seen.toArray last)
  |some b=>∃bm,ρ b=some bm∧o=some (.mapIter (some bm.cb) since seen.toArray last))
 |.strIter l b pos=>base.co=0∧∃s:ByteArray,l=s.data.toList.length∧b=As s.data.toList∧o=some (.stringIter s pos)
theorem BR.mono {ρ σ:Ren} (hle:ρ.le σ) {x:Ac} {base:Bf} {o:Option Obj} (h:BR ρ x base o):BR σ x base o:=by
 cases x with
 |cells n c=>
  obtain ⟨cur,e,fz,h1,h2,h3,h4,h5⟩:=h;exact ⟨cur,e,fz,h1,h2,h3,h4,fun i a hi ha=>let ⟨v,hv,hr⟩:=h5 i a hi ha;⟨v,hv,hr.mono hle⟩⟩
 |arr e x=>obtain ⟨ks,cur,et,fz,h1,h2,h3,h4,h5⟩:=h;exact ⟨ks,cur,et,fz,h1,h2,h3,h4,h5.mono hle.imm⟩
 |map es clock=>obtain ⟨es',h1,h2⟩:=h;exact ⟨es',h1,h2.mono hle⟩
 |dmap kt vt x=>obtain ⟨kks,vks,es',c,h1,h2,h3,h4,h5⟩:=h;exact ⟨kks,vks,es',c,h1,h2,h3,h4.mono hle.imm,h5⟩
 |dmapS kt vt x n b=>obtain ⟨kks,vks,es',c,h1,h2,h3,h4,h5,bs,h6,h7⟩:=h;exact ⟨kks,vks,es',c,h1,h2,h3,h4.mono hle.imm,h5,bs,hle.m _ _ h6,h7⟩
 |loop st pending fn nt tmps params assign body d=>obtain ⟨tm,bd,h1,h2,h3⟩:=h;exact ⟨tm,bd,hle.m _ _ h1,h2.mono hle,h3⟩
 |deferred ds=>cases ds with
  |none=>exact h
  |some l=>obtain ⟨l',h1,h2⟩:=h;exact ⟨l',h1.mono hle,h2⟩
 |mapIter m since seen last=>cases m with
  |none=>exact h
  |some b=>obtain ⟨h0,bm,h1,h2⟩:=h;exact ⟨h0,bm,hle.m _ _ h1,h2⟩
 |strIter l b pos=>exact h
def ScR:AV→Value→Prop
 |.int k n,v=>v=.int k n
 |.bool b,v=>v=.bool b
 |_,_=>False
def E4 (M:Nat→Option (Array Value)):Prop:=∀g l,Gl.tab.get g=some l→∃arr,M g=some arr∧∀(i:Nat) (a:AV),l[i]?=some a→∃v,arr[i]?=some v∧ScR a v
omit U in
theorem E4.mono {M N:Nat→Option (Array Value)} (hle:∀k a,M k=some a→N k=some a) (h:E4 M):E4 N:=fun g l hg=>let ⟨arr,h1,h2⟩:=h g l hg;⟨arr,hle _ _ h1,h2⟩
theorem ScR.vr {ρ:Ren} {a:AV} {v:Value} (h:ScR a v):VR ρ a v:=by
 cases a<;>first | (cases h;done)|skip
 ·cases h;exact .bool _
 ·cases h;exact .int _ _
structure HR (ρ:Ren) (g:Nat→Option Ac) (w:World):Prop where
 lt:∀b base,ρ b=some base→base.cb<w.heap.size
 blk:∀b base x,ρ b=some base→g b=some x→BR ρ x base w.heap[base.cb]?
 apart:∀b b' base base',b≠b'→ρ b=some base→ρ b'=some base'→g b≠none→g b'≠none→base.cb≠base'.cb
 imm:∀k arr,ρ.imm k=some arr→∃e fz,w.heap[k]?=some (.cells arr e fz)
 off:∀k arr b base,ρ.imm k=some arr→ρ b=some base→g b≠none→base.cb≠k
 glob:E4 ρ.imm
theorem HR.immLt {ρ:Ren} {g:Nat→Option Ac} {w:World} (h:HR ρ g w) {k:Nat} {arr:Array Value} (hk:ρ.imm k=some arr):k<w.heap.size:=by
 obtain ⟨e,fz,h1⟩:=h.imm k arr hk;exact (Array.getElem?_eq_some_iff.1 h1).1
theorem HR.restrict {ρ:Ren} {g g':Nat→Option Ac} {w:World} (h:HR ρ g w) (hg:∀b,g' b=none∨g' b=g b):HR ρ g' w:=by
 have live:∀b,g' b≠none→g b≠none:=by
  intro b hb;rcases hg b with e|e
  ·exact absurd e hb
  ·exact e▸hb
 refine ⟨h.lt,fun b base x hb hx=>?_,fun b b' base base' hne hb hb' h1 h2=>h.apart b b' base base' hne hb hb' (live b h1) (live b' h2),h.imm,fun k arr b base hk hb hl=>h.off k arr b base hk hb (live b hl),h.glob⟩
 rcases hg b with e|e
 ·rw [e] at hx;cases hx
 ·exact h.blk b base x hb (e▸hx)
structure Fq (w w':World):Prop where
 os:w'.os=w.os
 tape:w'.tape=w.tape
 output:w'.output=w.output
 size:w.heap.size≤w'.heap.size
theorem Fq.refl (w:World):Fq w w:=⟨rfl,rfl,rfl,Nat.le_refl _⟩
theorem Fq.trans {a b c:World} (h:Fq a b) (k:Fq b c):Fq a c:=⟨k.os.trans h.os,k.tape.trans h.tape,k.output.trans h.output,Nat.le_trans h.size k.size⟩
structure Ext (ρ σ:Ren) (h h':Aa) (w w':World):Prop where
 le:ρ.le σ
 nx:h.nx≤h'.nx
 new:∀b base,σ b=some base→ρ b=some base∨(h.nx≤b∧b<h'.nx∧(w.heap.size≤base.cb∨∃b0 base0,ρ b0=some base0∧h.blk.get b0≠none∧base0.cb=base.cb))
 calm:Fq w w'
 kept:∀k,k<w.heap.size→(∀b base,ρ b=some base→h.blk.get b≠none→base.cb≠k)→w'.heap[k]?=w.heap[k]?
 log:∃l,h'.log=l++h.log∧∀b,b∉l→(b<h.nx∨h'.nx≤b)→h'.blk.get b=h.blk.get b
 live:∀b,h'.blk.get b≠none→h.blk.get b≠none∨(h.nx≤b∧b<h'.nx)
 imm:∀k arr,σ.imm k=some arr→ρ.imm k=some arr∨w.heap.size≤k∨∃b0 base0,ρ b0=some base0∧h.blk.get b0≠none∧base0.cb=k
def Ax (ρ:Ren) (n m:Nat):Prop:=∀b,n≤b→b<m→ρ b=none
theorem Ext.refl (ρ:Ren) (h:Aa) (w:World):Ext ρ ρ h h w w:=
 ⟨Ren.le_refl ρ,Nat.le_refl _,fun _ _ e=>.inl e,Fq.refl w,fun _ _ _=>rfl,⟨[],rfl,fun _ _ _=>rfl⟩,fun _ e=>.inl e,fun _ _ e=>.inl e⟩
theorem Ext.free {ρ σ:Ren} {h h':Aa} {w w':World} (e:Ext ρ σ h h' w w') {m:Nat} (f:Ax ρ h.nx m):Ax σ h'.nx m:=by
 intro b hb hm;have:=e.nx;cases hs:σ b with
 |none=>rfl
 |some base=>
  rcases e.new b base hs with h1|⟨_,h2,_⟩
  ·rw [f b (by omega) hm] at h1;cases h1
  ·omega
theorem Ext.trans {ρ σ τ:Ren} {h h1 h2:Aa} {w w1 w2:World} (e:Ext ρ σ h h1 w w1) (k:Ext σ τ h1 h2 w1 w2) (f:Ax ρ h.nx h2.nx):Ext ρ τ h h2 w w2:=by
 have n1:=e.nx;have n2:=k.nx;have hs:=e.calm.size
 have old:∀b base,σ b=some base→h1.blk.get b≠none→(ρ b=some base∧h.blk.get b≠none)∨(w.heap.size≤base.cb∨∃b0 base0,ρ b0=some base0∧h.blk.get b0≠none∧base0.cb=base.cb):=by
  intro b base hb hl;rcases e.new b base hb with h3|⟨_,_,h3⟩
  ·rcases e.live b hl with h4|⟨h4,h5⟩
   ·exact .inl ⟨h3,h4⟩
   ·rw [f b h4 (by omega)] at h3;cases h3
  ·exact .inr h3
 refine ⟨e.le.trans k.le,by omega,?_,e.calm.trans k.calm,?_,?_,?_,?_⟩
 ·intro b base hb;rcases k.new b base hb with h3|⟨h3,h4,h5⟩
  ·rcases e.new b base h3 with h6|⟨h6,h7,h8⟩
   ·exact .inl h6
   ·exact .inr ⟨h6,by omega,h8⟩
  ·refine .inr ⟨by omega,h4,?_⟩
   rcases h5 with h5|⟨b0,base0,h6,h7,h8⟩
   ·exact .inl (by omega)
   ·rcases old b0 base0 h6 h7 with ⟨h9,h10⟩|h9|⟨b1,base1,h9,h10,h11⟩
    ·exact .inr ⟨b0,base0,h9,h10,h8⟩
    ·exact .inl (by omega)
    ·exact .inr ⟨b1,base1,h9,h10,h11.trans h8⟩
 ·intro j hj hn;rw [k.kept j (by omega) ?_,e.kept j hj hn]
  intro b base hb hl;rcases old b base hb hl with ⟨h3,h4⟩|h3|⟨b0,base0,h3,h4,h5⟩
  ·exact hn b base h3 h4
  ·omega
  ·rw [←h5];exact hn b0 base0 h3 h4
 ·obtain ⟨l,hl,hl'⟩:=e.log;obtain ⟨m,hm,hm'⟩:=k.log;refine ⟨m++l,by rw [hm,hl,List.append_assoc],fun b hb hr=>?_⟩
  simp only [List.mem_append,not_or] at hb;rw [hm' b hb.1 (by omega),hl' b hb.2 (by omega)]
 ·intro b hb;rcases k.live b hb with h3|⟨h3,h4⟩
  ·rcases e.live b h3 with h5|⟨h5,h6⟩
   ·exact .inl h5
   ·exact .inr ⟨h5,by omega⟩
  ·exact .inr ⟨by omega,h4⟩
 ·intro j arr hj;rcases k.imm j arr hj with h3|h3|⟨b0,base0,h3,h4,h5⟩
  ·exact e.imm j arr h3
  ·exact .inr (.inl (by omega))
  ·rcases old b0 base0 h3 h4 with ⟨h6,h7⟩|h6|⟨b1,base1,h6,h7,h8⟩
   ·exact .inr (.inr ⟨b0,base0,h6,h7,h5⟩)
   ·exact .inr (.inl (by omega))
   ·exact .inr (.inr ⟨b1,base1,h6,h7,h8.trans h5⟩)
theorem HR.new {ρ:Ren} {h:Aa} {w:World} (hr:HR ρ h.blk.get w) (hf:ρ h.nx=none) (x:Ac) (o:Obj) (csz:Nat)
  (hbr:BR (ρ.upd h.nx ⟨w.heap.size,0,csz⟩) x ⟨w.heap.size,0,csz⟩ (some o)) (w':World) (hw:w'.heap=w.heap.push o) (hos:w'.os=w.os) (ht:w'.tape=w.tape) (ho:w'.output=w.output) :
  HR (ρ.upd h.nx ⟨w.heap.size,0,csz⟩) (h.new x).blk.get w'∧Ext ρ (ρ.upd h.nx ⟨w.heap.size,0,csz⟩) h (h.new x) w w':=by
 have hle:=Ren.le_upd hf ⟨w.heap.size,0,csz⟩;have hold:∀k,k<w.heap.size→w'.heap[k]?=w.heap[k]?:=fun k hk=>by rw [hw,Array.getElem?_push,if_neg (by omega)]
 have hsz:w'.heap.size=w.heap.size+1:=by rw [hw];simp
 have inv:∀b base,ρ.upd h.nx ⟨w.heap.size,0,csz⟩ b=some base→(b=h.nx∧base=⟨w.heap.size,0,csz⟩)∨(b≠h.nx∧ρ b=some base):=by
  intro b base hb;simp only [Ren.upd] at hb;by_cases e:b=h.nx
  ·rw [if_pos e] at hb;exact .inl ⟨e,by simpa using hb.symm⟩
  ·rw [if_neg e] at hb;exact .inr ⟨e,hb⟩
 refine ⟨⟨?_,?_,?_,?_,?_,hr.glob⟩,⟨hle,Nat.le_succ _,?_,⟨hos,ht,ho,by omega⟩,fun k hk _=>hold k hk,⟨[],rfl,?_⟩,?_,fun _ _ e=>.inl e⟩⟩
 ·intro b base hb;rcases inv b base hb with ⟨_,rfl⟩|⟨_,h1⟩
  ·show w.heap.size<_;omega
  ·have:=hr.lt b base h1;omega
 ·intro b base y hb hy;simp only [Aa.new,T.get_set] at hy;rcases inv b base hb with ⟨rfl,rfl⟩|⟨hne,h1⟩
  ·rw [if_pos rfl] at hy;cases hy;have:w'.heap[w.heap.size]?=some o:=by rw [hw];simp
   rw [this];exact hbr
  ·rw [if_neg (fun e=>hne e.symm)] at hy
   rw [hold _ (hr.lt b base h1)];exact (hr.blk b base y h1 hy).mono hle
 ·intro b b' base base' hne hb hb' h1 h2;simp only [Aa.new,T.get_set] at h1 h2;rcases inv b base hb with ⟨rfl,rfl⟩|⟨hn,h3⟩
  ·rcases inv b' base' hb' with ⟨e,_⟩|⟨hn',h4⟩
   ·exact absurd e.symm hne
   ·have:=hr.lt b' base' h4;show w.heap.size≠_;omega
  ·rcases inv b' base' hb' with ⟨rfl,rfl⟩|⟨hn',h4⟩
   ·have:=hr.lt b base h3;show _≠w.heap.size;omega
   ·rw [if_neg (fun e=>hn e.symm)] at h1
    rw [if_neg (fun e=>hn' e.symm)] at h2
    exact hr.apart b b' base base' hne h3 h4 h1 h2
 ·intro k arr hk;rw [hold k (hr.immLt hk)];exact hr.imm k arr hk
 ·intro k arr b base hk hb hl;rcases inv b base hb with ⟨rfl,rfl⟩|⟨hn,h3⟩
  ·have:=hr.immLt (k:=k) (arr:=arr) hk;show w.heap.size≠k;omega
  ·simp only [Aa.new,T.get_set] at hl;rw [if_neg (fun e=>hn e.symm)] at hl
   exact hr.off k arr b base hk h3 hl
 ·intro b base hb;rcases inv b base hb with ⟨rfl,rfl⟩|⟨_,h1⟩
  ·exact .inr ⟨Nat.le_refl _,Nat.lt_succ_self _,.inl (Nat.le_refl _)⟩
  ·exact .inl h1
 ·intro b _ hb;simp only [Aa.new,T.get_set] at hb ⊢;rw [if_neg (by omega)]
 ·intro b hb;simp only [Aa.new,T.get_set] at hb ⊢;by_cases e:h.nx=b
  ·exact .inr ⟨by omega,by omega⟩
  ·rw [if_neg e] at hb;exact .inl hb
theorem HR.stamp {ρ:Ren} {h:Aa} {w:World} (hr:HR ρ h.blk.get w) (hf:ρ h.nx=none) {r:Nat} {base:Bf} (hb:ρ r=some base) (hl:h.blk.get r≠none) (s:Nat) :
  HR (ρ.upd h.nx ⟨base.cb,s,base.csz⟩) h.stampN.blk.get w∧Ext ρ (ρ.upd h.nx ⟨base.cb,s,base.csz⟩) h h.stampN w w:=by
 have hle:=Ren.le_upd hf ⟨base.cb,s,base.csz⟩;have get:∀b,h.stampN.blk.get b=if h.nx=b then none else h.blk.get b:=fun b=>T.get_del _ _ _
 have live:∀b,h.stampN.blk.get b≠none→h.nx≠b∧h.blk.get b≠none:=by
  intro b h1;rw [get] at h1;by_cases e:h.nx=b
  ·rw [if_pos e] at h1;exact absurd rfl h1
  ·rw [if_neg e] at h1;exact ⟨e,h1⟩
 have inv:∀b c,ρ.upd h.nx ⟨base.cb,s,base.csz⟩ b=some c→(b=h.nx∧c=⟨base.cb,s,base.csz⟩)∨(b≠h.nx∧ρ b=some c):=by
  intro b c hb;simp only [Ren.upd] at hb;by_cases e:b=h.nx
  ·rw [if_pos e] at hb;exact .inl ⟨e,by simpa using hb.symm⟩
  ·rw [if_neg e] at hb;exact .inr ⟨e,hb⟩
 refine ⟨⟨?_,?_,?_,hr.imm,?_,hr.glob⟩,⟨hle,Nat.le_succ _,?_,Fq.refl w,fun _ _ _=>rfl,⟨[],rfl,?_⟩,?_,fun _ _ e=>.inl e⟩⟩
 ·intro b c hc;rcases inv b c hc with ⟨_,rfl⟩|⟨_,h1⟩
  ·exact hr.lt r base hb
  ·exact hr.lt b c h1
 ·intro b c y hc hy;rcases inv b c hc with ⟨rfl,_⟩|⟨hne,h1⟩
  ·rw [get,if_pos rfl] at hy;cases hy
  ·rw [get,if_neg (fun e=>hne e.symm)] at hy
   exact (hr.blk b c y h1 hy).mono hle
 ·intro b b' c c' hne hc hc' h1 h2;obtain ⟨n1,l1⟩:=live b h1;obtain ⟨n2,l2⟩:=live b' h2;rcases inv b c hc with ⟨e,_⟩|⟨_,h3⟩
  ·exact absurd e.symm n1
  ·rcases inv b' c' hc' with ⟨e,_⟩|⟨_,h4⟩
   ·exact absurd e.symm n2
   ·exact hr.apart b b' c c' hne h3 h4 l1 l2
 ·intro k arr b c hk hc h1;obtain ⟨n1,l1⟩:=live b h1;rcases inv b c hc with ⟨e,_⟩|⟨_,h3⟩
  ·exact absurd e.symm n1
  ·exact hr.off k arr b c hk h3 l1
 ·intro b c hc;rcases inv b c hc with ⟨rfl,rfl⟩|⟨_,h1⟩
  ·exact .inr ⟨Nat.le_refl _,Nat.lt_succ_self _,.inr ⟨r,base,hb,hl,rfl⟩⟩
  ·exact .inl h1
 ·intro b _ hb2;rw [get,if_neg (by simp only [Aa.stampN] at hb2;omega)]
 ·intro b hb2;exact .inl (live b hb2).2
theorem HR.put {ρ:Ren} {h:Aa} {w:World} (hr:HR ρ h.blk.get w) {r:Nat} {base:Bf} (hb:ρ r=some base) (hl:h.blk.get r≠none) (x:Ac)
  (w':World) (hx:BR ρ x base w'.heap[base.cb]?) (hsz:w'.heap.size=w.heap.size) (hold:∀k,k≠base.cb→w'.heap[k]?=w.heap[k]?) (hos:w'.os=w.os) (ht:w'.tape=w.tape) (ho:w'.output=w.output) :
  HR ρ (h.put r x).blk.get w'∧Ext ρ ρ h (h.put r x) w w':=by
 have live:∀b,(h.put r x).blk.get b≠none→h.blk.get b≠none:=by
  intro b h1;simp only [Aa.put,T.get_set] at h1;by_cases e:r=b
  ·subst e;exact hl
  ·rw [if_neg e] at h1;exact h1
 refine ⟨⟨fun b c hc=>hsz▸hr.lt b c hc,?_,?_,fun k arr hk=>by rw [hold k (hr.off k arr r base hk hb hl).symm];exact hr.imm k arr hk,fun k arr b c hk hc h1=>hr.off k arr b c hk hc (live b h1),hr.glob⟩,⟨Ren.le_refl ρ,Nat.le_refl _,fun _ _ e=>.inl e,⟨hos,ht,ho,by omega⟩,?_,⟨[r],rfl,?_⟩,?_,fun _ _ e=>.inl e⟩⟩
 ·intro b c y hc hy;simp only [Aa.put,T.get_set] at hy;by_cases e:r=b
  ·subst e;rw [if_pos rfl] at hy;cases hy;rw [hb] at hc;cases hc;exact hx
  ·rw [if_neg e] at hy;rw [hold _ (hr.apart b r c base (fun h=>e h.symm) hc hb (by rw [hy];simp) hl)]
   exact hr.blk b c y hc hy
 ·intro b b' c c' hne hc hc' h1 h2;simp only [Aa.put,T.get_set] at h1 h2;refine hr.apart b b' c c' hne hc hc' ?_ ?_
  ·by_cases e:r=b
   ·subst e;exact hl
   ·rw [if_neg e] at h1;exact h1
  ·by_cases e:r=b'
   ·subst e;exact hl
   ·rw [if_neg e] at h2;exact h2
 ·intro k hk hn;exact hold k (fun e=>hn r base hb hl e.symm)
 ·intro b hbn _;simp only [Aa.put,T.get_set];rw [if_neg (fun e=>hbn (by simp [e]))]
 ·intro b h1;simp only [Aa.put,T.get_set] at h1;by_cases e:r=b
  ·subst e;exact .inl hl
  ·rw [if_neg e] at h1;exact .inl h1
theorem HR.same {ρ:Ren} {g:Nat→Option Ac} {w w':World} (hr:HR ρ g w) (hw:w'.heap=w.heap):HR ρ g w':=
 ⟨fun b base h=>hw▸hr.lt b base h,fun b base x h hx=>hw▸hr.blk b base x h hx,hr.apart,fun k arr hk=>hw▸hr.imm k arr hk,hr.off,hr.glob⟩
end Go.AE
namespace Go.AE
variable [Gl:Au]
variable [U:Unk]
structure OK (E:Env):Prop where
 ty:∀t i,E.ty.get t=some i→E.P.info? t=some i
 fn:∀f x,E.fn.get f=some x→E.P.funcs[f]?=some x
 num:∀f x,E.fn.get f=some x→(x.name == "runtime.NumGoroutine")=false
 clone:∀f x,E.fn.get f=some x→x.body=none→x.name = "maps.clone"→Extern.findNext x=none∧Extern.find x=some Extern.MapsClone.clone
 ixb:∀f x,E.fn.get f=some x→x.body=none→x.name = "internal/bytealg.IndexByteString"→Extern.findNext x=none∧Extern.find x=some Extern.BytealgIndexByte.indexByte
 cnt:∀f x,E.fn.get f=some x→x.body=none→x.name = "internal/bytealg.CountString"→Extern.findNext x=none∧Extern.find x=some Extern.BytealgCount.count
 mixed:E.P.follows .mixedOrders=true
 kd:U.K=(Env.of E.P).kinds
 ke:E.kinds=(Env.of E.P).kinds
 gl:E.gl=Gl.tab
 ox:∀f l,E.ox.get f=some l→∀e∈l,e∈E.orc
section
variable {E:Env} (hE:OK E)
include hE
theorem OK.und {t:TypeId} {d:TypeDesc} (h:E.desc t=some d):E.P.underlying t=some d:=by
 unfold Env.desc at h;cases hi:E.ty.get t with
 |none=>simp [hi] at h
 |some i=>
  simp only [hi] at h;have h1:=hE.ty t i hi;unfold Program.underlying;rw [h1];cases i with
  |mk desc str size bytes hasPointers align fieldAlign zero comparable methods=>
   cases desc<;>simp only [Option.some.injEq] at h ⊢<;>first|exact h|skip
   rename_i n u;cases hu:E.ty.get u with
   |none=>simp [hu] at h
   |some j=>simp only [hu,Option.some.injEq] at h;rw [hE.ty u j hu];simpa using h
theorem OK.run_und {t:TypeId} {d:TypeDesc} (h:E.desc t=some d) (w:World):(underlying t).run E.P w=.ok d w:=by
 simp [underlying,hE.und h]
theorem OK.run_info {t:TypeId} {i:TypeInfo} (h:E.ty.get t=some i) (w:World):(typeInfo t).run E.P w=.ok i w:=by
 simp [typeInfo,hE.ty t i h]
theorem OK.run_sz {t:TypeId} {i:TypeInfo} (h:E.ty.get t=some i) (w:World):(sizeOf t).run E.P w=.ok i.size w:=by
 simp [sizeOf,hE.run_info h]
omit hE in
theorem RT {t:TypeId} {d:TypeDesc} (h:E.desc t=some d):∃i,E.ty.get t=some i∧E.size t=i.size:=by
 unfold Env.desc at h;cases hi:E.ty.get t with
 |none=>simp [hi] at h
 |some i=>exact ⟨i,rfl,by simp [Env.size,hi]⟩
theorem OK.run_size {t:TypeId} {d:TypeDesc} (h:E.desc t=some d) (w:World):(sizeOf t).run E.P w=.ok (E.size t) w:=by
 obtain ⟨i,h1,h2⟩:=RT h;rw [h2];exact hE.run_sz h1 w
theorem OK.run_has {t:TypeId} (h:E.has t=true) (w:World):(sizeOf t).run E.P w=.ok (E.size t) w:=by
 unfold Env.has at h;cases hi:E.ty.get t with
 |none=>simp [hi] at h
 |some i=>rw [hE.run_sz hi];simp [Env.size,hi]
theorem OK.run_szIs {t:TypeId} {n:Nat} (h:E.szIs t n=true) (w:World):(sizeOf t).run E.P w=.ok n w:=by
 unfold Env.szIs at h;cases hi:E.ty.get t with
 |none=>simp [hi] at h
 |some i=>simp only [hi] at h;rw [hE.run_sz hi,Aq h]
theorem OK.run_isAgg {t:TypeId} {d:TypeDesc} (h:E.desc t=some d) (w:World):(isAgg t).run E.P w=.ok (Fy d) w:=by
 simp only [isAgg,Sem.run_bind,hE.run_und h,Result.andThen_ok];cases d<;>simp [Fy]
omit hE in
theorem E2 {t:TypeId} {z:AV} (h:E.zero t=some z):∃i v,E.ty.get t=some i∧i.zero=some v∧ofValue v=some z:=by
 unfold Env.zero at h;cases hi:E.ty.get t with
 |none=>simp [hi] at h
 |some i=>
  simp only [hi] at h;cases hz:i.zero with
  |none=>simp [hz] at h
  |some v=>simp only [hz] at h;exact ⟨i,v,rfl,hz,h⟩
omit hE in
theorem Ip (ρ:Ren) {v:Value} {a:AV} (h:AM v=some a):VR ρ a v:=by
 cases v with
 |bool b=>simp [AM] at h;subst h;exact .bool b
 |int k n=>simp [AM] at h;subst h;exact .int k n
 |string s=>simp only [AM,Option.some.injEq] at h;subst h;exact .str s
 |pointer p=>cases p<;>simp [AM] at h;subst h;exact .ptr0
 |slice p l c=>
  cases p with
  |some a=>simp [AM] at h
  |none=>cases l with
   |succ n=>simp [AM] at h
   |zero=>cases c with
    |succ n=>simp [AM] at h
    |zero=>simp [AM] at h;subst h;exact .slice0
 |map r=>cases r<;>simp [AM] at h;subst h;exact .map0
 |nilFunc=>simp [AM] at h;subst h;exact .nilFunc
 |nilIface=>simp [AM] at h;subst h;exact .nilIface
 |_=>simp [AM] at h
omit hE in
theorem Ma (ρ:Ren):∀{l:List Value} {as:List AV},Cl l=some as→VL ρ as l:=by
 intro l
 induction l with
 |nil=>intro as h;simp [Cl] at h;subst h;exact VL.nil ρ
 |cons v r ih=>
  intro as h;simp only [Cl] at h;cases hv:AM v with
  |none=>simp [hv] at h
  |some a=>
   cases hr:Cl r with
   |none=>simp [hv,hr] at h
   |some as'=>simp only [hv,hr,Option.some.injEq] at h;subst h;exact VL.cons (Ip ρ hv) (ih hr)
omit hE in
theorem Ay (ρ:Ren) {v:Value} {a:AV} (h:ofValue v=some a):VR ρ a v:=by
 cases v with
 |agg c=>
  simp only [ofValue] at h;cases hc:Cl c.toList with
  |none=>simp [hc] at h
  |some l=>
   simp only [hc,Option.some.injEq] at h;subst h;have:=Ma ρ hc;exact .agg l c.toList this.1 this.2
 |_=>exact Ip ρ (by simpa [ofValue] using h)
omit hE in
theorem VR.cells {ρ:Ren} {a:AV} {v:Value} (h:VR ρ a v) (ht:a≠.top):VL ρ a.cells v.cells.toList:=by
 cases h with
 |top v=>exact absurd rfl ht
 |agg l l' h1 h2=>exact ⟨h1,h2⟩
 |bool b=>exact VL.cons (.bool b) (VL.nil ρ)
 |int k n=>exact VL.cons (.int k n) (VL.nil ρ)
 |str s=>exact VL.cons (.str s) (VL.nil ρ)
 |ptr0=>exact VL.cons .ptr0 (VL.nil ρ)
 |ptr b off base h=>exact VL.cons (.ptr b off base h) (VL.nil ρ)
 |slice0=>exact VL.cons .slice0 (VL.nil ρ)
 |slice b off n es cap base h hc hz=>exact VL.cons (.slice b off n es cap base h hc hz) (VL.nil ρ)
 |sliceEnd b off es a=>exact VL.cons (.sliceEnd b off es a) (VL.nil ρ)
 |map0=>exact VL.cons .map0 (VL.nil ρ)
 |map b base h=>exact VL.cons (.map b base h) (VL.nil ρ)
 |func fn fn' f c f' c' h h1 h2 h3 h4=>exact VL.cons (.func fn fn' f c f' c' h h1 h2 h3 h4) (VL.nil ρ)
 |nilFunc=>exact VL.cons .nilFunc (VL.nil ρ)
 |iface t a v h=>exact VL.cons (.iface t a v h) (VL.nil ρ)
 |nilIface=>exact VL.cons .nilIface (VL.nil ρ)
 |tuple l l' h1 h2=>exact VL.cons (.tuple l l' h1 h2) (VL.nil ρ)
 |sb pos e=>exact VL.cons (.sb pos e) (VL.nil ρ)
 |si k e=>exact VL.cons (.si k e) (VL.nil ρ)
 |ss i=>exact VL.cons (.ss i) (VL.nil ρ)
 |dat e x a n c h=>exact VL.cons (.dat e x a n c h) (VL.nil ρ)
 |dptr e x i off b o n cap ks h hk h0 hi ho=>exact VL.cons (.dptr e x i off b o n cap ks h hk h0 hi ho) (VL.nil ρ)
 |asl b es n nl cap base h h0 hc hz hn=>exact VL.cons (.asl b es n nl cap base h h0 hc hz hn) (VL.nil ρ)
 |aslEnd b es n nl a h0 hn=>exact VL.cons (.aslEnd b es n nl a h0 hn) (VL.nil ρ)
 |eslc nl a hn=>exact VL.cons (.eslc nl a hn) (VL.nil ρ)
 |aptr b es i off base h h0=>exact VL.cons (.aptr b es i off base h h0) (VL.nil ρ)
 |nmap b nl base h hn=>exact VL.cons (.nmap b nl base h hn) (VL.nil ρ)
 |nmap0 b nl hn=>exact VL.cons (.nmap0 b nl hn) (VL.nil ρ)
 |stamp b base h=>exact VL.cons (.stamp b base h) (VL.nil ρ)
 |glob g off=>exact VL.cons (.glob g off) (VL.nil ρ)
theorem OK.run_zero {t:TypeId} {z:AV} (ρ:Ren) (h:E.zero t=some z) (w:World):∃v,(zeroValue t).run E.P w=.ok v w∧ofValue v=some z:=by
 obtain ⟨i,v,h1,h2,h3⟩:=E2 h;exact ⟨v,by simp [zeroValue,hE.run_info h1,h2],h3⟩
theorem OK.run_part {ρ:Ren} {t:TypeId} {cs:List AV} {cs':List Value} {off:Nat} {a:AV} (h:B6 E t cs off=some a) (hc:VL ρ cs cs') (w:World) :
  ∃v,(part t cs'.toArray off).run E.P w=.ok v w∧VR ρ a v:=by
 unfold B6 at h;cases hd:E.desc t with
 |none=>simp [hd] at h
 |some d=>
  simp only [hd] at h;unfold part;simp only [Sem.run_bind,hE.run_isAgg hd,Result.andThen_ok];cases hag:Fy d with
  |true=>
   simp only [hag,Option.some.injEq] at h;subst h;simp only [if_true,Sem.run_bind,hE.run_size hd,Result.andThen_ok,Sem.run_pure];refine ⟨_,rfl,?_⟩
   have e:cs'.toArray.extract off (off+E.size t)=((cs'.drop off).take (E.size t)).toArray:=by
    simp [List.extract_toArray]
   rw [e];exact .agg _ _ ((hc.drop off).take _).1 ((hc.drop off).take _).2
  |false=>
   simp only [hag] at h;obtain ⟨v,hv,hr⟩:=hc.get h;simp only [Bool.false_eq_true,if_false,List.getElem?_toArray,hv];exact ⟨v,rfl,hr⟩
end
end Go.AE

