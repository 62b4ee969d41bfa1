/- What is proved here: an evaluator of the model's steps that the kernel can run, and that whatever it answers is what the model does (part 1 of 7: Ae, AeRel, AeOps1, AeOps2). Conditions: those that each theorem states; they hold of no one program. -/
import GoSem.Step
import Derived.Calls
import Derived.Laws.Sem
set_option linter.unusedVariables false
set_option linter.unusedSectionVars false
set_option linter.unusedSimpArgs false
namespace Go.AE
abbrev C2:=@Option.some.injEq
abbrev E1:=@Go.Result.andThen_ok
abbrev F0:=@Option.some_ne_none
abbrev F2:=@List.getD_eq_getElem?_getD
abbrev F4:=@Bool.and_eq_true
abbrev F9:=@Go.Sem.run_bind
abbrev Id:=@List.getElem?_eq_some_iff
abbrev IqQ:=@Nat.le_refl
abbrev LE:=@Go.Sem.run_pure
abbrev L1:=@Array.getD_eq_getD_getElem?
abbrev L2:=@Nat.eq_of_beq_eq_true
abbrev No:=@List.getElem?_cons_zero
abbrev R2:=@List.getElem?_append_left
abbrev Ts:=@List.getElem?_append_right
abbrev ei:=@Bool.false_eq_true
abbrev eq:=@List.getElem?_cons_succ
abbrev gg:=@Nat.lt_or_ge
abbrev gk:=@List.mem_cons
abbrev hH:=@Nat.not_lt_zero
abbrev hP:=@Nat.le_of_ble_eq_true
abbrev hS:=@Prod.mk.injEq
abbrev ie:=@List.eq_nil_of_length_eq_zero
abbrev iv:=@Nat.mul_le_mul_right
abbrev kp:=@List.length_cons
abbrev k0:=@decide_eq_false
abbrev la:=@List.length_append
abbrev ll:=@decide_eq_true_eq
abbrev lp:=@cond_false
abbrev lv:=@Array.getElem?_toList
abbrev l0:=@List.getElem?_drop
abbrev l8:=@Nat.le_trans
abbrev n0:=@Nat.add_zero
abbrev oj:=@decide_eq_true
abbrev pc:=@Nat.zero_add
abbrev pi:=@List.getElem?_take
abbrev pl:=@Option.map_some
abbrev pv:=@Array.getElem?_setIfInBounds_ne
abbrev qs:=@cond_true
abbrev q0:=@Nat.add_mul
abbrev rc:=@List.mem_of_getElem?
abbrev sd:=@List.getElem?_map
abbrev sf:=@List.getElem?_toArray
abbrev s0:=@List.getElem?_eq_none
abbrev tl:=@decide_eq_false_iff_not
abbrev ud:=@List.getElem_of_mem
abbrev ue:=@List.mem_append
abbrev vv:=@List.mem_singleton
abbrev vx:=@List.getElem?_eq_getElem
abbrev vy:=@Bool.or_eq_true
abbrev ws:=@if_false
abbrev y0:=@Int.eq_ofNat_of_zero_le
abbrev Ad7:=@Array.getElem?_append_left
abbrev Ad8:=@List.mem_cons_of_mem
abbrev Ad9:=@List.map_cons
abbrev Aea:=@Nat.add_assoc
abbrev Aeb:=@List.length_nil
abbrev Aec:=@Nat.zero_le
abbrev Aed:=@Bool.not_eq_true'
abbrev Aee:=@Go.run_newObj
abbrev Aef:=@List.mem_cons_self
abbrev Aeg:=@Int.le_refl
abbrev Aeh:=@Nat.add_sub_cancel_left
abbrev Aei:=@List.getElem_mem
abbrev Aej:=@List.getElem?_range
abbrev Aek:=@List.append_nil
abbrev Ael:=@List.drop_eq_getElem_cons
abbrev Aem:=@List.mem_append_right
abbrev Aen:=@Option.getD_some
abbrev Aeo:=@List.append_assoc
abbrev Aep:=@Int.toNat_natCast
inductive T (α:Type) where
 |nil
 |node (v:Option α) (l r:T α)
 deriving Inhabited
def T.get0 {t:Type}:T t→Nat→Option t
 |.nil,_=>none
 |.node v l r,i=>
  match Nat.beq i 0 with
  |true=>v
  |false=>match Nat.beq (i%2) 1 with
   |true=>l.get0 (i/2)
   |false=>r.get0 (i/2-1)
def T.setF {I:Type}:Nat→T I→Nat→Option I→T I
 |0,t,_,_=>t
 |f+1,.nil,i,x=>
  match Nat.beq i 0 with
  |true=>.node x .nil .nil
  |false=>match Nat.beq (i%2) 1 with
   |true=>.node none (T.setF f .nil (i/2) x) .nil
   |false=>.node none .nil (T.setF f .nil (i/2-1) x)
 |f+1,.node v l r,i,x=>
  match Nat.beq i 0 with
  |true=>.node x l r
  |false=>match Nat.beq (i%2) 1 with
   |true=>.node v (T.setF f l (i/2) x) r
   |false=>.node v l (T.setF f r (i/2-1) x)
structure Sel (α:Type) where
 f:T α→Option α
structure Upd (α:Type) where
 f:Option α→T α→T α
def T.val {l:Type} (t:T l):Option l:=T.casesOn (motive:=fun _=>Option l) t none (fun v _ _=>v)
def T.putV {I:Type} (x:Option I) (t:T I):T I:=T.casesOn (motive:=fun _=>T I) t (.node x .nil .nil) (fun _ l r=>.node x l r)
def Yg {a:Type} (F:Nat):Nat→Sel a:=Nat.rec (motive:=fun _=>Nat→Sel a) (fun _=>⟨fun _=>none⟩)
 (fun _ ih m=>Nat.casesOn (motive:=fun _=>Sel a) (Nat.div m 2)
  (Nat.casesOn (motive:=fun _=>Sel a) (Nat.mod m 2)
   ⟨fun t=>T.casesOn (motive:=fun _=>Option a) t none (fun _ l _=>T.val l)⟩
   (fun _=>⟨fun t=>T.casesOn (motive:=fun _=>Option a) t none (fun _ _ r=>T.val r)⟩))
  (fun k=>Nat.casesOn (motive:=fun _=>Sel a) (Nat.mod m 2)
   ⟨fun t=>T.casesOn (motive:=fun _=>Option a) t none (fun _ l _=>(ih k).f l)⟩
   (fun _=>⟨fun t=>T.casesOn (motive:=fun _=>Option a) t none (fun _ _ r=>(ih k).f r)⟩))) F
def L5 {a:Type} (F:Nat):Nat→Upd a:=Nat.rec (motive:=fun _=>Nat→Upd a) (fun _=>⟨fun _ t=>t⟩)
 (fun _ ih m=>Nat.casesOn (motive:=fun _=>Upd a) (Nat.div m 2)
  (Nat.casesOn (motive:=fun _=>Upd a) (Nat.mod m 2)
   ⟨fun x t=>T.casesOn (motive:=fun _=>T a) t (.node none (T.putV x .nil) .nil) (fun v l r=>.node v (T.putV x l) r)⟩
   (fun _=>⟨fun x t=>T.casesOn (motive:=fun _=>T a) t (.node none .nil (T.putV x .nil)) (fun v l r=>.node v l (T.putV x r))⟩))
  (fun k=>Nat.casesOn (motive:=fun _=>Upd a) (Nat.mod m 2)
   ⟨fun x t=>T.casesOn (motive:=fun _=>T a) t (.node none ((ih k).f x .nil) .nil) (fun v l r=>.node v ((ih k).f x l) r)⟩
   (fun _=>⟨fun x t=>T.casesOn (motive:=fun _=>T a) t (.node none .nil ((ih k).f x .nil)) (fun v l r=>.node v l ((ih k).f x r))⟩))) F
def Z6 {a:Type} (m:Nat):Sel a:=Bool.casesOn (motive:=fun _=>Sel a) (Nat.ble m 9223372036854775807) ⟨fun t=>T.get0 t (m+1)⟩ (Yg 64 m)
def ZZ {a:Type} (m:Nat):Upd a:=Bool.casesOn (motive:=fun _=>Upd a) (Nat.ble m 9223372036854775807) ⟨fun x t=>T.setF (m+2) t (m+1) x⟩ (L5 64 m)
def T.get {l:Type} (t:T l) (i:Nat):Option l:=Nat.casesOn (motive:=fun _=>Option l) i (T.val t) (fun m=>(Z6 m).f t)
def T.put {l:Type} (t:T l) (i:Nat) (x:Option l):T l:=Nat.casesOn (motive:=fun _=>T l) i (T.putV x t) (fun m=>(ZZ m).f x t)
def T.set {l:Type} (t:T l) (i:Nat) (x:l):T l:=t.put i (some x)
def T.del {l:Type} (t:T l) (i:Nat):T l:=t.put i none
def T.ofListFrom {l:Type}:List l→Nat→T l→T l
 |[],_,t=>t
 |x::r,i,t=>T.ofListFrom r (i+1) (t.set i x)
def T.ofList {r:Type} (l:List r):T r:=T.ofListFrom l 0 .nil
def T.range {l:Type} (t:T l) (i:Nat):Nat→Option (List l)
 |0=>some []
 |n+1=>match t.get i with
  |some x=>match t.range (i+1) n with
   |some r=>some (x::r)
   |none=>none
  |none=>none
inductive D where
 |bool (b:Bool)
 |int (n:Int)
 |str (s:ByteArray)
 |slc (nl:Bool) (rows:List D)
 |row (cells:List D)
 deriving Inhabited
def D.toInt:D→Int
 |.int n=>n
 |_=>0
def D.toBool:D→Bool
 |.bool b=>b
 |_=>false
def D.toStr:D→ByteArray
 |.str s=>s
 |_=>.empty
def D.rows:D→List D
 |.slc _ l=>l
 |_=>[]
def D.cells:D→List D
 |.row l=>l
 |_=>[]
def D.isNil:D→Bool
 |.slc b _=>b
 |_=>false
inductive Kd where
 |int (k:IntKind)
 |bool
 |str
 |slice (e:TypeId)
 deriving DecidableEq,Inhabited
inductive SE where
 |c (n:Int)
 |var (i:Nat)
 |lenS (a:SE)
 |lenL (a:SE)
 |arith (op:BinOp) (k:IntKind) (a b:SE)
 |conv (k:IntKind) (a:SE)
 |lss (a b:SE)
 |eql (a b:SE)
 |eqS (a:SE) (l b:Nat)
 |eqSS (a b:SE)
 |isNil (a:SE)
 |bc (b:Bool)
 |neg (a:SE)
 |and (a b:SE)
 |nilIs (a b:SE)
 |strc (l b:Nat)
 |strAt (a i:SE)
 |strCat (a b:SE)
 |strSub (a lo hi:SE)
 |cell (a i:SE) (j:Nat)
 |sel (a:SE) (j:Nat)
 |nilL
 |emptyL
 |snoc (a r:SE)
 |upd (a i:SE) (j:Nat) (x:SE)
 |rep (n r:SE)
 |cat (a b:SE)
 |sub (a lo hi:SE)
 |rnil
 |rcons (x r:SE)
 |app (f:Nat) (x:SE)
 |bytes (a:SE)
 |ofBytes (a:SE)
 |mIdx (ks:List Kd) (a k:SE)
 |rmv (a i:SE)
 deriving Inhabited
abbrev SB:=SE
inductive AV where
 |top
 |bool (b:Bool)
 |int (k:IntKind) (n:Int)
 |str (len bits:Nat)
 |ptr0
 |ptr (b off:Nat)
 |slice0
 |slice (b off len es:Nat)
 |map0
 |map (b:Nat)
 |func (fn:Fn) (first captured:List AV)
 |nilFunc
 |iface (t:TypeId) (v:AV)
 |nilIface
 |agg (cells:List AV)
 |tuple (vs:List AV)
 |sb (pos:Bool) (e:SB)
 |si (k:IntKind) (e:SE)
 |ss (x:SE)
 |dat (e:TypeId) (x:SE)
 |dptr (e:TypeId) (x i:SE) (off:Nat)
 |asl (b es:Nat) (n nl:SE)
 |eslc (nl:SE)
 |aptr (b es:Nat) (i:SE) (off:Nat)
 |nmap (b:Nat) (nl:SE)
 |stamp (b:Nat)
 |glob (g off:Nat)
 |fsl (b off n es:Nat)
 deriving Inhabited
def AV.undef:AV:=.tuple []
def AB:List UInt8→Nat
 |[]=>0
 |b::r=>b.toNat+256*AB r
def AV.isTop:AV→Bool
 |.top=>true
 |_=>false
def AV.cells:AV→List AV
 |.agg l=>l
 |v=>[v]
def A2:Value→Option AV
 |.bool b=>some (.bool b)
 |.int k n=>some (.int k n)
 |.string s=>some (.str s.data.toList.length (AB s.data.toList))
 |.pointer none=>some .ptr0
 |.slice none 0 0=>some .slice0
 |.map none=>some .map0
 |.nilFunc=>some .nilFunc
 |.nilIface=>some .nilIface
 |_=>none
def C0:List Value→Option (List AV)
 |[]=>some []
 |v::r=>match A2 v,C0 r with
  |some a,some as=>some (a::as)
  |_,_=>none
def ofValue:Value→Option AV
 |.agg c=>match C0 c.toList with
  |some l=>some (.agg l)
  |none=>none
 |v=>A2 v
structure AD where
 fn:Option Fn
 coll:Nat
 captured:List AV
 args:List AV
 deriving Inhabited
structure AA where
 key:AV
 val:AV
 born:Nat
 deriving Inhabited
inductive Am where
 |cells (n:Nat) (c:T AV)
 |arr (e:TypeId) (x:SE)
 |hole (e:TypeId) (x i:SE) (j:Nat) (a:AV)
 |map (es:List AA) (clock:Nat)
 |dmap (kt vt:TypeId) (x:SE)
 |loop (st:LoopState) (pending:Option Code) (fn:FuncId) (nt:Nat) (tmps:T AV) (params:List Tmp) (assign body:Code) (defers:Nat)
 |deferred (ds:Option (List AD))
 |mapIter (m:Option Nat) (since:Nat) (seen:List Nat) (last:Nat)
 |dmapS (kt vt:TypeId) (x n:SE) (b:Nat)
 |strIter (l b pos:Nat)
 deriving Inhabited
structure Aa where
 blk:T Am
 nx:Nat
 log:List Nat
 deriving Inhabited
inductive HJ where
 |run
 |ret
 |panic (chain:List (AV×Bool))
 deriving Inhabited
inductive AI where
 |code (c:Code)
 |inBlock (id:Nat)
 |inLoop (body:Code)
 |inScope (body:Code)
 |ops (all:Array Oper) (rest:List Oper)
 |inRange (l:Nat)
 |endRange (l:Nat)
 |beginRound
 |dead
 |rest
 deriving Inhabited
structure AF where
 fn:FuncId
 nt:Nat
 tmps:T AV
 todo:List AI
 defers:List AD
 mode:HJ
 kind:CallKind
 round:Option Nat
 deriving Inhabited
structure AS where
 fr:AF
 cs:List AF
 h:Aa
 deriving Inhabited
structure Orc where
 f:FuncId
 args:List AV
 part:T Am
 nx:Nat
 ok:Bool
 v:AV
 out:T Am
 nx':Nat
 wr:List Nat
 deriving Inhabited
structure Sm where
 f:FuncId
 nv:Nat
 args:List AV
 pre:List (Option Am)
 facts:List (SB×Bool)
 res:AV
 post:List (Option Am)
 ok:Bool:=true
 deriving Inhabited
structure Env where
 P:Program
 ty:T TypeInfo
 fn:T Func
 orc:List Orc
 sms:List Sm
 gl:T (List AV):=.nil
 ox:T (List Orc):=.nil
 deriving Inhabited
class AC where
 tab:T (List AV)
def e9 (e:Orc) (t:T (List Orc)):T (List Orc):=match t.get e.f with
 |some l=>t.set e.f (e::l)
 |none=>t.set e.f [e]
def Xn:List Orc→T (List Orc)
 |[]=>.nil
 |e::r=>e9 e (Xn r)
def Env.ofS [r:AC] (P:Program) (l:List Orc) (m:List Sm):Env:={P,ty:=.ofList P.types.toList,fn:=.ofList P.funcs.toList,orc:=l,sms:=m,gl:=r.tab,ox:=Xn l}
def Env.ofO [r:AC] (P:Program) (l:List Orc):Env:=Env.ofS P l []
def Env.of [l:AC] (P:Program):Env:=Env.ofO P []
inductive Ask where
 |enter (f:FuncId) (args:List AV)
 |round (l:Nat) (args:List AV)
 deriving Inhabited
def SE.same:SE→SE→Bool
 |.c n,.c m=>n==m
 |.var i,.var j=>Nat.beq i j
 |.lenS a,.lenS b=>a.same b
 |.lenL a,.lenL b=>a.same b
 |.arith op k a b,.arith al I r t=>decide (op=al)&&decide (k=I)&&a.same r&&b.same t
 |.conv k a,.conv I r=>decide (k=I)&&a.same r
 |.lss a b,.lss r t=>a.same r&&b.same t
 |.eql a b,.eql r t=>a.same r&&b.same t
 |.eqS a l b,.eqS r l' t=>a.same r&&Nat.beq l l'&&Nat.beq b t
 |.eqSS a b,.eqSS r t=>a.same r&&b.same t
 |.isNil a,.isNil b=>a.same b
 |.bc a,.bc b=>a==b
 |.neg a,.neg b=>a.same b
 |.and a b,.and r t=>a.same r&&b.same t
 |.nilIs a b,.nilIs r t=>a.same r&&b.same t
 |.strc l b,.strc l' t=>Nat.beq l l'&&Nat.beq b t
 |.strAt a b,.strAt r t=>a.same r&&b.same t
 |.strCat a b,.strCat r t=>a.same r&&b.same t
 |.strSub a b x,.strSub r t J=>a.same r&&b.same t&&x.same J
 |.cell a b j,.cell r t j'=>a.same r&&b.same t&&Nat.beq j j'
 |.sel a j,.sel r j'=>a.same r&&Nat.beq j j'
 |.nilL,.nilL=>true
 |.emptyL,.emptyL=>true
 |.snoc a b,.snoc r t=>a.same r&&b.same t
 |.upd a b j x,.upd r t j' J=>a.same r&&b.same t&&Nat.beq j j'&&x.same J
 |.rep a b,.rep r t=>a.same r&&b.same t
 |.cat a b,.cat r t=>a.same r&&b.same t
 |.sub a b x,.sub r t J=>a.same r&&b.same t&&x.same J
 |.rnil,.rnil=>true
 |.rcons a b,.rcons r t=>a.same r&&b.same t
 |.app f a,.app f' r=>Nat.beq f f'&&a.same r
 |.bytes a,.bytes b=>a.same b
 |.ofBytes a,.ofBytes b=>a.same b
 |.mIdx ks a k,.mIdx an r I=>decide (ks=an)&&a.same r&&k.same I
 |.rmv a i,.rmv r i'=>a.same r&&i.same i'
 |_,_=>false
def ic:Fn→Fn→Bool
 |.func f,.func g=>Nat.beq f g
 |_,_=>false
mutual
def By:AV→AV→Bool
 |.top,.top=>true
 |.bool a,.bool b=>a==b
 |.int k a,.int i b=>decide (k=i)&&a==b
 |.str l a,.str h b=>Nat.beq l h&&Nat.beq a b
 |.ptr0,.ptr0=>true
 |.ptr b o,.ptr g j=>Nat.beq b g&&Nat.beq o j
 |.slice0,.slice0=>true
 |.slice b o n e,.slice g j q d=>Nat.beq b g&&Nat.beq o j&&Nat.beq n q&&Nat.beq e d
 |.map0,.map0=>true
 |.map b,.map g=>Nat.beq b g
 |.func fn f c,.func r x y=>ic fn r&&HK f x&&HK c y
 |.nilFunc,.nilFunc=>true
 |.iface t v,.iface s z=>Nat.beq t s&&By v z
 |.nilIface,.nilIface=>true
 |.agg l,.agg h=>HK l h
 |.tuple l,.tuple h=>HK l h
 |.sb p e,.sb A d=>p==A&&e.same d
 |.si k e,.si i d=>decide (k=i)&&e.same d
 |.ss e,.ss d=>e.same d
 |.dat t e,.dat s d=>Nat.beq t s&&e.same d
 |.asl b B n nl,.asl g u q w=>Nat.beq b g&&Nat.beq B u&&n.same q&&nl.same w
 |.eslc e,.eslc d=>e.same d
 |.nmap b e,.nmap g d=>Nat.beq b g&&e.same d
 |_,_=>false
termination_by structural a=>a
def HK:List AV→List AV→Bool
 |[],[]=>true
 |a::l,b::m=>By a b&&HK l m
 |_,_=>false
termination_by structural l=>l
end
def eqO {c:Type} (d:c→c→Bool):Option c→Option c→Bool
 |none,none=>true
 |some a,some b=>d a b
 |_,_=>false
def eqT {a:Type} (b:a→a→Bool):T a→T a→Bool
 |.nil,.nil=>true
 |.node v l r,.node c d e=>eqO b v c&&eqT b l d&&eqT b r e
 |_,_=>false
def WX:List AA→List AA→Bool
 |[],[]=>true
 |a::l,b::m=>By a.key b.key&&By a.val b.val&&Nat.beq a.born b.born&&WX l m
 |_,_=>false
def Vu:Am→Am→Bool
 |.cells n c,.cells m d=>Nat.beq n m&&eqT By c d
 |.map g k,.map a b=>Nat.beq k b&&WX g a
 |.arr e x,.arr h f=>Nat.beq e h&&x.same f
 |.dmap k v x,.dmap b i f=>Nat.beq k b&&Nat.beq v i&&x.same f
 |_,_=>false
def Nu:T Am→T Am→Bool
 |.nil,_=>true
 |.node v l r,.node a b c=>(match v with
   |none=>true
   |some x=>(match a with
    |some y=>Vu x y
    |none=>false))&&Nu l b&&Nu r c
 |.node _ _ _,.nil=>false
def Mj (b:Nat):List Nat→Bool
 |[]=>false
 |c::r=>Nat.beq b c||Mj b r
def W1 (nx:Nat) (wr:List Nat):List Nat→Bool
 |[]=>true
 |b::r=>(Nat.ble nx b||Mj b wr)&&W1 nx wr r
def lf {a:Type} (x:a):T a:=.node (some x) .nil .nil
def nd {a:Type} (x:a) (l r:T a):T a:=.node (some x) l r
def no {a:Type} (l r:T a):T a:=.node none l r
def Env.desc (E:Env) (t:TypeId):Option TypeDesc:=
 match E.ty.get t with
 |some i=>match i.desc with
  |.named _ u=>match E.ty.get u with
   |some j=>some j.desc
   |none=>none
  |d=>some d
 |none=>none
def Env.size (E:Env) (t:TypeId):Nat:=match E.ty.get t with|some i=>i.size|none=>0
def Env.szIs (E:Env) (t:TypeId) (n:Nat):Bool:=match E.ty.get t with|some i=>Nat.beq i.size n|none=>false
def Env.has (E:Env) (t:TypeId):Bool:=match E.ty.get t with|some _=>true|none=>false
def Env.zero (E:Env) (t:TypeId):Option AV:=
 match E.ty.get t with
 |some i=>match i.zero with
  |some v=>ofValue v
  |none=>none
 |none=>none
def EK (a:TypeId→Nat→Bool) (rec_:TypeId→Option (List Kd)):List Field→Nat→Option (List Kd)
 |[],_=>some []
 |f::r,off=>match Nat.beq f.offset off,rec_ f.type with
  |true,some ks=>match a f.type ks.length,EK a rec_ r (off+ks.length) with
   |true,some l=>some (ks++l)
   |_,_=>none
  |_,_=>none
def QG:Nat→List Kd→List Kd
 |0,_=>[]
 |n+1,ks=>ks++QG n ks
def JY (a:Bool) (b:TypeId→Nat→Bool) (rec_:TypeId→Option (List Kd)):Option TypeDesc→Option (List Kd)
 |some (.int k)=>some [.int k]
 |some .bool=>some [.bool]
 |some .string=>some [.str]
 |some (.slice e)=>some [.slice e]
 |some (.struct fs)=>EK b rec_ fs.toList 0
 |some (.array n e)=>match a,rec_ e with
  |true,some ks=>match Nat.blt (n*ks.length) 200 with
   |true=>some (QG n ks)
   |false=>none
  |_,_=>none
 |_=>none
def DZ (b:Bool) (desc:TypeId→Option TypeDesc) (a:TypeId→Nat→Bool):Nat→TypeId→Option (List Kd)
 |0,_=>none
 |n+1,t=>match JY b a (DZ b desc a n) (desc t) with
  |some l=>match a t l.length with
   |true=>some l
   |false=>none
  |none=>none
def Env.kinds (E:Env) (t:TypeId):Option (List Kd):=DZ true E.desc E.szIs 20 t
def Env.kinds0 (E:Env) (t:TypeId):Option (List Kd):=DZ false E.desc E.szIs 20 t
inductive Res where
 |val (v:AV) (h:Aa)
 |enter (f:FuncId) (args:List AV) (h:Aa)
 |round (l:Nat) (args:List AV) (h:Aa)
 |defer (d:AD) (h:Aa)
 |recover (h:Aa)
 |panic (v:AV) (h:Aa)
 |bad (why:String)
 deriving Inhabited
def Ak (tmps:T AV):Operand→AV
 |.tmp t=>match tmps.get t with
  |some v=>v
  |none=>.top
 |.const v=>match ofValue v with
  |some a=>a
  |none=>.top
 |.func f=>.func (.func f) [] []
 |.global g=>.glob g 0
def Aa.new (h:Aa) (b:Am):Aa:={blk:=h.blk.set h.nx b,nx:=h.nx+1,log:=h.log}
def Aa.put (h:Aa) (r:Nat) (b:Am):Aa:={blk:=h.blk.set r b,nx:=h.nx,log:=r::h.log}
def Aa.strike (h:Aa) (r:Nat):Aa:={blk:=h.blk.del r,nx:=h.nx,log:=r::h.log}
def Aa.stampN (h:Aa):Aa:={blk:=h.blk.del h.nx,nx:=h.nx+1,log:=h.log}
def Bx (h:Aa) (l:List AV):Aa:=h.new (.cells l.length (.ofList l))
def CZ (h:Aa) (b off n:Nat):Option (List AV):=
 match h.blk.get b with
 |some (.cells a c)=>match Nat.ble (off+n) a with
  |true=>c.range off n
  |false=>none
 |_=>none
def Fh:T AV→Nat→List AV→T AV
 |c,_,[]=>c
 |c,off,v::r=>Fh (c.set off v) (off+1) r
def AV.one:AV→Bool
 |.agg _=>false
 |.tuple _=>false
 |.top=>false
 |_=>true
def Ez:List AV→Bool
 |[]=>true
 |v::r=>match v.one with
  |true=>Ez r
  |false=>false
def storeN (h:Aa) (b off:Nat) (l:List AV):Option Aa:=
 match h.blk.get b with
 |some (.cells n c)=>
  match Nat.ble (off+l.length) n&&Ez l with
  |true=>some (h.put b (.cells n (Fh c off l)))
  |false=>none
 |_=>none
def Fd:TypeDesc→Bool
 |.struct _=>true
 |.array _ _=>true
 |_=>false
def AW:List AV→Nat→List AV→List AV
 |l,_,[]=>l
 |[],_,_=>[]
 |x::l,0,v::r=>v::AW l 0 r
 |x::l,off+1,r=>x::AW l off r
def Fy (a:Nat→Option (Nat×Nat)):List AV→List (Nat×AV)→Option (List AV)
 |cells,[]=>some cells
 |cells,(i,v)::rest=>
  match a i with
  |none=>none
  |some (off,size)=>
   match Nat.beq v.cells.length size&&Nat.ble (off+size) cells.length && !v.isTop with
   |true=>Fy a (AW cells off v.cells) rest
   |false=>none
def Dw (z:List AV):Nat→List AV
 |0=>[]
 |n+1=>z++Dw z n
def CC (E:Env) (t:TypeId) (cs:List AV) (off:Nat):Option AV:=
 match E.desc t with
 |some d=>match Fd d with
  |true=>some (.agg ((cs.drop off).take (E.size t)))
  |false=>cs[off]?
 |none=>none
def strEq (l b a c:Nat):Bool:=Nat.beq l a&&Nat.beq b c
def D6:Nat→Nat→Nat→Nat→Nat→Bool
 |0,_,_,_,_=>false
 |f+1,e,a,g,b=>
  match g with
  |0=>false
  |c+1=>match e with
   |0=>true
   |d+1=>
    match Nat.blt (a%256) (b%256) with
    |true=>true
    |false=>match Nat.beq (a%256) (b%256) with
     |true=>D6 f d (a/256) c (b/256)
     |false=>false
def eqFields (E:Env) (c:TypeId→AV→AV→Option Bool) (d e:List AV):List Field→Option Bool
 |[]=>some true
 |f::r=>
  match f.name == "_" with
  |true=>none
  |false=>
   match CC E f.type d f.offset,CC E f.type e f.offset with
   |some a,some b=>match c f.type a b with
    |some true=>eqFields E c d e r
    |o=>o
   |_,_=>none
def I5 (E:Env) (c:TypeId→AV→AV→Option Bool) (e:TypeId) (n:Nat) (d f:List AV):Nat→Nat→Option Bool
 |0,_=>some true
 |k+1,i=>
  match CC E e d (i*n),CC E e f (i*n) with
  |some a,some b=>match c e a b with
   |some true=>I5 E c e n d f k (i+1)
   |o=>o
  |_,_=>none
def aeq (E:Env):Nat→TypeId→AV→AV→Option Bool
 |0,_,_,_=>none
 |d+1,t,x,y=>
  match E.desc t,x,y with
  |some .bool,.bool a,.bool b=>some (a==b)
  |some (.int _),.int k a,.int k' b=>match decide (k=k') with|true=>some (a==b)|false=>none
  |some .string,.str l a,.str h b=>some (strEq l a h b)
  |some (.pointer _),.ptr0,.ptr0=>some true
  |some (.pointer _),.ptr0,.ptr _ _=>some false
  |some (.pointer _),.ptr _ _,.ptr0=>some false
  |some (.interface _),.nilIface,.nilIface=>some true
  |some (.interface _),.nilIface,.iface _ _=>some false
  |some (.interface _),.iface _ _,.nilIface=>some false
  |some (.interface _),.iface tx j,.iface ty m=>
   match Nat.beq tx ty with
   |false=>some false
   |true=>match E.ty.get tx with
    |some i=>match i.comparable with
     |true=>aeq E d tx j m
     |false=>none
    |none=>none
  |some (.struct c),.agg f,.agg g=>match E.P.stoodInHeld t with
   |true=>none
   |false=>eqFields E (aeq E d) f g c.toList
  |some (.array len e),.agg f,.agg g=>match E.has e with
   |true=>I5 E (aeq E d) e (E.size e) f g len 0
   |false=>none
  |some (.slice _),.slice0,.slice0=>some true
  |some (.slice _),.slice0,.slice ..=>some false
  |some (.slice _),.slice ..,.slice0=>some false
  |some (.map _ _),.map0,.map0=>some true
  |some (.map _ _),.map0,.map _=>some false
  |some (.map _ _),.map _,.map0=>some false
  |some (.func ..),.nilFunc,.nilFunc=>some true
  |some (.func ..),.nilFunc,.func ..=>some false
  |some (.func ..),.func ..,.nilFunc=>some false
  |_,_,_=>none
def bits (k:IntKind) (x:Int):Nat:=(x%(2^k.bits:Int)).toNat
def CS (c:BinOp) (k:IntKind) (a b:Int):Option AV:=
 match c with
 |.add=>some (.int k (k.wrap (a+b)))
 |.sub=>some (.int k (k.wrap (a-b)))
 |.mul=>some (.int k (k.wrap (a*b)))
 |.quo=>match b==0 with|true=>none|false=>some (.int k (k.wrap (a.tdiv b)))
 |.rem=>match b==0 with|true=>none|false=>some (.int k (a.tmod b))
 |.and=>some (.int k (k.wrap (Nat.land (bits k a) (bits k b):Nat)))
 |.or=>some (.int k (k.wrap (Nat.lor (bits k a) (bits k b):Nat)))
 |.xor=>some (.int k (k.wrap (Nat.xor (bits k a) (bits k b):Nat)))
 |.eql=>some (.bool (a==b))
 |.neq=>some (.bool (a != b))
 |.lss=>some (.bool (a<b))
 |.leq=>some (.bool (a≤b))
 |.gtr=>some (.bool (a>b))
 |.geq=>some (.bool (a≥b))
 |.shl=>match decide (b<0) with|true=>none|false=>some (.int k (k.wrap (a*2^min b.toNat k.bits)))
 |.shr=>match decide (b<0) with|true=>none|false=>some (.int k (a.fdiv (2^min b.toNat k.bits)))
 |_=>none
structure Val where
 d:Nat→D
 fn:Nat→D→D
def C9:Nat→Nat→List UInt8
 |0,_=>[]
 |n+1,b=>UInt8.ofNat (b%256)::C9 n (b/256)
def D.strEq (a b:D):Bool:=AE.strEq a.toStr.data.toList.length (AB a.toStr.data.toList) b.toStr.data.toList.length (AB b.toStr.data.toList)
def Ea:List Kd→List D→List D→Bool
 |[],_,_=>true
 |.int _::ks,a::l,b::m=>(a.toInt==b.toInt)&&Ea ks l m
 |.bool::ks,a::l,b::m=>(a.toBool==b.toBool)&&Ea ks l m
 |.str::ks,a::l,b::m=>D.strEq a b&&Ea ks l m
 |_,_,_=>false
def Ff (ks:List Kd) (k:List D):List D→Nat→Int
 |[],_=>-1
 |r::a,i=>match Ea ks r.cells k with
  |true=>i
  |false=>Ff ks k a (i+1)
def Ab (V:Val):SE→D
 |.c n=>.int n
 |.var i=>V.d i
 |.lenS a=>.int ((Ab V a).toStr.data.toList.length:Nat)
 |.lenL a=>.int ((Ab V a).rows.length:Nat)
 |.arith e k a b=>.int (match CS e k (Ab V a).toInt (Ab V b).toInt with
  |some (.int _ n)=>n
  |_=>0)
 |.conv k a=>.int (k.wrap (Ab V a).toInt)
 |.lss a b=>.bool (decide ((Ab V a).toInt<(Ab V b).toInt))
 |.eql a b=>.bool ((Ab V a).toInt==(Ab V b).toInt)
 |.eqS a l b=>.bool (strEq (Ab V a).toStr.data.toList.length (AB (Ab V a).toStr.data.toList) l b)
 |.eqSS a b=>.bool (D.strEq (Ab V a) (Ab V b))
 |.isNil a=>.bool (Ab V a).isNil
 |.bc b=>.bool b
 |.neg a=>.bool (!(Ab V a).toBool)
 |.and a b=>.bool ((Ab V a).toBool&&(Ab V b).toBool)
 |.nilIs a b=>.slc (Ab V b).toBool (Ab V a).rows
 |.strc l b=>.str ⟨(C9 l b).toArray⟩
 |.strAt a i=>.int (((Ab V a).toStr.data.toList[(Ab V i).toInt.toNat]?).getD 0).toNat
 |.strCat a b=>.str ((Ab V a).toStr++(Ab V b).toStr)
 |.strSub a lo hi=>.str ((Ab V a).toStr.extract (Ab V lo).toInt.toNat (Ab V hi).toInt.toNat)
 |.cell a i j=>((Ab V a).rows.getD (Ab V i).toInt.toNat default).cells.getD j default
 |.sel a j=>(Ab V a).cells.getD j default
 |.nilL=>.slc true []
 |.emptyL=>.slc false []
 |.snoc a r=>.slc false ((Ab V a).rows++[Ab V r])
 |.upd a i j x=>.slc (Ab V a).isNil ((Ab V a).rows.modify (Ab V i).toInt.toNat fun r=>.row (r.cells.set j (Ab V x)))
 |.rep n r=>.slc false (List.replicate (Ab V n).toInt.toNat (Ab V r))
 |.cat a b=>.slc ((Ab V a).isNil&&(Ab V b).rows.isEmpty) ((Ab V a).rows++(Ab V b).rows)
 |.sub a lo hi=>.slc (Ab V a).isNil (((Ab V a).rows.drop (Ab V lo).toInt.toNat).take ((Ab V hi).toInt.toNat-(Ab V lo).toInt.toNat))
 |.rnil=>.row []
 |.rcons x r=>.row (Ab V x::(Ab V r).cells)
 |.app f x=>V.fn f (Ab V x)
 |.bytes a=>.slc false ((Ab V a).toStr.data.toList.map fun b=>.row [.int b.toNat])
 |.ofBytes a=>.str ⟨((Ab V a).rows.map fun r=>UInt8.ofNat (r.cells.getD 0 default).toInt.toNat).toArray⟩
 |.mIdx ks a k=>.int (Ff ks (Ab V k).cells (Ab V a).rows 0)
 |.rmv a i=>.slc (Ab V a).isNil ((Ab V a).rows.eraseIdx (Ab V i).toInt.toNat)
def Ac (V:Val) (e:SE):Int:=(Ab V e).toInt
def Ah (V:Val) (e:SB):Bool:=(Ab V e).toBool
def AT (V:Val) (e:SE):ByteArray:=(Ab V e).toStr
class Facts where
 facts:List (SB×Bool)
class Vals where
 V:Val
 K:TypeId→Option (List Kd)
 R:List Item
 hR:∀d b r a k,R≠.call d b r a::k
class Unk extends Facts,Vals where
 ok:∀e b,(e,b)∈facts→Ah V e=b
def R8:Option Int→Option Int→Option Int
 |some a,some b=>match decide (a≤b) with|true=>some b|false=>some a
 |some a,none=>some a
 |none,b=>b
def W3:Option Int→Option Int→Option Int
 |some a,some b=>match decide (a≤b) with|true=>some a|false=>some b
 |some a,none=>some a
 |none,b=>b
def UB (e:SE):SB×Bool→Option Int
 | (.lss a (.c m),false)=>match a.same e with|true=>some m|false=>none
 | (.lss (.c m) a,true)=>match a.same e with|true=>some (m+1)|false=>none
 | (.eql a (.c m),true)=>match a.same e with|true=>some m|false=>none
 |_=>none
def Tc (e:SE):SB×Bool→Option Int
 | (.lss a (.c m),true)=>match a.same e with|true=>some (m-1)|false=>none
 | (.lss (.c m) a,false)=>match a.same e with|true=>some m|false=>none
 | (.eql a (.c m),true)=>match a.same e with|true=>some m|false=>none
 |_=>none
def CK (e:SE):List (SB×Bool)→Option Int
 |[]=>none
 |p::r=>R8 (UB e p) (CK e r)
def CI (e:SE):List (SB×Bool)→Option Int
 |[]=>none
 |p::r=>W3 (Tc e p) (CI e r)
def Ca:SE→SE
 |.upd a _ _ _=>Ca a
 |.nilIs a _=>Ca a
 |x=>x
def LC (n y:SE):Bool:=match n with
 |.lenL x=>(Ca x).same (Ca y)
 |_=>false
def Hc:SE→Option Nat
 |.nilL=>some 0
 |.emptyL=>some 0
 |.snoc a _=>match Hc a with
  |some n=>some (n+1)
  |none=>none
 |.nilIs a _=>Hc a
 |_=>none
def Qe (k:IntKind) (lo hi:Option Int):Bool:=match lo,hi with
 |some l,some h=>decide (k.min≤l)&&decide (h≤k.max)
 |_,_=>false
def R4 (x:SE):List (SB×Bool)→Option (Nat×Nat)
 |[]=>none
 | (e,b)::r=>match e with
  |.eqS a l c=>match b&&a.same x with
   |true=>some (l,c)
   |false=>R4 x r
  |_=>R4 x r
def bnd (F:List (SB×Bool)):SE→Option Int×Option Int
 |.c n=>(some n,some n)
 |.lenS i=>match R4 i F with
  |some (l,_)=>(some (l:Int),some (l:Int))
  |none=>(R8 (some 0) (CK (.lenS i) F),CI (.lenS i) F)
 |.lenL i=>match Hc i with
  |some n=>(some (n:Int),some (n:Int))
  |none=>(R8 (some 0) (CK (.lenL i) F),CI (.lenL i) F)
 |.conv k a=>match bnd F a with
  | (lo,hi)=>match Qe k lo hi with
   |true=>(R8 lo (CK (.conv k a) F),W3 hi (CI (.conv k a) F))
   |false=>(R8 (some k.min) (CK (.conv k a) F),W3 (some k.max) (CI (.conv k a) F))
 |.arith d k a b=>match d,b with
  |.rem,.c m=>match bnd F a with
   | (some l,_)=>match decide (0≤l)&&decide (0<m) with
    |true=>(R8 (some 0) (CK (.arith d k a b) F),W3 (some (m-1)) (CI (.arith d k a b) F))
    |false=>(CK (.arith d k a b) F,CI (.arith d k a b) F)
   |_=>(CK (.arith d k a b) F,CI (.arith d k a b) F)
  |_,_=>(CK (.arith d k a b) F,CI (.arith d k a b) F)
 |e=>(CK e F,CI e F)
def Jr (e:SB):List (SB×Bool)→Option Bool
 |[]=>none
 | (x,b)::r=>match e.same x with
  |true=>some b
  |false=>Jr e r
def ltO:Option Int→Option Int→Bool
 |some a,some b=>decide (a<b)
 |_,_=>false
def leO:Option Int→Option Int→Bool
 |some a,some b=>decide (a≤b)
 |_,_=>false
def PM (F:List (SB×Bool)) (e:SB):Option Bool:=
 match e with
  |.bc b=>some b
  |.lss a b=>match ltO (bnd F a).2 (bnd F b).1 with
   |true=>some true
   |false=>match leO (bnd F b).2 (bnd F a).1 with
    |true=>some false
    |false=>none
  |.eql a b=>match ltO (bnd F a).2 (bnd F b).1||ltO (bnd F b).2 (bnd F a).1 with
   |true=>some false
   |false=>match a.same b with
    |true=>some true
    |false=>none
  |_=>none
def Dy (F:List (SB×Bool)):SB→Option Bool
 |.neg a=>match Jr a F with
  |some b=>some (!b)
  |none=>match Dy F a with
   |some b=>some (!b)
   |none=>none
 |.and a b=>match (match Jr a F with
   |some c=>some c
   |none=>Dy F a) with
  |some false=>some false
  |some true=>(match Jr b F with
   |some c=>some c
   |none=>Dy F b)
  |none=>match (match Jr b F with
   |some c=>some c
   |none=>Dy F b) with
   |some false=>some false
   |_=>none
 |e=>PM F e
def AO (F:List (SB×Bool)) (e:SB):Option Bool:=
 match Jr e F with
 |some b=>some b
 |none=>Dy F e
def mkB [U:Facts] (pos:Bool) (e:SB):AV:=
 match AO U.facts e with
 |some b=>.bool (b==pos)
 |none=>.sb pos e
def mkI [U:Facts] (k:IntKind) (e:SE):AV:=
 match bnd U.facts e with
 | (some l,some h)=>match l==h with
  |true=>.int k l
  |false=>.si k e
 |_=>.si k e
def toI:AV→Option (IntKind×SE)
 |.int k n=>some (k,.c n)
 |.si k e=>some (k,e)
 |_=>none
def eA:SE→Bool
 |.c n=>!(n==0)
 |_=>false
def V1 [U:Facts] (b:SE):Bool:=eA b||(match AO U.facts (.eql b (.c 0)) with
 |some false=>true
 |_=>false)
def QS [U:Facts] (d:BinOp) (k:IntKind) (a b:SE):Option AV:=
 match AO U.facts (.lss b (.c 0)) with
 |some false=>match d with
  |.shl=>some (mkI k (.arith .shl k a b))
  |.shr=>some (mkI k (.arith .shr k a b))
  |_=>none
 |_=>none
def iq [U:Facts] (c:BinOp) (k:IntKind) (a b:SE):Option AV:=
 match c with
 |.add=>some (mkI k (.arith .add k a b))
 |.sub=>some (mkI k (.arith .sub k a b))
 |.mul=>some (mkI k (.arith .mul k a b))
 |.quo=>match V1 b with|true=>some (mkI k (.arith .quo k a b))|false=>none
 |.rem=>match V1 b with|true=>some (mkI k (.arith .rem k a b))|false=>none
 |.eql=>some (mkB true (.eql a b))
 |.neq=>some (mkB false (.eql a b))
 |.lss=>some (mkB true (.lss a b))
 |.leq=>some (mkB false (.lss b a))
 |.gtr=>some (mkB true (.lss b a))
 |.geq=>some (mkB false (.lss a b))
 |.shl=>QS .shl k a b
 |.shr=>QS .shr k a b
 |_=>none
def YW [Facts] (a:BinOp) (e:SB):Option AV:=
 match a with
 |.eql=>some (mkB true e)
 |.neq=>some (mkB false e)
 |_=>none
def gm [Facts] (d:BinOp) (x y:AV):Option AV:=
 match x,y with
 |.ss a,.ss c=>YW d (.eqSS a c)
 |.ss a,.str l b=>YW d (.eqS a l b)
 |.str l b,.ss a=>YW d (.eqS a l b)
 |_,_=>match toI x,toI y with
  |some (k,a),some (e,b)=>match decide (k=e) with
   |true=>iq d k a b
   |false=>QS d k a b
  |_,_=>none
def QR [U:Facts]:AV→Option (Bool ⊕ (Bool×SB))
 |.bool b=>some (.inl b)
 |.sb p e=>match AO U.facts e with
  |some c=>some (.inl (c==p))
  |none=>some (.inr (p,e))
 |_=>none
def bA:AV→Option SE
 |.map0=>some (.bc true)
 |.map _=>some (.bc false)
 |.nmap _ nl=>some nl
 |_=>none
def ZL [U:Facts] (v:AV):AV:=match v with
 |.nmap b nl=>match AO U.facts nl with
  |some true=>.map0
  |some false=>.map b
  |none=>.nmap b nl
 |v=>v
def dI:AV→Option SE
 |.slice0=>some (.bc true)
 |.slice _ _ _ _=>some (.bc false)
 |.dat _ x=>some (.isNil x)
 |.asl _ _ _ nl=>some nl
 |.eslc nl=>some nl
 |_=>none
def BP (a:BinOp) (p:Bool):Option Bool:=match a with
 |.eql=>some p
 |.neq=>some (!p)
 |_=>none
def eqV [Facts] (d:Option TypeDesc) (c:BinOp) (x y:AV):Option AV:=
 match d with
 |some .bool=>match QR x,QR y with
  |some (.inl a),some (.inl b)=>(BP c (a==b)).map .bool
  |some (.inr (p,e)),some (.inl b)=>(BP c (p==b)).map fun q=>.sb q e
  |some (.inl b),some (.inr (p,e))=>(BP c (p==b)).map fun q=>.sb q e
  |_,_=>none
 |some (.slice _)=>match x,y with
  |.slice0,_=>match dI y with
   |some e=>(BP c true).map fun q=>mkB q e
   |none=>none
  |_,.slice0=>match dI x with
   |some e=>(BP c true).map fun q=>mkB q e
   |none=>none
  |_,_=>none
 |some (.map _ _)=>match x,y with
  |.map0,_=>match bA y with
   |some e=>(BP c true).map fun q=>mkB q e
   |none=>none
  |_,.map0=>match bA x with
   |some e=>(BP c true).map fun q=>mkB q e
   |none=>none
  |_,_=>none
 |_=>none
def AV.isSym:AV→Bool
 |.sb ..=>true
 |.si ..=>true
 |.ss _=>true
 |.dat _ _=>true
 |.dptr _ _ _ _=>true
 |.asl _ _ _ _=>true
 |.eslc _=>true
 |.aptr _ _ _ _=>true
 |.nmap _ _=>true
 |.stamp _=>true
 |_=>false
def PC (d:BinOp) (l a c b:Nat):Option AV:=
 match d with
 |.add=>match Nat.ble (l+c) 4611686018427387904 with|true=>some (.str (l+c) (a+b*2^(8*l)))|false=>none
 |.eql=>some (.bool (strEq l a c b))
 |.neq=>some (.bool (!strEq l a c b))
 |.lss=>some (.bool (D6 (l+1) l a c b))
 |.leq=>some (.bool (D6 (l+1) l a c b||strEq l a c b))
 |.gtr=>some (.bool (!(D6 (l+1) l a c b||strEq l a c b)))
 |.geq=>some (.bool (!D6 (l+1) l a c b))
 |_=>none
def M5 (c:BinOp) (k:IntKind) (a b:Int):Option AV:=
 match decide (b<0) with
 |true=>none
 |false=>
  let n:=min b.toNat k.bits
  match c with
  |.shl=>some (.int k (k.wrap (a*2^n)))
  |.shr=>some (.int k (a.fdiv (2^n)))
  |_=>none
def TG (E:Env) (c:BinOp) (t:TypeId) (x y:AV):Option AV:=
 match x,y with
 |.int k a,.int k' b=>
  match c with
  |.shl=>M5 .shl k a b
  |.shr=>M5 .shr k a b
  |_=>match decide (k=k') with
   |true=>CS c k a b
   |false=>none
 |.str l a,.str d b=>PC c l a d b
 |.agg e,.agg f=>
  match E.P.eqGuardType E.P.depth t with
  |true=>none
  |false=>match c with
   |.eql=>(aeq E 10000 t x y).map .bool
   |.neq=>(aeq E 10000 t x y).map fun b=>.bool (!b)
   |_=>none
 |.nilIface,.nilIface=>none
 |_,_=>match c with
  |.eql=>(aeq E 10000 t x y).map .bool
  |.neq=>(aeq E 10000 t x y).map fun b=>.bool (!b)
  |_=>none
def unA (a:UnOp) (x:AV):Option AV:=
 match a,x with
 |.not,.sb pos e=>some (.sb (!pos) e)
 |.neg,.int k n=>some (.int k (k.wrap (0-n)))
 |.not,.bool b=>some (.bool !b)
 |_,_=>none
def unB [Facts] (a:UnOp) (x:AV):Option AV:=
 match a,x with
 |.neg,.si k e=>some (mkI k (.arith .sub k (.c 0) e))
 |_,_=>unA a x
def Hn:Nat→Nat→List AV
 |0,_=>[]
 |n+1,b=>.int .u8 (b%256:Nat)::Hn n (b/256)
def Vb [Facts] (E:Env) (a dst:TypeId) (x:AV) (h:Aa):Option (AV×Aa):=
 match E.desc a,E.desc dst,x with
 |some _,some (.int k),.int _ n=>some (.int k (k.wrap n),h)
 |some _,some (.int k),.si _ e=>some (mkI k (.conv k e),h)
 |some _,some .string,.ss i=>some (.ss i,h)
 |some _,some .string,.str l b=>some (.str l b,h)
 |some _,some (.slice e),.str l b=>
  match E.desc e with
  |some (.int .u8)=>some (.slice h.nx 0 l 1,h.new (.cells l (.ofList (Hn l b))))
  |_=>none
 |_,_,_=>none
def D3:AV→Option Nat
 |.int _ (.ofNat n)=>some n
 |_=>none
def D1 (x:Option AV) (a:Nat):Option Nat:=
 match x with
 |some v=>D3 v
 |none=>some a
def CG (n:Nat) (lo hi a:Option AV):Option (Nat×Nat):=
 match D1 a n with
 |none=>none
 |some m=>match D1 hi n,D1 lo 0 with
  |some h,some l=>match Nat.ble l h&&Nat.ble h m&&Nat.ble m n with
   |true=>some (l,h)
   |false=>none
  |_,_=>none
def RJ (a:Option AV) (n l b:Nat):Bool:=match a with
 |none=>false
 |some _=>match D1 a n with
  |some m=>Nat.beq m b&&Nat.blt l b
  |none=>false
def SK (E:Env) (t:TypeId) (x:AV) (lo hi d:Option AV) (h:Aa):Option AV:=
 match E.desc t,x with
 |some .string,.str l b=>
  match d with
  |some _=>none
  |none=>match CG l lo hi none with
   |some (a,c)=>some (.str (c-a) ((b/2^(8*a))%2^(8*(c-a))))
   |none=>none
 |some (.slice e),.slice0=>
  match CG 0 lo hi d,E.has e with
  |some _,true=>some .slice0
  |_,_=>none
 |some (.slice e),.slice b off len f=>
  match CG len lo hi d with
  |some (a,c)=>match E.szIs e f with
   |true=>match RJ d len a c with
    |true=>some (.fsl b (off+a*f) (c-a) f)
    |false=>some (.slice b (off+a*f) (c-a) f)
   |false=>none
  |none=>none
 |some (.array n e),.ptr b off=>
  match CG n lo hi d,E.has e,h.blk.get b with
  |some (a,c),true,some (.cells g _)=>match Nat.ble (off+n*E.size e) g with
   |true=>some (.slice b (off+a*E.size e) (c-a) (E.size e))
   |false=>none
  |_,_,_=>none
 |_,_=>none
def Ic (E:Env) (t:TypeId) (x i:AV):Option AV:=
 match E.desc t,x,D3 i with
 |some (.slice e),.slice b off len a,some n=>match Nat.blt n len&&E.szIs e a with
  |true=>some (.ptr b (off+n*a))
  |false=>none
 |some (.array len e),.ptr b off,some n=>match Nat.blt n len&&E.has e with
  |true=>some (.ptr b (off+n*E.size e))
  |false=>none
 |_,_,_=>none
def Ty (E:Env) (t:TypeId) (x i:AV):Option AV:=
 match E.desc t,x,D3 i with
 |some .string,.str l b,some n=>match Nat.blt n l with
  |true=>some (.int .u8 ((b/2^(8*n))%256:Nat))
  |false=>none
 |some (.array len e),.agg cs,some n=>match Nat.blt n len with
  |true=>CC E e cs (n*E.size e)
  |false=>none
 |_,_,_=>none
def HU (E:Env) (t:TypeId) (x:AV) (f:Nat):Option AV:=
 match E.desc t,x with
 |some (.struct fs),.ptr b off=>match fs.toList[f]? with
  |some a=>match E.size a.type with
   |0=>none
   |_=>some (.ptr b (off+a.offset))
  |none=>none
 |_,_=>none
def Pm (E:Env) (t:TypeId) (x:AV) (f:Nat):Option AV:=
 match E.desc t,x with
 |some (.struct fs),.agg cs=>match fs.toList[f]? with
  |some a=>CC E a.type cs a.offset
  |none=>none
 |_,_=>none
def OJ (E:Env) (t:TypeId) (x:AV) (h:Aa):Option AV:=
 match E.desc t,x with
 |some d,.ptr b off=>match Fd d with
  |true=>(CZ h b off (E.size t)).map .agg
  |false=>match h.blk.get b with
   |some (.cells a c)=>match Nat.blt off a with
    |true=>c.get off
    |false=>none
   |_=>none
 |_,_=>none
def JR (E:Env) (t:TypeId) (x v:AV) (h:Aa):Option Aa:=
 match x with
 |.ptr b off=>match E.szIs t v.cells.length with
  |true=>storeN h b off v.cells
  |false=>none
 |_=>none
def Pp (h:Aa) (a n:Nat):AV→Option (List AV)
 |.slice0=>some []
 |.slice b off _ c=>match Nat.beq a c with
  |true=>CZ h b off (n*a)
  |false=>none
 |.str l b=>match Nat.beq a 1 with
  |true=>some ((Hn l b).take n)
  |false=>none
 |_=>none
def Nn:AV→Option Nat
 |.slice0=>some 0
 |.slice _ _ n _=>some n
 |.str l _=>some l
 |_=>none
def CB (e:TypeInfo) (s:AV) (m:Nat) (a:List AV) (h:Aa):Option (AV×Aa):=
 match s with
 |.slice0=>match Nat.ble m 4611686018427387904&&Nat.ble (m*e.bytes) 140737488355328 with
  |false=>none
  |true=>match m with
   |0=>some (.slice0,h)
   |_=>some (.slice h.nx 0 m e.size,Bx h a)
 |.slice b off n d=>match Nat.beq e.size d&&Ez a&&Nat.ble (n+m) 4611686018427387904&&Nat.ble ((n+m)*e.bytes) 140737488355328 with
  |false=>none
  |true=>match m with
   |0=>some (.slice b off n d,h)
   |_=>match h.blk.get b with
    |some (.cells f c)=>match Nat.beq off 0&&Nat.beq (n*d) f with
     |true=>some (.slice h.nx 0 (n+m) d,(h.strike b).new (.cells (n*d+a.length) (Fh c (n*d) a)))
     |false=>match CZ h b off (n*d) with
      |none=>none
      |some olds=>some (.slice h.nx 0 (n+m) d,(h.strike b).new (.cells (n*d+a.length) (.ofList (olds++a))))
    |_=>none
 |.fsl b off n d=>match Nat.beq e.size d&&Nat.ble (n+m) 4611686018427387904&&Nat.ble ((n+m)*e.bytes) 140737488355328 with
  |false=>none
  |true=>match m with
   |0=>none
   |_=>match h.blk.get b with
    |some (.cells _ _)=>match CZ h b off (n*d) with
     |none=>none
     |some olds=>some (.slice h.nx 0 (n+m) d,h.new (.cells (n*d+a.length) (.ofList (olds++a))))
    |_=>none
 |_=>none
def Jg (E:Env) (t c:TypeId) (s x:AV) (h:Aa):Option (AV×Aa):=
 match E.desc t with
 |some (.slice e)=>match E.ty.get e with
  |none=>none
  |some a=>match E.zero e with
   |none=>none
   |some z=>match Nat.beq z.cells.length a.size with
    |false=>none
    |true=>match E.desc c with
     |some (.int _)=>match D3 x with
      |none=>none
      |some m=>match Nat.ble m 1048576&&Nat.ble (m*a.bytes) 140737488355328 with
       |true=>CB a s m (Dw z.cells m) h
       |false=>none
     |some (.slice _)=>match Nn x with
      |none=>none
      |some m=>match Pp h a.size m x with
       |none=>none
       |some b=>CB a s m b h
     |some .string=>match Nn x with
      |none=>none
      |some m=>match Pp h a.size m x with
       |none=>none
       |some b=>CB a s m b h
     |_=>none
 |_=>none
def ro (E:Env) (t:TypeId) (d x:AV) (h:Aa):Option (AV×Aa):=none
def Eo (E:Env) (t:TypeId) (k:AV):List AA→Nat→Option (Option (Nat×AV))
 |[],_=>some none
 |e::r,i=>match aeq E 10000 t k e.key with
  |some true=>some (some (i,e.val))
  |some false=>Eo E t k r (i+1)
  |none=>none
def Kk (E:Env) (ok:TypeId→AV→Bool) (cs:List AV):List Field→Bool
 |[]=>true
 |f::r=>match CC E f.type cs f.offset with
  |some a=>match ok f.type a with
   |true=>Kk E ok cs r
   |false=>false
  |none=>false
def Ma (E:Env) (ok:TypeId→AV→Bool) (e:TypeId) (cs:List AV):Nat→Nat→Bool
 |0,_=>true
 |k+1,i=>match CC E e cs (i*E.size e) with
  |some a=>match ok e a with
   |true=>Ma E ok e cs k (i+1)
   |false=>false
  |none=>false
def Co (E:Env):Nat→TypeId→AV→Bool
 |0,_,_=>false
 |d+1,t,v=>match E.desc t with
  |some (.int _)=>true
  |some .string=>true
  |some .bool=>true
  |some (.struct fs)=>match v with
   |.agg cs=>Kk E (Co E d) cs fs.toList
   |_=>false
  |some (.array n e)=>match v with
   |.agg cs=>match E.has e with
    |true=>Ma E (Co E d) e cs n 0
    |false=>false
   |_=>false
  |_=>false
def Nr (ok:Bool) (v:AV) (b:Bool):AV:=match ok with|true=>.tuple [v,.bool b]|false=>v
def Pu (E:Env) (t:TypeId) (m k:AV) (ok:Bool) (h:Aa):Option AV:=
 match E.desc t with
 |some (.map a b)=>
  match Co E 20 a k,E.zero b with
  |true,some z=>
   match m with
   |.map0=>some (Nr ok z false)
   |.map r=>match h.blk.get r with
    |some (.map es _)=>match Eo E a k es 0 with
     |some (some (_,v))=>some (Nr ok v true)
     |some none=>some (Nr ok z false)
     |none=>none
    |_=>none
   |_=>none
  |_,_=>none
 |_=>none
def SD:AV→AV→Bool
 |.bool a,.bool b=>match a,b with
  |true,true=>true
  |false,false=>true
  |_,_=>false
 |.int k a,.int c b=>match decide (k=c) with
  |true=>a==b
  |false=>false
 |.str l a,.str d b=>strEq l a d b
 |_,_=>false
def J4:List AV→List AV→Bool
 |[],[]=>true
 |a::l,b::m=>match SD a b with
  |true=>J4 l m
  |false=>false
 |_,_=>false
def GW:AV→AV→Bool
 |.agg l,.agg m=>J4 l m
 |a,b=>SD a b
def setVal:List AA→Nat→AV→AV→List AA
 |[],_,_,_=>[]
 |e::r,0,k,v=>{e with key:=k,val:=v}::r
 |e::r,i+1,k,v=>e::setVal r i k v
def JC (E:Env) (t:TypeId) (m k v:AV) (h:Aa):Option Aa:=
 match E.desc t with
 |some (.map c _)=>
  match Co E 20 c k with
  |true=>match m with
   |.map r=>match h.blk.get r with
    |some (.map b a)=>match Eo E c k b 0 with
     |some (some (i,_))=>match b[i]? with
      |some e=>match GW k e.key with
       |true=>some (h.put r (.map (setVal b i k v) a))
       |false=>none
      |none=>none
     |some none=>some (h.put r (.map (b++[{key:=k,val:=v,born:=a}]) (a+1)))
     |none=>none
    |_=>none
   |_=>none
  |false=>none
 |_=>none
def Lr (E:Env) (t:TypeId) (m k:AV) (h:Aa):Option Aa:=none
def Qf (E:Env) (t:TypeId) (m k:AV) (h:Aa):Option (AV×Aa):=
 match E.desc t with
 |some (.map c d)=>
  match Co E 20 c k,E.zero d with
  |true,some z=>match m with
   |.map r=>match h.blk.get r with
    |some (.map b a)=>match Eo E c k b 0 with
     |some (some (i,v))=>match b[i]? with
      |some e=>match GW k e.key with
       |true=>some (.tuple [v,.int .i64 e.born],h.put r (.map (setVal b i k e.val) a))
       |false=>none
      |none=>none
     |some none=>some (.tuple [z,.int .i64 a],(h.put r (.map (b++[{key:=k,val:=z,born:=a}]) (a+1))))
     |none=>none
    |_=>none
   |_=>none
  |_,_=>none
 |_=>none
def Dt:List AA→Nat→AV→Option (List AA)
 |[],_,_=>none
 |e::r,n,v=>match Nat.beq e.born n with
  |true=>some ({e with val:=v}::r)
  |false=>match Dt r n v with
   |some a=>some (e::a)
   |none=>none
def GN (m st v:AV) (h:Aa):Option Aa:=
 match m,D3 st with
 |.map r,some n=>match h.blk.get r with
  |some (.map c a)=>match Dt c n v with
   |some b=>some (h.put r (.map b a))
   |none=>none
  |_=>none
 |_,_=>none
def UD (E:Env) (t:TypeId) (x:AV) (h:Aa):Option (AV×Aa):=none
def ZB (it:AV) (a:Bool) (h:Aa):Option (AV×Aa):=none
def H4 (it:AV) (h:Aa):Option AV:=none
def kV [Facts] (E:Env) (t:TypeId) (x:AV) (h:Aa):Option AV:=
 match E.desc t,x with
 |some .string,.str l _=>some (.int .i64 l)
 |some .string,.ss i=>some (mkI .i64 (.lenS i))
 |some (.slice _),.dat _ x=>some (mkI .i64 (.lenL x))
 |some (.slice _),.asl _ _ n _=>some (mkI .i64 n)
 |some (.slice _),.eslc _=>some (.int .i64 0)
 |some (.array n _),_=>some (.int .i64 n)
 |some (.slice _),.slice0=>some (.int .i64 0)
 |some (.slice _),.slice _ _ n _=>some (.int .i64 n)
 |some (.map _ _),.map0=>some (.int .i64 0)
 |some (.map _ _),.map r=>match h.blk.get r with
  |some (.map a _)=>some (.int .i64 a.length)
  |some (.dmap _ _ x)=>some (mkI .i64 (.lenL x))
  |_=>none
 |_,_=>none
def JF (k:IntKind) (x:Int):List AV→Option AV
 |[]=>some (.int k x)
 |.int _ y::r=>JF k (if y>x then y else x) r
 |_=>none
def I4 (k:IntKind) (x:Int):List AV→Option AV
 |[]=>some (.int k x)
 |.int _ y::r=>I4 k (if y<x then y else x) r
 |_=>none
def Aax:List AV→Option AV
 |.int k x::r=>JF k x r
 |_=>none
def qX:List AV→Option AV
 |.int k x::r=>I4 k x r
 |_=>none
def ON [U:Facts] (k:IntKind):SE→List AV→Option AV
 |x,[]=>some (mkI k x)
 |x,y::r=>match toI y with
  |some (_,b)=>match AO U.facts (.lss x b) with
   |some true=>ON k b r
   |some false=>ON k x r
   |none=>none
  |none=>none
def OC [U:Facts] (k:IntKind):SE→List AV→Option AV
 |x,[]=>some (mkI k x)
 |x,y::r=>match toI y with
  |some (_,b)=>match AO U.facts (.lss b x) with
   |some true=>OC k b r
   |some false=>OC k x r
   |none=>none
  |none=>none
def Zr [Facts]:List AV→Option AV
 |y::r=>match toI y with
  |some (k,a)=>ON k a r
  |none=>none
 |[]=>none
def YC [Facts]:List AV→Option AV
 |y::r=>match toI y with
  |some (k,a)=>OC k a r
  |none=>none
 |[]=>none
def orA (a b:Option AV):Option AV:=match a with
 |some v=>some v
 |none=>b
def Nl [U:Facts] (e:SB):Bool:=match AO U.facts e with
 |some true=>true
 |_=>false
def WH [U:Facts] (e:SB):Bool:=match AO U.facts e with
 |some false=>true
 |_=>false
def inR [Facts] (i n:SE):Bool:=WH (.lss i (.c 0))&&Nl (.lss i n)
def Qr [Facts] (x i:SE) (j:Nat):Kd→AV
 |.int k=>match decide (k=.i64) with
  |true=>mkI k (.cell x i j)
  |false=>mkI k (.conv k (.cell x i j))
 |.bool=>mkB true (.cell x i j)
 |.str=>.ss (.cell x i j)
 |.slice e=>.dat e (.cell x i j)
def Hj [Facts] (x i:SE) (ks:List Kd):Nat→Nat→Option (List AV)
 |_,0=>some []
 |j,n+1=>match ks[j]?,Hj x i ks (j+1) n with
  |some k,some l=>some (Qr x i j k::l)
  |_,_=>none
def LB [Facts] (E:Env) (t:TypeId) (ks:List Kd) (y i:SE) (off:Nat):Option AV:=
 match E.desc t with
 |some d=>match Fd d with
  |true=>match Hj y i ks off (E.size t) with
   |some l=>some (.agg l)
   |none=>none
  |false=>match ks[off]? with
   |some k=>some (Qr y i off k)
   |none=>none
 |none=>none
def VJ [Facts] (E:Env) (t:TypeId) (x:AV) (h:Aa):Option AV:=
 match x with
 |.dptr e y i off=>match E.kinds e with
  |some ks=>LB E t ks y i off
  |none=>none
 |.aptr b c i off=>match h.blk.get b with
  |some (.arr e y)=>match E.kinds e with
   |some ks=>match Nat.beq c ks.length&&inR i (.lenL (Ca y)) with
    |true=>LB E t ks y i off
    |false=>none
   |none=>none
  |some (.hole e _ f j a)=>match E.kinds e,E.desc t with
   |some ks,some d=>match Nat.beq c ks.length&&Nat.beq off j&&i.same f && !Fd d with
    |true=>some a
    |false=>none
   |_,_=>none
  |_=>none
 |.glob g off=>match E.desc t with
  |some d=>match Fd d with
   |false=>match E.gl.get g with
    |some l=>l[off]?
    |none=>none
   |true=>none
  |none=>none
 |_=>OJ E t x h
def FP (E:Env) (t:TypeId) (x:AV) (f:Nat):Option AV:=
 match x with
 |.dptr e y i off=>match E.desc t,E.kinds e with
  |some (.struct fs),some ks=>match fs.toList[f]? with
   |some a=>match E.size a.type,Nat.blt (off+a.offset) ks.length with
    |_+1,true=>some (.dptr e y i (off+a.offset))
    |_,_=>none
   |none=>none
  |_,_=>none
 |.aptr b c i off=>match E.desc t with
  |some (.struct fs)=>match fs.toList[f]? with
   |some a=>match E.size a.type with
    |0=>none
    |_=>some (.aptr b c i (off+a.offset))
   |none=>none
  |_=>none
 |_=>HU E t x f
def LS [U:Facts]:AV→AV
 |.si k e=>match bnd U.facts e with
  | (some l,some h)=>match l==h with
   |true=>.int k l
   |false=>.si k e
  |_=>.si k e
 |x=>x
def Gf [Facts] (E:Env) (t:TypeId) (x i:AV):Option AV:=
 match x with
 |.dat c y=>match E.desc t,toI i with
  |some (.slice e),some (_,a)=>match E.kinds e with
   |some (_::_)=>match Nat.beq e c&&inR a (.lenL (Ca y)) with
    |true=>some (.dptr e y a 0)
    |false=>none
   |_=>none
  |_,_=>none
 |.asl b d n _=>match E.desc t,toI i with
  |some (.slice e),some (_,a)=>match E.szIs e d&&inR a n with
   |true=>some (.aptr b d a 0)
   |false=>none
  |_,_=>none
 |.aptr b d f off=>match E.desc t,D3 (LS i) with
  |some (.array len e),some n=>match Nat.blt n len&&E.has e with
   |true=>some (.aptr b d f (off+n*E.size e))
   |false=>none
  |_,_=>none
 |.dptr c y f off=>match E.desc t,D3 (LS i),E.kinds c with
  |some (.array len e),some n,some ks=>match Nat.blt n len&&E.has e&&Nat.blt (off+n*E.size e) ks.length with
   |true=>some (.dptr c y f (off+n*E.size e))
   |false=>none
  |_,_,_=>none
 |.glob g off=>match E.desc t,D3 i with
  |some (.array len e),some n=>match Nat.blt n len&&E.has e with
   |true=>some (.glob g (off+n*E.size e))
   |false=>none
  |_,_=>none
 |_=>Ic E t x (LS i)
def dH [U:Facts]:Kd→AV→Option SE
 |.int k,.int a n=>match decide (k=a)&&(decide (k=.i64)||(decide (k.min≤n)&&decide (n≤k.max))) with
  |true=>some (.c n)
  |false=>none
 |.int k,.si a e=>match decide (k=a)&&(decide (k=.i64)||Qe k (bnd U.facts e).1 (bnd U.facts e).2) with
  |true=>some e
  |false=>none
 |.bool,.bool b=>some (.bc b)
 |.bool,.sb pos e=>some (match pos with|true=>e|false=>.neg e)
 |.str,.str l b=>some (.strc l b)
 |.str,.ss x=>some x
 |.slice e,.dat d x=>match Nat.beq e d with
  |true=>some x
  |false=>none
 |.slice _,.slice0=>some .nilL
 |_,_=>none
def Mh [Facts]:List Kd→List AV→Option SE
 |[],[]=>some .rnil
 |k::ks,a::r=>match dH k a,Mh ks r with
  |some x,some y=>some (.rcons x y)
  |_,_=>none
 |_,_=>none
def DX [Facts] (ks:List Kd):Nat→SE→List AV→Option SE
 |0,y,[]=>some y
 |0,_,_::_=>none
 |n+1,y,l=>match Mh ks (l.take ks.length) with
  |some r=>DX ks n (.snoc y r) (l.drop ks.length)
  |none=>none
def Fc [Facts] (n y:SE):Bool:=LC n y||Nl (.eql n (.lenL y))
def O3 [Facts] (E:Env) (t:TypeId) (x i:AV):Option AV:=
 match x with
 |.ss y=>match E.desc t,toI i with
  |some .string,some (_,a)=>match inR a (.lenS y) with
   |true=>some (mkI .u8 (.strAt y a))
   |false=>none
  |_,_=>none
 |_=>Ty E t x (LS i)
def ij:Option TypeDesc→Bool
 |some (.int .u8)=>true
 |_=>false
def Uw:Option (List Kd)→Bool
 |some [.int .u8]=>true
 |_=>false
def UT [Facts] (E:Env) (a dst:TypeId) (x:AV) (h:Aa):Option (AV×Aa):=
 match x with
 |.ss y=>match E.desc dst with
  |some (.slice e)=>match ij (E.desc e)&&Uw (E.kinds e)&&(E.desc a).isSome with
   |true=>some (.asl h.nx 1 (.lenL (.bytes y)) (.bc false),h.new (.arr e (.bytes y)))
   |false=>none
  |_=>Vb E a dst x h
 |_=>Vb E a dst x h
def V2 [Facts] (e:TypeId) (ks:List Kd) (h:Aa):AV→Option (SE×SE×Option Nat)
 |.slice0=>some (.nilL,.bc true,none)
 |.eslc nl=>some (.nilL,nl,none)
 |.slice b off n a=>match Nat.beq a ks.length with
  |true=>match CZ h b off (n*a) with
   |some l=>match DX ks n .emptyL l with
    |some y=>some (y,.bc false,some b)
    |none=>none
   |none=>none
  |false=>none
 |.asl b a n nl=>match Nat.beq a ks.length,h.blk.get b with
  |true,some (.arr c y)=>match Nat.beq e c&&Fc n y with
   |true=>some (y,nl,some b)
   |false=>none
  |_,_=>none
 |_=>none
def bu [Facts] (e:TypeId) (ks:List Kd) (h:Aa) (y:SE):AV→Option (SE×SE)
 |.slice0=>some (y,.c 0)
 |.eslc _=>some (y,.c 0)
 |.dat d x=>match Nat.beq e d with
  |true=>some (.cat y x,.lenL x)
  |false=>none
 |.asl b a n _=>match Nat.beq a ks.length,h.blk.get b with
  |true,some (.arr d z)=>match Nat.beq e d&&Fc n z with
   |true=>some (.cat y z,.lenL z)
   |false=>none
  |_,_=>none
 |.slice b off n a=>match Nat.beq a ks.length with
  |true=>match CZ h b off (n*a) with
   |some l=>match DX ks n y l with
    |some f=>some (f,.c n)
    |none=>none
   |none=>none
  |false=>none
 |_=>none
def EM (h:Aa):Option Nat→Aa
 |some b=>h.strike b
 |none=>h
def IM [Facts] (E:Env) (t d:TypeId) (s x:AV) (h:Aa):Option (AV×Aa):=
 match s.isSym||x.isSym with
 |false=>Jg E t d s x h
 |true=>match E.desc t,E.desc d with
  |some (.slice e),some (.slice _)=>match E.ty.get e,E.kinds e,E.zero e with
   |some a,some ks,some z=>match Nat.beq ks.length a.size&&Nat.beq z.cells.length a.size&&Nat.ble a.bytes 1024 with
    |true=>match V2 e ks h s with
     |some (f,b,g)=>match bu e ks h f x with
      |some (y,m)=>match Nl (.lss (.lenL f) (.c 1073741824))&&Nl (.lss m (.c 1048576)) with
       |true=>some (.asl h.nx a.size (.lenL y) (.and b (.eql m (.c 0))),(EM h g).new (.arr e y))
       |false=>none
      |none=>none
     |none=>none
    |false=>none
   |_,_,_=>none
  |_,_=>none
def Da [Facts] (i:SE) (ks:List Kd):SE→Nat→List AV→Option SE
 |y,_,[]=>some y
 |y,j,a::r=>match ks[j]? with
  |some k=>match dH k a with
   |some x=>Da i ks (.upd y i j x) (j+1) r
   |none=>none
  |none=>none
def DW [Facts] (E:Env) (t:TypeId) (x v:AV) (h:Aa):Option Aa:=
 match x with
 |.aptr b a i off=>match h.blk.get b with
  |some (.arr e y)=>match E.kinds e with
   |some ks=>match Nat.beq a ks.length&&inR i (.lenL (Ca y))&&E.szIs t v.cells.length && !v.isTop with
    |true=>match Da i ks y off v.cells with
     |some c=>some (h.put b (.arr e c))
     |none=>none
    |false=>none
   |none=>none
  |_=>none
 |_=>JR E t x v h
def Kl [Facts] (E:Env) (kd:Kd) (a:AV) (h:Aa):AV×Aa:=
 match kd with
 |.slice e=>match a with
  |.asl b c n nl=>match h.blk.get b,E.kinds e with
   |some (.arr d x),some ks=>match Nat.beq e d&&Nat.beq c ks.length&&Fc n x with
    |true=>(.dat e (.nilIs x nl),h.strike b)
    |false=>(a,h)
   |_,_=>(a,h)
  |.eslc nl=>(.dat e (.nilIs .nilL nl),h)
  |.slice b off n c=>match E.kinds e with
   |some ks=>match Nat.beq c ks.length,CZ h b off (n*c) with
    |true,some l=>match DX ks n .emptyL l with
     |some y=>(.dat e y,h.strike b)
     |none=>(a,h)
    |_,_=>(a,h)
   |none=>(a,h)
  |_=>(a,h)
 |_=>(a,h)
def HA [Facts] (E:Env):List Kd→List AV→Aa→List AV×Aa
 |k::ks,a::l,h=>match Kl E k a h with
  | (b,c)=>match HA E ks l c with
   | (d,e)=>(b::d,e)
 |_,l,h=>(l,h)
def wP:Nat→List Kd→List Kd
 |0,_=>[]
 |n+1,ks=>ks++wP n ks
def Em [Facts] (E:Env) (ks:List Kd) (b:Nat) (h:Aa):Aa:=
 match h.blk.get b with
 |some (.cells n c)=>match c.range 0 n with
  |some l=>match HA E ks l h with
   | (a,h')=>match h'.blk.get b with
    |some (.cells m _)=>match Nat.beq m n&&Nat.beq a.length n with
     |true=>h'.put b (.cells n (.ofList a))
     |false=>h
    |_=>h
  |none=>h
 |_=>h
def H6 [Facts] (E:Env) (e:TypeId) (b:Nat) (h:Aa):Aa:=
 match h.blk.get b,E.kinds e with
 |some (.cells n _),some ks=>Em E (wP (n/ks.length) ks) b h
 |_,_=>h
def Oj:List AV→List Kd
 |[]=>[]
 |.dat e _::r=>.slice e::Oj r
 |_::r=>.bool::Oj r
def Fg:List Kd→Bool
 |[]=>false
 |.slice _::_=>true
 |_::r=>Fg r
def Gp [Facts] (E:Env) (e:TypeId) (a:AV) (h:Aa):Aa:=
 match a with
 |.slice b _ _ _=>match E.kinds e with
  |some ks=>match Fg ks with
   |true=>H6 E e b h
   |false=>h
  |none=>h
 |_=>h
def Zp [Facts] (E:Env) (t:TypeId) (b c:Nat) (i:SE) (off:Nat) (v:AV) (h:Aa):Option Aa:=
 match v with
 |.asl d _ _ _=>match h.blk.get b,h.blk.get d with
  |some (.arr e y),some (.arr f _)=>match E.kinds e,E.kinds f with
   |some ks,some a=>match Fg a&&Nat.beq c ks.length&&inR i (.lenL (Ca y))&&E.szIs t 1&&Nat.blt off ks.length with
    |true=>some (h.put b (.hole e y i off v))
    |false=>none
   |_,_=>none
  |_,_=>none
 |_=>none
def Kh [Facts] (E:Env) (b:Nat) (h:Aa):Aa:=
 match h.blk.get b with
 |some (.hole e y i j a)=>match E.kinds e with
  |some ks=>match ks[j]? with
   |some (.slice c)=>match Kl E (.slice c) a h with
    | (.dat t z,d)=>match d.blk.get b,Nat.beq t c with
     |some _,true=>d.put b (.arr e (.upd y i j z))
     |_,_=>h
    |_=>h
   |_=>h
  |none=>h
 |_=>h
def Jn [Facts] (E:Env) (t:TypeId) (x v:AV) (h:Aa):Option Aa:=
  match x with
  |.aptr b a i off=>match Zp E t b a i off v h with
   |some h'=>some h'
   |none=>match h.blk.get b with
    |some (.arr e _)=>match E.kinds e with
      |some ks=>match Fg ks with
        |true=>match v with
          |.agg l=>match HA E (ks.drop off) l h with
            | (c,h')=>DW E t x (.agg c) h'
          |_=>match Kl E (ks.getD off .bool) v h with
            | (d,h')=>DW E t x d h'
        |false=>DW E t x v h
      |none=>DW E t x v h
    |_=>DW E t x v h
  |_=>DW E t x v h
def JW [Facts] (E:Env) (t a:TypeId) (s x:AV) (h:Aa):Option (AV×Aa):=
 match s.isSym||x.isSym with
 |true=>match E.desc t with
  |some (.slice e)=>IM E t a s x (Gp E e x (Gp E e s h))
  |_=>IM E t a s x h
 |false=>IM E t a s x h
def Hz (d:SE):Option AV→Option SE
 |none=>some d
 |some v=>match toI v with
  |some (_,e)=>some e
  |none=>none
def inB [Facts] (l u n:SE):Bool:=WH (.lss l (.c 0))&&WH (.lss u l)&&WH (.lss n u)
def Qu [Facts] (E:Env) (t:TypeId) (x:AV) (lo hi:Option AV) (h:Aa):Option (AV×Aa):=
 match x with
 |.dat a y=>match E.desc t,Hz (.c 0) lo,Hz (.lenL y) hi with
  |some (.slice e),some l,some u=>match E.kinds e with
   |some ks=>match Nat.beq e a&&E.szIs e ks.length&&inB l u (.lenL y) with
    |true=>some (.dat e (.sub y l u),h)
    |false=>none
   |none=>none
  |_,_,_=>none
 |_=>none
def cu:SE→Bool
 |.c n=>n==0
 |_=>false
def sliceB [Facts] (E:Env) (t:TypeId) (x:AV) (lo hi g:Option AV) (h:Aa):Option (AV×Aa):=
 match x,g with
 |.dat _ _,none=>Qu E t x lo hi h
 |.ss y,none=>match E.desc t,Hz (.c 0) lo,Hz (.lenS y) hi with
  |some .string,some l,some u=>match inB l u (.lenS y) with
   |true=>some (.ss (.strSub y l u),h)
   |false=>none
  |_,_,_=>none
 |.asl b d n nl,none=>match E.desc t,h.blk.get b with
  |some (.slice e),some (.arr f y)=>match Nat.beq e f&&E.szIs e d&&Fc n y with
   |true=>match Hz (.c 0) lo,Hz (.lenL y) hi with
    |some l,some u=>match cu l with
     |true=>match inB (.c 0) u (.lenL y) with
      |true=>some (.asl b d (.lenL (.sub y (.c 0) u)) nl,h.put b (.arr f (.sub y (.c 0) u)))
      |false=>none
     |false=>match Kl E (.slice e) x h with
      | (i,h')=>Qu E t i lo hi h'
    |_,_=>none
   |false=>match Hz (.c 0) lo,hi,Hz n hi with
    |some l,some _,some u=>match Nat.beq e f&&(E.szIs e d&&(cu l&&(inB (.c 0) u n&&inB (.c 0) u (.lenL y)))) with
     |true=>some (.asl b d (.lenL (.sub y (.c 0) u)) nl,h.put b (.arr f (.sub y (.c 0) u)))
     |false=>none
    |_,_,_=>none
  |_,_=>none
 |_,_=>match SK E t x (lo.map LS) (hi.map LS) (g.map LS) h with
  |some a=>some (a,h)
  |none=>none
def BQ (h:Aa) (a:String):Option AV→Res
 |some v=>.val v h
 |none=>.bad a
def Df (a:String):Option (AV×Aa)→Res
 |some (v,h)=>.val v h
 |none=>.bad a
def Ew (a:String):Option Aa→Res
 |some h=>.val .undef h
 |none=>.bad a
def TO (E:Env) (t:TypeId) (x:AV) (h:Aa):Option Aa:=none
def Sp:AV→Option SE
 |.ss e=>some e
 |.str l b=>some (.strc l b)
 |_=>none
def Mm:AV→Option SE
 |.sb true e=>some (.and e (.bc true))
 |.sb false e=>some (.neg e)
 |.bool b=>some (.bc b)
 |_=>none
def dR (a b:SE):SE:=match b with
 |.bc true=>a
 |_=>.and a b
def kw (a b:SE):SE:=match a,b with
 |.c n,.c m=>.bc (n==m)
 |_,_=>.eql a b
def gS (a b:SE):SE:=.neg (.and (.neg (.and a b)) (.neg (.and (.neg a) (.neg b))))
def Fv (E:Env) (c:TypeId→AV→AV→Option SE) (d g:List AV):List Field→Option SE
 |[]=>some (.bc true)
 |f::r=>match f.name == "_" with
  |true=>none
  |false=>match CC E f.type d f.offset,CC E f.type g f.offset with
   |some a,some b=>match c f.type a b,Fv E c d g r with
    |some e,some h=>some (dR e h)
    |_,_=>none
   |_,_=>none
def GU (E:Env) (c:TypeId→AV→AV→Option SE) (e:TypeId) (n:Nat) (d f:List AV):Nat→Nat→Option SE
 |0,_=>some (.bc true)
 |k+1,i=>match CC E e d (i*n),CC E e f (i*n) with
  |some a,some b=>match c e a b,GU E c e n d f k (i+1) with
   |some x,some y=>some (dR x y)
   |_,_=>none
  |_,_=>none
def Ih (E:Env):Nat→TypeId→AV→AV→Option SE
 |0,_,_,_=>none
 |d+1,t,x,y=>match E.desc t with
  |some .bool=>match Mm x,Mm y with
   |some a,some b=>some (gS a b)
   |_,_=>none
  |some (.int _)=>match toI x,toI y with
   |some (k,a),some (h,b)=>match decide (k=h) with
    |true=>some (kw a b)
    |false=>none
   |_,_=>none
  |some .string=>match Sp x,Sp y with
   |some a,some b=>some (.eqSS a b)
   |_,_=>none
  |some (.struct c)=>match x,y with
   |.agg f,.agg g=>match E.P.stoodInHeld t with
    |true=>none
    |false=>Fv E (Ih E d) f g c.toList
   |_,_=>none
  |some (.array len e)=>match x,y with
   |.agg f,.agg g=>match E.has e with
    |true=>GU E (Ih E d) e (E.size e) f g len 0
    |false=>none
   |_,_=>none
  |_=>none
def XS [Facts] (E:Env) (c:BinOp) (t:TypeId) (a b:AV):Option AV:=
 match a,b with
 |.agg _,.agg _=>match E.P.eqGuardType E.P.depth t with
  |true=>none
  |false=>match Ih E 10000 t a b with
   |some e=>match BP c true with
    |some q=>some (mkB q e)
    |none=>none
   |none=>none
 |_,_=>none
def eqK [U:Facts] (E:Env) (t:TypeId) (k key:AV):Option Bool:=match aeq E 10000 t k key with
 |some b=>some b
 |none=>match Ih E 10000 t k key with
  |some e=>AO U.facts e
  |none=>none
def E7 [Facts] (E:Env) (t:TypeId) (k:AV):List AA→Nat→Option (Option (Nat×AV))
 |[],_=>some none
 |e::r,i=>match eqK E t k e.key with
  |some true=>some (some (i,e.val))
  |some false=>E7 E t k r (i+1)
  |none=>none
def NQ:List AV→AV
 |[a]=>a
 |l=>.agg l
def HN (ks:List Kd) (a:AV):Bool:=match ks,a with
 |[_],.agg _=>false
 |[_],.top=>false
 |[_],_=>true
 |_,.agg _=>true
 |_,_=>false
def Kj:List Kd→Bool
 |[]=>true
 |.slice _::_=>false
 |_::r=>Kj r
def pU (j:Nat):Kd→AV
 |.int k=>.si k (.var j)
 |.bool=>.sb true (.var j)
 |.str=>.ss (.var j)
 |.slice _=>.top
def NK:Nat→List Kd→List AV
 |_,[]=>[]
 |j,k::r=>pU j k::NK (j+1) r
def LJ:SE→List SE
 |.and a b=>LJ a++LJ b
 |.bc true=>[]
 |e=>[e]
def iZ (i j:Nat):Kd→SE
 |.int _=>.eql (.var i) (.var j)
 |.bool=>gS (.and (.var i) (.bc true)) (.and (.var j) (.bc true))
 |.str=>.eqSS (.var i) (.var j)
 |.slice _=>.bc false
def UU:Nat→Nat→List Kd→List SE
 |_,_,[]=>[]
 |i,j,k::r=>iZ i j k::UU (i+1) (j+1) r
def Ll:List SE→List SE→Bool
 |[],[]=>true
 |a::l,b::m=>a.same b&&Ll l m
 |_,_=>false
def Hq (E:Env) (a:TypeId) (ks:List Kd):Bool:=
 match Ih E 10000 a (NQ (NK ks.length ks)) (NQ (NK 0 ks)) with
 |some e=>Kj ks&&Ll (LJ e) (UU ks.length 0 ks)
 |none=>false
def MI (E:Env) (t:TypeId):Option (TypeId×TypeId×List Kd×List Kd):=
 match E.desc t with
 |some (.map b d)=>match E.kinds b,E.kinds d with
  |some a,some c=>match Hq E b a with
   |true=>some (b,d,a,c)
   |false=>none
  |_,_=>none
 |_=>none
def Xj [Facts] (a b:List Kd) (k v:AV):Option SE:=
 match HN a k&&HN b v&&Nat.beq k.cells.length a.length with
 |true=>Mh (a++b) (k.cells++v.cells)
 |false=>none
def Nf [Facts] (a b:List Kd):SE→List AA→Option SE
 |y,[]=>some y
 |y,e::r=>match Xj a b e.key e.val with
  |some x=>Nf a b (.snoc y x) r
  |none=>none
def Ww [Facts] (a:List Kd) (k:AV):Option SE:=
 match HN a k with
 |true=>Mh a k.cells
 |false=>none
def P1 (k:AV):Bool:=k.cells.any AV.isSym
def Zm (lo:Nat):List AA→Nat→Bool
 |[],_=>true
 |e::r,c=>Nat.ble lo e.born&&Nat.blt e.born c&&Zm (e.born+1) r c
def ay [Facts] (g h:TypeId) (b c:List Kd):Option Am→Option SE
 |some (.dmap d e x)=>match Nat.beq g d&&Nat.beq h e with
  |true=>some x
  |false=>none
 |some (.map f a)=>match Zm 0 f a with
  |true=>Nf b c .emptyL f
  |false=>none
 |_=>none
def Pf [U:Facts] (E:Env) (t:TypeId) (m k:AV) (ok:Bool) (h:Aa):Option AV:=
 match MI E t,m with
 |some (f,g,a,b),.map r=>match h.blk.get r with
  |some (.dmap d e x)=>match Nat.beq f d&&Nat.beq g e&&Co E 20 f k,E.zero g,Ww a k with
   |true,some z,some i=>match AO U.facts (.lss (.mIdx a x i) (.c 0)) with
    |some true=>some (Nr ok z false)
    |some false=>match Hj x (.mIdx a x i) (a++b) a.length b.length with
     |some l=>some (Nr ok (NQ l) true)
     |none=>none
    |none=>none
   |_,_,_=>none
  |_=>none
 |_,_=>none
def Lv [Facts] (E:Env) (t:TypeId) (m k:AV) (ok:Bool) (h:Aa):Option AV:=
 match Pu E t m k ok h with
 |some r=>some r
 |none=>match Pf E t m k ok h with
 |some r=>some r
 |none=>match E.desc t,m with
  |some (.map a b),.map r=>match Co E 20 a k,E.zero b,h.blk.get r with
   |true,some z,some (.map c _)=>match E7 E a k c 0 with
    |some (some (_,v))=>some (Nr ok v true)
    |some none=>some (Nr ok z false)
    |none=>none
   |_,_,_=>none
  |_,_=>none
def PQ [U:Facts] (E:Env) (t:TypeId) (m k v:AV) (h:Aa):Option Aa:=
 match MI E t,m with
 |some (d,e,a,b),.map r=>match Co E 20 d k,ay d e a b (h.blk.get r),Ww a k with
  |true,some x,some f=>match Xj a b k v,AO U.facts (.lss (.mIdx a x f) (.c 0)) with
   |some row,some true=>some (h.put r (.dmap d e (.snoc x row)))
   |some _,some false=>match Da (.mIdx a x f) (a++b) x a.length v.cells with
    |some y=>some (h.put r (.dmap d e y))
    |none=>none
   |_,_=>none
  |_,_,_=>none
 |_,_=>none
def UL [U:Facts] (E:Env) (t:TypeId) (m k:AV) (h:Aa):Option (AV×Aa):=
 match MI E t,m with
 |some (d,e,a,b),.map r=>match Co E 20 d k,ay d e a b (h.blk.get r),Ww a k,E.zero e with
  |true,some x,some f,some z=>match Xj a b k z,AO U.facts (.lss (.mIdx a x f) (.c 0)) with
   |some row,some true=>some (.tuple [z,.stamp h.nx],(h.put r (.dmap d e (.snoc x row))).stampN.put r (.dmapS d e (.snoc x row) (.lenL x) h.nx))
   |_,_=>none
  |_,_,_,_=>none
 |_,_=>none
def cP:Option Am→Bool
 |some (.dmap _ _ _)=>true
 |_=>false
def VO (h:Aa):AV→Option Am
 |.map r=>h.blk.get r
 |_=>none
def SQ [Facts] (E:Env) (t:TypeId) (m k:AV) (h:Aa):Option (AV×Aa):=
 match P1 k||cP (VO h m) with
 |true=>(match UL E t m k h with
  |some r=>some r
  |none=>Qf E t m k h)
 |false=>Qf E t m k h
def GR [Facts] (E:Env) (t:TypeId) (m:AV) (b:Nat) (v:AV) (h:Aa):Option Aa:=
 match MI E t,m with
 |some (f,g,c,a),.map r=>match h.blk.get r with
  |some (.dmapS d e x n i)=>match Nat.beq f d&&Nat.beq g e&&Nat.beq b i&&HN a v&&Nat.beq v.cells.length a.length,Da n (c++a) x c.length v.cells with
   |true,some y=>some (h.put r (.dmap f g y))
   |_,_=>none
  |_=>none
 |_,_=>none
def GJ [Facts] (E:Env) (t:TypeId) (m st v:AV) (h:Aa):Option Aa:=
 match st with
 |.stamp b=>GR E t m b v h
 |st=>GN m st v h
def Pj [Facts] (E:Env) (t:TypeId) (m k v:AV) (h:Aa):Option Aa:=
 match P1 k||cP (VO h m) with
 |true=>match PQ E t m k v h with
  |some h'=>some h'
  |none=>JC E t m k v h
 |false=>JC E t m k v h
def Qy [U:Facts] (E:Env) (t:TypeId) (m k:AV) (h:Aa):Option Aa:=none
def Qq [Facts] (E:Env) (t:TypeId) (m k:AV) (h:Aa):Option Aa:=
 match Lr E t m k h with
 |some h'=>some h'
 |none=>Qy E t m k h
def gG [Facts] (e:TypeId) (h:Aa):AV→Option SE
 |.dat a y=>match Nat.beq e a with
  |true=>some y
  |false=>none
 |.asl b c n _=>match h.blk.get b with
  |some (.arr a y)=>match Nat.beq e a&&Nat.beq c 1&&Fc n y with
   |true=>some y
   |false=>none
  |_=>none
 |_=>none
def Zs [Facts] (E:Env) (t:TypeId) (d x:AV) (h:Aa):Option (AV×Aa):=none
def FI [Facts] (E:Env) (b:Builtin) (argTypes:List TypeId) (args:List AV) (h:Aa):Res:=
 match b,argTypes,args with
 |.len,t::_,x::_=>BQ h "len" (kV E t x h)
 |.append,[t,t'],[s,x]=>Df "append" (JW E t t' s x h)
 |.copy,t::_,[d,x]=>Df "copy" (Zs E t d x h)
 |.delete,t::_,[m,k]=>Ew "delete" (Qq E t m k h)
 |.max,_,l=>BQ h "max" (orA (Aax l) (Zr l))
 |.min,_,l=>BQ h "min" (orA (qX l) (YC l))
 |.recover,_,_=>.recover h
 |.panic,_,[.iface t v]=>.panic (.iface t v) h
 |.clear,[t],[x]=>Ew "clear" (TO E t x h)
 |b,_,_=>.bad ("builtin " ++ reprStr b)
def Lk (name:String) (args:List AV) (h:Aa):Res:=.bad ""
def RA (E:Env) (f:FuncId) (args:List AV) (h:Aa):Res:=
 match E.fn.get f with
 |some fn=>match fn.body with
  |some _=>.enter f args h
  |none=>Lk fn.name args h
 |none=>.bad "no function"
def B9 (E:Env) (fn:Fn) (captured args:List AV) (h:Aa):Res:=
 match fn with
 |.func f=>RA E f (args++captured) h
 |.yield l=>.round l args h
 |_=>.bad ""
def Dr [Facts] (E:Env) (tmps:T AV) (c:Call) (h:Aa):Res:=
 let args:=c.args.toList.map (Ak tmps)
 match c.callee with
 |.builtin b=>FI E b c.argTypes.toList args h
 |.invoke r name=>B9 E (.method name) [] (Ak tmps r::args) h
 |.value f=>match Ak tmps f with
  |.func fn first captured=>B9 E fn captured (first++args) h
  |_=>.bad "call of what"
def Hf (tmps:T AV) (c:Call) (h:Aa):Res:=
 let args:=c.args.toList.map (Ak tmps)
 match c.callee with
 |.value f=>match Ak tmps f with
  |.func fn first captured=>.defer {fn:=some fn,coll:=0,captured,args:=first++args} h
  |_=>.bad "defer of what"
 |_=>.bad "defer builtin"
def A5 (tmps:T AV):Option Operand→Option AV
 |some o=>some (Ak tmps o)
 |none=>none
def O7 (E:Env) (fs:List Field) (i:Nat):Option (Nat×Nat):=
 match fs[i]? with
 |some f=>some (f.offset,E.size f.type)
 |none=>none
def OZ (E:Env) (t:TypeId) (parts:List (Nat×AV)):Option AV:=
 match E.zero t,E.desc t with
 |some z,some (.struct fs)=>match fs.toList.all fun f=>E.has f.type with
  |true=>(Fy (O7 E fs.toList) z.cells parts).map .agg
  |false=>none
 |some z,some (.array _ e)=>match E.has e with
  |true=>(Fy (fun i=>some (i*E.size e,E.size e)) z.cells parts).map .agg
  |false=>none
 |_,_=>none
def EV (E:Env) (t:TypeId) (len:Nat) (parts:List (Nat×AV)) (h:Aa):Option (AV×Aa):=
 match E.desc t with
 |some (.slice e)=>
  match Nat.ble (len*E.size e) 16777216,E.zero e with
  |true,some z=>match Nat.beq z.cells.length (E.size e) with
   |false=>none
   |true=>match Fy (fun i=>some (i*E.size e,E.size e)) (Dw z.cells len) parts with
    |some cells=>some (.slice h.nx 0 len (E.size e),Bx h cells)
    |none=>none
  |_,_=>none
 |_=>none
def HX [Facts] (E:Env) (t:TypeId) (l c:AV) (h:Aa):Option (AV×Aa):=none
def RH:TypeDesc→Bool
 |.interface _=>true
 |_=>false
def PX (E:Env) (x:AV) (a:TypeId) (ok:Bool):Option AV:=
 match x with
 |.nilIface=>match ok,E.zero a with
  |true,some z=>some (.tuple [z,.bool false])
  |_,_=>none
 |.iface t v=>match Nat.beq t a with
  |true=>match ok with
   |true=>some (.tuple [v,.bool true])
   |false=>some v
  |false=>match ok,E.zero a with
   |true,some z=>some (.tuple [z,.bool false])
   |_,_=>none
 |_=>none
def Pw (E:Env) (x:AV) (a:TypeId) (ok:Bool):Option AV:=
 match E.desc a with
 |some d=>match RH d with
  |true=>none
  |false=>PX E x a ok
 |none=>none
def AV.isNil:AV→Bool
 |.nilIface=>true
 |_=>false
def Qs [Facts]:SE→Bool
 |.strc l _=>Nat.ble l 4611686018427387903
 |e=>Nl (.lss (.lenS e) (.c 4611686018427387904))
def jt [Facts] (c:BinOp) (a b:AV):Option AV:=
 match c with
 |.add=>match Sp a,Sp b with
  |some x,some y=>match Qs x&&Qs y with
   |true=>some (.ss (.strCat x y))
   |false=>none
  |_,_=>none
 |_=>none
def jF [Facts] (E:Env) (c:BinOp) (t:TypeId) (x y:Operand) (a b:AV):Option AV:=
 match a.isSym||b.isSym with
 |true=>match eqV (E.desc t) c a b with
  |some r=>some r
  |none=>match jt c a b with
   |some r=>some r
   |none=>gm c a b
 |false=>match a.isNil&&b.isNil with
 |true=>match Region.isConst x||Region.isConst y,E.desc t with
  |true,some (.interface _)=>match c with
   |.eql=>some (.bool true)
   |.neq=>some (.bool false)
   |_=>none
  |_,_=>none
 |false=>match TG E c t a b with
  |some r=>some r
  |none=>XS E c t a b
def aop [U:Facts] (E:Env) (tmps:T AV) (h:Aa) (j:Op):Res:=
 match j with
 |.move x=>.val (Ak tmps x) h
 |.assign x=>.val (Ak tmps x) h
 |.pick c a b=>match Ak tmps c with
  |.bool true=>.val (Ak tmps a) h
  |.bool false=>.val (Ak tmps b) h
  |.sb pos e=>match AO U.facts e with
   |some q=>match q==pos with
    |true=>.val (Ak tmps a) h
    |false=>.val (Ak tmps b) h
   |none=>.bad "pick"
  |_=>.bad "pick"
 |.alloc t=>match E.zero t with
  |some z=>.val (.ptr h.nx 0) (Bx h z.cells)
  |none=>.bad "alloc"
 |.box _ x=>match (Ak tmps x).isTop with
  |true=>.bad "box"
  |false=>.val (.ptr h.nx 0) (Bx h (Ak tmps x).cells)
 |.build t n=>BQ h "build" (OZ E t (n.toList.map fun (i,x)=>(i,Ak tmps x)))
 |.buildSlice t len n=>Df "buildSlice" (EV E t len (n.toList.map fun (i,x)=>(i,Ak tmps x)) h)
 |.load t a=>BQ h "load" (VJ E t (Ak tmps a) h)
 |.store t a x=>Ew "store" (Jn E t (Ak tmps a) (Ak tmps x) h)
 |.nilCheck x=>match Ak tmps x with
  |.ptr b off=>.val (.ptr b off) h
  |.func (.func f) a b=>.val (.func (.func f) a b) h
  |.func (.yield f) a b=>.val (.func (.yield f) a b) h
  |.iface t v=>.val (.iface t v) h
  |.aptr b p i off=>.val (.aptr b p i off) h
  |_=>.bad "nilCheck"
 |.binOp j t x y _=>BQ h "binOp" (jF E j t x y (Ak tmps x) (Ak tmps y))
 |.unOp j _ x=>BQ h "unOp" (unB j (Ak tmps x))
 |.convert s d x=>Df "convert" (UT E s d (Ak tmps x) h)
 |.makeInterface t x=>match E.desc t with
  |some (.interface _)=>.bad "makeInterface"
  |some _=>.val (.iface t (Ak tmps x)) h
  |none=>.bad "makeInterface"
 |.makeFunc (.yield _) _ _=>.bad "makeFunc"
 |.makeFunc fn first captured=>.val (.func fn (first.toList.map (Ak tmps)) (captured.toList.map (Ak tmps))) h
 |.makeMap _ none=>.val (.map h.nx) (h.new (.map [] 0))
 |.makeMap t (some r)=>match E.desc t,Ak tmps r with
  |some (.map _ _),.int _ _=>.val (.map h.nx) (h.new (.map [] 0))
  |_,_=>.bad "makeMap"
 |.makeSlice t l c=>Df "makeSlice" (HX E t (Ak tmps l) (Ak tmps c) h)
 |.slice t x lo hi o=>Df "slice" (match o,hi with
  |some _,none=>none
  |_,_=>sliceB E t (Ak tmps x) (A5 tmps lo) (A5 tmps hi) (A5 tmps o) h)
 |.fieldAddr t x f=>BQ h "fieldAddr" (FP E t (Ak tmps x) f)
 |.field t x f=>BQ h "field" (Pm E t (Ak tmps x) f)
 |.indexAddr t x i=>BQ h "indexAddr" (Gf E t (Ak tmps x) (Ak tmps i))
 |.index t x i=>BQ h "index" (O3 E t (Ak tmps x) (Ak tmps i))
 |.lookup t m k ok=>BQ h "lookup" (Lv E t (Ak tmps m) (Ak tmps k) ok h)
 |.mapUpdate t m k v=>Ew "mapUpdate" (Pj E t (Ak tmps m) (Ak tmps k) (Ak tmps v) h)
 |.insert t m k v=>Ew "insert" (JC E t (Ak tmps m) (Ak tmps k) (Ak tmps v) h)
 |.mapEntry t m k=>Df "mapEntry" (SQ E t (Ak tmps m) (Ak tmps k) h)
 |.entryStore t m st v=>Ew "entryStore" (GJ E t (Ak tmps m) (Ak tmps st) (Ak tmps v) h)
 |.range t x=>Df "range" (UD E t (Ak tmps x) h)
 |.next it g=>Df "next" (ZB (Ak tmps it) g h)
 |.typeAssert x _ t ok=>BQ h "typeAssert" (Pw E (Ak tmps x) t ok)
 |.extract t i=>match Ak tmps t with
  |.tuple u=>BQ h "extract" u[i]?
  |_=>.bad "extract"
 |.call c=>Dr E tmps c h
 |.defer c=>Hf tmps c h
 |.panic x=>match Ak tmps x with
  |.iface t v=>.panic (.iface t v) h
  |_=>.bad "panic"
 |.sliceToArrayPointer ..=>.bad "sliceToArrayPointer"
 |.ready _=>.bad "ready"
 |.waits _=>.bad "waits"
 |.entry it=>BQ h "entry" (H4 (Ak tmps it) h)
 |.makeChan ..=>.bad "makeChan"
 |.go _=>.bad "go"
 |.send ..=>.bad "send"
 |.recv ..=>.bad "recv"
 |.select ..=>.bad "select"
def BL [U:Facts] (all:Array Oper) (o:Oper) (tmps:T AV):Option Bool:=
 match o.guard with
 |none=>some true
 |some (j,a)=>
  match all.toList[j]? with
  |some g=>match g.dst with
   |some d=>match tmps.get d with
    |some (.bool b)=>some (b==a)
    |some .top=>none
    |some (.sb pos e)=>match AO U.facts e with
     |some c=>some ((c==pos)==a)
     |none=>none
    |none=>none
    |_=>some false
   |none=>some false
  |none=>some false
def Ey (nt:Nat) (tmps:T AV) (dst:Option Tmp) (v:AV):Option (T AV):=
 match dst with
 |some d=>match Nat.blt d nt with
  |true=>some (tmps.set d v)
  |false=>none
 |none=>some tmps
def B1 (fr:AF) (v:AV):Option AF:=
 match fr.todo with
 |.ops all (o::rest)::k=>match Ey fr.nt fr.tmps o.dst v with
  |some t=>some {fr with tmps:=t,todo:=.ops all rest::k}
  |none=>none
 |.inRange l::k=>some {fr with todo:=.endRange l::k}
 |.beginRound::k=>some {fr with todo:=k}
 |_=>none
def KD (id:Nat):List AI→Option (List AI)
 |.inBlock a::k=>match Nat.beq a id with|true=>some k|false=>KD id k
 |_::k=>KD id k
 |[]=>none
def IZ:List AI→Bool
 |.rest::_=>true
 |_::k=>IZ k
 |[]=>false
def NL (l:Nat):List AI→Option (List AI)
 |.inScope body::k=>
  match findLabel body l with
  |some rest=>some (.code rest::.inScope body::k)
  |none=>NL l k
 |_::k=>NL l k
 |[]=>none
inductive Out where
 |next (s:AS)
 |done (ok:Bool) (v:AV) (h:Aa)
 |draw (s:AS) (ops:Array Oper) (k:List AI)
 |bad (why:String)
 deriving Inhabited
def Bf (E:Env) (f:FuncId) (args:List AV) (kind:CallKind):Option AF:=
 match E.fn.get f with
 |some fn=>match fn.body with
  |some c=>some {fn:=f,nt:=max fn.ntmps args.length,tmps:=.ofList args,todo:=[.code c],defers:=[],mode:=.run,kind,round:=none}
  |none=>none
 |none=>none
def Fi (nt:Nat):T AV→List Tmp→List AV→Option (T AV)
 |t,[],[]=>some t
 |t,p::b,a::as=>match Nat.blt p nt with
  |true=>Fi nt (t.set p a) b as
  |false=>none
 |_,_,_=>none
def G1 (l:Nat) (args:List AV) (h:Aa):Option AF:=
 match h.blk.get l with
 |some (.loop _ _ fn nt tmps params assign body _)=>match Fi nt tmps params args with
  |some t=>some {fn,nt,tmps:=t,todo:=[.code assign,.beginRound,.code body],defers:=[],mode:=.run,kind:=.normal,round:=some l}
  |none=>none
 |_=>none
def CF (fr:AF) (cs:List AF) (v:AV) (h:Aa):Out:=
 match cs with
 |c::rest=>
  match fr.kind with
  |.normal=>match B1 c v with
   |some a=>.next {fr:=a,cs:=rest,h}
   |none=>.bad "finish"
  |.deferred=>
   match c.mode with
   |.panic ((_,true)::_)=>.next {fr:={c with mode:=.ret},cs:=rest,h}
   |_=>.next {fr:=c,cs:=rest,h}
  |_=>.bad "kind"
 |[]=>match fr.kind with
  |.normal=>.done true v h
  |_=>.bad "kind at the bottom"
def BU (E:Env) (fr:AF) (cs:List AF) (r:Res):Out:=
 match r with
 |.val v h=>match B1 fr v with
  |some a=>.next {fr:=a,cs,h}
  |none=>.bad "finish"
 |.enter f args h=>match Bf E f args .normal with
  |some g=>.next {fr:=g,cs:=fr::cs,h}
  |none=>.bad "enter"
 |.round l args h=>match G1 l args h with
  |some g=>.next {fr:=g,cs:=fr::cs,h}
  |none=>.bad "yield"
 |.defer d h=>match fr.round with
  |some _=>.bad "defer in a round"
  |none=>match B1 fr .undef with
   |some a=>.next {fr:={a with defers:=d::a.defers},cs,h}
   |none=>.bad "finish"
 |.recover h=>match fr.round,fr.kind,cs with
  |none,.deferred,c::rest=>match c.mode with
   |.panic ((v,false)::b)=>match B1 fr v with
    |some a=>.next {fr:=a,cs:={c with mode:=.panic ((v,true)::b)}::rest,h}
    |none=>.bad "finish"
   |_=>match B1 fr .nilIface with
    |some a=>.next {fr:=a,cs,h}
    |none=>.bad "finish"
  |_,_,_=>.bad "recover"
 |.panic v h=>match fr.mode with
  |.run=>.next {fr:={fr with mode:=.panic [(v,false)]},cs,h}
  |_=>.bad "panic"
 |.bad w=>.bad w
def DU (fr:AF) (cs:List AF) (h:Aa) (a:Option Code):Out:=
 match fr.round with
 |none=>match a with
  |none=>.next {fr:={fr with mode:=.ret},cs,h}
  |some .ret=>.next {fr:={fr with mode:=.ret},cs,h}
  |_=>.bad "leave"
 |some l=>match h.blk.get l with
  |some (.loop _ _ fn nt tmps params assign body defers)=>
   CF fr cs (.bool a.isNone) (h.put l (.loop (if a.isNone then .ready else .done) a fn nt tmps params assign body defers))
  |_=>.bad "no loop"
def BG (E:Env) (fr:AF) (h:Aa):List ResultVar→Option (List AV)
 |[]=>some []
 |.tmp t::r=>match BG E fr h r with
  |some l=>some ((match fr.tmps.get t with|some v=>v|none=>.top)::l)
  |none=>none
 |.cell a t::r=>match fr.tmps.get a with
  |some p=>match OJ E t p h,BG E fr h r with
   |some v,some l=>some (v::l)
   |_,_=>none
  |none=>none
def Eb (E:Env) (fr:AF) (cs:List AF) (h:Aa):Out:=
 match fr.defers with
 |d::b=>match d.fn with
  |none=>match h.blk.get d.coll with
   |some (.deferred (some l))=>.next {fr:={fr with defers:=l++b},cs,h:=h.put d.coll (.deferred none)}
   |_=>.bad "collected"
  |some fn=>match B9 E fn d.captured d.args h with
   |.enter f args h=>match Bf E f args .deferred with
    |some g=>.next {fr:=g,cs:={fr with defers:=b}::cs,h}
    |none=>.bad "enter deferred"
   |_=>.bad "deferred what"
 |[]=>match fr.mode with
  |.run=>.bad "unwind run"
  |.panic a=>match cs with
   |c::rest=>match c.mode with
    |.run=>.next {fr:={c with mode:=.panic a},cs:=rest,h}
    |_=>.bad "panic in a deferred call"
   |[]=>match a with
    |[(v,false)]=>match E.fn.get fr.fn with
     |some _=>.done false v h
     |none=>.bad "no function"
    |_=>.bad "panic at the bottom"
  |.ret=>match E.fn.get fr.fn with
   |some fn=>match BG E fr h fn.results.toList with
    |some [v]=>CF fr cs v h
    |some l=>CF fr cs (.tuple l) h
    |none=>.bad "results"
   |none=>.bad "no function"
def UV (fr:AF) (h:Aa):Option (Nat×Aa×List AD):=
 match fr.round with
 |some l=>match h.blk.get l with
  |some (.loop _ _ _ _ _ _ _ _ d)=>some (d,h,[])
  |_=>none
 |none=>some (h.nx,h.new (.deferred (some [])),[{fn:=none,coll:=h.nx,captured:=[],args:=[]}])
def Hx (E:Env) (s:AS) (f:Operand) (params:List Tmp) (assign body:Code) (k:List AI):Out:=
 match UV s.fr s.h with
 |some (d,a,mark)=>
  match Ak s.fr.tmps f with
  |.func fn first captured=>
   match B9 E fn captured (first++[.func (.yield a.nx) [] []]) (a.new (.loop .ready none s.fr.fn s.fr.nt s.fr.tmps params assign body d)) with
   |.enter g args _=>match Bf E g args .normal with
    |some b=>.next {fr:=b,cs:={s.fr with todo:=.inRange a.nx::k,defers:=mark++s.fr.defers}::s.cs,h:=a.new (.loop .ready none s.fr.fn s.fr.nt s.fr.tmps params assign body d)}
    |none=>.bad "enter"
   |_=>.bad "range over what"
  |_=>.bad "range over what"
 |none=>.bad "rangeFunc"
def A8 [U:Facts] (E:Env) (s:AS):Out:=
 let fr:=s.fr
 let to (k:List AI):Out:=.next {s with fr:={fr with todo:=k}}
 match fr.mode with
 |.run=>match fr.todo with
  |[]=>DU fr s.cs s.h none
  |.inBlock _::k=>to k
  |.inScope _::k=>to k
  |.inLoop body::k=>to (.code body::.inLoop body::k)
  |.ops _ []::k=>to k
  |.ops all (o::_)::_=>
   match BL all o fr.tmps with
   |some true=>BU E fr s.cs (aop E fr.tmps s.h o.op)
   |some false=>BU E fr s.cs (.val .undef s.h)
   |none=>.bad "wanted"
  |.inRange _::_=>.bad "inRange"
  |.dead::_=>.bad "dead"
  |.rest::_=>.bad "rest"
  |.endRange l::k=>match s.h.blk.get l with
   |some (.loop st pending fn nt tmps params assign body defers)=>match st with
    |.busy=>.bad "loop busy"
    |_=>.next {s with fr:={fr with todo:=match pending with|some c=>.code c::k|none=>k},h:=s.h.put l (.loop .exhausted pending fn nt tmps params assign body defers)}
   |_=>.bad "endRange"
  |.beginRound::k=>match fr.round with
   |some l=>match s.h.blk.get l with
    |some (.loop .ready pending fn nt tmps params assign body defers)=>
     .next {s with fr:={fr with todo:=k},h:=s.h.put l (.loop .busy pending fn nt tmps params assign body defers)}
    |_=>.bad "beginRound"
   |none=>.bad "beginRound"
  |.code c::k=>match c with
   |.ret=>DU fr s.cs s.h (some .ret)
   |.skip=>to k
   |.label _=>to k
   |.seq a b=>to (.code a::.code b::k)
   |.cond c x y=>match Ak fr.tmps c with
    |.bool true=>to (.code x::k)
    |.bool false=>to (.code y::k)
    |.sb pos e=>match AO U.facts e with
     |some c=>match c==pos with
      |true=>to (.code x::k)
      |false=>to (.code y::k)
     |none=>.bad "cond"
    |_=>.bad "cond"
   |.block id body=>to (.code body::.inBlock id::k)
   |.loop body=>to (.code body::.inLoop body::k)
   |.scope body=>to (.code body::.inScope body::k)
   |.exit id=>match KD id k with
    |some g=>to g
    |none=>match IZ k with
     |true=>.bad "exit"
     |false=>DU fr s.cs s.h (some (.exit id))
   |.goto l=>match NL l k with
    |some g=>to g
    |none=>match IZ k with
     |true=>.bad "goto"
     |false=>DU fr s.cs s.h (some (.goto l))
   |.rangeFunc f params assign body=>Hx E s f params.toList assign body k
   |.region _ ops d=>match d with
    |false=>to (.ops ops ops.toList::k)
    |true=>.draw s ops k
   |.refuse i=>.bad i
 |_=>Eb E fr s.cs s.h
structure Rc where
 wr:List Nat
 fp:Option (List Nat)
 lo:Nat
 hi:Nat
 dst:Option Tmp
 looks:List Tmp
 mask:Nat
 deriving Inhabited
def vp:AV→List Nat
 |.ptr b _=>[b]
 |.slice b _ _ _=>[b]
 |.fsl b _ _ _=>[b]
 |.map b=>[b]
 |.asl b _ _ _=>[b]
 |.aptr b _ _ _=>[b]
 |.nmap b _=>[b]
 |_=>[]
def qB:Operand→List Tmp
 |.tmp t=>[t]
 |_=>[]
def Bk (all:Array Oper) (o:Oper):List Tmp:=
 o.op.operands.toList.flatMap qB++(match o.guard with
  |some (g,_)=>(match all.toList[g]? with
   |some x=>x.dst.toList
   |none=>[])
  |none=>[])
def Nj (b:Nat):List Nat→Bool
 |[]=>false
 |c::r=>match Nat.beq b c with
  |true=>true
  |false=>Nj b r
def JX:List Nat→List Nat→Bool
 |[],_=>true
 |b::r,l=>match Nj b l with
  |true=>false
  |false=>JX r l
def In (w:List Nat):Option (List Nat)→Bool
 |none=>w.isEmpty
 |some l=>JX w l
def W6 (l:List Nat):Option Tmp→Bool
 |some d=>Nj d l
 |none=>false
def Zc:Option Tmp→Option Tmp→Bool
 |some a,some b=>Nat.beq a b
 |_,_=>false
def Ys (lo hi:Nat):List Nat→Bool
 |[]=>true
 |b::r=>match Nat.ble lo b&&Nat.blt b hi with
  |true=>false
  |false=>Ys lo hi r
def Rc.apart (x y:Rc):Bool:=
 In x.wr y.fp&&In y.wr x.fp&&JX x.wr y.wr&&Ys x.lo x.hi y.wr && !W6 y.looks x.dst && !W6 x.looks y.dst && !Zc x.dst y.dst
def De (y:Rc):List Rc→Nat→Bool
 |[],_=>true
 |x::r,i=>match Nat.beq (y.mask/2^i%2) 1||x.apart y with
  |true=>De y r (i+1)
  |false=>false
def BM (recs:List Rc):List Edge→Option Nat
 |[]=>some 0
 |e::r=>match BM recs r with
  |none=>none
  |some m=>match Region.binds .any e with
   |false=>some m
   |true=>match recs[e.on]? with
    |some x=>some (m ||| x.mask ||| 2^e.on)
    |none=>none
def Do (h:Aa):List Nat→T Am
 |[]=>.nil
 |b::r=>match h.blk.get b with
  |some x=>(Do h r).set b x
  |none=>Do h r
def G6 (blk a:T Am):List Nat→T Am
 |[]=>blk
 |b::r=>match a.get b,blk.get b with
  |some x,some _=>(G6 blk a r).set b x
  |_,_=>(G6 blk a r).del b
def Iu (blk a:T Am) (i:Nat):Nat→T Am
 |0=>blk
 |n+1=>match a.get i with
  |some x=>(Iu blk a (i+1) n).set i x
  |none=>Iu blk a (i+1) n
def M6:Op→Bool
 |.next ..=>false
 |.entry _=>false
 |.call c=>match c.callee with
  |.builtin _=>true
  |_=>false
 |.defer _=>false
 |.panic _=>false
 |_=>true
def ce:Op→List Operand
 |.load _ a=>[a]
 |.store _ a _=>[a]
 |.convert _ _ x=>[x]
 |.slice _ x _ _ _=>[x]
 |.lookup _ m _ _=>[m]
 |.mapUpdate _ m _ _=>[m]
 |.insert _ m _ _=>[m]
 |.mapEntry _ m _=>[m]
 |.entryStore _ m _ _=>[m]
 |.range _ x=>[x]
 |.call c=>c.args.toList
 |_=>[]
def kS:AV→List Nat
 |.slice b _ _ _=>[b]
 |.asl b _ _ _=>[b]
 |_=>[]
def TL (c:T AV):Nat→List Nat
 |0=>[]
 |n+1=>match c.get n with
  |some a=>kS a++TL c n
  |none=>TL c n
def s9 (h:Aa) (b:Nat):List Nat:=
 match h.blk.get b with
 |some (.cells n c)=>match Nat.ble n 256 with
  |true=>TL c n
  |false=>[]
 |_=>[]
def na:AV→List Nat
 |.agg l=>l.flatMap kS
 |a=>kS a
def ba (tmps:T AV) (h:Aa):Op→List Nat
 |.call c=>match c.callee with
  |.builtin .append=>(c.args.toList.flatMap fun x=>vp (Ak tmps x)).flatMap (s9 h)
  |_=>[]
 |.store _ a x=>match Ak tmps a with
  |.aptr ..=>na (Ak tmps x)
  |_=>[]
 |_=>[]
def X6 (tmps:T AV) (h:Aa) (o:Op):List Nat:=((ce o).map (Ak tmps)).flatMap vp++ba tmps h o
def BF (n:Nat):List Nat→List Nat
 |[]=>[]
 |b::r=>match Nat.blt b n with
  |true=>b::BF n r
  |false=>BF n r
def AY (h g:Aa):Aa:=
 {blk:=Iu (G6 h.blk g.blk (BF h.nx g.log)) g.blk h.nx (g.nx-h.nx),nx:=g.nx,log:=BF h.nx g.log++h.log}
def A1 [Facts] (tmps:T AV):List Tmp→T AV
 |[]=>.nil
 |t::r=>match tmps.get t with
  |some v=>(A1 tmps r).set t (ZL v)
  |none=>A1 tmps r
structure Did where
 ok:Bool
 v:AV
 g:Aa
 fp:Option (List Nat)
 deriving Inhabited
def Dj [Facts] (E:Env) (a:Ask→Aa→Option (Bool×AV×Aa)) (all:Array Oper) (o:Oper) (tmps:T AV) (h:Aa):Option Did:=
 match BL all o tmps with
 |none=>none
 |some false=>some ⟨true,.undef,{blk:=.nil,nx:=h.nx,log:=[]},some []⟩
 |some true=>match M6 o.op with
  |true=>
   let b:=X6 tmps h o.op
   match aop E tmps {blk:=Do h b,nx:=h.nx,log:=[]} o.op with
   |.val v g=>some ⟨true,v,g,some b⟩
   |_=>none
  |false=>match aop E tmps {h with log:=[]} o.op with
   |.enter f args _=>match a (.enter f args) {h with log:=[]} with
    |some (ok,v,g)=>some ⟨ok,v,g,none⟩
    |none=>none
   |.round l args _=>match a (.round l args) {h with log:=[]} with
    |some (ok,v,g)=>some ⟨ok,v,g,none⟩
    |none=>none
   |.panic v _=>some ⟨false,v,{h with log:=[]},none⟩
   |_=>none
def Fw (recs:List Rc) (j:Nat):List Oper→Bool
 |[]=>true
 |o::rest=>match BM recs o.after.toList with
  |none=>false
  |some mask=>match Nat.beq (mask/2^j%2) 1 with
   |false=>false
   |true=>Fw (recs++[{wr:=[],fp:=none,lo:=0,hi:=0,dst:=none,looks:=[],mask}]) j rest
def BY [Facts] (E:Env) (b:Ask→Aa→Option (Bool×AV×Aa)) (all:Array Oper) (nt:Nat):List Oper→List Rc→T AV→Aa→Option (Option AV×T AV×Aa)
 |[],_,tmps,h=>some (none,tmps,h)
 |o::rest,a,tmps,h=>
  match BM a o.after.toList with
  |none=>none
  |some mask=>match Dj E b all o (A1 tmps (Bk all o)) h with
   |none=>none
   |some d=>match Nat.ble h.nx d.g.nx,d.ok with
    |false,_=>none
    |true,true=>
     match De {wr:=BF h.nx d.g.log,fp:=d.fp,lo:=h.nx,hi:=d.g.nx,dst:=o.dst,looks:=Bk all o,mask} a 0 with
     |false=>none
     |true=>match Ey nt tmps o.dst d.v with
      |none=>none
      |some c=>BY E b all nt rest (a++[{wr:=BF h.nx d.g.log,fp:=d.fp,lo:=h.nx,hi:=d.g.nx,dst:=o.dst,looks:=Bk all o,mask}]) c (AY h d.g)
    |true,false=>match Nat.beq (mask+1) (2^a.length)&&Fw (a++[{wr:=[],fp:=none,lo:=0,hi:=0,dst:=none,looks:=[],mask}]) a.length rest with
     |true=>some (some d.v,tmps,AY h d.g)
     |false=>none
end Go.AE
namespace Go.AE
variable [Gl:AC]
theorem Ax {i j:Nat} (h:Nat.beq i j=true):i=j:=L2 h
theorem WY {i j:Nat} (h:Nat.beq i j=false):i≠j:=Nat.ne_of_beq_eq_false h
theorem Fr (i:Nat):Nat.beq i i=true:=Nat.beq_refl i
theorem GO {i j:Nat} (h:i≠j):Nat.beq i j=false:=by
 cases e:Nat.beq i j with
 |false=>rfl
 |true=>exact absurd (Ax e) h
theorem T.get0_zero {t:Type} (v:Option t) (l r:T t) {i:Nat} (h:i=0):(T.node v l r).get0 i=v:=by
 subst h;rfl
theorem T.get0_odd {t:Type} (v:Option t) (l r:T t) {i:Nat} (h:i%2=1):(T.node v l r).get0 i=l.get0 (i/2):=by
 rw [T.get0,GO (show i≠0 by omega),h]
theorem T.get0_even {t:Type} (v:Option t) (l r:T t) {i:Nat} (h:i%2=0) (I:i≠0):(T.node v l r).get0 i=r.get0 (i/2-1):=by
 rw [T.get0,GO I,h]
theorem T.val_eq {l:Type} (t:T l):t.val=t.get0 0:=by cases t<;>rfl
theorem P0 {a:Type}:∀(F m:Nat) (t:T a),m+1<2^F→(Yg F m).f t=t.get0 (m+1)
 |0,m,t,h=>by simp at h
 |F+1,m,t,h=>by
  have e:(Yg (F+1) m:Sel a)=Nat.casesOn (motive:=fun _=>Sel a) (m/2)
   (Nat.casesOn (motive:=fun _=>Sel a) (m%2)
    ⟨fun t=>T.casesOn (motive:=fun _=>Option a) t none (fun _ l _=>T.val l)⟩
    (fun _=>⟨fun t=>T.casesOn (motive:=fun _=>Option a) t none (fun _ _ r=>T.val r)⟩))
   (fun k=>Nat.casesOn (motive:=fun _=>Sel a) (m%2)
    ⟨fun t=>T.casesOn (motive:=fun _=>Option a) t none (fun _ l _=>(Yg F k).f l)⟩
    (fun _=>⟨fun t=>T.casesOn (motive:=fun _=>Option a) t none (fun _ _ r=>(Yg F k).f r)⟩)):=rfl
  have c:m+1<2*2^F:=by rw [Nat.pow_succ] at h;omega
  rw [e];cases t with
  |nil=>
   show _=none;cases m/2<;>cases m%2<;>rfl
  |node v l r=>
   by_cases o:m%2=0
   ·rw [T.get0_odd _ _ _ (show (m+1)%2=1 by omega),show (m+1)/2=m/2 by omega,o]
    cases b:m/2 with
    |zero=>exact T.val_eq l
    |succ k=>exact P0 F k l (by omega)
   ·rw [T.get0_even _ _ _ (show (m+1)%2=0 by omega) (by omega),show (m+1)/2-1=m/2 by omega,show m%2=1 by omega]
    cases b:m/2 with
    |zero=>exact T.val_eq r
    |succ k=>exact P0 F k r (by omega)
theorem T.get_eq {l:Type} (t:T l) (i:Nat):t.get i=t.get0 i:=by
 cases i with
 |zero=>exact T.val_eq t
 |succ m=>
  show (Z6 m).f t=_;unfold Z6;cases r:Nat.ble m 9223372036854775807 with
  |false=>rfl
  |true=>
   have:=hP r;exact P0 64 m t (by omega)
theorem T.get_zero {t:Type} (v:Option t) (l r:T t) {i:Nat} (h:i=0):(T.node v l r).get i=v:=by rw [T.get_eq,T.get0_zero _ _ _ h]
theorem T.get_odd {t:Type} (v:Option t) (l r:T t) {i:Nat} (h:i%2=1):(T.node v l r).get i=l.get (i/2):=by rw [T.get_eq,T.get_eq,T.get0_odd _ _ _ h]
theorem T.get_even {t:Type} (v:Option t) (l r:T t) {i:Nat} (h:i%2=0) (I:i≠0):(T.node v l r).get i=r.get (i/2-1):=by rw [T.get_eq,T.get_eq,T.get0_even _ _ _ h I]
theorem T.get_nil {l:Type} (i:Nat):(T.nil:T l).get i=none:=by rw [T.get_eq];rfl
theorem T.get_setF {α:Type} (x:Option α):∀(f:Nat) (t:T α) (i j:Nat),i<f→(T.setF f t i x).get j=if i=j then x else t.get j:=by
 intro f
 induction f with
 |zero=>intro t i j h;omega
 |succ f ih=>
  intro t i j h
  have key:∀(v:Option α) (l r:T α),(T.setF (f+1) (.node v l r) i x).get j=if i=j then x else (T.node v l r).get j:=by
   intro v l r;by_cases hi:i=0
   ·have e:T.setF (f+1) (.node v l r) i x=.node x l r:=by rw [T.setF,hi]
    rw [e];by_cases I:i=j
    ·rw [if_pos I,T.get_zero _ _ _ (by omega)]
    ·rw [if_neg I];by_cases J:j%2=1
     ·rw [T.get_odd _ _ _ J,T.get_odd _ _ _ J]
     ·rw [T.get_even _ _ _ (by omega) (by omega),T.get_even _ _ _ (by omega) (by omega)]
   ·by_cases J:i%2=1
    ·have e:T.setF (f+1) (.node v l r) i x=.node v (T.setF f l (i/2) x) r:=by rw [T.setF,GO hi,J]
     rw [e];by_cases I:j=0
     ·rw [if_neg (by omega),T.get_zero _ _ _ I,T.get_zero _ _ _ I]
     ·by_cases hq:j%2=1
      ·rw [T.get_odd _ _ _ hq,T.get_odd _ _ _ hq,ih l (i/2) (j/2) (by omega)]
       by_cases e:i=j
       ·rw [if_pos e,if_pos (by omega)]
       ·rw [if_neg e,if_neg (by omega)]
      ·rw [if_neg (by omega),T.get_even _ _ _ (by omega) I,T.get_even _ _ _ (by omega) I]
    ·have e:T.setF (f+1) (.node v l r) i x=.node v l (T.setF f r (i/2-1) x):=by
      rw [T.setF,GO hi,GO J]
     rw [e];by_cases I:j=0
     ·rw [if_neg (by omega),T.get_zero _ _ _ I,T.get_zero _ _ _ I]
     ·by_cases hq:j%2=1
      ·rw [if_neg (by omega),T.get_odd _ _ _ hq,T.get_odd _ _ _ hq]
      ·rw [T.get_even _ _ _ (by omega) I,T.get_even _ _ _ (by omega) I,ih r (i/2-1) (j/2-1) (by omega)]
       by_cases e:i=j
       ·rw [if_pos e,if_pos (by omega)]
       ·rw [if_neg e,if_neg (by omega)]
  cases t with
  |node v l r=>exact key v l r
  |nil=>
   have h1:T.setF (f+1) .nil i x=T.setF (f+1) (.node none .nil .nil) i x:=by
    simp only [T.setF]
   have h2:(T.node (none:Option α) .nil .nil).get j=(T.nil:T α).get j:=by
    by_cases I:j=0
    ·rw [T.get_zero _ _ _ I,T.get_nil]
    ·by_cases J:j%2=1
     ·rw [T.get_odd _ _ _ J,T.get_nil,T.get_nil]
     ·rw [T.get_even _ _ _ (by omega) I,T.get_nil,T.get_nil]
   rw [h1,key,h2]
theorem T.putV_eq {l:Type} (x:Option l) (t:T l) (f:Nat):t.putV x=T.setF (f+1) t 0 x:=by cases t<;>rfl
theorem Na {a:Type}:∀(F m:Nat) (t:T a) (x:Option a) (j:Nat),m+1<2^F→((L5 F m).f x t).get j=if m+1=j then x else t.get j
 |0,m,t,x,j,h=>by simp at h
 |F+1,m,t,x,j,h=>by
  have e:(L5 (F+1) m:Upd a)=Nat.casesOn (motive:=fun _=>Upd a) (m/2)
   (Nat.casesOn (motive:=fun _=>Upd a) (m%2)
    ⟨fun x t=>T.casesOn (motive:=fun _=>T a) t (.node none (T.putV x .nil) .nil) (fun v l r=>.node v (T.putV x l) r)⟩
    (fun _=>⟨fun x t=>T.casesOn (motive:=fun _=>T a) t (.node none .nil (T.putV x .nil)) (fun v l r=>.node v l (T.putV x r))⟩))
   (fun k=>Nat.casesOn (motive:=fun _=>Upd a) (m%2)
    ⟨fun x t=>T.casesOn (motive:=fun _=>T a) t (.node none ((L5 F k).f x .nil) .nil) (fun v l r=>.node v ((L5 F k).f x l) r)⟩
    (fun _=>⟨fun x t=>T.casesOn (motive:=fun _=>T a) t (.node none .nil ((L5 F k).f x .nil)) (fun v l r=>.node v l ((L5 F k).f x r))⟩)):=rfl
  have u:m+1<2*2^F:=by rw [Nat.pow_succ] at h;omega
  have key:∀(v:Option a) (l r:T a),∃d g,(L5 (F+1) m).f x (.node v l r)=.node v d g∧(if m%2=0 then g=r∧∀j,d.get j=if m/2=j then x else l.get j else d=l∧∀j,g.get j=if m/2=j then x else r.get j):=by
   intro v l r;rw [e];have n:∀(t:T a) (j:Nat),(T.putV x t).get j=if 0=j then x else t.get j:=fun t j=>by rw [T.putV_eq x t 0];exact T.get_setF x 1 t 0 j (by omega)
   by_cases o:m%2=0
   ·rw [o];cases s:m/2 with
    |zero=>exact ⟨_,_,rfl,by rw [if_pos rfl];exact ⟨rfl,n l⟩⟩
    |succ k=>exact ⟨_,_,rfl,by rw [if_pos rfl];exact ⟨rfl,fun j=>Na F k l x j (by omega)⟩⟩
   ·rw [show m%2=1 by omega]
    cases s:m/2 with
    |zero=>exact ⟨_,_,rfl,by rw [if_neg (by omega)];exact ⟨rfl,n r⟩⟩
    |succ k=>exact ⟨_,_,rfl,by rw [if_neg (by omega)];exact ⟨rfl,fun j=>Na F k r x j (by omega)⟩⟩
  have node:∀(v:Option a) (l r:T a),((L5 (F+1) m).f x (.node v l r)).get j=if m+1=j then x else (T.node v l r).get j:=by
   intro v l r;obtain ⟨d,g,i,b⟩:=key v l r;rw [i];by_cases c:j=0
   ·rw [T.get_zero _ _ _ c,T.get_zero _ _ _ c,if_neg (by omega)]
   ·by_cases p:j%2=1
    ·rw [T.get_odd _ _ _ p,T.get_odd _ _ _ p];by_cases o:m%2=0
     ·rw [if_pos o] at b;rw [b.2];by_cases q:m+1=j
      ·rw [if_pos q,if_pos (by omega)]
      ·rw [if_neg q,if_neg (by omega)]
     ·rw [if_neg o] at b;rw [b.1,if_neg (by omega)]
    ·rw [T.get_even _ _ _ (by omega) c,T.get_even _ _ _ (by omega) c]
     by_cases o:m%2=0
     ·rw [if_pos o] at b;rw [b.1,if_neg (by omega)]
     ·rw [if_neg o] at b;rw [b.2];by_cases q:m+1=j
      ·rw [if_pos q,if_pos (by omega)]
      ·rw [if_neg q,if_neg (by omega)]
  cases t with
  |node v l r=>exact node v l r
  |nil=>
   have i:(L5 (F+1) m).f x (.nil:T a)=(L5 (F+1) m).f x (.node none .nil .nil):=by
    rw [e];cases m/2<;>cases m%2<;>rfl
   have b:((T.node none .nil .nil:T a)).get j=(T.nil:T a).get j:=by
    by_cases c:j=0
    ·rw [T.get_zero _ _ _ c,T.get_nil]
    ·by_cases o:j%2=1
     ·rw [T.get_odd _ _ _ o,T.get_nil,T.get_nil]
     ·rw [T.get_even _ _ _ (by omega) c,T.get_nil,T.get_nil]
   rw [i,node,b]
theorem T.get_put {l:Type} (t:T l) (i j:Nat) (x:Option l):(t.put i x).get j=if i=j then x else t.get j:=by
 cases i with
 |zero=>show (T.putV x t).get j=_;rw [T.putV_eq x t 0];exact T.get_setF x 1 t 0 j (by omega)
 |succ m=>
  show ((ZZ m).f x t).get j=_;unfold ZZ;cases r:Nat.ble m 9223372036854775807 with
  |false=>exact T.get_setF x (m+2) t (m+1) j (by omega)
  |true=>
   have:=hP r;exact Na 64 m t x j (by omega)
theorem T.get_set {l:Type} (t:T l) (i j:Nat) (x:l):(t.set i x).get j=if i=j then some x else t.get j:=T.get_put _ _ _ _
theorem T.get_del {l:Type} (t:T l) (i j:Nat):(t.del i).get j=if i=j then none else t.get j:=T.get_put _ _ _ _
theorem T.get_ofListFrom {I:Type}:∀(l:List I) (i:Nat) (t:T I) (j:Nat),(T.ofListFrom l i t).get j=if i≤j∧j<i+l.length then l[j-i]? else t.get j:=by
 intro l
 induction l with
 |nil=>intro i t j;simp [T.ofListFrom];omega
 |cons x r ih=>
  intro i t j;simp only [T.ofListFrom,ih,T.get_set,kp];by_cases J:i+1≤j∧j<i+1+r.length
  ·rw [if_pos J,if_pos (by omega)]
   have:j-i=(j-(i+1))+1:=by omega
   rw [this,eq]
  ·rw [if_neg J];by_cases h2:i=j
   ·subst h2;rw [if_pos rfl,if_pos (by omega)];simp
   ·rw [if_neg h2,if_neg (by omega)]
theorem T.get_ofList {r:Type} (l:List r) (j:Nat):(T.ofList l).get j=l[j]?:=by
 simp only [T.ofList,T.get_ofListFrom,T.get_nil];by_cases h:j<l.length
 ·rw [if_pos (by omega)];simp
 ·rw [if_neg (by omega)];simp;omega
theorem T.range_spec {α:Type} (t:T α):∀(n i:Nat) (l:List α),t.range i n=some l→l.length=n∧∀j,j<n→t.get (i+j)=l[j]?:=by
 intro n
 induction n with
 |zero=>intro i l h;simp [T.range] at h;subst h;simp
 |succ n ih=>
  intro i l h;simp only [T.range] at h;cases I:t.get i with
  |none=>simp [I] at h
  |some x=>
   simp only [I] at h;cases J:t.range (i+1) n with
   |none=>simp [J] at h
   |some r=>
    simp only [J,C2] at h;subst h;obtain ⟨h1,h2⟩:=ih _ _ J;refine ⟨by simp [h1],fun j hj=>?_⟩
    cases j with
    |zero=>simpa using I
    |succ j=>have:=h2 j (by omega);simp only [eq];rw [←this];congr 1;omega
theorem FN:∀(l:List AV) (c:T AV) (off j:Nat),(Fh c off l).get j=if off≤j∧j<off+l.length then l[j-off]? else c.get j:=by
 intro l
 induction l with
 |nil=>intro c off j;simp [Fh];omega
 |cons x r ih=>
  intro c i j;simp only [Fh,ih,T.get_set,kp];by_cases a:i+1≤j∧j<i+1+r.length
  ·rw [if_pos a,if_pos (by omega)]
   have:j-i=(j-(i+1))+1:=by omega
   rw [this,eq]
  ·rw [if_neg a];by_cases b:i=j
   ·subst b;rw [if_pos rfl,if_pos (by omega)];simp
   ·rw [if_neg b,if_neg (by omega)]
variable [U:Vals]
structure Cr where
 cb:Nat
 co:Nat
 csz:Nat
structure Ren where
 m:Nat→Option Cr
 imm:Nat→Option (Array Value)
instance:CoeFun Ren (fun _=>Nat→Option Cr):=⟨Ren.m⟩
def Ren.empty:Ren:=⟨fun _=>none,fun _=>none⟩
structure Ren.le (ρ σ:Ren):Prop where
 m:∀b base,ρ b=some base→σ b=some base
 imm:∀k a,ρ.imm k=some a→σ.imm k=some a
theorem Ren.le_refl (ρ:Ren):ρ.le ρ:=⟨fun _ _ h=>h,fun _ _ h=>h⟩
theorem Ren.le.trans {ρ l r:Ren} (h:ρ.le l) (k:l.le r):ρ.le r:=⟨fun b base e=>k.m b base (h.m b base e),fun b a e=>k.imm b a (h.imm b a e)⟩
def Ren.upd (ρ:Ren) (b:Nat) (base:Cr):Ren:=⟨fun c=>if c=b then some base else ρ c,ρ.imm⟩
theorem Ren.le_upd {ρ:Ren} {b:Nat} (h:ρ b=none) (base:Cr):ρ.le (ρ.upd b base):=by
 refine ⟨?_,fun _ _ h=>h⟩
 intro c d l;unfold Ren.upd;by_cases e:c=b
 ·subst e;rw [h] at l;cases l
 ·show (if c=b then some base else ρ c)=some d
  rw [if_neg e];exact l
theorem Ren.upd_same (ρ:Ren) (b:Nat) (base:Cr):ρ.upd b base b=some base:=by simp [Ren.upd]
inductive DV (K:TypeId→Option (List Kd)) (M:Nat→Option (Array Value)):Kd→Value→D→Prop
 |bool (b:Bool) (d:D) (h:d.toBool=b):DV K M .bool (.bool b) d
 |int (k:IntKind) (n:Int) (d:D) (hr:k=.i64∨(k.min≤n∧n≤k.max)) (h:d.toInt=n):DV K M (.int k) (.int k n) d
 |str (s:ByteArray) (d:D) (h:d.toStr=s):DV K M .str (.string s) d
 |nil (e:TypeId) (d:D) (h1:d.isNil=true) (h2:d.rows=[]):DV K M (.slice e) (.slice none 0 0) d
 |empty (e:TypeId) (a:Addr) (cap:Nat) (d:D) (h1:d.isNil=false) (h2:d.rows=[]):DV K M (.slice e) (.slice (some a) 0 cap) d
 |slc (e:TypeId) (b off n cap:Nat) (d:D) (ks:List Kd) (arr:Array Value) (hk:K e=some ks) (ha:M b=some arr) (hn:d.rows.length=n) (hc:n≤cap) (h1:d.isNil=false)
   (hin:off+n*ks.length≤arr.size) (hrow:∀i,i<n→(d.rows.getD i default).cells.length=ks.length)
   (hv:∀i j kd,i<n→ks[j]?=some kd→DV K M kd (arr.getD (off+i*ks.length+j) Go.undef) ((d.rows.getD i default).cells.getD j default)) :
   DV K M (.slice e) (.slice (some ⟨b,off,none⟩) n cap) d
omit U in
theorem DV.mono {K:TypeId→Option (List Kd)} {M N:Nat→Option (Array Value)} (hle:∀k a,M k=some a→N k=some a) {k:Kd} {v:Value} {d:D} (h:DV K M k v d):DV K N k v d:=by
 induction h with
 |bool b d h=>exact .bool b d h
 |int k n d hr h=>exact .int k n d hr h
 |str s d h=>exact .str s d h
 |nil e d h1 h2=>exact .nil e d h1 h2
 |empty e a cap d h1 h2=>exact .empty e a cap d h1 h2
 |slc e b off n cap d ks arr hk ha hn hc h1 hin hrow hv ih=>exact .slc e b off n cap d ks arr hk (hle _ _ ha) hn hc h1 hin hrow ih
omit U in
theorem DV.slice_inv {K:TypeId→Option (List Kd)} {M:Nat→Option (Array Value)} {e:TypeId} {v:Value} {d:D} (h:DV K M (.slice e) v d):∃a n c,v=.slice a n c∧d.rows.length=n:=by
 cases h with
 |nil _ _ h1 h2=>exact ⟨_,_,_,rfl,by rw [h2];rfl⟩
 |empty _ _ _ _ h1 h2=>exact ⟨_,_,_,rfl,by rw [h2];rfl⟩
 |slc _ _ _ _ _ _ _ _ hk ha hn=>exact ⟨_,_,_,rfl,hn⟩
def Br (K:TypeId→Option (List Kd)) (M:Nat→Option (Array Value)) (ks:List Kd) (f:Array Value) (off:Nat) (rows:List D):Prop:=
 off+rows.length*ks.length≤f.size∧(∀i,i<rows.length→(rows.getD i default).cells.length=ks.length)∧
  ∀i j kd,i<rows.length→ks[j]?=some kd→DV K M kd (f.getD (off+i*ks.length+j) Go.undef) ((rows.getD i default).cells.getD j default)
omit U in
theorem Br.mono {K:TypeId→Option (List Kd)} {M N:Nat→Option (Array Value)} (hle:∀k a,M k=some a→N k=some a) {ks:List Kd} {cur:Array Value} {off:Nat} {rows:List D} (h:Br K M ks cur off rows):Br K N ks cur off rows:=
 ⟨h.1,h.2.1,fun i j kd a b=>(h.2.2 i j kd a b).mono hle⟩
def U0:List Value→Value
 |[v]=>v
 |l=>.agg l.toArray
def KV (K:TypeId→Option (List Kd)) (M:Nat→Option (Array Value)) (ks:List Kd) (v:Value) (cs:List D):Prop:=
 ∃l:List Value,v=U0 l∧l.length=ks.length∧(∀u,l=[u]→∀a,u≠.agg a)∧∀(j:Nat) kd,ks[j]?=some kd→DV K M kd (l.getD j Go.undef) (cs.getD j default)
omit U in
theorem KV.mono {K:TypeId→Option (List Kd)} {M N:Nat→Option (Array Value)} (hle:∀k a,M k=some a→N k=some a) {ks:List Kd} {v:Value} {cs:List D} (h:KV K M ks v cs):KV K N ks v cs:=by
 obtain ⟨l,h1,h2,h3,h4⟩:=h;exact ⟨l,h1,h2,h3,fun j kd hj=>(h4 j kd hj).mono hle⟩
def Bp (K:TypeId→Option (List Kd)) (M:Nat→Option (Array Value)) (f g:List Kd):List MapEntry→List D→Prop
 |[],[]=>True
 |e::m,r::o=>r.cells.length=f.length+g.length∧KV K M f e.key r.cells∧KV K M g e.val (r.cells.drop f.length)∧Bp K M f g m o
 |_,_=>False
omit U in
theorem Bp.mono {K:TypeId→Option (List Kd)} {M N:Nat→Option (Array Value)} (hle:∀k a,M k=some a→N k=some a) {kks vks:List Kd}:∀{es:List MapEntry} {rs:List D},Bp K M kks vks es rs→Bp K N kks vks es rs
 |[],[],_=>trivial
 |_::_,_::_,⟨h1,h2,h3,h4⟩=>⟨h1,h2.mono hle,h3.mono hle,h4.mono hle⟩
 |[],_::_,h=>h.elim
 |_::_,[],h=>h.elim
omit U in
theorem Bp.length {K:TypeId→Option (List Kd)} {M:Nat→Option (Array Value)} {kks vks:List Kd}:∀{es:List MapEntry} {rs:List D},Bp K M kks vks es rs→es.length=rs.length
 |[],[],_=>rfl
 |_::_,_::_,⟨_,_,_,h4⟩=>by simp [h4.length]
 |[],_::_,h=>h.elim
 |_::_,[],h=>h.elim
def FnR (m:Ren):Fn→Fn→Prop
 |.yield l,g=>∃base,m l=some base∧g=.yield base.cb
 |f,g=>g=f
inductive VR (ρ:Ren):AV→Value→Prop
 |top (v:Value):VR ρ .top v
 |bool (b:Bool):VR ρ (.bool b) (.bool b)
 |int (k:IntKind) (n:Int):VR ρ (.int k n) (.int k n)
 |str (s:ByteArray):VR ρ (.str s.data.toList.length (AB s.data.toList)) (.string s)
 |ptr0:VR ρ .ptr0 (.pointer none)
 |ptr (b off:Nat) (base:Cr) (h:ρ b=some base):VR ρ (.ptr b off) (.pointer (some ⟨base.cb,base.co+off,none⟩))
 |slice0:VR ρ .slice0 (.slice none 0 0)
 |slice (b off n es cap:Nat) (base:Cr) (h:ρ b=some base) (hc:n≤cap) (hz:base.co+off+cap*es≤base.csz) :
   VR ρ (.slice b off n es) (.slice (some ⟨base.cb,base.co+off,none⟩) n cap)
 |sliceEnd (b off es:Nat) (a:Addr):VR ρ (.slice b off 0 es) (.slice (some a) 0 0)
 |map0:VR ρ .map0 (.map none)
 |map (b:Nat) (base:Cr) (h:ρ b=some base):VR ρ (.map b) (.map (some base.cb))
 |func (fn fn':Fn) (f c:List AV) (f' c':List Value) (h:FnR ρ fn fn') (h1:f.length=f'.length)
   (h2:∀(i:Nat) (a:AV) (v:Value),f[i]?=some a→f'[i]?=some v→VR ρ a v) (h3:c.length=c'.length)
   (h4:∀(i:Nat) (a:AV) (v:Value),c[i]?=some a→c'[i]?=some v→VR ρ a v):VR ρ (.func fn f c) (.func fn' f'.toArray c'.toArray)
 |nilFunc:VR ρ .nilFunc .nilFunc
 |iface (t:TypeId) (a:AV) (v:Value) (h:VR ρ a v):VR ρ (.iface t a) (.iface t v)
 |nilIface:VR ρ .nilIface .nilIface
 |agg (l:List AV) (l':List Value) (h1:l.length=l'.length) (h2:∀(i:Nat) (a:AV) (v:Value),l[i]?=some a→l'[i]?=some v→VR ρ a v):VR ρ (.agg l) (.agg l'.toArray)
 |tuple (l:List AV) (l':List Value) (h1:l.length=l'.length) (h2:∀(i:Nat) (a:AV) (v:Value),l[i]?=some a→l'[i]?=some v→VR ρ a v):VR ρ (.tuple l) (.tuple l'.toArray)
 |sb (pos:Bool) (e:SB):VR ρ (.sb pos e) (.bool (Ah U.V e==pos))
 |si (k:IntKind) (e:SE):VR ρ (.si k e) (.int k (Ac U.V e))
 |ss (x:SE):VR ρ (.ss x) (.string (AT U.V x))
 |dat (e:TypeId) (x:SE) (a:Option Addr) (n c:Nat) (h:DV U.K ρ.imm (.slice e) (.slice a n c) (Ab U.V x)):VR ρ (.dat e x) (.slice a n c)
 |dptr (e:TypeId) (x i:SE) (off:Nat) (b o n cap:Nat) (ks:List Kd) (h:DV U.K ρ.imm (.slice e) (.slice (some ⟨b,o,none⟩) n cap) (Ab U.V x)) (hk:U.K e=some ks)
   (h0:0≤Ac U.V i) (hi:(Ac U.V i).toNat<n) (ho:off<ks.length):VR ρ (.dptr e x i off) (.pointer (some ⟨b,o+(Ac U.V i).toNat*ks.length+off,none⟩))
 |asl (b es:Nat) (n nl:SE) (cap:Nat) (base:Cr) (h:ρ b=some base) (h0:0≤Ac U.V n) (hc:(Ac U.V n).toNat≤cap) (hz:base.co+cap*es≤base.csz) (hn:Ah U.V nl=false) :
   VR ρ (.asl b es n nl) (.slice (some ⟨base.cb,base.co,none⟩) (Ac U.V n).toNat cap)
 |aslEnd (b es:Nat) (n nl:SE) (a:Option Addr) (h0:Ac U.V n=0) (hn:a.isNone=Ah U.V nl):VR ρ (.asl b es n nl) (.slice a 0 0)
 |eslc (nl:SE) (a:Option Addr) (hn:a.isNone=Ah U.V nl):VR ρ (.eslc nl) (.slice a 0 0)
 |aptr (b es:Nat) (i:SE) (off:Nat) (base:Cr) (h:ρ b=some base) (h0:0≤Ac U.V i):VR ρ (.aptr b es i off) (.pointer (some ⟨base.cb,base.co+(Ac U.V i).toNat*es+off,none⟩))
 |nmap (b:Nat) (nl:SE) (base:Cr) (h:ρ b=some base) (hn:Ah U.V nl=false):VR ρ (.nmap b nl) (.map (some base.cb))
 |nmap0 (b:Nat) (nl:SE) (hn:Ah U.V nl=true):VR ρ (.nmap b nl) (.map none)
 |stamp (b:Nat) (base:Cr) (h:ρ b=some base):VR ρ (.stamp b) (.int .i64 (base.co:Nat))
 |glob (g off:Nat):VR ρ (.glob g off) (.pointer (some ⟨g,off,none⟩))
 |fsl (b off n es:Nat) (base:Cr) (h:ρ b=some base) (hz:base.co+off+n*es≤base.csz) :
   VR ρ (.fsl b off n es) (.slice (some ⟨base.cb,base.co+off,none⟩) n n)
def VL (ρ:Ren) (l:List AV) (l':List Value):Prop:=l.length=l'.length∧∀(i:Nat) (a:AV) (v:Value),l[i]?=some a→l'[i]?=some v→VR ρ a v
theorem VL.nil (ρ:Ren):VL ρ [] []:=⟨rfl,by simp⟩
theorem VL.cons {ρ:Ren} {a:AV} {v:Value} {l:List AV} {l':List Value} (h:VR ρ a v) (k:VL ρ l l'):VL ρ (a::l) (v::l'):=by
 refine ⟨by simp [k.1],fun i x y r t=>?_⟩
 cases i with
 |zero=>simp at r t;subst r;subst t;exact h
 |succ i=>simp at r t;exact k.2 i x y r t
theorem VL.nil_inv {ρ:Ren} {l':List Value} (h:VL ρ [] l'):l'=[]:=by
 have:=h.1;simp at this;exact ie this.symm
theorem VL.cons_inv {ρ:Ren} {a:AV} {l:List AV} {l':List Value} (h:VL ρ (a::l) l'):∃v r,l'=v::r∧VR ρ a v∧VL ρ l r:=by
 cases l' with
 |nil=>have:=h.1;simp at this
 |cons v r=>exact ⟨v,r,rfl,h.2 0 a v rfl rfl,by have:=h.1;simpa using this,fun i x y t I=>h.2 (i+1) x y (by simpa using t) (by simpa using I)⟩
theorem VL.append {ρ:Ren} {l m:List AV} {l' I:List Value} (h:VL ρ l l') (k:VL ρ m I):VL ρ (l++m) (l'++I):=by
 refine ⟨by simp [h.1,k.1],fun i x y r t=>?_⟩
 by_cases hi:i<l.length
 ·rw [R2 hi] at r;rw [R2 (by rw [←h.1];exact hi)] at t
  exact h.2 i x y r t
 ·rw [Ts (by omega)] at r
  rw [Ts (by rw [←h.1];omega),←h.1] at t
  exact k.2 _ x y r t
theorem VL.get {ρ:Ren} {l:List AV} {l':List Value} (h:VL ρ l l') {i:Nat} {a:AV} (ha:l[i]?=some a):∃v,l'[i]?=some v∧VR ρ a v:=by
 have hi:i<l.length:=(Id.1 ha).1;have hi':i<l'.length:=by rw [←h.1];exact hi
 exact ⟨l'[i],by simp [hi'],h.2 i a _ ha (by simp [hi'])⟩
theorem VL.drop {ρ:Ren} {l:List AV} {l':List Value} (h:VL ρ l l') (n:Nat):VL ρ (l.drop n) (l'.drop n):=
 ⟨by simp [h.1],fun i a v ha hv=>h.2 (n+i) a v (by simpa using ha) (by simpa using hv)⟩
theorem VL.take {ρ:Ren} {l:List AV} {l':List Value} (h:VL ρ l l') (n:Nat):VL ρ (l.take n) (l'.take n):=by
 refine ⟨by simp [h.1],fun i a v ha hv=>?_⟩
 rw [pi] at ha hv;by_cases e:i<n
 ·rw [if_pos e] at ha hv;exact h.2 i a v ha hv
 ·rw [if_neg e] at ha;cases ha
theorem FnR.mono {ρ r:Ren} (hle:ρ.le r) {f g:Fn} (h:FnR ρ f g):FnR r f g:=by
 cases f<;>simp only [FnR] at h ⊢<;>first|exact h | (obtain ⟨base,h1,h2⟩:=h;exact ⟨base,hle.m _ _ h1,h2⟩)
theorem VR.mono {ρ σ:Ren} (hle:ρ.le σ) {a:AV} {v:Value} (h:VR ρ a v):VR σ a v:=by
 induction h with
 |top v=>exact .top v
 |bool b=>exact .bool b
 |int k n=>exact .int k n
 |str s=>exact .str s
 |ptr0=>exact .ptr0
 |ptr b off base h=>exact .ptr b off base (hle.m _ _ h)
 |slice0=>exact .slice0
 |slice b off n es cap base h hc I=>exact .slice b off n es cap base (hle.m _ _ h) hc I
 |sliceEnd b off es a=>exact .sliceEnd b off es a
 |map0=>exact .map0
 |map b base h=>exact .map b base (hle.m _ _ h)
 |func fn J f c f' c' h h1 h2 h3 h4 al an=>exact .func fn J f c f' c' (h.mono hle) h1 al h3 an
 |nilFunc=>exact .nilFunc
 |iface t a v h ih=>exact .iface t a v ih
 |nilIface=>exact .nilIface
 |agg l l' h1 h2 ih=>exact .agg l l' h1 ih
 |tuple l l' h1 h2 ih=>exact .tuple l l' h1 ih
 |sb pos e=>exact .sb pos e
 |si k e=>exact .si k e
 |ss x=>exact .ss x
 |dat e x a n c h=>exact .dat e x a n c (h.mono hle.imm)
 |dptr e x i off b o n cap ks h hk r hi ho=>exact .dptr e x i off b o n cap ks (h.mono hle.imm) hk r hi ho
 |asl b es n nl cap base h r hc I hn=>exact .asl b es n nl cap base (hle.m _ _ h) r hc I hn
 |aslEnd b es n nl a r hn=>exact .aslEnd b es n nl a r hn
 |eslc nl a hn=>exact .eslc nl a hn
 |aptr b es i off base h r=>exact .aptr b es i off base (hle.m _ _ h) r
 |nmap b nl base h hn=>exact .nmap b nl base (hle.m _ _ h) hn
 |nmap0 b nl hn=>exact .nmap0 b nl hn
 |stamp b base h=>exact .stamp b base (hle.m _ _ h)
 |glob g off=>exact .glob g off
 |fsl b off n es base h I=>exact .fsl b off n es base (hle.m _ _ h) I
theorem VL.mono {ρ r:Ren} (hle:ρ.le r) {l:List AV} {l':List Value} (h:VL ρ l l'):VL r l l':=⟨h.1,fun i a v ha hv=>(h.2 i a v ha hv).mono hle⟩
theorem VR.undef (ρ:Ren):VR ρ .undef Go.undef:=.tuple [] [] rfl (by simp)
structure TR (ρ:Ren) (nt:Nat) (t:T AV) (a:Array Value):Prop where
 size:a.size=nt
 get:∀i x,t.get i=some x→VR ρ x (a.getD i Go.undef)
theorem TR.mono {ρ r:Ren} (hle:ρ.le r) {nt:Nat} {t:T AV} {a:Array Value} (h:TR ρ nt t a):TR r nt t a:=⟨h.size,fun i x I=>(h.get i x I).mono hle⟩
def DR (g:Ren) (d:AD) (m:Deferred):Prop:=
 match d.fn with
 |some fn=>∃f o p,FnR g fn f∧VL g d.captured o∧VL g d.args p∧m={target:=.fn f o.toArray,args:=p.toArray}
 |none=>∃base,g d.coll=some base∧m={target:=.collected base.cb,args:=#[]}
def DL (f:Ren):List AD→List Deferred→Prop
 |[],[]=>True
 |d::r,g::m=>DR f d g∧DL f r m
 |_,_=>False
theorem DR.mono {ρ t:Ren} (hle:ρ.le t) {d:AD} {I:Deferred} (h:DR ρ d I):DR t d I:=by
 unfold DR at *;cases J:d.fn with
 |none=>rw [J] at h;obtain ⟨base,h1,h2⟩:=h;exact ⟨base,hle.m _ _ h1,h2⟩
 |some fn=>rw [J] at h;obtain ⟨r,c',a',h1,h2,h3,h4⟩:=h;exact ⟨r,c',a',h1.mono hle,h2.mono hle,h3.mono hle,h4⟩
theorem DL.mono {ρ r:Ren} (hle:ρ.le r):∀{l:List AD} {t:List Deferred},DL ρ l t→DL r l t
 |[],[],_=>trivial
 |_::_,_::_,⟨h1,h2⟩=>⟨h1.mono hle,h2.mono hle⟩
theorem DL.append {ρ:Ren}:∀{l:List AD} {l':List Deferred} {m:List AD} {r:List Deferred},DL ρ l l'→DL ρ m r→DL ρ (l++m) (l'++r)
 |[],[],_,_,_,h=>h
 |_::_,_::_,_,_,⟨h1,h2⟩,h=>⟨h1,DL.append h2 h⟩
def ER (ρ:Ren):List AA→List MapEntry→Prop
 |[],[]=>True
 |e::r,f::g=>VR ρ e.key f.key∧VR ρ e.val f.val∧f.born=e.born∧ER ρ r g
 |_,_=>False
theorem ER.mono {ρ r:Ren} (hle:ρ.le r):∀{l:List AA} {t:List MapEntry},ER ρ l t→ER r l t
 |[],[],_=>trivial
 |_::_,_::_,⟨h1,h2,h3,h4⟩=>⟨h1.mono hle,h2.mono hle,h3,h4.mono hle⟩
def Inc (es:List MapEntry) (f:Nat):Prop:=(es.map (·.born)).Pairwise (· < ·)∧∀b∈es.map (·.born),b<f
omit U in
theorem Inc.nil (c:Nat):Inc [] c:=⟨List.Pairwise.nil,fun b hb=>by cases hb⟩
omit U in
theorem Inc.push {es:List MapEntry} {c:Nat} (h:Inc es c) (k v:Value):Inc (es++[{key:=k,val:=v,born:=c}]) (c+1):=by
 obtain ⟨h1,h2⟩:=h;refine ⟨?_,fun b hb=>?_⟩
 ·rw [List.map_append,List.pairwise_append];refine ⟨h1,by simp,fun a ha b hb=>?_⟩
  simp only [Ad9,List.map_nil,vv] at hb;subst hb;exact h2 a ha
 ·rw [List.map_append] at hb;rcases ue.1 hb with q|q
  ·have:=h2 b q;omega
  ·simp only [Ad9,List.map_nil,vv] at q;omega
omit U in
theorem Kv {f:MapEntry→MapEntry} (hf:∀e,(f e).born=e.born):∀(n:Nat) (es:List MapEntry),(es.modify n f).map (·.born)=es.map (·.born)
 |_,[]=>by simp
 |0,e::es=>by simp [hf]
 |n+1,e::es=>by simp [Kv hf n es]
omit U in
theorem Inc.modify {es:List MapEntry} {c:Nat} (h:Inc es c) {f:MapEntry→MapEntry} (hf:∀e,(f e).born=e.born) (n:Nat):Inc (es.modify n f) c:=by
 unfold Inc;rw [Kv hf];exact h
theorem PI {ρ:Ren}:∀(es:List AA) (g:List MapEntry) (lo c:Nat),Zm lo es c=true→ER ρ es g→(∀b∈g.map (·.born),lo≤b)∧Inc g c
 |[],[],lo,c,_,_=>⟨fun b hb=>(by cases hb),Inc.nil c⟩
 |e::r,w::o,lo,c,h,p=>by
  obtain ⟨h1,h2,h3,h4⟩:=p;simp only [Zm,F4] at h;obtain ⟨⟨a1,a2⟩,a3⟩:=h;have a1:=hP a1;have a2:e.born<c:=hP a2;obtain ⟨m,t,u⟩:=PI r o (e.born+1) c a3 h4;refine ⟨fun b hb=>?_,?_,fun b hb=>?_⟩
  ·rw [Ad9] at hb;rcases gk.1 hb with q|q
   ·omega
   ·have:=m b q;omega
  ·rw [Ad9,List.pairwise_cons];exact ⟨fun b hb=>by have:=m b hb;omega,t⟩
  ·rw [Ad9] at hb;rcases gk.1 hb with q|q
   ·omega
   ·exact u b q
 |[],_::_,_,_,_,h=>h.elim
 |_::_,[],_,_,_,h=>h.elim
def BR (ρ:Ren) (x:Am) (base:Cr) (o:Option Obj):Prop:=
 match x with
 |.cells n c=>∃cur e r,o=some (.cells cur e r)∧cur.size=base.csz∧base.co+n≤base.csz∧(r.1=r.2∨base.csz≤r.1)∧
   ∀i a,i<n→c.get i=some a→∃v,cur[base.co+i]?=some v∧VR ρ a v
 |.arr e x=>∃ks cur w r,U.K e=some ks∧o=some (.cells cur w r)∧cur.size=base.csz∧(r.1=r.2∨base.csz≤r.1)∧Br U.K ρ.imm ks cur base.co (Ab U.V x).rows
 |.hole e x i j a=>∃ks cur w r u v,U.K e=some ks∧o=some (.cells cur w r)∧cur.size=base.csz∧(r.1=r.2∨base.csz≤r.1)∧
   Br U.K ρ.imm ks (cur.setIfInBounds (base.co+(Ac U.V i).toNat*ks.length+j) u) base.co (Ab U.V x).rows∧(Ac U.V i).toNat<(Ab U.V x).rows.length∧j<ks.length∧
   cur[base.co+(Ac U.V i).toNat*ks.length+j]?=some v∧VR ρ a v
 |.map es g=>∃p:List MapEntry,o=some (.map p.toArray g)∧ER ρ es p
 |.dmap y z x=>∃kks vks,∃p:List MapEntry,∃g,U.K y=some kks∧U.K z=some vks∧o=some (.map p.toArray g)∧Bp U.K ρ.imm kks vks p (Ab U.V x).rows∧Inc p g
 |.dmapS y z x n b=>∃kks vks,∃p:List MapEntry,∃g,U.K y=some kks∧U.K z=some vks∧o=some (.map p.toArray g)∧Bp U.K ρ.imm kks vks p (Ab U.V x).rows∧Inc p g∧∃A,ρ b=some A∧(p[(Ac U.V n).toNat]?).map (·.born)=some A.co
 |.loop st pending fn nt tmps params assign body d=>∃tm B,ρ d=some B∧TR ρ nt tmps tm∧
   o=some (.loop {state:=st,pending:=pending,fn:=fn,tmps:=tm,params:=params.toArray,assign:=assign,body:=body,defers:=B.cb})
 |.deferred F=>match F with
  |none=>o=some (.deferred none)
  |some l=>∃C,DL ρ l C∧o=some (.deferred (some C))
 |.mapIter m t seen last=>base.co=0∧(match m with
  |none=>o=some (.mapIter none t seen.toArray last)
  |some b=>∃E,ρ b=some E∧o=some (.mapIter (some E.cb) t seen.toArray last))
 |.strIter l b pos=>base.co=0∧∃s:ByteArray,l=s.data.toList.length∧b=AB s.data.toList∧o=some (.stringIter s pos)
theorem BR.mono {ρ σ:Ren} (hle:ρ.le σ) {x:Am} {base:Cr} {o:Option Obj} (h:BR ρ x base o):BR σ x base o:=by
 cases x with
 |cells n c=>
  obtain ⟨cur,e,I,h1,h2,h3,h4,t⟩:=h;exact ⟨cur,e,I,h1,h2,h3,h4,fun i a hi ha=>let ⟨v,hv,hr⟩:=t i a hi ha;⟨v,hv,hr.mono hle⟩⟩
 |arr e x=>obtain ⟨ks,cur,J,I,h1,h2,h3,h4,t⟩:=h;exact ⟨ks,cur,J,I,h1,h2,h3,h4,t.mono hle.imm⟩
 |hole e x i j a=>obtain ⟨ks,cur,J,I,u,v,h1,h2,h3,h4,t,h6,h7,h8,h9⟩:=h;exact ⟨ks,cur,J,I,u,v,h1,h2,h3,h4,t.mono hle.imm,h6,h7,h8,h9.mono hle⟩
 |map es al=>obtain ⟨r,h1,h2⟩:=h;exact ⟨r,h1,h2.mono hle⟩
 |dmap kt vt x=>obtain ⟨kks,vks,r,c,h1,h2,h3,h4,t⟩:=h;exact ⟨kks,vks,r,c,h1,h2,h3,h4.mono hle.imm,t⟩
 |dmapS kt vt x n b=>obtain ⟨kks,vks,r,c,h1,h2,h3,h4,t,bs,h6,h7⟩:=h;exact ⟨kks,vks,r,c,h1,h2,h3,h4.mono hle.imm,t,bs,hle.m _ _ h6,h7⟩
 |loop st pending fn nt tmps params assign body d=>obtain ⟨tm,bd,h1,h2,h3⟩:=h;exact ⟨tm,bd,hle.m _ _ h1,h2.mono hle,h3⟩
 |deferred ds=>cases ds with
  |none=>exact h
  |some l=>obtain ⟨l',h1,h2⟩:=h;exact ⟨l',h1.mono hle,h2⟩
 |mapIter m an seen last=>cases m with
  |none=>exact h
  |some b=>obtain ⟨h0,bm,h1,h2⟩:=h;exact ⟨h0,bm,hle.m _ _ h1,h2⟩
 |strIter l b pos=>exact h
def ScR:AV→Value→Prop
 |.int k n,v=>v=.int k n
 |.bool b,v=>v=.bool b
 |_,_=>False
def ID (M:Nat→Option (Array Value)):Prop:=∀g l,Gl.tab.get g=some l→∃arr,M g=some arr∧∀(i:Nat) (a:AV),l[i]?=some a→∃v,arr[i]?=some v∧ScR a v
omit U in
theorem ID.mono {M N:Nat→Option (Array Value)} (hle:∀k a,M k=some a→N k=some a) (h:ID M):ID N:=fun g l hg=>let ⟨arr,h1,h2⟩:=h g l hg;⟨arr,hle _ _ h1,h2⟩
theorem ScR.vr {r:Ren} {a:AV} {v:Value} (h:ScR a v):VR r a v:=by
 cases a<;>first | (cases h;done)|skip
 ·cases h;exact .bool _
 ·cases h;exact .int _ _
structure HR (ρ:Ren) (g:Nat→Option Am) (w:World):Prop where
 lt:∀b base,ρ b=some base→base.cb<w.heap.size
 blk:∀b base x,ρ b=some base→g b=some x→BR ρ x base w.heap[base.cb]?
 apart:∀b b' base base',b≠b'→ρ b=some base→ρ b'=some base'→g b≠none→g b'≠none→base.cb≠base'.cb
 imm:∀k arr,ρ.imm k=some arr→∃e fz,w.heap[k]?=some (.cells arr e fz)
 off:∀k arr b base,ρ.imm k=some arr→ρ b=some base→g b≠none→base.cb≠k
 glob:ID ρ.imm
theorem HR.immLt {ρ:Ren} {g:Nat→Option Am} {w:World} (h:HR ρ g w) {k:Nat} {arr:Array Value} (hk:ρ.imm k=some arr):k<w.heap.size:=by
 obtain ⟨e,r,h1⟩:=h.imm k arr hk;exact (Array.getElem?_eq_some_iff.1 h1).1
theorem HR.restrict {ρ:Ren} {g r:Nat→Option Am} {w:World} (h:HR ρ g w) (hg:∀b,r b=none∨r b=g b):HR ρ r w:=by
 have live:∀b,r b≠none→g b≠none:=by
  intro b hb;rcases hg b with e|e
  ·exact absurd e hb
  ·exact e▸hb
 refine ⟨h.lt,fun b base x hb t=>?_,fun b b' base base' I hb J h1 h2=>h.apart b b' base base' I hb J (live b h1) (live b' h2),h.imm,fun k arr b base hk hb hl=>h.off k arr b base hk hb (live b hl),h.glob⟩
 rcases hg b with e|e
 ·rw [e] at t;cases t
 ·exact h.blk b base x hb (e▸t)
structure G8 (w w':World):Prop where
 os:w'.os=w.os
 tape:w'.tape=w.tape
 output:w'.output=w.output
 size:w.heap.size≤w'.heap.size
theorem G8.refl (w:World):G8 w w:=⟨rfl,rfl,rfl,IqQ _⟩
theorem G8.trans {a b c:World} (h:G8 a b) (k:G8 b c):G8 a c:=⟨k.os.trans h.os,k.tape.trans h.tape,k.output.trans h.output,l8 h.size k.size⟩
structure Ext (ρ σ:Ren) (h h':Aa) (w w':World):Prop where
 le:ρ.le σ
 nx:h.nx≤h'.nx
 new:∀b base,σ b=some base→ρ b=some base∨(h.nx≤b∧b<h'.nx∧(w.heap.size≤base.cb∨∃b0 base0,ρ b0=some base0∧h.blk.get b0≠none∧base0.cb=base.cb))
 calm:G8 w w'
 kept:∀k,k<w.heap.size→(∀b base,ρ b=some base→h.blk.get b≠none→base.cb≠k)→w'.heap[k]?=w.heap[k]?
 log:∃l,h'.log=l++h.log∧∀b,b∉l→(b<h.nx∨h'.nx≤b)→h'.blk.get b=h.blk.get b
 live:∀b,h'.blk.get b≠none→h.blk.get b≠none∨(h.nx≤b∧b<h'.nx)
 imm:∀k arr,σ.imm k=some arr→ρ.imm k=some arr∨w.heap.size≤k∨∃b0 base0,ρ b0=some base0∧h.blk.get b0≠none∧base0.cb=k
def AX (ρ:Ren) (n m:Nat):Prop:=∀b,n≤b→b<m→ρ b=none
theorem Ext.refl (ρ:Ren) (h:Aa) (w:World):Ext ρ ρ h h w w:=
 ⟨Ren.le_refl ρ,IqQ _,fun _ _ e=>.inl e,G8.refl w,fun _ _ _=>rfl,⟨[],rfl,fun _ _ _=>rfl⟩,fun _ e=>.inl e,fun _ _ e=>.inl e⟩
theorem Ext.free {ρ r:Ren} {h h':Aa} {w t:World} (e:Ext ρ r h h' w t) {m:Nat} (f:AX ρ h.nx m):AX r h'.nx m:=by
 intro b hb I;have:=e.nx;cases J:r b with
 |none=>rfl
 |some base=>
  rcases e.new b base J with h1|⟨_,h2,_⟩
  ·rw [f b (by omega) I] at h1;cases h1
  ·omega
theorem Ext.trans {ρ σ τ:Ren} {h h1 h2:Aa} {w w1 w2:World} (e:Ext ρ σ h h1 w w1) (k:Ext σ τ h1 h2 w1 w2) (f:AX ρ h.nx h2.nx):Ext ρ τ h h2 w w2:=by
 have n1:=e.nx;have n2:=k.nx;have hs:=e.calm.size
 have al:∀b base,σ b=some base→h1.blk.get b≠none→(ρ b=some base∧h.blk.get b≠none)∨(w.heap.size≤base.cb∨∃b0 r,ρ b0=some r∧h.blk.get b0≠none∧r.cb=base.cb):=by
  intro b base hb hl;rcases e.new b base hb with h3|⟨_,_,h3⟩
  ·rcases e.live b hl with h4|⟨h4,I⟩
   ·exact .inl ⟨h3,h4⟩
   ·rw [f b h4 (by omega)] at h3;cases h3
  ·exact .inr h3
 refine ⟨e.le.trans k.le,by omega,?_,e.calm.trans k.calm,?_,?_,?_,?_⟩
 ·intro b base hb;rcases k.new b base hb with h3|⟨h3,h4,I⟩
  ·rcases e.new b base h3 with J|⟨J,h7,h8⟩
   ·exact .inl J
   ·exact .inr ⟨J,by omega,h8⟩
  ·refine .inr ⟨by omega,h4,?_⟩
   rcases I with I|⟨b0,r,J,h7,h8⟩
   ·exact .inl (by omega)
   ·rcases al b0 r J h7 with ⟨h9,an⟩|h9|⟨b1,t,h9,an,ar⟩
    ·exact .inr ⟨b0,r,h9,an,h8⟩
    ·exact .inl (by omega)
    ·exact .inr ⟨b1,t,h9,an,ar.trans h8⟩
 ·intro j hj hn;rw [k.kept j (by omega) ?_,e.kept j hj hn]
  intro b base hb hl;rcases al b base hb hl with ⟨h3,h4⟩|h3|⟨b0,r,h3,h4,I⟩
  ·exact hn b base h3 h4
  ·omega
  ·rw [←I];exact hn b0 r h3 h4
 ·obtain ⟨l,hl,av⟩:=e.log;obtain ⟨m,hm,bd⟩:=k.log;refine ⟨m++l,by rw [hm,hl,Aeo],fun b hb hr=>?_⟩
  simp only [ue,not_or] at hb;rw [bd b hb.1 (by omega),av b hb.2 (by omega)]
 ·intro b hb;rcases k.live b hb with h3|⟨h3,h4⟩
  ·rcases e.live b h3 with I|⟨I,J⟩
   ·exact .inl I
   ·exact .inr ⟨I,by omega⟩
  ·exact .inr ⟨by omega,h4⟩
 ·intro j arr hj;rcases k.imm j arr hj with h3|h3|⟨b0,r,h3,h4,I⟩
  ·exact e.imm j arr h3
  ·exact .inr (.inl (by omega))
  ·rcases al b0 r h3 h4 with ⟨J,h7⟩|J|⟨b1,t,J,h7,h8⟩
   ·exact .inr (.inr ⟨b0,r,J,h7,I⟩)
   ·exact .inr (.inl (by omega))
   ·exact .inr (.inr ⟨b1,t,J,h7,h8.trans I⟩)
theorem HR.new {ρ:Ren} {h:Aa} {w:World} (hr:HR ρ h.blk.get w) (hf:ρ h.nx=none) (x:Am) (o:Obj) (csz:Nat)
  (ar:BR (ρ.upd h.nx ⟨w.heap.size,0,csz⟩) x ⟨w.heap.size,0,csz⟩ (some o)) (I:World) (hw:I.heap=w.heap.push o) (av:I.os=w.os) (ht:I.tape=w.tape) (ho:I.output=w.output) :
  HR (ρ.upd h.nx ⟨w.heap.size,0,csz⟩) (h.new x).blk.get I∧Ext ρ (ρ.upd h.nx ⟨w.heap.size,0,csz⟩) h (h.new x) w I:=by
 have hle:=Ren.le_upd hf ⟨w.heap.size,0,csz⟩;have t:∀k,k<w.heap.size→I.heap[k]?=w.heap[k]?:=fun k hk=>by rw [hw,Array.getElem?_push,if_neg (by omega)]
 have bd:I.heap.size=w.heap.size+1:=by rw [hw];simp
 have r:∀b base,ρ.upd h.nx ⟨w.heap.size,0,csz⟩ b=some base→(b=h.nx∧base=⟨w.heap.size,0,csz⟩)∨(b≠h.nx∧ρ b=some base):=by
  intro b base hb;simp only [Ren.upd] at hb;by_cases e:b=h.nx
  ·rw [if_pos e] at hb;exact .inl ⟨e,by simpa using hb.symm⟩
  ·rw [if_neg e] at hb;exact .inr ⟨e,hb⟩
 refine ⟨⟨?_,?_,?_,?_,?_,hr.glob⟩,⟨hle,Nat.le_succ _,?_,⟨av,ht,ho,by omega⟩,fun k hk _=>t k hk,⟨[],rfl,?_⟩,?_,fun _ _ e=>.inl e⟩⟩
 ·intro b base hb;rcases r b base hb with ⟨_,rfl⟩|⟨_,h1⟩
  ·show w.heap.size<_;omega
  ·have:=hr.lt b base h1;omega
 ·intro b base y hb hy;simp only [Aa.new,T.get_set] at hy;rcases r b base hb with ⟨rfl,rfl⟩|⟨J,h1⟩
  ·rw [if_pos rfl] at hy;cases hy;have:I.heap[w.heap.size]?=some o:=by rw [hw];simp
   rw [this];exact ar
  ·rw [if_neg (fun e=>J e.symm)] at hy
   rw [t _ (hr.lt b base h1)];exact (hr.blk b base y h1 hy).mono hle
 ·intro b b' base base' J hb al h1 h2;simp only [Aa.new,T.get_set] at h1 h2;rcases r b base hb with ⟨rfl,rfl⟩|⟨hn,h3⟩
  ·rcases r b' base' al with ⟨e,_⟩|⟨an,h4⟩
   ·exact absurd e.symm J
   ·have:=hr.lt b' base' h4;show w.heap.size≠_;omega
  ·rcases r b' base' al with ⟨rfl,rfl⟩|⟨an,h4⟩
   ·have:=hr.lt b base h3;show _≠w.heap.size;omega
   ·rw [if_neg (fun e=>hn e.symm)] at h1
    rw [if_neg (fun e=>an e.symm)] at h2
    exact hr.apart b b' base base' J h3 h4 h1 h2
 ·intro k arr hk;rw [t k (hr.immLt hk)];exact hr.imm k arr hk
 ·intro k arr b base hk hb hl;rcases r b base hb with ⟨rfl,rfl⟩|⟨hn,h3⟩
  ·have:=hr.immLt (k:=k) (arr:=arr) hk;show w.heap.size≠k;omega
  ·simp only [Aa.new,T.get_set] at hl;rw [if_neg (fun e=>hn e.symm)] at hl
   exact hr.off k arr b base hk h3 hl
 ·intro b base hb;rcases r b base hb with ⟨rfl,rfl⟩|⟨_,h1⟩
  ·exact .inr ⟨IqQ _,Nat.lt_succ_self _,.inl (IqQ _)⟩
  ·exact .inl h1
 ·intro b _ hb;simp only [Aa.new,T.get_set] at hb ⊢;rw [if_neg (by omega)]
 ·intro b hb;simp only [Aa.new,T.get_set] at hb ⊢;by_cases e:h.nx=b
  ·exact .inr ⟨by omega,by omega⟩
  ·rw [if_neg e] at hb;exact .inl hb
theorem HR.stamp {ρ:Ren} {h:Aa} {w:World} (hr:HR ρ h.blk.get w) (hf:ρ h.nx=none) {r:Nat} {base:Cr} (hb:ρ r=some base) (hl:h.blk.get r≠none) (s:Nat) :
  HR (ρ.upd h.nx ⟨base.cb,s,base.csz⟩) h.stampN.blk.get w∧Ext ρ (ρ.upd h.nx ⟨base.cb,s,base.csz⟩) h h.stampN w w:=by
 have hle:=Ren.le_upd hf ⟨base.cb,s,base.csz⟩;have get:∀b,h.stampN.blk.get b=if h.nx=b then none else h.blk.get b:=fun b=>T.get_del _ _ _
 have live:∀b,h.stampN.blk.get b≠none→h.nx≠b∧h.blk.get b≠none:=by
  intro b h1;rw [get] at h1;by_cases e:h.nx=b
  ·rw [if_pos e] at h1;exact absurd rfl h1
  ·rw [if_neg e] at h1;exact ⟨e,h1⟩
 have t:∀b c,ρ.upd h.nx ⟨base.cb,s,base.csz⟩ b=some c→(b=h.nx∧c=⟨base.cb,s,base.csz⟩)∨(b≠h.nx∧ρ b=some c):=by
  intro b c hb;simp only [Ren.upd] at hb;by_cases e:b=h.nx
  ·rw [if_pos e] at hb;exact .inl ⟨e,by simpa using hb.symm⟩
  ·rw [if_neg e] at hb;exact .inr ⟨e,hb⟩
 refine ⟨⟨?_,?_,?_,hr.imm,?_,hr.glob⟩,⟨hle,Nat.le_succ _,?_,G8.refl w,fun _ _ _=>rfl,⟨[],rfl,?_⟩,?_,fun _ _ e=>.inl e⟩⟩
 ·intro b c hc;rcases t b c hc with ⟨_,rfl⟩|⟨_,h1⟩
  ·exact hr.lt r base hb
  ·exact hr.lt b c h1
 ·intro b c y hc hy;rcases t b c hc with ⟨rfl,_⟩|⟨I,h1⟩
  ·rw [get,if_pos rfl] at hy;cases hy
  ·rw [get,if_neg (fun e=>I e.symm)] at hy
   exact (hr.blk b c y h1 hy).mono hle
 ·intro b b' c c' I hc al h1 h2;obtain ⟨n1,l1⟩:=live b h1;obtain ⟨n2,l2⟩:=live b' h2;rcases t b c hc with ⟨e,_⟩|⟨_,h3⟩
  ·exact absurd e.symm n1
  ·rcases t b' c' al with ⟨e,_⟩|⟨_,h4⟩
   ·exact absurd e.symm n2
   ·exact hr.apart b b' c c' I h3 h4 l1 l2
 ·intro k arr b c hk hc h1;obtain ⟨n1,l1⟩:=live b h1;rcases t b c hc with ⟨e,_⟩|⟨_,h3⟩
  ·exact absurd e.symm n1
  ·exact hr.off k arr b c hk h3 l1
 ·intro b c hc;rcases t b c hc with ⟨rfl,rfl⟩|⟨_,h1⟩
  ·exact .inr ⟨IqQ _,Nat.lt_succ_self _,.inr ⟨r,base,hb,hl,rfl⟩⟩
  ·exact .inl h1
 ·intro b _ J;rw [get,if_neg (by simp only [Aa.stampN] at J;omega)]
 ·intro b J;exact .inl (live b J).2
theorem HR.put {ρ:Ren} {h:Aa} {w:World} (hr:HR ρ h.blk.get w) {r:Nat} {base:Cr} (hb:ρ r=some base) (J:h.blk.get r≠none) (x:Am)
  (I:World) (hx:BR ρ x base I.heap[base.cb]?) (al:I.heap.size=w.heap.size) (t:∀k,k≠base.cb→I.heap[k]?=w.heap[k]?) (an:I.os=w.os) (ht:I.tape=w.tape) (ho:I.output=w.output) :
  HR ρ (h.put r x).blk.get I∧Ext ρ ρ h (h.put r x) w I:=by
 have live:∀b,(h.put r x).blk.get b≠none→h.blk.get b≠none:=by
  intro b h1;simp only [Aa.put,T.get_set] at h1;by_cases e:r=b
  ·subst e;exact J
  ·rw [if_neg e] at h1;exact h1
 refine ⟨⟨fun b c hc=>al▸hr.lt b c hc,?_,?_,fun k arr hk=>by rw [t k (hr.off k arr r base hk hb J).symm];exact hr.imm k arr hk,fun k arr b c hk hc h1=>hr.off k arr b c hk hc (live b h1),hr.glob⟩,⟨Ren.le_refl ρ,IqQ _,fun _ _ e=>.inl e,⟨an,ht,ho,by omega⟩,?_,⟨[r],rfl,?_⟩,?_,fun _ _ e=>.inl e⟩⟩
 ·intro b c y hc hy;simp only [Aa.put,T.get_set] at hy;by_cases e:r=b
  ·subst e;rw [if_pos rfl] at hy;cases hy;rw [hb] at hc;cases hc;exact hx
  ·rw [if_neg e] at hy;rw [t _ (hr.apart b r c base (fun h=>e h.symm) hc hb (by rw [hy];simp) J)]
   exact hr.blk b c y hc hy
 ·intro b b' c c' ar hc av h1 h2;simp only [Aa.put,T.get_set] at h1 h2;refine hr.apart b b' c c' ar hc av ?_ ?_
  ·by_cases e:r=b
   ·subst e;exact J
   ·rw [if_neg e] at h1;exact h1
  ·by_cases e:r=b'
   ·subst e;exact J
   ·rw [if_neg e] at h2;exact h2
 ·intro k hk hn;exact t k (fun e=>hn r base hb J e.symm)
 ·intro b bd _;simp only [Aa.put,T.get_set];rw [if_neg (fun e=>bd (by simp [e]))]
 ·intro b h1;simp only [Aa.put,T.get_set] at h1;by_cases e:r=b
  ·subst e;exact .inl J
  ·rw [if_neg e] at h1;exact .inl h1
theorem HR.same {ρ:Ren} {g:Nat→Option Am} {w t:World} (hr:HR ρ g w) (r:t.heap=w.heap):HR ρ g t:=
 ⟨fun b base h=>r▸hr.lt b base h,fun b base x h I=>r▸hr.blk b base x h I,hr.apart,fun k arr hk=>r▸hr.imm k arr hk,hr.off,hr.glob⟩
end Go.AE
namespace Go.AE
variable [Gl:AC]
variable [U:Unk]
structure OK (E:Env):Prop where
 ty:∀t i,E.ty.get t=some i→E.P.info? t=some i
 fn:∀f x,E.fn.get f=some x→E.P.funcs[f]?=some x
 num:∀f x,E.fn.get f=some x→(x.name == "runtime.NumGoroutine")=false
 clone:∀f x,E.fn.get f=some x→x.body=none→x.name = "maps.clone"→Extern.findNext x=none∧Extern.find x=some Extern.MapsClone.clone
 ixb:∀f x,E.fn.get f=some x→x.body=none→x.name = "internal/bytealg.IndexByteString"→Extern.findNext x=none∧Extern.find x=some Extern.BytealgIndexByte.indexByte
 cnt:∀f x,E.fn.get f=some x→x.body=none→x.name = "internal/bytealg.CountString"→Extern.findNext x=none∧Extern.find x=some Extern.BytealgCount.count
 mixed:E.P.follows .mixedOrders=true
 kd:U.K=(Env.of E.P).kinds
 ke:E.kinds=(Env.of E.P).kinds
 gl:E.gl=Gl.tab
 ox:∀f l,E.ox.get f=some l→∀e∈l,e∈E.orc
section
variable {E:Env} (hE:OK E)
include hE
theorem OK.und {t:TypeId} {d:TypeDesc} (h:E.desc t=some d):E.P.underlying t=some d:=by
 unfold Env.desc at h;cases hi:E.ty.get t with
 |none=>simp [hi] at h
 |some i=>
  simp only [hi] at h;have h1:=hE.ty t i hi;unfold Program.underlying;rw [h1];cases i with
  |mk desc str size bytes l al r zero I J=>
   cases desc<;>simp only [C2] at h ⊢<;>first|exact h|skip
   rename_i n u;cases hu:E.ty.get u with
   |none=>simp [hu] at h
   |some j=>simp only [hu,C2] at h;rw [hE.ty u j hu];simpa using h
theorem OK.run_und {t:TypeId} {d:TypeDesc} (h:E.desc t=some d) (w:World):(underlying t).run E.P w=.ok d w:=by
 simp [underlying,hE.und h]
theorem OK.run_info {t:TypeId} {i:TypeInfo} (h:E.ty.get t=some i) (w:World):(typeInfo t).run E.P w=.ok i w:=by
 simp [typeInfo,hE.ty t i h]
theorem OK.run_sz {t:TypeId} {i:TypeInfo} (h:E.ty.get t=some i) (w:World):(sizeOf t).run E.P w=.ok i.size w:=by
 simp [sizeOf,hE.run_info h]
omit hE in
theorem XA {t:TypeId} {d:TypeDesc} (h:E.desc t=some d):∃i,E.ty.get t=some i∧E.size t=i.size:=by
 unfold Env.desc at h;cases hi:E.ty.get t with
 |none=>simp [hi] at h
 |some i=>exact ⟨i,rfl,by simp [Env.size,hi]⟩
theorem OK.run_size {t:TypeId} {d:TypeDesc} (h:E.desc t=some d) (w:World):(sizeOf t).run E.P w=.ok (E.size t) w:=by
 obtain ⟨i,l,r⟩:=XA h;rw [r];exact hE.run_sz l w
theorem OK.run_has {t:TypeId} (h:E.has t=true) (w:World):(sizeOf t).run E.P w=.ok (E.size t) w:=by
 unfold Env.has at h;cases hi:E.ty.get t with
 |none=>simp [hi] at h
 |some i=>rw [hE.run_sz hi];simp [Env.size,hi]
theorem OK.run_szIs {t:TypeId} {n:Nat} (h:E.szIs t n=true) (w:World):(sizeOf t).run E.P w=.ok n w:=by
 unfold Env.szIs at h;cases hi:E.ty.get t with
 |none=>simp [hi] at h
 |some i=>simp only [hi] at h;rw [hE.run_sz hi,Ax h]
theorem OK.run_isAgg {t:TypeId} {d:TypeDesc} (h:E.desc t=some d) (w:World):(isAgg t).run E.P w=.ok (Fd d) w:=by
 simp only [isAgg,F9,hE.run_und h,E1];cases d<;>simp [Fd]
omit hE in
theorem GF {t:TypeId} {z:AV} (h:E.zero t=some z):∃i v,E.ty.get t=some i∧i.zero=some v∧ofValue v=some z:=by
 unfold Env.zero at h;cases hi:E.ty.get t with
 |none=>simp [hi] at h
 |some i=>
  simp only [hi] at h;cases hz:i.zero with
  |none=>simp [hz] at h
  |some v=>simp only [hz] at h;exact ⟨i,v,rfl,hz,h⟩
omit hE in
theorem KH (ρ:Ren) {v:Value} {a:AV} (h:A2 v=some a):VR ρ a v:=by
 cases v with
 |bool b=>simp [A2] at h;subst h;exact .bool b
 |int k n=>simp [A2] at h;subst h;exact .int k n
 |string s=>simp only [A2,C2] at h;subst h;exact .str s
 |pointer p=>cases p<;>simp [A2] at h;subst h;exact .ptr0
 |slice p l c=>
  cases p with
  |some a=>simp [A2] at h
  |none=>cases l with
   |succ n=>simp [A2] at h
   |zero=>cases c with
    |succ n=>simp [A2] at h
    |zero=>simp [A2] at h;subst h;exact .slice0
 |map r=>cases r<;>simp [A2] at h;subst h;exact .map0
 |nilFunc=>simp [A2] at h;subst h;exact .nilFunc
 |nilIface=>simp [A2] at h;subst h;exact .nilIface
 |_=>simp [A2] at h
omit hE in
theorem Pr (ρ:Ren):∀{l:List Value} {as:List AV},C0 l=some as→VL ρ as l:=by
 intro l
 induction l with
 |nil=>intro as h;simp [C0] at h;subst h;exact VL.nil ρ
 |cons v r ih=>
  intro as h;simp only [C0] at h;cases hv:A2 v with
  |none=>simp [hv] at h
  |some a=>
   cases hr:C0 r with
   |none=>simp [hv,hr] at h
   |some as'=>simp only [hv,hr,C2] at h;subst h;exact VL.cons (KH ρ hv) (ih hr)
omit hE in
theorem AZ (ρ:Ren) {v:Value} {a:AV} (h:ofValue v=some a):VR ρ a v:=by
 cases v with
 |agg c=>
  simp only [ofValue] at h;cases hc:C0 c.toList with
  |none=>simp [hc] at h
  |some l=>
   simp only [hc,C2] at h;subst h;have:=Pr ρ hc;exact .agg l c.toList this.1 this.2
 |_=>exact KH ρ (by simpa [ofValue] using h)
omit hE in
theorem VR.cells {ρ:Ren} {a:AV} {v:Value} (h:VR ρ a v) (ht:a≠.top):VL ρ a.cells v.cells.toList:=by
 cases h with
 |top v=>exact absurd rfl ht
 |agg l l' h1 h2=>exact ⟨h1,h2⟩
 |bool b=>exact VL.cons (.bool b) (VL.nil ρ)
 |int k n=>exact VL.cons (.int k n) (VL.nil ρ)
 |str s=>exact VL.cons (.str s) (VL.nil ρ)
 |ptr0=>exact VL.cons .ptr0 (VL.nil ρ)
 |ptr b off base h=>exact VL.cons (.ptr b off base h) (VL.nil ρ)
 |slice0=>exact VL.cons .slice0 (VL.nil ρ)
 |slice b off n es cap base h hc hz=>exact VL.cons (.slice b off n es cap base h hc hz) (VL.nil ρ)
 |sliceEnd b off es a=>exact VL.cons (.sliceEnd b off es a) (VL.nil ρ)
 |map0=>exact VL.cons .map0 (VL.nil ρ)
 |map b base h=>exact VL.cons (.map b base h) (VL.nil ρ)
 |func fn fn' f c f' c' h h1 h2 h3 h4=>exact VL.cons (.func fn fn' f c f' c' h h1 h2 h3 h4) (VL.nil ρ)
 |nilFunc=>exact VL.cons .nilFunc (VL.nil ρ)
 |iface t a v h=>exact VL.cons (.iface t a v h) (VL.nil ρ)
 |nilIface=>exact VL.cons .nilIface (VL.nil ρ)
 |tuple l l' h1 h2=>exact VL.cons (.tuple l l' h1 h2) (VL.nil ρ)
 |sb pos e=>exact VL.cons (.sb pos e) (VL.nil ρ)
 |si k e=>exact VL.cons (.si k e) (VL.nil ρ)
 |ss i=>exact VL.cons (.ss i) (VL.nil ρ)
 |dat e x a n c h=>exact VL.cons (.dat e x a n c h) (VL.nil ρ)
 |dptr e x i off b o n cap ks h hk h0 hi ho=>exact VL.cons (.dptr e x i off b o n cap ks h hk h0 hi ho) (VL.nil ρ)
 |asl b es n nl cap base h h0 hc hz hn=>exact VL.cons (.asl b es n nl cap base h h0 hc hz hn) (VL.nil ρ)
 |aslEnd b es n nl a h0 hn=>exact VL.cons (.aslEnd b es n nl a h0 hn) (VL.nil ρ)
 |eslc nl a hn=>exact VL.cons (.eslc nl a hn) (VL.nil ρ)
 |aptr b es i off base h h0=>exact VL.cons (.aptr b es i off base h h0) (VL.nil ρ)
 |nmap b nl base h hn=>exact VL.cons (.nmap b nl base h hn) (VL.nil ρ)
 |nmap0 b nl hn=>exact VL.cons (.nmap0 b nl hn) (VL.nil ρ)
 |stamp b base h=>exact VL.cons (.stamp b base h) (VL.nil ρ)
 |glob g off=>exact VL.cons (.glob g off) (VL.nil ρ)
 |fsl b off n es base h hz=>exact VL.cons (.fsl b off n es base h hz) (VL.nil ρ)
theorem OK.run_zero {t:TypeId} {z:AV} (ρ:Ren) (h:E.zero t=some z) (w:World):∃v,(zeroValue t).run E.P w=.ok v w∧ofValue v=some z:=by
 obtain ⟨i,v,h1,h2,h3⟩:=GF h;exact ⟨v,by simp [zeroValue,hE.run_info h1,h2],h3⟩
theorem OK.run_part {ρ:Ren} {t:TypeId} {cs:List AV} {cs':List Value} {off:Nat} {a:AV} (h:CC E t cs off=some a) (hc:VL ρ cs cs') (w:World) :
  ∃v,(part t cs'.toArray off).run E.P w=.ok v w∧VR ρ a v:=by
 unfold CC at h;cases J:E.desc t with
 |none=>simp [J] at h
 |some d=>
  simp only [J] at h;unfold part;simp only [F9,hE.run_isAgg J,E1];cases I:Fd d with
  |true=>
   simp only [I,C2] at h;subst h;simp only [if_true,F9,hE.run_size J,E1,LE];refine ⟨_,rfl,?_⟩
   have e:cs'.toArray.extract off (off+E.size t)=((cs'.drop off).take (E.size t)).toArray:=by
    simp [List.extract_toArray]
   rw [e];exact .agg _ _ ((hc.drop off).take _).1 ((hc.drop off).take _).2
  |false=>
   simp only [I] at h;obtain ⟨v,hv,hr⟩:=hc.get h;simp only [ei,ws,sf,hv];exact ⟨v,rfl,hr⟩
end
end Go.AE
namespace Go.AE
variable [Gl:AC]
variable [U:Unk]
theorem C8 {i j:Nat} (h:Nat.ble i j=true):i≤j:=hP h
theorem Ik {i j:Nat} (h:Nat.blt i j=true):i<j:=hP h
theorem Au {a b:Bool} (h:(a&&b)=true):a=true∧b=true:=by simpa using h
theorem orF {a b:Bool} (h:(a||b)=true):a=true∨b=true:=by simpa using h
theorem BZ (b o n:Nat):(⟨b,o,none⟩:Addr).add n=⟨b,o+n,none⟩:=by
 unfold Addr.add;split
 ·next h=>subst h;rfl
 ·rfl
section
variable {ρ:Ren} {g:Nat→Option Am} {w:World}
theorem HR.cell (r:HR ρ g w) {b n i:Nat} {base:Cr} {c:T AV} {a:AV} (t:ρ b=some base) (I:g b=some (.cells n c)) (hi:i<n) (J:c.get i=some a) :
  ∃v,w.cell? ⟨base.cb,base.co+i,none⟩=some v∧VR ρ a v:=by
 obtain ⟨al,e,fz,h1,h2,h3,h4,h5⟩:=r.blk b base _ t I;obtain ⟨v,hv,l⟩:=h5 i a hi J;exact ⟨v,by simp [World.cell?,h1,hv],l⟩
theorem C7 (P:Program) (b o:Nat):∀(c:List Value) (i:Nat) (a:Array Value),(∀j v,c[j]?=some v→w.cell? ⟨b,o+(i+j),none⟩=some v)→
  (loadCellsFrom ⟨b,o,none⟩ i c.length a).run P w=.ok (a++c.toArray) w:=by
 intro c
 induction c with
 |nil=>intro i a _;simp [loadCellsFrom]
 |cons v r ih=>
  intro i a h;have d:=h 0 v rfl;simp only [n0] at d;simp only [kp,loadCellsFrom,F9,run_load,BZ,d,E1];rw [ih (i+1) (a.push v) (fun j u e=>by have:=h (j+1) u (by simpa using e);rwa [show i+(j+1)=i+1+j from by omega] at this)]
  simp
theorem HR.loadCells (hr:HR ρ g w) (P:Program) {b n off k:Nat} {base:Cr} {c:T AV} {l:List AV} (hb:ρ b=some base) (hg:g b=some (.cells n c)) (hk:off+k≤n) (hl:c.range off k=some l) :
  ∃r:List Value,VL ρ l r∧(loadCells ⟨base.cb,base.co+off,none⟩ k).run P w=.ok r.toArray w∧(∀j v,r[j]?=some v→w.cell? ⟨base.cb,base.co+off+j,none⟩=some v):=by
 obtain ⟨av,J⟩:=T.range_spec c k off l hl
 have an:∀m,m≤k→∃r:List Value,r.length=m∧∀j,j<m→∃a v,l[j]?=some a∧r[j]?=some v∧VR ρ a v∧w.cell? ⟨base.cb,base.co+off+j,none⟩=some v:=by
  intro m
  induction m with
  |zero=>intro _;exact ⟨[],rfl,fun j h=>absurd h (hH _)⟩
  |succ m ih=>
   intro hm;obtain ⟨r,h1,h2⟩:=ih (by omega)
   have al:m<l.length:=by omega
   have ha:c.get (off+m)=some l[m]:=by rw [J m (by omega)];simp [al]
   obtain ⟨v,t,ar⟩:=hr.cell hb hg (by omega) ha
   refine ⟨r++[v],by simp [h1],fun j hj=>?_⟩
   by_cases e:j<m
   ·obtain ⟨a,u,q1,q2,q3,q4⟩:=h2 j e;exact ⟨a,u,q1,by rw [R2 (by omega)];exact q2,q3,q4⟩
   ·have:j=m:=by omega
    subst this;exact ⟨l[j],v,by simp [al],by rw [Ts (by omega)];simp [h1],ar,by rw [←t];congr 2;omega⟩
 obtain ⟨r,h1,h2⟩:=an k (IqQ k)
 have I:∀j v,r[j]?=some v→w.cell? ⟨base.cb,base.co+off+j,none⟩=some v:=by
  intro j v t;have hj:j<k:=by have:=(Id.1 t).1;omega
  obtain ⟨a,u,q1,q2,q3,q4⟩:=h2 j hj;rw [q2] at t;cases t;exact q4
 refine ⟨r,⟨by omega,fun i a v ha t=>?_⟩,?_,I⟩
 ·have hi:i<k:=by have:=(Id.1 t).1;omega
  obtain ⟨a',v',q1,q2,q3,_⟩:=h2 i hi;rw [q1] at ha;rw [q2] at t;cases ha;cases t;exact q3
 ·unfold Go.loadCells;have:=C7 (w:=w) P base.cb (base.co+off) r 0 #[] (fun j v t=>by simpa using I j v t)
  rw [h1] at this;simpa using this
theorem BN (P:Program) (b o:Nat) (e:TypeId) (m:Nat×Nat):∀(l:List Value) (i:Nat) (w:World) (a:Array Value),w.heap[b]?=some (.cells a e m)→o+i+l.length≤a.size→
  (m.1=m.2∨a.size≤m.1)→(∀v∈l,v.oneCell'=true)→
  ∃d c,(storeCells ⟨b,o,none⟩ l i).run P w=.ok () d∧d.heap[b]?=some (.cells c e m)∧c.size=a.size∧(∀j,c[j]?=if o+i≤j∧j<o+i+l.length then l[j-(o+i)]? else a[j]?)∧
   d.heap.size=w.heap.size∧(∀k,k≠b→d.heap[k]?=w.heap[k]?)∧d.os=w.os∧d.tape=w.tape∧d.output=w.output:=by
 intro l
 induction l with
 |nil=>
  intro i w a n y p x;exact ⟨w,a,by simp [storeCells],n,rfl,fun j=>by rw [if_neg (by simp)],rfl,fun _ _=>rfl,rfl,rfl,rfl⟩
 |cons v r ih=>
  intro i w a n y p x;have A:=x v (by simp)
  simp only [kp] at y;have q:o+i<a.size:=by omega
  have f:w.cell? ⟨b,o+i,none⟩=some a[o+i]:=by simp [World.cell?,n,q]
  have s:w.frozen? ⟨b,o+i,none⟩=false:=by
   simp only [World.frozen?,n];rcases p with p|p
   ·simp;omega
   ·simp;omega
  have L:b<w.heap.size:=(Array.getElem?_eq_some_iff.1 n).1
  have t:(w.setCell ⟨b,o+i,none⟩ v).heap[b]?=some (.cells (a.setIfInBounds (o+i) v) e m):=by
   simp only [World.setCell,Array.getElem?_modify];simp [n]
  obtain ⟨d,c,B,C,D,E,F,G,H,I,J⟩:=ih (i+1) (w.setCell ⟨b,o+i,none⟩ v) (a.setIfInBounds (o+i) v) t (by simp;omega) (by simpa using p) (fun u K=>x u (by simp [K]))
  refine ⟨d,c,?_,C,by simpa using D,?_,?_,?_,?_,?_,?_⟩
  ·simp only [storeCells,F9,BZ,run_store _ _ _ _ _ A,f,s];simpa using B
  ·intro j;rw [E j];simp only [kp];by_cases c1:o+(i+1)≤j∧j<o+(i+1)+r.length
   ·rw [if_pos c1,if_pos (by omega)]
    have:j-(o+i)=(j-(o+(i+1)))+1:=by omega
    rw [this,eq]
   ·rw [if_neg c1];by_cases c2:j=o+i
    ·subst c2;rw [if_pos (by omega)]
     simp [q]
    ·rw [if_neg (by omega),pv (fun h=>c2 h.symm)]
  ·rw [F];simp [World.setCell]
  ·intro k z;rw [G k z];simp only [World.setCell,Array.getElem?_modify];rw [if_neg (fun h=>z h.symm)]
  ·rw [H];rfl
  ·rw [I];rfl
  ·rw [J];rfl
theorem VR.one {a:AV} {v:Value} (h:VR ρ a v) (l:a.one=true):v.oneCell'=true:=by
 cases h<;>simp_all [AV.one,Value.oneCell']
theorem HZ:∀{l:List AV} {b:List Value},Ez l=true→VL ρ l b→∀v∈b,v.oneCell'=true:=by
 intro l
 induction l with
 |nil=>intro b _ h;rw [h.nil_inv];simp
 |cons a r ih=>
  intro b c f;obtain ⟨v,k,rfl,i,j⟩:=f.cons_inv;simp only [Ez] at c;cases d:a.one with
  |false=>simp [d] at c
  |true=>
   simp only [d] at c;intro u e;rcases gk.1 e with rfl|e
   ·exact i.one d
   ·exact ih c j u e
end
theorem HR.storeN {ρ:Ren} {h h':Aa} {w:World} (hr:HR ρ h.blk.get w) (P:Program) {b off:Nat} {base:Cr} {l:List AV} {l':List Value} (hb:ρ b=some base) (I:VL ρ l l') (r:storeN h b off l=some h') :
  ∃t,(storeCells ⟨base.cb,base.co+off,none⟩ l' 0).run P w=.ok () t∧HR ρ h'.blk.get t∧Ext ρ ρ h h' w t:=by
 unfold AE.storeN at r;cases J:h.blk.get b with
 |none=>simp [J] at r
 |some x=>
  cases x with
  |cells n c=>
   simp only [J] at r;cases hc:(Nat.ble (off+l.length) n&&Ez l) with
   |false=>simp [hc] at r
   |true=>
    simp only [hc,C2] at r;subst r;obtain ⟨c1,c2⟩:=Au hc;have av:=C8 c1;obtain ⟨an,e,fz,h1,h2,h3,h4,h5⟩:=hr.blk b base _ hb J;obtain ⟨t,al,q1,q2,q3,q4,q5,q6,q7,q8,q9⟩:=BN P base.cb (base.co+off) e fz l' 0 w an h1 (by rw [←I.1,h2];omega) (by rw [h2];exact h4) (HZ c2 I)
    refine ⟨t,q1,?_⟩;refine hr.put hb (by rw [J];simp) _ t ?_ q5 q6 q7 q8 q9
    refine ⟨al,e,fz,q2,by rw [q3,h2],h3,h4,?_⟩
    intro i a hi ha;rw [FN] at ha;rw [q4 (base.co+i)];simp only [n0];by_cases c:off≤i∧i<off+l.length
    ·rw [if_pos c] at ha;rw [if_pos (by rw [←I.1];omega)]
     obtain ⟨v,hv,ar⟩:=I.get ha;exact ⟨v,by rw [←hv];congr 1;omega,ar⟩
    ·rw [if_neg c] at ha;rw [if_neg (by rw [←I.1];omega)]
     exact h5 i a hi ha
  |_=>simp [J] at r
theorem HR.newRow {ρ:Ren} {h:Aa} {w:World} (I:HR ρ h.blk.get w) (t:ρ h.nx=none) (e:TypeId) {n:Nat} {c:T AV} (arr:Array Value) (J:n≤arr.size)
  (hc:∀i a,i<n→c.get i=some a→∃v,arr[i]?=some v∧VR ρ a v) :
  ∃l:Ren,l h.nx=some ⟨w.heap.size,0,arr.size⟩∧HR l (h.new (.cells n c)).blk.get {w with heap:=w.heap.push (.cells arr e)}∧
  Ext ρ l h (h.new (.cells n c)) w {w with heap:=w.heap.push (.cells arr e)}:=by
 refine ⟨ρ.upd h.nx ⟨w.heap.size,0,arr.size⟩,Ren.upd_same _ _ _,?_⟩;refine I.new t _ _ _ ?_ _ rfl rfl rfl rfl;refine ⟨_,_,_,rfl,rfl,by simpa using J,.inl rfl,?_⟩
 intro i a hi ha;obtain ⟨v,hv,r⟩:=hc i a hi ha;exact ⟨v,by simpa using hv,r.mono (Ren.le_upd t _)⟩
theorem HR.newList {ρ:Ren} {h:Aa} {w:World} (hr:HR ρ h.blk.get w) (hf:ρ h.nx=none) (e:TypeId) {l:List AV} (arr:Array Value) (I:VL ρ l arr.toList) :
  ∃r:Ren,r h.nx=some ⟨w.heap.size,0,arr.size⟩∧HR r (Bx h l).blk.get {w with heap:=w.heap.push (.cells arr e)}∧
  Ext ρ r h (Bx h l) w {w with heap:=w.heap.push (.cells arr e)}:=by
 refine hr.newRow hf e arr (by have:=I.1;simp at this;omega) ?_
 intro i a hi J;rw [T.get_ofList] at J;obtain ⟨v,hv,t⟩:=I.get J;exact ⟨v,by simpa using hv,t⟩
end Go.AE

