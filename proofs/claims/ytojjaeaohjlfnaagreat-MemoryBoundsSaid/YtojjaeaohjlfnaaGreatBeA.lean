/- What is proved here: an evaluator of the model's steps that the kernel can run, and that whatever it answers is what the model does (part 1 of 7: Ae, AeRel, AeOps1, AeOps2). Conditions: those that each theorem states; they hold of no one program. -/
import GoSem.Step
import Derived.Calls
import Derived.Laws.Sem
set_option linter.unusedVariables false
set_option linter.unusedSectionVars false
set_option linter.unusedSimpArgs false
namespace Go.AE
abbrev C2:=@Option.some.injEq
abbrev F0:=@Go.Result.andThen_ok
abbrev F2:=@Option.some_ne_none
abbrev F4:=@List.getD_eq_getElem?_getD
abbrev F9:=@Bool.and_eq_true
abbrev L1:=@Go.Sem.run_bind
abbrev L2:=@List.getElem?_eq_some_iff
abbrev R2:=@Nat.le_refl
abbrev Ts:=@Go.Sem.run_pure
abbrev gg:=@Array.getD_eq_getD_getElem?
abbrev gk:=@Nat.eq_of_beq_eq_true
abbrev gy:=@List.getElem?_cons_zero
abbrev hH:=@Nat.lt_or_ge
abbrev hP:=@List.getElem?_append_left
abbrev hS:=@List.getElem?_append_right
abbrev hX:=@Nat.not_lt_zero
abbrev ie:=@Bool.false_eq_true
abbrev iv:=@List.getElem?_cons_succ
abbrev i0:=@List.mem_cons
abbrev kp:=@Nat.le_of_ble_eq_true
abbrev k0:=@Prod.mk.injEq
abbrev la:=@List.eq_nil_of_length_eq_zero
abbrev ll:=@Nat.mul_le_mul_right
abbrev lp:=@decide_eq_false
abbrev l0:=@decide_eq_true_eq
abbrev n0:=@List.length_cons
abbrev oj:=@Array.getElem?_toList
abbrev pc:=@List.length_append
abbrev pv:=@decide_eq_true
abbrev qs:=@Nat.add_zero
abbrev q0:=@List.getElem?_drop
abbrev sd:=@List.getElem_of_mem
abbrev sf:=@Nat.le_trans
abbrev s0:=@Nat.zero_add
abbrev tl:=@List.mem_of_getElem?
abbrev ud:=@decide_eq_false_iff_not
abbrev ue:=@Int.eq_ofNat_of_zero_le
abbrev vv:=@List.getElem?_take
abbrev vx:=@Option.map_some
abbrev vy:=@Array.getElem?_setIfInBounds_ne
abbrev y0:=@cond_false
abbrev Aen:=@Nat.add_mul
abbrev Aeo:=@List.getElem?_map
abbrev Aep:=@List.getElem?_toArray
abbrev Aeq:=@List.getElem?_eq_none
abbrev Aer:=@cond_true
abbrev Aes:=@List.mem_append
abbrev Aet:=@List.getElem_mem
abbrev Aeu:=@List.mem_singleton
abbrev Aev:=@List.getElem?_eq_getElem
abbrev Aew:=@Bool.or_eq_true
abbrev Aex:=@Nat.zero_le
abbrev Aey:=@if_false
abbrev Aez:=@Go.run_newObj
abbrev Ae0:=@Array.getElem?_append_left
abbrev Ae1:=@List.mem_cons_of_mem
abbrev Ae2:=@List.map_cons
abbrev Ae3:=@Nat.add_assoc
abbrev Ae4:=@Bool.not_eq_true'
abbrev Ae5:=@Int.mul_le_mul_of_nonneg_left
abbrev Ae6:=@List.length_nil
abbrev Ae7:=@List.mem_cons_self
abbrev Ae8:=@Int.le_refl
abbrev Ae9:=@Nat.add_sub_cancel_left
abbrev Afa:=@Int.toNat_natCast
abbrev Afb:=@List.getElem?_range
abbrev Afc:=@List.mem_append_right
abbrev Afd:=@Option.getD_some
abbrev Afe:=@Int.mul_le_mul_of_nonneg_right
abbrev Aff:=@Bool.true_and
inductive T(α:Type) where
 |nil
 |node (v:Option α) (l r:T α)
 deriving Inhabited
def T.get0{t:Type}:T t→Nat→Option t
 |.nil,_=>none
 |.node v l r,i=>
  match Nat.beq i 0 with
  |true=>v
  |false=>match Nat.beq (i%2) 1 with
   |true=>l.get0 (i/2)
   |false=>r.get0 (i/2-1)
def T.setF{I:Type}:Nat→T I→Nat→Option I→T I
 |0,t,_,_=>t
 |f+1,.nil,i,x=>
  match Nat.beq i 0 with
  |true=>.node x .nil .nil
  |false=>match Nat.beq (i%2) 1 with
   |true=>.node none (T.setF f .nil (i/2) x) .nil
   |false=>.node none .nil (T.setF f .nil (i/2-1) x)
 |f+1,.node v l r,i,x=>
  match Nat.beq i 0 with
  |true=>.node x l r
  |false=>match Nat.beq (i%2) 1 with
   |true=>.node v (T.setF f l (i/2) x) r
   |false=>.node v l (T.setF f r (i/2-1) x)
structure Sel(α:Type) where
 f:T α→Option α
structure Upd(α:Type) where
 f:Option α→T α→T α
def T.val{l:Type}(t:T l):Option l:=T.casesOn (motive:=fun _=>Option l) t none (fun v _ _=>v)
def T.putV{I:Type}(x:Option I)(t:T I):T I:=T.casesOn (motive:=fun _=>T I) t (.node x .nil .nil) (fun _ l r=>.node x l r)
def YH{a:Type}(F:Nat):Nat→Sel a:=Nat.rec (motive:=fun _=>Nat→Sel a) (fun _=>⟨fun _=>none⟩)
 (fun _ ih m=>Nat.casesOn (motive:=fun _=>Sel a) (Nat.div m 2)
  (Nat.casesOn (motive:=fun _=>Sel a) (Nat.mod m 2)
   ⟨fun t=>T.casesOn (motive:=fun _=>Option a) t none (fun _ l _=>T.val l)⟩
   (fun _=>⟨fun t=>T.casesOn (motive:=fun _=>Option a) t none (fun _ _ r=>T.val r)⟩))
  (fun k=>Nat.casesOn (motive:=fun _=>Sel a) (Nat.mod m 2)
   ⟨fun t=>T.casesOn (motive:=fun _=>Option a) t none (fun _ l _=>(ih k).f l)⟩
   (fun _=>⟨fun t=>T.casesOn (motive:=fun _=>Option a) t none (fun _ _ r=>(ih k).f r)⟩))) F
def Mj{a:Type}(F:Nat):Nat→Upd a:=Nat.rec (motive:=fun _=>Nat→Upd a) (fun _=>⟨fun _ t=>t⟩)
 (fun _ ih m=>Nat.casesOn (motive:=fun _=>Upd a) (Nat.div m 2)
  (Nat.casesOn (motive:=fun _=>Upd a) (Nat.mod m 2)
   ⟨fun x t=>T.casesOn (motive:=fun _=>T a) t (.node none (T.putV x .nil) .nil) (fun v l r=>.node v (T.putV x l) r)⟩
   (fun _=>⟨fun x t=>T.casesOn (motive:=fun _=>T a) t (.node none .nil (T.putV x .nil)) (fun v l r=>.node v l (T.putV x r))⟩))
  (fun k=>Nat.casesOn (motive:=fun _=>Upd a) (Nat.mod m 2)
   ⟨fun x t=>T.casesOn (motive:=fun _=>T a) t (.node none ((ih k).f x .nil) .nil) (fun v l r=>.node v ((ih k).f x l) r)⟩
   (fun _=>⟨fun x t=>T.casesOn (motive:=fun _=>T a) t (.node none .nil ((ih k).f x .nil)) (fun v l r=>.node v l ((ih k).f x r))⟩))) F
def aN{a:Type}(m:Nat):Sel a:=Bool.casesOn (motive:=fun _=>Sel a) (Nat.ble m 9223372036854775807) ⟨fun t=>T.get0 t (m+1)⟩ (YH 64 m)
def aF{a:Type}(m:Nat):Upd a:=Bool.casesOn (motive:=fun _=>Upd a) (Nat.ble m 9223372036854775807) ⟨fun x t=>T.setF (m+2) t (m+1) x⟩ (Mj 64 m)
def T.get{l:Type}(t:T l)(i:Nat):Option l:=Nat.casesOn (motive:=fun _=>Option l) i (T.val t) (fun m=>(aN m).f t)
def T.put{l:Type}(t:T l)(i:Nat)(x:Option l):T l:=Nat.casesOn (motive:=fun _=>T l) i (T.putV x t) (fun m=>(aF m).f x t)
def T.set{l:Type}(t:T l)(i:Nat)(x:l):T l:=t.put i (some x)
def T.del{l:Type}(t:T l)(i:Nat):T l:=t.put i none
def T.ofListFrom{l:Type}:List l→Nat→T l→T l
 |[],_,t=>t
 |x::r,i,t=>T.ofListFrom r (i+1) (t.set i x)
def T.ofList{r:Type}(l:List r):T r:=T.ofListFrom l 0 .nil
def T.range{l:Type}(t:T l)(i:Nat):Nat→Option (List l)
 |0=>some []
 |n+1=>match t.get i with
  |some x=>match t.range (i+1) n with
   |some r=>some (x::r)
   |none=>none
  |none=>none
inductive D where
 |bool (b:Bool)
 |int (n:Int)
 |str (s:ByteArray)
 |slc (nl:Bool) (rows:List D)
 |row (cells:List D)
 deriving Inhabited
def D.toInt:D→Int
 |.int n=>n
 |_=>0
def D.toBool:D→Bool
 |.bool b=>b
 |_=>false
def D.toStr:D→ByteArray
 |.str s=>s
 |_=>.empty
def D.rows:D→List D
 |.slc _ l=>l
 |_=>[]
def D.cells:D→List D
 |.row l=>l
 |_=>[]
def D.isNil:D→Bool
 |.slc b _=>b
 |_=>false
inductive Kd where
 |int (k:IntKind)
 |bool
 |str
 |slice (e:TypeId)
 deriving DecidableEq,Inhabited
inductive SE where
 |c (n:Int)
 |var (i:Nat)
 |lenS (a:SE)
 |lenL (a:SE)
 |arith (op:BinOp) (k:IntKind) (a b:SE)
 |conv (k:IntKind) (a:SE)
 |lss (a b:SE)
 |eql (a b:SE)
 |eqS (a:SE) (l b:Nat)
 |eqSS (a b:SE)
 |isNil (a:SE)
 |bc (b:Bool)
 |neg (a:SE)
 |and (a b:SE)
 |nilIs (a b:SE)
 |strc (l b:Nat)
 |strAt (a i:SE)
 |strCat (a b:SE)
 |strSub (a lo hi:SE)
 |cell (a i:SE) (j:Nat)
 |sel (a:SE) (j:Nat)
 |nilL
 |emptyL
 |snoc (a r:SE)
 |upd (a i:SE) (j:Nat) (x:SE)
 |rep (n r:SE)
 |cat (a b:SE)
 |sub (a lo hi:SE)
 |rnil
 |rcons (x r:SE)
 |app (f:Nat) (x:SE)
 |bytes (a:SE)
 |ofBytes (a:SE)
 |mIdx (ks:List Kd) (a k:SE)
 |rmv (a i:SE)
 deriving Inhabited
abbrev SB:=SE
inductive AV where
 |top
 |bool (b:Bool)
 |int (k:IntKind) (n:Int)
 |str (len bits:Nat)
 |ptr0
 |ptr (b off:Nat)
 |slice0
 |slice (b off len es:Nat)
 |map0
 |map (b:Nat)
 |func (fn:Fn) (first captured:List AV)
 |nilFunc
 |iface (t:TypeId) (v:AV)
 |nilIface
 |agg (cells:List AV)
 |tuple (vs:List AV)
 |sb (pos:Bool) (e:SB)
 |si (k:IntKind) (e:SE)
 |ss (x:SE)
 |dat (e:TypeId) (x:SE)
 |dptr (e:TypeId) (x i:SE) (off:Nat)
 |asl (b es:Nat) (n nl:SE)
 |eslc (nl:SE)
 |aptr (b es:Nat) (i:SE) (off:Nat)
 |nmap (b:Nat) (nl:SE)
 |stamp (b:Nat)
 |glob (g off:Nat)
 |fsl (b off n es:Nat)
 deriving Inhabited
def AV.undef:AV:=.tuple []
def AC:List UInt8→Nat
 |[]=>0
 |b::r=>b.toNat+256*AC r
def AV.isTop:AV→Bool
 |.top=>true
 |_=>false
def AV.cells:AV→List AV
 |.agg l=>l
 |v=>[v]
def A1:Value→Option AV
 |.bool b=>some (.bool b)
 |.int k n=>some (.int k n)
 |.string s=>some (.str s.data.toList.length (AC s.data.toList))
 |.pointer none=>some .ptr0
 |.slice none 0 0=>some .slice0
 |.map none=>some .map0
 |.nilFunc=>some .nilFunc
 |.nilIface=>some .nilIface
 |_=>none
def C1:List Value→Option (List AV)
 |[]=>some []
 |v::r=>match A1 v,C1 r with
  |some a,some as=>some (a::as)
  |_,_=>none
def ofValue:Value→Option AV
 |.agg c=>match C1 c.toList with
  |some l=>some (.agg l)
  |none=>none
 |v=>A1 v
structure AD where
 fn:Option Fn
 coll:Nat
 captured:List AV
 args:List AV
 deriving Inhabited
structure AA where
 key:AV
 val:AV
 born:Nat
 deriving Inhabited
inductive An where
 |cells (n:Nat) (c:T AV)
 |arr (e:TypeId) (x:SE)
 |hole (e:TypeId) (x i:SE) (j:Nat) (a:AV)
 |map (es:List AA) (clock:Nat)
 |dmap (kt vt:TypeId) (x:SE)
 |loop (st:LoopState) (pending:Option Code) (fn:FuncId) (nt:Nat) (tmps:T AV) (params:List Tmp) (assign body:Code) (defers:Nat)
 |deferred (ds:Option (List AD))
 |mapIter (m:Option Nat) (since:Nat) (seen:List Nat) (last:Nat)
 |dmapS (kt vt:TypeId) (x n:SE) (b:Nat)
 |strIter (l b pos:Nat)
 deriving Inhabited
structure Aa where
 blk:T An
 nx:Nat
 log:List Nat
 deriving Inhabited
inductive HM where
 |run
 |ret
 |panic (chain:List (AV×Bool))
 deriving Inhabited
inductive AI where
 |code (c:Code)
 |inBlock (id:Nat)
 |inLoop (body:Code)
 |inScope (body:Code)
 |ops (all:Array Oper) (rest:List Oper)
 |inRange (l:Nat)
 |endRange (l:Nat)
 |beginRound
 |dead
 |rest
 deriving Inhabited
structure AF where
 fn:FuncId
 nt:Nat
 tmps:T AV
 todo:List AI
 defers:List AD
 mode:HM
 kind:CallKind
 round:Option Nat
 deriving Inhabited
structure AS where
 fr:AF
 cs:List AF
 h:Aa
 deriving Inhabited
structure Orc where
 f:FuncId
 args:List AV
 part:T An
 nx:Nat
 ok:Bool
 v:AV
 out:T An
 nx':Nat
 wr:List Nat
 deriving Inhabited
structure Sm where
 f:FuncId
 nv:Nat
 args:List AV
 pre:List (Option An)
 facts:List (SB×Bool)
 res:AV
 post:List (Option An)
 ok:Bool:=true
 deriving Inhabited
structure Env where
 P:Program
 ty:T TypeInfo
 fn:T Func
 orc:List Orc
 sms:List Sm
 gl:T (List AV):=.nil
 ox:T (List Orc):=.nil
 deriving Inhabited
class AG where
 tab:T (List AV)
def fu(e:Orc)(t:T (List Orc)):T (List Orc):=match t.get e.f with
 |some l=>t.set e.f (e::l)
 |none=>t.set e.f [e]
def XV:List Orc→T (List Orc)
 |[]=>.nil
 |e::r=>fu e (XV r)
def Env.ofS[r:AG](P:Program)(l:List Orc)(m:List Sm):Env:={P,ty:=.ofList P.types.toList,fn:=.ofList P.funcs.toList,orc:=l,sms:=m,gl:=r.tab,ox:=XV l}
def Env.ofO[r:AG](P:Program)(l:List Orc):Env:=Env.ofS P l []
def Env.of[l:AG](P:Program):Env:=Env.ofO P []
inductive Ask where
 |enter (f:FuncId) (args:List AV)
 |round (l:Nat) (args:List AV)
 deriving Inhabited
def SE.same:SE→SE→Bool
 |.c n,.c m=>n==m
 |.var i,.var j=>Nat.beq i j
 |.lenS a,.lenS b=>a.same b
 |.lenL a,.lenL b=>a.same b
 |.arith op k a b,.arith al I r t=>decide (op=al)&&decide (k=I)&&a.same r&&b.same t
 |.conv k a,.conv I r=>decide (k=I)&&a.same r
 |.lss a b,.lss r t=>a.same r&&b.same t
 |.eql a b,.eql r t=>a.same r&&b.same t
 |.eqS a l b,.eqS r l' t=>a.same r&&Nat.beq l l'&&Nat.beq b t
 |.eqSS a b,.eqSS r t=>a.same r&&b.same t
 |.isNil a,.isNil b=>a.same b
 |.bc a,.bc b=>a==b
 |.neg a,.neg b=>a.same b
 |.and a b,.and r t=>a.same r&&b.same t
 |.nilIs a b,.nilIs r t=>a.same r&&b.same t
 |.strc l b,.strc l' t=>Nat.beq l l'&&Nat.beq b t
 |.strAt a b,.strAt r t=>a.same r&&b.same t
 |.strCat a b,.strCat r t=>a.same r&&b.same t
 |.strSub a b x,.strSub r t J=>a.same r&&b.same t&&x.same J
 |.cell a b j,.cell r t j'=>a.same r&&b.same t&&Nat.beq j j'
 |.sel a j,.sel r j'=>a.same r&&Nat.beq j j'
 |.nilL,.nilL=>true
 |.emptyL,.emptyL=>true
 |.snoc a b,.snoc r t=>a.same r&&b.same t
 |.upd a b j x,.upd r t j' J=>a.same r&&b.same t&&Nat.beq j j'&&x.same J
 |.rep a b,.rep r t=>a.same r&&b.same t
 |.cat a b,.cat r t=>a.same r&&b.same t
 |.sub a b x,.sub r t J=>a.same r&&b.same t&&x.same J
 |.rnil,.rnil=>true
 |.rcons a b,.rcons r t=>a.same r&&b.same t
 |.app f a,.app f' r=>Nat.beq f f'&&a.same r
 |.bytes a,.bytes b=>a.same b
 |.ofBytes a,.ofBytes b=>a.same b
 |.mIdx ks a k,.mIdx an r I=>decide (ks=an)&&a.same r&&k.same I
 |.rmv a i,.rmv r i'=>a.same r&&i.same i'
 |_,_=>false
def iu:Fn→Fn→Bool
 |.func f,.func g=>Nat.beq f g
 |_,_=>false
mutual
def Bx:AV→AV→Bool
 |.top,.top=>true
 |.bool a,.bool b=>a==b
 |.int k a,.int i b=>decide (k=i)&&a==b
 |.str l a,.str h b=>Nat.beq l h&&Nat.beq a b
 |.ptr0,.ptr0=>true
 |.ptr b o,.ptr g j=>Nat.beq b g&&Nat.beq o j
 |.slice0,.slice0=>true
 |.slice b o n e,.slice g j q d=>Nat.beq b g&&Nat.beq o j&&Nat.beq n q&&Nat.beq e d
 |.map0,.map0=>true
 |.map b,.map g=>Nat.beq b g
 |.func fn f c,.func r x y=>iu fn r&&HN f x&&HN c y
 |.nilFunc,.nilFunc=>true
 |.iface t v,.iface s z=>Nat.beq t s&&Bx v z
 |.nilIface,.nilIface=>true
 |.agg l,.agg h=>HN l h
 |.tuple l,.tuple h=>HN l h
 |.sb p e,.sb A d=>p==A&&e.same d
 |.si k e,.si i d=>decide (k=i)&&e.same d
 |.ss e,.ss d=>e.same d
 |.dat t e,.dat s d=>Nat.beq t s&&e.same d
 |.asl b B n nl,.asl g u q w=>Nat.beq b g&&Nat.beq B u&&n.same q&&nl.same w
 |.eslc e,.eslc d=>e.same d
 |.nmap b e,.nmap g d=>Nat.beq b g&&e.same d
 |_,_=>false
termination_by structural a=>a
def HN:List AV→List AV→Bool
 |[],[]=>true
 |a::l,b::m=>Bx a b&&HN l m
 |_,_=>false
termination_by structural l=>l
end
def eqO{c:Type}(d:c→c→Bool):Option c→Option c→Bool
 |none,none=>true
 |some a,some b=>d a b
 |_,_=>false
def eqT{a:Type}(b:a→a→Bool):T a→T a→Bool
 |.nil,.nil=>true
 |.node v l r,.node c d e=>eqO b v c&&eqT b l d&&eqT b r e
 |_,_=>false
def Xx:List AA→List AA→Bool
 |[],[]=>true
 |a::l,b::m=>Bx a.key b.key&&Bx a.val b.val&&Nat.beq a.born b.born&&Xx l m
 |_,_=>false
def VZ:An→An→Bool
 |.cells n c,.cells m d=>Nat.beq n m&&eqT Bx c d
 |.map g k,.map a b=>Nat.beq k b&&Xx g a
 |.arr e x,.arr h f=>Nat.beq e h&&x.same f
 |.dmap k v x,.dmap b i f=>Nat.beq k b&&Nat.beq v i&&x.same f
 |_,_=>false
def NE:T An→T An→Bool
 |.nil,_=>true
 |.node v l r,.node a b c=>(match v with
   |none=>true
   |some x=>(match a with
    |some y=>VZ x y
    |none=>false))&&NE l b&&NE r c
 |.node _ _ _,.nil=>false
def Mw(b:Nat):List Nat→Bool
 |[]=>false
 |c::r=>Nat.beq b c||Mw b r
def XB(nx:Nat)(wr:List Nat):List Nat→Bool
 |[]=>true
 |b::r=>(Nat.ble nx b||Mw b wr)&&XB nx wr r
def lf{a:Type}(x:a):T a:=.node (some x) .nil .nil
def nd{a:Type}(x:a)(l r:T a):T a:=.node (some x) l r
def no{a:Type}(l r:T a):T a:=.node none l r
def Env.desc(E:Env)(t:TypeId):Option TypeDesc:=
 match E.ty.get t with
 |some i=>match i.desc with
  |.named _ u=>match E.ty.get u with
   |some j=>some j.desc
   |none=>none
  |d=>some d
 |none=>none
def Env.size(E:Env)(t:TypeId):Nat:=match E.ty.get t with|some i=>i.size|none=>0
def Env.szIs(E:Env)(t:TypeId)(n:Nat):Bool:=match E.ty.get t with|some i=>Nat.beq i.size n|none=>false
def Env.has(E:Env)(t:TypeId):Bool:=match E.ty.get t with|some _=>true|none=>false
def Env.zero(E:Env)(t:TypeId):Option AV:=
 match E.ty.get t with
 |some i=>match i.zero with
  |some v=>ofValue v
  |none=>none
 |none=>none
def IH(a:TypeId→Nat→Bool)(rec_:TypeId→Option (List Kd)):List Field→Nat→Option (List Kd)
 |[],_=>some []
 |f::r,off=>match Nat.beq f.offset off,rec_ f.type with
  |true,some ks=>match a f.type ks.length,IH a rec_ r (off+ks.length)with
   |true,some l=>some (ks++l)
   |_,_=>none
  |_,_=>none
def B7:Nat→List Kd→List Kd
 |0,_=>[]
 |n+1,ks=>ks++B7 n ks
def PA(a:Bool)(b:TypeId→Nat→Bool)(rec_:TypeId→Option (List Kd)):Option TypeDesc→Option (List Kd)
 |some (.int k)=>some [.int k]
 |some .bool=>some [.bool]
 |some .string=>some [.str]
 |some (.slice e)=>some [.slice e]
 |some (.struct fs)=>IH b rec_ fs.toList 0
 |some (.array n e)=>match a,rec_ e with
  |true,some ks=>match Nat.blt (n*ks.length) 200 with
   |true=>some (B7 n ks)
   |false=>none
  |_,_=>none
 |_=>none
def Ks(b:Bool)(desc:TypeId→Option TypeDesc)(a:TypeId→Nat→Bool):Nat→TypeId→Option (List Kd)
 |0,_=>none
 |n+1,t=>match PA b a (Ks b desc a n) (desc t)with
  |some l=>match a t l.length with
   |true=>some l
   |false=>none
  |none=>none
def Env.kinds(E:Env)(t:TypeId):Option (List Kd):=Ks true E.desc E.szIs 20 t
def Env.kinds0(E:Env)(t:TypeId):Option (List Kd):=E.kinds t
inductive Res where
 |val (v:AV) (h:Aa)
 |enter (f:FuncId) (args:List AV) (h:Aa)
 |round (l:Nat) (args:List AV) (h:Aa)
 |defer (d:AD) (h:Aa)
 |recover (h:Aa)
 |panic (v:AV) (h:Aa)
 |bad (why:String)
 deriving Inhabited
def Aj(tmps:T AV):Operand→AV
 |.tmp t=>match tmps.get t with
  |some v=>v
  |none=>.top
 |.const v=>match ofValue v with
  |some a=>a
  |none=>.top
 |.func f=>.func (.func f) [] []
 |.global g=>.glob g 0
def Aa.new(h:Aa)(b:An):Aa:={blk:=h.blk.set h.nx b,nx:=h.nx+1,log:=h.log}
def Aa.put(h:Aa)(r:Nat)(b:An):Aa:={blk:=h.blk.set r b,nx:=h.nx,log:=r::h.log}
def Aa.strike(h:Aa)(r:Nat):Aa:={blk:=h.blk.del r,nx:=h.nx,log:=r::h.log}
def Aa.stampN(h:Aa):Aa:={blk:=h.blk.del h.nx,nx:=h.nx+1,log:=h.log}
def Bw(h:Aa)(l:List AV):Aa:=h.new (.cells l.length (.ofList l))
def C0(h:Aa)(b off n:Nat):Option (List AV):=
 match h.blk.get b with
 |some (.cells a c)=>match Nat.ble (off+n) a with
  |true=>c.range off n
  |false=>none
 |_=>none
def Fj:T AV→Nat→List AV→T AV
 |c,_,[]=>c
 |c,off,v::r=>Fj (c.set off v) (off+1) r
def AV.one:AV→Bool
 |.agg _=>false
 |.tuple _=>false
 |.top=>false
 |_=>true
def EA:List AV→Bool
 |[]=>true
 |v::r=>match v.one with
  |true=>EA r
  |false=>false
def storeN(h:Aa)(b off:Nat)(l:List AV):Option Aa:=
 match h.blk.get b with
 |some (.cells n c)=>
  match Nat.ble (off+l.length) n&&EA l with
  |true=>some (h.put b (.cells n (Fj c off l)))
  |false=>none
 |_=>none
def Dv:TypeDesc→Bool
 |.struct _=>true
 |.array _ _=>true
 |_=>false
def AU:List AV→Nat→List AV→List AV
 |l,_,[]=>l
 |[],_,_=>[]
 |x::l,0,v::r=>v::AU l 0 r
 |x::l,off+1,r=>x::AU l off r
def FA(a:Nat→Option (Nat×Nat)):List AV→List (Nat×AV)→Option (List AV)
 |cells,[]=>some cells
 |cells,(i,v)::rest=>
  match a i with
  |none=>none
  |some (off,size)=>
   match Nat.beq v.cells.length size&&Nat.ble (off+size) cells.length && !v.isTop with
   |true=>FA a (AU cells off v.cells) rest
   |false=>none
def BJ(z:List AV):Nat→List AV
 |0=>[]
 |n+1=>z++BJ z n
def CF(E:Env)(t:TypeId)(cs:List AV)(off:Nat):Option AV:=
 match E.desc t with
 |some d=>match Dv d with
  |true=>some (.agg ((cs.drop off).take (E.size t)))
  |false=>cs[off]?
 |none=>none
def strEq(l b a c:Nat):Bool:=Nat.beq l a&&Nat.beq b c
def D5:Nat→Nat→Nat→Nat→Nat→Bool
 |0,_,_,_,_=>false
 |f+1,e,a,g,b=>
  match g with
  |0=>false
  |c+1=>match e with
   |0=>true
   |d+1=>
    match Nat.blt (a%256) (b%256)with
    |true=>true
    |false=>match Nat.beq (a%256) (b%256)with
     |true=>D5 f d (a/256) c (b/256)
     |false=>false
def eqFields(E:Env)(c:TypeId→AV→AV→Option Bool)(d e:List AV):List Field→Option Bool
 |[]=>some true
 |f::r=>
  match f.name == "_" with
  |true=>none
  |false=>
   match CF E f.type d f.offset,CF E f.type e f.offset with
   |some a,some b=>match c f.type a b with
    |some true=>eqFields E c d e r
    |o=>o
   |_,_=>none
def Je(E:Env)(c:TypeId→AV→AV→Option Bool)(e:TypeId)(n:Nat)(d f:List AV):Nat→Nat→Option Bool
 |0,_=>some true
 |k+1,i=>
  match CF E e d (i*n),CF E e f (i*n)with
  |some a,some b=>match c e a b with
   |some true=>Je E c e n d f k (i+1)
   |o=>o
  |_,_=>none
def aeq(E:Env):Nat→TypeId→AV→AV→Option Bool
 |0,_,_,_=>none
 |d+1,t,x,y=>
  match E.desc t,x,y with
  |some .bool,.bool a,.bool b=>some (a==b)
  |some (.int _),.int k a,.int k' b=>match decide (k=k')with|true=>some (a==b)|false=>none
  |some .string,.str l a,.str h b=>some (strEq l a h b)
  |some (.pointer _),.ptr0,.ptr0=>some true
  |some (.pointer _),.ptr0,.ptr _ _=>some false
  |some (.pointer _),.ptr _ _,.ptr0=>some false
  |some (.interface _),.nilIface,.nilIface=>some true
  |some (.interface _),.nilIface,.iface _ _=>some false
  |some (.interface _),.iface _ _,.nilIface=>some false
  |some (.interface _),.iface tx j,.iface ty m=>
   match Nat.beq tx ty with
   |false=>some false
   |true=>match E.ty.get tx with
    |some i=>match i.comparable with
     |true=>aeq E d tx j m
     |false=>none
    |none=>none
  |some (.struct c),.agg f,.agg g=>match E.P.stoodInHeld t with
   |true=>none
   |false=>eqFields E (aeq E d) f g c.toList
  |some (.array len e),.agg f,.agg g=>match E.has e with
   |true=>Je E (aeq E d) e (E.size e) f g len 0
   |false=>none
  |some (.slice _),.slice0,.slice0=>some true
  |some (.slice _),.slice0,.slice ..=>some false
  |some (.slice _),.slice ..,.slice0=>some false
  |some (.map _ _),.map0,.map0=>some true
  |some (.map _ _),.map0,.map _=>some false
  |some (.map _ _),.map _,.map0=>some false
  |some (.func ..),.nilFunc,.nilFunc=>some true
  |some (.func ..),.nilFunc,.func ..=>some false
  |some (.func ..),.func ..,.nilFunc=>some false
  |_,_,_=>none
def bits(k:IntKind)(x:Int):Nat:=(x%(2^k.bits:Int)).toNat
def CU(c:BinOp)(k:IntKind)(a b:Int):Option AV:=
 match c with
 |.add=>some (.int k (k.wrap (a+b)))
 |.sub=>some (.int k (k.wrap (a-b)))
 |.mul=>some (.int k (k.wrap (a*b)))
 |.quo=>match b==0 with|true=>none|false=>some (.int k (k.wrap (a.tdiv b)))
 |.rem=>match b==0 with|true=>none|false=>some (.int k (a.tmod b))
 |.and=>some (.int k (k.wrap (Nat.land (bits k a) (bits k b):Nat)))
 |.or=>some (.int k (k.wrap (Nat.lor (bits k a) (bits k b):Nat)))
 |.xor=>some (.int k (k.wrap (Nat.xor (bits k a) (bits k b):Nat)))
 |.eql=>some (.bool (a==b))
 |.neq=>some (.bool (a != b))
 |.lss=>some (.bool (a<b))
 |.leq=>some (.bool (a≤b))
 |.gtr=>some (.bool (a>b))
 |.geq=>some (.bool (a≥b))
 |.shl=>match decide (b<0)with|true=>none|false=>some (.int k (k.wrap (a*2^min b.toNat k.bits)))
 |.shr=>match decide (b<0)with|true=>none|false=>some (.int k (a.fdiv (2^min b.toNat k.bits)))
 |_=>none
structure Val where
 d:Nat→D
 fn:Nat→D→D
def C9:Nat→Nat→List UInt8
 |0,_=>[]
 |n+1,b=>UInt8.ofNat (b%256)::C9 n (b/256)
def D.strEq(a b:D):Bool:=AE.strEq a.toStr.data.toList.length (AC a.toStr.data.toList) b.toStr.data.toList.length (AC b.toStr.data.toList)
def Ea:List Kd→List D→List D→Bool
 |[],_,_=>true
 |.int _::ks,a::l,b::m=>(a.toInt==b.toInt)&&Ea ks l m
 |.bool::ks,a::l,b::m=>(a.toBool==b.toBool)&&Ea ks l m
 |.str::ks,a::l,b::m=>D.strEq a b&&Ea ks l m
 |_,_,_=>false
def Fh(ks:List Kd)(k:List D):List D→Nat→Int
 |[],_=>-1
 |r::a,i=>match Ea ks r.cells k with
  |true=>i
  |false=>Fh ks k a (i+1)
def Ab(V:Val):SE→D
 |.c n=>.int n
 |.var i=>V.d i
 |.lenS a=>.int ((Ab V a).toStr.data.toList.length:Nat)
 |.lenL a=>.int ((Ab V a).rows.length:Nat)
 |.arith e k a b=>.int (match CU e k (Ab V a).toInt (Ab V b).toInt with
  |some (.int _ n)=>n
  |_=>0)
 |.conv k a=>.int (k.wrap (Ab V a).toInt)
 |.lss a b=>.bool (decide ((Ab V a).toInt<(Ab V b).toInt))
 |.eql a b=>.bool ((Ab V a).toInt==(Ab V b).toInt)
 |.eqS a l b=>.bool (strEq (Ab V a).toStr.data.toList.length (AC (Ab V a).toStr.data.toList) l b)
 |.eqSS a b=>.bool (D.strEq (Ab V a) (Ab V b))
 |.isNil a=>.bool (Ab V a).isNil
 |.bc b=>.bool b
 |.neg a=>.bool (!(Ab V a).toBool)
 |.and a b=>.bool ((Ab V a).toBool&&(Ab V b).toBool)
 |.nilIs a b=>.slc (Ab V b).toBool (Ab V a).rows
 |.strc l b=>.str ⟨(C9 l b).toArray⟩
 |.strAt a i=>.int (((Ab V a).toStr.data.toList[(Ab V i).toInt.toNat]?).getD 0).toNat
 |.strCat a b=>.str ((Ab V a).toStr++(Ab V b).toStr)
 |.strSub a lo hi=>.str ((Ab V a).toStr.extract (Ab V lo).toInt.toNat (Ab V hi).toInt.toNat)
 |.cell a i j=>((Ab V a).rows.getD (Ab V i).toInt.toNat default).cells.getD j default
 |.sel a j=>(Ab V a).cells.getD j default
 |.nilL=>.slc true []
 |.emptyL=>.slc false []
 |.snoc a r=>.slc false ((Ab V a).rows++[Ab V r])
 |.upd a i j x=>.slc (Ab V a).isNil ((Ab V a).rows.modify (Ab V i).toInt.toNat fun r=>.row (r.cells.set j (Ab V x)))
 |.rep n r=>.slc false (List.replicate (Ab V n).toInt.toNat (Ab V r))
 |.cat a b=>.slc ((Ab V a).isNil&&(Ab V b).rows.isEmpty) ((Ab V a).rows++(Ab V b).rows)
 |.sub a lo hi=>.slc (Ab V a).isNil (((Ab V a).rows.drop (Ab V lo).toInt.toNat).take ((Ab V hi).toInt.toNat-(Ab V lo).toInt.toNat))
 |.rnil=>.row []
 |.rcons x r=>.row (Ab V x::(Ab V r).cells)
 |.app f x=>V.fn f (Ab V x)
 |.bytes a=>.slc false ((Ab V a).toStr.data.toList.map fun b=>.row [.int b.toNat])
 |.ofBytes a=>.str ⟨((Ab V a).rows.map fun r=>UInt8.ofNat (r.cells.getD 0 default).toInt.toNat).toArray⟩
 |.mIdx ks a k=>.int (Fh ks (Ab V k).cells (Ab V a).rows 0)
 |.rmv a i=>.slc (Ab V a).isNil ((Ab V a).rows.eraseIdx (Ab V i).toInt.toNat)
def Ad(V:Val)(e:SE):Int:=(Ab V e).toInt
def Ah(V:Val)(e:SB):Bool:=(Ab V e).toBool
def AR(V:Val)(e:SE):ByteArray:=(Ab V e).toStr
class Facts where
 facts:List (SB×Bool)
class Vals where
 V:Val
 K:TypeId→Option (List Kd)
 R:List Item
 hR:∀d b r a k,R≠.call d b r a::k
class Unk extends Facts,Vals where
 ok:∀e b,(e,b)∈facts→Ah V e=b
def Sg:Option Int→Option Int→Option Int
 |some a,some b=>match decide (a≤b)with|true=>some b|false=>some a
 |some a,none=>some a
 |none,b=>b
def XD:Option Int→Option Int→Option Int
 |some a,some b=>match decide (a≤b)with|true=>some a|false=>some b
 |some a,none=>some a
 |none,b=>b
def UT(e:SE):SB×Bool→Option Int
 | (.lss a (.c m),false)=>match a.same e with|true=>some m|false=>none
 | (.lss (.c m) a,true)=>match a.same e with|true=>some (m+1)|false=>none
 | (.eql a (.c m),true)=>match a.same e with|true=>some m|false=>none
 |_=>none
def Tz(e:SE):SB×Bool→Option Int
 | (.lss a (.c m),true)=>match a.same e with|true=>some (m-1)|false=>none
 | (.lss (.c m) a,false)=>match a.same e with|true=>some m|false=>none
 | (.eql a (.c m),true)=>match a.same e with|true=>some m|false=>none
 |_=>none
def CO(e:SE):List (SB×Bool)→Option Int
 |[]=>none
 |p::r=>Sg (UT e p) (CO e r)
def CK(e:SE):List (SB×Bool)→Option Int
 |[]=>none
 |p::r=>XD (Tz e p) (CK e r)
def Cf:SE→SE
 |.upd a _ _ _=>Cf a
 |.nilIs a _=>Cf a
 |x=>x
def LS(n y:SE):Bool:=match n with
 |.lenL x=>(Cf x).same (Cf y)
 |_=>false
def Hb:SE→Option Nat
 |.nilL=>some 0
 |.emptyL=>some 0
 |.snoc a _=>match Hb a with
  |some n=>some (n+1)
  |none=>none
 |.nilIs a _=>Hb a
 |_=>none
def Qt(k:IntKind)(lo hi:Option Int):Bool:=match lo,hi with
 |some l,some h=>decide (k.min≤l)&&decide (h≤k.max)
 |_,_=>false
def Sb(x:SE):List (SB×Bool)→Option (Nat×Nat)
 |[]=>none
 | (e,b)::r=>match e with
  |.eqS a l c=>match b&&a.same x with
   |true=>some (l,c)
   |false=>Sb x r
  |_=>Sb x r
def bnd(F:List (SB×Bool)):SE→Option Int×Option Int
 |.c n=>(some n,some n)
 |.lenS i=>match Sb i F with
  |some (l,_)=>(some (l:Int),some (l:Int))
  |none=>(Sg (some 0) (CO (.lenS i) F),CK (.lenS i) F)
 |.lenL i=>match Hb i with
  |some n=>(some (n:Int),some (n:Int))
  |none=>(Sg (some 0) (CO (.lenL i) F),CK (.lenL i) F)
 |.conv k a=>match bnd F a with
  | (lo,hi)=>match Qt k lo hi with
   |true=>(Sg lo (CO (.conv k a) F),XD hi (CK (.conv k a) F))
   |false=>(Sg (some k.min) (CO (.conv k a) F),XD (some k.max) (CK (.conv k a) F))
 |.arith d k a b=>match d,b with
  |.rem,.c m=>match bnd F a with
   | (some l,_)=>match decide (0≤l)&&decide (0<m)with
    |true=>(Sg (some 0) (CO (.arith d k a b) F),XD (some (m-1)) (CK (.arith d k a b) F))
    |false=>(CO (.arith d k a b) F,CK (.arith d k a b) F)
   |_=>(CO (.arith d k a b) F,CK (.arith d k a b) F)
  |_,_=>(CO (.arith d k a b) F,CK (.arith d k a b) F)
 |e=>(CO e F,CK e F)
def JF(e:SB):List (SB×Bool)→Option Bool
 |[]=>none
 | (x,b)::r=>match e.same x with
  |true=>some b
  |false=>JF e r
def ltO:Option Int→Option Int→Bool
 |some a,some b=>decide (a<b)
 |_,_=>false
def leO:Option Int→Option Int→Bool
 |some a,some b=>decide (a≤b)
 |_,_=>false
def P0(F:List (SB×Bool))(e:SB):Option Bool:=
 match e with
  |.bc b=>some b
  |.lss a b=>match ltO (bnd F a).2 (bnd F b).1 with
   |true=>some true
   |false=>match leO (bnd F b).2 (bnd F a).1 with
    |true=>some false
    |false=>none
  |.eql a b=>match ltO (bnd F a).2 (bnd F b).1||ltO (bnd F b).2 (bnd F a).1 with
   |true=>some false
   |false=>match a.same b with
    |true=>some true
    |false=>none
  |_=>none
def Dx(F:List (SB×Bool)):SB→Option Bool
 |.neg a=>match JF a F with
  |some b=>some (!b)
  |none=>match Dx F a with
   |some b=>some (!b)
   |none=>none
 |.and a b=>match (match JF a F with
   |some c=>some c
   |none=>Dx F a)with
  |some false=>some false
  |some true=>(match JF b F with
   |some c=>some c
   |none=>Dx F b)
  |none=>match (match JF b F with
   |some c=>some c
   |none=>Dx F b)with
   |some false=>some false
   |_=>none
 |e=>P0 F e
def AN(F:List (SB×Bool))(e:SB):Option Bool:=
 match JF e F with
 |some b=>some b
 |none=>Dx F e
def mkB[U:Facts](pos:Bool)(e:SB):AV:=
 match AN U.facts e with
 |some b=>.bool (b==pos)
 |none=>.sb pos e
def mkI[U:Facts](k:IntKind)(e:SE):AV:=
 match bnd U.facts e with
 | (some l,some h)=>match l==h with
  |true=>.int k l
  |false=>.si k e
 |_=>.si k e
def toI:AV→Option (IntKind×SE)
 |.int k n=>some (k,.c n)
 |.si k e=>some (k,e)
 |_=>none
def eO:SE→Bool
 |.c n=>!(n==0)
 |_=>false
def WB[U:Facts](b:SE):Bool:=eO b||(match AN U.facts (.eql b (.c 0))with
 |some false=>true
 |_=>false)
def Q4[U:Facts](d:BinOp)(k:IntKind)(a b:SE):Option AV:=
 match AN U.facts (.lss b (.c 0))with
 |some false=>match d with
  |.shl=>some (mkI k (.arith .shl k a b))
  |.shr=>some (mkI k (.arith .shr k a b))
  |_=>none
 |_=>none
def iC[U:Facts](c:BinOp)(k:IntKind)(a b:SE):Option AV:=
 match c with
 |.add=>some (mkI k (.arith .add k a b))
 |.sub=>some (mkI k (.arith .sub k a b))
 |.mul=>some (mkI k (.arith .mul k a b))
 |.quo=>match WB b with|true=>some (mkI k (.arith .quo k a b))|false=>none
 |.rem=>match WB b with|true=>some (mkI k (.arith .rem k a b))|false=>none
 |.eql=>some (mkB true (.eql a b))
 |.neq=>some (mkB false (.eql a b))
 |.lss=>some (mkB true (.lss a b))
 |.leq=>some (mkB false (.lss b a))
 |.gtr=>some (mkB true (.lss b a))
 |.geq=>some (mkB false (.lss a b))
 |.shl=>Q4 .shl k a b
 |.shr=>Q4 .shr k a b
 |_=>none
def Zq[Facts](a:BinOp)(e:SB):Option AV:=
 match a with
 |.eql=>some (mkB true e)
 |.neq=>some (mkB false e)
 |_=>none
def gB[Facts](d:BinOp)(x y:AV):Option AV:=
 match x,y with
 |.ss a,.ss c=>Zq d (.eqSS a c)
 |.ss a,.str l b=>Zq d (.eqS a l b)
 |.str l b,.ss a=>Zq d (.eqS a l b)
 |_,_=>match toI x,toI y with
  |some (k,a),some (e,b)=>match decide (k=e)with
   |true=>iC d k a b
   |false=>Q4 d k a b
  |_,_=>none
def Q3[U:Facts]:AV→Option (Bool ⊕ (Bool×SB))
 |.bool b=>some (.inl b)
 |.sb p e=>match AN U.facts e with
  |some c=>some (.inl (c==p))
  |none=>some (.inr (p,e))
 |_=>none
def bW:AV→Option SE
 |.map0=>some (.bc true)
 |.map _=>some (.bc false)
 |.nmap _ nl=>some nl
 |_=>none
def ai[U:Facts](v:AV):AV:=match v with
 |.nmap b nl=>match AN U.facts nl with
  |some true=>.map0
  |some false=>.map b
  |none=>.nmap b nl
 |v=>v
def dW:AV→Option SE
 |.slice0=>some (.bc true)
 |.slice _ _ _ _=>some (.bc false)
 |.dat _ x=>some (.isNil x)
 |.asl _ _ _ nl=>some nl
 |.eslc nl=>some nl
 |_=>none
def BN(a:BinOp)(p:Bool):Option Bool:=match a with
 |.eql=>some p
 |.neq=>some (!p)
 |_=>none
def eqV[Facts](d:Option TypeDesc)(c:BinOp)(x y:AV):Option AV:=
 match d with
 |some .bool=>match Q3 x,Q3 y with
  |some (.inl a),some (.inl b)=>(BN c (a==b)).map .bool
  |some (.inr (p,e)),some (.inl b)=>(BN c (p==b)).map fun q=>.sb q e
  |some (.inl b),some (.inr (p,e))=>(BN c (p==b)).map fun q=>.sb q e
  |_,_=>none
 |some (.slice _)=>match x,y with
  |.slice0,_=>match dW y with
   |some e=>(BN c true).map fun q=>mkB q e
   |none=>none
  |_,.slice0=>match dW x with
   |some e=>(BN c true).map fun q=>mkB q e
   |none=>none
  |_,_=>none
 |some (.map _ _)=>match x,y with
  |.map0,_=>match bW y with
   |some e=>(BN c true).map fun q=>mkB q e
   |none=>none
  |_,.map0=>match bW x with
   |some e=>(BN c true).map fun q=>mkB q e
   |none=>none
  |_,_=>none
 |_=>none
def AV.isSym:AV→Bool
 |.sb ..=>true
 |.si ..=>true
 |.ss _=>true
 |.dat _ _=>true
 |.dptr _ _ _ _=>true
 |.asl _ _ _ _=>true
 |.eslc _=>true
 |.aptr _ _ _ _=>true
 |.nmap _ _=>true
 |.stamp _=>true
 |_=>false
def PT(d:BinOp)(l a c b:Nat):Option AV:=
 match d with
 |.add=>match Nat.ble (l+c) 4611686018427387904 with|true=>some (.str (l+c) (a+b*2^(8*l)))|false=>none
 |.eql=>some (.bool (strEq l a c b))
 |.neq=>some (.bool (!strEq l a c b))
 |.lss=>some (.bool (D5 (l+1) l a c b))
 |.leq=>some (.bool (D5 (l+1) l a c b||strEq l a c b))
 |.gtr=>some (.bool (!(D5 (l+1) l a c b||strEq l a c b)))
 |.geq=>some (.bool (!D5 (l+1) l a c b))
 |_=>none
def Ng(c:BinOp)(k:IntKind)(a b:Int):Option AV:=
 match decide (b<0)with
 |true=>none
 |false=>
  let n:=min b.toNat k.bits
  match c with
  |.shl=>some (.int k (k.wrap (a*2^n)))
  |.shr=>some (.int k (a.fdiv (2^n)))
  |_=>none
def T3(E:Env)(c:BinOp)(t:TypeId)(x y:AV):Option AV:=
 match x,y with
 |.int k a,.int k' b=>
  match c with
  |.shl=>Ng .shl k a b
  |.shr=>Ng .shr k a b
  |_=>match decide (k=k')with
   |true=>CU c k a b
   |false=>none
 |.str l a,.str d b=>PT c l a d b
 |.agg e,.agg f=>
  match E.P.eqGuardType E.P.depth t with
  |true=>none
  |false=>match c with
   |.eql=>(aeq E 10000 t x y).map .bool
   |.neq=>(aeq E 10000 t x y).map fun b=>.bool (!b)
   |_=>none
 |.nilIface,.nilIface=>none
 |_,_=>match c with
  |.eql=>(aeq E 10000 t x y).map .bool
  |.neq=>(aeq E 10000 t x y).map fun b=>.bool (!b)
  |_=>none
def unA(a:UnOp)(x:AV):Option AV:=
 match a,x with
 |.not,.sb pos e=>some (.sb (!pos) e)
 |.neg,.int k n=>some (.int k (k.wrap (0-n)))
 |.not,.bool b=>some (.bool !b)
 |_,_=>none
def unB[Facts](a:UnOp)(x:AV):Option AV:=
 match a,x with
 |.neg,.si k e=>some (mkI k (.arith .sub k (.c 0) e))
 |_,_=>unA a x
def Hn:Nat→Nat→List AV
 |0,_=>[]
 |n+1,b=>.int .u8 (b%256:Nat)::Hn n (b/256)
def VB[Facts](E:Env)(a dst:TypeId)(x:AV)(h:Aa):Option (AV×Aa):=
 match E.desc a,E.desc dst,x with
 |some _,some (.int k),.int _ n=>some (.int k (k.wrap n),h)
 |some _,some (.int k),.si _ e=>some (mkI k (.conv k e),h)
 |some _,some .string,.ss i=>some (.ss i,h)
 |some _,some .string,.str l b=>some (.str l b,h)
 |some _,some (.slice e),.str l b=>
  match E.desc e with
  |some (.int .u8)=>some (.slice h.nx 0 l 1,h.new (.cells l (.ofList (Hn l b))))
  |_=>none
 |_,_,_=>none
def D2:AV→Option Nat
 |.int _ (.ofNat n)=>some n
 |_=>none
def D0(x:Option AV)(a:Nat):Option Nat:=
 match x with
 |some v=>D2 v
 |none=>some a
def CJ(n:Nat)(lo hi mx:Option AV):Option (Nat×Nat):=
 match D0 mx n with
 |none=>none
 |some m=>match D0 hi n,D0 lo 0 with
  |some h,some l=>match Nat.ble l h&&Nat.ble h m&&Nat.ble m n with
   |true=>some (l,h)
   |false=>none
  |_,_=>none
def RW(mx:Option AV)(n l a:Nat):Bool:=match mx with
 |none=>false
 |some _=>match D0 mx n with
  |some m=>Nat.beq m a&&Nat.blt l a
  |none=>false
def S2(E:Env)(t:TypeId)(x:AV)(lo hi mx:Option AV)(h:Aa):Option AV:=
 match E.desc t,x with
 |some .string,.str l b=>
  match mx with
  |some _=>none
  |none=>match CJ l lo hi none with
   |some (a,c)=>some (.str (c-a) ((b/2^(8*a))%2^(8*(c-a))))
   |none=>none
 |some (.slice e),.slice0=>
  match CJ 0 lo hi mx,E.has e with
  |some _,true=>some .slice0
  |_,_=>none
 |some (.slice e),.slice b off len d=>
  match CJ len lo hi mx with
  |some (a,c)=>match E.szIs e d with
   |true=>match RW mx len a c with
    |true=>some (.fsl b (off+a*d) (c-a) d)
    |false=>some (.slice b (off+a*d) (c-a) d)
   |false=>none
  |none=>none
 |some (.array n e),.ptr b off=>
  match CJ n lo hi mx,E.has e,h.blk.get b with
  |some (a,c),true,some (.cells f _)=>match Nat.ble (off+n*E.size e) f with
   |true=>some (.slice b (off+a*E.size e) (c-a) (E.size e))
   |false=>none
  |_,_,_=>none
 |_,_=>none
def Ih(E:Env)(t:TypeId)(x i:AV):Option AV:=
 match E.desc t,x,D2 i with
 |some (.slice e),.slice b off len a,some n=>match Nat.blt n len&&E.szIs e a with
  |true=>some (.ptr b (off+n*a))
  |false=>none
 |some (.array len e),.ptr b off,some n=>match Nat.blt n len&&E.has e with
  |true=>some (.ptr b (off+n*E.size e))
  |false=>none
 |_,_,_=>none
def TU(E:Env)(t:TypeId)(x i:AV):Option AV:=
 match E.desc t,x,D2 i with
 |some .string,.str l b,some n=>match Nat.blt n l with
  |true=>some (.int .u8 ((b/2^(8*n))%256:Nat))
  |false=>none
 |some (.array len e),.agg cs,some n=>match Nat.blt n len with
  |true=>CF E e cs (n*E.size e)
  |false=>none
 |_,_,_=>none
def HW(E:Env)(t:TypeId)(x:AV)(f:Nat):Option AV:=
 match E.desc t,x with
 |some (.struct fs),.ptr b off=>match fs.toList[f]? with
  |some a=>match E.size a.type with
   |0=>none
   |_=>some (.ptr b (off+a.offset))
  |none=>none
 |_,_=>none
def PC(E:Env)(t:TypeId)(x:AV)(f:Nat):Option AV:=
 match E.desc t,x with
 |some (.struct fs),.agg cs=>match fs.toList[f]? with
  |some a=>CF E a.type cs a.offset
  |none=>none
 |_,_=>none
def OY(E:Env)(t:TypeId)(x:AV)(h:Aa):Option AV:=
 match E.desc t,x with
 |some d,.ptr b off=>match Dv d with
  |true=>(C0 h b off (E.size t)).map .agg
  |false=>match h.blk.get b with
   |some (.cells a c)=>match Nat.blt off a with
    |true=>c.get off
    |false=>none
   |_=>none
 |_,_=>none
def J4(E:Env)(t:TypeId)(x v:AV)(h:Aa):Option Aa:=
 match x with
 |.ptr b off=>match E.szIs t v.cells.length with
  |true=>storeN h b off v.cells
  |false=>none
 |_=>none
def PI(h:Aa)(a n:Nat):AV→Option (List AV)
 |.slice0=>some []
 |.slice b off _ c=>match Nat.beq a c with
  |true=>C0 h b off (n*a)
  |false=>none
 |.str l b=>match Nat.beq a 1 with
  |true=>some ((Hn l b).take n)
  |false=>none
 |_=>none
def Ny:AV→Option Nat
 |.slice0=>some 0
 |.slice _ _ n _=>some n
 |.str l _=>some l
 |_=>none
def CE(e:TypeInfo)(s:AV)(m:Nat)(a:List AV)(h:Aa):Option (AV×Aa):=
 match s with
 |.slice0=>match Nat.ble m 4611686018427387904&&Nat.ble (m*e.bytes) 140737488355328 with
  |false=>none
  |true=>match m with
   |0=>some (.slice0,h)
   |_=>some (.slice h.nx 0 m e.size,Bw h a)
 |.slice b off n d=>match Nat.beq e.size d&&EA a&&Nat.ble (n+m) 4611686018427387904&&Nat.ble ((n+m)*e.bytes) 140737488355328 with
  |false=>none
  |true=>match m with
   |0=>some (.slice b off n d,h)
   |_=>match h.blk.get b with
    |some (.cells f c)=>match Nat.beq off 0&&Nat.beq (n*d) f with
     |true=>some (.slice h.nx 0 (n+m) d,(h.strike b).new (.cells (n*d+a.length) (Fj c (n*d) a)))
     |false=>match C0 h b off (n*d)with
      |none=>none
      |some olds=>some (.slice h.nx 0 (n+m) d,(h.strike b).new (.cells (n*d+a.length) (.ofList (olds++a))))
    |_=>none
 |.fsl b off n d=>match Nat.beq e.size d&&Nat.ble (n+m) 4611686018427387904&&Nat.ble ((n+m)*e.bytes) 140737488355328 with
  |false=>none
  |true=>match m with
   |0=>none
   |_=>match h.blk.get b with
    |some (.cells _ _)=>match C0 h b off (n*d)with
     |none=>none
     |some olds=>some (.slice h.nx 0 (n+m) d,h.new (.cells (n*d+a.length) (.ofList (olds++a))))
    |_=>none
 |_=>none
def Jp(E:Env)(t c:TypeId)(s x:AV)(h:Aa):Option (AV×Aa):=
 match E.desc t with
 |some (.slice e)=>match E.ty.get e with
  |none=>none
  |some a=>match E.zero e with
   |none=>none
   |some z=>match Nat.beq z.cells.length a.size with
    |false=>none
    |true=>match E.desc c with
     |some (.int _)=>match D2 x with
      |none=>none
      |some m=>match Nat.ble m 1048576&&Nat.ble (m*a.bytes) 140737488355328 with
       |true=>CE a s m (BJ z.cells m) h
       |false=>none
     |some (.slice _)=>match Ny x with
      |none=>none
      |some m=>match PI h a.size m x with
       |none=>none
       |some b=>CE a s m b h
     |some .string=>match Ny x with
      |none=>none
      |some m=>match PI h a.size m x with
       |none=>none
       |some b=>CE a s m b h
     |_=>none
 |_=>none
def re(E:Env)(t:TypeId)(d x:AV)(h:Aa):Option (AV×Aa):=none
def Eo(E:Env)(t:TypeId)(k:AV):List AA→Nat→Option (Option (Nat×AV))
 |[],_=>some none
 |e::r,i=>match aeq E 10000 t k e.key with
  |some true=>some (some (i,e.val))
  |some false=>Eo E t k r (i+1)
  |none=>none
def Kx(E:Env)(ok:TypeId→AV→Bool)(cs:List AV):List Field→Bool
 |[]=>true
 |f::r=>match CF E f.type cs f.offset with
  |some a=>match ok f.type a with
   |true=>Kx E ok cs r
   |false=>false
  |none=>false
def Mn(E:Env)(ok:TypeId→AV→Bool)(e:TypeId)(cs:List AV):Nat→Nat→Bool
 |0,_=>true
 |k+1,i=>match CF E e cs (i*E.size e)with
  |some a=>match ok e a with
   |true=>Mn E ok e cs k (i+1)
   |false=>false
  |none=>false
def Cr(E:Env):Nat→TypeId→AV→Bool
 |0,_,_=>false
 |d+1,t,v=>match E.desc t with
  |some (.int _)=>true
  |some .string=>true
  |some .bool=>true
  |some (.struct fs)=>match v with
   |.agg cs=>Kx E (Cr E d) cs fs.toList
   |_=>false
  |some (.array n e)=>match v with
   |.agg cs=>match E.has e with
    |true=>Mn E (Cr E d) e cs n 0
    |false=>false
   |_=>false
  |_=>false
def NB(ok:Bool)(v:AV)(b:Bool):AV:=match ok with|true=>.tuple [v,.bool b]|false=>v
def PM(E:Env)(t:TypeId)(m k:AV)(ok:Bool)(h:Aa):Option AV:=
 match E.desc t with
 |some (.map a b)=>
  match Cr E 20 a k,E.zero b with
  |true,some z=>
   match m with
   |.map0=>some (NB ok z false)
   |.map r=>match h.blk.get r with
    |some (.map es _)=>match Eo E a k es 0 with
     |some (some (_,v))=>some (NB ok v true)
     |some none=>some (NB ok z false)
     |none=>none
    |_=>none
   |_=>none
  |_,_=>none
 |_=>none
def SQ:AV→AV→Bool
 |.bool a,.bool b=>match a,b with
  |true,true=>true
  |false,false=>true
  |_,_=>false
 |.int k a,.int c b=>match decide (k=c)with
  |true=>a==b
  |false=>false
 |.str l a,.str d b=>strEq l a d b
 |_,_=>false
def Ki:List AV→List AV→Bool
 |[],[]=>true
 |a::l,b::m=>match SQ a b with
  |true=>Ki l m
  |false=>false
 |_,_=>false
def GW:AV→AV→Bool
 |.agg l,.agg m=>Ki l m
 |a,b=>SQ a b
def setVal:List AA→Nat→AV→AV→List AA
 |[],_,_,_=>[]
 |e::r,0,k,v=>{e with key:=k,val:=v}::r
 |e::r,i+1,k,v=>e::setVal r i k v
def JP(E:Env)(t:TypeId)(m k v:AV)(h:Aa):Option Aa:=
 match E.desc t with
 |some (.map c _)=>
  match Cr E 20 c k with
  |true=>match m with
   |.map r=>match h.blk.get r with
    |some (.map b a)=>match Eo E c k b 0 with
     |some (some (i,_))=>match b[i]? with
      |some e=>match GW k e.key with
       |true=>some (h.put r (.map (setVal b i k v) a))
       |false=>none
      |none=>none
     |some none=>some (h.put r (.map (b++[{key:=k,val:=v,born:=a}]) (a+1)))
     |none=>none
    |_=>none
   |_=>none
  |false=>none
 |_=>none
def LC(E:Env)(t:TypeId)(m k:AV)(h:Aa):Option Aa:=none
def Qu(E:Env)(t:TypeId)(m k:AV)(h:Aa):Option (AV×Aa):=
 match E.desc t with
 |some (.map c d)=>
  match Cr E 20 c k,E.zero d with
  |true,some z=>match m with
   |.map r=>match h.blk.get r with
    |some (.map b a)=>match Eo E c k b 0 with
     |some (some (i,v))=>match b[i]? with
      |some e=>match GW k e.key with
       |true=>some (.tuple [v,.int .i64 e.born],h.put r (.map (setVal b i k e.val) a))
       |false=>none
      |none=>none
     |some none=>some (.tuple [z,.int .i64 a],(h.put r (.map (b++[{key:=k,val:=z,born:=a}]) (a+1))))
     |none=>none
    |_=>none
   |_=>none
  |_,_=>none
 |_=>none
def Dt:List AA→Nat→AV→Option (List AA)
 |[],_,_=>none
 |e::r,n,v=>match Nat.beq e.born n with
  |true=>some ({e with val:=v}::r)
  |false=>match Dt r n v with
   |some a=>some (e::a)
   |none=>none
def GM(m st v:AV)(h:Aa):Option Aa:=
 match m,D2 st with
 |.map r,some n=>match h.blk.get r with
  |some (.map c a)=>match Dt c n v with
   |some b=>some (h.put r (.map b a))
   |none=>none
  |_=>none
 |_,_=>none
def UV(E:Env)(t:TypeId)(x:AV)(h:Aa):Option (AV×Aa):=none
def Z8(it:AV)(a:Bool)(h:Aa):Option (AV×Aa):=none
def Ib(it:AV)(h:Aa):Option AV:=none
def kN[Facts](E:Env)(t:TypeId)(x:AV)(h:Aa):Option AV:=
 match E.desc t,x with
 |some .string,.str l _=>some (.int .i64 l)
 |some .string,.ss i=>some (mkI .i64 (.lenS i))
 |some (.slice _),.dat _ x=>some (mkI .i64 (.lenL x))
 |some (.slice _),.asl _ _ n _=>some (mkI .i64 n)
 |some (.slice _),.eslc _=>some (.int .i64 0)
 |some (.array n _),_=>some (.int .i64 n)
 |some (.slice _),.slice0=>some (.int .i64 0)
 |some (.slice _),.slice _ _ n _=>some (.int .i64 n)
 |some (.map _ _),.map0=>some (.int .i64 0)
 |some (.map _ _),.map r=>match h.blk.get r with
  |some (.map a _)=>some (.int .i64 a.length)
  |some (.dmap _ _ x)=>some (mkI .i64 (.lenL x))
  |_=>none
 |_,_=>none
def JR(k:IntKind)(x:Int):List AV→Option AV
 |[]=>some (.int k x)
 |.int _ y::r=>JR k (if y>x then y else x) r
 |_=>none
def Jd(k:IntKind)(x:Int):List AV→Option AV
 |[]=>some (.int k x)
 |.int _ y::r=>Jd k (if y<x then y else x) r
 |_=>none
def Aaw:List AV→Option AV
 |.int k x::r=>JR k x r
 |_=>none
def qL:List AV→Option AV
 |.int k x::r=>Jd k x r
 |_=>none
def O0[U:Facts](k:IntKind):SE→List AV→Option AV
 |x,[]=>some (mkI k x)
 |x,y::r=>match toI y with
  |some (_,b)=>match AN U.facts (.lss x b)with
   |some true=>O0 k b r
   |some false=>O0 k x r
   |none=>none
  |none=>none
def OU[U:Facts](k:IntKind):SE→List AV→Option AV
 |x,[]=>some (mkI k x)
 |x,y::r=>match toI y with
  |some (_,b)=>match AN U.facts (.lss b x)with
   |some true=>OU k b r
   |some false=>OU k x r
   |none=>none
  |none=>none
def ZV[Facts]:List AV→Option AV
 |y::r=>match toI y with
  |some (k,a)=>O0 k a r
  |none=>none
 |[]=>none
def Y3[Facts]:List AV→Option AV
 |y::r=>match toI y with
  |some (k,a)=>OU k a r
  |none=>none
 |[]=>none
def orA(a b:Option AV):Option AV:=match a with
 |some v=>some v
 |none=>b
def Mi[U:Facts](e:SB):Bool:=match AN U.facts e with
 |some true=>true
 |_=>false
def TC[U:Facts](e:SB):Bool:=match AN U.facts e with
 |some false=>true
 |_=>false
def inR[Facts](i n:SE):Bool:=TC (.lss i (.c 0))&&Mi (.lss i n)
def QF[Facts](x i:SE)(j:Nat):Kd→AV
 |.int k=>match decide (k=.i64)with
  |true=>mkI k (.cell x i j)
  |false=>mkI k (.conv k (.cell x i j))
 |.bool=>mkB true (.cell x i j)
 |.str=>.ss (.cell x i j)
 |.slice e=>.dat e (.cell x i j)
def Hj[Facts](x i:SE)(ks:List Kd):Nat→Nat→Option (List AV)
 |_,0=>some []
 |j,n+1=>match ks[j]?,Hj x i ks (j+1) n with
  |some k,some l=>some (QF x i j k::l)
  |_,_=>none
def LO[Facts](E:Env)(t:TypeId)(ks:List Kd)(y i:SE)(off:Nat):Option AV:=
 match E.desc t with
 |some d=>match Dv d with
  |true=>match Hj y i ks off (E.size t)with
   |some l=>some (.agg l)
   |none=>none
  |false=>match ks[off]? with
   |some k=>some (QF y i off k)
   |none=>none
 |none=>none
def Wl[Facts](E:Env)(t:TypeId)(x:AV)(h:Aa):Option AV:=
 match x with
 |.dptr e y i off=>match E.kinds e with
  |some ks=>LO E t ks y i off
  |none=>none
 |.aptr b c i off=>match h.blk.get b with
  |some (.arr e y)=>match E.kinds e with
   |some ks=>match Nat.beq c ks.length&&inR i (.lenL (Cf y))with
    |true=>LO E t ks y i off
    |false=>none
   |none=>none
  |some (.hole e _ f j a)=>match E.kinds e,E.desc t with
   |some ks,some d=>match Nat.beq c ks.length&&Nat.beq off j&&i.same f && !Dv d with
    |true=>some a
    |false=>none
   |_,_=>none
  |_=>none
 |.glob g off=>match E.desc t with
  |some d=>match Dv d with
   |false=>match E.gl.get g with
    |some l=>l[off]?
    |none=>none
   |true=>none
  |none=>none
 |_=>OY E t x h
def FV(E:Env)(t:TypeId)(x:AV)(f:Nat):Option AV:=
 match x with
 |.dptr e y i off=>match E.desc t,E.kinds e with
  |some (.struct fs),some ks=>match fs.toList[f]? with
   |some a=>match E.size a.type,Nat.blt (off+a.offset) ks.length with
    |_+1,true=>some (.dptr e y i (off+a.offset))
    |_,_=>none
   |none=>none
  |_,_=>none
 |.aptr b c i off=>match E.desc t with
  |some (.struct fs)=>match fs.toList[f]? with
   |some a=>match E.size a.type with
    |0=>none
    |_=>some (.aptr b c i (off+a.offset))
   |none=>none
  |_=>none
 |_=>HW E t x f
def L8[U:Facts]:AV→AV
 |.si k e=>match bnd U.facts e with
  | (some l,some h)=>match l==h with
   |true=>.int k l
   |false=>.si k e
  |_=>.si k e
 |x=>x
def Gh[Facts](E:Env)(t:TypeId)(x i:AV):Option AV:=
 match x with
 |.dat c y=>match E.desc t,toI i with
  |some (.slice e),some (_,a)=>match E.kinds e with
   |some (_::_)=>match Nat.beq e c&&inR a (.lenL (Cf y))with
    |true=>some (.dptr e y a 0)
    |false=>none
   |_=>none
  |_,_=>none
 |.asl b d n _=>match E.desc t,toI i with
  |some (.slice e),some (_,a)=>match E.szIs e d&&inR a n with
   |true=>some (.aptr b d a 0)
   |false=>none
  |_,_=>none
 |.aptr b d f off=>match E.desc t,D2 (L8 i)with
  |some (.array len e),some n=>match Nat.blt n len&&E.has e with
   |true=>some (.aptr b d f (off+n*E.size e))
   |false=>none
  |_,_=>none
 |.dptr c y f off=>match E.desc t,D2 (L8 i),E.kinds c with
  |some (.array len e),some n,some ks=>match Nat.blt n len&&E.has e&&Nat.blt (off+n*E.size e) ks.length with
   |true=>some (.dptr c y f (off+n*E.size e))
   |false=>none
  |_,_,_=>none
 |.glob g off=>match E.desc t,D2 i with
  |some (.array len e),some n=>match Nat.blt n len&&E.has e with
   |true=>some (.glob g (off+n*E.size e))
   |false=>none
  |_,_=>none
 |_=>Ih E t x (L8 i)
def dU[U:Facts]:Kd→AV→Option SE
 |.int k,.int a n=>match decide (k=a)&&(decide (k=.i64)||(decide (k.min≤n)&&decide (n≤k.max)))with
  |true=>some (.c n)
  |false=>none
 |.int k,.si a e=>match decide (k=a)&&(decide (k=.i64)||Qt k (bnd U.facts e).1 (bnd U.facts e).2)with
  |true=>some e
  |false=>none
 |.bool,.bool b=>some (.bc b)
 |.bool,.sb pos e=>some (match pos with|true=>e|false=>.neg e)
 |.str,.str l b=>some (.strc l b)
 |.str,.ss x=>some x
 |.slice e,.dat d x=>match Nat.beq e d with
  |true=>some x
  |false=>none
 |.slice _,.slice0=>some .nilL
 |_,_=>none
def GT[Facts]:List Kd→List AV→Option SE
 |[],[]=>some .rnil
 |k::ks,a::r=>match dU k a,GT ks r with
  |some x,some y=>some (.rcons x y)
  |_,_=>none
 |_,_=>none
def DX[Facts](ks:List Kd):Nat→SE→List AV→Option SE
 |0,y,[]=>some y
 |0,_,_::_=>none
 |n+1,y,l=>match GT ks (l.take ks.length)with
  |some r=>DX ks n (.snoc y r) (l.drop ks.length)
  |none=>none
def Ff[Facts](n y:SE):Bool:=LS n y||Mi (.eql n (.lenL y))
def Pl[Facts](E:Env)(t:TypeId)(x i:AV):Option AV:=
 match x with
 |.ss y=>match E.desc t,toI i with
  |some .string,some (_,a)=>match inR a (.lenS y)with
   |true=>some (mkI .u8 (.strAt y a))
   |false=>none
  |_,_=>none
 |_=>TU E t x (L8 i)
def iz:Option TypeDesc→Bool
 |some (.int .u8)=>true
 |_=>false
def UO:Option (List Kd)→Bool
 |some [.int .u8]=>true
 |_=>false
def Va[Facts](E:Env)(a dst:TypeId)(x:AV)(h:Aa):Option (AV×Aa):=
 match x with
 |.ss y=>match E.desc dst with
  |some (.slice e)=>match iz (E.desc e)&&UO (E.kinds e)&&(E.desc a).isSome with
   |true=>some (.asl h.nx 1 (.lenL (.bytes y)) (.bc false),h.new (.arr e (.bytes y)))
   |false=>none
  |_=>VB E a dst x h
 |_=>VB E a dst x h
def WC[Facts](e:TypeId)(ks:List Kd)(h:Aa):AV→Option (SE×SE×Option Nat)
 |.slice0=>some (.nilL,.bc true,none)
 |.eslc nl=>some (.nilL,nl,none)
 |.slice b off n a=>match Nat.beq a ks.length with
  |true=>match C0 h b off (n*a)with
   |some l=>match DX ks n .emptyL l with
    |some y=>some (y,.bc false,some b)
    |none=>none
   |none=>none
  |false=>none
 |.asl b a n nl=>match Nat.beq a ks.length,h.blk.get b with
  |true,some (.arr c y)=>match Nat.beq e c&&Ff n y with
   |true=>some (y,nl,some b)
   |false=>none
  |_,_=>none
 |_=>none
def bT[Facts](e:TypeId)(ks:List Kd)(h:Aa)(y:SE):AV→Option (SE×SE)
 |.slice0=>some (y,.c 0)
 |.eslc _=>some (y,.c 0)
 |.dat d x=>match Nat.beq e d with
  |true=>some (.cat y x,.lenL x)
  |false=>none
 |.asl b a n _=>match Nat.beq a ks.length,h.blk.get b with
  |true,some (.arr d z)=>match Nat.beq e d&&Ff n z with
   |true=>some (.cat y z,.lenL z)
   |false=>none
  |_,_=>none
 |.slice b off n a=>match Nat.beq a ks.length with
  |true=>match C0 h b off (n*a)with
   |some l=>match DX ks n y l with
    |some f=>some (f,.c n)
    |none=>none
   |none=>none
  |false=>none
 |_=>none
def EP(h:Aa):Option Nat→Aa
 |some b=>h.strike b
 |none=>h
def IV[Facts](E:Env)(t d:TypeId)(s x:AV)(h:Aa):Option (AV×Aa):=
 match s.isSym||x.isSym with
 |false=>Jp E t d s x h
 |true=>match E.desc t,E.desc d with
  |some (.slice e),some (.slice _)=>match E.ty.get e,E.kinds e,E.zero e with
   |some a,some ks,some z=>match Nat.beq ks.length a.size&&Nat.beq z.cells.length a.size&&Nat.ble a.bytes 1024 with
    |true=>match WC e ks h s with
     |some (f,b,g)=>match bT e ks h f x with
      |some (y,m)=>match Mi (.lss (.lenL f) (.c 1073741824))&&Mi (.lss m (.c 1048576))with
       |true=>some (.asl h.nx a.size (.lenL y) (.and b (.eql m (.c 0))),(EP h g).new (.arr e y))
       |false=>none
      |none=>none
     |none=>none
    |false=>none
   |_,_,_=>none
  |_,_=>none
def Da[Facts](i:SE)(ks:List Kd):SE→Nat→List AV→Option SE
 |y,_,[]=>some y
 |y,j,a::r=>match ks[j]? with
  |some k=>match dU k a with
   |some x=>Da i ks (.upd y i j x) (j+1) r
   |none=>none
  |none=>none
def DW[Facts](E:Env)(t:TypeId)(x v:AV)(h:Aa):Option Aa:=
 match x with
 |.aptr b a i off=>match h.blk.get b with
  |some (.arr e y)=>match E.kinds e with
   |some ks=>match Nat.beq a ks.length&&inR i (.lenL (Cf y))&&E.szIs t v.cells.length && !v.isTop with
    |true=>match Da i ks y off v.cells with
     |some c=>some (h.put b (.arr e c))
     |none=>none
    |false=>none
   |none=>none
  |_=>none
 |_=>J4 E t x v h
def Ky[Facts](E:Env)(kd:Kd)(a:AV)(h:Aa):AV×Aa:=
 match kd with
 |.slice e=>match a with
  |.asl b c n nl=>match h.blk.get b,E.kinds e with
   |some (.arr d x),some ks=>match Nat.beq e d&&Nat.beq c ks.length&&Ff n x with
    |true=>(.dat e (.nilIs x nl),h.strike b)
    |false=>(a,h)
   |_,_=>(a,h)
  |.eslc nl=>(.dat e (.nilIs .nilL nl),h)
  |.slice b off n c=>match E.kinds e with
   |some ks=>match Nat.beq c ks.length,C0 h b off (n*c)with
    |true,some l=>match DX ks n .emptyL l with
     |some y=>(.dat e y,h.strike b)
     |none=>(a,h)
    |_,_=>(a,h)
   |none=>(a,h)
  |_=>(a,h)
 |_=>(a,h)
def HC[Facts](E:Env):List Kd→List AV→Aa→List AV×Aa
 |k::ks,a::l,h=>match Ky E k a h with
  | (b,c)=>match HC E ks l c with
   | (d,e)=>(b::d,e)
 |_,l,h=>(l,h)
def wG:Nat→List Kd→List Kd
 |0,_=>[]
 |n+1,ks=>ks++wG n ks
def En[Facts](E:Env)(ks:List Kd)(b:Nat)(h:Aa):Aa:=
 match h.blk.get b with
 |some (.cells n c)=>match c.range 0 n with
  |some l=>match HC E ks l h with
   | (a,h')=>match h'.blk.get b with
    |some (.cells m _)=>match Nat.beq m n&&Nat.beq a.length n with
     |true=>h'.put b (.cells n (.ofList a))
     |false=>h
    |_=>h
  |none=>h
 |_=>h
def Ic[Facts](E:Env)(e:TypeId)(b:Nat)(h:Aa):Aa:=
 match h.blk.get b,E.kinds e with
 |some (.cells n _),some ks=>En E (wG (n/ks.length) ks) b h
 |_,_=>h
def OC:List AV→List Kd
 |[]=>[]
 |.dat e _::r=>.slice e::OC r
 |_::r=>.bool::OC r
def Fi:List Kd→Bool
 |[]=>false
 |.slice _::_=>true
 |_::r=>Fi r
def Gs[Facts](E:Env)(e:TypeId)(a:AV)(h:Aa):Aa:=
 match a with
 |.slice b _ _ _=>match E.kinds e with
  |some ks=>match Fi ks with
   |true=>Ic E e b h
   |false=>h
  |none=>h
 |_=>h
def ZT[Facts](E:Env)(t:TypeId)(b c:Nat)(i:SE)(off:Nat)(v:AV)(h:Aa):Option Aa:=
 match v with
 |.asl d _ _ _=>match h.blk.get b,h.blk.get d with
  |some (.arr e y),some (.arr f _)=>match E.kinds e,E.kinds f with
   |some ks,some a=>match Fi a&&Nat.beq c ks.length&&inR i (.lenL (Cf y))&&E.szIs t 1&&Nat.blt off ks.length with
    |true=>some (h.put b (.hole e y i off v))
    |false=>none
   |_,_=>none
  |_,_=>none
 |_=>none
def Kt[Facts](E:Env)(b:Nat)(h:Aa):Aa:=
 match h.blk.get b with
 |some (.hole e y i j a)=>match E.kinds e with
  |some ks=>match ks[j]? with
   |some (.slice c)=>match Ky E (.slice c) a h with
    | (.dat t z,d)=>match d.blk.get b,Nat.beq t c with
     |some _,true=>d.put b (.arr e (.upd y i j z))
     |_,_=>h
    |_=>h
   |_=>h
  |none=>h
 |_=>h
def JA[Facts](E:Env)(t:TypeId)(x v:AV)(h:Aa):Option Aa:=
  match x with
  |.aptr b a i off=>match ZT E t b a i off v h with
   |some h'=>some h'
   |none=>match h.blk.get b with
    |some (.arr e _)=>match E.kinds e with
      |some ks=>match Fi ks with
        |true=>match v with
          |.agg l=>match HC E (ks.drop off) l h with
            | (c,h')=>DW E t x (.agg c) h'
          |_=>match Ky E (ks.getD off .bool) v h with
            | (d,h')=>DW E t x d h'
        |false=>DW E t x v h
      |none=>DW E t x v h
    |_=>DW E t x v h
  |_=>DW E t x v h
def Ka[Facts](E:Env)(t a:TypeId)(s x:AV)(h:Aa):Option (AV×Aa):=
 match s.isSym||x.isSym with
 |true=>match E.desc t with
  |some (.slice e)=>IV E t a s x (Gs E e x (Gs E e s h))
  |_=>IV E t a s x h
 |false=>IV E t a s x h
def HA(d:SE):Option AV→Option SE
 |none=>some d
 |some v=>match toI v with
  |some (_,e)=>some e
  |none=>none
def inB[Facts](l u n:SE):Bool:=TC (.lss l (.c 0))&&TC (.lss u l)&&TC (.lss n u)
def QJ[Facts](E:Env)(t:TypeId)(x:AV)(lo hi:Option AV)(h:Aa):Option (AV×Aa):=
 match x with
 |.dat a y=>match E.desc t,HA (.c 0) lo,HA (.lenL y) hi with
  |some (.slice e),some l,some u=>match E.kinds e with
   |some ks=>match Nat.beq e a&&E.szIs e ks.length&&inB l u (.lenL y)with
    |true=>some (.dat e (.sub y l u),h)
    |false=>none
   |none=>none
  |_,_,_=>none
 |_=>none
def cP:SE→Bool
 |.c n=>n==0
 |_=>false
def sliceB[Facts](E:Env)(t:TypeId)(x:AV)(lo hi mx:Option AV)(h:Aa):Option (AV×Aa):=
 match x,mx with
 |.dat _ _,none=>QJ E t x lo hi h
 |.ss y,none=>match E.desc t,HA (.c 0) lo,HA (.lenS y) hi with
  |some .string,some l,some u=>match inB l u (.lenS y)with
   |true=>some (.ss (.strSub y l u),h)
   |false=>none
  |_,_,_=>none
 |.asl b d n nl,none=>match E.desc t,h.blk.get b with
  |some (.slice e),some (.arr f y)=>match Nat.beq e f&&E.szIs e d&&Ff n y with
   |true=>match HA (.c 0) lo,HA (.lenL y) hi with
    |some l,some u=>match cP l with
     |true=>match inB (.c 0) u (.lenL y)with
      |true=>some (.asl b d (.lenL (.sub y (.c 0) u)) nl,h.put b (.arr f (.sub y (.c 0) u)))
      |false=>none
     |false=>match Ky E (.slice e) x h with
      | (g,h')=>QJ E t g lo hi h'
    |_,_=>none
   |false=>match HA (.c 0) lo,hi,HA n hi with
    |some l,some _,some u=>match Nat.beq e f&&(E.szIs e d&&(cP l&&(inB (.c 0) u n&&inB (.c 0) u (.lenL y))))with
     |true=>some (.asl b d (.lenL (.sub y (.c 0) u)) nl,h.put b (.arr f (.sub y (.c 0) u)))
     |false=>none
    |_,_,_=>none
  |_,_=>none
 |_,_=>match S2 E t x (lo.map L8) (hi.map L8) (mx.map L8) h with
  |some a=>some (a,h)
  |none=>none
def BP(h:Aa)(a:String):Option AV→Res
 |some v=>.val v h
 |none=>.bad a
def Df(a:String):Option (AV×Aa)→Res
 |some (v,h)=>.val v h
 |none=>.bad a
def Ex(a:String):Option Aa→Res
 |some h=>.val .undef h
 |none=>.bad a
def Ua(E:Env)(t:TypeId)(x:AV)(h:Aa):Option Aa:=none
def Sy:AV→Option SE
 |.ss e=>some e
 |.str l b=>some (.strc l b)
 |_=>none
def My:AV→Option SE
 |.sb true e=>some (.and e (.bc true))
 |.sb false e=>some (.neg e)
 |.bool b=>some (.bc b)
 |_=>none
def ek(a b:SE):SE:=match b with
 |.bc true=>a
 |_=>.and a b
def kg(a b:SE):SE:=match a,b with
 |.c n,.c m=>.bc (n==m)
 |_,_=>.eql a b
def hQ(a b:SE):SE:=.neg (.and (.neg (.and a b)) (.neg (.and (.neg a) (.neg b))))
def Fy(E:Env)(c:TypeId→AV→AV→Option SE)(d g:List AV):List Field→Option SE
 |[]=>some (.bc true)
 |f::r=>match f.name == "_" with
  |true=>none
  |false=>match CF E f.type d f.offset,CF E f.type g f.offset with
   |some a,some b=>match c f.type a b,Fy E c d g r with
    |some e,some h=>some (ek e h)
    |_,_=>none
   |_,_=>none
def GS(E:Env)(c:TypeId→AV→AV→Option SE)(e:TypeId)(n:Nat)(d f:List AV):Nat→Nat→Option SE
 |0,_=>some (.bc true)
 |k+1,i=>match CF E e d (i*n),CF E e f (i*n)with
  |some a,some b=>match c e a b,GS E c e n d f k (i+1)with
   |some x,some y=>some (ek x y)
   |_,_=>none
  |_,_=>none
def Ik(E:Env):Nat→TypeId→AV→AV→Option SE
 |0,_,_,_=>none
 |d+1,t,x,y=>match E.desc t with
  |some .bool=>match My x,My y with
   |some a,some b=>some (hQ a b)
   |_,_=>none
  |some (.int _)=>match toI x,toI y with
   |some (k,a),some (h,b)=>match decide (k=h)with
    |true=>some (kg a b)
    |false=>none
   |_,_=>none
  |some .string=>match Sy x,Sy y with
   |some a,some b=>some (.eqSS a b)
   |_,_=>none
  |some (.struct c)=>match x,y with
   |.agg f,.agg g=>match E.P.stoodInHeld t with
    |true=>none
    |false=>Fy E (Ik E d) f g c.toList
   |_,_=>none
  |some (.array len e)=>match x,y with
   |.agg f,.agg g=>match E.has e with
    |true=>GS E (Ik E d) e (E.size e) f g len 0
    |false=>none
   |_,_=>none
  |_=>none
def Ym[Facts](E:Env)(c:BinOp)(t:TypeId)(a b:AV):Option AV:=
 match a,b with
 |.agg _,.agg _=>match E.P.eqGuardType E.P.depth t with
  |true=>none
  |false=>match Ik E 10000 t a b with
   |some e=>match BN c true with
    |some q=>some (mkB q e)
    |none=>none
   |none=>none
 |_,_=>none
def eqK[U:Facts](E:Env)(t:TypeId)(k key:AV):Option Bool:=match aeq E 10000 t k key with
 |some b=>some b
 |none=>match Ik E 10000 t k key with
  |some e=>AN U.facts e
  |none=>none
def E9[Facts](E:Env)(t:TypeId)(k:AV):List AA→Nat→Option (Option (Nat×AV))
 |[],_=>some none
 |e::r,i=>match eqK E t k e.key with
  |some true=>some (some (i,e.val))
  |some false=>E9 E t k r (i+1)
  |none=>none
def N7:List AV→AV
 |[a]=>a
 |l=>.agg l
def HP(ks:List Kd)(a:AV):Bool:=match ks,a with
 |[_],.agg _=>false
 |[_],.top=>false
 |[_],_=>true
 |_,.agg _=>true
 |_,_=>false
def Kv:List Kd→Bool
 |[]=>true
 |.slice _::_=>false
 |_::r=>Kv r
def pC(j:Nat):Kd→AV
 |.int k=>.si k (.var j)
 |.bool=>.sb true (.var j)
 |.str=>.ss (.var j)
 |.slice _=>.top
def N0:Nat→List Kd→List AV
 |_,[]=>[]
 |j,k::r=>pC j k::N0 (j+1) r
def LZ:SE→List SE
 |.and a b=>LZ a++LZ b
 |.bc true=>[]
 |e=>[e]
def iZ(i j:Nat):Kd→SE
 |.int _=>.eql (.var i) (.var j)
 |.bool=>hQ (.and (.var i) (.bc true)) (.and (.var j) (.bc true))
 |.str=>.eqSS (.var i) (.var j)
 |.slice _=>.bc false
def Vc:Nat→Nat→List Kd→List SE
 |_,_,[]=>[]
 |i,j,k::r=>iZ i j k::Vc (i+1) (j+1) r
def Lw:List SE→List SE→Bool
 |[],[]=>true
 |a::l,b::m=>a.same b&&Lw l m
 |_,_=>false
def Hq(E:Env)(a:TypeId)(ks:List Kd):Bool:=
 match Ik E 10000 a (N7 (N0 ks.length ks)) (N7 (N0 0 ks))with
 |some e=>Kv ks&&Lw (LZ e) (Vc ks.length 0 ks)
 |none=>false
def MW(E:Env)(t:TypeId):Option (TypeId×TypeId×List Kd×List Kd):=
 match E.desc t with
 |some (.map b d)=>match E.kinds b,E.kinds d with
  |some a,some c=>match Hq E b a with
   |true=>some (b,d,a,c)
   |false=>none
  |_,_=>none
 |_=>none
def XR[Facts](a b:List Kd)(k v:AV):Option SE:=
 match HP a k&&HP b v&&Nat.beq k.cells.length a.length with
 |true=>GT (a++b) (k.cells++v.cells)
 |false=>none
def Np[Facts](a b:List Kd):SE→List AA→Option SE
 |y,[]=>some y
 |y,e::r=>match XR a b e.key e.val with
  |some x=>Np a b (.snoc y x) r
  |none=>none
def W9[Facts](a:List Kd)(k:AV):Option SE:=
 match HP a k with
 |true=>GT a k.cells
 |false=>none
def Qe(k:AV):Bool:=k.cells.any AV.isSym
def ZQ(lo:Nat):List AA→Nat→Bool
 |[],_=>true
 |e::r,c=>Nat.ble lo e.born&&Nat.blt e.born c&&ZQ (e.born+1) r c
def bp[Facts](g h:TypeId)(b c:List Kd):Option An→Option SE
 |some (.dmap d e x)=>match Nat.beq g d&&Nat.beq h e with
  |true=>some x
  |false=>none
 |some (.map f a)=>match ZQ 0 f a with
  |true=>Np b c .emptyL f
  |false=>none
 |_=>none
def Pw[U:Facts](E:Env)(t:TypeId)(m k:AV)(ok:Bool)(h:Aa):Option AV:=
 match MW E t,m with
 |some (f,g,a,b),.map r=>match h.blk.get r with
  |some (.dmap d e x)=>match Nat.beq f d&&Nat.beq g e&&Cr E 20 f k,E.zero g,W9 a k with
   |true,some z,some i=>match AN U.facts (.lss (.mIdx a x i) (.c 0))with
    |some true=>some (NB ok z false)
    |some false=>match Hj x (.mIdx a x i) (a++b) a.length b.length with
     |some l=>some (NB ok (N7 l) true)
     |none=>none
    |none=>none
   |_,_,_=>none
  |_=>none
 |_,_=>none
def LJ[Facts](E:Env)(t:TypeId)(m k:AV)(ok:Bool)(h:Aa):Option AV:=
 match PM E t m k ok h with
 |some r=>some r
 |none=>match Pw E t m k ok h with
 |some r=>some r
 |none=>match E.desc t,m with
  |some (.map a b),.map r=>match Cr E 20 a k,E.zero b,h.blk.get r with
   |true,some z,some (.map c _)=>match E9 E a k c 0 with
    |some (some (_,v))=>some (NB ok v true)
    |some none=>some (NB ok z false)
    |none=>none
   |_,_,_=>none
  |_,_=>none
def P4[U:Facts](E:Env)(t:TypeId)(m k v:AV)(h:Aa):Option Aa:=
 match MW E t,m with
 |some (d,e,a,b),.map r=>match Cr E 20 d k,bp d e a b (h.blk.get r),W9 a k with
  |true,some x,some f=>match XR a b k v,AN U.facts (.lss (.mIdx a x f) (.c 0))with
   |some row,some true=>some (h.put r (.dmap d e (.snoc x row)))
   |some _,some false=>match Da (.mIdx a x f) (a++b) x a.length v.cells with
    |some y=>some (h.put r (.dmap d e y))
    |none=>none
   |_,_=>none
  |_,_,_=>none
 |_,_=>none
def U2[U:Facts](E:Env)(t:TypeId)(m k:AV)(h:Aa):Option (AV×Aa):=
 match MW E t,m with
 |some (d,e,a,b),.map r=>match Cr E 20 d k,bp d e a b (h.blk.get r),W9 a k,E.zero e with
  |true,some x,some f,some z=>match XR a b k z,AN U.facts (.lss (.mIdx a x f) (.c 0))with
   |some row,some true=>some (.tuple [z,.stamp h.nx],(h.put r (.dmap d e (.snoc x row))).stampN.put r (.dmapS d e (.snoc x row) (.lenL x) h.nx))
   |_,_=>none
  |_,_,_,_=>none
 |_,_=>none
def dm:Option An→Bool
 |some (.dmap _ _ _)=>true
 |_=>false
def Wr(h:Aa):AV→Option An
 |.map r=>h.blk.get r
 |_=>none
def Tc[Facts](E:Env)(t:TypeId)(m k:AV)(h:Aa):Option (AV×Aa):=
 match Qe k||dm (Wr h m)with
 |true=>(match U2 E t m k h with
  |some r=>some r
  |none=>Qu E t m k h)
 |false=>Qu E t m k h
def GQ[Facts](E:Env)(t:TypeId)(m:AV)(b:Nat)(v:AV)(h:Aa):Option Aa:=
 match MW E t,m with
 |some (f,g,c,a),.map r=>match h.blk.get r with
  |some (.dmapS d e x n i)=>match Nat.beq f d&&Nat.beq g e&&Nat.beq b i&&HP a v&&Nat.beq v.cells.length a.length,Da n (c++a) x c.length v.cells with
   |true,some y=>some (h.put r (.dmap f g y))
   |_,_=>none
  |_=>none
 |_,_=>none
def GI[Facts](E:Env)(t:TypeId)(m st v:AV)(h:Aa):Option Aa:=
 match st with
 |.stamp b=>GQ E t m b v h
 |st=>GM m st v h
def Pz[Facts](E:Env)(t:TypeId)(m k v:AV)(h:Aa):Option Aa:=
 match Qe k||dm (Wr h m)with
 |true=>match P4 E t m k v h with
  |some h'=>some h'
  |none=>JP E t m k v h
 |false=>JP E t m k v h
def QL[U:Facts](E:Env)(t:TypeId)(m k:AV)(h:Aa):Option Aa:=none
def QE[Facts](E:Env)(t:TypeId)(m k:AV)(h:Aa):Option Aa:=
 match LC E t m k h with
 |some h'=>some h'
 |none=>QL E t m k h
def gQ[Facts](e:TypeId)(h:Aa):AV→Option SE
 |.dat a y=>match Nat.beq e a with
  |true=>some y
  |false=>none
 |.asl b c n _=>match h.blk.get b with
  |some (.arr a y)=>match Nat.beq e a&&Nat.beq c 1&&Ff n y with
   |true=>some y
   |false=>none
  |_=>none
 |_=>none
def ZZ[Facts](E:Env)(t:TypeId)(d x:AV)(h:Aa):Option (AV×Aa):=none
def FJ[Facts](E:Env)(b:Builtin)(argTypes:List TypeId)(args:List AV)(h:Aa):Res:=
 match b,argTypes,args with
 |.len,t::_,x::_=>BP h "len" (kN E t x h)
 |.append,[t,t'],[s,x]=>Df "append" (Ka E t t' s x h)
 |.copy,t::_,[d,x]=>Df "copy" (ZZ E t d x h)
 |.delete,t::_,[m,k]=>Ex "delete" (QE E t m k h)
 |.max,_,l=>BP h "max" (orA (Aaw l) (ZV l))
 |.min,_,l=>BP h "min" (orA (qL l) (Y3 l))
 |.recover,_,_=>.recover h
 |.panic,_,[.iface t v]=>.panic (.iface t v) h
 |.clear,[t],[x]=>Ex "clear" (Ua E t x h)
 |b,_,_=>.bad ("builtin " ++ reprStr b)
def Lv(name:String)(args:List AV)(h:Aa):Res:=.bad ""
def RM(E:Env)(f:FuncId)(args:List AV)(h:Aa):Res:=
 match E.fn.get f with
 |some fn=>match fn.body with
  |some _=>.enter f args h
  |none=>Lv fn.name args h
 |none=>.bad "no function"
def Ce(E:Env)(fn:Fn)(captured args:List AV)(h:Aa):Res:=
 match fn with
 |.func f=>RM E f (args++captured) h
 |.yield l=>.round l args h
 |_=>.bad ""
def Dr[Facts](E:Env)(tmps:T AV)(c:Call)(h:Aa):Res:=
 let args:=c.args.toList.map (Aj tmps)
 match c.callee with
 |.builtin b=>FJ E b c.argTypes.toList args h
 |.invoke r name=>Ce E (.method name) [] (Aj tmps r::args) h
 |.value f=>match Aj tmps f with
  |.func fn first captured=>Ce E fn captured (first++args) h
  |_=>.bad "call of what"
def Hg(tmps:T AV)(c:Call)(h:Aa):Res:=
 let args:=c.args.toList.map (Aj tmps)
 match c.callee with
 |.value f=>match Aj tmps f with
  |.func fn first captured=>.defer {fn:=some fn,coll:=0,captured,args:=first++args} h
  |_=>.bad "defer of what"
 |_=>.bad "defer builtin"
def A4(tmps:T AV):Option Operand→Option AV
 |some o=>some (Aj tmps o)
 |none=>none
def Pq(E:Env)(fs:List Field)(i:Nat):Option (Nat×Nat):=
 match fs[i]? with
 |some f=>some (f.offset,E.size f.type)
 |none=>none
def Pi(E:Env)(t:TypeId)(parts:List (Nat×AV)):Option AV:=
 match E.zero t,E.desc t with
 |some z,some (.struct fs)=>match fs.toList.all fun f=>E.has f.type with
  |true=>(FA (Pq E fs.toList) z.cells parts).map .agg
  |false=>none
 |some z,some (.array _ e)=>match E.has e with
  |true=>(FA (fun i=>some (i*E.size e,E.size e)) z.cells parts).map .agg
  |false=>none
 |_,_=>none
def EZ(E:Env)(t:TypeId)(len:Nat)(parts:List (Nat×AV))(h:Aa):Option (AV×Aa):=
 match E.desc t with
 |some (.slice e)=>
  match Nat.ble (len*E.size e) 16777216,E.zero e with
  |true,some z=>match Nat.beq z.cells.length (E.size e)with
   |false=>none
   |true=>match FA (fun i=>some (i*E.size e,E.size e)) (BJ z.cells len) parts with
    |some cells=>some (.slice h.nx 0 len (E.size e),Bw h cells)
    |none=>none
  |_,_=>none
 |_=>none
def Iz(E:Env)(t:TypeId)(l c:AV)(h:Aa):Option (AV×Aa):=none
def H4[Facts](E:Env)(t:TypeId)(l c:AV)(h:Aa):Option (AV×Aa):=
 match l with
 |.si k n=>match c with
  |.si _ m=>match decide (k=.i64)&&n.same m,E.desc t with
   |true,some (.slice e)=>match E.ty.get e,E.kinds e,E.zero e with
    |some a,some ks,some z=>match Nat.beq ks.length a.size&&Nat.beq z.cells.length a.size&&Nat.ble a.bytes 1024&&TC (.lss n (.c 0))&&Mi (.lss n (.c 1048577)),GT ks z.cells with
     |true,some r=>some (.asl h.nx a.size (.lenL (.rep n r)) (.bc false),h.new (.arr e (.rep n r)))
     |_,_=>none
    |_,_,_=>none
   |_,_=>none
  |_=>none
 |_=>Iz E t l c h
def RV:TypeDesc→Bool
 |.interface _=>true
 |_=>false
def Qa(E:Env)(x:AV)(a:TypeId)(ok:Bool):Option AV:=
 match x with
 |.nilIface=>match ok,E.zero a with
  |true,some z=>some (.tuple [z,.bool false])
  |_,_=>none
 |.iface t v=>match Nat.beq t a with
  |true=>match ok with
   |true=>some (.tuple [v,.bool true])
   |false=>some v
  |false=>match ok,E.zero a with
   |true,some z=>some (.tuple [z,.bool false])
   |_,_=>none
 |_=>none
def PO(E:Env)(x:AV)(a:TypeId)(ok:Bool):Option AV:=
 match E.desc a with
 |some d=>match RV d with
  |true=>none
  |false=>Qa E x a ok
 |none=>none
def AV.isNil:AV→Bool
 |.nilIface=>true
 |_=>false
def QH[Facts]:SE→Bool
 |.strc l _=>Nat.ble l 4611686018427387903
 |e=>Mi (.lss (.lenS e) (.c 4611686018427387904))
def jo[Facts](c:BinOp)(a b:AV):Option AV:=
 match c with
 |.add=>match Sy a,Sy b with
  |some x,some y=>match QH x&&QH y with
   |true=>some (.ss (.strCat x y))
   |false=>none
  |_,_=>none
 |_=>none
def jD[Facts](E:Env)(c:BinOp)(t:TypeId)(x y:Operand)(a b:AV):Option AV:=
 match a.isSym||b.isSym with
 |true=>match eqV (E.desc t) c a b with
  |some r=>some r
  |none=>match jo c a b with
   |some r=>some r
   |none=>gB c a b
 |false=>match a.isNil&&b.isNil with
 |true=>match Region.isConst x||Region.isConst y,E.desc t with
  |true,some (.interface _)=>match c with
   |.eql=>some (.bool true)
   |.neq=>some (.bool false)
   |_=>none
  |_,_=>none
 |false=>match T3 E c t a b with
  |some r=>some r
  |none=>Ym E c t a b
def aop[U:Facts](E:Env)(tmps:T AV)(h:Aa)(j:Op):Res:=
 match j with
 |.move x=>.val (Aj tmps x) h
 |.assign x=>.val (Aj tmps x) h
 |.pick c a b=>match Aj tmps c with
  |.bool true=>.val (Aj tmps a) h
  |.bool false=>.val (Aj tmps b) h
  |.sb pos e=>match AN U.facts e with
   |some q=>match q==pos with
    |true=>.val (Aj tmps a) h
    |false=>.val (Aj tmps b) h
   |none=>.bad "pick"
  |_=>.bad "pick"
 |.alloc t=>match E.zero t with
  |some z=>.val (.ptr h.nx 0) (Bw h z.cells)
  |none=>.bad "alloc"
 |.box _ x=>match (Aj tmps x).isTop with
  |true=>.bad "box"
  |false=>.val (.ptr h.nx 0) (Bw h (Aj tmps x).cells)
 |.build t n=>BP h "build" (Pi E t (n.toList.map fun(i,x)=>(i,Aj tmps x)))
 |.buildSlice t len n=>Df "buildSlice" (EZ E t len (n.toList.map fun(i,x)=>(i,Aj tmps x)) h)
 |.load t a=>BP h "load" (Wl E t (Aj tmps a) h)
 |.store t a x=>Ex "store" (JA E t (Aj tmps a) (Aj tmps x) h)
 |.nilCheck x=>match Aj tmps x with
  |.ptr b off=>.val (.ptr b off) h
  |.func (.func f) a b=>.val (.func (.func f) a b) h
  |.func (.yield f) a b=>.val (.func (.yield f) a b) h
  |.iface t v=>.val (.iface t v) h
  |.aptr b o i off=>.val (.aptr b o i off) h
  |_=>.bad "nilCheck"
 |.binOp j t x y _=>BP h "binOp" (jD E j t x y (Aj tmps x) (Aj tmps y))
 |.unOp j _ x=>BP h "unOp" (unB j (Aj tmps x))
 |.convert s d x=>Df "convert" (Va E s d (Aj tmps x) h)
 |.makeInterface t x=>match E.desc t with
  |some (.interface _)=>.bad "makeInterface"
  |some _=>.val (.iface t (Aj tmps x)) h
  |none=>.bad "makeInterface"
 |.makeFunc (.yield _) _ _=>.bad "makeFunc"
 |.makeFunc fn first captured=>.val (.func fn (first.toList.map (Aj tmps)) (captured.toList.map (Aj tmps))) h
 |.makeMap _ none=>.val (.map h.nx) (h.new (.map [] 0))
 |.makeMap t (some r)=>match E.desc t,Aj tmps r with
  |some (.map _ _),.int _ _=>.val (.map h.nx) (h.new (.map [] 0))
  |_,_=>.bad "makeMap"
 |.makeSlice t l c=>Df "makeSlice" (H4 E t (Aj tmps l) (Aj tmps c) h)
 |.slice t x lo hi mx=>Df "slice" (match mx,hi with
  |some _,none=>none
  |_,_=>sliceB E t (Aj tmps x) (A4 tmps lo) (A4 tmps hi) (A4 tmps mx) h)
 |.fieldAddr t x f=>BP h "fieldAddr" (FV E t (Aj tmps x) f)
 |.field t x f=>BP h "field" (PC E t (Aj tmps x) f)
 |.indexAddr t x i=>BP h "indexAddr" (Gh E t (Aj tmps x) (Aj tmps i))
 |.index t x i=>BP h "index" (Pl E t (Aj tmps x) (Aj tmps i))
 |.lookup t m k ok=>BP h "lookup" (LJ E t (Aj tmps m) (Aj tmps k) ok h)
 |.mapUpdate t m k v=>Ex "mapUpdate" (Pz E t (Aj tmps m) (Aj tmps k) (Aj tmps v) h)
 |.insert t m k v=>Ex "insert" (JP E t (Aj tmps m) (Aj tmps k) (Aj tmps v) h)
 |.mapEntry t m k=>Df "mapEntry" (Tc E t (Aj tmps m) (Aj tmps k) h)
 |.entryStore t m st v=>Ex "entryStore" (GI E t (Aj tmps m) (Aj tmps st) (Aj tmps v) h)
 |.range t x=>Df "range" (UV E t (Aj tmps x) h)
 |.next it g=>Df "next" (Z8 (Aj tmps it) g h)
 |.typeAssert x _ t ok=>BP h "typeAssert" (PO E (Aj tmps x) t ok)
 |.extract t i=>match Aj tmps t with
  |.tuple p=>BP h "extract" p[i]?
  |_=>.bad "extract"
 |.call c=>Dr E tmps c h
 |.defer c=>Hg tmps c h
 |.panic x=>match Aj tmps x with
  |.iface t v=>.panic (.iface t v) h
  |_=>.bad "panic"
 |.sliceToArrayPointer ..=>.bad "sliceToArrayPointer"
 |.ready _=>.bad "ready"
 |.waits _=>.bad "waits"
 |.entry it=>BP h "entry" (Ib (Aj tmps it) h)
 |.makeChan ..=>.bad "makeChan"
 |.go _=>.bad "go"
 |.send ..=>.bad "send"
 |.recv ..=>.bad "recv"
 |.select ..=>.bad "select"
def BK[U:Facts](all:Array Oper)(o:Oper)(tmps:T AV):Option Bool:=
 match o.guard with
 |none=>some true
 |some (j,a)=>
  match all.toList[j]? with
  |some g=>match g.dst with
   |some d=>match tmps.get d with
    |some (.bool b)=>some (b==a)
    |some .top=>none
    |some (.sb pos e)=>match AN U.facts e with
     |some c=>some ((c==pos)==a)
     |none=>none
    |none=>none
    |_=>some false
   |none=>some false
  |none=>some false
def Ey(nt:Nat)(tmps:T AV)(dst:Option Tmp)(v:AV):Option (T AV):=
 match dst with
 |some d=>match Nat.blt d nt with
  |true=>some (tmps.set d v)
  |false=>none
 |none=>some tmps
def B3(fr:AF)(v:AV):Option AF:=
 match fr.todo with
 |.ops all (o::rest)::k=>match Ey fr.nt fr.tmps o.dst v with
  |some t=>some {fr with tmps:=t,todo:=.ops all rest::k}
  |none=>none
 |.inRange l::k=>some {fr with todo:=.endRange l::k}
 |.beginRound::k=>some {fr with todo:=k}
 |_=>none
def KQ(id:Nat):List AI→Option (List AI)
 |.inBlock a::k=>match Nat.beq a id with|true=>some k|false=>KQ id k
 |_::k=>KQ id k
 |[]=>none
def I9:List AI→Bool
 |.rest::_=>true
 |_::k=>I9 k
 |[]=>false
def N1(l:Nat):List AI→Option (List AI)
 |.inScope body::k=>
  match findLabel body l with
  |some rest=>some (.code rest::.inScope body::k)
  |none=>N1 l k
 |_::k=>N1 l k
 |[]=>none
inductive Out where
 |next (s:AS)
 |done (ok:Bool) (v:AV) (h:Aa)
 |draw (s:AS) (ops:Array Oper) (k:List AI)
 |bad (why:String)
 deriving Inhabited
def Bc(E:Env)(f:FuncId)(args:List AV)(kind:CallKind):Option AF:=
 match E.fn.get f with
 |some fn=>match fn.body with
  |some c=>some {fn:=f,nt:=max fn.ntmps args.length,tmps:=.ofList args,todo:=[.code c],defers:=[],mode:=.run,kind,round:=none}
  |none=>none
 |none=>none
def Fk(nt:Nat):T AV→List Tmp→List AV→Option (T AV)
 |t,[],[]=>some t
 |t,p::b,a::as=>match Nat.blt p nt with
  |true=>Fk nt (t.set p a) b as
  |false=>none
 |_,_,_=>none
def G0(l:Nat)(args:List AV)(h:Aa):Option AF:=
 match h.blk.get l with
 |some (.loop _ _ fn nt tmps params assign body _)=>match Fk nt tmps params args with
  |some t=>some {fn,nt,tmps:=t,todo:=[.code assign,.beginRound,.code body],defers:=[],mode:=.run,kind:=.normal,round:=some l}
  |none=>none
 |_=>none
def CI(fr:AF)(cs:List AF)(v:AV)(h:Aa):Out:=
 match cs with
 |c::rest=>
  match fr.kind with
  |.normal=>match B3 c v with
   |some a=>.next {fr:=a,cs:=rest,h}
   |none=>.bad "finish"
  |.deferred=>
   match c.mode with
   |.panic ((_,true)::_)=>.next {fr:={c with mode:=.ret},cs:=rest,h}
   |_=>.next {fr:=c,cs:=rest,h}
  |_=>.bad "kind"
 |[]=>match fr.kind with
  |.normal=>.done true v h
  |_=>.bad "kind at the bottom"
def BS(E:Env)(fr:AF)(cs:List AF)(r:Res):Out:=
 match r with
 |.val v h=>match B3 fr v with
  |some a=>.next {fr:=a,cs,h}
  |none=>.bad "finish"
 |.enter f args h=>match Bc E f args .normal with
  |some g=>.next {fr:=g,cs:=fr::cs,h}
  |none=>.bad "enter"
 |.round l args h=>match G0 l args h with
  |some g=>.next {fr:=g,cs:=fr::cs,h}
  |none=>.bad "yield"
 |.defer d h=>match fr.round with
  |some _=>.bad "defer in a round"
  |none=>match B3 fr .undef with
   |some a=>.next {fr:={a with defers:=d::a.defers},cs,h}
   |none=>.bad "finish"
 |.recover h=>match fr.round,fr.kind,cs with
  |none,.deferred,c::rest=>match c.mode with
   |.panic ((v,false)::b)=>match B3 fr v with
    |some a=>.next {fr:=a,cs:={c with mode:=.panic ((v,true)::b)}::rest,h}
    |none=>.bad "finish"
   |_=>match B3 fr .nilIface with
    |some a=>.next {fr:=a,cs,h}
    |none=>.bad "finish"
  |_,_,_=>.bad "recover"
 |.panic v h=>match fr.mode with
  |.run=>.next {fr:={fr with mode:=.panic [(v,false)]},cs,h}
  |_=>.bad "panic"
 |.bad w=>.bad w
def DS(fr:AF)(cs:List AF)(h:Aa)(a:Option Code):Out:=
 match fr.round with
 |none=>match a with
  |none=>.next {fr:={fr with mode:=.ret},cs,h}
  |some .ret=>.next {fr:={fr with mode:=.ret},cs,h}
  |_=>.bad "leave"
 |some l=>match h.blk.get l with
  |some (.loop _ _ fn nt tmps params assign body defers)=>
   CI fr cs (.bool a.isNone) (h.put l (.loop (if a.isNone then .ready else .done) a fn nt tmps params assign body defers))
  |_=>.bad "no loop"
def BG(E:Env)(fr:AF)(h:Aa):List ResultVar→Option (List AV)
 |[]=>some []
 |.tmp t::r=>match BG E fr h r with
  |some l=>some ((match fr.tmps.get t with|some v=>v|none=>.top)::l)
  |none=>none
 |.cell a t::r=>match fr.tmps.get a with
  |some p=>match OY E t p h,BG E fr h r with
   |some v,some l=>some (v::l)
   |_,_=>none
  |none=>none
def Eb(E:Env)(fr:AF)(cs:List AF)(h:Aa):Out:=
 match fr.defers with
 |d::b=>match d.fn with
  |none=>match h.blk.get d.coll with
   |some (.deferred (some l))=>.next {fr:={fr with defers:=l++b},cs,h:=h.put d.coll (.deferred none)}
   |_=>.bad "collected"
  |some fn=>match Ce E fn d.captured d.args h with
   |.enter f args h=>match Bc E f args .deferred with
    |some g=>.next {fr:=g,cs:={fr with defers:=b}::cs,h}
    |none=>.bad "enter deferred"
   |_=>.bad "deferred what"
 |[]=>match fr.mode with
  |.run=>.bad "unwind run"
  |.panic a=>match cs with
   |c::rest=>match c.mode with
    |.run=>.next {fr:={c with mode:=.panic a},cs:=rest,h}
    |_=>.bad "panic in a deferred call"
   |[]=>match a with
    |[(v,false)]=>match E.fn.get fr.fn with
     |some _=>.done false v h
     |none=>.bad "no function"
    |_=>.bad "panic at the bottom"
  |.ret=>match E.fn.get fr.fn with
   |some fn=>match BG E fr h fn.results.toList with
    |some [v]=>CI fr cs v h
    |some l=>CI fr cs (.tuple l) h
    |none=>.bad "results"
   |none=>.bad "no function"
def Vd(fr:AF)(h:Aa):Option (Nat×Aa×List AD):=
 match fr.round with
 |some l=>match h.blk.get l with
  |some (.loop _ _ _ _ _ _ _ _ d)=>some (d,h,[])
  |_=>none
 |none=>some (h.nx,h.new (.deferred (some [])),[{fn:=none,coll:=h.nx,captured:=[],args:=[]}])
def Hx(E:Env)(s:AS)(f:Operand)(params:List Tmp)(assign body:Code)(k:List AI):Out:=
 match Vd s.fr s.h with
 |some (d,a,mark)=>
  match Aj s.fr.tmps f with
  |.func fn first captured=>
   match Ce E fn captured (first++[.func (.yield a.nx) [] []]) (a.new (.loop .ready none s.fr.fn s.fr.nt s.fr.tmps params assign body d))with
   |.enter g args _=>match Bc E g args .normal with
    |some b=>.next {fr:=b,cs:={s.fr with todo:=.inRange a.nx::k,defers:=mark++s.fr.defers}::s.cs,h:=a.new (.loop .ready none s.fr.fn s.fr.nt s.fr.tmps params assign body d)}
    |none=>.bad "enter"
   |_=>.bad "range over what"
  |_=>.bad "range over what"
 |none=>.bad "rangeFunc"
def A6[U:Facts](E:Env)(s:AS):Out:=
 let fr:=s.fr
 let to (k:List AI):Out:=.next {s with fr:={fr with todo:=k}}
 match fr.mode with
 |.run=>match fr.todo with
  |[]=>DS fr s.cs s.h none
  |.inBlock _::k=>to k
  |.inScope _::k=>to k
  |.inLoop body::k=>to (.code body::.inLoop body::k)
  |.ops _ []::k=>to k
  |.ops all (o::_)::_=>
   match BK all o fr.tmps with
   |some true=>BS E fr s.cs (aop E fr.tmps s.h o.op)
   |some false=>BS E fr s.cs (.val .undef s.h)
   |none=>.bad "wanted"
  |.inRange _::_=>.bad "inRange"
  |.dead::_=>.bad "dead"
  |.rest::_=>.bad "rest"
  |.endRange l::k=>match s.h.blk.get l with
   |some (.loop st pending fn nt tmps params assign body defers)=>match st with
    |.busy=>.bad "loop busy"
    |_=>.next {s with fr:={fr with todo:=match pending with|some c=>.code c::k|none=>k},h:=s.h.put l (.loop .exhausted pending fn nt tmps params assign body defers)}
   |_=>.bad "endRange"
  |.beginRound::k=>match fr.round with
   |some l=>match s.h.blk.get l with
    |some (.loop .ready pending fn nt tmps params assign body defers)=>
     .next {s with fr:={fr with todo:=k},h:=s.h.put l (.loop .busy pending fn nt tmps params assign body defers)}
    |_=>.bad "beginRound"
   |none=>.bad "beginRound"
  |.code c::k=>match c with
   |.ret=>DS fr s.cs s.h (some .ret)
   |.skip=>to k
   |.label _=>to k
   |.seq a b=>to (.code a::.code b::k)
   |.cond c x y=>match Aj fr.tmps c with
    |.bool true=>to (.code x::k)
    |.bool false=>to (.code y::k)
    |.sb pos e=>match AN U.facts e with
     |some c=>match c==pos with
      |true=>to (.code x::k)
      |false=>to (.code y::k)
     |none=>.bad "cond"
    |_=>.bad "cond"
   |.block id body=>to (.code body::.inBlock id::k)
   |.loop body=>to (.code body::.inLoop body::k)
   |.scope body=>to (.code body::.inScope body::k)
   |.exit id=>match KQ id k with
    |some g=>to g
    |none=>match I9 k with
     |true=>.bad "exit"
     |false=>DS fr s.cs s.h (some (.exit id))
   |.goto l=>match N1 l k with
    |some g=>to g
    |none=>match I9 k with
     |true=>.bad "goto"
     |false=>DS fr s.cs s.h (some (.goto l))
   |.rangeFunc f params assign body=>Hx E s f params.toList assign body k
   |.region _ ops d=>match d with
    |false=>to (.ops ops ops.toList::k)
    |true=>.draw s ops k
   |.refuse i=>.bad i
 |_=>Eb E fr s.cs s.h
structure Rc where
 wr:List Nat
 fp:Option (List Nat)
 lo:Nat
 hi:Nat
 dst:Option Tmp
 looks:List Tmp
 mask:Nat
 deriving Inhabited
def vk:AV→List Nat
 |.ptr b _=>[b]
 |.slice b _ _ _=>[b]
 |.fsl b _ _ _=>[b]
 |.map b=>[b]
 |.asl b _ _ _=>[b]
 |.aptr b _ _ _=>[b]
 |.nmap b _=>[b]
 |_=>[]
def qh:Operand→List Tmp
 |.tmp t=>[t]
 |_=>[]
def Bj(all:Array Oper)(o:Oper):List Tmp:=
 o.op.operands.toList.flatMap qh++(match o.guard with
  |some (g,_)=>(match all.toList[g]? with
   |some x=>x.dst.toList
   |none=>[])
  |none=>[])
def Nu(b:Nat):List Nat→Bool
 |[]=>false
 |c::r=>match Nat.beq b c with
  |true=>true
  |false=>Nu b r
def Kb:List Nat→List Nat→Bool
 |[],_=>true
 |b::r,l=>match Nu b l with
  |true=>false
  |false=>Kb r l
def Is(w:List Nat):Option (List Nat)→Bool
 |none=>w.isEmpty
 |some l=>Kb w l
def XG(l:List Nat):Option Tmp→Bool
 |some d=>Nu d l
 |none=>false
def ZF:Option Tmp→Option Tmp→Bool
 |some a,some b=>Nat.beq a b
 |_,_=>false
def YR(lo hi:Nat):List Nat→Bool
 |[]=>true
 |b::r=>match Nat.ble lo b&&Nat.blt b hi with
  |true=>false
  |false=>YR lo hi r
def Rc.apart(x y:Rc):Bool:=
 Is x.wr y.fp&&Is y.wr x.fp&&Kb x.wr y.wr&&YR x.lo x.hi y.wr && !XG y.looks x.dst && !XG x.looks y.dst && !ZF x.dst y.dst
def De(y:Rc):List Rc→Nat→Bool
 |[],_=>true
 |x::r,i=>match Nat.beq (y.mask/2^i%2) 1||x.apart y with
  |true=>De y r (i+1)
  |false=>false
def BL(recs:List Rc):List Edge→Option Nat
 |[]=>some 0
 |e::r=>match BL recs r with
  |none=>none
  |some m=>match Region.binds .any e with
   |false=>some m
   |true=>match recs[e.on]? with
    |some x=>some (m ||| x.mask ||| 2^e.on)
    |none=>none
def Do(h:Aa):List Nat→T An
 |[]=>.nil
 |b::r=>match h.blk.get b with
  |some x=>(Do h r).set b x
  |none=>Do h r
def G6(blk a:T An):List Nat→T An
 |[]=>blk
 |b::r=>match a.get b,blk.get b with
  |some x,some _=>(G6 blk a r).set b x
  |_,_=>(G6 blk a r).del b
def IC(blk a:T An)(i:Nat):Nat→T An
 |0=>blk
 |n+1=>match a.get i with
  |some x=>(IC blk a (i+1) n).set i x
  |none=>IC blk a (i+1) n
def Nh:Op→Bool
 |.next ..=>false
 |.entry _=>false
 |.call c=>match c.callee with
  |.builtin _=>true
  |_=>false
 |.defer _=>false
 |.panic _=>false
 |_=>true
def cH:Op→List Operand
 |.load _ a=>[a]
 |.store _ a _=>[a]
 |.convert _ _ x=>[x]
 |.slice _ x _ _ _=>[x]
 |.lookup _ m _ _=>[m]
 |.mapUpdate _ m _ _=>[m]
 |.insert _ m _ _=>[m]
 |.mapEntry _ m _=>[m]
 |.entryStore _ m _ _=>[m]
 |.range _ x=>[x]
 |.call c=>c.args.toList
 |_=>[]
def kK:AV→List Nat
 |.slice b _ _ _=>[b]
 |.asl b _ _ _=>[b]
 |_=>[]
def T8(c:T AV):Nat→List Nat
 |0=>[]
 |n+1=>match c.get n with
  |some a=>kK a++T8 c n
  |none=>T8 c n
def sW(h:Aa)(b:Nat):List Nat:=
 match h.blk.get b with
 |some (.cells n c)=>match Nat.ble n 256 with
  |true=>T8 c n
  |false=>[]
 |_=>[]
def mJ:AV→List Nat
 |.agg l=>l.flatMap kK
 |a=>kK a
def bL(tmps:T AV)(h:Aa):Op→List Nat
 |.call c=>match c.callee with
  |.builtin .append=>(c.args.toList.flatMap fun x=>vk (Aj tmps x)).flatMap (sW h)
  |_=>[]
 |.store _ a x=>match Aj tmps a with
  |.aptr ..=>mJ (Aj tmps x)
  |_=>[]
 |_=>[]
def YA(tmps:T AV)(h:Aa)(o:Op):List Nat:=((cH o).map (Aj tmps)).flatMap vk++bL tmps h o
def BF(n:Nat):List Nat→List Nat
 |[]=>[]
 |b::r=>match Nat.blt b n with
  |true=>b::BF n r
  |false=>BF n r
def AX(h g:Aa):Aa:=
 {blk:=IC (G6 h.blk g.blk (BF h.nx g.log)) g.blk h.nx (g.nx-h.nx),nx:=g.nx,log:=BF h.nx g.log++h.log}
def A0[Facts](tmps:T AV):List Tmp→T AV
 |[]=>.nil
 |t::r=>match tmps.get t with
  |some v=>(A0 tmps r).set t (ai v)
  |none=>A0 tmps r
structure Did where
 ok:Bool
 v:AV
 g:Aa
 fp:Option (List Nat)
 deriving Inhabited
def Dj[Facts](E:Env)(a:Ask→Aa→Option (Bool×AV×Aa))(all:Array Oper)(o:Oper)(tmps:T AV)(h:Aa):Option Did:=
 match BK all o tmps with
 |none=>none
 |some false=>some ⟨true,.undef,{blk:=.nil,nx:=h.nx,log:=[]},some []⟩
 |some true=>match Nh o.op with
  |true=>
   let b:=YA tmps h o.op
   match aop E tmps {blk:=Do h b,nx:=h.nx,log:=[]} o.op with
   |.val v g=>some ⟨true,v,g,some b⟩
   |_=>none
  |false=>match aop E tmps {h with log:=[]} o.op with
   |.enter f args _=>match a (.enter f args) {h with log:=[]}with
    |some (ok,v,g)=>some ⟨ok,v,g,none⟩
    |none=>none
   |.round l args _=>match a (.round l args) {h with log:=[]}with
    |some (ok,v,g)=>some ⟨ok,v,g,none⟩
    |none=>none
   |.panic v _=>some ⟨false,v,{h with log:=[]},none⟩
   |_=>none
def Fz(recs:List Rc)(j:Nat):List Oper→Bool
 |[]=>true
 |o::rest=>match BL recs o.after.toList with
  |none=>false
  |some mask=>match Nat.beq (mask/2^j%2) 1 with
   |false=>false
   |true=>Fz (recs++[{wr:=[],fp:=none,lo:=0,hi:=0,dst:=none,looks:=[],mask}]) j rest
def B1[Facts](E:Env)(b:Ask→Aa→Option (Bool×AV×Aa))(all:Array Oper)(nt:Nat):List Oper→List Rc→T AV→Aa→Option (Option AV×T AV×Aa)
 |[],_,tmps,h=>some (none,tmps,h)
 |o::rest,a,tmps,h=>
  match BL a o.after.toList with
  |none=>none
  |some mask=>match Dj E b all o (A0 tmps (Bj all o)) h with
   |none=>none
   |some d=>match Nat.ble h.nx d.g.nx,d.ok with
    |false,_=>none
    |true,true=>
     match De {wr:=BF h.nx d.g.log,fp:=d.fp,lo:=h.nx,hi:=d.g.nx,dst:=o.dst,looks:=Bj all o,mask} a 0 with
     |false=>none
     |true=>match Ey nt tmps o.dst d.v with
      |none=>none
      |some c=>B1 E b all nt rest (a++[{wr:=BF h.nx d.g.log,fp:=d.fp,lo:=h.nx,hi:=d.g.nx,dst:=o.dst,looks:=Bj all o,mask}]) c (AX h d.g)
    |true,false=>match Nat.beq (mask+1) (2^a.length)&&Fz (a++[{wr:=[],fp:=none,lo:=0,hi:=0,dst:=none,looks:=[],mask}]) a.length rest with
     |true=>some (some d.v,tmps,AX h d.g)
     |false=>none
end Go.AE
namespace Go.AE
variable [Gl:AG]
theorem Ay{i j:Nat}(h:Nat.beq i j=true):i=j:=gk h
theorem Xy{i j:Nat}(h:Nat.beq i j=false):i≠j:=Nat.ne_of_beq_eq_false h
theorem Fw(i:Nat):Nat.beq i i=true:=Nat.beq_refl i
theorem GN{i j:Nat}(h:i≠j):Nat.beq i j=false:=by
 cases e:Nat.beq i j with
 |false=>rfl
 |true=>exact absurd (Ay e) h
theorem T.get0_zero{t:Type}(v:Option t)(l r:T t){i:Nat}(h:i=0):(T.node v l r).get0 i=v:=by
 subst h;rfl
theorem T.get0_odd{t:Type}(v:Option t)(l r:T t){i:Nat}(h:i%2=1):(T.node v l r).get0 i=l.get0 (i/2):=by
 rw[T.get0,GN (show i≠0 by omega),h]
theorem T.get0_even{t:Type}(v:Option t)(l r:T t){i:Nat}(h:i%2=0)(I:i≠0):(T.node v l r).get0 i=r.get0 (i/2-1):=by
 rw[T.get0,GN I,h]
theorem T.val_eq{l:Type}(t:T l):t.val=t.get0 0:=by cases t<;>rfl
theorem Qd{a:Type}:∀(F m:Nat)(t:T a),m+1<2^F→(YH F m).f t=t.get0 (m+1)
 |0,m,t,h=>by simp at h
 |F+1,m,t,h=>by
  have e:(YH (F+1) m:Sel a)=Nat.casesOn (motive:=fun _=>Sel a) (m/2)
   (Nat.casesOn (motive:=fun _=>Sel a) (m%2)
    ⟨fun t=>T.casesOn (motive:=fun _=>Option a) t none (fun _ l _=>T.val l)⟩
    (fun _=>⟨fun t=>T.casesOn (motive:=fun _=>Option a) t none (fun _ _ r=>T.val r)⟩))
   (fun k=>Nat.casesOn (motive:=fun _=>Sel a) (m%2)
    ⟨fun t=>T.casesOn (motive:=fun _=>Option a) t none (fun _ l _=>(YH F k).f l)⟩
    (fun _=>⟨fun t=>T.casesOn (motive:=fun _=>Option a) t none (fun _ _ r=>(YH F k).f r)⟩)):=rfl
  have c:m+1<2*2^F:=by rw[Nat.pow_succ]at h;omega
  rw[e];cases t with
  |nil=>
   show _=none;cases m/2<;>cases m%2<;>rfl
  |node v l r=>
   by_cases o:m%2=0
   ·rw[T.get0_odd _ _ _ (show(m+1)%2=1 by omega),show(m+1)/2=m/2 by omega,o]
    cases b:m/2 with
    |zero=>exact T.val_eq l
    |succ k=>exact Qd F k l (by omega)
   ·rw[T.get0_even _ _ _ (show(m+1)%2=0 by omega) (by omega),show(m+1)/2-1=m/2 by omega,show m%2=1 by omega]
    cases b:m/2 with
    |zero=>exact T.val_eq r
    |succ k=>exact Qd F k r (by omega)
theorem T.get_eq{l:Type}(t:T l)(i:Nat):t.get i=t.get0 i:=by
 cases i with
 |zero=>exact T.val_eq t
 |succ m=>
  show(aN m).f t=_;unfold aN;cases r:Nat.ble m 9223372036854775807 with
  |false=>rfl
  |true=>
   have:=kp r;exact Qd 64 m t (by omega)
theorem T.get_zero{t:Type}(v:Option t)(l r:T t){i:Nat}(h:i=0):(T.node v l r).get i=v:=by rw[T.get_eq,T.get0_zero _ _ _ h]
theorem T.get_odd{t:Type}(v:Option t)(l r:T t){i:Nat}(h:i%2=1):(T.node v l r).get i=l.get (i/2):=by rw[T.get_eq,T.get_eq,T.get0_odd _ _ _ h]
theorem T.get_even{t:Type}(v:Option t)(l r:T t){i:Nat}(h:i%2=0)(I:i≠0):(T.node v l r).get i=r.get (i/2-1):=by rw[T.get_eq,T.get_eq,T.get0_even _ _ _ h I]
theorem T.get_nil{l:Type}(i:Nat):(T.nil:T l).get i=none:=by rw[T.get_eq];rfl
theorem T.get_setF{α:Type}(x:Option α):∀(f:Nat)(t:T α)(i j:Nat),i<f→(T.setF f t i x).get j=if i=j then x else t.get j:=by
 intro f
 induction f with
 |zero=>intro t i j h;omega
 |succ f ih=>
  intro t i j h
  have key:∀(v:Option α)(l r:T α),(T.setF (f+1) (.node v l r) i x).get j=if i=j then x else (T.node v l r).get j:=by
   intro v l r;by_cases hi:i=0
   ·have e:T.setF (f+1) (.node v l r) i x=.node x l r:=by rw[T.setF,hi]
    rw[e];by_cases I:i=j
    ·rw[if_pos I,T.get_zero _ _ _ (by omega)]
    ·rw[if_neg I];by_cases J:j%2=1
     ·rw[T.get_odd _ _ _ J,T.get_odd _ _ _ J]
     ·rw[T.get_even _ _ _ (by omega) (by omega),T.get_even _ _ _ (by omega) (by omega)]
   ·by_cases J:i%2=1
    ·have e:T.setF (f+1) (.node v l r) i x=.node v (T.setF f l (i/2) x) r:=by rw[T.setF,GN hi,J]
     rw[e];by_cases I:j=0
     ·rw[if_neg (by omega),T.get_zero _ _ _ I,T.get_zero _ _ _ I]
     ·by_cases hq:j%2=1
      ·rw[T.get_odd _ _ _ hq,T.get_odd _ _ _ hq,ih l (i/2) (j/2) (by omega)]
       by_cases e:i=j
       ·rw[if_pos e,if_pos (by omega)]
       ·rw[if_neg e,if_neg (by omega)]
      ·rw[if_neg (by omega),T.get_even _ _ _ (by omega) I,T.get_even _ _ _ (by omega) I]
    ·have e:T.setF (f+1) (.node v l r) i x=.node v l (T.setF f r (i/2-1) x):=by
      rw[T.setF,GN hi,GN J]
     rw[e];by_cases I:j=0
     ·rw[if_neg (by omega),T.get_zero _ _ _ I,T.get_zero _ _ _ I]
     ·by_cases hq:j%2=1
      ·rw[if_neg (by omega),T.get_odd _ _ _ hq,T.get_odd _ _ _ hq]
      ·rw[T.get_even _ _ _ (by omega) I,T.get_even _ _ _ (by omega) I,ih r (i/2-1) (j/2-1) (by omega)]
       by_cases e:i=j
       ·rw[if_pos e,if_pos (by omega)]
       ·rw[if_neg e,if_neg (by omega)]
  cases t with
  |node v l r=>exact key v l r
  |nil=>
   have h1:T.setF (f+1) .nil i x=T.setF (f+1) (.node none .nil .nil) i x:=by
    simp only[T.setF]
   have h2:(T.node (none:Option α) .nil .nil).get j=(T.nil:T α).get j:=by
    by_cases I:j=0
    ·rw[T.get_zero _ _ _ I,T.get_nil]
    ·by_cases J:j%2=1
     ·rw[T.get_odd _ _ _ J,T.get_nil,T.get_nil]
     ·rw[T.get_even _ _ _ (by omega) I,T.get_nil,T.get_nil]
   rw[h1,key,h2]
theorem T.putV_eq{l:Type}(x:Option l)(t:T l)(f:Nat):t.putV x=T.setF (f+1) t 0 x:=by cases t<;>rfl
theorem Nk{a:Type}:∀(F m:Nat)(t:T a)(x:Option a)(j:Nat),m+1<2^F→((Mj F m).f x t).get j=if m+1=j then x else t.get j
 |0,m,t,x,j,h=>by simp at h
 |F+1,m,t,x,j,h=>by
  have e:(Mj (F+1) m:Upd a)=Nat.casesOn (motive:=fun _=>Upd a) (m/2)
   (Nat.casesOn (motive:=fun _=>Upd a) (m%2)
    ⟨fun x t=>T.casesOn (motive:=fun _=>T a) t (.node none (T.putV x .nil) .nil) (fun v l r=>.node v (T.putV x l) r)⟩
    (fun _=>⟨fun x t=>T.casesOn (motive:=fun _=>T a) t (.node none .nil (T.putV x .nil)) (fun v l r=>.node v l (T.putV x r))⟩))
   (fun k=>Nat.casesOn (motive:=fun _=>Upd a) (m%2)
    ⟨fun x t=>T.casesOn (motive:=fun _=>T a) t (.node none ((Mj F k).f x .nil) .nil) (fun v l r=>.node v ((Mj F k).f x l) r)⟩
    (fun _=>⟨fun x t=>T.casesOn (motive:=fun _=>T a) t (.node none .nil ((Mj F k).f x .nil)) (fun v l r=>.node v l ((Mj F k).f x r))⟩)):=rfl
  have u:m+1<2*2^F:=by rw[Nat.pow_succ]at h;omega
  have key:∀(v:Option a)(l r:T a),∃d g,(Mj (F+1) m).f x (.node v l r)=.node v d g∧(if m%2=0 then g=r∧∀j,d.get j=if m/2=j then x else l.get j else d=l∧∀j,g.get j=if m/2=j then x else r.get j):=by
   intro v l r;rw[e];have n:∀(t:T a)(j:Nat),(T.putV x t).get j=if 0=j then x else t.get j:=fun t j=>by rw[T.putV_eq x t 0];exact T.get_setF x 1 t 0 j (by omega)
   by_cases o:m%2=0
   ·rw[o];cases s:m/2 with
    |zero=>exact⟨_,_,rfl,by rw[if_pos rfl];exact⟨rfl,n l⟩⟩
    |succ k=>exact⟨_,_,rfl,by rw[if_pos rfl];exact⟨rfl,fun j=>Nk F k l x j (by omega)⟩⟩
   ·rw[show m%2=1 by omega]
    cases s:m/2 with
    |zero=>exact⟨_,_,rfl,by rw[if_neg (by omega)];exact⟨rfl,n r⟩⟩
    |succ k=>exact⟨_,_,rfl,by rw[if_neg (by omega)];exact⟨rfl,fun j=>Nk F k r x j (by omega)⟩⟩
  have node:∀(v:Option a)(l r:T a),((Mj (F+1) m).f x (.node v l r)).get j=if m+1=j then x else (T.node v l r).get j:=by
   intro v l r;obtain⟨d,g,i,b⟩:=key v l r;rw[i];by_cases c:j=0
   ·rw[T.get_zero _ _ _ c,T.get_zero _ _ _ c,if_neg (by omega)]
   ·by_cases p:j%2=1
    ·rw[T.get_odd _ _ _ p,T.get_odd _ _ _ p];by_cases o:m%2=0
     ·rw[if_pos o]at b;rw[b.2];by_cases q:m+1=j
      ·rw[if_pos q,if_pos (by omega)]
      ·rw[if_neg q,if_neg (by omega)]
     ·rw[if_neg o]at b;rw[b.1,if_neg (by omega)]
    ·rw[T.get_even _ _ _ (by omega) c,T.get_even _ _ _ (by omega) c]
     by_cases o:m%2=0
     ·rw[if_pos o]at b;rw[b.1,if_neg (by omega)]
     ·rw[if_neg o]at b;rw[b.2];by_cases q:m+1=j
      ·rw[if_pos q,if_pos (by omega)]
      ·rw[if_neg q,if_neg (by omega)]
  cases t with
  |node v l r=>exact node v l r
  |nil=>
   have i:(Mj (F+1) m).f x (.nil:T a)=(Mj (F+1) m).f x (.node none .nil .nil):=by
    rw[e];cases m/2<;>cases m%2<;>rfl
   have b:((T.node none .nil .nil:T a)).get j=(T.nil:T a).get j:=by
    by_cases c:j=0
    ·rw[T.get_zero _ _ _ c,T.get_nil]
    ·by_cases o:j%2=1
     ·rw[T.get_odd _ _ _ o,T.get_nil,T.get_nil]
     ·rw[T.get_even _ _ _ (by omega) c,T.get_nil,T.get_nil]
   rw[i,node,b]
theorem T.get_put{l:Type}(t:T l)(i j:Nat)(x:Option l):(t.put i x).get j=if i=j then x else t.get j:=by
 cases i with
 |zero=>show(T.putV x t).get j=_;rw[T.putV_eq x t 0];exact T.get_setF x 1 t 0 j (by omega)
 |succ m=>
  show((aF m).f x t).get j=_;unfold aF;cases r:Nat.ble m 9223372036854775807 with
  |false=>exact T.get_setF x (m+2) t (m+1) j (by omega)
  |true=>
   have:=kp r;exact Nk 64 m t x j (by omega)
theorem T.get_set{l:Type}(t:T l)(i j:Nat)(x:l):(t.set i x).get j=if i=j then some x else t.get j:=T.get_put _ _ _ _
theorem T.get_del{l:Type}(t:T l)(i j:Nat):(t.del i).get j=if i=j then none else t.get j:=T.get_put _ _ _ _
theorem T.get_ofListFrom{I:Type}:∀(l:List I)(i:Nat)(t:T I)(j:Nat),(T.ofListFrom l i t).get j=if i≤j∧j<i+l.length then l[j-i]? else t.get j:=by
 intro l
 induction l with
 |nil=>intro i t j;simp[T.ofListFrom];omega
 |cons x r ih=>
  intro i t j;simp only[T.ofListFrom,ih,T.get_set,n0];by_cases J:i+1≤j∧j<i+1+r.length
  ·rw[if_pos J,if_pos (by omega)]
   have:j-i=(j-(i+1))+1:=by omega
   rw[this,iv]
  ·rw[if_neg J];by_cases h2:i=j
   ·subst h2;rw[if_pos rfl,if_pos (by omega)];simp
   ·rw[if_neg h2,if_neg (by omega)]
theorem T.get_ofList{r:Type}(l:List r)(j:Nat):(T.ofList l).get j=l[j]?:=by
 simp only[T.ofList,T.get_ofListFrom,T.get_nil];by_cases h:j<l.length
 ·rw[if_pos (by omega)];simp
 ·rw[if_neg (by omega)];simp;omega
theorem T.range_spec{α:Type}(t:T α):∀(n i:Nat)(l:List α),t.range i n=some l→l.length=n∧∀j,j<n→t.get (i+j)=l[j]?:=by
 intro n
 induction n with
 |zero=>intro i l h;simp[T.range]at h;subst h;simp
 |succ n ih=>
  intro i l h;simp only[T.range]at h;cases I:t.get i with
  |none=>simp[I]at h
  |some x=>
   simp only[I]at h;cases J:t.range (i+1) n with
   |none=>simp[J]at h
   |some r=>
    simp only[J,C2]at h;subst h;obtain⟨h1,h2⟩:=ih _ _ J;refine⟨by simp[h1],fun j hj=>?_⟩
    cases j with
    |zero=>simpa using I
    |succ j=>have:=h2 j (by omega);simp only[iv];rw[←this];congr 1;omega
theorem FU:∀(l:List AV)(c:T AV)(off j:Nat),(Fj c off l).get j=if off≤j∧j<off+l.length then l[j-off]? else c.get j:=by
 intro l
 induction l with
 |nil=>intro c off j;simp[Fj];omega
 |cons x r ih=>
  intro c i j;simp only[Fj,ih,T.get_set,n0];by_cases a:i+1≤j∧j<i+1+r.length
  ·rw[if_pos a,if_pos (by omega)]
   have:j-i=(j-(i+1))+1:=by omega
   rw[this,iv]
  ·rw[if_neg a];by_cases b:i=j
   ·subst b;rw[if_pos rfl,if_pos (by omega)];simp
   ·rw[if_neg b,if_neg (by omega)]
variable [U:Vals]
structure Cu where
 cb:Nat
 co:Nat
 csz:Nat
structure Ren where
 m:Nat→Option Cu
 imm:Nat→Option (Array Value)
instance:CoeFun Ren (fun _=>Nat→Option Cu):=⟨Ren.m⟩
def Ren.empty:Ren:=⟨fun _=>none,fun _=>none⟩
structure Ren.le(ρ σ:Ren):Prop where
 m:∀b base,ρ b=some base→σ b=some base
 imm:∀k a,ρ.imm k=some a→σ.imm k=some a
theorem Ren.le_refl(ρ:Ren):ρ.le ρ:=⟨fun _ _ h=>h,fun _ _ h=>h⟩
theorem Ren.le.trans{ρ l r:Ren}(h:ρ.le l)(k:l.le r):ρ.le r:=⟨fun b base e=>k.m b base (h.m b base e),fun b a e=>k.imm b a (h.imm b a e)⟩
def Ren.upd(ρ:Ren)(b:Nat)(base:Cu):Ren:=⟨fun c=>if c=b then some base else ρ c,ρ.imm⟩
theorem Ren.le_upd{ρ:Ren}{b:Nat}(h:ρ b=none)(base:Cu):ρ.le (ρ.upd b base):=by
 refine⟨?_,fun _ _ h=>h⟩
 intro c d l;unfold Ren.upd;by_cases e:c=b
 ·subst e;rw[h]at l;cases l
 ·show(if c=b then some base else ρ c)=some d
  rw[if_neg e];exact l
theorem Ren.upd_same(ρ:Ren)(b:Nat)(base:Cu):ρ.upd b base b=some base:=by simp[Ren.upd]
inductive DV(K:TypeId→Option (List Kd))(M:Nat→Option (Array Value)):Kd→Value→D→Prop
 |bool (b:Bool) (d:D) (h:d.toBool=b):DV K M .bool (.bool b) d
 |int (k:IntKind) (n:Int) (d:D) (hr:k=.i64∨(k.min≤n∧n≤k.max)) (h:d.toInt=n):DV K M (.int k) (.int k n) d
 |str (s:ByteArray) (d:D) (h:d.toStr=s):DV K M .str (.string s) d
 |nil (e:TypeId) (d:D) (h1:d.isNil=true) (h2:d.rows=[]):DV K M (.slice e) (.slice none 0 0) d
 |empty (e:TypeId) (a:Addr) (cap:Nat) (d:D) (h1:d.isNil=false) (h2:d.rows=[]):DV K M (.slice e) (.slice (some a) 0 cap) d
 |slc (e:TypeId) (b off n cap:Nat) (d:D) (ks:List Kd) (arr:Array Value) (hk:K e=some ks) (ha:M b=some arr) (hn:d.rows.length=n) (hc:n≤cap) (h1:d.isNil=false)
   (hin:off+n*ks.length≤arr.size) (hrow:∀i,i<n→(d.rows.getD i default).cells.length=ks.length)
   (hv:∀i j kd,i<n→ks[j]?=some kd→DV K M kd (arr.getD (off+i*ks.length+j) Go.undef) ((d.rows.getD i default).cells.getD j default)) :
   DV K M (.slice e) (.slice (some ⟨b,off,none⟩) n cap) d
omit U in
theorem DV.mono{K:TypeId→Option (List Kd)}{M N:Nat→Option (Array Value)}(hle:∀k a,M k=some a→N k=some a){k:Kd}{v:Value}{d:D}(h:DV K M k v d):DV K N k v d:=by
 induction h with
 |bool b d h=>exact .bool b d h
 |int k n d hr h=>exact .int k n d hr h
 |str s d h=>exact .str s d h
 |nil e d h1 h2=>exact .nil e d h1 h2
 |empty e a cap d h1 h2=>exact .empty e a cap d h1 h2
 |slc e b off n cap d ks arr hk ha hn hc h1 hin hrow hv ih=>exact .slc e b off n cap d ks arr hk (hle _ _ ha) hn hc h1 hin hrow ih
omit U in
theorem DV.slice_inv{K:TypeId→Option (List Kd)}{M:Nat→Option (Array Value)}{e:TypeId}{v:Value}{d:D}(h:DV K M (.slice e) v d):∃a n c,v=.slice a n c∧d.rows.length=n:=by
 cases h with
 |nil _ _ h1 h2=>exact⟨_,_,_,rfl,by rw[h2];rfl⟩
 |empty _ _ _ _ h1 h2=>exact⟨_,_,_,rfl,by rw[h2];rfl⟩
 |slc _ _ _ _ _ _ _ _ hk ha hn=>exact⟨_,_,_,rfl,hn⟩
def Bp(K:TypeId→Option (List Kd))(M:Nat→Option (Array Value))(ks:List Kd)(f:Array Value)(off:Nat)(rows:List D):Prop:=
 off+rows.length*ks.length≤f.size∧(∀i,i<rows.length→(rows.getD i default).cells.length=ks.length)∧
  ∀i j kd,i<rows.length→ks[j]?=some kd→DV K M kd (f.getD (off+i*ks.length+j) Go.undef) ((rows.getD i default).cells.getD j default)
omit U in
theorem Bp.mono{K:TypeId→Option (List Kd)}{M N:Nat→Option (Array Value)}(hle:∀k a,M k=some a→N k=some a){ks:List Kd}{cur:Array Value}{off:Nat}{rows:List D}(h:Bp K M ks cur off rows):Bp K N ks cur off rows:=
 ⟨h.1,h.2.1,fun i j kd a b=>(h.2.2 i j kd a b).mono hle⟩
def Vk:List Value→Value
 |[v]=>v
 |l=>.agg l.toArray
def KV(K:TypeId→Option (List Kd))(M:Nat→Option (Array Value))(ks:List Kd)(v:Value)(cs:List D):Prop:=
 ∃l:List Value,v=Vk l∧l.length=ks.length∧(∀u,l=[u]→∀a,u≠.agg a)∧∀(j:Nat) kd,ks[j]?=some kd→DV K M kd (l.getD j Go.undef) (cs.getD j default)
omit U in
theorem KV.mono{K:TypeId→Option (List Kd)}{M N:Nat→Option (Array Value)}(hle:∀k a,M k=some a→N k=some a){ks:List Kd}{v:Value}{cs:List D}(h:KV K M ks v cs):KV K N ks v cs:=by
 obtain⟨l,h1,h2,h3,h4⟩:=h;exact⟨l,h1,h2,h3,fun j kd hj=>(h4 j kd hj).mono hle⟩
def Bo(K:TypeId→Option (List Kd))(M:Nat→Option (Array Value))(f g:List Kd):List MapEntry→List D→Prop
 |[],[]=>True
 |e::m,r::o=>r.cells.length=f.length+g.length∧KV K M f e.key r.cells∧KV K M g e.val (r.cells.drop f.length)∧Bo K M f g m o
 |_,_=>False
omit U in
theorem Bo.mono{K:TypeId→Option (List Kd)}{M N:Nat→Option (Array Value)}(hle:∀k a,M k=some a→N k=some a){kks vks:List Kd}:∀{es:List MapEntry}{rs:List D},Bo K M kks vks es rs→Bo K N kks vks es rs
 |[],[],_=>trivial
 |_::_,_::_,⟨h1,h2,h3,h4⟩=>⟨h1,h2.mono hle,h3.mono hle,h4.mono hle⟩
 |[],_::_,h=>h.elim
 |_::_,[],h=>h.elim
omit U in
theorem Bo.length{K:TypeId→Option (List Kd)}{M:Nat→Option (Array Value)}{kks vks:List Kd}:∀{es:List MapEntry}{rs:List D},Bo K M kks vks es rs→es.length=rs.length
 |[],[],_=>rfl
 |_::_,_::_,⟨_,_,_,h4⟩=>by simp[h4.length]
 |[],_::_,h=>h.elim
 |_::_,[],h=>h.elim
def FnR(m:Ren):Fn→Fn→Prop
 |.yield l,g=>∃base,m l=some base∧g=.yield base.cb
 |f,g=>g=f
inductive VR(ρ:Ren):AV→Value→Prop
 |top (v:Value):VR ρ .top v
 |bool (b:Bool):VR ρ (.bool b) (.bool b)
 |int (k:IntKind) (n:Int):VR ρ (.int k n) (.int k n)
 |str (s:ByteArray):VR ρ (.str s.data.toList.length (AC s.data.toList)) (.string s)
 |ptr0:VR ρ .ptr0 (.pointer none)
 |ptr (b off:Nat) (base:Cu) (h:ρ b=some base):VR ρ (.ptr b off) (.pointer (some ⟨base.cb,base.co+off,none⟩))
 |slice0:VR ρ .slice0 (.slice none 0 0)
 |slice (b off n es cap:Nat) (base:Cu) (h:ρ b=some base) (hc:n≤cap) (hz:base.co+off+cap*es≤base.csz) :
   VR ρ (.slice b off n es) (.slice (some ⟨base.cb,base.co+off,none⟩) n cap)
 |sliceEnd (b off es:Nat) (a:Addr):VR ρ (.slice b off 0 es) (.slice (some a) 0 0)
 |map0:VR ρ .map0 (.map none)
 |map (b:Nat) (base:Cu) (h:ρ b=some base):VR ρ (.map b) (.map (some base.cb))
 |func (fn fn':Fn) (f c:List AV) (f' c':List Value) (h:FnR ρ fn fn') (h1:f.length=f'.length)
   (h2:∀(i:Nat)(a:AV)(v:Value),f[i]?=some a→f'[i]?=some v→VR ρ a v) (h3:c.length=c'.length)
   (h4:∀(i:Nat)(a:AV)(v:Value),c[i]?=some a→c'[i]?=some v→VR ρ a v):VR ρ (.func fn f c) (.func fn' f'.toArray c'.toArray)
 |nilFunc:VR ρ .nilFunc .nilFunc
 |iface (t:TypeId) (a:AV) (v:Value) (h:VR ρ a v):VR ρ (.iface t a) (.iface t v)
 |nilIface:VR ρ .nilIface .nilIface
 |agg (l:List AV) (l':List Value) (h1:l.length=l'.length) (h2:∀(i:Nat)(a:AV)(v:Value),l[i]?=some a→l'[i]?=some v→VR ρ a v):VR ρ (.agg l) (.agg l'.toArray)
 |tuple (l:List AV) (l':List Value) (h1:l.length=l'.length) (h2:∀(i:Nat)(a:AV)(v:Value),l[i]?=some a→l'[i]?=some v→VR ρ a v):VR ρ (.tuple l) (.tuple l'.toArray)
 |sb (pos:Bool) (e:SB):VR ρ (.sb pos e) (.bool (Ah U.V e==pos))
 |si (k:IntKind) (e:SE):VR ρ (.si k e) (.int k (Ad U.V e))
 |ss (x:SE):VR ρ (.ss x) (.string (AR U.V x))
 |dat (e:TypeId) (x:SE) (a:Option Addr) (n c:Nat) (h:DV U.K ρ.imm (.slice e) (.slice a n c) (Ab U.V x)):VR ρ (.dat e x) (.slice a n c)
 |dptr (e:TypeId) (x i:SE) (off:Nat) (b o n cap:Nat) (ks:List Kd) (h:DV U.K ρ.imm (.slice e) (.slice (some ⟨b,o,none⟩) n cap) (Ab U.V x)) (hk:U.K e=some ks)
   (h0:0≤Ad U.V i) (hi:(Ad U.V i).toNat<n) (ho:off<ks.length):VR ρ (.dptr e x i off) (.pointer (some ⟨b,o+(Ad U.V i).toNat*ks.length+off,none⟩))
 |asl (b es:Nat) (n nl:SE) (cap:Nat) (base:Cu) (h:ρ b=some base) (h0:0≤Ad U.V n) (hc:(Ad U.V n).toNat≤cap) (hz:base.co+cap*es≤base.csz) (hn:Ah U.V nl=false) :
   VR ρ (.asl b es n nl) (.slice (some ⟨base.cb,base.co,none⟩) (Ad U.V n).toNat cap)
 |aslEnd (b es:Nat) (n nl:SE) (a:Option Addr) (h0:Ad U.V n=0) (hn:a.isNone=Ah U.V nl):VR ρ (.asl b es n nl) (.slice a 0 0)
 |eslc (nl:SE) (a:Option Addr) (hn:a.isNone=Ah U.V nl):VR ρ (.eslc nl) (.slice a 0 0)
 |aptr (b es:Nat) (i:SE) (off:Nat) (base:Cu) (h:ρ b=some base) (h0:0≤Ad U.V i):VR ρ (.aptr b es i off) (.pointer (some ⟨base.cb,base.co+(Ad U.V i).toNat*es+off,none⟩))
 |nmap (b:Nat) (nl:SE) (base:Cu) (h:ρ b=some base) (hn:Ah U.V nl=false):VR ρ (.nmap b nl) (.map (some base.cb))
 |nmap0 (b:Nat) (nl:SE) (hn:Ah U.V nl=true):VR ρ (.nmap b nl) (.map none)
 |stamp (b:Nat) (base:Cu) (h:ρ b=some base):VR ρ (.stamp b) (.int .i64 (base.co:Nat))
 |glob (g off:Nat):VR ρ (.glob g off) (.pointer (some ⟨g,off,none⟩))
 |fsl (b off n es:Nat) (base:Cu) (h:ρ b=some base) (hz:base.co+off+n*es≤base.csz) :
   VR ρ (.fsl b off n es) (.slice (some ⟨base.cb,base.co+off,none⟩) n n)
def VL(ρ:Ren)(l:List AV)(l':List Value):Prop:=l.length=l'.length∧∀(i:Nat)(a:AV)(v:Value),l[i]?=some a→l'[i]?=some v→VR ρ a v
theorem VL.nil(ρ:Ren):VL ρ [] []:=⟨rfl,by simp⟩
theorem VL.cons{ρ:Ren}{a:AV}{v:Value}{l:List AV}{l':List Value}(h:VR ρ a v)(k:VL ρ l l'):VL ρ (a::l) (v::l'):=by
 refine⟨by simp[k.1],fun i x y r t=>?_⟩
 cases i with
 |zero=>simp at r t;subst r;subst t;exact h
 |succ i=>simp at r t;exact k.2 i x y r t
theorem VL.nil_inv{ρ:Ren}{l':List Value}(h:VL ρ [] l'):l'=[]:=by
 have:=h.1;simp at this;exact la this.symm
theorem VL.cons_inv{ρ:Ren}{a:AV}{l:List AV}{l':List Value}(h:VL ρ (a::l) l'):∃v r,l'=v::r∧VR ρ a v∧VL ρ l r:=by
 cases l' with
 |nil=>have:=h.1;simp at this
 |cons v r=>exact⟨v,r,rfl,h.2 0 a v rfl rfl,by have:=h.1;simpa using this,fun i x y t I=>h.2 (i+1) x y (by simpa using t) (by simpa using I)⟩
theorem VL.append{ρ:Ren}{l m:List AV}{l' I:List Value}(h:VL ρ l l')(k:VL ρ m I):VL ρ (l++m) (l'++I):=by
 refine⟨by simp[h.1,k.1],fun i x y r t=>?_⟩
 by_cases hi:i<l.length
 ·rw[hP hi]at r;rw[hP (by rw[←h.1];exact hi)]at t
  exact h.2 i x y r t
 ·rw[hS (by omega)]at r
  rw[hS (by rw[←h.1];omega),←h.1]at t
  exact k.2 _ x y r t
theorem VL.get{ρ:Ren}{l:List AV}{l':List Value}(h:VL ρ l l'){i:Nat}{a:AV}(ha:l[i]?=some a):∃v,l'[i]?=some v∧VR ρ a v:=by
 have hi:i<l.length:=(L2.1 ha).1;have hi':i<l'.length:=by rw[←h.1];exact hi
 exact⟨l'[i],by simp[hi'],h.2 i a _ ha (by simp[hi'])⟩
theorem VL.drop{ρ:Ren}{l:List AV}{l':List Value}(h:VL ρ l l')(n:Nat):VL ρ (l.drop n) (l'.drop n):=
 ⟨by simp[h.1],fun i a v ha hv=>h.2 (n+i) a v (by simpa using ha) (by simpa using hv)⟩
theorem VL.take{ρ:Ren}{l:List AV}{l':List Value}(h:VL ρ l l')(n:Nat):VL ρ (l.take n) (l'.take n):=by
 refine⟨by simp[h.1],fun i a v ha hv=>?_⟩
 rw[vv]at ha hv;by_cases e:i<n
 ·rw[if_pos e]at ha hv;exact h.2 i a v ha hv
 ·rw[if_neg e]at ha;cases ha
theorem FnR.mono{ρ r:Ren}(hle:ρ.le r){f g:Fn}(h:FnR ρ f g):FnR r f g:=by
 cases f<;>simp only[FnR]at h ⊢<;>first|exact h | (obtain⟨base,h1,h2⟩:=h;exact⟨base,hle.m _ _ h1,h2⟩)
theorem VR.mono{ρ σ:Ren}(hle:ρ.le σ){a:AV}{v:Value}(h:VR ρ a v):VR σ a v:=by
 induction h with
 |top v=>exact .top v
 |bool b=>exact .bool b
 |int k n=>exact .int k n
 |str s=>exact .str s
 |ptr0=>exact .ptr0
 |ptr b off base h=>exact .ptr b off base (hle.m _ _ h)
 |slice0=>exact .slice0
 |slice b off n es cap base h hc I=>exact .slice b off n es cap base (hle.m _ _ h) hc I
 |sliceEnd b off es a=>exact .sliceEnd b off es a
 |map0=>exact .map0
 |map b base h=>exact .map b base (hle.m _ _ h)
 |func fn J f c f' c' h h1 h2 h3 h4 al an=>exact .func fn J f c f' c' (h.mono hle) h1 al h3 an
 |nilFunc=>exact .nilFunc
 |iface t a v h ih=>exact .iface t a v ih
 |nilIface=>exact .nilIface
 |agg l l' h1 h2 ih=>exact .agg l l' h1 ih
 |tuple l l' h1 h2 ih=>exact .tuple l l' h1 ih
 |sb pos e=>exact .sb pos e
 |si k e=>exact .si k e
 |ss x=>exact .ss x
 |dat e x a n c h=>exact .dat e x a n c (h.mono hle.imm)
 |dptr e x i off b o n cap ks h hk r hi ho=>exact .dptr e x i off b o n cap ks (h.mono hle.imm) hk r hi ho
 |asl b es n nl cap base h r hc I hn=>exact .asl b es n nl cap base (hle.m _ _ h) r hc I hn
 |aslEnd b es n nl a r hn=>exact .aslEnd b es n nl a r hn
 |eslc nl a hn=>exact .eslc nl a hn
 |aptr b es i off base h r=>exact .aptr b es i off base (hle.m _ _ h) r
 |nmap b nl base h hn=>exact .nmap b nl base (hle.m _ _ h) hn
 |nmap0 b nl hn=>exact .nmap0 b nl hn
 |stamp b base h=>exact .stamp b base (hle.m _ _ h)
 |glob g off=>exact .glob g off
 |fsl b off n es base h I=>exact .fsl b off n es base (hle.m _ _ h) I
theorem VL.mono{ρ r:Ren}(hle:ρ.le r){l:List AV}{l':List Value}(h:VL ρ l l'):VL r l l':=⟨h.1,fun i a v ha hv=>(h.2 i a v ha hv).mono hle⟩
theorem VR.undef(ρ:Ren):VR ρ .undef Go.undef:=.tuple [] [] rfl (by simp)
structure TR(ρ:Ren)(nt:Nat)(t:T AV)(a:Array Value):Prop where
 size:a.size=nt
 get:∀i x,t.get i=some x→VR ρ x (a.getD i Go.undef)
theorem TR.mono{ρ r:Ren}(hle:ρ.le r){nt:Nat}{t:T AV}{a:Array Value}(h:TR ρ nt t a):TR r nt t a:=⟨h.size,fun i x I=>(h.get i x I).mono hle⟩
def DR(g:Ren)(d:AD)(m:Deferred):Prop:=
 match d.fn with
 |some fn=>∃f o p,FnR g fn f∧VL g d.captured o∧VL g d.args p∧m={target:=.fn f o.toArray,args:=p.toArray}
 |none=>∃base,g d.coll=some base∧m={target:=.collected base.cb,args:=#[]}
def DL(f:Ren):List AD→List Deferred→Prop
 |[],[]=>True
 |d::r,g::m=>DR f d g∧DL f r m
 |_,_=>False
theorem DR.mono{ρ t:Ren}(hle:ρ.le t){d:AD}{I:Deferred}(h:DR ρ d I):DR t d I:=by
 unfold DR at *;cases J:d.fn with
 |none=>rw[J]at h;obtain⟨base,h1,h2⟩:=h;exact⟨base,hle.m _ _ h1,h2⟩
 |some fn=>rw[J]at h;obtain⟨r,c',a',h1,h2,h3,h4⟩:=h;exact⟨r,c',a',h1.mono hle,h2.mono hle,h3.mono hle,h4⟩
theorem DL.mono{ρ r:Ren}(hle:ρ.le r):∀{l:List AD}{t:List Deferred},DL ρ l t→DL r l t
 |[],[],_=>trivial
 |_::_,_::_,⟨h1,h2⟩=>⟨h1.mono hle,h2.mono hle⟩
theorem DL.append{ρ:Ren}:∀{l:List AD}{l':List Deferred}{m:List AD}{r:List Deferred},DL ρ l l'→DL ρ m r→DL ρ (l++m) (l'++r)
 |[],[],_,_,_,h=>h
 |_::_,_::_,_,_,⟨h1,h2⟩,h=>⟨h1,DL.append h2 h⟩
def ER(ρ:Ren):List AA→List MapEntry→Prop
 |[],[]=>True
 |e::r,f::g=>VR ρ e.key f.key∧VR ρ e.val f.val∧f.born=e.born∧ER ρ r g
 |_,_=>False
theorem ER.mono{ρ r:Ren}(hle:ρ.le r):∀{l:List AA}{t:List MapEntry},ER ρ l t→ER r l t
 |[],[],_=>trivial
 |_::_,_::_,⟨h1,h2,h3,h4⟩=>⟨h1.mono hle,h2.mono hle,h3,h4.mono hle⟩
def Inc(es:List MapEntry)(f:Nat):Prop:=(es.map (·.born)).Pairwise (· < ·)∧∀b∈es.map (·.born),b<f
omit U in
theorem Inc.nil(c:Nat):Inc [] c:=⟨List.Pairwise.nil,fun b hb=>by cases hb⟩
omit U in
theorem Inc.push{es:List MapEntry}{c:Nat}(h:Inc es c)(k v:Value):Inc (es++[{key:=k,val:=v,born:=c}]) (c+1):=by
 obtain⟨h1,h2⟩:=h;refine⟨?_,fun b hb=>?_⟩
 ·rw[List.map_append,List.pairwise_append];refine⟨h1,by simp,fun a ha b hb=>?_⟩
  simp only[Ae2,List.map_nil,Aeu]at hb;subst hb;exact h2 a ha
 ·rw[List.map_append]at hb;rcases Aes.1 hb with q|q
  ·have:=h2 b q;omega
  ·simp only[Ae2,List.map_nil,Aeu]at q;omega
omit U in
theorem KH{f:MapEntry→MapEntry}(hf:∀e,(f e).born=e.born):∀(n:Nat)(es:List MapEntry),(es.modify n f).map (·.born)=es.map (·.born)
 |_,[]=>by simp
 |0,e::es=>by simp[hf]
 |n+1,e::es=>by simp[KH hf n es]
omit U in
theorem Inc.modify{es:List MapEntry}{c:Nat}(h:Inc es c){f:MapEntry→MapEntry}(hf:∀e,(f e).born=e.born)(n:Nat):Inc (es.modify n f) c:=by
 unfold Inc;rw[KH hf];exact h
theorem PX{ρ:Ren}:∀(es:List AA)(g:List MapEntry)(lo c:Nat),ZQ lo es c=true→ER ρ es g→(∀b∈g.map (·.born),lo≤b)∧Inc g c
 |[],[],lo,c,_,_=>⟨fun b hb=>(by cases hb),Inc.nil c⟩
 |e::r,w::o,lo,c,h,p=>by
  obtain⟨h1,h2,h3,h4⟩:=p;simp only[ZQ,F9]at h;obtain⟨⟨a1,a2⟩,a3⟩:=h;have a1:=kp a1;have a2:e.born<c:=kp a2;obtain⟨m,t,u⟩:=PX r o (e.born+1) c a3 h4;refine⟨fun b hb=>?_,?_,fun b hb=>?_⟩
  ·rw[Ae2]at hb;rcases i0.1 hb with q|q
   ·omega
   ·have:=m b q;omega
  ·rw[Ae2,List.pairwise_cons];exact⟨fun b hb=>by have:=m b hb;omega,t⟩
  ·rw[Ae2]at hb;rcases i0.1 hb with q|q
   ·omega
   ·exact u b q
 |[],_::_,_,_,_,h=>h.elim
 |_::_,[],_,_,_,h=>h.elim
def BR(ρ:Ren)(x:An)(base:Cu)(o:Option Obj):Prop:=
 match x with
 |.cells n c=>∃cur e r,o=some (.cells cur e r)∧cur.size=base.csz∧base.co+n≤base.csz∧(r.1=r.2∨base.csz≤r.1)∧
   ∀i a,i<n→c.get i=some a→∃v,cur[base.co+i]?=some v∧VR ρ a v
 |.arr e x=>∃ks cur w r,U.K e=some ks∧o=some (.cells cur w r)∧cur.size=base.csz∧(r.1=r.2∨base.csz≤r.1)∧Bp U.K ρ.imm ks cur base.co (Ab U.V x).rows
 |.hole e x i j a=>∃ks cur w r u v,U.K e=some ks∧o=some (.cells cur w r)∧cur.size=base.csz∧(r.1=r.2∨base.csz≤r.1)∧
   Bp U.K ρ.imm ks (cur.setIfInBounds (base.co+(Ad U.V i).toNat*ks.length+j) u) base.co (Ab U.V x).rows∧(Ad U.V i).toNat<(Ab U.V x).rows.length∧j<ks.length∧
   cur[base.co+(Ad U.V i).toNat*ks.length+j]?=some v∧VR ρ a v
 |.map es g=>∃p:List MapEntry,o=some (.map p.toArray g)∧ER ρ es p
 |.dmap y z x=>∃kks vks,∃p:List MapEntry,∃g,U.K y=some kks∧U.K z=some vks∧o=some (.map p.toArray g)∧Bo U.K ρ.imm kks vks p (Ab U.V x).rows∧Inc p g
 |.dmapS y z x n b=>∃kks vks,∃p:List MapEntry,∃g,U.K y=some kks∧U.K z=some vks∧o=some (.map p.toArray g)∧Bo U.K ρ.imm kks vks p (Ab U.V x).rows∧Inc p g∧∃A,ρ b=some A∧(p[(Ad U.V n).toNat]?).map (·.born)=some A.co
 |.loop st pending fn nt tmps params assign body d=>∃tm B,ρ d=some B∧TR ρ nt tmps tm∧
   o=some (.loop {state:=st,pending:=pending,fn:=fn,tmps:=tm,params:=params.toArray,assign:=assign,body:=body,defers:=B.cb})
 |.deferred F=>match F with
  |none=>o=some (.deferred none)
  |some l=>∃C,DL ρ l C∧o=some (.deferred (some C))
 |.mapIter m t seen last=>base.co=0∧(match m with
  |none=>o=some (.mapIter none t seen.toArray last)
  |some b=>∃E,ρ b=some E∧o=some (.mapIter (some E.cb) t seen.toArray last))
 |.strIter l b pos=>base.co=0∧∃s:ByteArray,l=s.data.toList.length∧b=AC s.data.toList∧o=some (.stringIter s pos)
theorem BR.mono{ρ σ:Ren}(hle:ρ.le σ){x:An}{base:Cu}{o:Option Obj}(h:BR ρ x base o):BR σ x base o:=by
 cases x with
 |cells n c=>
  obtain⟨cur,e,I,h1,h2,h3,h4,t⟩:=h;exact⟨cur,e,I,h1,h2,h3,h4,fun i a hi ha=>let ⟨v,hv,hr⟩:=t i a hi ha;⟨v,hv,hr.mono hle⟩⟩
 |arr e x=>obtain⟨ks,cur,J,I,h1,h2,h3,h4,t⟩:=h;exact⟨ks,cur,J,I,h1,h2,h3,h4,t.mono hle.imm⟩
 |hole e x i j a=>obtain⟨ks,cur,J,I,u,v,h1,h2,h3,h4,t,h6,h7,h8,h9⟩:=h;exact⟨ks,cur,J,I,u,v,h1,h2,h3,h4,t.mono hle.imm,h6,h7,h8,h9.mono hle⟩
 |map es al=>obtain⟨r,h1,h2⟩:=h;exact⟨r,h1,h2.mono hle⟩
 |dmap kt vt x=>obtain⟨kks,vks,r,c,h1,h2,h3,h4,t⟩:=h;exact⟨kks,vks,r,c,h1,h2,h3,h4.mono hle.imm,t⟩
 |dmapS kt vt x n b=>obtain⟨kks,vks,r,c,h1,h2,h3,h4,t,bs,h6,h7⟩:=h;exact⟨kks,vks,r,c,h1,h2,h3,h4.mono hle.imm,t,bs,hle.m _ _ h6,h7⟩
 |loop st pending fn nt tmps params assign body d=>obtain⟨tm,bd,h1,h2,h3⟩:=h;exact⟨tm,bd,hle.m _ _ h1,h2.mono hle,h3⟩
 |deferred ds=>cases ds with
  |none=>exact h
  |some l=>obtain⟨l',h1,h2⟩:=h;exact⟨l',h1.mono hle,h2⟩
 |mapIter m an seen last=>cases m with
  |none=>exact h
  |some b=>obtain⟨h0,bm,h1,h2⟩:=h;exact⟨h0,bm,hle.m _ _ h1,h2⟩
 |strIter l b pos=>exact h
def ScR:AV→Value→Prop
 |.int k n,v=>v=.int k n
 |.bool b,v=>v=.bool b
 |_,_=>False
def IM(M:Nat→Option (Array Value)):Prop:=∀g l,Gl.tab.get g=some l→∃arr,M g=some arr∧∀(i:Nat)(a:AV),l[i]?=some a→∃v,arr[i]?=some v∧ScR a v
omit U in
theorem IM.mono{M N:Nat→Option (Array Value)}(hle:∀k a,M k=some a→N k=some a)(h:IM M):IM N:=fun g l hg=>let ⟨arr,h1,h2⟩:=h g l hg;⟨arr,hle _ _ h1,h2⟩
theorem ScR.vr{r:Ren}{a:AV}{v:Value}(h:ScR a v):VR r a v:=by
 cases a<;>first | (cases h;done)|skip
 ·cases h;exact .bool _
 ·cases h;exact .int _ _
structure HR(ρ:Ren)(g:Nat→Option An)(w:World):Prop where
 lt:∀b base,ρ b=some base→base.cb<w.heap.size
 blk:∀b base x,ρ b=some base→g b=some x→BR ρ x base w.heap[base.cb]?
 apart:∀b b' base base',b≠b'→ρ b=some base→ρ b'=some base'→g b≠none→g b'≠none→base.cb≠base'.cb
 imm:∀k arr,ρ.imm k=some arr→∃e fz,w.heap[k]?=some (.cells arr e fz)
 off:∀k arr b base,ρ.imm k=some arr→ρ b=some base→g b≠none→base.cb≠k
 glob:IM ρ.imm
theorem HR.immLt{ρ:Ren}{g:Nat→Option An}{w:World}(h:HR ρ g w){k:Nat}{arr:Array Value}(hk:ρ.imm k=some arr):k<w.heap.size:=by
 obtain⟨e,r,h1⟩:=h.imm k arr hk;exact(Array.getElem?_eq_some_iff.1 h1).1
theorem HR.restrict{ρ:Ren}{g r:Nat→Option An}{w:World}(h:HR ρ g w)(hg:∀b,r b=none∨r b=g b):HR ρ r w:=by
 have live:∀b,r b≠none→g b≠none:=by
  intro b hb;rcases hg b with e|e
  ·exact absurd e hb
  ·exact e▸hb
 refine⟨h.lt,fun b base x hb t=>?_,fun b b' base base' I hb J h1 h2=>h.apart b b' base base' I hb J (live b h1) (live b' h2),h.imm,fun k arr b base hk hb hl=>h.off k arr b base hk hb (live b hl),h.glob⟩
 rcases hg b with e|e
 ·rw[e]at t;cases t
 ·exact h.blk b base x hb (e▸t)
structure G8(w w':World):Prop where
 os:w'.os=w.os
 tape:w'.tape=w.tape
 output:w'.output=w.output
 size:w.heap.size≤w'.heap.size
theorem G8.refl(w:World):G8 w w:=⟨rfl,rfl,rfl,R2 _⟩
theorem G8.trans{a b c:World}(h:G8 a b)(k:G8 b c):G8 a c:=⟨k.os.trans h.os,k.tape.trans h.tape,k.output.trans h.output,sf h.size k.size⟩
structure Ext(ρ σ:Ren)(h h':Aa)(w w':World):Prop where
 le:ρ.le σ
 nx:h.nx≤h'.nx
 new:∀b base,σ b=some base→ρ b=some base∨(h.nx≤b∧b<h'.nx∧(w.heap.size≤base.cb∨∃b0 base0,ρ b0=some base0∧h.blk.get b0≠none∧base0.cb=base.cb))
 calm:G8 w w'
 kept:∀k,k<w.heap.size→(∀b base,ρ b=some base→h.blk.get b≠none→base.cb≠k)→w'.heap[k]?=w.heap[k]?
 log:∃l,h'.log=l++h.log∧∀b,b∉l→(b<h.nx∨h'.nx≤b)→h'.blk.get b=h.blk.get b
 live:∀b,h'.blk.get b≠none→h.blk.get b≠none∨(h.nx≤b∧b<h'.nx)
 imm:∀k arr,σ.imm k=some arr→ρ.imm k=some arr∨w.heap.size≤k∨∃b0 base0,ρ b0=some base0∧h.blk.get b0≠none∧base0.cb=k
def AW(ρ:Ren)(n m:Nat):Prop:=∀b,n≤b→b<m→ρ b=none
theorem Ext.refl(ρ:Ren)(h:Aa)(w:World):Ext ρ ρ h h w w:=
 ⟨Ren.le_refl ρ,R2 _,fun _ _ e=>.inl e,G8.refl w,fun _ _ _=>rfl,⟨[],rfl,fun _ _ _=>rfl⟩,fun _ e=>.inl e,fun _ _ e=>.inl e⟩
theorem Ext.free{ρ r:Ren}{h h':Aa}{w t:World}(e:Ext ρ r h h' w t){m:Nat}(f:AW ρ h.nx m):AW r h'.nx m:=by
 intro b hb I;have:=e.nx;cases J:r b with
 |none=>rfl
 |some base=>
  rcases e.new b base J with h1|⟨_,h2,_⟩
  ·rw[f b (by omega) I]at h1;cases h1
  ·omega
theorem Ext.trans{ρ σ τ:Ren}{h h1 h2:Aa}{w w1 w2:World}(e:Ext ρ σ h h1 w w1)(k:Ext σ τ h1 h2 w1 w2)(f:AW ρ h.nx h2.nx):Ext ρ τ h h2 w w2:=by
 have n1:=e.nx;have n2:=k.nx;have hs:=e.calm.size
 have al:∀b base,σ b=some base→h1.blk.get b≠none→(ρ b=some base∧h.blk.get b≠none)∨(w.heap.size≤base.cb∨∃b0 r,ρ b0=some r∧h.blk.get b0≠none∧r.cb=base.cb):=by
  intro b base hb hl;rcases e.new b base hb with h3|⟨_,_,h3⟩
  ·rcases e.live b hl with h4|⟨h4,I⟩
   ·exact .inl ⟨h3,h4⟩
   ·rw[f b h4 (by omega)]at h3;cases h3
  ·exact .inr h3
 refine⟨e.le.trans k.le,by omega,?_,e.calm.trans k.calm,?_,?_,?_,?_⟩
 ·intro b base hb;rcases k.new b base hb with h3|⟨h3,h4,I⟩
  ·rcases e.new b base h3 with J|⟨J,h7,h8⟩
   ·exact .inl J
   ·exact .inr ⟨J,by omega,h8⟩
  ·refine .inr ⟨by omega,h4,?_⟩
   rcases I with I|⟨b0,r,J,h7,h8⟩
   ·exact .inl (by omega)
   ·rcases al b0 r J h7 with⟨h9,an⟩|h9|⟨b1,t,h9,an,ar⟩
    ·exact .inr ⟨b0,r,h9,an,h8⟩
    ·exact .inl (by omega)
    ·exact .inr ⟨b1,t,h9,an,ar.trans h8⟩
 ·intro j hj hn;rw[k.kept j (by omega) ?_,e.kept j hj hn]
  intro b base hb hl;rcases al b base hb hl with⟨h3,h4⟩|h3|⟨b0,r,h3,h4,I⟩
  ·exact hn b base h3 h4
  ·omega
  ·rw[←I];exact hn b0 r h3 h4
 ·obtain⟨l,hl,av⟩:=e.log;obtain⟨m,hm,bd⟩:=k.log;refine⟨m++l,by rw[hm,hl,List.append_assoc],fun b hb hr=>?_⟩
  simp only[Aes,not_or]at hb;rw[bd b hb.1 (by omega),av b hb.2 (by omega)]
 ·intro b hb;rcases k.live b hb with h3|⟨h3,h4⟩
  ·rcases e.live b h3 with I|⟨I,J⟩
   ·exact .inl I
   ·exact .inr ⟨I,by omega⟩
  ·exact .inr ⟨by omega,h4⟩
 ·intro j arr hj;rcases k.imm j arr hj with h3|h3|⟨b0,r,h3,h4,I⟩
  ·exact e.imm j arr h3
  ·exact .inr (.inl (by omega))
  ·rcases al b0 r h3 h4 with⟨J,h7⟩|J|⟨b1,t,J,h7,h8⟩
   ·exact .inr (.inr ⟨b0,r,J,h7,I⟩)
   ·exact .inr (.inl (by omega))
   ·exact .inr (.inr ⟨b1,t,J,h7,h8.trans I⟩)
theorem HR.new{ρ:Ren}{h:Aa}{w:World}(hr:HR ρ h.blk.get w)(hf:ρ h.nx=none)(x:An)(o:Obj)(csz:Nat)
 (ar:BR (ρ.upd h.nx ⟨w.heap.size,0,csz⟩) x ⟨w.heap.size,0,csz⟩ (some o))(I:World)(hw:I.heap=w.heap.push o)(av:I.os=w.os)(ht:I.tape=w.tape)(ho:I.output=w.output) :
  HR (ρ.upd h.nx ⟨w.heap.size,0,csz⟩) (h.new x).blk.get I∧Ext ρ (ρ.upd h.nx ⟨w.heap.size,0,csz⟩) h (h.new x) w I:=by
 have hle:=Ren.le_upd hf ⟨w.heap.size,0,csz⟩;have t:∀k,k<w.heap.size→I.heap[k]?=w.heap[k]?:=fun k hk=>by rw[hw,Array.getElem?_push,if_neg (by omega)]
 have bd:I.heap.size=w.heap.size+1:=by rw[hw];simp
 have r:∀b base,ρ.upd h.nx ⟨w.heap.size,0,csz⟩ b=some base→(b=h.nx∧base=⟨w.heap.size,0,csz⟩)∨(b≠h.nx∧ρ b=some base):=by
  intro b base hb;simp only[Ren.upd]at hb;by_cases e:b=h.nx
  ·rw[if_pos e]at hb;exact .inl ⟨e,by simpa using hb.symm⟩
  ·rw[if_neg e]at hb;exact .inr ⟨e,hb⟩
 refine⟨⟨?_,?_,?_,?_,?_,hr.glob⟩,⟨hle,Nat.le_succ _,?_,⟨av,ht,ho,by omega⟩,fun k hk _=>t k hk,⟨[],rfl,?_⟩,?_,fun _ _ e=>.inl e⟩⟩
 ·intro b base hb;rcases r b base hb with⟨_,rfl⟩|⟨_,h1⟩
  ·show w.heap.size<_;omega
  ·have:=hr.lt b base h1;omega
 ·intro b base y hb hy;simp only[Aa.new,T.get_set]at hy;rcases r b base hb with⟨rfl,rfl⟩|⟨J,h1⟩
  ·rw[if_pos rfl]at hy;cases hy;have:I.heap[w.heap.size]?=some o:=by rw[hw];simp
   rw[this];exact ar
  ·rw[if_neg (fun e=>J e.symm)]at hy
   rw[t _ (hr.lt b base h1)];exact(hr.blk b base y h1 hy).mono hle
 ·intro b b' base base' J hb al h1 h2;simp only[Aa.new,T.get_set]at h1 h2;rcases r b base hb with⟨rfl,rfl⟩|⟨hn,h3⟩
  ·rcases r b' base' al with⟨e,_⟩|⟨an,h4⟩
   ·exact absurd e.symm J
   ·have:=hr.lt b' base' h4;show w.heap.size≠_;omega
  ·rcases r b' base' al with⟨rfl,rfl⟩|⟨an,h4⟩
   ·have:=hr.lt b base h3;show _≠w.heap.size;omega
   ·rw[if_neg (fun e=>hn e.symm)]at h1
    rw[if_neg (fun e=>an e.symm)]at h2
    exact hr.apart b b' base base' J h3 h4 h1 h2
 ·intro k arr hk;rw[t k (hr.immLt hk)];exact hr.imm k arr hk
 ·intro k arr b base hk hb hl;rcases r b base hb with⟨rfl,rfl⟩|⟨hn,h3⟩
  ·have:=hr.immLt (k:=k) (arr:=arr) hk;show w.heap.size≠k;omega
  ·simp only[Aa.new,T.get_set]at hl;rw[if_neg (fun e=>hn e.symm)]at hl
   exact hr.off k arr b base hk h3 hl
 ·intro b base hb;rcases r b base hb with⟨rfl,rfl⟩|⟨_,h1⟩
  ·exact .inr ⟨R2 _,Nat.lt_succ_self _,.inl (R2 _)⟩
  ·exact .inl h1
 ·intro b _ hb;simp only[Aa.new,T.get_set]at hb ⊢;rw[if_neg (by omega)]
 ·intro b hb;simp only[Aa.new,T.get_set]at hb ⊢;by_cases e:h.nx=b
  ·exact .inr ⟨by omega,by omega⟩
  ·rw[if_neg e]at hb;exact .inl hb
theorem HR.stamp{ρ:Ren}{h:Aa}{w:World}(hr:HR ρ h.blk.get w)(hf:ρ h.nx=none){r:Nat}{base:Cu}(hb:ρ r=some base)(hl:h.blk.get r≠none)(s:Nat) :
  HR (ρ.upd h.nx ⟨base.cb,s,base.csz⟩) h.stampN.blk.get w∧Ext ρ (ρ.upd h.nx ⟨base.cb,s,base.csz⟩) h h.stampN w w:=by
 have hle:=Ren.le_upd hf ⟨base.cb,s,base.csz⟩;have get:∀b,h.stampN.blk.get b=if h.nx=b then none else h.blk.get b:=fun b=>T.get_del _ _ _
 have live:∀b,h.stampN.blk.get b≠none→h.nx≠b∧h.blk.get b≠none:=by
  intro b h1;rw[get]at h1;by_cases e:h.nx=b
  ·rw[if_pos e]at h1;exact absurd rfl h1
  ·rw[if_neg e]at h1;exact⟨e,h1⟩
 have t:∀b c,ρ.upd h.nx ⟨base.cb,s,base.csz⟩ b=some c→(b=h.nx∧c=⟨base.cb,s,base.csz⟩)∨(b≠h.nx∧ρ b=some c):=by
  intro b c hb;simp only[Ren.upd]at hb;by_cases e:b=h.nx
  ·rw[if_pos e]at hb;exact .inl ⟨e,by simpa using hb.symm⟩
  ·rw[if_neg e]at hb;exact .inr ⟨e,hb⟩
 refine⟨⟨?_,?_,?_,hr.imm,?_,hr.glob⟩,⟨hle,Nat.le_succ _,?_,G8.refl w,fun _ _ _=>rfl,⟨[],rfl,?_⟩,?_,fun _ _ e=>.inl e⟩⟩
 ·intro b c hc;rcases t b c hc with⟨_,rfl⟩|⟨_,h1⟩
  ·exact hr.lt r base hb
  ·exact hr.lt b c h1
 ·intro b c y hc hy;rcases t b c hc with⟨rfl,_⟩|⟨I,h1⟩
  ·rw[get,if_pos rfl]at hy;cases hy
  ·rw[get,if_neg (fun e=>I e.symm)]at hy
   exact(hr.blk b c y h1 hy).mono hle
 ·intro b b' c c' I hc al h1 h2;obtain⟨n1,l1⟩:=live b h1;obtain⟨n2,l2⟩:=live b' h2;rcases t b c hc with⟨e,_⟩|⟨_,h3⟩
  ·exact absurd e.symm n1
  ·rcases t b' c' al with⟨e,_⟩|⟨_,h4⟩
   ·exact absurd e.symm n2
   ·exact hr.apart b b' c c' I h3 h4 l1 l2
 ·intro k arr b c hk hc h1;obtain⟨n1,l1⟩:=live b h1;rcases t b c hc with⟨e,_⟩|⟨_,h3⟩
  ·exact absurd e.symm n1
  ·exact hr.off k arr b c hk h3 l1
 ·intro b c hc;rcases t b c hc with⟨rfl,rfl⟩|⟨_,h1⟩
  ·exact .inr ⟨R2 _,Nat.lt_succ_self _,.inr ⟨r,base,hb,hl,rfl⟩⟩
  ·exact .inl h1
 ·intro b _ J;rw[get,if_neg (by simp only[Aa.stampN]at J;omega)]
 ·intro b J;exact .inl (live b J).2
theorem HR.put{ρ:Ren}{h:Aa}{w:World}(hr:HR ρ h.blk.get w){r:Nat}{base:Cu}(hb:ρ r=some base)(J:h.blk.get r≠none)(x:An)
 (I:World)(hx:BR ρ x base I.heap[base.cb]?)(al:I.heap.size=w.heap.size)(t:∀k,k≠base.cb→I.heap[k]?=w.heap[k]?)(an:I.os=w.os)(ht:I.tape=w.tape)(ho:I.output=w.output) :
  HR ρ (h.put r x).blk.get I∧Ext ρ ρ h (h.put r x) w I:=by
 have live:∀b,(h.put r x).blk.get b≠none→h.blk.get b≠none:=by
  intro b h1;simp only[Aa.put,T.get_set]at h1;by_cases e:r=b
  ·subst e;exact J
  ·rw[if_neg e]at h1;exact h1
 refine⟨⟨fun b c hc=>al▸hr.lt b c hc,?_,?_,fun k arr hk=>by rw[t k (hr.off k arr r base hk hb J).symm];exact hr.imm k arr hk,fun k arr b c hk hc h1=>hr.off k arr b c hk hc (live b h1),hr.glob⟩,⟨Ren.le_refl ρ,R2 _,fun _ _ e=>.inl e,⟨an,ht,ho,by omega⟩,?_,⟨[r],rfl,?_⟩,?_,fun _ _ e=>.inl e⟩⟩
 ·intro b c y hc hy;simp only[Aa.put,T.get_set]at hy;by_cases e:r=b
  ·subst e;rw[if_pos rfl]at hy;cases hy;rw[hb]at hc;cases hc;exact hx
  ·rw[if_neg e]at hy;rw[t _ (hr.apart b r c base (fun h=>e h.symm) hc hb (by rw[hy];simp) J)]
   exact hr.blk b c y hc hy
 ·intro b b' c c' ar hc av h1 h2;simp only[Aa.put,T.get_set]at h1 h2;refine hr.apart b b' c c' ar hc av ?_ ?_
  ·by_cases e:r=b
   ·subst e;exact J
   ·rw[if_neg e]at h1;exact h1
  ·by_cases e:r=b'
   ·subst e;exact J
   ·rw[if_neg e]at h2;exact h2
 ·intro k hk hn;exact t k (fun e=>hn r base hb J e.symm)
 ·intro b bd _;simp only[Aa.put,T.get_set];rw[if_neg (fun e=>bd (by simp[e]))]
 ·intro b h1;simp only[Aa.put,T.get_set]at h1;by_cases e:r=b
  ·subst e;exact .inl J
  ·rw[if_neg e]at h1;exact .inl h1
theorem HR.same{ρ:Ren}{g:Nat→Option An}{w t:World}(hr:HR ρ g w)(r:t.heap=w.heap):HR ρ g t:=
 ⟨fun b base h=>r▸hr.lt b base h,fun b base x h I=>r▸hr.blk b base x h I,hr.apart,fun k arr hk=>r▸hr.imm k arr hk,hr.off,hr.glob⟩
end Go.AE
namespace Go.AE
variable [Gl:AG]
variable [U:Unk]
structure OK(E:Env):Prop where
 ty:∀t i,E.ty.get t=some i→E.P.info? t=some i
 fn:∀f x,E.fn.get f=some x→E.P.funcs[f]?=some x
 num:∀f x,E.fn.get f=some x→(x.name == "runtime.NumGoroutine")=false
 clone:∀f x,E.fn.get f=some x→x.body=none→x.name = "maps.clone"→Extern.findNext x=none∧Extern.find x=some Extern.MapsClone.clone
 ixb:∀f x,E.fn.get f=some x→x.body=none→x.name = "internal/bytealg.IndexByteString"→Extern.findNext x=none∧Extern.find x=some Extern.BytealgIndexByte.indexByte
 cnt:∀f x,E.fn.get f=some x→x.body=none→x.name = "internal/bytealg.CountString"→Extern.findNext x=none∧Extern.find x=some Extern.BytealgCount.count
 mixed:E.P.follows .mixedOrders=true
 kd:U.K=(Env.of E.P).kinds
 ke:E.kinds=(Env.of E.P).kinds
 gl:E.gl=Gl.tab
 ox:∀f l,E.ox.get f=some l→∀e∈l,e∈E.orc
section
variable {E:Env}(hE:OK E)
include hE
theorem OK.und{t:TypeId}{d:TypeDesc}(h:E.desc t=some d):E.P.underlying t=some d:=by
 unfold Env.desc at h;cases hi:E.ty.get t with
 |none=>simp[hi]at h
 |some i=>
  simp only[hi]at h;have h1:=hE.ty t i hi;unfold Program.underlying;rw[h1];cases i with
  |mk desc str size bytes l al r zero I J=>
   cases desc<;>simp only[C2]at h ⊢<;>first|exact h|skip
   rename_i n u;cases hu:E.ty.get u with
   |none=>simp[hu]at h
   |some j=>simp only[hu,C2]at h;rw[hE.ty u j hu];simpa using h
theorem OK.run_und{t:TypeId}{d:TypeDesc}(h:E.desc t=some d)(w:World):(underlying t).run E.P w=.ok d w:=by
 simp[underlying,hE.und h]
theorem OK.run_info{t:TypeId}{i:TypeInfo}(h:E.ty.get t=some i)(w:World):(typeInfo t).run E.P w=.ok i w:=by
 simp[typeInfo,hE.ty t i h]
theorem OK.run_sz{t:TypeId}{i:TypeInfo}(h:E.ty.get t=some i)(w:World):(sizeOf t).run E.P w=.ok i.size w:=by
 simp[sizeOf,hE.run_info h]
omit hE in
theorem X9{t:TypeId}{d:TypeDesc}(h:E.desc t=some d):∃i,E.ty.get t=some i∧E.size t=i.size:=by
 unfold Env.desc at h;cases hi:E.ty.get t with
 |none=>simp[hi]at h
 |some i=>exact⟨i,rfl,by simp[Env.size,hi]⟩
theorem OK.run_size{t:TypeId}{d:TypeDesc}(h:E.desc t=some d)(w:World):(sizeOf t).run E.P w=.ok (E.size t) w:=by
 obtain⟨i,l,r⟩:=X9 h;rw[r];exact hE.run_sz l w
theorem OK.run_has{t:TypeId}(h:E.has t=true)(w:World):(sizeOf t).run E.P w=.ok (E.size t) w:=by
 unfold Env.has at h;cases hi:E.ty.get t with
 |none=>simp[hi]at h
 |some i=>rw[hE.run_sz hi];simp[Env.size,hi]
theorem OK.run_szIs{t:TypeId}{n:Nat}(h:E.szIs t n=true)(w:World):(sizeOf t).run E.P w=.ok n w:=by
 unfold Env.szIs at h;cases hi:E.ty.get t with
 |none=>simp[hi]at h
 |some i=>simp only[hi]at h;rw[hE.run_sz hi,Ay h]
theorem OK.run_isAgg{t:TypeId}{d:TypeDesc}(h:E.desc t=some d)(w:World):(isAgg t).run E.P w=.ok (Dv d) w:=by
 simp only[isAgg,L1,hE.run_und h,F0];cases d<;>simp[Dv]
omit hE in
theorem GE{t:TypeId}{z:AV}(h:E.zero t=some z):∃i v,E.ty.get t=some i∧i.zero=some v∧ofValue v=some z:=by
 unfold Env.zero at h;cases hi:E.ty.get t with
 |none=>simp[hi]at h
 |some i=>
  simp only[hi]at h;cases hz:i.zero with
  |none=>simp[hz]at h
  |some v=>simp only[hz]at h;exact⟨i,v,rfl,hz,h⟩
omit hE in
theorem KX(ρ:Ren){v:Value}{a:AV}(h:A1 v=some a):VR ρ a v:=by
 cases v with
 |bool b=>simp[A1]at h;subst h;exact .bool b
 |int k n=>simp[A1]at h;subst h;exact .int k n
 |string s=>simp only[A1,C2]at h;subst h;exact .str s
 |pointer p=>cases p<;>simp[A1]at h;subst h;exact .ptr0
 |slice p l c=>
  cases p with
  |some a=>simp[A1]at h
  |none=>cases l with
   |succ n=>simp[A1]at h
   |zero=>cases c with
    |succ n=>simp[A1]at h
    |zero=>simp[A1]at h;subst h;exact .slice0
 |map r=>cases r<;>simp[A1]at h;subst h;exact .map0
 |nilFunc=>simp[A1]at h;subst h;exact .nilFunc
 |nilIface=>simp[A1]at h;subst h;exact .nilIface
 |_=>simp[A1]at h
omit hE in
theorem PJ(ρ:Ren):∀{l:List Value}{as:List AV},C1 l=some as→VL ρ as l:=by
 intro l
 induction l with
 |nil=>intro as h;simp[C1]at h;subst h;exact VL.nil ρ
 |cons v r ih=>
  intro as h;simp only[C1]at h;cases hv:A1 v with
  |none=>simp[hv]at h
  |some a=>
   cases hr:C1 r with
   |none=>simp[hv,hr]at h
   |some as'=>simp only[hv,hr,C2]at h;subst h;exact VL.cons (KX ρ hv) (ih hr)
omit hE in
theorem AO(ρ:Ren){v:Value}{a:AV}(h:ofValue v=some a):VR ρ a v:=by
 cases v with
 |agg c=>
  simp only[ofValue]at h;cases hc:C1 c.toList with
  |none=>simp[hc]at h
  |some l=>
   simp only[hc,C2]at h;subst h;have:=PJ ρ hc;exact .agg l c.toList this.1 this.2
 |_=>exact KX ρ (by simpa[ofValue]using h)
omit hE in
theorem VR.cells{ρ:Ren}{a:AV}{v:Value}(h:VR ρ a v)(ht:a≠.top):VL ρ a.cells v.cells.toList:=by
 cases h with
 |top v=>exact absurd rfl ht
 |agg l l' h1 h2=>exact⟨h1,h2⟩
 |bool b=>exact VL.cons (.bool b) (VL.nil ρ)
 |int k n=>exact VL.cons (.int k n) (VL.nil ρ)
 |str s=>exact VL.cons (.str s) (VL.nil ρ)
 |ptr0=>exact VL.cons .ptr0 (VL.nil ρ)
 |ptr b off base h=>exact VL.cons (.ptr b off base h) (VL.nil ρ)
 |slice0=>exact VL.cons .slice0 (VL.nil ρ)
 |slice b off n es cap base h hc hz=>exact VL.cons (.slice b off n es cap base h hc hz) (VL.nil ρ)
 |sliceEnd b off es a=>exact VL.cons (.sliceEnd b off es a) (VL.nil ρ)
 |map0=>exact VL.cons .map0 (VL.nil ρ)
 |map b base h=>exact VL.cons (.map b base h) (VL.nil ρ)
 |func fn fn' f c f' c' h h1 h2 h3 h4=>exact VL.cons (.func fn fn' f c f' c' h h1 h2 h3 h4) (VL.nil ρ)
 |nilFunc=>exact VL.cons .nilFunc (VL.nil ρ)
 |iface t a v h=>exact VL.cons (.iface t a v h) (VL.nil ρ)
 |nilIface=>exact VL.cons .nilIface (VL.nil ρ)
 |tuple l l' h1 h2=>exact VL.cons (.tuple l l' h1 h2) (VL.nil ρ)
 |sb pos e=>exact VL.cons (.sb pos e) (VL.nil ρ)
 |si k e=>exact VL.cons (.si k e) (VL.nil ρ)
 |ss i=>exact VL.cons (.ss i) (VL.nil ρ)
 |dat e x a n c h=>exact VL.cons (.dat e x a n c h) (VL.nil ρ)
 |dptr e x i off b o n cap ks h hk h0 hi ho=>exact VL.cons (.dptr e x i off b o n cap ks h hk h0 hi ho) (VL.nil ρ)
 |asl b es n nl cap base h h0 hc hz hn=>exact VL.cons (.asl b es n nl cap base h h0 hc hz hn) (VL.nil ρ)
 |aslEnd b es n nl a h0 hn=>exact VL.cons (.aslEnd b es n nl a h0 hn) (VL.nil ρ)
 |eslc nl a hn=>exact VL.cons (.eslc nl a hn) (VL.nil ρ)
 |aptr b es i off base h h0=>exact VL.cons (.aptr b es i off base h h0) (VL.nil ρ)
 |nmap b nl base h hn=>exact VL.cons (.nmap b nl base h hn) (VL.nil ρ)
 |nmap0 b nl hn=>exact VL.cons (.nmap0 b nl hn) (VL.nil ρ)
 |stamp b base h=>exact VL.cons (.stamp b base h) (VL.nil ρ)
 |glob g off=>exact VL.cons (.glob g off) (VL.nil ρ)
 |fsl b off n es base h hz=>exact VL.cons (.fsl b off n es base h hz) (VL.nil ρ)
theorem OK.run_zero{t:TypeId}{z:AV}(ρ:Ren)(h:E.zero t=some z)(w:World):∃v,(zeroValue t).run E.P w=.ok v w∧ofValue v=some z:=by
 obtain⟨i,v,h1,h2,h3⟩:=GE h;exact⟨v,by simp[zeroValue,hE.run_info h1,h2],h3⟩
theorem OK.run_part{ρ:Ren}{t:TypeId}{cs:List AV}{cs':List Value}{off:Nat}{a:AV}(h:CF E t cs off=some a)(hc:VL ρ cs cs')(w:World) :
  ∃v,(part t cs'.toArray off).run E.P w=.ok v w∧VR ρ a v:=by
 unfold CF at h;cases J:E.desc t with
 |none=>simp[J]at h
 |some d=>
  simp only[J]at h;unfold part;simp only[L1,hE.run_isAgg J,F0];cases I:Dv d with
  |true=>
   simp only[I,C2]at h;subst h;simp only[if_true,L1,hE.run_size J,F0,Ts];refine⟨_,rfl,?_⟩
   have e:cs'.toArray.extract off (off+E.size t)=((cs'.drop off).take (E.size t)).toArray:=by
    simp[List.extract_toArray]
   rw[e];exact .agg _ _ ((hc.drop off).take _).1 ((hc.drop off).take _).2
  |false=>
   simp only[I]at h;obtain⟨v,hv,hr⟩:=hc.get h;simp only[ie,Aey,Aep,hv];exact⟨v,rfl,hr⟩
end
end Go.AE
namespace Go.AE
variable [Gl:AG]
variable [U:Unk]
theorem C7{i j:Nat}(h:Nat.ble i j=true):i≤j:=kp h
theorem Io{i j:Nat}(h:Nat.blt i j=true):i<j:=kp h
theorem Av{a b:Bool}(h:(a&&b)=true):a=true∧b=true:=by simpa using h
theorem orF{a b:Bool}(h:(a||b)=true):a=true∨b=true:=by simpa using h
theorem B2(b o n:Nat):(⟨b,o,none⟩:Addr).add n=⟨b,o+n,none⟩:=by
 unfold Addr.add;split
 ·next h=>subst h;rfl
 ·rfl
section
variable {ρ:Ren}{g:Nat→Option An}{w:World}
theorem HR.cell(r:HR ρ g w){b n i:Nat}{base:Cu}{c:T AV}{a:AV}(t:ρ b=some base)(I:g b=some (.cells n c))(hi:i<n)(J:c.get i=some a) :
  ∃v,w.cell? ⟨base.cb,base.co+i,none⟩=some v∧VR ρ a v:=by
 obtain⟨al,e,fz,h1,h2,h3,h4,h5⟩:=r.blk b base _ t I;obtain⟨v,hv,l⟩:=h5 i a hi J;exact⟨v,by simp[World.cell?,h1,hv],l⟩
theorem C8(P:Program)(b o:Nat):∀(c:List Value)(i:Nat)(a:Array Value),(∀j v,c[j]?=some v→w.cell? ⟨b,o+(i+j),none⟩=some v)→
  (loadCellsFrom ⟨b,o,none⟩ i c.length a).run P w=.ok (a++c.toArray) w:=by
 intro c
 induction c with
 |nil=>intro i a _;simp[loadCellsFrom]
 |cons v r ih=>
  intro i a h;have d:=h 0 v rfl;simp only[qs]at d;simp only[n0,loadCellsFrom,L1,run_load,B2,d,F0];rw[ih (i+1) (a.push v) (fun j u e=>by have:=h (j+1) u (by simpa using e);rwa [show i+(j+1)=i+1+j from by omega]at this)]
  simp
theorem HR.loadCells(hr:HR ρ g w)(P:Program){b n off k:Nat}{base:Cu}{c:T AV}{l:List AV}(hb:ρ b=some base)(hg:g b=some (.cells n c))(hk:off+k≤n)(hl:c.range off k=some l) :
  ∃r:List Value,VL ρ l r∧(loadCells ⟨base.cb,base.co+off,none⟩ k).run P w=.ok r.toArray w∧(∀j v,r[j]?=some v→w.cell? ⟨base.cb,base.co+off+j,none⟩=some v):=by
 obtain⟨ar,I⟩:=T.range_spec c k off l hl
 have al:∀m,m≤k→∃r:List Value,r.length=m∧∀j,j<m→∃a v,l[j]?=some a∧r[j]?=some v∧VR ρ a v∧w.cell? ⟨base.cb,base.co+off+j,none⟩=some v:=by
  intro m
  induction m with
  |zero=>intro _;exact⟨[],rfl,fun j h=>absurd h (hX _)⟩
  |succ m ih=>
   intro hm;obtain⟨r,h1,h2⟩:=ih (by omega)
   have J:m<l.length:=by omega
   have ha:c.get (off+m)=some l[m]:=by rw[I m (by omega)];simp[J]
   obtain⟨v,hv,an⟩:=hr.cell hb hg (by omega) ha
   refine⟨r++[v],by simp[h1],fun j hj=>?_⟩
   by_cases e:j<m
   ·obtain⟨a,u,q1,q2,q3,q4⟩:=h2 j e;exact⟨a,u,q1,by rw[hP (by omega)];exact q2,q3,q4⟩
   ·have:j=m:=by omega
    subst this;exact⟨l[j],v,by simp[J],by rw[hS (by omega)];simp[h1],an,by rw[←hv];congr 2;omega⟩
 obtain⟨r,h1,h2⟩:=al k (R2 k)
 have t:∀j v,r[j]?=some v→w.cell? ⟨base.cb,base.co+off+j,none⟩=some v:=by
  intro j v hv;have hj:j<k:=by have:=(L2.1 hv).1;omega
  obtain⟨a,u,q1,q2,q3,q4⟩:=h2 j hj;rw[q2]at hv;cases hv;exact q4
 refine⟨r,⟨by omega,fun i a v ha hv=>?_⟩,?_,t⟩
 ·have hi:i<k:=by have:=(L2.1 hv).1;omega
  obtain⟨a',v',q1,q2,q3,_⟩:=h2 i hi;rw[q1]at ha;rw[q2]at hv;cases ha;cases hv;exact q3
 ·unfold Go.loadCells;have:=C8 (w:=w) P base.cb (base.co+off) r 0 #[] (fun j v hv=>by simpa using t j v hv)
  rw[h1]at this;simpa using this
theorem BM(P:Program)(b o:Nat)(e:TypeId)(m:Nat×Nat):∀(l:List Value)(i:Nat)(w:World)(a:Array Value),w.heap[b]?=some (.cells a e m)→o+i+l.length≤a.size→
  (m.1=m.2∨a.size≤m.1)→(∀v∈l,v.oneCell'=true)→
  ∃d c,(storeCells ⟨b,o,none⟩ l i).run P w=.ok () d∧d.heap[b]?=some (.cells c e m)∧c.size=a.size∧(∀j,c[j]?=if o+i≤j∧j<o+i+l.length then l[j-(o+i)]? else a[j]?)∧
   d.heap.size=w.heap.size∧(∀k,k≠b→d.heap[k]?=w.heap[k]?)∧d.os=w.os∧d.tape=w.tape∧d.output=w.output:=by
 intro l
 induction l with
 |nil=>
  intro i w a n y p x;exact⟨w,a,by simp[storeCells],n,rfl,fun j=>by rw[if_neg (by simp)],rfl,fun _ _=>rfl,rfl,rfl,rfl⟩
 |cons v r ih=>
  intro i w a n y p x;have hv:=x v (by simp)
  simp only[n0]at y;have q:o+i<a.size:=by omega
  have f:w.cell? ⟨b,o+i,none⟩=some a[o+i]:=by simp[World.cell?,n,q]
  have s:w.frozen? ⟨b,o+i,none⟩=false:=by
   simp only[World.frozen?,n];rcases p with p|p
   ·simp;omega
   ·simp;omega
  have K:b<w.heap.size:=(Array.getElem?_eq_some_iff.1 n).1
  have t:(w.setCell ⟨b,o+i,none⟩ v).heap[b]?=some (.cells (a.setIfInBounds (o+i) v) e m):=by
   simp only[World.setCell,Array.getElem?_modify];simp[n]
  obtain⟨d,c,A,B,C,D,E,F,G,H,I⟩:=ih (i+1) (w.setCell ⟨b,o+i,none⟩ v) (a.setIfInBounds (o+i) v) t (by simp;omega) (by simpa using p) (fun u J=>x u (by simp[J]))
  refine⟨d,c,?_,B,by simpa using C,?_,?_,?_,?_,?_,?_⟩
  ·simp only[storeCells,L1,B2,run_store _ _ _ _ _ hv,f,s];simpa using A
  ·intro j;rw[D j];simp only[n0];by_cases c1:o+(i+1)≤j∧j<o+(i+1)+r.length
   ·rw[if_pos c1,if_pos (by omega)]
    have:j-(o+i)=(j-(o+(i+1)))+1:=by omega
    rw[this,iv]
   ·rw[if_neg c1];by_cases c2:j=o+i
    ·subst c2;rw[if_pos (by omega)]
     simp[q]
    ·rw[if_neg (by omega),vy (fun h=>c2 h.symm)]
  ·rw[E];simp[World.setCell]
  ·intro k z;rw[F k z];simp only[World.setCell,Array.getElem?_modify];rw[if_neg (fun h=>z h.symm)]
  ·rw[G];rfl
  ·rw[H];rfl
  ·rw[I];rfl
theorem VR.one{a:AV}{v:Value}(h:VR ρ a v)(l:a.one=true):v.oneCell'=true:=by
 cases h<;>simp_all[AV.one,Value.oneCell']
theorem Ia:∀{l:List AV}{b:List Value},EA l=true→VL ρ l b→∀v∈b,v.oneCell'=true:=by
 intro l
 induction l with
 |nil=>intro b _ h;rw[h.nil_inv];simp
 |cons a r ih=>
  intro b c f;obtain⟨v,j,rfl,hv,i⟩:=f.cons_inv;simp only[EA]at c;cases d:a.one with
  |false=>simp[d]at c
  |true=>
   simp only[d]at c;intro u e;rcases i0.1 e with rfl|e
   ·exact hv.one d
   ·exact ih c i u e
end
theorem HR.storeN{ρ:Ren}{h h':Aa}{w:World}(hr:HR ρ h.blk.get w)(P:Program){b off:Nat}{base:Cu}{l:List AV}{l':List Value}(hb:ρ b=some base)(I:VL ρ l l')(r:storeN h b off l=some h') :
  ∃t,(storeCells ⟨base.cb,base.co+off,none⟩ l' 0).run P w=.ok () t∧HR ρ h'.blk.get t∧Ext ρ ρ h h' w t:=by
 unfold AE.storeN at r;cases J:h.blk.get b with
 |none=>simp[J]at r
 |some x=>
  cases x with
  |cells n c=>
   simp only[J]at r;cases hc:(Nat.ble (off+l.length) n&&EA l)with
   |false=>simp[hc]at r
   |true=>
    simp only[hc,C2]at r;subst r;obtain⟨c1,c2⟩:=Av hc;have av:=C7 c1;obtain⟨an,e,fz,h1,h2,h3,h4,h5⟩:=hr.blk b base _ hb J;obtain⟨t,al,q1,q2,q3,q4,q5,q6,q7,q8,q9⟩:=BM P base.cb (base.co+off) e fz l' 0 w an h1 (by rw[←I.1,h2];omega) (by rw[h2];exact h4) (Ia c2 I)
    refine⟨t,q1,?_⟩;refine hr.put hb (by rw[J];simp) _ t ?_ q5 q6 q7 q8 q9
    refine⟨al,e,fz,q2,by rw[q3,h2],h3,h4,?_⟩
    intro i a hi ha;rw[FU]at ha;rw[q4 (base.co+i)];simp only[qs];by_cases c:off≤i∧i<off+l.length
    ·rw[if_pos c]at ha;rw[if_pos (by rw[←I.1];omega)]
     obtain⟨v,hv,ar⟩:=I.get ha;exact⟨v,by rw[←hv];congr 1;omega,ar⟩
    ·rw[if_neg c]at ha;rw[if_neg (by rw[←I.1];omega)]
     exact h5 i a hi ha
  |_=>simp[J]at r
theorem HR.newRow{ρ:Ren}{h:Aa}{w:World}(I:HR ρ h.blk.get w)(t:ρ h.nx=none)(e:TypeId){n:Nat}{c:T AV}(arr:Array Value)(J:n≤arr.size)
 (hc:∀i a,i<n→c.get i=some a→∃v,arr[i]?=some v∧VR ρ a v) :
  ∃l:Ren,l h.nx=some ⟨w.heap.size,0,arr.size⟩∧HR l (h.new (.cells n c)).blk.get {w with heap:=w.heap.push (.cells arr e)}∧
  Ext ρ l h (h.new (.cells n c)) w {w with heap:=w.heap.push (.cells arr e)}:=by
 refine⟨ρ.upd h.nx ⟨w.heap.size,0,arr.size⟩,Ren.upd_same _ _ _,?_⟩;refine I.new t _ _ _ ?_ _ rfl rfl rfl rfl;refine⟨_,_,_,rfl,rfl,by simpa using J,.inl rfl,?_⟩
 intro i a hi ha;obtain⟨v,hv,r⟩:=hc i a hi ha;exact⟨v,by simpa using hv,r.mono (Ren.le_upd t _)⟩
theorem HR.newList{ρ:Ren}{h:Aa}{w:World}(hr:HR ρ h.blk.get w)(hf:ρ h.nx=none)(e:TypeId){l:List AV}(arr:Array Value)(I:VL ρ l arr.toList) :
  ∃r:Ren,r h.nx=some ⟨w.heap.size,0,arr.size⟩∧HR r (Bw h l).blk.get {w with heap:=w.heap.push (.cells arr e)}∧
  Ext ρ r h (Bw h l) w {w with heap:=w.heap.push (.cells arr e)}:=by
 refine hr.newRow hf e arr (by have:=I.1;simp at this;omega) ?_
 intro i a hi J;rw[T.get_ofList]at J;obtain⟨v,hv,t⟩:=I.get J;exact⟨v,by simpa using hv,t⟩
end Go.AE

