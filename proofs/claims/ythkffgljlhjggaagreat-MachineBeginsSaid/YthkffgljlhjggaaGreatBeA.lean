/- What is proved here: an evaluator of the model's steps that the kernel can run, and that whatever it answers is what the model does (part 1 of 6: Ae, AeRel, AeOps1, AeOps2, AeStr, AeOps3). Conditions: those that each theorem states; they hold of no one program. -/
import GoSem.Step
import Derived.Calls
import Derived.Laws.Sem
import Derived.Laws.Strings
set_option linter.unusedVariables false
set_option linter.unusedSectionVars false
set_option linter.unusedSimpArgs false
namespace Go.AE
inductive T (α : Type) where
 | nil
 | node (v : Option α) (l r : T α)
 deriving Inhabited
def T.get {α : Type} : T α → Nat → Option α
 | .nil, _ => none
 | .node v l r, i =>
  match Nat.beq i 0 with
  | true => v
  | false => match Nat.beq (i % 2) 1 with
   | true => l.get (i / 2)
   | false => r.get (i / 2 - 1)
def T.setF {α : Type} : Nat → T α → Nat → Option α → T α
 | 0, t, _, _ => t
 | f + 1, .nil, i, x =>
  match Nat.beq i 0 with
  | true => .node x .nil .nil
  | false => match Nat.beq (i % 2) 1 with
   | true => .node none (T.setF f .nil (i / 2) x) .nil
   | false => .node none .nil (T.setF f .nil (i / 2 - 1) x)
 | f + 1, .node v l r, i, x =>
  match Nat.beq i 0 with
  | true => .node x l r
  | false => match Nat.beq (i % 2) 1 with
   | true => .node v (T.setF f l (i / 2) x) r
   | false => .node v l (T.setF f r (i / 2 - 1) x)
def T.set {α : Type} (t : T α) (i : Nat) (x : α) : T α := T.setF (i + 1) t i (some x)
def T.del {α : Type} (t : T α) (i : Nat) : T α := T.setF (i + 1) t i none
def T.ofListFrom {α : Type} : List α → Nat → T α → T α
 | [], _, t => t
 | x :: r, i, t => T.ofListFrom r (i + 1) (t.set i x)
def T.ofList {α : Type} (l : List α) : T α := T.ofListFrom l 0 .nil
def T.range {α : Type} (t : T α) (i : Nat) : Nat → Option (List α)
 | 0 => some []
 | n + 1 => match t.get i with
  | some x => match t.range (i + 1) n with
   | some r => some (x :: r)
   | none => none
  | none => none
inductive D where
 | bool (b : Bool)
 | int (n : Int)
 | str (s : ByteArray)
 | slc (nl : Bool) (rows : List D)
 | row (cells : List D)
 deriving Inhabited
def D.toInt : D → Int
 | .int n => n
 | _ => 0
def D.toBool : D → Bool
 | .bool b => b
 | _ => false
def D.toStr : D → ByteArray
 | .str s => s
 | _ => .empty
def D.rows : D → List D
 | .slc _ l => l
 | _ => []
def D.cells : D → List D
 | .row l => l
 | _ => []
def D.isNil : D → Bool
 | .slc b _ => b
 | _ => false
inductive Kd where
 | int (k : IntKind)
 | bool
 | str
 | slice (e : TypeId)
 deriving DecidableEq, Inhabited
inductive SE where
 | c (n : Int)
 | var (i : Nat)
 | lenS (a : SE)
 | lenL (a : SE)
 | arith (op : BinOp) (k : IntKind) (a b : SE)
 | conv (k : IntKind) (a : SE)
 | lss (a b : SE)
 | eql (a b : SE)
 | eqS (a : SE) (l b : Nat)
 | eqSS (a b : SE)
 | isNil (a : SE)
 | bc (b : Bool)
 | neg (a : SE)
 | and (a b : SE)
 | nilIs (a b : SE)
 | strc (l b : Nat)
 | strAt (a i : SE)
 | strCat (a b : SE)
 | strSub (a lo hi : SE)
 | cell (a i : SE) (j : Nat)
 | sel (a : SE) (j : Nat)
 | nilL
 | emptyL
 | snoc (a r : SE)
 | upd (a i : SE) (j : Nat) (x : SE)
 | rep (n r : SE)
 | cat (a b : SE)
 | sub (a lo hi : SE)
 | rnil
 | rcons (x r : SE)
 | app (f : Nat) (x : SE)
 | bytes (a : SE)
 | ofBytes (a : SE)
 | mIdx (ks : List Kd) (a k : SE)
 | rmv (a i : SE)
 deriving Inhabited
abbrev SB := SE
inductive AV where
 | top
 | bool (b : Bool)
 | int (k : IntKind) (n : Int)
 | str (len bits : Nat)
 | ptr0
 | ptr (b off : Nat)
 | slice0
 | slice (b off len es : Nat)
 | map0
 | map (b : Nat)
 | func (fn : Fn) (first captured : List AV)
 | nilFunc
 | iface (t : TypeId) (v : AV)
 | nilIface
 | agg (cells : List AV)
 | tuple (vs : List AV)
 | sb (pos : Bool) (e : SB)
 | si (k : IntKind) (e : SE)
 | ss (x : SE)
 | dat (e : TypeId) (x : SE)
 | dptr (e : TypeId) (x i : SE) (off : Nat)
 | asl (b es : Nat) (n nl : SE)
 | eslc (nl : SE)
 | aptr (b es : Nat) (i : SE) (off : Nat)
 | nmap (b : Nat) (nl : SE)
 deriving Inhabited
def AV.undef : AV := .tuple []
def AH : List UInt8 → Nat
 | [] => 0
 | b :: r => b.toNat + 256 * AH r
def AV.isTop : AV → Bool
 | .top => true
 | _ => false
def AV.cells : AV → List AV
 | .agg l => l
 | v => [v]
def A6 : Value → Option AV
 | .bool b => some (.bool b)
 | .int k n => some (.int k n)
 | .string s => some (.str s.data.toList.length (AH s.data.toList))
 | .pointer none => some .ptr0
 | .slice none 0 0 => some .slice0
 | .map none => some .map0
 | .nilFunc => some .nilFunc
 | .nilIface => some .nilIface
 | _ => none
def C3 : List Value → Option (List AV)
 | [] => some []
 | v :: r => match A6 v, C3 r with
  | some a, some as => some (a :: as)
  | _, _ => none
def ofValue : Value → Option AV
 | .agg c => match C3 c.toList with
  | some l => some (.agg l)
  | none => none
 | v => A6 v
structure AD where
 fn : Option Fn
 coll : Nat
 captured : List AV
 args : List AV
 deriving Inhabited
structure AP where
 key : AV
 val : AV
 born : Nat
 deriving Inhabited
inductive Aq where
 | cells (n : Nat) (c : T AV)
 | arr (e : TypeId) (x : SE)
 | map (es : List AP) (clock : Nat)
 | dmap (kt vt : TypeId) (x : SE)
 | loop (st : LoopState) (pending : Option Code) (fn : FuncId) (nt : Nat) (tmps : T AV) (params : List Tmp) (assign body : Code) (defers : Nat)
 | deferred (ds : Option (List AD))
 | mapIter (m : Option Nat) (since : Nat) (seen : List Nat) (last : Nat)
 deriving Inhabited
structure Aa where
 blk : T Aq
 nx : Nat
 log : List Nat
 deriving Inhabited
inductive IC where
 | run
 | ret
 | panic (chain : List (AV × Bool))
 deriving Inhabited
inductive AI where
 | code (c : Code)
 | inBlock (id : Nat)
 | inLoop (body : Code)
 | inScope (body : Code)
 | ops (all : Array Oper) (rest : List Oper)
 | inRange (l : Nat)
 | endRange (l : Nat)
 | beginRound
 | dead
 | rest
 deriving Inhabited
structure AF where
 fn : FuncId
 nt : Nat
 tmps : T AV
 todo : List AI
 defers : List AD
 mode : IC
 kind : CallKind
 round : Option Nat
 deriving Inhabited
structure AS where
 fr : AF
 cs : List AF
 h : Aa
 deriving Inhabited
structure Orc where
 f : FuncId
 args : List AV
 part : T Aq
 nx : Nat
 ok : Bool
 v : AV
 out : T Aq
 nx' : Nat
 wr : List Nat
 deriving Inhabited
structure Sm where
 f : FuncId
 nv : Nat
 args : List AV
 pre : List (Option Aq)
 facts : List (SB × Bool)
 res : AV
 post : List (Option Aq)
 deriving Inhabited
structure Env where
 P : Program
 ty : T TypeInfo
 fn : T Func
 orc : List Orc
 sms : List Sm
 deriving Inhabited
def Env.ofS (P : Program) (l : List Orc) (m : List Sm) : Env := { P, ty := .ofList P.types.toList, fn := .ofList P.funcs.toList, orc := l, sms := m }
def Env.ofO (P : Program) (l : List Orc) : Env := Env.ofS P l []
def Env.of (P : Program) : Env := Env.ofO P []
inductive Ask where
 | enter (f : FuncId) (args : List AV)
 | round (l : Nat) (args : List AV)
 deriving Inhabited
def SE.same : SE → SE → Bool
 | .c n, .c m => n == m
 | .var i, .var j => Nat.beq i j
 | .lenS a, .lenS b => a.same b
 | .lenL a, .lenL b => a.same b
 | .arith op k a b, .arith op' k' a' b' => decide (op = op') && decide (k = k') && a.same a' && b.same b'
 | .conv k a, .conv k' a' => decide (k = k') && a.same a'
 | .lss a b, .lss a' b' => a.same a' && b.same b'
 | .eql a b, .eql a' b' => a.same a' && b.same b'
 | .eqS a l b, .eqS a' l' b' => a.same a' && Nat.beq l l' && Nat.beq b b'
 | .eqSS a b, .eqSS a' b' => a.same a' && b.same b'
 | .isNil a, .isNil b => a.same b
 | .bc a, .bc b => a == b
 | .neg a, .neg b => a.same b
 | .and a b, .and a' b' => a.same a' && b.same b'
 | .nilIs a b, .nilIs a' b' => a.same a' && b.same b'
 | .strc l b, .strc l' b' => Nat.beq l l' && Nat.beq b b'
 | .strAt a b, .strAt a' b' => a.same a' && b.same b'
 | .strCat a b, .strCat a' b' => a.same a' && b.same b'
 | .strSub a b x, .strSub a' b' x' => a.same a' && b.same b' && x.same x'
 | .cell a b j, .cell a' b' j' => a.same a' && b.same b' && Nat.beq j j'
 | .sel a j, .sel a' j' => a.same a' && Nat.beq j j'
 | .nilL, .nilL => true
 | .emptyL, .emptyL => true
 | .snoc a b, .snoc a' b' => a.same a' && b.same b'
 | .upd a b j x, .upd a' b' j' x' => a.same a' && b.same b' && Nat.beq j j' && x.same x'
 | .rep a b, .rep a' b' => a.same a' && b.same b'
 | .cat a b, .cat a' b' => a.same a' && b.same b'
 | .sub a b x, .sub a' b' x' => a.same a' && b.same b' && x.same x'
 | .rnil, .rnil => true
 | .rcons a b, .rcons a' b' => a.same a' && b.same b'
 | .app f a, .app f' a' => Nat.beq f f' && a.same a'
 | .bytes a, .bytes b => a.same b
 | .ofBytes a, .ofBytes b => a.same b
 | .mIdx ks a k, .mIdx ks' a' k' => decide (ks = ks') && a.same a' && k.same k'
 | .rmv a i, .rmv a' i' => a.same a' && i.same i'
 | _, _ => false
def ZP : Fn → Fn → Bool
 | .func f, .func g => Nat.beq f g
 | _, _ => false
mutual
def BD : AV → AV → Bool
 | .top, .top => true
 | .bool a, .bool b => a == b
 | .int k a, .int k' b => decide (k = k') && a == b
 | .str l a, .str l' b => Nat.beq l l' && Nat.beq a b
 | .ptr0, .ptr0 => true
 | .ptr b o, .ptr b' o' => Nat.beq b b' && Nat.beq o o'
 | .slice0, .slice0 => true
 | .slice b o n e, .slice b' o' n' e' => Nat.beq b b' && Nat.beq o o' && Nat.beq n n' && Nat.beq e e'
 | .map0, .map0 => true
 | .map b, .map b' => Nat.beq b b'
 | .func fn f c, .func fn' f' c' => ZP fn fn' && Ho f f' && Ho c c'
 | .nilFunc, .nilFunc => true
 | .iface t v, .iface t' v' => Nat.beq t t' && BD v v'
 | .nilIface, .nilIface => true
 | .agg l, .agg l' => Ho l l'
 | .tuple l, .tuple l' => Ho l l'
 | .sb p e, .sb p' e' => p == p' && e.same e'
 | .si k e, .si k' e' => decide (k = k') && e.same e'
 | .ss e, .ss e' => e.same e'
 | .dat t e, .dat t' e' => Nat.beq t t' && e.same e'
 | .asl b es n nl, .asl b' es' n' nl' => Nat.beq b b' && Nat.beq es es' && n.same n' && nl.same nl'
 | .eslc e, .eslc e' => e.same e'
 | .nmap b e, .nmap b' e' => Nat.beq b b' && e.same e'
 | _, _ => false
termination_by structural a => a
def Ho : List AV → List AV → Bool
 | [], [] => true
 | a :: l, b :: m => BD a b && Ho l m
 | _, _ => false
termination_by structural l => l
end
def eqO {α : Type} (eq : α → α → Bool) : Option α → Option α → Bool
 | none, none => true
 | some a, some b => eq a b
 | _, _ => false
def eqT {α : Type} (eq : α → α → Bool) : T α → T α → Bool
 | .nil, .nil => true
 | .node v l r, .node v' l' r' => eqO eq v v' && eqT eq l l' && eqT eq r r'
 | _, _ => false
def Tq : List AP → List AP → Bool
 | [], [] => true
 | a :: l, b :: m => BD a.key b.key && BD a.val b.val && Nat.beq a.born b.born && Tq l m
 | _, _ => false
def S3 : Aq → Aq → Bool
 | .cells n c, .cells m d => Nat.beq n m && eqT BD c d
 | .map es k, .map es' k' => Nat.beq k k' && Tq es es'
 | .arr e x, .arr e' x' => Nat.beq e e' && x.same x'
 | .dmap k v x, .dmap k' v' x' => Nat.beq k k' && Nat.beq v v' && x.same x'
 | _, _ => false
def QF : T Aq → T Aq → Bool
 | .nil, _ => true
 | .node v l r, .node v' l' r' => (match v with
   | none => true
   | some x => (match v' with
    | some y => S3 x y
    | none => false)) && QF l l' && QF r r'
 | .node _ _ _, .nil => false
def KT (b : Nat) : List Nat → Bool
 | [] => false
 | c :: r => Nat.beq b c || KT b r
def XX (nx : Nat) (wr : List Nat) : List Nat → Bool
 | [] => true
 | b :: r => (Nat.ble nx b || KT b wr) && XX nx wr r
def lf {α : Type} (x : α) : T α := .node (some x) .nil .nil
def nd {α : Type} (x : α) (l r : T α) : T α := .node (some x) l r
def no {α : Type} (l r : T α) : T α := .node none l r
def Env.desc (E : Env) (t : TypeId) : Option TypeDesc :=
 match E.ty.get t with
 | some i => match i.desc with
  | .named _ u => match E.ty.get u with
   | some j => some j.desc
   | none => none
  | d => some d
 | none => none
def Env.size (E : Env) (t : TypeId) : Nat := match E.ty.get t with | some i => i.size | none => 0
def Env.szIs (E : Env) (t : TypeId) (n : Nat) : Bool := match E.ty.get t with | some i => Nat.beq i.size n | none => false
def Env.has (E : Env) (t : TypeId) : Bool := match E.ty.get t with | some _ => true | none => false
def Env.zero (E : Env) (t : TypeId) : Option AV :=
 match E.ty.get t with
 | some i => match i.zero with
  | some v => ofValue v
  | none => none
 | none => none
def EN (sz : TypeId → Nat → Bool) (rec_ : TypeId → Option (List Kd)) : List Field → Nat → Option (List Kd)
 | [], _ => some []
 | f :: r, off => match Nat.beq f.offset off, rec_ f.type with
  | true, some ks => match sz f.type ks.length, EN sz rec_ r (off + ks.length) with
   | true, some l => some (ks ++ l)
   | _, _ => none
  | _, _ => none
def OV : Nat → List Kd → List Kd
 | 0, _ => []
 | n + 1, ks => ks ++ OV n ks
def Jm (ar : Bool) (sz : TypeId → Nat → Bool) (rec_ : TypeId → Option (List Kd)) : Option TypeDesc → Option (List Kd)
 | some (.int k) => some [.int k]
 | some .bool => some [.bool]
 | some .string => some [.str]
 | some (.slice e) => some [.slice e]
 | some (.struct fs) => EN sz rec_ fs.toList 0
 | some (.array n e) => match ar, rec_ e with
  | true, some ks => match Nat.blt (n * ks.length) 200 with
   | true => some (OV n ks)
   | false => none
  | _, _ => none
 | _ => none
def DZ (ar : Bool) (desc : TypeId → Option TypeDesc) (sz : TypeId → Nat → Bool) : Nat → TypeId → Option (List Kd)
 | 0, _ => none
 | n + 1, t => match Jm ar sz (DZ ar desc sz n) (desc t) with
  | some l => match sz t l.length with
   | true => some l
   | false => none
  | none => none
def Env.kinds (E : Env) (t : TypeId) : Option (List Kd) := DZ true E.desc E.szIs 20 t
def Env.kinds0 (E : Env) (t : TypeId) : Option (List Kd) := DZ false E.desc E.szIs 20 t
inductive Res where
 | val (v : AV) (h : Aa)
 | enter (f : FuncId) (args : List AV) (h : Aa)
 | round (l : Nat) (args : List AV) (h : Aa)
 | defer (d : AD) (h : Aa)
 | recover (h : Aa)
 | panic (v : AV) (h : Aa)
 | bad (why : String)
 deriving Inhabited
def Aj (tmps : T AV) : Operand → AV
 | .tmp t => match tmps.get t with
  | some v => v
  | none => .top
 | .const v => match ofValue v with
  | some a => a
  | none => .top
 | .func f => .func (.func f) [] []
 | .global _ => .top
def Aa.new (h : Aa) (b : Aq) : Aa := { blk := h.blk.set h.nx b, nx := h.nx + 1, log := h.log }
def Aa.put (h : Aa) (r : Nat) (b : Aq) : Aa := { blk := h.blk.set r b, nx := h.nx, log := r :: h.log }
def Aa.strike (h : Aa) (r : Nat) : Aa := { blk := h.blk.del r, nx := h.nx, log := r :: h.log }
def BH (h : Aa) (l : List AV) : Aa := h.new (.cells l.length (.ofList l))
def Cx (h : Aa) (b off n : Nat) : Option (List AV) :=
 match h.blk.get b with
 | some (.cells sz c) => match Nat.ble (off + n) sz with
  | true => c.range off n
  | false => none
 | _ => none
def Fj : T AV → Nat → List AV → T AV
 | c, _, [] => c
 | c, off, v :: r => Fj (c.set off v) (off + 1) r
def AV.one : AV → Bool
 | .agg _ => false
 | .tuple _ => false
 | .top => false
 | _ => true
def El : List AV → Bool
 | [] => true
 | v :: r => match v.one with
  | true => El r
  | false => false
def storeN (h : Aa) (b off : Nat) (l : List AV) : Option Aa :=
 match h.blk.get b with
 | some (.cells n c) =>
  match Nat.ble (off + l.length) n && El l with
  | true => some (h.put b (.cells n (Fj c off l)))
  | false => none
 | _ => none
def HT : TypeDesc → Bool
 | .struct _ => true
 | .array _ _ => true
 | _ => false
def AX : List AV → Nat → List AV → List AV
 | l, _, [] => l
 | [], _, _ => []
 | x :: l, 0, v :: r => v :: AX l 0 r
 | x :: l, off + 1, r => x :: AX l off r
def Fs (place : Nat → Option (Nat × Nat)) : List AV → List (Nat × AV) → Option (List AV)
 | cells, [] => some cells
 | cells, (i, v) :: rest =>
  match place i with
  | none => none
  | some (off, size) =>
   match Nat.beq v.cells.length size && Nat.ble (off + size) cells.length && !v.isTop with
   | true => Fs place (AX cells off v.cells) rest
   | false => none
def BA (z : List AV) : Nat → List AV
 | 0 => []
 | n + 1 => z ++ BA z n
def CC (E : Env) (t : TypeId) (cs : List AV) (off : Nat) : Option AV :=
 match E.desc t with
 | some d => match HT d with
  | true => some (.agg ((cs.drop off).take (E.size t)))
  | false => cs[off]?
 | none => none
def strEq (l b l' b' : Nat) : Bool := Nat.beq l l' && Nat.beq b b'
def Ee : Nat → Nat → Nat → Nat → Nat → Bool
 | 0, _, _, _, _ => false
 | f + 1, la, a, lb, b =>
  match lb with
  | 0 => false
  | lb' + 1 => match la with
   | 0 => true
   | la' + 1 =>
    match Nat.blt (a % 256) (b % 256) with
    | true => true
    | false => match Nat.beq (a % 256) (b % 256) with
     | true => Ee f la' (a / 256) lb' (b / 256)
     | false => false
def eqFields (E : Env) (eq : TypeId → AV → AV → Option Bool) (xs ys : List AV) : List Field → Option Bool
 | [] => some true
 | f :: r =>
  match f.name == "_" with
  | true => none
  | false =>
   match CC E f.type xs f.offset, CC E f.type ys f.offset with
   | some a, some b => match eq f.type a b with
    | some true => eqFields E eq xs ys r
    | o => o
   | _, _ => none
def Is (E : Env) (eq : TypeId → AV → AV → Option Bool) (e : TypeId) (n : Nat) (xs ys : List AV) : Nat → Nat → Option Bool
 | 0, _ => some true
 | k + 1, i =>
  match CC E e xs (i * n), CC E e ys (i * n) with
  | some a, some b => match eq e a b with
   | some true => Is E eq e n xs ys k (i + 1)
   | o => o
  | _, _ => none
def aeq (E : Env) : Nat → TypeId → AV → AV → Option Bool
 | 0, _, _, _ => none
 | d + 1, t, x, y =>
  match E.desc t, x, y with
  | some .bool, .bool a, .bool b => some (a == b)
  | some (.int _), .int k a, .int k' b => match decide (k = k') with | true => some (a == b) | false => none
  | some .string, .str l a, .str l' b => some (strEq l a l' b)
  | some (.pointer _), .ptr0, .ptr0 => some true
  | some (.pointer _), .ptr0, .ptr _ _ => some false
  | some (.pointer _), .ptr _ _, .ptr0 => some false
  | some (.interface _), .nilIface, .nilIface => some true
  | some (.interface _), .nilIface, .iface _ _ => some false
  | some (.interface _), .iface _ _, .nilIface => some false
  | some (.interface _), .iface tx vx, .iface ty vy =>
   match Nat.beq tx ty with
   | false => some false
   | true => match E.ty.get tx with
    | some i => match i.comparable with
     | true => aeq E d tx vx vy
     | false => none
    | none => none
  | some (.struct fields), .agg xs, .agg ys => match E.P.stoodInHeld t with
   | true => none
   | false => eqFields E (aeq E d) xs ys fields.toList
  | some (.array len e), .agg xs, .agg ys => match E.has e with
   | true => Is E (aeq E d) e (E.size e) xs ys len 0
   | false => none
  | some (.slice _), .slice0, .slice0 => some true
  | some (.slice _), .slice0, .slice .. => some false
  | some (.slice _), .slice .., .slice0 => some false
  | some (.map _ _), .map0, .map0 => some true
  | some (.map _ _), .map0, .map _ => some false
  | some (.map _ _), .map _, .map0 => some false
  | some (.func ..), .nilFunc, .nilFunc => some true
  | some (.func ..), .nilFunc, .func .. => some false
  | some (.func ..), .func .., .nilFunc => some false
  | _, _, _ => none
def bits (k : IntKind) (x : Int) : Nat := (x % (2 ^ k.bits : Int)).toNat
def Dw (op : BinOp) (k : IntKind) (a b : Int) : Option AV :=
 match op with
 | .add => some (.int k (k.wrap (a + b)))
 | .sub => some (.int k (k.wrap (a - b)))
 | .mul => some (.int k (k.wrap (a * b)))
 | .quo => match b == 0 with | true => none | false => some (.int k (k.wrap (a.tdiv b)))
 | .rem => match b == 0 with | true => none | false => some (.int k (a.tmod b))
 | .and => some (.int k (k.wrap (Nat.land (bits k a) (bits k b) : Nat)))
 | .or => some (.int k (k.wrap (Nat.lor (bits k a) (bits k b) : Nat)))
 | .xor => some (.int k (k.wrap (Nat.xor (bits k a) (bits k b) : Nat)))
 | .eql => some (.bool (a == b))
 | .neq => some (.bool (a != b))
 | .lss => some (.bool (a < b))
 | .leq => some (.bool (a ≤ b))
 | .gtr => some (.bool (a > b))
 | .geq => some (.bool (a ≥ b))
 | _ => none
structure Val where
 d : Nat → D
 fn : Nat → D → D
def Da : Nat → Nat → List UInt8
 | 0, _ => []
 | n + 1, b => UInt8.ofNat (b % 256) :: Da n (b / 256)
def D.strEq (a b : D) : Bool := AE.strEq a.toStr.data.toList.length (AH a.toStr.data.toList) b.toStr.data.toList.length (AH b.toStr.data.toList)
def Ew : List Kd → List D → List D → Bool
 | [], _, _ => true
 | .int _ :: ks, a :: l, b :: m => (a.toInt == b.toInt) && Ew ks l m
 | .bool :: ks, a :: l, b :: m => (a.toBool == b.toBool) && Ew ks l m
 | .str :: ks, a :: l, b :: m => D.strEq a b && Ew ks l m
 | _, _, _ => false
def Hh (ks : List Kd) (k : List D) : List D → Nat → Int
 | [], _ => -1
 | r :: rs, i => match Ew ks r.cells k with
  | true => i
  | false => Hh ks k rs (i + 1)
def Ab (V : Val) : SE → D
 | .c n => .int n
 | .var i => V.d i
 | .lenS a => .int ((Ab V a).toStr.data.toList.length : Nat)
 | .lenL a => .int ((Ab V a).rows.length : Nat)
 | .arith op k a b => .int (match Dw op k (Ab V a).toInt (Ab V b).toInt with
  | some (.int _ n) => n
  | _ => 0)
 | .conv k a => .int (k.wrap (Ab V a).toInt)
 | .lss a b => .bool (decide ((Ab V a).toInt < (Ab V b).toInt))
 | .eql a b => .bool ((Ab V a).toInt == (Ab V b).toInt)
 | .eqS a l b => .bool (strEq (Ab V a).toStr.data.toList.length (AH (Ab V a).toStr.data.toList) l b)
 | .eqSS a b => .bool (D.strEq (Ab V a) (Ab V b))
 | .isNil a => .bool (Ab V a).isNil
 | .bc b => .bool b
 | .neg a => .bool (!(Ab V a).toBool)
 | .and a b => .bool ((Ab V a).toBool && (Ab V b).toBool)
 | .nilIs a b => .slc (Ab V b).toBool (Ab V a).rows
 | .strc l b => .str ⟨(Da l b).toArray⟩
 | .strAt a i => .int (((Ab V a).toStr.data.toList[(Ab V i).toInt.toNat]?).getD 0).toNat
 | .strCat a b => .str ((Ab V a).toStr ++ (Ab V b).toStr)
 | .strSub a lo hi => .str ((Ab V a).toStr.extract (Ab V lo).toInt.toNat (Ab V hi).toInt.toNat)
 | .cell a i j => ((Ab V a).rows.getD (Ab V i).toInt.toNat default).cells.getD j default
 | .sel a j => (Ab V a).cells.getD j default
 | .nilL => .slc true []
 | .emptyL => .slc false []
 | .snoc a r => .slc false ((Ab V a).rows ++ [Ab V r])
 | .upd a i j x => .slc (Ab V a).isNil ((Ab V a).rows.modify (Ab V i).toInt.toNat fun r => .row (r.cells.set j (Ab V x)))
 | .rep n r => .slc false (List.replicate (Ab V n).toInt.toNat (Ab V r))
 | .cat a b => .slc ((Ab V a).isNil && (Ab V b).rows.isEmpty) ((Ab V a).rows ++ (Ab V b).rows)
 | .sub a lo hi => .slc (Ab V a).isNil (((Ab V a).rows.drop (Ab V lo).toInt.toNat).take ((Ab V hi).toInt.toNat - (Ab V lo).toInt.toNat))
 | .rnil => .row []
 | .rcons x r => .row (Ab V x :: (Ab V r).cells)
 | .app f x => V.fn f (Ab V x)
 | .bytes a => .slc false ((Ab V a).toStr.data.toList.map fun b => .row [.int b.toNat])
 | .ofBytes a => .str ⟨((Ab V a).rows.map fun r => UInt8.ofNat (r.cells.getD 0 default).toInt.toNat).toArray⟩
 | .mIdx ks a k => .int (Hh ks (Ab V k).cells (Ab V a).rows 0)
 | .rmv a i => .slc (Ab V a).isNil ((Ab V a).rows.eraseIdx (Ab V i).toInt.toNat)
def Ad (V : Val) (e : SE) : Int := (Ab V e).toInt
def Ah (V : Val) (e : SB) : Bool := (Ab V e).toBool
def AT (V : Val) (e : SE) : ByteArray := (Ab V e).toStr
class Facts where
 facts : List (SB × Bool)
class Vals where
 V : Val
 K : TypeId → Option (List Kd)
 R : List Item
 hR : ∀ d b r a k, R ≠ .call d b r a :: k
class Unk extends Facts, Vals where
 ok : ∀ e b, (e, b) ∈ facts → Ah V e = b
def Pu : Option Int → Option Int → Option Int
 | some a, some b => match decide (a ≤ b) with | true => some b | false => some a
 | some a, none => some a
 | none, b => b
def Ti : Option Int → Option Int → Option Int
 | some a, some b => match decide (a ≤ b) with | true => some a | false => some b
 | some a, none => some a
 | none, b => b
def QR (e : SE) : SB × Bool → Option Int
 | (.lss a (.c m), false) => match a.same e with | true => some m | false => none
 | (.lss (.c m) a, true) => match a.same e with | true => some (m + 1) | false => none
 | (.eql a (.c m), true) => match a.same e with | true => some m | false => none
 | _ => none
def Rf (e : SE) : SB × Bool → Option Int
 | (.lss a (.c m), true) => match a.same e with | true => some (m - 1) | false => none
 | (.lss (.c m) a, false) => match a.same e with | true => some m | false => none
 | (.eql a (.c m), true) => match a.same e with | true => some m | false => none
 | _ => none
def CQ (e : SE) : List (SB × Bool) → Option Int
 | [] => none
 | p :: r => Pu (QR e p) (CQ e r)
def CR (e : SE) : List (SB × Bool) → Option Int
 | [] => none
 | p :: r => Ti (Rf e p) (CR e r)
def Cm : SE → SE
 | .upd a _ _ _ => Cm a
 | .nilIs a _ => Cm a
 | x => x
def Kq (n y : SE) : Bool := match n with
 | .lenL x => (Cm x).same (Cm y)
 | _ => false
def Gt : SE → Option Nat
 | .nilL => some 0
 | .emptyL => some 0
 | .snoc a _ => match Gt a with
  | some n => some (n + 1)
  | none => none
 | .nilIs a _ => Gt a
 | _ => none
def Oz (k : IntKind) (lo hi : Option Int) : Bool := match lo, hi with
 | some l, some h => decide (k.min ≤ l) && decide (h ≤ k.max)
 | _, _ => false
def bnd (F : List (SB × Bool)) : SE → Option Int × Option Int
 | .c n => (some n, some n)
 | .lenS i => (Pu (some 0) (CQ (.lenS i) F), CR (.lenS i) F)
 | .lenL i => match Gt i with
  | some n => (some (n : Int), some (n : Int))
  | none => (Pu (some 0) (CQ (.lenL i) F), CR (.lenL i) F)
 | .conv k a => match bnd F a with
  | (lo, hi) => match Oz k lo hi with
   | true => (Pu lo (CQ (.conv k a) F), Ti hi (CR (.conv k a) F))
   | false => (Pu (some k.min) (CQ (.conv k a) F), Ti (some k.max) (CR (.conv k a) F))
 | .arith op k a b => match op, b with
  | .rem, .c m => match bnd F a with
   | (some l, _) => match decide (0 ≤ l) && decide (0 < m) with
    | true => (Pu (some 0) (CQ (.arith op k a b) F), Ti (some (m - 1)) (CR (.arith op k a b) F))
    | false => (CQ (.arith op k a b) F, CR (.arith op k a b) F)
   | _ => (CQ (.arith op k a b) F, CR (.arith op k a b) F)
  | _, _ => (CQ (.arith op k a b) F, CR (.arith op k a b) F)
 | e => (CQ e F, CR e F)
def Id (e : SB) : List (SB × Bool) → Option Bool
 | [] => none
 | (x, b) :: r => match e.same x with
  | true => some b
  | false => Id e r
def ltO : Option Int → Option Int → Bool
 | some a, some b => decide (a < b)
 | _, _ => false
def leO : Option Int → Option Int → Bool
 | some a, some b => decide (a ≤ b)
 | _, _ => false
def Oj (F : List (SB × Bool)) (e : SB) : Option Bool :=
 match e with
  | .bc b => some b
  | .lss a b => match ltO (bnd F a).2 (bnd F b).1 with
   | true => some true
   | false => match leO (bnd F b).2 (bnd F a).1 with
    | true => some false
    | false => none
  | .eql a b => match ltO (bnd F a).2 (bnd F b).1 || ltO (bnd F b).2 (bnd F a).1 with
   | true => some false
   | false => match a.same b with
    | true => some true
    | false => none
  | _ => none
def DD (F : List (SB × Bool)) : SB → Option Bool
 | .neg a => match Id a F with
  | some b => some (!b)
  | none => match DD F a with
   | some b => some (!b)
   | none => none
 | .and a b => match (match Id a F with
   | some c => some c
   | none => DD F a) with
  | some false => some false
  | some true => (match Id b F with
   | some c => some c
   | none => DD F b)
  | none => match (match Id b F with
   | some c => some c
   | none => DD F b) with
   | some false => some false
   | _ => none
 | e => Oj F e
def AW (F : List (SB × Bool)) (e : SB) : Option Bool :=
 match Id e F with
 | some b => some b
 | none => DD F e
def mkB [U : Facts] (pos : Bool) (e : SB) : AV :=
 match AW U.facts e with
 | some b => .bool (b == pos)
 | none => .sb pos e
def mkI [U : Facts] (k : IntKind) (e : SE) : AV :=
 match bnd U.facts e with
 | (some l, some h) => match l == h with
  | true => .int k l
  | false => .si k e
 | _ => .si k e
def toI : AV → Option (IntKind × SE)
 | .int k n => some (k, .c n)
 | .si k e => some (k, e)
 | _ => none
def Y1 : SE → Bool
 | .c n => !(n == 0)
 | _ => false
def Sb [U : Facts] (b : SE) : Bool := Y1 b || (match AW U.facts (.eql b (.c 0)) with
 | some false => true
 | _ => false)
def bo [Facts] (op : BinOp) (k : IntKind) (a b : SE) : Option AV :=
 match op with
 | .add => some (mkI k (.arith .add k a b))
 | .sub => some (mkI k (.arith .sub k a b))
 | .mul => some (mkI k (.arith .mul k a b))
 | .quo => match Sb b with | true => some (mkI k (.arith .quo k a b)) | false => none
 | .rem => match Sb b with | true => some (mkI k (.arith .rem k a b)) | false => none
 | .eql => some (mkB true (.eql a b))
 | .neq => some (mkB false (.eql a b))
 | .lss => some (mkB true (.lss a b))
 | .leq => some (mkB false (.lss b a))
 | .gtr => some (mkB true (.lss b a))
 | .geq => some (mkB false (.lss a b))
 | _ => none
def UN [Facts] (op : BinOp) (e : SB) : Option AV :=
 match op with
 | .eql => some (mkB true e)
 | .neq => some (mkB false e)
 | _ => none
def Z1 [Facts] (op : BinOp) (x y : AV) : Option AV :=
 match x, y with
 | .ss a, .ss c => UN op (.eqSS a c)
 | .ss a, .str l b => UN op (.eqS a l b)
 | .str l b, .ss a => UN op (.eqS a l b)
 | _, _ => match toI x, toI y with
  | some (k, a), some (k', b) => match decide (k = k') with
   | true => bo op k a b
   | false => none
  | _, _ => none
def PW [U : Facts] : AV → Option (Bool ⊕ (Bool × SB))
 | .bool b => some (.inl b)
 | .sb p e => match AW U.facts e with
  | some c => some (.inl (c == p))
  | none => some (.inr (p, e))
 | _ => none
def XR : AV → Option SE
 | .map0 => some (.bc true)
 | .map _ => some (.bc false)
 | .nmap _ nl => some nl
 | _ => none
def VF [U : Facts] (v : AV) : AV := match v with
 | .nmap b nl => match AW U.facts nl with
  | some true => .map0
  | some false => .map b
  | none => .nmap b nl
 | v => v
def XD : AV → Option SE
 | .slice0 => some (.bc true)
 | .slice _ _ _ _ => some (.bc false)
 | .dat _ x => some (.isNil x)
 | .asl _ _ _ nl => some nl
 | .eslc nl => some nl
 | _ => none
def BV (op : BinOp) (p : Bool) : Option Bool := match op with
 | .eql => some p
 | .neq => some (!p)
 | _ => none
def eqV [Facts] (d : Option TypeDesc) (op : BinOp) (x y : AV) : Option AV :=
 match d with
 | some .bool => match PW x, PW y with
  | some (.inl a), some (.inl b) => (BV op (a == b)).map .bool
  | some (.inr (p, e)), some (.inl b) => (BV op (p == b)).map fun q => .sb q e
  | some (.inl b), some (.inr (p, e)) => (BV op (p == b)).map fun q => .sb q e
  | _, _ => none
 | some (.slice _) => match x, y with
  | .slice0, _ => match XD y with
   | some e => (BV op true).map fun q => mkB q e
   | none => none
  | _, .slice0 => match XD x with
   | some e => (BV op true).map fun q => mkB q e
   | none => none
  | _, _ => none
 | some (.map _ _) => match x, y with
  | .map0, _ => match XR y with
   | some e => (BV op true).map fun q => mkB q e
   | none => none
  | _, .map0 => match XR x with
   | some e => (BV op true).map fun q => mkB q e
   | none => none
  | _, _ => none
 | _ => none
def AV.isSym : AV → Bool
 | .sb .. => true
 | .si .. => true
 | .ss _ => true
 | .dat _ _ => true
 | .dptr _ _ _ _ => true
 | .asl _ _ _ _ => true
 | .eslc _ => true
 | .aptr _ _ _ _ => true
 | .nmap _ _ => true
 | _ => false
def Ot (op : BinOp) (l a l' b : Nat) : Option AV :=
 match op with
 | .add => match Nat.ble (l + l') 4611686018427387904 with | true => some (.str (l + l') (a + b * 2 ^ (8 * l))) | false => none
 | .eql => some (.bool (strEq l a l' b))
 | .neq => some (.bool (!strEq l a l' b))
 | .lss => some (.bool (Ee (l + 1) l a l' b))
 | .leq => some (.bool (Ee (l + 1) l a l' b || strEq l a l' b))
 | .gtr => some (.bool (!(Ee (l + 1) l a l' b || strEq l a l' b)))
 | .geq => some (.bool (!Ee (l + 1) l a l' b))
 | _ => none
def LZ (op : BinOp) (k : IntKind) (a b : Int) : Option AV :=
 match decide (b < 0) with
 | true => none
 | false =>
  let n := min b.toNat k.bits
  match op with
  | .shl => some (.int k (k.wrap (a * 2 ^ n)))
  | .shr => some (.int k (a.fdiv (2 ^ n)))
  | _ => none
def QQ (E : Env) (op : BinOp) (t : TypeId) (x y : AV) : Option AV :=
 match x, y with
 | .int k a, .int k' b =>
  match op with
  | .shl => LZ .shl k a b
  | .shr => LZ .shr k a b
  | _ => match decide (k = k') with
   | true => Dw op k a b
   | false => none
 | .str l a, .str l' b => Ot op l a l' b
 | .agg xs, .agg ys =>
  match E.P.eqGuardType E.P.depth t with
  | true => none
  | false => match op with
   | .eql => (aeq E 10000 t x y).map .bool
   | .neq => (aeq E 10000 t x y).map fun b => .bool (!b)
   | _ => none
 | .nilIface, .nilIface => none
 | _, _ => match op with
  | .eql => (aeq E 10000 t x y).map .bool
  | .neq => (aeq E 10000 t x y).map fun b => .bool (!b)
  | _ => none
def unA (op : UnOp) (x : AV) : Option AV :=
 match op, x with
 | .not, .sb pos e => some (.sb (!pos) e)
 | .neg, .int k n => some (.int k (k.wrap (0 - n)))
 | .not, .bool b => some (.bool !b)
 | _, _ => none
def unB [Facts] (op : UnOp) (x : AV) : Option AV :=
 match op, x with
 | .neg, .si k e => some (mkI k (.arith .sub k (.c 0) e))
 | _, _ => unA op x
def bytesOf : Nat → Nat → List AV
 | 0, _ => []
 | n + 1, b => .int .u8 (b % 256 : Nat) :: bytesOf n (b / 256)
def J3 : List AV → Option Nat
 | [] => some 0
 | .int .u8 (.ofNat n) :: r => match J3 r with
  | some m => some (n % 256 + 256 * m)
  | none => none
 | _ :: _ => none
def SD [Facts] (E : Env) (src dst : TypeId) (x : AV) (h : Aa) : Option (AV × Aa) :=
 match E.desc src, E.desc dst, x with
 | some _, some (.int k), .int _ n => some (.int k (k.wrap n), h)
 | some _, some (.int k), .si _ e => some (mkI k (.conv k e), h)
 | some _, some .string, .ss i => some (.ss i, h)
 | some _, some .string, .str l b => some (.str l b, h)
 | some _, some (.slice e), .str l b =>
  match E.desc e with
  | some (.int .u8) => some (.slice h.nx 0 l 1, h.new (.cells l (.ofList (bytesOf l b))))
  | _ => none
 | some (.slice _), some (.slice e), .slice b off len es => match E.desc e with
  | some (.int .u8) => match Nat.beq src dst, len, h.blk.get b with
   | true, _ + 1, some (.cells _ _) => some (.slice b off len es, h)
   | _, _, _ => none
  | _ => none
 | some (.slice e), some .string, .slice0 => match E.desc e with
  | some (.int .u8) => some (.str 0 0, h)
  | _ => none
 | some (.slice e), some .string, .slice b off len _ => match E.desc e with
  | some (.int .u8) => match Cx h b off len with
   | some l => match J3 l with
    | some n => some (.str len n, h)
    | none => none
   | none => none
  | _ => none
 | _, _, _ => none
def Dj : AV → Option Nat
 | .int _ (.ofNat n) => some n
 | _ => none
def Gd (x : Option AV) (dflt : Nat) : Option Nat :=
 match x with
 | some v => Dj v
 | none => some dflt
def Dl (n : Nat) (lo hi mx : Option AV) : Option (Nat × Nat) :=
 match Gd mx n with
 | none => none
 | some m => match Gd hi n, Gd lo 0 with
  | some h, some l => match Nat.ble l h && Nat.ble h m && Nat.ble m n with
   | true => some (l, h)
   | false => none
  | _, _ => none
def Ry (E : Env) (t : TypeId) (x : AV) (lo hi mx : Option AV) (h : Aa) : Option AV :=
 match E.desc t, x with
 | some .string, .str l b =>
  match mx with
  | some _ => none
  | none => match Dl l lo hi none with
   | some (ll, hh) => some (.str (hh - ll) ((b / 2 ^ (8 * ll)) % 2 ^ (8 * (hh - ll))))
   | none => none
 | some (.slice e), .slice0 =>
  match Dl 0 lo hi mx, E.has e with
  | some _, true => some .slice0
  | _, _ => none
 | some (.slice e), .slice b off len es =>
  match Dl len lo hi mx with
  | some (ll, hh) => match E.szIs e es with
   | true => some (.slice b (off + ll * es) (hh - ll) es)
   | false => none
  | none => none
 | some (.array n e), .ptr b off =>
  match Dl n lo hi mx, E.has e, h.blk.get b with
  | some (ll, hh), true, some (.cells sz _) => match Nat.ble (off + n * E.size e) sz with
   | true => some (.slice b (off + ll * E.size e) (hh - ll) (E.size e))
   | false => none
  | _, _, _ => none
 | _, _ => none
def Hv (E : Env) (t : TypeId) (x i : AV) : Option AV :=
 match E.desc t, x, Dj i with
 | some (.slice e), .slice b off len es, some n => match Nat.blt n len && E.szIs e es with
  | true => some (.ptr b (off + n * es))
  | false => none
 | some (.array len e), .ptr b off, some n => match Nat.blt n len && E.has e with
  | true => some (.ptr b (off + n * E.size e))
  | false => none
 | _, _, _ => none
def QS (E : Env) (t : TypeId) (x i : AV) : Option AV :=
 match E.desc t, x, Dj i with
 | some .string, .str l b, some n => match Nat.blt n l with
  | true => some (.int .u8 ((b / 2 ^ (8 * n)) % 256 : Nat))
  | false => none
 | some (.array len e), .agg cs, some n => match Nat.blt n len with
  | true => CC E e cs (n * E.size e)
  | false => none
 | _, _, _ => none
def HB (E : Env) (t : TypeId) (x : AV) (f : Nat) : Option AV :=
 match E.desc t, x with
 | some (.struct fs), .ptr b off => match fs.toList[f]? with
  | some fd => match E.size fd.type with
   | 0 => none
   | _ => some (.ptr b (off + fd.offset))
  | none => none
 | _, _ => none
def QZ (E : Env) (t : TypeId) (x : AV) (f : Nat) : Option AV :=
 match E.desc t, x with
 | some (.struct fs), .agg cs => match fs.toList[f]? with
  | some fd => CC E fd.type cs fd.offset
  | none => none
 | _, _ => none
def Qc (E : Env) (t : TypeId) (x : AV) (h : Aa) : Option AV :=
 match E.desc t, x with
 | some d, .ptr b off => match HT d with
  | true => (Cx h b off (E.size t)).map .agg
  | false => match h.blk.get b with
   | some (.cells sz c) => match Nat.blt off sz with
    | true => c.get off
    | false => none
   | _ => none
 | _, _ => none
def Ob (E : Env) (t : TypeId) (x v : AV) (h : Aa) : Option Aa :=
 match x with
 | .ptr b off => match E.szIs t v.cells.length with
  | true => storeN h b off v.cells
  | false => none
 | _ => none
def Lh (h : Aa) (es n : Nat) : AV → Option (List AV)
 | .slice0 => some []
 | .slice b off _ es' => match Nat.beq es es' with
  | true => Cx h b off (n * es)
  | false => none
 | .str l b => match Nat.beq es 1 with
  | true => some ((bytesOf l b).take n)
  | false => none
 | _ => none
def GR : AV → Option Nat
 | .slice0 => some 0
 | .slice _ _ n _ => some n
 | .str l _ => some l
 | _ => none
def Dc (inf : TypeInfo) (s : AV) (m : Nat) (news : List AV) (h : Aa) : Option (AV × Aa) :=
 match s with
 | .slice0 => match Nat.ble m 4611686018427387904 && Nat.ble (m * inf.bytes) 140737488355328 with
  | false => none
  | true => match m with
   | 0 => some (.slice0, h)
   | _ => some (.slice h.nx 0 m inf.size, BH h news)
 | .slice b off n es => match Nat.beq inf.size es && El news && Nat.ble (n + m) 4611686018427387904 && Nat.ble ((n + m) * inf.bytes) 140737488355328 with
  | false => none
  | true => match m with
   | 0 => some (.slice b off n es, h)
   | _ => match h.blk.get b with
    | some (.cells sz c) => match Nat.beq off 0 && Nat.beq (n * es) sz with
     | true => some (.slice h.nx 0 (n + m) es, (h.strike b).new (.cells (n * es + news.length) (Fj c (n * es) news)))
     | false => match Cx h b off (n * es) with
      | none => none
      | some olds => some (.slice h.nx 0 (n + m) es, (h.strike b).new (.cells (n * es + news.length) (.ofList (olds ++ news))))
    | _ => none
 | _ => none
def Io (E : Env) (t t' : TypeId) (s x : AV) (h : Aa) : Option (AV × Aa) :=
 match E.desc t with
 | some (.slice e) => match E.ty.get e with
  | none => none
  | some inf => match E.zero e with
   | none => none
   | some z => match Nat.beq z.cells.length inf.size with
    | false => none
    | true => match E.desc t' with
     | some (.int _) => match Dj x with
      | none => none
      | some m => match Nat.ble m 1048576 && Nat.ble (m * inf.bytes) 140737488355328 with
       | true => Dc inf s m (BA z.cells m) h
       | false => none
     | some (.slice _) => match GR x with
      | none => none
      | some m => match Lh h inf.size m x with
       | none => none
       | some news => Dc inf s m news h
     | some .string => match GR x with
      | none => none
      | some m => match Lh h inf.size m x with
       | none => none
       | some news => Dc inf s m news h
     | _ => none
 | _ => none
def RN (E : Env) (t : TypeId) (d x : AV) (h : Aa) : Option (AV × Aa) :=
 match E.desc t with
 | some (.slice e) => match E.ty.get e with
  | none => none
  | some inf =>
  match GR d, GR x with
  | some n, some m => match Lh h inf.size (min m n) x with
   | none => none
   | some l => match d with
    | .slice0 => some (.int .i64 0, h)
    | .slice b off _ es' => match Nat.beq inf.size es' with
     | true => match l with
      | [] => some (.int .i64 (min m n : Nat), h)
      | _ => match storeN h b off l with
       | some h' => some (.int .i64 (min m n : Nat), h')
       | none => none
     | false => none
    | _ => none
  | _, _ => none
 | _ => none
def DQ (E : Env) (t : TypeId) (k : AV) : List AP → Nat → Option (Option (Nat × AV))
 | [], _ => some none
 | e :: r, i => match aeq E 10000 t k e.key with
  | some true => some (some (i, e.val))
  | some false => DQ E t k r (i + 1)
  | none => none
def Jp (E : Env) (ok : TypeId → AV → Bool) (cs : List AV) : List Field → Bool
 | [] => true
 | f :: r => match CC E f.type cs f.offset with
  | some a => match ok f.type a with
   | true => Jp E ok cs r
   | false => false
  | none => false
def Lt (E : Env) (ok : TypeId → AV → Bool) (e : TypeId) (cs : List AV) : Nat → Nat → Bool
 | 0, _ => true
 | k + 1, i => match CC E e cs (i * E.size e) with
  | some a => match ok e a with
   | true => Lt E ok e cs k (i + 1)
   | false => false
  | none => false
def B0 (E : Env) : Nat → TypeId → AV → Bool
 | 0, _, _ => false
 | d + 1, t, v => match E.desc t with
  | some (.int _) => true
  | some .string => true
  | some .bool => true
  | some (.struct fs) => match v with
   | .agg cs => Jp E (B0 E d) cs fs.toList
   | _ => false
  | some (.array n e) => match v with
   | .agg cs => match E.has e with
    | true => Lt E (B0 E d) e cs n 0
    | false => false
   | _ => false
  | _ => false
def Mo (ok : Bool) (v : AV) (b : Bool) : AV := match ok with | true => .tuple [v, .bool b] | false => v
def Om (E : Env) (t : TypeId) (m k : AV) (ok : Bool) (h : Aa) : Option AV :=
 match E.desc t with
 | some (.map kt et) =>
  match B0 E 20 kt k, E.zero et with
  | true, some z =>
   match m with
   | .map0 => some (Mo ok z false)
   | .map r => match h.blk.get r with
    | some (.map es _) => match DQ E kt k es 0 with
     | some (some (_, v)) => some (Mo ok v true)
     | some none => some (Mo ok z false)
     | none => none
    | _ => none
   | _ => none
  | _, _ => none
 | _ => none
def D9 : AV → AV → Bool
 | .bool a, .bool b => match a, b with
  | true, true => true
  | false, false => true
  | _, _ => false
 | .int k a, .int k' b => match decide (k = k') with
  | true => a == b
  | false => false
 | .str l a, .str l' b => strEq l a l' b
 | _, _ => false
def I4 : List AV → List AV → Bool
 | [], [] => true
 | a :: l, b :: m => match D9 a b with
  | true => I4 l m
  | false => false
 | _, _ => false
def Gw : AV → AV → Bool
 | .agg l, .agg m => I4 l m
 | a, b => D9 a b
def setVal : List AP → Nat → AV → AV → List AP
 | [], _, _, _ => []
 | e :: r, 0, k, v => { e with key := k, val := v } :: r
 | e :: r, i + 1, k, v => e :: setVal r i k v
def H9 (E : Env) (t : TypeId) (m k v : AV) (h : Aa) : Option Aa :=
 match E.desc t with
 | some (.map kt _) =>
  match B0 E 20 kt k with
  | true => match m with
   | .map r => match h.blk.get r with
    | some (.map es clock) => match DQ E kt k es 0 with
     | some (some (i, _)) => match es[i]? with
      | some e => match Gw k e.key with
       | true => some (h.put r (.map (setVal es i k v) clock))
       | false => none
      | none => none
     | some none => some (h.put r (.map (es ++ [{ key := k, val := v, born := clock }]) (clock + 1)))
     | none => none
    | _ => none
   | _ => none
  | false => none
 | _ => none
def Km (E : Env) (t : TypeId) (m k : AV) (h : Aa) : Option Aa :=
 match E.desc t with
 | some (.map kt _) =>
  match B0 E 20 kt k with
  | true => match m with
   | .map0 => some h
   | .map r => match h.blk.get r with
    | some (.map es clock) => match DQ E kt k es 0 with
     | some (some (i, _)) => some (h.put r (.map (es.eraseIdx i) clock))
     | some none => some (h.put r (.map es clock))
     | none => none
    | _ => none
   | _ => none
  | false => none
 | _ => none
def QN (E : Env) (t : TypeId) (m k : AV) (h : Aa) : Option (AV × Aa) :=
 match E.desc t with
 | some (.map kt et) =>
  match B0 E 20 kt k, E.zero et with
  | true, some z => match m with
   | .map r => match h.blk.get r with
    | some (.map es clock) => match DQ E kt k es 0 with
     | some (some (i, v)) => match es[i]? with
      | some e => match Gw k e.key with
       | true => some (.tuple [v, .int .i64 e.born], h.put r (.map (setVal es i k e.val) clock))
       | false => none
      | none => none
     | some none => some (.tuple [z, .int .i64 clock], (h.put r (.map (es ++ [{ key := k, val := z, born := clock }]) (clock + 1))))
     | none => none
    | _ => none
   | _ => none
  | _, _ => none
 | _ => none
def Dy : List AP → Nat → AV → Option (List AP)
 | [], _, _ => none
 | e :: r, n, v => match Nat.beq e.born n with
  | true => some ({ e with val := v } :: r)
  | false => match Dy r n v with
   | some r' => some (e :: r')
   | none => none
def GG (m st v : AV) (h : Aa) : Option Aa :=
 match m, Dj st with
 | .map r, some n => match h.blk.get r with
  | some (.map es clock) => match Dy es n v with
   | some es' => some (h.put r (.map es' clock))
   | none => none
  | _ => none
 | _, _ => none
def QA (E : Env) (t : TypeId) (x : AV) (h : Aa) : Option (AV × Aa) :=
 match E.desc t, x with
 | some (.map _ _), .map0 => some (.ptr h.nx 0, h.new (.mapIter none 0 [] 0))
 | some (.map _ _), .map m => match h.blk.get m with
  | some (.map _ clock) => some (.ptr h.nx 0, h.new (.mapIter (some m) clock [] clock))
  | _ => none
 | _, _ => none
def VY (it : AV) (isString : Bool) (h : Aa) : Option (AV × Aa) :=
 match it with
 | .ptr r 0 => match h.blk.get r, isString with
  | some (.mapIter none _ _ _), false => some (.tuple [.bool false], h)
  | some (.mapIter (some m) since seen last), false => match h.blk.get m with
   | some (.map [] _) => some (.tuple [.bool false], h)
   | some (.map [e] clock) => match Nat.blt e.born since && Nat.blt e.born last, seen with
    | true, [] => some (.tuple [.bool true, e.key, e.val], (h.put r (.mapIter (some m) since [e.born] clock)))
    | true, [n] => match Nat.beq n e.born with
     | true => some (.tuple [.bool false], h)
     | false => none
    | _, _ => none
   | _ => none
  | _, _ => none
 | _ => none
def HP (it : AV) (h : Aa) : Option AV :=
 match it with
 | .ptr r 0 => match h.blk.get r with
  | some (.mapIter (some m) _ [n] stepped) => match h.blk.get m with
   | some (.map [e] clock) => match Nat.beq clock stepped && Nat.beq e.born n with
    | true => some (.tuple [e.key, e.val])
    | false => none
   | _ => none
  | _ => none
 | _ => none
def ZC [Facts] (E : Env) (t : TypeId) (x : AV) (h : Aa) : Option AV :=
 match E.desc t, x with
 | some .string, .str l _ => some (.int .i64 l)
 | some .string, .ss i => some (mkI .i64 (.lenS i))
 | some (.slice _), .dat _ x => some (mkI .i64 (.lenL x))
 | some (.slice _), .asl _ _ n _ => some (mkI .i64 n)
 | some (.slice _), .eslc _ => some (.int .i64 0)
 | some (.array n _), _ => some (.int .i64 n)
 | some (.slice _), .slice0 => some (.int .i64 0)
 | some (.slice _), .slice _ _ n _ => some (.int .i64 n)
 | some (.map _ _), .map0 => some (.int .i64 0)
 | some (.map _ _), .map r => match h.blk.get r with
  | some (.map es _) => some (.int .i64 es.length)
  | some (.dmap _ _ x) => some (mkI .i64 (.lenL x))
  | _ => none
 | _, _ => none
def IS (k : IntKind) (x : Int) : List AV → Option AV
 | [] => some (.int k x)
 | .int _ y :: r => IS k (if y > x then y else x) r
 | _ => none
def IT (k : IntKind) (x : Int) : List AV → Option AV
 | [] => some (.int k x)
 | .int _ y :: r => IT k (if y < x then y else x) r
 | _ => none
def fH : List AV → Option AV
 | .int k x :: r => IS k x r
 | _ => none
def fh : List AV → Option AV
 | .int k x :: r => IT k x r
 | _ => none
def MB [U : Facts] (k : IntKind) : SE → List AV → Option AV
 | x, [] => some (mkI k x)
 | x, y :: r => match toI y with
  | some (_, b) => match AW U.facts (.lss x b) with
   | some true => MB k b r
   | some false => MB k x r
   | none => none
  | none => none
def Mx [U : Facts] (k : IntKind) : SE → List AV → Option AV
 | x, [] => some (mkI k x)
 | x, y :: r => match toI y with
  | some (_, b) => match AW U.facts (.lss b x) with
   | some true => Mx k b r
   | some false => Mx k x r
   | none => none
  | none => none
def V1 [Facts] : List AV → Option AV
 | y :: r => match toI y with
  | some (k, a) => MB k a r
  | none => none
 | [] => none
def VQ [Facts] : List AV → Option AV
 | y :: r => match toI y with
  | some (k, a) => Mx k a r
  | none => none
 | [] => none
def orA (a b : Option AV) : Option AV := match a with
 | some v => some v
 | none => b
def Me [U : Facts] (e : SB) : Bool := match AW U.facts e with
 | some true => true
 | _ => false
def QP [U : Facts] (e : SB) : Bool := match AW U.facts e with
 | some false => true
 | _ => false
def inR [Facts] (i n : SE) : Bool := QP (.lss i (.c 0)) && Me (.lss i n)
def Js [Facts] (x i : SE) (j : Nat) : Kd → AV
 | .int k => match decide (k = .i64) with
  | true => mkI k (.cell x i j)
  | false => mkI k (.conv k (.cell x i j))
 | .bool => mkB true (.cell x i j)
 | .str => .ss (.cell x i j)
 | .slice e => .dat e (.cell x i j)
def Hb [Facts] (x i : SE) (ks : List Kd) : Nat → Nat → Option (List AV)
 | _, 0 => some []
 | j, n + 1 => match ks[j]?, Hb x i ks (j + 1) n with
  | some k, some l => some (Js x i j k :: l)
  | _, _ => none
def Kp [Facts] (E : Env) (t : TypeId) (ks : List Kd) (y i : SE) (off : Nat) : Option AV :=
 match E.desc t with
 | some d => match HT d with
  | true => match Hb y i ks off (E.size t) with
   | some l => some (.agg l)
   | none => none
  | false => match ks[off]? with
   | some k => some (Js y i off k)
   | none => none
 | none => none
def Wb [Facts] (E : Env) (t : TypeId) (x : AV) (h : Aa) : Option AV :=
 match x with
 | .dptr e y i off => match E.kinds e with
  | some ks => Kp E t ks y i off
  | none => none
 | .aptr b es i off => match h.blk.get b with
  | some (.arr e y) => match E.kinds e with
   | some ks => match Nat.beq es ks.length && inR i (.lenL (Cm y)) with
    | true => Kp E t ks y i off
    | false => none
   | none => none
  | _ => none
 | _ => Qc E t x h
def HC (E : Env) (t : TypeId) (x : AV) (f : Nat) : Option AV :=
 match x with
 | .dptr e y i off => match E.desc t, E.kinds e with
  | some (.struct fs), some ks => match fs.toList[f]? with
   | some fd => match E.size fd.type, Nat.blt (off + fd.offset) ks.length with
    | _ + 1, true => some (.dptr e y i (off + fd.offset))
    | _, _ => none
   | none => none
  | _, _ => none
 | .aptr b es i off => match E.desc t with
  | some (.struct fs) => match fs.toList[f]? with
   | some fd => match E.size fd.type with
    | 0 => none
    | _ => some (.aptr b es i (off + fd.offset))
   | none => none
  | _ => none
 | _ => HB E t x f
def L7 [U : Facts] : AV → AV
 | .si k e => match bnd U.facts e with
  | (some l, some h) => match l == h with
   | true => .int k l
   | false => .si k e
  | _ => .si k e
 | x => x
def HQ [Facts] (E : Env) (t : TypeId) (x i : AV) : Option AV :=
 match x with
 | .dat e' y => match E.desc t, toI i with
  | some (.slice e), some (_, ie) => match E.kinds e with
   | some (_ :: _) => match Nat.beq e e' && inR ie (.lenL (Cm y)) with
    | true => some (.dptr e y ie 0)
    | false => none
   | _ => none
  | _, _ => none
 | .asl b es n _ => match E.desc t, toI i with
  | some (.slice e), some (_, ie) => match E.szIs e es && inR ie n with
   | true => some (.aptr b es ie 0)
   | false => none
  | _, _ => none
 | .aptr b es i0 off => match E.desc t, Dj (L7 i) with
  | some (.array len e), some n => match Nat.blt n len && E.has e with
   | true => some (.aptr b es i0 (off + n * E.size e))
   | false => none
  | _, _ => none
 | .dptr e' y i0 off => match E.desc t, Dj (L7 i), E.kinds e' with
  | some (.array len e), some n, some ks => match Nat.blt n len && E.has e && Nat.blt (off + n * E.size e) ks.length with
   | true => some (.dptr e' y i0 (off + n * E.size e))
   | false => none
  | _, _, _ => none
 | _ => Hv E t x (L7 i)
def X0 [U : Facts] : Kd → AV → Option SE
 | .int k, .int k' n => match decide (k = k') && (decide (k = .i64) || (decide (k.min ≤ n) && decide (n ≤ k.max))) with
  | true => some (.c n)
  | false => none
 | .int k, .si k' e => match decide (k = k') && (decide (k = .i64) || Oz k (bnd U.facts e).1 (bnd U.facts e).2) with
  | true => some e
  | false => none
 | .bool, .bool b => some (.bc b)
 | .bool, .sb pos e => some (match pos with | true => e | false => .neg e)
 | .str, .str l b => some (.strc l b)
 | .str, .ss x => some x
 | .slice e, .dat e' x => match Nat.beq e e' with
  | true => some x
  | false => none
 | .slice _, .slice0 => some .nilL
 | _, _ => none
def Gz [Facts] : List Kd → List AV → Option SE
 | [], [] => some .rnil
 | k :: ks, a :: r => match X0 k a, Gz ks r with
  | some x, some y => some (.rcons x y)
  | _, _ => none
 | _, _ => none
def DW [Facts] (ks : List Kd) : Nat → SE → List AV → Option SE
 | 0, y, [] => some y
 | 0, _, _ :: _ => none
 | n + 1, y, l => match Gz ks (l.take ks.length) with
  | some r => DW ks n (.snoc y r) (l.drop ks.length)
  | none => none
def Ey [Facts] (n y : SE) : Bool := Kq n y || Me (.eql n (.lenL y))
def QL [Facts] (E : Env) (t : TypeId) (x i : AV) : Option AV :=
 match x with
 | .ss y => match E.desc t, toI i with
  | some .string, some (_, ie) => match inR ie (.lenS y) with
   | true => some (mkI .u8 (.strAt y ie))
   | false => none
  | _, _ => none
 | _ => QS E t x (L7 i)
def U3 : Option TypeDesc → Bool
 | some (.int .u8) => true
 | _ => false
def NK : Option TypeDesc → Bool
 | some .string => true
 | _ => false
def LW : Option (List Kd) → Bool
 | some [.int .u8] => true
 | _ => false
def Wc [Facts] (E : Env) (src dst : TypeId) (x : AV) (h : Aa) : Option (AV × Aa) :=
 match x with
 | .ss y => match E.desc dst with
  | some (.slice e) => match U3 (E.desc e) && LW (E.kinds e) && (E.desc src).isSome with
   | true => some (.asl h.nx 1 (.lenL (.bytes y)) (.bc false), h.new (.arr e (.bytes y)))
   | false => none
  | _ => SD E src dst x h
 | .dat e' y => match E.desc src with
  | some (.slice e) => match Nat.beq e e' && U3 (E.desc e) && LW (E.kinds e) && NK (E.desc dst) with
   | true => some (.ss (.ofBytes y), h)
   | false => none
  | _ => none
 | .asl b _ n _ => match E.desc src, h.blk.get b with
  | some (.slice e), some (.arr e' y) => match Nat.beq e e' && U3 (E.desc e) && LW (E.kinds e) && NK (E.desc dst) && Ey n y with
   | true => some (.ss (.ofBytes y), h)
   | false => none
  | _, _ => none
 | _ => SD E src dst x h
def ST [Facts] (e : TypeId) (ks : List Kd) (h : Aa) : AV → Option (SE × SE × Option Nat)
 | .slice0 => some (.nilL, .bc true, none)
 | .eslc nl => some (.nilL, nl, none)
 | .slice b off n es => match Nat.beq es ks.length with
  | true => match Cx h b off (n * es) with
   | some l => match DW ks n .emptyL l with
    | some y => some (y, .bc false, some b)
    | none => none
   | none => none
  | false => none
 | .asl b es n nl => match Nat.beq es ks.length, h.blk.get b with
  | true, some (.arr e' y) => match Nat.beq e e' && Ey n y with
   | true => some (y, nl, some b)
   | false => none
  | _, _ => none
 | _ => none
def Xb [Facts] (e : TypeId) (ks : List Kd) (h : Aa) (y : SE) : AV → Option (SE × SE)
 | .slice0 => some (y, .c 0)
 | .eslc _ => some (y, .c 0)
 | .dat e' x => match Nat.beq e e' with
  | true => some (.cat y x, .lenL x)
  | false => none
 | .asl b es n _ => match Nat.beq es ks.length, h.blk.get b with
  | true, some (.arr e' z) => match Nat.beq e e' && Ey n z with
   | true => some (.cat y z, .lenL z)
   | false => none
  | _, _ => none
 | .slice b off n es => match Nat.beq es ks.length with
  | true => match Cx h b off (n * es) with
   | some l => match DW ks n y l with
    | some y' => some (y', .c n)
    | none => none
   | none => none
  | false => none
 | _ => none
def EL (h : Aa) : Option Nat → Aa
 | some b => h.strike b
 | none => h
def Ik [Facts] (E : Env) (t t' : TypeId) (s x : AV) (h : Aa) : Option (AV × Aa) :=
 match s.isSym || x.isSym with
 | false => Io E t t' s x h
 | true => match E.desc t, E.desc t' with
  | some (.slice e), some (.slice _) => match E.ty.get e, E.kinds e, E.zero e with
   | some inf, some ks, some z => match Nat.beq ks.length inf.size && Nat.beq z.cells.length inf.size && Nat.ble inf.bytes 1024 with
    | true => match ST e ks h s with
     | some (ys, nls, bs) => match Xb e ks h ys x with
      | some (y, m) => match Me (.lss (.lenL ys) (.c 1073741824)) && Me (.lss m (.c 1048576)) with
       | true => some (.asl h.nx inf.size (.lenL y) (.and nls (.eql m (.c 0))), (EL h bs).new (.arr e y))
       | false => none
      | none => none
     | none => none
    | false => none
   | _, _, _ => none
  | _, _ => none
def Ds [Facts] (i : SE) (ks : List Kd) : SE → Nat → List AV → Option SE
 | y, _, [] => some y
 | y, j, a :: r => match ks[j]? with
  | some k => match X0 k a with
   | some x => Ds i ks (.upd y i j x) (j + 1) r
   | none => none
  | none => none
def D0 [Facts] (E : Env) (t : TypeId) (x v : AV) (h : Aa) : Option Aa :=
 match x with
 | .aptr b es i off => match h.blk.get b with
  | some (.arr e y) => match E.kinds e with
   | some ks => match Nat.beq es ks.length && inR i (.lenL (Cm y)) && E.szIs t v.cells.length && !v.isTop with
    | true => match Ds i ks y off v.cells with
     | some y' => some (h.put b (.arr e y'))
     | none => none
    | false => none
   | none => none
  | _ => none
 | _ => Ob E t x v h
def Ka [Facts] (E : Env) (kd : Kd) (a : AV) (h : Aa) : AV × Aa :=
 match kd with
 | .slice e => match a with
  | .asl b es n nl => match h.blk.get b, E.kinds e with
   | some (.arr e' x), some ks => match Nat.beq e e' && Nat.beq es ks.length && Ey n x with
    | true => (.dat e (.nilIs x nl), h.strike b)
    | false => (a, h)
   | _, _ => (a, h)
  | .eslc nl => (.dat e (.nilIs .nilL nl), h)
  | .slice b off n es => match E.kinds e with
   | some ks => match Nat.beq es ks.length, Cx h b off (n * es) with
    | true, some l => match DW ks n .emptyL l with
     | some y => (.dat e y, h.strike b)
     | none => (a, h)
    | _, _ => (a, h)
   | none => (a, h)
  | _ => (a, h)
 | _ => (a, h)
def II [Facts] (E : Env) : List Kd → List AV → Aa → List AV × Aa
 | k :: ks, a :: l, h => match Ka E k a h with
  | (a', h1) => match II E ks l h1 with
   | (l', h2) => (a' :: l', h2)
 | _, l, h => (l, h)
def iz : Nat → List Kd → List Kd
 | 0, _ => []
 | n + 1, ks => ks ++ iz n ks
def Ep [Facts] (E : Env) (ks : List Kd) (b : Nat) (h : Aa) : Aa :=
 match h.blk.get b with
 | some (.cells n c) => match c.range 0 n with
  | some l => match II E ks l h with
   | (l', h') => match h'.blk.get b with
    | some (.cells m _) => match Nat.beq m n && Nat.beq l'.length n with
     | true => h'.put b (.cells n (.ofList l'))
     | false => h
    | _ => h
  | none => h
 | _ => h
def Hx [Facts] (E : Env) (e : TypeId) (b : Nat) (h : Aa) : Aa :=
 match h.blk.get b, E.kinds e with
 | some (.cells n _), some ks => Ep E (iz (n / ks.length) ks) b h
 | _, _ => h
def Nd : List AV → List Kd
 | [] => []
 | .dat e _ :: r => .slice e :: Nd r
 | _ :: r => .bool :: Nd r
def Gs : List Kd → Bool
 | [] => false
 | .slice _ :: _ => true
 | _ :: r => Gs r
def Gf [Facts] (E : Env) (e : TypeId) (a : AV) (h : Aa) : Aa :=
 match a with
 | .slice b _ _ _ => match E.kinds e with
  | some ks => match Gs ks with
   | true => Hx E e b h
   | false => h
  | none => h
 | _ => h
def L8 [Facts] (E : Env) (t : TypeId) (x v : AV) (h : Aa) : Option Aa :=
 match x with
 | .aptr b _ _ off => match h.blk.get b with
  | some (.arr e _) => match E.kinds e with
   | some ks => match Gs ks with
    | true => match v with
     | .agg l => match II E (ks.drop off) l h with
      | (l', h') => D0 E t x (.agg l') h'
     | _ => match Ka E (ks.getD off .bool) v h with
      | (v', h') => D0 E t x v' h'
    | false => D0 E t x v h
   | none => D0 E t x v h
  | _ => D0 E t x v h
 | _ => D0 E t x v h
def Jq [Facts] (E : Env) (t t' : TypeId) (s x : AV) (h : Aa) : Option (AV × Aa) :=
 match s.isSym || x.isSym with
 | true => match E.desc t with
  | some (.slice e) => Ik E t t' s x (Gf E e x (Gf E e s h))
  | _ => Ik E t t' s x h
 | false => Ik E t t' s x h
def Hd (d : SE) : Option AV → Option SE
 | none => some d
 | some v => match toI v with
  | some (_, e) => some e
  | none => none
def inB [Facts] (l u n : SE) : Bool := QP (.lss l (.c 0)) && QP (.lss u l) && QP (.lss n u)
def N9 [Facts] (E : Env) (t : TypeId) (x : AV) (lo hi : Option AV) (h : Aa) : Option (AV × Aa) :=
 match x with
 | .dat e' y => match E.desc t, Hd (.c 0) lo, Hd (.lenL y) hi with
  | some (.slice e), some l, some u => match E.kinds e with
   | some ks => match Nat.beq e e' && E.szIs e ks.length && inB l u (.lenL y) with
    | true => some (.dat e (.sub y l u), h)
    | false => none
   | none => none
  | _, _, _ => none
 | _ => none
def XE : SE → Bool
 | .c n => n == 0
 | _ => false
def sliceB [Facts] (E : Env) (t : TypeId) (x : AV) (lo hi mx : Option AV) (h : Aa) : Option (AV × Aa) :=
 match x, mx with
 | .dat _ _, none => N9 E t x lo hi h
 | .ss y, none => match E.desc t, Hd (.c 0) lo, Hd (.lenS y) hi with
  | some .string, some l, some u => match inB l u (.lenS y) with
   | true => some (.ss (.strSub y l u), h)
   | false => none
  | _, _, _ => none
 | .asl b es n nl, none => match E.desc t, h.blk.get b with
  | some (.slice e), some (.arr e' y) => match Nat.beq e e' && E.szIs e es && Ey n y with
   | true => match Hd (.c 0) lo, Hd (.lenL y) hi with
    | some l, some u => match XE l with
     | true => match inB (.c 0) u (.lenL y) with
      | true => some (.asl b es (.lenL (.sub y (.c 0) u)) nl, h.put b (.arr e' (.sub y (.c 0) u)))
      | false => none
     | false => match Ka E (.slice e) x h with
      | (x', h') => N9 E t x' lo hi h'
    | _, _ => none
   | false => match Hd (.c 0) lo, hi, Hd n hi with
    | some l, some _, some u => match Nat.beq e e' && (E.szIs e es && (XE l && (inB (.c 0) u n && inB (.c 0) u (.lenL y)))) with
     | true => some (.asl b es (.lenL (.sub y (.c 0) u)) nl, h.put b (.arr e' (.sub y (.c 0) u)))
     | false => none
    | _, _, _ => none
  | _, _ => none
 | _, _ => match Ry E t x (lo.map L7) (hi.map L7) (mx.map L7) h with
  | some a => some (a, h)
  | none => none
def D8 (h : Aa) (why : String) : Option AV → Res
 | some v => .val v h
 | none => .bad why
def E9 (why : String) : Option (AV × Aa) → Res
 | some (v, h) => .val v h
 | none => .bad why
def FK (why : String) : Option Aa → Res
 | some h => .val .undef h
 | none => .bad why
def QM (E : Env) (t : TypeId) (x : AV) (h : Aa) : Option Aa :=
 match E.desc t with
 | none => none
 | some d => match x with
  | .map r => match h.blk.get r with
   | some (.map _ clock) => some (h.put r (.map [] clock))
   | some (.dmap kt vt _) => some (h.put r (.dmap kt vt .emptyL))
   | _ => none
  | .slice0 => some h
  | .slice b off n es => match n with
   | 0 => some h
   | _ => match d with
    | .slice e => match E.zero e with
     | some z => match Nat.beq z.cells.length es with
      | true => storeN h b off (BA z.cells n)
      | false => none
     | none => none
    | _ => none
  | _ => none
def OU : AV → Option SE
 | .ss e => some e
 | .str l b => some (.strc l b)
 | _ => none
def LM : AV → Option SE
 | .sb true e => some (.and e (.bc true))
 | .sb false e => some (.neg e)
 | .bool b => some (.bc b)
 | _ => none
def Xy (a b : SE) : SE := match b with
 | .bc true => a
 | _ => .and a b
def aM (a b : SE) : SE := match a, b with
 | .c n, .c m => .bc (n == m)
 | _, _ => .eql a b
def aF (a b : SE) : SE := .neg (.and (.neg (.and a b)) (.neg (.and (.neg a) (.neg b))))
def Fk (E : Env) (eq : TypeId → AV → AV → Option SE) (xs ys : List AV) : List Field → Option SE
 | [] => some (.bc true)
 | f :: r => match f.name == "_" with
  | true => none
  | false => match CC E f.type xs f.offset, CC E f.type ys f.offset with
   | some a, some b => match eq f.type a b, Fk E eq xs ys r with
    | some e, some e' => some (Xy e e')
    | _, _ => none
   | _, _ => none
def Gn (E : Env) (eq : TypeId → AV → AV → Option SE) (e : TypeId) (n : Nat) (xs ys : List AV) : Nat → Nat → Option SE
 | 0, _ => some (.bc true)
 | k + 1, i => match CC E e xs (i * n), CC E e ys (i * n) with
  | some a, some b => match eq e a b, Gn E eq e n xs ys k (i + 1) with
   | some x, some y => some (Xy x y)
   | _, _ => none
  | _, _ => none
def HA (E : Env) : Nat → TypeId → AV → AV → Option SE
 | 0, _, _, _ => none
 | d + 1, t, x, y => match E.desc t with
  | some .bool => match LM x, LM y with
   | some a, some b => some (aF a b)
   | _, _ => none
  | some (.int _) => match toI x, toI y with
   | some (k, a), some (k', b) => match decide (k = k') with
    | true => some (aM a b)
    | false => none
   | _, _ => none
  | some .string => match OU x, OU y with
   | some a, some b => some (.eqSS a b)
   | _, _ => none
  | some (.struct fields) => match x, y with
   | .agg xs, .agg ys => match E.P.stoodInHeld t with
    | true => none
    | false => Fk E (HA E d) xs ys fields.toList
   | _, _ => none
  | some (.array len e) => match x, y with
   | .agg xs, .agg ys => match E.has e with
    | true => Gn E (HA E d) e (E.size e) xs ys len 0
    | false => none
   | _, _ => none
  | _ => none
def WM [Facts] (E : Env) (op : BinOp) (t : TypeId) (a b : AV) : Option AV :=
 match a, b with
 | .agg _, .agg _ => match E.P.eqGuardType E.P.depth t with
  | true => none
  | false => match HA E 10000 t a b with
   | some e => match BV op true with
    | some q => some (mkB q e)
    | none => none
   | none => none
 | _, _ => none
def eqK [U : Facts] (E : Env) (t : TypeId) (k key : AV) : Option Bool := match aeq E 10000 t k key with
 | some b => some b
 | none => match HA E 10000 t k key with
  | some e => AW U.facts e
  | none => none
def Fc [Facts] (E : Env) (t : TypeId) (k : AV) : List AP → Nat → Option (Option (Nat × AV))
 | [], _ => some none
 | e :: r, i => match eqK E t k e.key with
  | some true => some (some (i, e.val))
  | some false => Fc E t k r (i + 1)
  | none => none
def MG : List AV → AV
 | [a] => a
 | l => .agg l
def HY (ks : List Kd) (a : AV) : Bool := match ks, a with
 | [_], .agg _ => false
 | [_], .top => false
 | [_], _ => true
 | _, .agg _ => true
 | _, _ => false
def I7 : List Kd → Bool
 | [] => true
 | .slice _ :: _ => false
 | _ :: r => I7 r
def kC (j : Nat) : Kd → AV
 | .int k => .si k (.var j)
 | .bool => .sb true (.var j)
 | .str => .ss (.var j)
 | .slice _ => .top
def MT : Nat → List Kd → List AV
 | _, [] => []
 | j, k :: r => kC j k :: MT (j + 1) r
def K0 : SE → List SE
 | .and a b => K0 a ++ K0 b
 | .bc true => []
 | e => [e]
def aQ (i j : Nat) : Kd → SE
 | .int _ => .eql (.var i) (.var j)
 | .bool => aF (.and (.var i) (.bc true)) (.and (.var j) (.bc true))
 | .str => .eqSS (.var i) (.var j)
 | .slice _ => .bc false
def Se : Nat → Nat → List Kd → List SE
 | _, _, [] => []
 | i, j, k :: r => aQ i j k :: Se (i + 1) (j + 1) r
def Kv : List SE → List SE → Bool
 | [], [] => true
 | a :: l, b :: m => a.same b && Kv l m
 | _, _ => false
def G5 (E : Env) (kt : TypeId) (ks : List Kd) : Bool :=
 match HA E 10000 kt (MG (MT ks.length ks)) (MG (MT 0 ks)) with
 | some e => I7 ks && Kv (K0 e) (Se ks.length 0 ks)
 | none => false
def No (E : Env) (t : TypeId) : Option (TypeId × TypeId × List Kd × List Kd) :=
 match E.desc t with
 | some (.map kt vt) => match E.kinds kt, E.kinds vt with
  | some kks, some vks => match G5 E kt kks with
   | true => some (kt, vt, kks, vks)
   | false => none
  | _, _ => none
 | _ => none
def U4 [Facts] (kks vks : List Kd) (k v : AV) : Option SE :=
 match HY kks k && HY vks v && Nat.beq k.cells.length kks.length with
 | true => Gz (kks ++ vks) (k.cells ++ v.cells)
 | false => none
def Lc [Facts] (kks vks : List Kd) : SE → List AP → Option SE
 | y, [] => some y
 | y, e :: r => match U4 kks vks e.key e.val with
  | some x => Lc kks vks (.snoc y x) r
  | none => none
def TF [Facts] (kks : List Kd) (k : AV) : Option SE :=
 match HY kks k with
 | true => Gz kks k.cells
 | false => none
def UP (k : AV) : Bool := k.cells.any AV.isSym
def VI [Facts] (kt vt : TypeId) (kks vks : List Kd) : Option Aq → Option SE
 | some (.dmap kt' vt' x) => match Nat.beq kt kt' && Nat.beq vt vt' with
  | true => some x
  | false => none
 | some (.map es _) => Lc kks vks .emptyL es
 | _ => none
def Oy [U : Facts] (E : Env) (t : TypeId) (m k : AV) (ok : Bool) (h : Aa) : Option AV :=
 match No E t, m with
 | some (kt, vt, kks, vks), .map r => match h.blk.get r with
  | some (.dmap kt' vt' x) => match Nat.beq kt kt' && Nat.beq vt vt' && B0 E 20 kt k, E.zero vt, TF kks k with
   | true, some z, some kr => match AW U.facts (.lss (.mIdx kks x kr) (.c 0)) with
    | some true => some (Mo ok z false)
    | some false => match Hb x (.mIdx kks x kr) (kks ++ vks) kks.length vks.length with
     | some l => some (Mo ok (MG l) true)
     | none => none
    | none => none
   | _, _, _ => none
  | _ => none
 | _, _ => none
def N8 [Facts] (E : Env) (t : TypeId) (m k : AV) (ok : Bool) (h : Aa) : Option AV :=
 match Om E t m k ok h with
 | some r => some r
 | none => match Oy E t m k ok h with
 | some r => some r
 | none => match E.desc t, m with
  | some (.map kt et), .map r => match B0 E 20 kt k, E.zero et, h.blk.get r with
   | true, some z, some (.map es _) => match Fc E kt k es 0 with
    | some (some (_, v)) => some (Mo ok v true)
    | some none => some (Mo ok z false)
    | none => none
   | _, _, _ => none
  | _, _ => none
def N2 [U : Facts] (E : Env) (t : TypeId) (m k v : AV) (h : Aa) : Option Aa :=
 match No E t, m with
 | some (kt, vt, kks, vks), .map r => match B0 E 20 kt k, VI kt vt kks vks (h.blk.get r), TF kks k with
  | true, some x, some kr => match U4 kks vks k v, AW U.facts (.lss (.mIdx kks x kr) (.c 0)) with
   | some row, some true => some (h.put r (.dmap kt vt (.snoc x row)))
   | some _, some false => match Ds (.mIdx kks x kr) (kks ++ vks) x kks.length v.cells with
    | some y => some (h.put r (.dmap kt vt y))
    | none => none
   | _, _ => none
  | _, _, _ => none
 | _, _ => none
def fj : Option Aq → Bool
 | some (.dmap _ _ _) => true
 | _ => false
def Y4 (h : Aa) : AV → Option Aq
 | .map r => h.blk.get r
 | _ => none
def Ov [Facts] (E : Env) (t : TypeId) (m k v : AV) (h : Aa) : Option Aa :=
 match UP k || fj (Y4 h m) with
 | true => match N2 E t m k v h with
  | some h' => some h'
  | none => H9 E t m k v h
 | false => H9 E t m k v h
def ND [U : Facts] (E : Env) (t : TypeId) (m k : AV) (h : Aa) : Option Aa :=
 match No E t, m with
 | some (kt, vt, kks, vks), .map r => match B0 E 20 kt k, VI kt vt kks vks (h.blk.get r), TF kks k with
  | true, some x, some kr => match AW U.facts (.lss (.mIdx kks x kr) (.c 0)) with
   | some true => some (h.put r (.dmap kt vt x))
   | some false => some (h.put r (.dmap kt vt (.rmv x (.mIdx kks x kr))))
   | none => none
  | _, _, _ => none
 | _, _ => none
def Og [Facts] (E : Env) (t : TypeId) (m k : AV) (h : Aa) : Option Aa :=
 match Km E t m k h with
 | some h' => some h'
 | none => ND E t m k h
def RF [Facts] (e : TypeId) (h : Aa) : AV → Option SE
 | .dat e' y => match Nat.beq e e' with
  | true => some y
  | false => none
 | .asl b es n _ => match h.blk.get b with
  | some (.arr e' y) => match Nat.beq e e' && Nat.beq es 1 && Ey n y with
   | true => some y
   | false => none
  | _ => none
 | _ => none
def ZJ [U : Facts] (L : SE) (n : Nat) : Option Nat :=
 match AW U.facts (.lss L (.c n)) with
 | some false => some n
 | some true => match bnd U.facts L with
  | (some l, some h) => match l == h && decide (0 ≤ l) with
   | true => some l.toNat
   | false => none
  | _ => none
 | none => none
def FV [Facts] (y : SE) (kd : Kd) : Nat → Nat → List AV
 | _, 0 => []
 | i, n + 1 => Js y (.c i) 0 kd :: FV y kd (i + 1) n
def mX : Option (List Kd) → Option Kd
 | some [k] => some k
 | _ => none
def UB [Facts] (E : Env) (t : TypeId) (d x : AV) (h : Aa) : Option (AV × Aa) :=
 match RN E t d x h with
 | some r => some r
 | none => match E.desc t with
  | some (.slice e) => match mX (E.kinds e), E.szIs e 1, d, RF e h x with
   | some kd, true, .slice b off n es, some y => match Nat.beq es 1, ZJ (.lenL y) n with
    | true, some k => match storeN h b off (FV y kd 0 k) with
     | some h' => some (.int .i64 k, h')
     | none => none
    | _, _ => none
   | _, _, _, _ => none
  | _ => none
def Lz [Facts] (E : Env) (b : Builtin) (argTypes : List TypeId) (args : List AV) (h : Aa) : Res :=
 match b, argTypes, args with
 | .len, t :: _, x :: _ => D8 h "len" (ZC E t x h)
 | .append, [t, t'], [s, x] => E9 "append" (Jq E t t' s x h)
 | .copy, t :: _, [d, x] => E9 "copy" (UB E t d x h)
 | .delete, t :: _, [m, k] => FK "delete" (Og E t m k h)
 | .max, _, l => D8 h "max" (orA (fH l) (V1 l))
 | .min, _, l => D8 h "min" (orA (fh l) (VQ l))
 | .recover, _, _ => .recover h
 | .panic, _, [.iface t v] => .panic (.iface t v) h
 | .clear, [t], [x] => FK "clear" (QM E t x h)
 | b, _, _ => .bad ("builtin " ++ reprStr b)
def DC (c : Nat) : Nat → Nat → Nat → Int
 | 0, _, _ => -1
 | n + 1, b, i => match Nat.beq (b % 256) c with
  | true => i
  | false => DC c n (b / 256) (i + 1)
def NU (name : String) (args : List AV) (h : Aa) : Res :=
 match name with
 | "maps.clone" => match args with
  | [.iface t (.map r)] => match h.blk.get r with
   | some (.map es clock) => .val (.iface t (.map h.nx)) (h.new (.map es clock))
   | some (.dmap kt vt x) => .val (.iface t (.map h.nx)) (h.new (.dmap kt vt x))
   | _ => .bad "maps.clone"
  | _ => .bad "maps.clone"
 | "internal/bytealg.IndexByteString" => match args with
  | [.str l b, .int .u8 (.ofNat c)] => match Nat.blt c 256 with
   | true => .val (.int .i64 (DC c l b 0)) h
   | false => .bad "IndexByteString"
  | _ => .bad "IndexByteString"
 | _ => .bad ("native " ++ name)
def L5 (E : Env) (f : FuncId) (args : List AV) (h : Aa) : Res :=
 match E.fn.get f with
 | some fn => match fn.body with
  | some _ => .enter f args h
  | none => NU fn.name args h
 | none => .bad "no function"
def Eb (E : Env) (fn : Fn) (captured args : List AV) (h : Aa) : Res :=
 match fn with
 | .func f => L5 E f (args ++ captured) h
 | .yield l => .round l args h
 | .methodOf t name => .bad ("methodOf " ++ name)
 | .method name =>
  match args with
  | .iface t v :: rest => match E.ty.get t with
   | some i => match i.methods.toList.find? (fun m => m.name == name) with
    | some m => match m.path.isEmpty, m.func with
     | true, some (f, ptr) => match E.desc t, ptr with
      | some (.pointer _), true => L5 E f (v :: rest) h
      | some (.pointer _), false => .bad "method of a value WH a pointer"
      | some _, false => L5 E f (v :: rest) h
      | _, _ => .bad "method of a pointer to a value"
     | _, _ => .bad ("method promoted " ++ name)
    | none => .bad "method none"
   | none => .bad "method type"
  | _ => .bad ("method on " ++ name)
 | .via t path f ptr =>
  .bad "via"
def Q1 [Facts] (E : Env) (tmps : T AV) (c : Call) (h : Aa) : Res :=
 let args := c.args.toList.map (Aj tmps)
 match c.callee with
 | .builtin b => Lz E b c.argTypes.toList args h
 | .invoke r name => Eb E (.method name) [] (Aj tmps r :: args) h
 | .value f => match Aj tmps f with
  | .func fn first captured => Eb E fn captured (first ++ args) h
  | _ => .bad "call of what"
def G9 (tmps : T AV) (c : Call) (h : Aa) : Res :=
 let args := c.args.toList.map (Aj tmps)
 match c.callee with
 | .value f => match Aj tmps f with
  | .func fn first captured => .defer { fn := some fn, coll := 0, captured, args := first ++ args } h
  | _ => .bad "defer of what"
 | _ => .bad "defer builtin"
def Bc (tmps : T AV) : Option Operand → Option AV
 | some o => some (Aj tmps o)
 | none => none
def OA (E : Env) (fs : List Field) (i : Nat) : Option (Nat × Nat) :=
 match fs[i]? with
 | some f => some (f.offset, E.size f.type)
 | none => none
def Rv (E : Env) (t : TypeId) (parts : List (Nat × AV)) : Option AV :=
 match E.zero t, E.desc t with
 | some z, some (.struct fs) => match fs.toList.all fun f => E.has f.type with
  | true => (Fs (OA E fs.toList) z.cells parts).map .agg
  | false => none
 | some z, some (.array _ e) => match E.has e with
  | true => (Fs (fun i => some (i * E.size e, E.size e)) z.cells parts).map .agg
  | false => none
 | _, _ => none
def Gr (E : Env) (t : TypeId) (len : Nat) (parts : List (Nat × AV)) (h : Aa) : Option (AV × Aa) :=
 match E.desc t with
 | some (.slice e) =>
  match Nat.ble (len * E.size e) 16777216, E.zero e with
  | true, some z => match Nat.beq z.cells.length (E.size e) with
   | false => none
   | true => match Fs (fun i => some (i * E.size e, E.size e)) (BA z.cells len) parts with
    | some cells => some (.slice h.nx 0 len (E.size e), BH h cells)
    | none => none
  | _, _ => none
 | _ => none
def HS (E : Env) (t : TypeId) (l c : AV) (h : Aa) : Option (AV × Aa) :=
 match E.desc t, Dj l, Dj c with
 | some (.slice e), some n, some m =>
  match E.ty.get e with
  | none => none
  | some inf => match E.zero e with
   | none => none
   | some z => match Nat.beq n m && Nat.ble n 1048576 && Nat.ble (inf.bytes * n) 140737488355328 && Nat.beq z.cells.length inf.size with
    | true => some (.slice h.nx 0 n inf.size, BH h (BA z.cells n))
    | false => none
 | _, _, _ => none
def HJ [Facts] (E : Env) (t : TypeId) (l c : AV) (h : Aa) : Option (AV × Aa) :=
 match l with
 | .si k n => match c with
  | .si _ m => match decide (k = .i64) && n.same m, E.desc t with
   | true, some (.slice e) => match E.ty.get e, E.kinds e, E.zero e with
    | some inf, some ks, some z => match Nat.beq ks.length inf.size && Nat.beq z.cells.length inf.size && Nat.ble inf.bytes 1024 && QP (.lss n (.c 0)) && Me (.lss n (.c 1048577)), Gz ks z.cells with
     | true, some r => some (.asl h.nx inf.size (.lenL (.rep n r)) (.bc false), h.new (.arr e (.rep n r)))
     | _, _ => none
    | _, _, _ => none
   | _, _ => none
  | _ => none
 | _ => HS E t l c h
def ON : TypeDesc → Bool
 | .interface _ => true
 | _ => false
def N3 (E : Env) (x : AV) (asserted : TypeId) (ok : Bool) : Option AV :=
 match x with
 | .nilIface => match ok, E.zero asserted with
  | true, some z => some (.tuple [z, .bool false])
  | _, _ => none
 | .iface t v => match Nat.beq t asserted with
  | true => match ok with
   | true => some (.tuple [v, .bool true])
   | false => some v
  | false => match ok, E.zero asserted with
   | true, some z => some (.tuple [z, .bool false])
   | _, _ => none
 | _ => none
def Od (E : Env) (x : AV) (asserted : TypeId) (ok : Bool) : Option AV :=
 match E.desc asserted with
 | some d => match ON d with
  | true => none
  | false => N3 E x asserted ok
 | none => none
def AV.isNil : AV → Bool
 | .nilIface => true
 | _ => false
def NQ [Facts] : SE → Bool
 | .strc l _ => Nat.ble l 4611686018427387903
 | e => Me (.lss (.lenS e) (.c 4611686018427387904))
def bx [Facts] (op : BinOp) (a b : AV) : Option AV :=
 match op with
 | .add => match OU a, OU b with
  | some x, some y => match NQ x && NQ y with
   | true => some (.ss (.strCat x y))
   | false => none
  | _, _ => none
 | _ => none
def iB [Facts] (E : Env) (op : BinOp) (t : TypeId) (x y : Operand) (a b : AV) : Option AV :=
 match a.isSym || b.isSym with
 | true => match eqV (E.desc t) op a b with
  | some r => some r
  | none => match bx op a b with
   | some r => some r
   | none => Z1 op a b
 | false => match a.isNil && b.isNil with
 | true => match Region.isConst x || Region.isConst y, E.desc t with
  | true, some (.interface _) => match op with
   | .eql => some (.bool true)
   | .neq => some (.bool false)
   | _ => none
  | _, _ => none
 | false => match QQ E op t a b with
  | some r => some r
  | none => WM E op t a b
def aop [U : Facts] (E : Env) (tmps : T AV) (h : Aa) (op : Op) : Res :=
 match op with
 | .move x => .val (Aj tmps x) h
 | .assign x => .val (Aj tmps x) h
 | .pick c a b => match Aj tmps c with
  | .bool true => .val (Aj tmps a) h
  | .bool false => .val (Aj tmps b) h
  | .sb pos e => match AW U.facts e with
   | some q => match q == pos with
    | true => .val (Aj tmps a) h
    | false => .val (Aj tmps b) h
   | none => .bad "pick"
  | _ => .bad "pick"
 | .alloc t => match E.zero t with
  | some z => .val (.ptr h.nx 0) (BH h z.cells)
  | none => .bad "alloc"
 | .box _ x => match (Aj tmps x).isTop with
  | true => .bad "box"
  | false => .val (.ptr h.nx 0) (BH h (Aj tmps x).cells)
 | .build t ps => D8 h "build" (Rv E t (ps.toList.map fun (i, x) => (i, Aj tmps x)))
 | .buildSlice t len ps => E9 "buildSlice" (Gr E t len (ps.toList.map fun (i, x) => (i, Aj tmps x)) h)
 | .load t a => D8 h "load" (Wb E t (Aj tmps a) h)
 | .store t a x => FK "store" (L8 E t (Aj tmps a) (Aj tmps x) h)
 | .nilCheck x => match Aj tmps x with
  | .ptr b off => .val (.ptr b off) h
  | .func (.func f) a b => .val (.func (.func f) a b) h
  | .func (.yield f) a b => .val (.func (.yield f) a b) h
  | .iface t v => .val (.iface t v) h
  | _ => .bad "nilCheck"
 | .binOp op t x y _ => D8 h "binOp" (iB E op t x y (Aj tmps x) (Aj tmps y))
 | .unOp op _ x => D8 h "unOp" (unB op (Aj tmps x))
 | .convert s d x => E9 "convert" (Wc E s d (Aj tmps x) h)
 | .makeInterface t x => match E.desc t with
  | some (.interface _) => .bad "makeInterface"
  | some _ => .val (.iface t (Aj tmps x)) h
  | none => .bad "makeInterface"
 | .makeFunc (.yield _) _ _ => .bad "makeFunc"
 | .makeFunc fn first captured => .val (.func fn (first.toList.map (Aj tmps)) (captured.toList.map (Aj tmps))) h
 | .makeMap _ none => .val (.map h.nx) (h.new (.map [] 0))
 | .makeMap t (some r) => match E.desc t, Aj tmps r with
  | some (.map _ _), .int _ _ => .val (.map h.nx) (h.new (.map [] 0))
  | _, _ => .bad "makeMap"
 | .makeSlice t l c => E9 "makeSlice" (HJ E t (Aj tmps l) (Aj tmps c) h)
 | .slice t x lo hi mx => E9 "slice" (match mx, hi with
  | some _, none => none
  | _, _ => sliceB E t (Aj tmps x) (Bc tmps lo) (Bc tmps hi) (Bc tmps mx) h)
 | .fieldAddr t x f => D8 h "fieldAddr" (HC E t (Aj tmps x) f)
 | .field t x f => D8 h "field" (QZ E t (Aj tmps x) f)
 | .indexAddr t x i => D8 h "indexAddr" (HQ E t (Aj tmps x) (Aj tmps i))
 | .index t x i => D8 h "index" (QL E t (Aj tmps x) (Aj tmps i))
 | .lookup t m k ok => D8 h "lookup" (N8 E t (Aj tmps m) (Aj tmps k) ok h)
 | .mapUpdate t m k v => FK "mapUpdate" (Ov E t (Aj tmps m) (Aj tmps k) (Aj tmps v) h)
 | .insert t m k v => FK "insert" (H9 E t (Aj tmps m) (Aj tmps k) (Aj tmps v) h)
 | .mapEntry t m k => E9 "mapEntry" (QN E t (Aj tmps m) (Aj tmps k) h)
 | .entryStore _ m st v => FK "entryStore" (GG (Aj tmps m) (Aj tmps st) (Aj tmps v) h)
 | .range t x => E9 "range" (QA E t (Aj tmps x) h)
 | .next it isString => E9 "next" (VY (Aj tmps it) isString h)
 | .typeAssert x _ t ok => D8 h "typeAssert" (Od E (Aj tmps x) t ok)
 | .extract t i => match Aj tmps t with
  | .tuple vs => D8 h "extract" vs[i]?
  | _ => .bad "extract"
 | .call c => Q1 E tmps c h
 | .defer c => G9 tmps c h
 | .panic x => match Aj tmps x with
  | .iface t v => .panic (.iface t v) h
  | _ => .bad "panic"
 | .sliceToArrayPointer .. => .bad "sliceToArrayPointer"
 | .ready _ => .bad "ready"
 | .waits _ => .bad "waits"
 | .entry it => D8 h "entry" (HP (Aj tmps it) h)
 | .makeChan .. => .bad "makeChan"
 | .go _ => .bad "go"
 | .send .. => .bad "send"
 | .recv .. => .bad "recv"
 | .select .. => .bad "select"
def DH [U : Facts] (all : Array Oper) (o : Oper) (tmps : T AV) : Option Bool :=
 match o.guard with
 | none => some true
 | some (j, want) =>
  match all.toList[j]? with
  | some g => match g.dst with
   | some d => match tmps.get d with
    | some (.bool b) => some (b == want)
    | some .top => none
    | some (.sb pos e) => match AW U.facts e with
     | some c => some ((c == pos) == want)
     | none => none
    | none => none
    | _ => some false
   | none => some false
  | none => some false
def LB (nt : Nat) (tmps : T AV) (dst : Option Tmp) (v : AV) : Option (T AV) :=
 match dst with
 | some d => match Nat.blt d nt with
  | true => some (tmps.set d v)
  | false => none
 | none => some tmps
def CP (fr : AF) (v : AV) : Option AF :=
 match fr.todo with
 | .ops all (o :: rest) :: k => match LB fr.nt fr.tmps o.dst v with
  | some t => some { fr with tmps := t, todo := .ops all rest :: k }
  | none => none
 | .inRange l :: k => some { fr with todo := .endRange l :: k }
 | .beginRound :: k => some { fr with todo := k }
 | _ => none
def M9 (id : Nat) : List AI → Option (List AI)
 | .inBlock id' :: k => match Nat.beq id' id with | true => some k | false => M9 id k
 | _ :: k => M9 id k
 | [] => none
def H6 : List AI → Bool
 | .rest :: _ => true
 | _ :: k => H6 k
 | [] => false
def M2 (l : Nat) : List AI → Option (List AI)
 | .inScope body :: k =>
  match findLabel body l with
  | some rest => some (.code rest :: .inScope body :: k)
  | none => M2 l k
 | _ :: k => M2 l k
 | [] => none
inductive Out where
 | next (s : AS)
 | done (ok : Bool) (v : AV) (h : Aa)
 | draw (s : AS) (ops : Array Oper) (k : List AI)
 | bad (why : String)
 deriving Inhabited
def Bi (E : Env) (f : FuncId) (args : List AV) (kind : CallKind) : Option AF :=
 match E.fn.get f with
 | some fn => match fn.body with
  | some c => some { fn := f, nt := max fn.ntmps args.length, tmps := .ofList args, todo := [.code c], defers := [], mode := .run, kind, round := none }
  | none => none
 | none => none
def FE (nt : Nat) : T AV → List Tmp → List AV → Option (T AV)
 | t, [], [] => some t
 | t, p :: ps, a :: as => match Nat.blt p nt with
  | true => FE nt (t.set p a) ps as
  | false => none
 | _, _, _ => none
def GA (l : Nat) (args : List AV) (h : Aa) : Option AF :=
 match h.blk.get l with
 | some (.loop _ _ fn nt tmps params assign body _) => match FE nt tmps params args with
  | some t => some { fn, nt, tmps := t, todo := [.code assign, .beginRound, .code body], defers := [], mode := .run, kind := .normal, round := some l }
  | none => none
 | _ => none
def Ed (fr : AF) (cs : List AF) (v : AV) (h : Aa) : Out :=
 match cs with
 | c :: rest =>
  match fr.kind with
  | .normal => match CP c v with
   | some c' => .next { fr := c', cs := rest, h }
   | none => .bad "finish"
  | .deferred =>
   match c.mode with
   | .panic ((_, true) :: _) => .next { fr := { c with mode := .ret }, cs := rest, h }
   | _ => .next { fr := c, cs := rest, h }
  | _ => .bad "kind"
 | [] => match fr.kind with
  | .normal => .done true v h
  | _ => .bad "kind at the bottom"
def Cd (E : Env) (fr : AF) (cs : List AF) (r : Res) : Out :=
 match r with
 | .val v h => match CP fr v with
  | some fr' => .next { fr := fr', cs, h }
  | none => .bad "finish"
 | .enter f args h => match Bi E f args .normal with
  | some g => .next { fr := g, cs := fr :: cs, h }
  | none => .bad "enter"
 | .round l args h => match GA l args h with
  | some g => .next { fr := g, cs := fr :: cs, h }
  | none => .bad "yield"
 | .defer d h => match fr.round with
  | some _ => .bad "defer in a round"
  | none => match CP fr .undef with
   | some fr' => .next { fr := { fr' with defers := d :: fr'.defers }, cs, h }
   | none => .bad "finish"
 | .recover h => match fr.round, fr.kind, cs with
  | none, .deferred, c :: rest => match c.mode with
   | .panic ((v, false) :: older) => match CP fr v with
    | some fr' => .next { fr := fr', cs := { c with mode := .panic ((v, true) :: older) } :: rest, h }
    | none => .bad "finish"
   | _ => match CP fr .nilIface with
    | some fr' => .next { fr := fr', cs, h }
    | none => .bad "finish"
  | _, _, _ => .bad "recover"
 | .panic v h => match fr.mode with
  | .run => .next { fr := { fr with mode := .panic [(v, false)] }, cs, h }
  | _ => .bad "panic"
 | .bad w => .bad w
def EZ (fr : AF) (cs : List AF) (h : Aa) (jump : Option Code) : Out :=
 match fr.round with
 | none => match jump with
  | none => .next { fr := { fr with mode := .ret }, cs, h }
  | some .ret => .next { fr := { fr with mode := .ret }, cs, h }
  | _ => .bad "leave"
 | some l => match h.blk.get l with
  | some (.loop _ _ fn nt tmps params assign body defers) =>
   Ed fr cs (.bool jump.isNone) (h.put l (.loop (if jump.isNone then .ready else .done) jump fn nt tmps params assign body defers))
  | _ => .bad "no loop"
def CF (E : Env) (fr : AF) (h : Aa) : List ResultVar → Option (List AV)
 | [] => some []
 | .tmp t :: r => match CF E fr h r with
  | some l => some ((match fr.tmps.get t with | some v => v | none => .top) :: l)
  | none => none
 | .cell a t :: r => match fr.tmps.get a with
  | some p => match Qc E t p h, CF E fr h r with
   | some v, some l => some (v :: l)
   | _, _ => none
  | none => none
def FX (E : Env) (fr : AF) (cs : List AF) (h : Aa) : Out :=
 match fr.defers with
 | d :: ds => match d.fn with
  | none => match h.blk.get d.coll with
   | some (.deferred (some l)) => .next { fr := { fr with defers := l ++ ds }, cs, h := h.put d.coll (.deferred none) }
   | _ => .bad "collected"
  | some fn => match Eb E fn d.captured d.args h with
   | .enter f args h => match Bi E f args .deferred with
    | some g => .next { fr := g, cs := { fr with defers := ds } :: cs, h }
    | none => .bad "enter deferred"
   | _ => .bad "deferred what"
 | [] => match fr.mode with
  | .run => .bad "unwind run"
  | .panic chain => match cs with
   | c :: rest => match c.mode with
    | .run => .next { fr := { c with mode := .panic chain }, cs := rest, h }
    | _ => .bad "panic in a deferred call"
   | [] => match chain with
    | [(v, false)] => match E.fn.get fr.fn with
     | some _ => .done false v h
     | none => .bad "no function"
    | _ => .bad "panic at the bottom"
  | .ret => match E.fn.get fr.fn with
   | some fn => match CF E fr h fn.results.toList with
    | some [v] => Ed fr cs v h
    | some l => Ed fr cs (.tuple l) h
    | none => .bad "results"
   | none => .bad "no function"
def RP (fr : AF) (h : Aa) : Option (Nat × Aa × List AD) :=
 match fr.round with
 | some l => match h.blk.get l with
  | some (.loop _ _ _ _ _ _ _ _ d) => some (d, h, [])
  | _ => none
 | none => some (h.nx, h.new (.deferred (some [])), [{ fn := none, coll := h.nx, captured := [], args := [] }])
def G0 (E : Env) (s : AS) (f : Operand) (params : List Tmp) (assign body : Code) (k : List AI) : Out :=
 match RP s.fr s.h with
 | some (d, h1, mark) =>
  match Aj s.fr.tmps f with
  | .func fn first captured =>
   match Eb E fn captured (first ++ [.func (.yield h1.nx) [] []]) (h1.new (.loop .ready none s.fr.fn s.fr.nt s.fr.tmps params assign body d)) with
   | .enter g args _ => match Bi E g args .normal with
    | some gf => .next { fr := gf, cs := { s.fr with todo := .inRange h1.nx :: k, defers := mark ++ s.fr.defers } :: s.cs, h := h1.new (.loop .ready none s.fr.fn s.fr.nt s.fr.tmps params assign body d) }
    | none => .bad "enter"
   | _ => .bad "range over what"
  | _ => .bad "range over what"
 | none => .bad "rangeFunc"
def Gv [U : Facts] (E : Env) (s : AS) : Out :=
 let fr := s.fr
 let to (k : List AI) : Out := .next { s with fr := { fr with todo := k } }
 match fr.mode with
 | .run => match fr.todo with
  | [] => EZ fr s.cs s.h none
  | .inBlock _ :: k => to k
  | .inScope _ :: k => to k
  | .inLoop body :: k => to (.code body :: .inLoop body :: k)
  | .ops _ [] :: k => to k
  | .ops all (o :: _) :: _ =>
   match DH all o fr.tmps with
   | some true => Cd E fr s.cs (aop E fr.tmps s.h o.op)
   | some false => Cd E fr s.cs (.val .undef s.h)
   | none => .bad "wanted"
  | .inRange _ :: _ => .bad "inRange"
  | .dead :: _ => .bad "dead"
  | .rest :: _ => .bad "rest"
  | .endRange l :: k => match s.h.blk.get l with
   | some (.loop st pending fn nt tmps params assign body defers) => match st with
    | .busy => .bad "loop busy"
    | _ => .next { s with fr := { fr with todo := match pending with | some c => .code c :: k | none => k }, h := s.h.put l (.loop .exhausted pending fn nt tmps params assign body defers) }
   | _ => .bad "endRange"
  | .beginRound :: k => match fr.round with
   | some l => match s.h.blk.get l with
    | some (.loop .ready pending fn nt tmps params assign body defers) =>
     .next { s with fr := { fr with todo := k }, h := s.h.put l (.loop .busy pending fn nt tmps params assign body defers) }
    | _ => .bad "beginRound"
   | none => .bad "beginRound"
  | .code c :: k => match c with
   | .ret => EZ fr s.cs s.h (some .ret)
   | .skip => to k
   | .label _ => to k
   | .seq a b => to (.code a :: .code b :: k)
   | .cond c x y => match Aj fr.tmps c with
    | .bool true => to (.code x :: k)
    | .bool false => to (.code y :: k)
    | .sb pos e => match AW U.facts e with
     | some c => match c == pos with
      | true => to (.code x :: k)
      | false => to (.code y :: k)
     | none => .bad "cond"
    | _ => .bad "cond"
   | .block id body => to (.code body :: .inBlock id :: k)
   | .loop body => to (.code body :: .inLoop body :: k)
   | .scope body => to (.code body :: .inScope body :: k)
   | .exit id => match M9 id k with
    | some k' => to k'
    | none => match H6 k with
     | true => .bad "exit"
     | false => EZ fr s.cs s.h (some (.exit id))
   | .goto l => match M2 l k with
    | some k' => to k'
    | none => match H6 k with
     | true => .bad "goto"
     | false => EZ fr s.cs s.h (some (.goto l))
   | .rangeFunc f params assign body => G0 E s f params.toList assign body k
   | .region _ ops draw => match draw with
    | false => to (.ops ops ops.toList :: k)
    | true => .draw s ops k
   | .refuse why => .bad why
 | _ => FX E fr s.cs s.h
structure Rc where
 wr : List Nat
 fp : Option (List Nat)
 lo : Nat
 hi : Nat
 dst : Option Tmp
 looks : List Tmp
 mask : Nat
 deriving Inhabited
def ko : AV → List Nat
 | .ptr b _ => [b]
 | .slice b _ _ _ => [b]
 | .map b => [b]
 | .asl b _ _ _ => [b]
 | .aptr b _ _ _ => [b]
 | .nmap b _ => [b]
 | _ => []
def iR : Operand → List Tmp
 | .tmp t => [t]
 | _ => []
def Cu (all : Array Oper) (o : Oper) : List Tmp :=
 o.op.operands.toList.flatMap iR ++ (match o.guard with
  | some (g, _) => (match all.toList[g]? with
   | some x => x.dst.toList
   | none => [])
  | none => [])
def Mp (b : Nat) : List Nat → Bool
 | [] => false
 | c :: r => match Nat.beq b c with
  | true => true
  | false => Mp b r
def K9 : List Nat → List Nat → Bool
 | [], _ => true
 | b :: r, l => match Mp b l with
  | true => false
  | false => K9 r l
def Lp (w : List Nat) : Option (List Nat) → Bool
 | none => w.isEmpty
 | some l => K9 w l
def Yh (l : List Nat) : Option Tmp → Bool
 | some d => Mp d l
 | none => false
def YE : Option Tmp → Option Tmp → Bool
 | some a, some b => Nat.beq a b
 | _, _ => false
def Xp (lo hi : Nat) : List Nat → Bool
 | [] => true
 | b :: r => match Nat.ble lo b && Nat.blt b hi with
  | true => false
  | false => Xp lo hi r
def Rc.apart (x y : Rc) : Bool :=
 Lp x.wr y.fp && Lp y.wr x.fp && K9 x.wr y.wr && Xp x.lo x.hi y.wr && !Yh y.looks x.dst && !Yh x.looks y.dst && !YE x.dst y.dst
def Fq (y : Rc) : List Rc → Nat → Bool
 | [], _ => true
 | x :: r, i => match Nat.beq (y.mask / 2 ^ i % 2) 1 || x.apart y with
  | true => Fq y r (i + 1)
  | false => false
def CO (recs : List Rc) : List Edge → Option Nat
 | [] => some 0
 | e :: r => match CO recs r with
  | none => none
  | some m => match Region.binds .any e with
   | false => some m
   | true => match recs[e.on]? with
    | some x => some (m ||| x.mask ||| 2 ^ e.on)
    | none => none
def Dv (h : Aa) : List Nat → T Aq
 | [] => .nil
 | b :: r => match h.blk.get b with
  | some x => (Dv h r).set b x
  | none => Dv h r
def HM (blk from_ : T Aq) : List Nat → T Aq
 | [] => blk
 | b :: r => match from_.get b, blk.get b with
  | some x, some _ => (HM blk from_ r).set b x
  | _, _ => (HM blk from_ r).del b
def Jf (blk from_ : T Aq) (i : Nat) : Nat → T Aq
 | 0 => blk
 | n + 1 => match from_.get i with
  | some x => (Jf blk from_ (i + 1) n).set i x
  | none => Jf blk from_ (i + 1) n
def Ly : Op → Bool
 | .next .. => false
 | .entry _ => false
 | .call c => match c.callee with
  | .builtin _ => true
  | _ => false
 | .defer _ => false
 | .panic _ => false
 | _ => true
def XV : Op → List Operand
 | .load _ a => [a]
 | .store _ a x => [a, x]
 | .convert _ _ x => [x]
 | .slice _ x _ _ _ => [x]
 | .lookup _ m _ _ => [m]
 | .mapUpdate _ m _ _ => [m]
 | .insert _ m _ _ => [m]
 | .mapEntry _ m _ => [m]
 | .entryStore _ m _ _ => [m]
 | .range _ x => [x]
 | .call c => c.args.toList
 | _ => []
def ZM : AV → List Nat
 | .slice b _ _ _ => [b]
 | .asl b _ _ _ => [b]
 | _ => []
def RB (c : T AV) : Nat → List Nat
 | 0 => []
 | n + 1 => match c.get n with
  | some a => ZM a ++ RB c n
  | none => RB c n
def gL (h : Aa) (b : Nat) : List Nat :=
 match h.blk.get b with
 | some (.cells n c) => match Nat.ble n 256 with
  | true => RB c n
  | false => []
 | _ => []
def lF : AV → List Nat
 | .agg l => l.flatMap ZM
 | a => ZM a
def W8 (tmps : T AV) (h : Aa) : Op → List Nat
 | .call c => match c.callee with
  | .builtin .append => (c.args.toList.flatMap fun x => ko (Aj tmps x)).flatMap (gL h)
  | _ => []
 | .store _ a x => match Aj tmps a with
  | .aptr .. => lF (Aj tmps x)
  | _ => []
 | _ => []
def Ul (tmps : T AV) (h : Aa) (o : Op) : List Nat := ((XV o).map (Aj tmps)).flatMap ko ++ W8 tmps h o
def CA (n : Nat) : List Nat → List Nat
 | [] => []
 | b :: r => match Nat.blt b n with
  | true => b :: CA n r
  | false => CA n r
def Bt (h g : Aa) : Aa :=
 { blk := Jf (HM h.blk g.blk (CA h.nx g.log)) g.blk h.nx (g.nx - h.nx), nx := g.nx, log := CA h.nx g.log ++ h.log }
def BO [Facts] (tmps : T AV) : List Tmp → T AV
 | [] => .nil
 | t :: r => match tmps.get t with
  | some v => (BO tmps r).set t (VF v)
  | none => BO tmps r
structure Did where
 ok : Bool
 v : AV
 g : Aa
 fp : Option (List Nat)
 deriving Inhabited
def GH [Facts] (E : Env) (callF : Ask → Aa → Option (Bool × AV × Aa)) (all : Array Oper) (o : Oper) (tmps : T AV) (h : Aa) : Option Did :=
 match DH all o tmps with
 | none => none
 | some false => some ⟨true, .undef, { blk := .nil, nx := h.nx, log := [] }, some []⟩
 | some true => match Ly o.op with
  | true =>
   let ids := Ul tmps h o.op
   match aop E tmps { blk := Dv h ids, nx := h.nx, log := [] } o.op with
   | .val v g => some ⟨true, v, g, some ids⟩
   | _ => none
  | false => match aop E tmps { h with log := [] } o.op with
   | .enter f args _ => match callF (.enter f args) { h with log := [] } with
    | some (ok, v, g) => some ⟨ok, v, g, none⟩
    | none => none
   | .round l args _ => match callF (.round l args) { h with log := [] } with
    | some (ok, v, g) => some ⟨ok, v, g, none⟩
    | none => none
   | _ => none
def Fp (recs : List Rc) (j : Nat) : List Oper → Bool
 | [] => true
 | o :: rest => match CO recs o.after.toList with
  | none => false
  | some mask => match Nat.beq (mask / 2 ^ j % 2) 1 with
   | false => false
   | true => Fp (recs ++ [{ wr := [], fp := none, lo := 0, hi := 0, dst := none, looks := [], mask }]) j rest
def Di [Facts] (E : Env) (callF : Ask → Aa → Option (Bool × AV × Aa)) (all : Array Oper) (nt : Nat) : List Oper → List Rc → T AV → Aa → Option (Option AV × T AV × Aa)
 | [], _, tmps, h => some (none, tmps, h)
 | o :: rest, recs, tmps, h =>
  match CO recs o.after.toList with
  | none => none
  | some mask => match GH E callF all o (BO tmps (Cu all o)) h with
   | none => none
   | some d => match Nat.ble h.nx d.g.nx, d.ok with
    | false, _ => none
    | true, true =>
     match Fq { wr := CA h.nx d.g.log, fp := d.fp, lo := h.nx, hi := d.g.nx, dst := o.dst, looks := Cu all o, mask } recs 0 with
     | false => none
     | true => match LB nt tmps o.dst d.v with
      | none => none
      | some tmps' => Di E callF all nt rest (recs ++ [{ wr := CA h.nx d.g.log, fp := d.fp, lo := h.nx, hi := d.g.nx, dst := o.dst, looks := Cu all o, mask }]) tmps' (Bt h d.g)
    | true, false => match Nat.beq (mask + 1) (2 ^ recs.length) && Fp (recs ++ [{ wr := [], fp := none, lo := 0, hi := 0, dst := none, looks := [], mask }]) recs.length rest with
     | true => some (some d.v, tmps, Bt h d.g)
     | false => none
end Go.AE
namespace Go.AE
theorem AG {i j : Nat} (h : Nat.beq i j = true) : i = j := Nat.eq_of_beq_eq_true h
theorem Tw {i j : Nat} (h : Nat.beq i j = false) : i ≠ j := Nat.ne_of_beq_eq_false h
theorem Fi (i : Nat) : Nat.beq i i = true := Nat.beq_refl i
theorem FM {i j : Nat} (h : i ≠ j) : Nat.beq i j = false := by
 cases e : Nat.beq i j with
 | false => rfl
 | true => exact absurd (AG e) h
theorem T.get_zero {α : Type} (v : Option α) (l r : T α) {i : Nat} (h : i = 0) : (T.node v l r).get i = v := by
 subst h; rfl
theorem T.get_odd {α : Type} (v : Option α) (l r : T α) {i : Nat} (h : i % 2 = 1) : (T.node v l r).get i = l.get (i / 2) := by
 rw [T.get, FM (show i ≠ 0 by omega), h]
theorem T.get_even {α : Type} (v : Option α) (l r : T α) {i : Nat} (h : i % 2 = 0) (h0 : i ≠ 0) : (T.node v l r).get i = r.get (i / 2 - 1) := by
 rw [T.get, FM h0, h]
theorem T.get_setF {α : Type} (x : Option α) : ∀ (f : Nat) (t : T α) (i j : Nat), i < f → (T.setF f t i x).get j = if i = j then x else t.get j := by
 intro f
 induction f with
 | zero => intro t i j h; omega
 | succ f ih =>
  intro t i j h
  have key : ∀ (v : Option α) (l r : T α), (T.setF (f + 1) (.node v l r) i x).get j = if i = j then x else (T.node v l r).get j := by
   intro v l r;by_cases hi : i = 0
   ·have e : T.setF (f + 1) (.node v l r) i x = .node x l r := by rw [T.setF, hi]
    rw [e];by_cases hj : i = j
    ·rw [if_pos hj, T.get_zero _ _ _ (by omega)]
    ·rw [if_neg hj];by_cases hp : j % 2 = 1
     ·rw [T.get_odd _ _ _ hp, T.get_odd _ _ _ hp]
     ·rw [T.get_even _ _ _ (by omega) (by omega), T.get_even _ _ _ (by omega) (by omega)]
   ·by_cases hp : i % 2 = 1
    ·have e : T.setF (f + 1) (.node v l r) i x = .node v (T.setF f l (i / 2) x) r := by rw [T.setF, FM hi, hp]
     rw [e];by_cases hj : j = 0
     ·rw [if_neg (by omega), T.get_zero _ _ _ hj, T.get_zero _ _ _ hj]
     ·by_cases hq : j % 2 = 1
      ·rw [T.get_odd _ _ _ hq, T.get_odd _ _ _ hq, ih l (i / 2) (j / 2) (by omega)]
       by_cases e : i = j
       ·rw [if_pos e, if_pos (by omega)]
       ·rw [if_neg e, if_neg (by omega)]
      ·rw [if_neg (by omega), T.get_even _ _ _ (by omega) hj, T.get_even _ _ _ (by omega) hj]
    ·have e : T.setF (f + 1) (.node v l r) i x = .node v l (T.setF f r (i / 2 - 1) x) := by
      rw [T.setF, FM hi, FM hp]
     rw [e];by_cases hj : j = 0
     ·rw [if_neg (by omega), T.get_zero _ _ _ hj, T.get_zero _ _ _ hj]
     ·by_cases hq : j % 2 = 1
      ·rw [if_neg (by omega), T.get_odd _ _ _ hq, T.get_odd _ _ _ hq]
      ·rw [T.get_even _ _ _ (by omega) hj, T.get_even _ _ _ (by omega) hj, ih r (i / 2 - 1) (j / 2 - 1) (by omega)]
       by_cases e : i = j
       ·rw [if_pos e, if_pos (by omega)]
       ·rw [if_neg e, if_neg (by omega)]
  cases t with
  | node v l r => exact key v l r
  | nil =>
   have h1 : T.setF (f + 1) .nil i x = T.setF (f + 1) (.node none .nil .nil) i x := by
    simp only [T.setF]
   have h2 : (T.node (none : Option α) .nil .nil).get j = (T.nil : T α).get j := by
    by_cases hj : j = 0
    ·rw [T.get_zero _ _ _ hj]; rfl
    ·by_cases hp : j % 2 = 1
     ·rw [T.get_odd _ _ _ hp]; rfl
     ·rw [T.get_even _ _ _ (by omega) hj]; rfl
   rw [h1, key, h2]
theorem T.get_set {α : Type} (t : T α) (i j : Nat) (x : α) : (t.set i x).get j = if i = j then some x else t.get j := T.get_setF _ _ _ _ _ (by omega)
theorem T.get_del {α : Type} (t : T α) (i j : Nat) : (t.del i).get j = if i = j then none else t.get j := T.get_setF _ _ _ _ _ (by omega)
theorem T.get_nil {α : Type} (i : Nat) : (T.nil : T α).get i = none := rfl
theorem T.get_ofListFrom {α : Type} : ∀ (l : List α) (i : Nat) (t : T α) (j : Nat), (T.ofListFrom l i t).get j = if i ≤ j ∧ j < i + l.length then l[j - i]? else t.get j := by
 intro l
 induction l with
 | nil => intro i t j; simp [T.ofListFrom]; omega
 | cons x r ih =>
  intro i t j;simp only [T.ofListFrom, ih, T.get_set, List.length_cons];by_cases h1 : i + 1 ≤ j ∧ j < i + 1 + r.length
  ·rw [if_pos h1, if_pos (by omega)]
   have : j - i = (j - (i + 1)) + 1 := by omega
   rw [this, List.getElem?_cons_succ]
  ·rw [if_neg h1];by_cases h2 : i = j
   ·subst h2; rw [if_pos rfl, if_pos (by omega)]; simp
   ·rw [if_neg h2, if_neg (by omega)]
theorem T.get_ofList {α : Type} (l : List α) (j : Nat) : (T.ofList l).get j = l[j]? := by
 simp only [T.ofList, T.get_ofListFrom, T.get_nil];by_cases h : j < l.length
 ·rw [if_pos (by omega)]; simp
 ·rw [if_neg (by omega)]; simp; omega
theorem T.range_spec {α : Type} (t : T α) : ∀ (n i : Nat) (l : List α), t.range i n = some l → l.length = n ∧ ∀ j, j < n → t.get (i + j) = l[j]? := by
 intro n
 induction n with
 | zero => intro i l h; simp [T.range] at h; subst h; simp
 | succ n ih =>
  intro i l h;simp only [T.range] at h;cases hx : t.get i with
  | none => simp [hx] at h
  | some x =>
   simp only [hx] at h;cases hr : t.range (i + 1) n with
   | none => simp [hr] at h
   | some r =>
    simp only [hr, Option.some.injEq] at h;subst h;obtain ⟨h1, h2⟩ := ih _ _ hr;refine ⟨by simp [h1], fun j hj => ?_⟩
    cases j with
    | zero => simpa using hx
    | succ j => have := h2 j (by omega); simp only [List.getElem?_cons_succ]; rw [← this]; congr 1; omega
theorem FT : ∀ (l : List AV) (c : T AV) (off j : Nat), (Fj c off l).get j = if off ≤ j ∧ j < off + l.length then l[j - off]? else c.get j := by
 intro l
 induction l with
 | nil => intro c off j; simp [Fj]; omega
 | cons x r ih =>
  intro c i j;simp only [Fj, ih, T.get_set, List.length_cons];by_cases h1 : i + 1 ≤ j ∧ j < i + 1 + r.length
  ·rw [if_pos h1, if_pos (by omega)]
   have : j - i = (j - (i + 1)) + 1 := by omega
   rw [this, List.getElem?_cons_succ]
  ·rw [if_neg h1];by_cases h2 : i = j
   ·subst h2; rw [if_pos rfl, if_pos (by omega)]; simp
   ·rw [if_neg h2, if_neg (by omega)]
variable [U : Vals]
structure Db where
 cb : Nat
 co : Nat
 csz : Nat
structure Ren where
 m : Nat → Option Db
 imm : Nat → Option (Array Value)
instance : CoeFun Ren (fun _ => Nat → Option Db) := ⟨Ren.m⟩
def Ren.empty : Ren := ⟨fun _ => none, fun _ => none⟩
structure Ren.le (ρ σ : Ren) : Prop where
 m : ∀ b base, ρ b = some base → σ b = some base
 imm : ∀ k a, ρ.imm k = some a → σ.imm k = some a
theorem Ren.le_refl (ρ : Ren) : ρ.le ρ := ⟨fun _ _ h => h, fun _ _ h => h⟩
theorem Ren.le.trans {ρ σ τ : Ren} (h : ρ.le σ) (k : σ.le τ) : ρ.le τ := ⟨fun b base e => k.m b base (h.m b base e), fun b a e => k.imm b a (h.imm b a e)⟩
def Ren.upd (ρ : Ren) (b : Nat) (base : Db) : Ren := ⟨fun c => if c = b then some base else ρ c, ρ.imm⟩
theorem Ren.le_upd {ρ : Ren} {b : Nat} (h : ρ b = none) (base : Db) : ρ.le (ρ.upd b base) := by
 refine ⟨?_, fun _ _ h => h⟩
 intro c d hc;unfold Ren.upd;by_cases e : c = b
 ·subst e; rw [h] at hc; cases hc
 ·show (if c = b then some base else ρ c) = some d
  rw [if_neg e]; exact hc
theorem Ren.upd_same (ρ : Ren) (b : Nat) (base : Db) : ρ.upd b base b = some base := by simp [Ren.upd]
inductive DV (K : TypeId → Option (List Kd)) (M : Nat → Option (Array Value)) : Kd → Value → D → Prop
 | bool (b : Bool) (d : D) (h : d.toBool = b) : DV K M .bool (.bool b) d
 | int (k : IntKind) (n : Int) (d : D) (hr : k = .i64 ∨ (k.min ≤ n ∧ n ≤ k.max)) (h : d.toInt = n) : DV K M (.int k) (.int k n) d
 | str (s : ByteArray) (d : D) (h : d.toStr = s) : DV K M .str (.string s) d
 | nil (e : TypeId) (d : D) (h1 : d.isNil = true) (h2 : d.rows = []) : DV K M (.slice e) (.slice none 0 0) d
 | empty (e : TypeId) (a : Addr) (cap : Nat) (d : D) (h1 : d.isNil = false) (h2 : d.rows = []) : DV K M (.slice e) (.slice (some a) 0 cap) d
 | slc (e : TypeId) (b off n cap : Nat) (d : D) (ks : List Kd) (arr : Array Value) (hk : K e = some ks) (ha : M b = some arr) (hn : d.rows.length = n) (hc : n ≤ cap) (h1 : d.isNil = false)
   (hin : off + n * ks.length ≤ arr.size) (hrow : ∀ i, i < n → (d.rows.getD i default).cells.length = ks.length)
   (hv : ∀ i j kd, i < n → ks[j]? = some kd → DV K M kd (arr.getD (off + i * ks.length + j) Go.undef) ((d.rows.getD i default).cells.getD j default)) :
   DV K M (.slice e) (.slice (some ⟨b, off, none⟩) n cap) d
omit U in
theorem DV.mono {K : TypeId → Option (List Kd)} {M N : Nat → Option (Array Value)} (hle : ∀ k a, M k = some a → N k = some a) {k : Kd} {v : Value} {d : D} (h : DV K M k v d) : DV K N k v d := by
 induction h with
 | bool b d h => exact .bool b d h
 | int k n d hr h => exact .int k n d hr h
 | str s d h => exact .str s d h
 | nil e d h1 h2 => exact .nil e d h1 h2
 | empty e a cap d h1 h2 => exact .empty e a cap d h1 h2
 | slc e b off n cap d ks arr hk ha hn hc h1 hin hrow hv ih => exact .slc e b off n cap d ks arr hk (hle _ _ ha) hn hc h1 hin hrow ih
omit U in
theorem DV.slice_inv {K : TypeId → Option (List Kd)} {M : Nat → Option (Array Value)} {e : TypeId} {v : Value} {d : D} (h : DV K M (.slice e) v d) : ∃ a n c, v = .slice a n c ∧ d.rows.length = n := by
 cases h with
 | nil _ _ h1 h2 => exact ⟨_, _, _, rfl, by rw [h2]; rfl⟩
 | empty _ _ _ _ h1 h2 => exact ⟨_, _, _, rfl, by rw [h2]; rfl⟩
 | slc _ _ _ _ _ _ _ _ hk ha hn => exact ⟨_, _, _, rfl, hn⟩
def Bo (K : TypeId → Option (List Kd)) (M : Nat → Option (Array Value)) (ks : List Kd) (cur : Array Value) (off : Nat) (rows : List D) : Prop :=
 off + rows.length * ks.length ≤ cur.size ∧ (∀ i, i < rows.length → (rows.getD i default).cells.length = ks.length) ∧
  ∀ i j kd, i < rows.length → ks[j]? = some kd → DV K M kd (cur.getD (off + i * ks.length + j) Go.undef) ((rows.getD i default).cells.getD j default)
omit U in
theorem Bo.mono {K : TypeId → Option (List Kd)} {M N : Nat → Option (Array Value)} (hle : ∀ k a, M k = some a → N k = some a) {ks : List Kd} {cur : Array Value} {off : Nat} {rows : List D} (h : Bo K M ks cur off rows) : Bo K N ks cur off rows :=
 ⟨h.1, h.2.1, fun i j kd a b => (h.2.2 i j kd a b).mono hle⟩
def S1 : List Value → Value
 | [v] => v
 | l => .agg l.toArray
def KV (K : TypeId → Option (List Kd)) (M : Nat → Option (Array Value)) (ks : List Kd) (v : Value) (cs : List D) : Prop :=
 ∃ l : List Value, v = S1 l ∧ l.length = ks.length ∧ (∀ u, l = [u] → ∀ a, u ≠ .agg a) ∧ ∀ (j : Nat) kd, ks[j]? = some kd → DV K M kd (l.getD j Go.undef) (cs.getD j default)
omit U in
theorem KV.mono {K : TypeId → Option (List Kd)} {M N : Nat → Option (Array Value)} (hle : ∀ k a, M k = some a → N k = some a) {ks : List Kd} {v : Value} {cs : List D} (h : KV K M ks v cs) : KV K N ks v cs := by
 obtain ⟨l, h1, h2, h3, h4⟩ := h;exact ⟨l, h1, h2, h3, fun j kd hj => (h4 j kd hj).mono hle⟩
def Bq (K : TypeId → Option (List Kd)) (M : Nat → Option (Array Value)) (kks vks : List Kd) : List MapEntry → List D → Prop
 | [], [] => True
 | e :: es, r :: rs => r.cells.length = kks.length + vks.length ∧ KV K M kks e.key r.cells ∧ KV K M vks e.val (r.cells.drop kks.length) ∧ Bq K M kks vks es rs
 | _, _ => False
omit U in
theorem Bq.mono {K : TypeId → Option (List Kd)} {M N : Nat → Option (Array Value)} (hle : ∀ k a, M k = some a → N k = some a) {kks vks : List Kd} : ∀ {es : List MapEntry} {rs : List D}, Bq K M kks vks es rs → Bq K N kks vks es rs
 | [], [], _ => trivial
 | _ :: _, _ :: _, ⟨h1, h2, h3, h4⟩ => ⟨h1, h2.mono hle, h3.mono hle, h4.mono hle⟩
 | [], _ :: _, h => h.elim
 | _ :: _, [], h => h.elim
omit U in
theorem Bq.length {K : TypeId → Option (List Kd)} {M : Nat → Option (Array Value)} {kks vks : List Kd} : ∀ {es : List MapEntry} {rs : List D}, Bq K M kks vks es rs → es.length = rs.length
 | [], [], _ => rfl
 | _ :: _, _ :: _, ⟨_, _, _, h4⟩ => by simp [h4.length]
 | [], _ :: _, h => h.elim
 | _ :: _, [], h => h.elim
def FnR (ρ : Ren) : Fn → Fn → Prop
 | .yield l, g => ∃ base, ρ l = some base ∧ g = .yield base.cb
 | f, g => g = f
inductive VR (ρ : Ren) : AV → Value → Prop
 | top (v : Value) : VR ρ .top v
 | bool (b : Bool) : VR ρ (.bool b) (.bool b)
 | int (k : IntKind) (n : Int) : VR ρ (.int k n) (.int k n)
 | str (s : ByteArray) : VR ρ (.str s.data.toList.length (AH s.data.toList)) (.string s)
 | ptr0 : VR ρ .ptr0 (.pointer none)
 | ptr (b off : Nat) (base : Db) (h : ρ b = some base) : VR ρ (.ptr b off) (.pointer (some ⟨base.cb, base.co + off, none⟩))
 | slice0 : VR ρ .slice0 (.slice none 0 0)
 | slice (b off n es cap : Nat) (base : Db) (h : ρ b = some base) (hc : n ≤ cap) (hz : base.co + off + cap * es ≤ base.csz) :
   VR ρ (.slice b off n es) (.slice (some ⟨base.cb, base.co + off, none⟩) n cap)
 | sliceEnd (b off es : Nat) (a : Addr) : VR ρ (.slice b off 0 es) (.slice (some a) 0 0)
 | map0 : VR ρ .map0 (.map none)
 | map (b : Nat) (base : Db) (h : ρ b = some base) : VR ρ (.map b) (.map (some base.cb))
 | func (fn fn' : Fn) (f c : List AV) (f' c' : List Value) (h : FnR ρ fn fn') (h1 : f.length = f'.length)
   (h2 : ∀ (i : Nat) (a : AV) (v : Value), f[i]? = some a → f'[i]? = some v → VR ρ a v) (h3 : c.length = c'.length)
   (h4 : ∀ (i : Nat) (a : AV) (v : Value), c[i]? = some a → c'[i]? = some v → VR ρ a v) : VR ρ (.func fn f c) (.func fn' f'.toArray c'.toArray)
 | nilFunc : VR ρ .nilFunc .nilFunc
 | iface (t : TypeId) (a : AV) (v : Value) (h : VR ρ a v) : VR ρ (.iface t a) (.iface t v)
 | nilIface : VR ρ .nilIface .nilIface
 | agg (l : List AV) (l' : List Value) (h1 : l.length = l'.length) (h2 : ∀ (i : Nat) (a : AV) (v : Value), l[i]? = some a → l'[i]? = some v → VR ρ a v) : VR ρ (.agg l) (.agg l'.toArray)
 | tuple (l : List AV) (l' : List Value) (h1 : l.length = l'.length) (h2 : ∀ (i : Nat) (a : AV) (v : Value), l[i]? = some a → l'[i]? = some v → VR ρ a v) : VR ρ (.tuple l) (.tuple l'.toArray)
 | sb (pos : Bool) (e : SB) : VR ρ (.sb pos e) (.bool (Ah U.V e == pos))
 | si (k : IntKind) (e : SE) : VR ρ (.si k e) (.int k (Ad U.V e))
 | ss (x : SE) : VR ρ (.ss x) (.string (AT U.V x))
 | dat (e : TypeId) (x : SE) (a : Option Addr) (n c : Nat) (h : DV U.K ρ.imm (.slice e) (.slice a n c) (Ab U.V x)) : VR ρ (.dat e x) (.slice a n c)
 | dptr (e : TypeId) (x i : SE) (off : Nat) (b o n cap : Nat) (ks : List Kd) (h : DV U.K ρ.imm (.slice e) (.slice (some ⟨b, o, none⟩) n cap) (Ab U.V x)) (hk : U.K e = some ks)
   (h0 : 0 ≤ Ad U.V i) (hi : (Ad U.V i).toNat < n) (ho : off < ks.length) : VR ρ (.dptr e x i off) (.pointer (some ⟨b, o + (Ad U.V i).toNat * ks.length + off, none⟩))
 | asl (b es : Nat) (n nl : SE) (cap : Nat) (base : Db) (h : ρ b = some base) (h0 : 0 ≤ Ad U.V n) (hc : (Ad U.V n).toNat ≤ cap) (hz : base.co + cap * es ≤ base.csz) (hn : Ah U.V nl = false) :
   VR ρ (.asl b es n nl) (.slice (some ⟨base.cb, base.co, none⟩) (Ad U.V n).toNat cap)
 | aslEnd (b es : Nat) (n nl : SE) (a : Option Addr) (h0 : Ad U.V n = 0) (hn : a.isNone = Ah U.V nl) : VR ρ (.asl b es n nl) (.slice a 0 0)
 | eslc (nl : SE) (a : Option Addr) (hn : a.isNone = Ah U.V nl) : VR ρ (.eslc nl) (.slice a 0 0)
 | aptr (b es : Nat) (i : SE) (off : Nat) (base : Db) (h : ρ b = some base) (h0 : 0 ≤ Ad U.V i) : VR ρ (.aptr b es i off) (.pointer (some ⟨base.cb, base.co + (Ad U.V i).toNat * es + off, none⟩))
 | nmap (b : Nat) (nl : SE) (base : Db) (h : ρ b = some base) (hn : Ah U.V nl = false) : VR ρ (.nmap b nl) (.map (some base.cb))
 | nmap0 (b : Nat) (nl : SE) (hn : Ah U.V nl = true) : VR ρ (.nmap b nl) (.map none)
def VL (ρ : Ren) (l : List AV) (l' : List Value) : Prop := l.length = l'.length ∧ ∀ (i : Nat) (a : AV) (v : Value), l[i]? = some a → l'[i]? = some v → VR ρ a v
theorem VL.nil (ρ : Ren) : VL ρ [] [] := ⟨rfl, by simp⟩
theorem VL.cons {ρ : Ren} {a : AV} {v : Value} {l : List AV} {l' : List Value} (h : VR ρ a v) (k : VL ρ l l') : VL ρ (a :: l) (v :: l') := by
 refine ⟨by simp [k.1], fun i x y hx hy => ?_⟩
 cases i with
 | zero => simp at hx hy; subst hx; subst hy; exact h
 | succ i => simp at hx hy; exact k.2 i x y hx hy
theorem VL.nil_inv {ρ : Ren} {l' : List Value} (h : VL ρ [] l') : l' = [] := by
 have := h.1; simp at this; exact List.eq_nil_of_length_eq_zero this.symm
theorem VL.cons_inv {ρ : Ren} {a : AV} {l : List AV} {l' : List Value} (h : VL ρ (a :: l) l') : ∃ v r, l' = v :: r ∧ VR ρ a v ∧ VL ρ l r := by
 cases l' with
 | nil => have := h.1; simp at this
 | cons v r => exact ⟨v, r, rfl, h.2 0 a v rfl rfl, by have := h.1; simpa using this, fun i x y hx hy => h.2 (i + 1) x y (by simpa using hx) (by simpa using hy)⟩
theorem VL.append {ρ : Ren} {l m : List AV} {l' m' : List Value} (h : VL ρ l l') (k : VL ρ m m') : VL ρ (l ++ m) (l' ++ m') := by
 refine ⟨by simp [h.1, k.1], fun i x y hx hy => ?_⟩
 by_cases hi : i < l.length
 ·rw [List.getElem?_append_left hi] at hx;rw [List.getElem?_append_left (by rw [← h.1]; exact hi)] at hy
  exact h.2 i x y hx hy
 ·rw [List.getElem?_append_right (by omega)] at hx
  rw [List.getElem?_append_right (by rw [← h.1]; omega), ← h.1] at hy
  exact k.2 _ x y hx hy
theorem VL.get {ρ : Ren} {l : List AV} {l' : List Value} (h : VL ρ l l') {i : Nat} {a : AV} (ha : l[i]? = some a) : ∃ v, l'[i]? = some v ∧ VR ρ a v := by
 have hi : i < l.length := (List.getElem?_eq_some_iff.1 ha).1;have hi' : i < l'.length := by rw [← h.1]; exact hi
 exact ⟨l'[i], by simp [hi'], h.2 i a _ ha (by simp [hi'])⟩
theorem VL.drop {ρ : Ren} {l : List AV} {l' : List Value} (h : VL ρ l l') (n : Nat) : VL ρ (l.drop n) (l'.drop n) :=
 ⟨by simp [h.1], fun i a v ha hv => h.2 (n + i) a v (by simpa using ha) (by simpa using hv)⟩
theorem VL.take {ρ : Ren} {l : List AV} {l' : List Value} (h : VL ρ l l') (n : Nat) : VL ρ (l.take n) (l'.take n) := by
 refine ⟨by simp [h.1], fun i a v ha hv => ?_⟩
 rw [List.getElem?_take] at ha hv;by_cases e : i < n
 ·rw [if_pos e] at ha hv; exact h.2 i a v ha hv
 ·rw [if_neg e] at ha; cases ha
theorem FnR.mono {ρ σ : Ren} (hle : ρ.le σ) {f g : Fn} (h : FnR ρ f g) : FnR σ f g := by
 cases f <;> simp only [FnR] at h ⊢ <;> first | exact h | (obtain ⟨base, h1, h2⟩ := h; exact ⟨base, hle.m _ _ h1, h2⟩)
theorem VR.mono {ρ σ : Ren} (hle : ρ.le σ) {a : AV} {v : Value} (h : VR ρ a v) : VR σ a v := by
 induction h with
 | top v => exact .top v
 | bool b => exact .bool b
 | int k n => exact .int k n
 | str s => exact .str s
 | ptr0 => exact .ptr0
 | ptr b off base h => exact .ptr b off base (hle.m _ _ h)
 | slice0 => exact .slice0
 | slice b off n es cap base h hc hz => exact .slice b off n es cap base (hle.m _ _ h) hc hz
 | sliceEnd b off es a => exact .sliceEnd b off es a
 | map0 => exact .map0
 | map b base h => exact .map b base (hle.m _ _ h)
 | func fn fn' f c f' c' h h1 h2 h3 h4 ih2 ih4 => exact .func fn fn' f c f' c' (h.mono hle) h1 ih2 h3 ih4
 | nilFunc => exact .nilFunc
 | iface t a v h ih => exact .iface t a v ih
 | nilIface => exact .nilIface
 | agg l l' h1 h2 ih => exact .agg l l' h1 ih
 | tuple l l' h1 h2 ih => exact .tuple l l' h1 ih
 | sb pos e => exact .sb pos e
 | si k e => exact .si k e
 | ss x => exact .ss x
 | dat e x a n c h => exact .dat e x a n c (h.mono hle.imm)
 | dptr e x i off b o n cap ks h hk h0 hi ho => exact .dptr e x i off b o n cap ks (h.mono hle.imm) hk h0 hi ho
 | asl b es n nl cap base h h0 hc hz hn => exact .asl b es n nl cap base (hle.m _ _ h) h0 hc hz hn
 | aslEnd b es n nl a h0 hn => exact .aslEnd b es n nl a h0 hn
 | eslc nl a hn => exact .eslc nl a hn
 | aptr b es i off base h h0 => exact .aptr b es i off base (hle.m _ _ h) h0
 | nmap b nl base h hn => exact .nmap b nl base (hle.m _ _ h) hn
 | nmap0 b nl hn => exact .nmap0 b nl hn
theorem VL.mono {ρ σ : Ren} (hle : ρ.le σ) {l : List AV} {l' : List Value} (h : VL ρ l l') : VL σ l l' := ⟨h.1, fun i a v ha hv => (h.2 i a v ha hv).mono hle⟩
theorem VR.undef (ρ : Ren) : VR ρ .undef Go.undef := .tuple [] [] rfl (by simp)
structure TR (ρ : Ren) (nt : Nat) (t : T AV) (a : Array Value) : Prop where
 size : a.size = nt
 get : ∀ i x, t.get i = some x → VR ρ x (a.getD i Go.undef)
theorem TR.mono {ρ σ : Ren} (hle : ρ.le σ) {nt : Nat} {t : T AV} {a : Array Value} (h : TR ρ nt t a) : TR σ nt t a := ⟨h.size, fun i x hx => (h.get i x hx).mono hle⟩
def DR (ρ : Ren) (d : AD) (d' : Deferred) : Prop :=
 match d.fn with
 | some fn => ∃ fn' c' a', FnR ρ fn fn' ∧ VL ρ d.captured c' ∧ VL ρ d.args a' ∧ d' = { target := .fn fn' c'.toArray, args := a'.toArray }
 | none => ∃ base, ρ d.coll = some base ∧ d' = { target := .collected base.cb, args := #[] }
def DL (ρ : Ren) : List AD → List Deferred → Prop
 | [], [] => True
 | d :: r, d' :: r' => DR ρ d d' ∧ DL ρ r r'
 | _, _ => False
theorem DR.mono {ρ σ : Ren} (hle : ρ.le σ) {d : AD} {d' : Deferred} (h : DR ρ d d') : DR σ d d' := by
 unfold DR at *;cases hf : d.fn with
 | none => rw [hf] at h; obtain ⟨base, h1, h2⟩ := h; exact ⟨base, hle.m _ _ h1, h2⟩
 | some fn => rw [hf] at h; obtain ⟨fn', c', a', h1, h2, h3, h4⟩ := h; exact ⟨fn', c', a', h1.mono hle, h2.mono hle, h3.mono hle, h4⟩
theorem DL.mono {ρ σ : Ren} (hle : ρ.le σ) : ∀ {l : List AD} {l' : List Deferred}, DL ρ l l' → DL σ l l'
 | [], [], _ => trivial
 | _ :: _, _ :: _, ⟨h1, h2⟩ => ⟨h1.mono hle, h2.mono hle⟩
theorem DL.append {ρ : Ren} : ∀ {l : List AD} {l' : List Deferred} {m : List AD} {m' : List Deferred}, DL ρ l l' → DL ρ m m' → DL ρ (l ++ m) (l' ++ m')
 | [], [], _, _, _, h => h
 | _ :: _, _ :: _, _, _, ⟨h1, h2⟩, h => ⟨h1, DL.append h2 h⟩
def ER (ρ : Ren) : List AP → List MapEntry → Prop
 | [], [] => True
 | e :: r, e' :: r' => VR ρ e.key e'.key ∧ VR ρ e.val e'.val ∧ e'.born = e.born ∧ ER ρ r r'
 | _, _ => False
theorem ER.mono {ρ σ : Ren} (hle : ρ.le σ) : ∀ {l : List AP} {l' : List MapEntry}, ER ρ l l' → ER σ l l'
 | [], [], _ => trivial
 | _ :: _, _ :: _, ⟨h1, h2, h3, h4⟩ => ⟨h1.mono hle, h2.mono hle, h3, h4.mono hle⟩
def BR (ρ : Ren) (x : Aq) (base : Db) (o : Option Obj) : Prop :=
 match x with
 | .cells n c => ∃ cur e fz, o = some (.cells cur e fz) ∧ cur.size = base.csz ∧ base.co + n ≤ base.csz ∧ (fz.1 = fz.2 ∨ base.csz ≤ fz.1) ∧
   ∀ i a, i < n → c.get i = some a → ∃ v, cur[base.co + i]? = some v ∧ VR ρ a v
 | .arr e x => ∃ ks cur et fz, U.K e = some ks ∧ o = some (.cells cur et fz) ∧ cur.size = base.csz ∧ (fz.1 = fz.2 ∨ base.csz ≤ fz.1) ∧ Bo U.K ρ.imm ks cur base.co (Ab U.V x).rows
 | .map es clock => ∃ es' : List MapEntry, o = some (.map es'.toArray clock) ∧ ER ρ es es'
 | .dmap kt vt x => ∃ kks vks, ∃ es' : List MapEntry, ∃ clock, U.K kt = some kks ∧ U.K vt = some vks ∧ o = some (.map es'.toArray clock) ∧ Bq U.K ρ.imm kks vks es' (Ab U.V x).rows
 | .loop st pending fn nt tmps params assign body d => ∃ tm bd, ρ d = some bd ∧ TR ρ nt tmps tm ∧
   o = some (.loop { state := st, pending := pending, fn := fn, tmps := tm, params := params.toArray, assign := assign, body := body, defers := bd.cb })
 | .deferred ds => match ds with
  | none => o = some (.deferred none)
  | some l => ∃ l', DL ρ l l' ∧ o = some (.deferred (some l'))
 | .mapIter m since seen last => base.co = 0 ∧ (match m with
  | none => o = some (.mapIter none since seen.toArray last)
  | some b => ∃ bm, ρ b = some bm ∧ o = some (.mapIter (some bm.cb) since seen.toArray last))
theorem BR.mono {ρ σ : Ren} (hle : ρ.le σ) {x : Aq} {base : Db} {o : Option Obj} (h : BR ρ x base o) : BR σ x base o := by
 cases x with
 | cells n c =>
  obtain ⟨cur, e, fz, h1, h2, h3, h4, h5⟩ := h;exact ⟨cur, e, fz, h1, h2, h3, h4, fun i a hi ha => let ⟨v, hv, hr⟩ := h5 i a hi ha; ⟨v, hv, hr.mono hle⟩⟩
 | arr e x => obtain ⟨ks, cur, et, fz, h1, h2, h3, h4, h5⟩ := h; exact ⟨ks, cur, et, fz, h1, h2, h3, h4, h5.mono hle.imm⟩
 | map es clock => obtain ⟨es', h1, h2⟩ := h; exact ⟨es', h1, h2.mono hle⟩
 | dmap kt vt x => obtain ⟨kks, vks, es', c, h1, h2, h3, h4⟩ := h; exact ⟨kks, vks, es', c, h1, h2, h3, h4.mono hle.imm⟩
 | loop st pending fn nt tmps params assign body d => obtain ⟨tm, bd, h1, h2, h3⟩ := h; exact ⟨tm, bd, hle.m _ _ h1, h2.mono hle, h3⟩
 | deferred ds => cases ds with
  | none => exact h
  | some l => obtain ⟨l', h1, h2⟩ := h; exact ⟨l', h1.mono hle, h2⟩
 | mapIter m since seen last => cases m with
  | none => exact h
  | some b => obtain ⟨h0, bm, h1, h2⟩ := h; exact ⟨h0, bm, hle.m _ _ h1, h2⟩
structure HR (ρ : Ren) (g : Nat → Option Aq) (w : World) : Prop where
 lt : ∀ b base, ρ b = some base → base.cb < w.heap.size
 blk : ∀ b base x, ρ b = some base → g b = some x → BR ρ x base w.heap[base.cb]?
 apart : ∀ b b' base base', b ≠ b' → ρ b = some base → ρ b' = some base' → g b ≠ none → g b' ≠ none → base.cb ≠ base'.cb
 imm : ∀ k arr, ρ.imm k = some arr → ∃ e fz, w.heap[k]? = some (.cells arr e fz)
 off : ∀ k arr b base, ρ.imm k = some arr → ρ b = some base → g b ≠ none → base.cb ≠ k
theorem HR.immLt {ρ : Ren} {g : Nat → Option Aq} {w : World} (h : HR ρ g w) {k : Nat} {arr : Array Value} (hk : ρ.imm k = some arr) : k < w.heap.size := by
 obtain ⟨e, fz, h1⟩ := h.imm k arr hk;exact (Array.getElem?_eq_some_iff.1 h1).1
theorem HR.restrict {ρ : Ren} {g g' : Nat → Option Aq} {w : World} (h : HR ρ g w) (hg : ∀ b, g' b = none ∨ g' b = g b) : HR ρ g' w := by
 have live : ∀ b, g' b ≠ none → g b ≠ none := by
  intro b hb;rcases hg b with e | e
  ·exact absurd e hb
  ·exact e ▸ hb
 refine ⟨h.lt, fun b base x hb hx => ?_, fun b b' base base' hne hb hb' h1 h2 => h.apart b b' base base' hne hb hb' (live b h1) (live b' h2), h.imm, fun k arr b base hk hb hl => h.off k arr b base hk hb (live b hl)⟩
 rcases hg b with e | e
 ·rw [e] at hx; cases hx
 ·exact h.blk b base x hb (e ▸ hx)
structure Hz (w w' : World) : Prop where
 os : w'.os = w.os
 tape : w'.tape = w.tape
 output : w'.output = w.output
 size : w.heap.size ≤ w'.heap.size
theorem Hz.refl (w : World) : Hz w w := ⟨rfl, rfl, rfl, Nat.le_refl _⟩
theorem Hz.trans {a b c : World} (h : Hz a b) (k : Hz b c) : Hz a c := ⟨k.os.trans h.os, k.tape.trans h.tape, k.output.trans h.output, Nat.le_trans h.size k.size⟩
structure Ext (ρ σ : Ren) (h h' : Aa) (w w' : World) : Prop where
 le : ρ.le σ
 nx : h.nx ≤ h'.nx
 new : ∀ b base, σ b = some base → ρ b = some base ∨ (h.nx ≤ b ∧ b < h'.nx ∧ (w.heap.size ≤ base.cb ∨ ∃ b0 base0, ρ b0 = some base0 ∧ h.blk.get b0 ≠ none ∧ base0.cb = base.cb))
 calm : Hz w w'
 kept : ∀ k, k < w.heap.size → (∀ b base, ρ b = some base → h.blk.get b ≠ none → base.cb ≠ k) → w'.heap[k]? = w.heap[k]?
 log : ∃ l, h'.log = l ++ h.log ∧ ∀ b, b ∉ l → (b < h.nx ∨ h'.nx ≤ b) → h'.blk.get b = h.blk.get b
 live : ∀ b, h'.blk.get b ≠ none → h.blk.get b ≠ none ∨ (h.nx ≤ b ∧ b < h'.nx)
 imm : ∀ k arr, σ.imm k = some arr → ρ.imm k = some arr ∨ w.heap.size ≤ k ∨ ∃ b0 base0, ρ b0 = some base0 ∧ h.blk.get b0 ≠ none ∧ base0.cb = k
def Bg (ρ : Ren) (n m : Nat) : Prop := ∀ b, n ≤ b → b < m → ρ b = none
theorem Ext.refl (ρ : Ren) (h : Aa) (w : World) : Ext ρ ρ h h w w :=
 ⟨Ren.le_refl ρ, Nat.le_refl _, fun _ _ e => .inl e, Hz.refl w, fun _ _ _ => rfl, ⟨[], rfl, fun _ _ _ => rfl⟩, fun _ e => .inl e, fun _ _ e => .inl e⟩
theorem Ext.free {ρ σ : Ren} {h h' : Aa} {w w' : World} (e : Ext ρ σ h h' w w') {m : Nat} (f : Bg ρ h.nx m) : Bg σ h'.nx m := by
 intro b hb hm;have := e.nx;cases hs : σ b with
 | none => rfl
 | some base =>
  rcases e.new b base hs with h1 | ⟨_, h2, _⟩
  ·rw [f b (by omega) hm] at h1; cases h1
  ·omega
theorem Ext.trans {ρ σ τ : Ren} {h h1 h2 : Aa} {w w1 w2 : World} (e : Ext ρ σ h h1 w w1) (k : Ext σ τ h1 h2 w1 w2) (f : Bg ρ h.nx h2.nx) : Ext ρ τ h h2 w w2 := by
 have n1 := e.nx;have n2 := k.nx;have hs := e.calm.size
 have old : ∀ b base, σ b = some base → h1.blk.get b ≠ none → (ρ b = some base ∧ h.blk.get b ≠ none) ∨ (w.heap.size ≤ base.cb ∨ ∃ b0 base0, ρ b0 = some base0 ∧ h.blk.get b0 ≠ none ∧ base0.cb = base.cb) := by
  intro b base hb hl;rcases e.new b base hb with h3 | ⟨_, _, h3⟩
  ·rcases e.live b hl with h4 | ⟨h4, h5⟩
   ·exact .inl ⟨h3, h4⟩
   ·rw [f b h4 (by omega)] at h3; cases h3
  ·exact .inr h3
 refine ⟨e.le.trans k.le, by omega, ?_, e.calm.trans k.calm, ?_, ?_, ?_, ?_⟩
 ·intro b base hb;rcases k.new b base hb with h3 | ⟨h3, h4, h5⟩
  ·rcases e.new b base h3 with h6 | ⟨h6, h7, h8⟩
   ·exact .inl h6
   ·exact .inr ⟨h6, by omega, h8⟩
  ·refine .inr ⟨by omega, h4, ?_⟩
   rcases h5 with h5 | ⟨b0, base0, h6, h7, h8⟩
   ·exact .inl (by omega)
   ·rcases old b0 base0 h6 h7 with ⟨h9, h10⟩ | h9 | ⟨b1, base1, h9, h10, h11⟩
    ·exact .inr ⟨b0, base0, h9, h10, h8⟩
    ·exact .inl (by omega)
    ·exact .inr ⟨b1, base1, h9, h10, h11.trans h8⟩
 ·intro j hj hn;rw [k.kept j (by omega) ?_, e.kept j hj hn]
  intro b base hb hl;rcases old b base hb hl with ⟨h3, h4⟩ | h3 | ⟨b0, base0, h3, h4, h5⟩
  ·exact hn b base h3 h4
  ·omega
  ·rw [← h5]; exact hn b0 base0 h3 h4
 ·obtain ⟨l, hl, hl'⟩ := e.log;obtain ⟨m, hm, hm'⟩ := k.log;refine ⟨m ++ l, by rw [hm, hl, List.append_assoc], fun b hb hr => ?_⟩
  simp only [List.mem_append, not_or] at hb;rw [hm' b hb.1 (by omega), hl' b hb.2 (by omega)]
 ·intro b hb;rcases k.live b hb with h3 | ⟨h3, h4⟩
  ·rcases e.live b h3 with h5 | ⟨h5, h6⟩
   ·exact .inl h5
   ·exact .inr ⟨h5, by omega⟩
  ·exact .inr ⟨by omega, h4⟩
 ·intro j arr hj;rcases k.imm j arr hj with h3 | h3 | ⟨b0, base0, h3, h4, h5⟩
  ·exact e.imm j arr h3
  ·exact .inr (.inl (by omega))
  ·rcases old b0 base0 h3 h4 with ⟨h6, h7⟩ | h6 | ⟨b1, base1, h6, h7, h8⟩
   ·exact .inr (.inr ⟨b0, base0, h6, h7, h5⟩)
   ·exact .inr (.inl (by omega))
   ·exact .inr (.inr ⟨b1, base1, h6, h7, h8.trans h5⟩)
theorem HR.new {ρ : Ren} {h : Aa} {w : World} (hr : HR ρ h.blk.get w) (hf : ρ h.nx = none) (x : Aq) (o : Obj) (csz : Nat)
  (hbr : BR (ρ.upd h.nx ⟨w.heap.size, 0, csz⟩) x ⟨w.heap.size, 0, csz⟩ (some o)) (w' : World) (hw : w'.heap = w.heap.push o) (hos : w'.os = w.os) (ht : w'.tape = w.tape) (ho : w'.output = w.output) :
  HR (ρ.upd h.nx ⟨w.heap.size, 0, csz⟩) (h.new x).blk.get w' ∧ Ext ρ (ρ.upd h.nx ⟨w.heap.size, 0, csz⟩) h (h.new x) w w' := by
 have hle := Ren.le_upd hf ⟨w.heap.size, 0, csz⟩;have hold : ∀ k, k < w.heap.size → w'.heap[k]? = w.heap[k]? := fun k hk => by rw [hw, Array.getElem?_push, if_neg (by omega)]
 have hsz : w'.heap.size = w.heap.size + 1 := by rw [hw]; simp
 have inv : ∀ b base, ρ.upd h.nx ⟨w.heap.size, 0, csz⟩ b = some base → (b = h.nx ∧ base = ⟨w.heap.size, 0, csz⟩) ∨ (b ≠ h.nx ∧ ρ b = some base) := by
  intro b base hb;simp only [Ren.upd] at hb;by_cases e : b = h.nx
  ·rw [if_pos e] at hb; exact .inl ⟨e, by simpa using hb.symm⟩
  ·rw [if_neg e] at hb; exact .inr ⟨e, hb⟩
 refine ⟨⟨?_, ?_, ?_, ?_, ?_⟩, ⟨hle, Nat.le_succ _, ?_, ⟨hos, ht, ho, by omega⟩, fun k hk _ => hold k hk, ⟨[], rfl, ?_⟩, ?_, fun _ _ e => .inl e⟩⟩
 ·intro b base hb;rcases inv b base hb with ⟨_, rfl⟩ | ⟨_, h1⟩
  ·show w.heap.size < _; omega
  ·have := hr.lt b base h1; omega
 ·intro b base y hb hy;simp only [Aa.new, T.get_set] at hy;rcases inv b base hb with ⟨rfl, rfl⟩ | ⟨hne, h1⟩
  ·rw [if_pos rfl] at hy;cases hy;have : w'.heap[w.heap.size]? = some o := by rw [hw]; simp
   rw [this]; exact hbr
  ·rw [if_neg (fun e => hne e.symm)] at hy
   rw [hold _ (hr.lt b base h1)];exact (hr.blk b base y h1 hy).mono hle
 ·intro b b' base base' hne hb hb' h1 h2;simp only [Aa.new, T.get_set] at h1 h2;rcases inv b base hb with ⟨rfl, rfl⟩ | ⟨hn, h3⟩
  ·rcases inv b' base' hb' with ⟨e, _⟩ | ⟨hn', h4⟩
   ·exact absurd e.symm hne
   ·have := hr.lt b' base' h4; show w.heap.size ≠ _; omega
  ·rcases inv b' base' hb' with ⟨rfl, rfl⟩ | ⟨hn', h4⟩
   ·have := hr.lt b base h3; show _ ≠ w.heap.size; omega
   ·rw [if_neg (fun e => hn e.symm)] at h1
    rw [if_neg (fun e => hn' e.symm)] at h2
    exact hr.apart b b' base base' hne h3 h4 h1 h2
 ·intro k arr hk;rw [hold k (hr.immLt hk)];exact hr.imm k arr hk
 ·intro k arr b base hk hb hl;rcases inv b base hb with ⟨rfl, rfl⟩ | ⟨hn, h3⟩
  ·have := hr.immLt (k := k) (arr := arr) hk; show w.heap.size ≠ k; omega
  ·simp only [Aa.new, T.get_set] at hl;rw [if_neg (fun e => hn e.symm)] at hl
   exact hr.off k arr b base hk h3 hl
 ·intro b base hb;rcases inv b base hb with ⟨rfl, rfl⟩ | ⟨_, h1⟩
  ·exact .inr ⟨Nat.le_refl _, Nat.lt_succ_self _, .inl (Nat.le_refl _)⟩
  ·exact .inl h1
 ·intro b _ hb;simp only [Aa.new, T.get_set] at hb ⊢;rw [if_neg (by omega)]
 ·intro b hb;simp only [Aa.new, T.get_set] at hb ⊢;by_cases e : h.nx = b
  ·exact .inr ⟨by omega, by omega⟩
  ·rw [if_neg e] at hb; exact .inl hb
theorem HR.put {ρ : Ren} {h : Aa} {w : World} (hr : HR ρ h.blk.get w) {r : Nat} {base : Db} (hb : ρ r = some base) (hl : h.blk.get r ≠ none) (x : Aq)
  (w' : World) (hx : BR ρ x base w'.heap[base.cb]?) (hsz : w'.heap.size = w.heap.size) (hold : ∀ k, k ≠ base.cb → w'.heap[k]? = w.heap[k]?) (hos : w'.os = w.os) (ht : w'.tape = w.tape) (ho : w'.output = w.output) :
  HR ρ (h.put r x).blk.get w' ∧ Ext ρ ρ h (h.put r x) w w' := by
 have live : ∀ b, (h.put r x).blk.get b ≠ none → h.blk.get b ≠ none := by
  intro b h1;simp only [Aa.put, T.get_set] at h1;by_cases e : r = b
  ·subst e; exact hl
  ·rw [if_neg e] at h1; exact h1
 refine ⟨⟨fun b c hc => hsz ▸ hr.lt b c hc, ?_, ?_, fun k arr hk => by rw [hold k (hr.off k arr r base hk hb hl).symm]; exact hr.imm k arr hk, fun k arr b c hk hc h1 => hr.off k arr b c hk hc (live b h1)⟩, ⟨Ren.le_refl ρ, Nat.le_refl _, fun _ _ e => .inl e, ⟨hos, ht, ho, by omega⟩, ?_, ⟨[r], rfl, ?_⟩, ?_, fun _ _ e => .inl e⟩⟩
 ·intro b c y hc hy;simp only [Aa.put, T.get_set] at hy;by_cases e : r = b
  ·subst e;rw [if_pos rfl] at hy;cases hy;rw [hb] at hc; cases hc;exact hx
  ·rw [if_neg e] at hy;rw [hold _ (hr.apart b r c base (fun h => e h.symm) hc hb (by rw [hy]; simp) hl)]
   exact hr.blk b c y hc hy
 ·intro b b' c c' hne hc hc' h1 h2;simp only [Aa.put, T.get_set] at h1 h2;refine hr.apart b b' c c' hne hc hc' ?_ ?_
  ·by_cases e : r = b
   ·subst e; exact hl
   ·rw [if_neg e] at h1; exact h1
  ·by_cases e : r = b'
   ·subst e; exact hl
   ·rw [if_neg e] at h2; exact h2
 ·intro k hk hn;exact hold k (fun e => hn r base hb hl e.symm)
 ·intro b hbn _;simp only [Aa.put, T.get_set];rw [if_neg (fun e => hbn (by simp [e]))]
 ·intro b h1;simp only [Aa.put, T.get_set] at h1;by_cases e : r = b
  ·subst e; exact .inl hl
  ·rw [if_neg e] at h1; exact .inl h1
theorem HR.same {ρ : Ren} {g : Nat → Option Aq} {w w' : World} (hr : HR ρ g w) (hw : w'.heap = w.heap) : HR ρ g w' :=
 ⟨fun b base h => hw ▸ hr.lt b base h, fun b base x h hx => hw ▸ hr.blk b base x h hx, hr.apart, fun k arr hk => hw ▸ hr.imm k arr hk, hr.off⟩
end Go.AE
namespace Go.AE
variable [U : Unk]
structure OK (E : Env) : Prop where
 ty : ∀ t i, E.ty.get t = some i → E.P.info? t = some i
 fn : ∀ f x, E.fn.get f = some x → E.P.funcs[f]? = some x
 num : ∀ f x, E.fn.get f = some x → (x.name == "runtime.NumGoroutine") = false
 clone : ∀ f x, E.fn.get f = some x → x.body = none → x.name = "maps.clone" → Extern.findNext x = none ∧ Extern.find x = some Extern.MapsClone.clone
 ixb : ∀ f x, E.fn.get f = some x → x.body = none → x.name = "internal/bytealg.IndexByteString" → Extern.findNext x = none ∧ Extern.find x = some Extern.BytealgIndexByte.indexByte
 mixed : E.P.follows .mixedOrders = true
 kd : U.K = (Env.of E.P).kinds
 ke : E.kinds = (Env.of E.P).kinds
section
variable {E : Env} (hE : OK E)
include hE
theorem OK.und {t : TypeId} {d : TypeDesc} (h : E.desc t = some d) : E.P.underlying t = some d := by
 unfold Env.desc at h;cases hi : E.ty.get t with
 | none => simp [hi] at h
 | some i =>
  simp only [hi] at h;have h1 := hE.ty t i hi;unfold Program.underlying;rw [h1];cases i with
  | mk desc str size bytes hasPointers align fieldAlign zero comparable methods =>
   cases desc <;> simp only [Option.some.injEq] at h ⊢ <;> first | exact h | skip
   rename_i n u;cases hu : E.ty.get u with
   | none => simp [hu] at h
   | some j => simp only [hu, Option.some.injEq] at h; rw [hE.ty u j hu]; simpa using h
theorem OK.run_und {t : TypeId} {d : TypeDesc} (h : E.desc t = some d) (w : World) : (underlying t).run E.P w = .ok d w := by
 simp [underlying, hE.und h]
theorem OK.run_info {t : TypeId} {i : TypeInfo} (h : E.ty.get t = some i) (w : World) : (typeInfo t).run E.P w = .ok i w := by
 simp [typeInfo, hE.ty t i h]
theorem OK.run_sz {t : TypeId} {i : TypeInfo} (h : E.ty.get t = some i) (w : World) : (sizeOf t).run E.P w = .ok i.size w := by
 simp [sizeOf, hE.run_info h]
omit hE in
theorem Wt {t : TypeId} {d : TypeDesc} (h : E.desc t = some d) : ∃ i, E.ty.get t = some i ∧ E.size t = i.size := by
 unfold Env.desc at h;cases hi : E.ty.get t with
 | none => simp [hi] at h
 | some i => exact ⟨i, rfl, by simp [Env.size, hi]⟩
theorem OK.run_size {t : TypeId} {d : TypeDesc} (h : E.desc t = some d) (w : World) : (sizeOf t).run E.P w = .ok (E.size t) w := by
 obtain ⟨i, h1, h2⟩ := Wt h;rw [h2]; exact hE.run_sz h1 w
theorem OK.run_has {t : TypeId} (h : E.has t = true) (w : World) : (sizeOf t).run E.P w = .ok (E.size t) w := by
 unfold Env.has at h;cases hi : E.ty.get t with
 | none => simp [hi] at h
 | some i => rw [hE.run_sz hi]; simp [Env.size, hi]
theorem OK.run_szIs {t : TypeId} {n : Nat} (h : E.szIs t n = true) (w : World) : (sizeOf t).run E.P w = .ok n w := by
 unfold Env.szIs at h;cases hi : E.ty.get t with
 | none => simp [hi] at h
 | some i => simp only [hi] at h; rw [hE.run_sz hi, AG h]
theorem OK.run_isAgg {t : TypeId} {d : TypeDesc} (h : E.desc t = some d) (w : World) : (isAgg t).run E.P w = .ok (HT d) w := by
 simp only [isAgg, Sem.run_bind, hE.run_und h, Result.andThen_ok];cases d <;> simp [HT]
omit hE in
theorem GK {t : TypeId} {z : AV} (h : E.zero t = some z) : ∃ i v, E.ty.get t = some i ∧ i.zero = some v ∧ ofValue v = some z := by
 unfold Env.zero at h;cases hi : E.ty.get t with
 | none => simp [hi] at h
 | some i =>
  simp only [hi] at h;cases hz : i.zero with
  | none => simp [hz] at h
  | some v => simp only [hz] at h; exact ⟨i, v, rfl, hz, h⟩
omit hE in
theorem JT (ρ : Ren) {v : Value} {a : AV} (h : A6 v = some a) : VR ρ a v := by
 cases v with
 | bool b => simp [A6] at h; subst h; exact .bool b
 | int k n => simp [A6] at h; subst h; exact .int k n
 | string s => simp only [A6, Option.some.injEq] at h; subst h; exact .str s
 | pointer p => cases p <;> simp [A6] at h; subst h; exact .ptr0
 | slice p l c =>
  cases p with
  | some a => simp [A6] at h
  | none => cases l with
   | succ n => simp [A6] at h
   | zero => cases c with
    | succ n => simp [A6] at h
    | zero => simp [A6] at h; subst h; exact .slice0
 | map r => cases r <;> simp [A6] at h; subst h; exact .map0
 | nilFunc => simp [A6] at h; subst h; exact .nilFunc
 | nilIface => simp [A6] at h; subst h; exact .nilIface
 | _ => simp [A6] at h
omit hE in
theorem NC (ρ : Ren) : ∀ {l : List Value} {as : List AV}, C3 l = some as → VL ρ as l := by
 intro l
 induction l with
 | nil => intro as h; simp [C3] at h; subst h; exact VL.nil ρ
 | cons v r ih =>
  intro as h;simp only [C3] at h;cases hv : A6 v with
  | none => simp [hv] at h
  | some a =>
   cases hr : C3 r with
   | none => simp [hv, hr] at h
   | some as' => simp only [hv, hr, Option.some.injEq] at h; subst h; exact VL.cons (JT ρ hv) (ih hr)
omit hE in
theorem AR (ρ : Ren) {v : Value} {a : AV} (h : ofValue v = some a) : VR ρ a v := by
 cases v with
 | agg c =>
  simp only [ofValue] at h;cases hc : C3 c.toList with
  | none => simp [hc] at h
  | some l =>
   simp only [hc, Option.some.injEq] at h;subst h;have := NC ρ hc;exact .agg l c.toList this.1 this.2
 | _ => exact JT ρ (by simpa [ofValue] using h)
omit hE in
theorem VR.cells {ρ : Ren} {a : AV} {v : Value} (h : VR ρ a v) (ht : a ≠ .top) : VL ρ a.cells v.cells.toList := by
 cases h with
 | top v => exact absurd rfl ht
 | agg l l' h1 h2 => exact ⟨h1, h2⟩
 | bool b => exact VL.cons (.bool b) (VL.nil ρ)
 | int k n => exact VL.cons (.int k n) (VL.nil ρ)
 | str s => exact VL.cons (.str s) (VL.nil ρ)
 | ptr0 => exact VL.cons .ptr0 (VL.nil ρ)
 | ptr b off base h => exact VL.cons (.ptr b off base h) (VL.nil ρ)
 | slice0 => exact VL.cons .slice0 (VL.nil ρ)
 | slice b off n es cap base h hc hz => exact VL.cons (.slice b off n es cap base h hc hz) (VL.nil ρ)
 | sliceEnd b off es a => exact VL.cons (.sliceEnd b off es a) (VL.nil ρ)
 | map0 => exact VL.cons .map0 (VL.nil ρ)
 | map b base h => exact VL.cons (.map b base h) (VL.nil ρ)
 | func fn fn' f c f' c' h h1 h2 h3 h4 => exact VL.cons (.func fn fn' f c f' c' h h1 h2 h3 h4) (VL.nil ρ)
 | nilFunc => exact VL.cons .nilFunc (VL.nil ρ)
 | iface t a v h => exact VL.cons (.iface t a v h) (VL.nil ρ)
 | nilIface => exact VL.cons .nilIface (VL.nil ρ)
 | tuple l l' h1 h2 => exact VL.cons (.tuple l l' h1 h2) (VL.nil ρ)
 | sb pos e => exact VL.cons (.sb pos e) (VL.nil ρ)
 | si k e => exact VL.cons (.si k e) (VL.nil ρ)
 | ss i => exact VL.cons (.ss i) (VL.nil ρ)
 | dat e x a n c h => exact VL.cons (.dat e x a n c h) (VL.nil ρ)
 | dptr e x i off b o n cap ks h hk h0 hi ho => exact VL.cons (.dptr e x i off b o n cap ks h hk h0 hi ho) (VL.nil ρ)
 | asl b es n nl cap base h h0 hc hz hn => exact VL.cons (.asl b es n nl cap base h h0 hc hz hn) (VL.nil ρ)
 | aslEnd b es n nl a h0 hn => exact VL.cons (.aslEnd b es n nl a h0 hn) (VL.nil ρ)
 | eslc nl a hn => exact VL.cons (.eslc nl a hn) (VL.nil ρ)
 | aptr b es i off base h h0 => exact VL.cons (.aptr b es i off base h h0) (VL.nil ρ)
 | nmap b nl base h hn => exact VL.cons (.nmap b nl base h hn) (VL.nil ρ)
 | nmap0 b nl hn => exact VL.cons (.nmap0 b nl hn) (VL.nil ρ)
theorem OK.run_zero {t : TypeId} {z : AV} (ρ : Ren) (h : E.zero t = some z) (w : World) : ∃ v, (zeroValue t).run E.P w = .ok v w ∧ ofValue v = some z := by
 obtain ⟨i, v, h1, h2, h3⟩ := GK h;exact ⟨v, by simp [zeroValue, hE.run_info h1, h2], h3⟩
theorem OK.run_part {ρ : Ren} {t : TypeId} {cs : List AV} {cs' : List Value} {off : Nat} {a : AV} (h : CC E t cs off = some a) (hc : VL ρ cs cs') (w : World) :
  ∃ v, (part t cs'.toArray off).run E.P w = .ok v w ∧ VR ρ a v := by
 unfold CC at h;cases hd : E.desc t with
 | none => simp [hd] at h
 | some d =>
  simp only [hd] at h;unfold part;simp only [Sem.run_bind, hE.run_isAgg hd, Result.andThen_ok];cases hag : HT d with
  | true =>
   simp only [hag, Option.some.injEq] at h;subst h;simp only [if_true, Sem.run_bind, hE.run_size hd, Result.andThen_ok, Sem.run_pure];refine ⟨_, rfl, ?_⟩
   have e : cs'.toArray.extract off (off + E.size t) = ((cs'.drop off).take (E.size t)).toArray := by
    simp [List.extract_toArray]
   rw [e];exact .agg _ _ ((hc.drop off).take _).1 ((hc.drop off).take _).2
  | false =>
   simp only [hag] at h;obtain ⟨v, hv, hr⟩ := hc.get h;simp only [Bool.false_eq_true, if_false, List.getElem?_toArray, hv];exact ⟨v, rfl, hr⟩
end
end Go.AE
namespace Go.AE
variable [U : Unk]
theorem Dh {i j : Nat} (h : Nat.ble i j = true) : i ≤ j := Nat.le_of_ble_eq_true h
theorem IqQ {i j : Nat} (h : Nat.blt i j = true) : i < j := Nat.le_of_ble_eq_true h
theorem Av {a b : Bool} (h : (a && b) = true) : a = true ∧ b = true := by simpa using h
theorem orF {a b : Bool} (h : (a || b) = true) : a = true ∨ b = true := by simpa using h
theorem Cl (b o n : Nat) : (⟨b, o, none⟩ : Addr).add n = ⟨b, o + n, none⟩ := by
 unfold Addr.add; split
 ·next h => subst h; rfl
 ·rfl
section
variable {ρ : Ren} {g : Nat → Option Aq} {w : World}
theorem HR.cell (hr : HR ρ g w) {b n i : Nat} {base : Db} {c : T AV} {a : AV} (hb : ρ b = some base) (hg : g b = some (.cells n c)) (hi : i < n) (ha : c.get i = some a) :
  ∃ v, w.cell? ⟨base.cb, base.co + i, none⟩ = some v ∧ VR ρ a v := by
 obtain ⟨cur, e, fz, h1, h2, h3, h4, h5⟩ := hr.blk b base _ hb hg;obtain ⟨v, hv, hvr⟩ := h5 i a hi ha;exact ⟨v, by simp [World.cell?, h1, hv], hvr⟩
theorem C9 (P : Program) (b o : Nat) : ∀ (vs : List Value) (i : Nat) (acc : Array Value), (∀ j v, vs[j]? = some v → w.cell? ⟨b, o + (i + j), none⟩ = some v) →
  (loadCellsFrom ⟨b, o, none⟩ i vs.length acc).run P w = .ok (acc ++ vs.toArray) w := by
 intro vs
 induction vs with
 | nil => intro i acc _; simp [loadCellsFrom]
 | cons v r ih =>
  intro i acc h;have h0 := h 0 v rfl;simp only [Nat.add_zero] at h0;simp only [List.length_cons, loadCellsFrom, Sem.run_bind, run_load, Cl, h0, Result.andThen_ok];rw [ih (i + 1) (acc.push v) (fun j u hu => by have := h (j + 1) u (by simpa using hu); rwa [show i + (j + 1) = i + 1 + j from by omega] at this)]
  simp
theorem HR.loadCells (hr : HR ρ g w) (P : Program) {b n off k : Nat} {base : Db} {c : T AV} {l : List AV} (hb : ρ b = some base) (hg : g b = some (.cells n c)) (hk : off + k ≤ n) (hl : c.range off k = some l) :
  ∃ vs : List Value, VL ρ l vs ∧ (loadCells ⟨base.cb, base.co + off, none⟩ k).run P w = .ok vs.toArray w ∧ (∀ j v, vs[j]? = some v → w.cell? ⟨base.cb, base.co + off + j, none⟩ = some v) := by
 obtain ⟨hlen, hget⟩ := T.range_spec c k off l hl
 have hex : ∀ m, m ≤ k → ∃ vs : List Value, vs.length = m ∧ ∀ j, j < m → ∃ a v, l[j]? = some a ∧ vs[j]? = some v ∧ VR ρ a v ∧ w.cell? ⟨base.cb, base.co + off + j, none⟩ = some v := by
  intro m
  induction m with
  | zero => intro _; exact ⟨[], rfl, fun j h => absurd h (Nat.not_lt_zero _)⟩
  | succ m ih =>
   intro hm;obtain ⟨vs, h1, h2⟩ := ih (by omega)
   have hlm : m < l.length := by omega
   have ha : c.get (off + m) = some l[m] := by rw [hget m (by omega)]; simp [hlm]
   obtain ⟨v, hv, hvr⟩ := hr.cell hb hg (by omega) ha
   refine ⟨vs ++ [v], by simp [h1], fun j hj => ?_⟩
   by_cases e : j < m
   ·obtain ⟨a, u, q1, q2, q3, q4⟩ := h2 j e;exact ⟨a, u, q1, by rw [List.getElem?_append_left (by omega)]; exact q2, q3, q4⟩
   ·have : j = m := by omega
    subst this;exact ⟨l[j], v, by simp [hlm], by rw [List.getElem?_append_right (by omega)]; simp [h1], hvr, by rw [← hv]; congr 2; omega⟩
 obtain ⟨vs, h1, h2⟩ := hex k (Nat.le_refl k)
 have hcell : ∀ j v, vs[j]? = some v → w.cell? ⟨base.cb, base.co + off + j, none⟩ = some v := by
  intro j v hv;have hj : j < k := by have := (List.getElem?_eq_some_iff.1 hv).1; omega
  obtain ⟨a, u, q1, q2, q3, q4⟩ := h2 j hj;rw [q2] at hv; cases hv; exact q4
 refine ⟨vs, ⟨by omega, fun i a v ha hv => ?_⟩, ?_, hcell⟩
 ·have hi : i < k := by have := (List.getElem?_eq_some_iff.1 hv).1; omega
  obtain ⟨a', v', q1, q2, q3, _⟩ := h2 i hi;rw [q1] at ha; rw [q2] at hv; cases ha; cases hv; exact q3
 ·unfold Go.loadCells;have := C9 (w := w) P base.cb (base.co + off) vs 0 #[] (fun j v hv => by simpa using hcell j v hv)
  rw [h1] at this;simpa using this
theorem Cg (P : Program) (b o : Nat) (e : TypeId) (fz : Nat × Nat) : ∀ (l : List Value) (i : Nat) (w : World) (cur : Array Value), w.heap[b]? = some (.cells cur e fz) → o + i + l.length ≤ cur.size →
  (fz.1 = fz.2 ∨ cur.size ≤ fz.1) → (∀ v ∈ l, v.oneCell' = true) →
  ∃ w' cur', (storeCells ⟨b, o, none⟩ l i).run P w = .ok () w' ∧ w'.heap[b]? = some (.cells cur' e fz) ∧ cur'.size = cur.size ∧ (∀ j, cur'[j]? = if o + i ≤ j ∧ j < o + i + l.length then l[j - (o + i)]? else cur[j]?) ∧
   w'.heap.size = w.heap.size ∧ (∀ k, k ≠ b → w'.heap[k]? = w.heap[k]?) ∧ w'.os = w.os ∧ w'.tape = w.tape ∧ w'.output = w.output := by
 intro l
 induction l with
 | nil =>
  intro i w cur h1 h2 h3 h4;exact ⟨w, cur, by simp [storeCells], h1, rfl, fun j => by rw [if_neg (by simp)], rfl, fun _ _ => rfl, rfl, rfl, rfl⟩
 | cons v r ih =>
  intro i w cur h1 h2 h3 h4;have hv := h4 v (by simp)
  simp only [List.length_cons] at h2;have hlt : o + i < cur.size := by omega
  have hcell : w.cell? ⟨b, o + i, none⟩ = some cur[o + i] := by simp [World.cell?, h1, hlt]
  have hfrz : w.frozen? ⟨b, o + i, none⟩ = false := by
   simp only [World.frozen?, h1];rcases h3 with h3 | h3
   ·simp; omega
   ·simp; omega
  have hb : b < w.heap.size := (Array.getElem?_eq_some_iff.1 h1).1
  have hset : (w.setCell ⟨b, o + i, none⟩ v).heap[b]? = some (.cells (cur.setIfInBounds (o + i) v) e fz) := by
   simp only [World.setCell, Array.getElem?_modify];simp [h1]
  obtain ⟨w', cur', q1, q2, q3, q4, q5, q6, q7, q8, q9⟩ := ih (i + 1) (w.setCell ⟨b, o + i, none⟩ v) (cur.setIfInBounds (o + i) v) hset (by simp; omega) (by simpa using h3) (fun u hu => h4 u (by simp [hu]))
  refine ⟨w', cur', ?_, q2, by simpa using q3, ?_, ?_, ?_, ?_, ?_, ?_⟩
  ·simp only [storeCells, Sem.run_bind, Cl, run_store _ _ _ _ _ hv, hcell, hfrz];simpa using q1
  ·intro j;rw [q4 j];simp only [List.length_cons];by_cases c1 : o + (i + 1) ≤ j ∧ j < o + (i + 1) + r.length
   ·rw [if_pos c1, if_pos (by omega)]
    have : j - (o + i) = (j - (o + (i + 1))) + 1 := by omega
    rw [this, List.getElem?_cons_succ]
   ·rw [if_neg c1];by_cases c2 : j = o + i
    ·subst c2;rw [if_pos (by omega)]
     simp [hlt]
    ·rw [if_neg (by omega), Array.getElem?_setIfInBounds_ne (fun h => c2 h.symm)]
  ·rw [q5]; simp [World.setCell]
  ·intro k hk;rw [q6 k hk];simp only [World.setCell, Array.getElem?_modify];rw [if_neg (fun h => hk h.symm)]
  ·rw [q7]; rfl
  ·rw [q8]; rfl
  ·rw [q9]; rfl
theorem VR.one {a : AV} {v : Value} (h : VR ρ a v) (ho : a.one = true) : v.oneCell' = true := by
 cases h <;> simp_all [AV.one, Value.oneCell']
theorem HG : ∀ {l : List AV} {l' : List Value}, El l = true → VL ρ l l' → ∀ v ∈ l', v.oneCell' = true := by
 intro l
 induction l with
 | nil => intro l' _ h; rw [h.nil_inv]; simp
 | cons a r ih =>
  intro l' h1 h2;obtain ⟨v, r', rfl, hv, hr⟩ := h2.cons_inv;simp only [El] at h1;cases ho : a.one with
  | false => simp [ho] at h1
  | true =>
   simp only [ho] at h1;intro u hu;rcases List.mem_cons.1 hu with rfl | hu
   ·exact hv.one ho
   ·exact ih h1 hr u hu
end
theorem HR.storeN {ρ : Ren} {h h' : Aa} {w : World} (hr : HR ρ h.blk.get w) (P : Program) {b off : Nat} {base : Db} {l : List AV} {l' : List Value} (hb : ρ b = some base) (hl : VL ρ l l') (hs : storeN h b off l = some h') :
  ∃ w', (storeCells ⟨base.cb, base.co + off, none⟩ l' 0).run P w = .ok () w' ∧ HR ρ h'.blk.get w' ∧ Ext ρ ρ h h' w w' := by
 unfold AE.storeN at hs;cases hg : h.blk.get b with
 | none => simp [hg] at hs
 | some x =>
  cases x with
  | cells n c =>
   simp only [hg] at hs;cases hc : (Nat.ble (off + l.length) n && El l) with
   | false => simp [hc] at hs
   | true =>
    simp only [hc, Option.some.injEq] at hs;subst hs;obtain ⟨c1, c2⟩ := Av hc;have hlen := Dh c1;obtain ⟨cur, e, fz, h1, h2, h3, h4, h5⟩ := hr.blk b base _ hb hg;obtain ⟨w', cur', q1, q2, q3, q4, q5, q6, q7, q8, q9⟩ := Cg P base.cb (base.co + off) e fz l' 0 w cur h1 (by rw [← hl.1, h2]; omega) (by rw [h2]; exact h4) (HG c2 hl)
    refine ⟨w', q1, ?_⟩;refine hr.put hb (by rw [hg]; simp) _ w' ?_ q5 q6 q7 q8 q9
    refine ⟨cur', e, fz, q2, by rw [q3, h2], h3, h4, ?_⟩
    intro i a hi ha;rw [FT] at ha;rw [q4 (base.co + i)];simp only [Nat.add_zero];by_cases c : off ≤ i ∧ i < off + l.length
    ·rw [if_pos c] at ha;rw [if_pos (by rw [← hl.1]; omega)]
     obtain ⟨v, hv, hvr⟩ := hl.get ha;exact ⟨v, by rw [← hv]; congr 1; omega, hvr⟩
    ·rw [if_neg c] at ha;rw [if_neg (by rw [← hl.1]; omega)]
     exact h5 i a hi ha
  | _ => simp [hg] at hs
theorem HR.newRow {ρ : Ren} {h : Aa} {w : World} (hr : HR ρ h.blk.get w) (hf : ρ h.nx = none) (e : TypeId) {n : Nat} {c : T AV} (arr : Array Value) (hn : n ≤ arr.size)
  (hc : ∀ i a, i < n → c.get i = some a → ∃ v, arr[i]? = some v ∧ VR ρ a v) :
  ∃ σ : Ren, σ h.nx = some ⟨w.heap.size, 0, arr.size⟩ ∧ HR σ (h.new (.cells n c)).blk.get { w with heap := w.heap.push (.cells arr e) } ∧
  Ext ρ σ h (h.new (.cells n c)) w { w with heap := w.heap.push (.cells arr e) } := by
 refine ⟨ρ.upd h.nx ⟨w.heap.size, 0, arr.size⟩, Ren.upd_same _ _ _, ?_⟩;refine hr.new hf _ _ _ ?_ _ rfl rfl rfl rfl;refine ⟨_, _, _, rfl, rfl, by simpa using hn, .inl rfl, ?_⟩
 intro i a hi ha;obtain ⟨v, hv, hvr⟩ := hc i a hi ha;exact ⟨v, by simpa using hv, hvr.mono (Ren.le_upd hf _)⟩
theorem HR.newList {ρ : Ren} {h : Aa} {w : World} (hr : HR ρ h.blk.get w) (hf : ρ h.nx = none) (e : TypeId) {l : List AV} (arr : Array Value) (hl : VL ρ l arr.toList) :
  ∃ σ : Ren, σ h.nx = some ⟨w.heap.size, 0, arr.size⟩ ∧ HR σ (BH h l).blk.get { w with heap := w.heap.push (.cells arr e) } ∧
  Ext ρ σ h (BH h l) w { w with heap := w.heap.push (.cells arr e) } := by
 refine hr.newRow hf e arr (by have := hl.1; simp at this; omega) ?_
 intro i a hi ha;rw [T.get_ofList] at ha;obtain ⟨v, hv, hvr⟩ := hl.get ha;exact ⟨v, by simpa using hv, hvr⟩
end Go.AE
namespace Go.AE
variable [U : Unk]
theorem OX : ∀ (l : List UInt8), AH l < 256 ^ l.length
 | [] => by simp [AH]
 | b :: r => by
  have h1 := OX r;have h2 : b.toNat < 256 := b.toNat_lt;simp only [AH, List.length_cons, Nat.pow_succ];omega
theorem FH : ∀ (l m : List UInt8), AH (l ++ m) = AH l + AH m * 256 ^ l.length
 | [], m => by simp [AH]
 | b :: r, m => by
  have := FH r m;simp only [List.cons_append, AH, this, List.length_cons, Nat.pow_succ, Nat.mul_add];rw [Nat.add_assoc, Nat.mul_left_comm, Nat.mul_comm 256 (256 ^ r.length)]
theorem Nw : ∀ (l m : List UInt8), l.length = m.length → AH l = AH m → l = m
 | [], [], _, _ => rfl
 | [], _ :: _, h, _ => by simp at h
 | _ :: _, [], h, _ => by simp at h
 | a :: l, b :: m, h, e => by
  simp only [AH] at e;have h1 : a.toNat < 256 := a.toNat_lt;have h2 : b.toNat < 256 := b.toNat_lt;have ha : a.toNat = b.toNat := by omega
  have hp : AH l = AH m := by omega
  rw [Nw l m (by simpa using h) hp, UInt8.toNat_inj.1 ha]
theorem Oq (n : Nat) : 2 ^ (8 * n) = 256 ^ n := by rw [Nat.pow_mul]
theorem HU : ∀ (n : Nat) (l : List UInt8), AH l / 256 ^ n = AH (l.drop n)
 | 0, l => by simp
 | n + 1, [] => by simp [AH]
 | n + 1, b :: r => by
  have h2 : b.toNat < 256 := b.toNat_lt;simp only [AH, List.drop_succ_cons, Nat.pow_succ];rw [← HU n r, Nat.mul_comm (256 ^ n) 256, ← Nat.div_div_eq_div_mul]
  congr 1
  omega
theorem RC : ∀ (n : Nat) (l : List UInt8), n ≤ l.length → AH l % 256 ^ n = AH (l.take n) := by
 intro n l h;have e := FH (l.take n) (l.drop n);rw [List.take_append_drop] at e;have hl : (l.take n).length = n := by simp; omega
 rw [hl] at e;rw [e, Nat.add_mul_mod_self_right, Nat.mod_eq_of_lt];have := OX (l.take n)
 rwa [hl] at this
theorem Ty {l : List UInt8} {n : Nat} (h : n < l.length) : AH l / 2 ^ (8 * n) % 256 = l[n].toNat := by
 rw [Oq, HU, List.drop_eq_getElem_cons h];simp only [AH];have := l[n].toNat_lt;omega
theorem Mt {l : List UInt8} {a b : Nat} (h1 : a ≤ b) (h2 : b ≤ l.length) : AH l / 2 ^ (8 * a) % 2 ^ (8 * (b - a)) = AH ((l.drop a).take (b - a)) := by
 rw [Oq, Oq, HU, RC];simp; omega
theorem Fw (b : UInt8) (r : List UInt8) : AH (b :: r) % 256 = b.toNat ∧ AH (b :: r) / 256 = AH r := by
 have := b.toNat_lt;simp only [AH];omega
theorem Cc (s t : ByteArray) : strEq s.data.toList.length (AH s.data.toList) t.data.toList.length (AH t.data.toList) = (s.toList == t.toList) := by
 have hs : ∀ u : ByteArray, u.toList = u.data.toList := fun u => ByteArray.toList_eq u
 rw [hs, hs];unfold strEq;rw [Bool.eq_iff_iff];simp only [Bool.and_eq_true, beq_iff_eq];constructor
 ·rintro ⟨h1, h2⟩
  exact Nw _ _ (AG h1) (AG h2)
 ·intro h; rw [h]; exact ⟨Fi _, Fi _⟩
theorem NH : ∀ (f : Nat) (l m : List UInt8), l.length < f → Ee f l.length (AH l) m.length (AH m) = Op.bytesLess l m := by
 intro f
 induction f with
 | zero => intro l m h; omega
 | succ f ih =>
  intro l m h;cases m with
  | nil => cases l <;> simp [Ee, Op.bytesLess]
  | cons b m =>
   cases l with
   | nil => simp [Ee, Op.bytesLess]
   | cons a l =>
    obtain ⟨h1, h2⟩ := Fw a l;obtain ⟨h3, h4⟩ := Fw b m;simp only [Ee, List.length_cons, Op.bytesLess, h1, h2, h3, h4];simp only [List.length_cons] at h;by_cases hlt : a.toNat < b.toNat
    ·have e : Nat.blt a.toNat b.toNat = true := by simp [Nat.blt]; omega
     have e2 : a < b := UInt8.lt_iff_toNat_lt.2 hlt;simp [e, e2]
    ·have e : Nat.blt a.toNat b.toNat = false := by
      cases q : Nat.blt a.toNat b.toNat with
      | false => rfl
      | true => exact absurd (IqQ q) hlt
     have e2 : ¬ a < b := fun q => hlt (UInt8.lt_iff_toNat_lt.1 q)
     simp only [e, e2, decide_false, Bool.false_or];by_cases heq : a = b
     ·subst heq;rw [Fi];simp [ih l m (by omega)]
     ·have e3 : Nat.beq a.toNat b.toNat = false := FM (fun q => heq (UInt8.toNat_inj.1 q))
      simp [e3, heq]
end Go.AE
namespace Go.AE
variable [U : Unk]
section
variable {E : Env} (hE : OK E) {ρ : Ren} {h : Aa} {w : World}
include hE
theorem PP (hr : HR ρ h.blk.get w) {t : TypeId} {x a : AV} {xv : Value} (hx : VR ρ x xv) (hl : Qc E t x h = some a) :
  ∃ v, (Instr.loadAt t xv).run E.P w = .ok v w ∧ VR ρ a v := by
 unfold Qc at hl;cases hd : E.desc t with
 | none => simp [hd] at hl
 | some d =>
  cases hx with
  | ptr b off base hb =>
   simp only [hd] at hl;unfold Instr.loadAt loadVar;simp only [Instr.sureAddr, Sem.run_bind, Sem.run_pure, Result.andThen_ok, hE.run_isAgg hd];cases hag : HT d with
   | true =>
    simp only [hag] at hl;cases hn : Cx h b off (E.size t) with
    | none => simp [hn] at hl
    | some l =>
     simp only [hn, Option.map_some, Option.some.injEq] at hl;subst hl;unfold Cx at hn;cases hg : h.blk.get b with
     | none => simp [hg] at hn
     | some y =>
      cases y with
      | cells sz c =>
       simp only [hg] at hn;cases hc : Nat.ble (off + E.size t) sz with
       | false => simp [hc] at hn
       | true =>
        simp only [hc] at hn;obtain ⟨vs, q1, q2, _⟩ := hr.loadCells E.P hb hg (Dh hc) hn;simp only [if_true, Sem.run_bind, hE.run_size hd, Result.andThen_ok, q2, Sem.run_pure];exact ⟨_, rfl, .agg _ _ q1.1 q1.2⟩
      | _ => simp [hg] at hn
   | false =>
    simp only [hag] at hl;cases hg : h.blk.get b with
    | none => simp [hg] at hl
    | some y =>
     cases y with
     | cells sz c =>
      simp only [hg] at hl;cases hc : Nat.blt off sz with
      | false => simp [hc] at hl
      | true =>
       simp only [hc] at hl;obtain ⟨v, q1, q2⟩ := hr.cell hb hg (IqQ hc) hl;simp only [Bool.false_eq_true, if_false, run_load, q1];exact ⟨v, rfl, q2⟩
     | _ => simp [hg] at hl
  | _ => simp [hd] at hl
theorem Tg (hr : HR ρ h.blk.get w) {t : TypeId} {x a : AV} {xv v : Value} {h' : Aa} (hx : VR ρ x xv) (ha : VR ρ a v) (hl : Ob E t x a h = some h') :
  ∃ w', (Instr.storeAt t xv v).run E.P w = .ok () w' ∧ HR ρ h'.blk.get w' ∧ Ext ρ ρ h h' w w' := by
 unfold Ob at hl;cases hx with
 | ptr b off base hb =>
  simp only [] at hl;cases hs : E.szIs t a.cells.length with
  | false => simp [hs] at hl
  | true =>
   simp only [hs] at hl
   have ht : a ≠ .top := by
    rintro rfl
    unfold storeN at hl;cases hg : h.blk.get b with
    | none => simp [hg] at hl
    | some y => cases y <;> simp [hg, AV.cells, El, AV.one] at hl
   have hcs := ha.cells ht;obtain ⟨w', q1, q2, q3⟩ := hr.storeN E.P hb hcs hl;refine ⟨w', ?_, q2, q3⟩;unfold Instr.storeAt storeVar;have e : v.cells.size = a.cells.length := by have := hcs.1; simp at this; omega
   simp [Instr.sureAddr, hE.run_szIs hs, e, q1]
 | _ => simp at hl
theorem Mu {t : TypeId} {x a : AV} {f : Nat} {xv : Value} (hx : VR ρ x xv) (hl : HB E t x f = some a) :
  ∃ v, (Instr.fieldAt t xv f).run E.P w = .ok v w ∧ VR ρ a v := by
 unfold HB at hl;cases hd : E.desc t with
 | none => simp [hd] at hl
 | some d =>
  cases d with
  | struct fs =>
   cases hx with
   | ptr b off base hb =>
    simp only [hd] at hl;cases hf : fs.toList[f]? with
    | none => simp [hf] at hl
    | some fd =>
     simp only [hf] at hl;have hf' : fs[f]? = some fd := by simpa using hf
     cases hs : E.size fd.type with
     | zero => simp [hs] at hl
     | succ n =>
      simp only [hs, Option.some.injEq] at hl;subst hl
      have hsz : ∀ w, (sizeOf fd.type).run E.P w = .ok (n + 1) w := by
       intro w;unfold Env.size at hs;cases hi : E.ty.get fd.type with
       | none => simp [hi] at hs
       | some i => simp only [hi] at hs; rw [hE.run_sz hi, hs]
      refine ⟨.pointer (some ⟨base.cb, base.co + (off + fd.offset), none⟩), ?_, .ptr b _ base hb⟩;simp [Instr.fieldAt, hE.run_und hd, hf', Instr.sureAddr, fieldPlace, hsz, Cl, Nat.add_assoc]
   | _ => simp [hd] at hl
  | _ => cases hx <;> simp [hd] at hl
theorem Tz {t : TypeId} {x a : AV} {f : Nat} {xv : Value} (hx : VR ρ x xv) (hl : QZ E t x f = some a) :
  ∃ v, (Instr.field t xv f).run E.P w = .ok v w ∧ VR ρ a v := by
 unfold QZ at hl;cases hd : E.desc t with
 | none => simp [hd] at hl
 | some d =>
  cases d with
  | struct fs =>
   cases hx with
   | agg l l' h1 h2 =>
    simp only [hd] at hl;cases hf : fs.toList[f]? with
    | none => simp [hf] at hl
    | some fd =>
     simp only [hf] at hl;have hf' : fs[f]? = some fd := by simpa using hf
     obtain ⟨v, q1, q2⟩ := hE.run_part (cs' := l') hl ⟨h1, h2⟩ w;exact ⟨v, by simp [Instr.field, hE.run_und hd, hf', asAgg, q1], q2⟩
   | _ => simp [hd] at hl
  | _ => cases hx <;> simp [hd] at hl
omit hE in
theorem Cv {ρ : Ren} {a : AV} {v : Value} {n : Nat} (hv : VR ρ a v) (h : Dj a = some n) : ∃ k, v = .int k (n : Int) := by
 cases hv with
 | int k m =>
  cases m with
  | ofNat m => simp only [Dj, Option.some.injEq] at h; subst h; exact ⟨k, rfl⟩
  | negSucc m => simp [Dj] at h
 | _ => simp [Dj] at h
theorem Mm {t : TypeId} {x i a : AV} {xv iv : Value} (hx : VR ρ x xv) (hi : VR ρ i iv) (hl : Hv E t x i = some a) :
  ∃ v, (Instr.indexAt t xv iv).run E.P w = .ok v w ∧ VR ρ a v := by
 unfold Hv at hl;cases hd : E.desc t with
 | none => simp [hd] at hl
 | some d =>
  cases hn : Dj i with
  | none => cases d <;> cases x <;> simp [hd, hn] at hl
  | some n =>
   obtain ⟨k, rfl⟩ := Cv hi hn;cases d with
   | slice e =>
    cases hx with
    | slice b off len es cap base hb hc hz =>
     simp only [hd, hn] at hl;cases hc2 : (Nat.blt n len && E.szIs e es) with
     | false => simp [hc2] at hl
     | true =>
      simp only [hc2, Option.some.injEq] at hl;subst hl;obtain ⟨c1, c2⟩ := Av hc2;have hlt := IqQ c1;refine ⟨.pointer (some ⟨base.cb, base.co + (off + n * es), none⟩), ?_, .ptr b _ base hb⟩;simp [Instr.indexAt, asIntOf, hE.run_und hd, hE.run_szIs c2, hlt, Cl, Nat.add_assoc]
    | sliceEnd b off es a =>
     have e0 : Nat.blt n 0 = false := rfl;simp [hd, hn, e0] at hl
    | _ => simp [hd, hn] at hl
   | array len e =>
    cases hx with
    | ptr b off base hb =>
     simp only [hd, hn] at hl;cases hc2 : (Nat.blt n len && E.has e) with
     | false => simp [hc2] at hl
     | true =>
      simp only [hc2, Option.some.injEq] at hl;subst hl;obtain ⟨c1, c2⟩ := Av hc2;have hlt := IqQ c1;refine ⟨.pointer (some ⟨base.cb, base.co + (off + n * E.size e), none⟩), ?_, .ptr b _ base hb⟩;simp [Instr.indexAt, asIntOf, hE.run_und hd, hE.run_has c2, Instr.sureAddr, hlt, Cl, Nat.add_assoc]
    | _ => simp [hd, hn] at hl
   | _ => cases hx <;> simp [hd, hn] at hl
theorem T0 {t : TypeId} {x i a : AV} {xv iv : Value} (hx : VR ρ x xv) (hi : VR ρ i iv) (hl : QS E t x i = some a) :
  ∃ v, (Instr.index t xv iv).run E.P w = .ok v w ∧ VR ρ a v := by
 unfold QS at hl;cases hd : E.desc t with
 | none => simp [hd] at hl
 | some d =>
  cases hn : Dj i with
  | none => cases d <;> cases x <;> simp [hd, hn] at hl
  | some n =>
   obtain ⟨k, rfl⟩ := Cv hi hn;cases d with
   | string =>
    cases hx with
    | str s =>
     simp only [hd, hn] at hl;cases hc : Nat.blt n s.data.toList.length with
     | false => simp only [hc] at hl; cases hl
     | true =>
      simp only [hc, Option.some.injEq] at hl;subst hl;have hlt := IqQ hc;have hsz : n < s.size := by simpa using hlt
      have e : s[n]? = some s.data.toList[n] := by
       rw [getElem?_pos s n hsz]; rfl
      rw [Ty hlt];refine ⟨.int .u8 (s.data.toList[n].toNat : Nat), ?_, .int _ _⟩;simp only [Instr.index, asIntOf, Sem.run_bind, Sem.run_pure, Result.andThen_ok, hE.run_und hd];rw [if_pos (by omega), Int.toNat_natCast, e]
      rfl
    | _ => simp [hd, hn] at hl
   | array len e =>
    cases hx with
    | agg l l' h1 h2 =>
     simp only [hd, hn] at hl;cases hc2 : Nat.blt n len with
     | false => simp [hc2] at hl
     | true =>
      simp only [hc2] at hl;have hlt := IqQ hc2;obtain ⟨v, q1, q2⟩ := hE.run_part (cs' := l') hl ⟨h1, h2⟩ w
      have hde : ∃ d, E.desc e = some d := by
       unfold CC at hl;cases hq : E.desc e with
       | none => simp [hq] at hl
       | some d => exact ⟨d, rfl⟩
      obtain ⟨d, hde⟩ := hde;refine ⟨v, ?_, q2⟩;simp [Instr.index, asIntOf, hE.run_und hd, hlt, hE.run_size hde, q1]
    | _ => simp [hd, hn] at hl
   | _ => cases hx <;> simp [hd, hn] at hl
end
end Go.AE

