/- What is proved: what the plain functions over data say, whose trees the text before writes out: the law MemoryFields answers true. Conditions: those that each theorem states. -/
import Derived.Test.YtojjaeaohjlfnaaGreatMemoryFieldsTree
set_option linter.unusedVariables false
set_option linter.unusedSectionVars false
set_option linter.unusedSimpArgs false
namespace Go.AE
section
variable [Ax]
def atV (a:List (List (Tr Plf))) (b:List D):Val:=KB (Aq a) b
def fin (a:List (List (Tr Plf))) (k:Nat) (V:Val):Plf→D
 |.stuck=>.row []
 |.done s cs=>.row (.int (s+1:Nat)::cs.map (Ab V))
 |.next j b=>Aq a k (.row (.int j::b.map (Ab V)))
def RM (a:List (List (Tr Plf))) (k:Nat) (V:Val) (t:Tr Plf):D:=fin a k V (t.get V)
theorem ly {a:List (List (Tr Plf))} (h:HC 0 a=true) {k p:Nat} {T:List (Tr Plf)} {t:Tr Plf} {b:List D} (d:a[k]?=some T) (f:T[p]?=some t) :
  Aq a k (.row (.int (p:Nat)::b))=RM a k (atV a b) t:=by
 have c:CP T (Aq a) (.row (.int (p:Nat)::b))=Dh (atV a b) (t.get (atV a b)):=by
  show (match T[p]? with|some t=>Dh _ (t.get _)|none=>none)=_
  rw [f];rfl
 unfold RM fin;split
 ·rename_i e;rw [e] at c;rw [Aw h d];rcases E9 (CP T (Aq a)) (.row (.int (p:Nat)::b)) with q|⟨n,q⟩
  ·exact q
  ·cases n with
   |zero=>cases q
   |succ n=>
    simp only [Fk,c] at q;cases q
 ·rename_i e;rw [e] at c;rw [Aw h d];exact Pn c
 ·rename_i e;rw [e] at c;rw [Aw h d,P5 c,←Aw h d]
theorem Rk {c:List (List (Tr Plf))} {k:Nat} {V:Val} {e:SB} {a b:Tr Plf}:RM c k V (.split e a b)=if Ad V e=true then RM c k V a else RM c k V b:=by
 unfold RM;rw [show (Tr.split e a b).get V=match Ad V e with|true=>a.get V|false=>b.get V from rfl]
 cases Ad V e<;>rfl
end
theorem Am {a:Int} (h:-9223372036854775808≤a) (h':a<9223372036854775808):IntKind.wrap .i64 a=a:=by
 show (if (true&&decide (a%(2^64:Int)≥2^63))=true then a%(2^64:Int)-2^64 else a%(2^64:Int))=a
 split
 ·rename_i q;simp only [Bool.true_and,decide_eq_true_eq] at q;omega
 ·rename_i q;simp only [Bool.true_and,decide_eq_true_eq] at q;omega
def len (d:D):Nat:=d.rows.length
def C0 (d:D):Nat:=d.toStr.data.toList.length
def cl (a:D) (i:Int) (j:Nat):D:=(a.rows.getD i.toNat default).cells.getD j default
def sl (a:D) (j:Nat):D:=a.cells.getD j default
def Cv:D:=.slc true []
def Ap:D:=.slc false []
def ad (a r:D):D:=.slc false (a.rows++[r])
def upd (a:D) (i:Int) (j:Nat) (x:D):D:=.slc a.isNil (a.rows.modify i.toNat fun r=>.row (r.cells.set j x))
def ct (a b:D):D:=.slc (a.isNil&&b.rows.isEmpty) (a.rows++b.rows)
def sb (a:D) (lo hi:Int):D:=.slc a.isNil ((a.rows.drop lo.toNat).take (hi.toNat-lo.toNat))
def ni (a:D) (b:Bool):D:=.slc b a.rows
def A0 (l b:Nat):D:=.str ⟨(C1 l b).toArray⟩
def Rj (a:D):D:=.slc false (a.toStr.data.toList.map fun b=>.row [.int b.toNat])
def mIx (ks:List Kd) (a k:D):Int:=EB ks k.cells a.rows 0
def sAt (a:D) (i:Int):Int:=((a.toStr.data.toList[i.toNat]?).getD 0).toNat
def ari (a:BinOp) (k:IntKind) (x y:Int):Int:=match CK a k x y with
 |some (.int _ n)=>n
 |_=>0
theorem ifT {c:Type} {p:Prop} [Decidable p] {a b:c} (h:p):cond (decide p) a b=a:=by rw [decide_eq_true h];rfl
theorem ifF {c:Type} {p:Prop} [Decidable p] {a b:c} (h:¬p):cond (decide p) a b=b:=by rw [decide_eq_false h];rfl
section
variable [Ax]
def DS (c:List (List (Tr Plf))) (k:Nat) (V:Val):Tr Plf→D
 |.leaf l=>fin c k V l
 |.split e a b=>cond (Ad V e) (DS c k V a) (DS c k V b)
theorem JU {c:List (List (Tr Plf))} {k:Nat} {V:Val}:∀t:Tr Plf,RM c k V t=DS c k V t
 |.leaf l=>rfl
 |.split e a b=>by
  rw [Rk,JU a,JU b,DS];cases Ad V e<;>rfl
theorem ay {a:List (List (Tr Plf))} (h:HC 0 a=true) {k p:Nat} {T:List (Tr Plf)} {t:Tr Plf} {b:List D} (c:a[k]?=some T) (d:T[p]?=some t) :
  Aq a k (.row (.int (p:Nat)::b))=DS a k (atV a b) t:=(ly h c d).trans (JU t)
theorem cg {d:List (List (Tr Plf))} {k:Nat} {V:Val} {e:SB} {a b:Tr Plf} {c:Bool} {x y:D} (h:Ad V e=c) (f:DS d k V a=x) (g:DS d k V b=y):DS d k V (.split e a b)=cond c x y:=by
 rw [DS,h,f,g]
end
theorem lE {V:Val} {a b:SE} {x y:Int} (h:(Ab V a).toInt=x) (h':(Ab V b).toInt=y):Ad V (.lss a b)=decide (x<y):=by rw [←h,←h'];rfl
theorem qE {V:Val} {a b:SE} {x y:Int} (h:(Ab V a).toInt=x) (h':(Ab V b).toInt=y):Ad V (.eql a b)=decide (x=y):=by rw [←h,←h'];rfl
section
variable [Ax]
theorem cL {c:List (List (Tr Plf))} {k:Nat} {V:Val} {e f:SE} {a b:Tr Plf} {m n:Int} {x y:D} (d:DS c k V a=x) (g:DS c k V b=y) (h:(Ab V e).toInt=m:=by rfl) (h':(Ab V f).toInt=n:=by rfl):DS c k V (.split (.lss e f) a b)=cond (decide (m<n)) x y:=cg (lE h h') d g
theorem cQ {c:List (List (Tr Plf))} {k:Nat} {V:Val} {e f:SE} {a b:Tr Plf} {m n:Int} {x y:D} (d:DS c k V a=x) (g:DS c k V b=y) (h:(Ab V e).toInt=m:=by rfl) (h':(Ab V f).toInt=n:=by rfl):DS c k V (.split (.eql e f) a b)=cond (decide (m=n)) x y:=cg (qE h h') d g
end
theorem aE {V:Val} {a b:SE} {x y:Bool} (h:Ad V a=x) (h':Ad V b=y):Ad V (.and a b)=(x&&y):=by rw [←h,←h'];rfl
theorem nE {V:Val} {a:SE} {x:Bool} (h:Ad V a=x):Ad V (.neg a)=(!x):=by rw [←h];rfl
theorem Dl {a r:D}:len (ad a r)=len a+1:=by
 show (a.rows++[r]).length=_;simp [len]
theorem LV:len Cv=0:=rfl
theorem VP {a:D} {b:Bool}:len (ni a b)=len a:=rfl
theorem Mt {a:D} {lo hi:Int} (h:lo.toNat≤hi.toNat) (h':hi.toNat≤len a):len (sb a lo hi)=hi.toNat-lo.toNat:=by
 show ((a.rows.drop _).take _).length=_;have:hi.toNat≤a.rows.length:=h';simp;omega
theorem If {a r:D} {k:Int} {j:Nat} (c:0≤k):cl (ad a r) k j=if k=len a then sl r j else cl a k j:=by
 have d:len a=a.rows.length:=rfl;show ((a.rows++[r])[k.toNat]?.getD default).cells.getD j default=_;by_cases q:k.toNat<a.rows.length
 ·rw [List.getElem?_append_left q,if_neg (by omega)]
  rfl
 ·by_cases b:k=len a
  ·subst b;rw [if_pos rfl];have:((len a:Int)).toNat=a.rows.length:=by omega
   rw [this];simp [sl]
  ·rw [if_neg b,List.getElem?_eq_none (by simp;omega)]
   show _=(a.rows[k.toNat]?.getD default).cells.getD j default;rw [List.getElem?_eq_none (by omega)]
theorem W9 {P:Program} {ts:List TypeId} {a:List D} {ks:List Kd} (h:Pi P ts a) (b:By (Env.of P) ts=some ks):ks.length=a.length∧Od (Env.of P).kinds 9 ks a:=by
 obtain ⟨c,cs,M,e,d,_,f⟩:=h;rw [b] at e;cases e;exact ⟨d.len.2,f⟩
theorem Gy.cell {K:TypeId→Option (List Kd)} {m j:Nat} {e:TypeId} {ks:List Kd} {kd:Kd} {d:D} {i:Int} (h:Gy K (m+1) (.slice e) d) (r:K e=some ks) (h0:0≤i) (hi:i<len d) (t:ks[j]?=some kd):Gy K m kd (cl d i j):=by
 obtain ⟨I,rows,rfl,_,q⟩:=h;have l:i.toNat<rows.length:=by have:len (.slc I rows)=rows.length:=rfl;omega
 obtain ⟨cs,J,_,e3⟩:=q ks r _ (List.getElem_mem l);show Gy K m kd ((rows[i.toNat]?.getD default).cells.getD j default);rw [List.getElem?_eq_getElem l,Option.getD_some,J];exact e3 j kd t
theorem Gy.toI {K:TypeId→Option (List Kd)} {m:Nat} {k:IntKind} {d:D} (h:Gy K m (.int k) d):∃n,d=.int n:=by cases m<;>exact h
theorem Gy.toB {K:TypeId→Option (List Kd)} {m:Nat} {d:D} (h:Gy K m .bool d):∃b,d=.bool b:=by cases m<;>exact h
def fdG (p:Nat→Bool):Nat→Nat→Int
 |0,_=>-1
 |k+1,i=>cond (p i) (i:Int) (fdG p k (i+1))
theorem Fs {p:Nat→Bool}:∀{k i:Nat},fdG p k i<i+k
 |0,i=>by show (-1:Int)<_;omega
 |k+1,i=>by
  rw [fdG];have:=Fs (p:=p) (k:=k) (i:=i+1);cases p i
  ·show fdG p k (i+1)<_;omega
  ·show (i:Int)<_;omega
theorem R8 {p:Nat→Bool}:∀{k i:Nat},fdG p k i = -1∨(i:Int)≤fdG p k i
 |0,i=>.inl rfl
 |k+1,i=>by
  rw [fdG];cases p i
  ·show fdG p k (i+1)=_∨_≤fdG p k (i+1);rcases R8 (p:=p) (k:=k) (i:=i+1) with h|h
   ·exact .inl h
   ·exact .inr (by omega)
  ·exact .inr (Int.le_refl _)
theorem JP {p:Nat→Bool}:∀{k i:Nat},0≤fdG p k i→p (fdG p k i).toNat=true
 |0,i=>fun h=>by simp [fdG] at h
 |k+1,i=>by
  rw [fdG];cases q:p i
  ·exact JP (k:=k)
  ·intro _;show p i=true;exact q
theorem LB {p:Nat→Bool}:∀{k i j:Nat},i≤j→j<i+k→p j=true→0≤fdG p k i∧fdG p k i≤j
 |0,i,j=>fun h h'=>by omega
 |k+1,i,j=>by
  intro h h' a;rw [fdG];cases q:p i
  ·have:i≠j:=fun c=>by rw [c,a] at q;cases q
   exact LB (k:=k) (by omega) (by omega) a
  ·show 0≤(i:Int)∧(i:Int)≤j;omega
theorem Pc {p:Nat→Bool} {k i j:Nat} (h:i≤j) (h':(j:Int)<fdG p k i∨(fdG p k i<0∧j<i+k)):p j=false:=by
 cases q:p j
 ·rfl
 ·have:=Fs (p:=p) (k:=k) (i:=i);have:=LB (p:=p) (k:=k) h (by omega) q
  omega
theorem YV {p:Nat→Bool} {k i:Nat} (h:∀j,i≤j→j<i+k→p j=false):fdG p k i = -1:=by
 rcases R8 (p:=p) (k:=k) (i:=i) with q|q
 ·exact q
 ·have a:=JP (p:=p) (k:=k) (i:=i) (by omega)
  rw [h _ (by omega) (by have:=Fs (p:=p) (k:=k) (i:=i);omega)] at a
  cases a
theorem M4 {p q:Nat→Bool}:∀{k i:Nat},(∀j,i≤j→j<i+k→p j=q j)→fdG p k i=fdG q k i
 |0,i,h=>rfl
 |k+1,i,h=>by
  rw [fdG,fdG,h i (Nat.le_refl _) (by omega),M4 fun j a b=>h j (by omega) (by omega)]
theorem ZP {F:Nat→D} {bad:Nat→Bool} {B:Nat→D} {n:Nat}:∀{k i:Nat},i+k=n→(∀j,i≤j→j<n→F j=cond (bad j) (B j) (F (j+1)))→F i=cond (decide (fdG bad k i<0)) (F n) (B (fdG bad k i).toNat)
 |0,i=>fun h _=>by
  have:i=n:=by omega
  subst this;rfl
 |k+1,i=>fun h c=>by
  rw [c i (Nat.le_refl _) (by omega),fdG]
  cases bad i
  ·exact ZP (by omega) fun j a b=>c j (by omega) b
  ·show B i=cond (decide ((i:Int)<0)) _ (B (i:Int).toNat);rw [ifF (by omega)]
   rfl
theorem UO {F:Nat→D} {bad:Nat→Bool} {B:Nat→D} {n:Nat} (a:∀j,j<n→F j=cond (bad j) (B j) (F (j+1))):F 0=cond (decide (fdG bad n 0<0)) (F n) (B (fdG bad n 0).toNat):=ZP (by omega) fun j _ b=>a j b
theorem find {F:Nat→D} {bad:Nat→Bool} {n:Nat} (a:∀j,j<n→F j=cond (bad j) (.row [.int 1,.int (j:Nat)]) (F (j+1))) (hr:F n=.row [.int 1,.int (-1)]):F 0=.row [.int 1,.int (fdG bad n 0)]:=by
 rw [UO a,hr];have h:=R8 (p:=bad) (k:=n) (i:=0);by_cases q:fdG bad n 0<0
 ·rw [ifT q];rcases h with h|h
  ·rw [h]
  ·omega
 ·rw [ifF q];have:((fdG bad n 0).toNat:Int)=fdG bad n 0:=by omega
  rw [this]
theorem Bm {i:Nat} (h:i<4611686018427387904):IntKind.wrap .i64 ((i:Int)+1)=((i+1:Nat):Int):=by rw [Am (by omega) (by omega)];omega
theorem Qc {a b:D}:D.strEq a b=D.strEq b a:=NK (U:=G7) _ _ _ _
theorem FX {a b:D}:D.strEq a b=true↔a.toStr=b.toStr:=by
 show AE.strEq _ _ _ _=true↔_;rw [Ck (U:=G7)];constructor
 ·intro h;rw [ByteArray.toList_eq,ByteArray.toList_eq] at h;have:a.toStr.data.toList=b.toStr.data.toList:=by simpa only [beq_iff_eq] using h
  exact ByteArray.ext (Array.toList_inj.1 this)
 ·intro h;rw [h];simp
theorem N9 {a b c:D} (h:D.strEq a b=true) (h':D.strEq b c=true):D.strEq a c=true:=FX.2 ((FX.1 h).trans (FX.1 h'))
theorem Uc {a:D} {i:Nat} {j c:Nat} (hi:i≤len a) (b:j<i):cl (sb a 0 i) j c=cl a j c:=by
 have d:i≤a.rows.length:=hi;show (((a.rows.drop 0).take (i-0)).getD j default).cells.getD c default=(a.rows.getD j default).cells.getD c default;rw [List.getD_eq_getElem?_getD,List.getD_eq_getElem?_getD,List.getElem?_take];simp [b]
theorem IF {a k:D} (d:∀r∈a.rows,∃x l,r=.row (x::l)):mIx [.str] a (.row [k])=fdG (fun i=>D.strEq (cl a i 0) k) (len a) 0:=by
 have gen:∀(b l:List D) (c:Bool),(∀r∈b,∃x l,r=.row (x::l))→EB [.str] [k] b l.length=fdG (fun i=>D.strEq (cl (.slc c (l++b)) i 0) k) b.length l.length:=by
  intro b
  induction b with
  |nil=>intro l c _;rfl
  |cons r b ih=>
   intro l c hr;rw [EB,List.length_cons,fdG]
   have e:cl (.slc c (l++r::b)) (l.length:Nat) 0=r.cells.getD 0 default:=by
    show ((l++r::b).getD l.length default).cells.getD 0 default=_;simp
   have i2:=ih (l++[r]) c fun x f=>hr x (List.mem_cons_of_mem _ f)
   rw [List.length_append,List.append_assoc] at i2;have i2:EB [.str] [k] b (l.length+1)=fdG (fun i=>D.strEq (cl (.slc c (l++r::b)) i 0) k) b.length (l.length+1):=i2
   rw [e,i2]
   have h:D0 [.str] r.cells [k]=D.strEq (r.cells.getD 0 default) k:=by
    obtain ⟨x,t,e⟩:=hr r (List.mem_cons_self ..);subst e;show (D.strEq x k&&true)=D.strEq x k;rw [Bool.and_true]
   rw [h];cases D.strEq (r.cells.getD 0 default) k<;>rfl
 have h:=gen a.rows [] a.isNil d;exact h
def ID (f:Nat→D) (i:Nat):D:=.slc false ((List.range i).map fun j=>.row [f j,.bool true])
theorem Ry {f:Nat→D} {i:Nat}:ad (ID f i) (.row [f i,.bool true])=ID f (i+1):=by
 unfold ID ad;rw [List.range_succ,List.map_append];rfl
theorem Xl {f:Nat→D} {i:Nat} {k:D}:mIx [.str] (ID f i) (.row [k])=fdG (fun j=>D.strEq (f j) k) i 0:=by
 rw [IF (by
  intro r hr;obtain ⟨j,_,e⟩:=List.mem_map.1 hr;exact ⟨_,_,e.symm⟩)]
 have a:len (ID f i)=i:=by unfold len ID;simp [D.rows]
 rw [a];refine M4 fun j _ b=>?_
 have:cl (ID f i) j 0=f j:=by
  show ((((List.range i).map fun j=>D.row [f j,.bool true])[j]?).getD default).cells.getD 0 default=f j
  rw [List.getElem?_map,List.getElem?_range (by omega)]
  rfl
 rw [this]
theorem Rn {f:Nat→D} {i:Nat} {j:Int} (h0:0≤j) (h:j<i):cl (ID f i) j 1=.bool true:=by
 show ((((List.range i).map fun j=>D.row [f j,.bool true])[j.toNat]?).getD default).cells.getD 1 default=_
 rw [List.getElem?_map,List.getElem?_range (by omega)]
 rfl
theorem ShK.cell {K:TypeId→Option (List Kd)} {o:Option Nat} {m j:Nat} {e:TypeId} {ks:List Kd} {kd:Kd} {d:D} {i:Nat} (h:ShK K o (m+1) (.slice e) d) (l:K e=some ks) (hi:i<len d) (r:ks[j]?=some kd):ShK K o m kd (cl d i j):=h.2 ks l i hi j kd r
theorem ShK.rows {K:TypeId→Option (List Kd)} {b m:Nat} {e:TypeId} {d:D} (h:ShK K (some b) (m+1) (.slice e) d):len d≤b:=h.1 b rfl
theorem ShK.text {K:TypeId→Option (List Kd)} {b m:Nat} {d:D} (h:ShK K (some b) m .str d):C0 d≤b:=by
 have:leB (some b) (C0 d):=by cases m<;>exact h
 exact this b rfl
end Go.AE
set_option maxRecDepth 100000
namespace Mm
open Go Go.AE
theorem lt:HC 0 ts=true:=by decide
theorem gw [Ax] {k p:Nat} {T:List (Tr Plf)} {t:Tr Plf} {a:List D} {x:D} (b:ts[k]?=some T) (c:T[p]?=some t) (h:DS ts k (atV ts a) t=x):Aq ts k (.row (.int (p:Nat)::a))=x:=(ay lt b c).trans h
section
variable [Ax]
def Xq (v0 v1 v2:D):D:=Aq ts 0 (.row [.int (0:Nat),v0,v1,v2])
def Wk (a b c d:D):D:=Aq ts 0 (.row [.int (1:Nat),a,b,c,d])
def Wm (a b c d e f g:D):D:=Aq ts 0 (.row [.int (2:Nat),a,b,c,d,e,f,g])
def Bv (v0 v1 v2:D):D:=Aq ts 1 (.row [.int (0:Nat),v0,v1,v2])
def Ra (a b c d:D):D:=Aq ts 1 (.row [.int (1:Nat),a,b,c,d])
def Uj (a b:D):D:=Aq ts 2 (.row [.int (0:Nat),a,b])
def Ou (a b c:D):D:=Aq ts 2 (.row [.int (1:Nat),a,b,c])
def Ey (a:D):D:=Aq ts 3 (.row [.int (0:Nat),a])
def B5 (v0 v1:D):D:=Aq ts 4 (.row [.int (0:Nat),v0,v1])
def UY (a b c:D):D:=Aq ts 4 (.row [.int (1:Nat),a,b,c])
def ah (a b c:D):D:=Aq ts 5 (.row [.int (0:Nat),a,b,c])
def aa (a b c d:D):D:=Aq ts 5 (.row [.int (1:Nat),a,b,c,d])
def bF (a b c:D):D:=Aq ts 6 (.row [.int (0:Nat),a,b,c])
def bp (a b c d:D):D:=Aq ts 6 (.row [.int (1:Nat),a,b,c,d])
def EY (d e f g h i j k l m a b c:D):D:=Aq ts 7 (.row [.int (0:Nat),d,e,f,g,h,i,j,k,l,m,a,b,c])
def WH (e f g h i j k l m n a b c d:D):D:=Aq ts 7 (.row [.int (1:Nat),e,f,g,h,i,j,k,l,m,n,a,b,c,d])
def Sq (a b:D):D:=Aq ts 8 (.row [.int (0:Nat),a,b])
def Q6 (a b c:D):D:=Aq ts 8 (.row [.int (1:Nat),a,b,c])
def Bt (a:D):D:=Aq ts 9 (.row [.int (0:Nat),a])
def Kw (a b c:D):D:=Aq ts 9 (.row [.int (1:Nat),a,b,c])
def Gk (c d e f g h i j k l a b:D):D:=Aq ts 10 (.row [.int (0:Nat),c,d,e,f,g,h,i,j,k,l,a,b])
def Po (d e f g h i j k l m a b c:D):D:=Aq ts 10 (.row [.int (1:Nat),d,e,f,g,h,i,j,k,l,m,a,b,c])
def Ed (a b c d e f:D):D:=Aq ts 11 (.row [.int (0:Nat),a,b,c,d,e,f])
def Hk (a b c d e f g:D):D:=Aq ts 11 (.row [.int (1:Nat),a,b,c,d,e,f,g])
def DF (a b c d:D):D:=Aq ts 12 (.row [.int (0:Nat),a,b,c,d])
def EK (a b c d e:D):D:=Aq ts 12 (.row [.int (1:Nat),a,b,c,d,e])
def Pv (v0 v1 v2 v3 v4 v5 v6 v7 v8 o a b c d e f g h i j k l m n:D):D:=Aq ts 13 (.row [.int (0:Nat),v0,v1,v2,v3,v4,v5,v6,v7,v8,o,a,b,c,d,e,f,g,h,i,j,k,l,m,n])
def QL (g h i j k l m n o p a b c d e f:D):D:=Aq ts 14 (.row [.int (0:Nat),g,h,i,j,k,l,m,n,o,p,a,b,c,d,e,f])
def Ls (h i j k l m n o p q a b c d e f g:D):D:=Aq ts 14 (.row [.int (1:Nat),h,i,j,k,l,m,n,o,p,q,a,b,c,d,e,f,g])
def Tt (v0 v1 v2 v3 v4 v5 v6 v7 v8 v9 v10 v11 v12 v13 v14 v15 v16 v17 v18 v19 v20 v21 v22 v23:D):D:=Aq ts 15 (.row [.int (0:Nat),v0,v1,v2,v3,v4,v5,v6,v7,v8,v9,v10,v11,v12,v13,v14,v15,v16,v17,v18,v19,v20,v21,v22,v23])
def Tk (v0 v1 v2 v3 v4 v5 v6 v7 v8 e a b c d:D):D:=Aq ts 15 (.row [.int (1:Nat),v0,v1,v2,v3,v4,v5,v6,v7,v8,e,a,b,c,d])
def LA (v0 v1 v2 v3 v4 v5 v6 v7 v8 o a b c d e f g h i j k l m n:D):D:=Aq ts 16 (.row [.int (0:Nat),v0,v1,v2,v3,v4,v5,v6,v7,v8,o,a,b,c,d,e,f,g,h,i,j,k,l,m,n])
def Jb (a b:D):D:=Aq ts 17 (.row [.int (0:Nat),a,b])
def I5 (a b c d:D):D:=Aq ts 17 (.row [.int (1:Nat),a,b,c,d])
def T7 (a b c d e f g:D):D:=Aq ts 17 (.row [.int (2:Nat),a,b,c,d,e,f,g])
def TU (a b:D):D:=Aq ts 18 (.row [.int (0:Nat),a,b])
def NN (a b c:D):D:=Aq ts 18 (.row [.int (1:Nat),a,b,c])
def H4 (v0 v1 v2 v3 v4 v5 v6 v7 v8 c a b:D):D:=Aq ts 19 (.row [.int (0:Nat),v0,v1,v2,v3,v4,v5,v6,v7,v8,c,a,b])
def DA (d e f g h i j k l m a b c:D):D:=Aq ts 19 (.row [.int (1:Nat),d,e,f,g,h,i,j,k,l,m,a,b,c])
def DW (b c d e f g h i j k a:D):D:=Aq ts 20 (.row [.int (0:Nat),b,c,d,e,f,g,h,i,j,k,a])
def NJ (v0 v1 v2 v3 v4 v5 v6 v7 v8 b a:D):D:=Aq ts 20 (.row [.int (1:Nat),v0,v1,v2,v3,v4,v5,v6,v7,v8,b,a])
def IT (a b c:D):D:=Aq ts 21 (.row [.int (0:Nat),a,b,c])
def TO (v0 v1 v2 a b v5 v6 v7 v8:D):D:=Aq ts 21 (.row [.int (1:Nat),v0,v1,v2,a,b,v5,v6,v7,v8])
def Ih (v0 a v2:D):D:=Aq ts 22 (.row [.int (0:Nat),v0,a,v2])
def Cw (a b c:D):D:=Aq ts 23 (.row [.int (0:Nat),a,b,c])
def Ha (a b c d e:D):D:=Aq ts 23 (.row [.int (1:Nat),a,b,c,d,e])
def Eh (a b c:D):D:=Aq ts 24 (.row [.int (0:Nat),a,b,c])
def Gd (a b c d e f g h:D):D:=Aq ts 25 (.row [.int (0:Nat),a,b,c,d,e,f,g,h])
def Ew (a b c d e f g h i j:D):D:=Aq ts 25 (.row [.int (1:Nat),a,b,c,d,e,f,g,h,i,j])
def NQ (v0 a v2:D):D:=Aq ts 26 (.row [.int (0:Nat),v0,a,v2])
def Mo (v0 a v2:D):D:=Aq ts 27 (.row [.int (0:Nat),v0,a,v2])
def BQ (a b:D):D:=Aq ts 28 (.row [.int (0:Nat),a,b])
def ND (a b c:D):D:=Aq ts 28 (.row [.int (1:Nat),a,b,c])
def CQ (j k l m n o p q r s a b c d e f g h i:D):D:=Aq ts 29 (.row [.int (0:Nat),j,k,l,m,n,o,p,q,r,s,a,b,c,d,e,f,g,h,i])
def Nk (v0 v1 v2 a b c d:D):D:=Aq ts 30 (.row [.int (0:Nat),v0,v1,v2,a,b,c,d])
def EG (v0 v1 v2 a b:D):D:=Aq ts 31 (.row [.int (0:Nat),v0,v1,v2,a,b])
def SU (g h i j k l m n o p a b c d e f:D):D:=Aq ts 32 (.row [.int (0:Nat),g,h,i,j,k,l,m,n,o,p,a,b,c,d,e,f])
def PI (g h i j k l m n o p a b c d e f:D):D:=Aq ts 32 (.row [.int (1:Nat),g,h,i,j,k,l,m,n,o,p,a,b,c,d,e,f])
def Ia (a b:D):D:=Aq ts 33 (.row [.int (0:Nat),a,b])
def TI (a b c d e f:D):D:=Aq ts 33 (.row [.int (1:Nat),a,b,c,d,e,f])
def NP (a b:D):D:=Aq ts 34 (.row [.int (0:Nat),a,b])
def PZ (a b c d e:D):D:=Aq ts 34 (.row [.int (1:Nat),a,b,c,d,e])
def QJ (a:D):D:=Aq ts 35 (.row [.int (0:Nat),a])
def IZ (a b c d:D):D:=Aq ts 35 (.row [.int (1:Nat),a,b,c,d])
def EI (a b c d:D):D:=Aq ts 36 (.row [.int (0:Nat),a,b,c,d])
def MW (a b c d e:D):D:=Aq ts 36 (.row [.int (1:Nat),a,b,c,d,e])
def Ug (a b c d:D):D:=Aq ts 37 (.row [.int (0:Nat),a,b,c,d])
def IC (a b c d e f:D):D:=Aq ts 37 (.row [.int (1:Nat),a,b,c,d,e,f])
def Qs (i j k l m n o p q r a b c d e f g h:D):D:=Aq ts 38 (.row [.int (0:Nat),i,j,k,l,m,n,o,p,q,r,a,b,c,d,e,f,g,h])
def NX (h i j k l m n o p q a b c d e f g:D):D:=Aq ts 38 (.row [.int (1:Nat),h,i,j,k,l,m,n,o,p,q,a,b,c,d,e,f,g])
def NV (v0 v1 v2:D):D:=Aq ts 39 (.row [.int (0:Nat),v0,v1,v2])
def ZJ (v0 v1 v2 a b:D):D:=Aq ts 40 (.row [.int (0:Nat),v0,v1,v2,a,b])
theorem lq (v0 v1 v2:D):Xq v0 v1 v2 =
  cond (9<(len v1:Int)) (
 .row [.int 1,(.bool false)]) (
 cond (100<(C0 v0:Int)) (
 .row [.int 1,(.bool false)]) (
 cond (100<(C0 v2:Int)) (
 .row [.int 1,(.bool false)]) (
 Wk (.int 0) v0 v1 v2))):=gw rfl rfl rfl
theorem fL (a:Int) (c b d:D):Wk (.int a) c b d =
  cond (a<len b) (
 cond (a<0) (
 .row []) (
 cond (16<(len (cl b a 1):Int)) (
 .row [.int 1,(.bool false)]) (
 cond (100<(C0 (cl b a 0):Int)) (
 .row [.int 1,(.bool false)]) (
 Wm (.int a) (.int 0) c b d (cl b a 0) (cl b a 1))))) (
 .row [.int 1,(.bool true)]):=gw rfl rfl rfl
theorem fM (c a:Int) (d e f g b:D):Wm (.int c) (.int a) d e f g b =
  cond (a<len b) (
 cond (a<0) (
 .row []) (
 cond (100<(C0 (cl b a 0):Int)) (
 .row [.int 1,(.bool false)]) (
 cond (10<(len (cl b a 12):Int)) (
 .row [.int 1,(.bool false)]) (
 cond (6<(len (cl b a 8):Int)) (
 .row [.int 1,(.bool false)]) (
 Wm (.int c) (.int (IntKind.wrap .i64 (a+1))) d e f g b))))) (
 Wk (.int (IntKind.wrap .i64 (c+1))) d e f):=gw rfl rfl rfl
theorem ge (a:D) (b c:Bool):Bv a (.bool b) (.bool c) =
 Ra a (.bool b) (.bool c) (.int 0):=gw rfl rfl rfl
theorem fW (b:D) (d c:Bool) (a:Int):Ra b (.bool d) (.bool c) (.int a) =
  cond (a<len b) (
 cond (a<0) (
 .row []) (
 cond (c) (
 cond ((cl b a 0).toBool) (
 .row [.int 1,(.int a)]) (
 Ra b (.bool d) (.bool c) (.int (IntKind.wrap .i64 (a+1))))) (
 cond ((cl b a 0).toBool) (
 Ra b (.bool d) (.bool c) (.int (IntKind.wrap .i64 (a+1)))) (
 .row [.int 1,(.int a)])))) (
 .row [.int 1,(.int (-1))]):=gw rfl rfl rfl
theorem lh (a:D) (b:Bool):Uj a (.bool b) =
 Ou a (.bool b) (.int 0):=gw rfl rfl rfl
theorem jz (b:D) (c:Bool) (a:Int):Ou b (.bool c) (.int a) =
  cond (a<len b) (
 cond (a<0) (
 .row []) (
 cond ((IntKind.wrap .u8 (cl b a 0).toInt)<65) (
 cond ((IntKind.wrap .u8 (cl b a 0).toInt)<48) (
 .row [.int 1,(.int a)]) (
 cond (57<(IntKind.wrap .u8 (cl b a 0).toInt)) (
 .row [.int 1,(.int a)]) (
 Ou b (.bool c) (.int (IntKind.wrap .i64 (a+1)))))) (
 cond (90<(IntKind.wrap .u8 (cl b a 0).toInt)) (
 cond ((IntKind.wrap .u8 (cl b a 0).toInt)<97) (
 cond ((IntKind.wrap .u8 (cl b a 0).toInt)=95) (
 Ou b (.bool c) (.int (IntKind.wrap .i64 (a+1)))) (
 .row [.int 1,(.int a)])) (
 cond (122<(IntKind.wrap .u8 (cl b a 0).toInt)) (
 .row [.int 1,(.int a)]) (
 Ou b (.bool c) (.int (IntKind.wrap .i64 (a+1)))))) (
 Ou b (.bool c) (.int (IntKind.wrap .i64 (a+1))))))) (
 .row [.int 1,(.int (-1))]):=gw rfl rfl (cL (cL rfl (cL rfl (cL (cL (cQ rfl rfl) rfl) rfl))) rfl)
theorem cU (a:D):Ey a =
  cond ((sl (Bv (ad (ad Ap (.row [(.bool (!decide ((C0 a:Int)<1)))])) (.row [(.bool (!decide (32<(C0 a:Int))))])) (.bool false) (.bool false)) 0).toInt=1) (
 cond ((sl (Bv (ad (ad Ap (.row [(.bool (!decide ((C0 a:Int)<1)))])) (.row [(.bool (!decide (32<(C0 a:Int))))])) (.bool false) (.bool false)) 1).toInt<0) (
 cond (0<(C0 a:Int)) (
 cond ((sAt a 0)<65) (
 .row [.int 1,(.bool false)]) (
 cond (90<(sAt a 0)) (
 cond ((sAt a 0)<97) (
 .row [.int 1,(.bool false)]) (
 cond (122<(sAt a 0)) (
 .row [.int 1,(.bool false)]) (
 cond ((sl (Uj (Rj a) (.bool false)) 0).toInt=1) (
 .row [.int 1,(.bool (decide ((sl (Uj (Rj a) (.bool false)) 1).toInt<0)))]) (
 .row [])))) (
 cond ((sl (Uj (Rj a) (.bool false)) 0).toInt=1) (
 .row [.int 1,(.bool (decide ((sl (Uj (Rj a) (.bool false)) 1).toInt<0)))]) (
 .row [])))) (
 .row [])) (
 .row [.int 1,(.bool false)])) (
 .row []):=gw rfl rfl (cQ (cL (cL (cL rfl (cL (cL rfl (cL rfl (cQ rfl rfl))) (cQ rfl rfl))) rfl) rfl) rfl)
theorem lz (a b:D):B5 a b =
 UY a (.int 0) b:=gw rfl rfl rfl
theorem jc (b:D) (a:Int) (c:D):UY b (.int a) c =
  cond (a<len b) (
 cond (a<0) (
 .row []) (
 cond (D.strEq (cl b a 0) c) (
 .row [.int 1,(.int a)]) (
 UY b (.int (IntKind.wrap .i64 (a+1))) c))) (
 .row [.int 1,(.int (-1))]):=gw rfl rfl rfl
theorem kC (a b:D) (c:Bool):ah a b (.bool c) =
  cond ((len a:Int)=(len b:Int)) (
 aa a b (.bool c) (.int 0)) (
 .row [.int 1,(.bool false)]):=gw rfl rfl (cQ rfl rfl)
theorem kQ (b c:D) (d:Bool) (a:Int):aa b c (.bool d) (.int a) =
  cond (a<len b) (
 cond (a<0) (
 .row []) (
 cond (a<len c) (
 cond ((D.strEq (cl b a 0) (cl c a 0)&&decide ((cl b a 1).toInt=(cl c a 1).toInt))) (
 aa b c (.bool d) (.int (IntKind.wrap .i64 (a+1)))) (
 .row [.int 1,(.bool false)])) (
 .row []))) (
 .row [.int 1,(.bool true)]):=gw rfl rfl (cL (cL rfl (cL (cg (aE rfl (qE rfl rfl)) rfl rfl) rfl)) rfl)
theorem kN (a b:D) (c:Bool):bF a b (.bool c) =
  cond ((len a:Int)=(len b:Int)) (
 bp a b (.bool c) (.int 0)) (
 .row [.int 1,(.bool false)]):=gw rfl rfl (cQ rfl rfl)
theorem kR (b c:D) (d:Bool) (a:Int):bp b c (.bool d) (.int a) =
  cond (a<len b) (
 cond (a<0) (
 .row []) (
 cond (a<len c) (
 cond ((decide ((cl b a 0).toInt=(cl c a 0).toInt)&&(decide ((cl b a 1).toInt=(cl c a 1).toInt)&&D.strEq (cl b a 2) (cl c a 2)))) (
 bp b c (.bool d) (.int (IntKind.wrap .i64 (a+1)))) (
 .row [.int 1,(.bool false)])) (
 .row []))) (
 .row [.int 1,(.bool true)]):=gw rfl rfl (cL (cL rfl (cL (cg (aE (qE rfl rfl) (aE (qE rfl rfl) rfl)) rfl rfl) rfl)) rfl)
theorem iw (d e f g h:D) (i j:Int) (k l:D) (m a:Int) (b:D) (c:Bool):EY d e f g h (.int i) (.int j) k l (.int m) (.int a) b (.bool c) =
 WH (.int m) (.int a) b (.bool c) (.int 0) d e f (.int i) (.int j) k l g h:=gw rfl rfl rfl
theorem bo (j i:Int) (b:D) (k:Bool) (a:Int) (l m n:D) (g h:Int) (c d e f:D):WH (.int j) (.int i) b (.bool k) (.int a) l m n (.int g) (.int h) c d e f =
  cond (a<len b) (
 cond (a<0) (
 .row []) (
 cond ((cl b a 0).toInt<j) (
 .row [.int 1,(.int g),(.int h)]) (
 cond (i<(cl b a 0).toInt) (
 .row [.int 1,(.int g),(.int h)]) (
 WH (cl b a 0) (.int i) b (.bool k) (.int (IntKind.wrap .i64 (a+1))) l m n (.int g) (.int h) c d e f)))) (
 .row [.int 2]):=gw rfl rfl rfl
theorem kL (a b:D):Sq a b =
 Q6 a (.int 0) b:=gw rfl rfl rfl
theorem f5 (b:D) (a:Int) (c:D):Q6 b (.int a) c =
  cond (a<len b) (
 cond (a<0) (
 .row []) (
 cond ((mIx [.str] c (.row [(cl b a 0)]))<0) (
 cond ((sl (Ey (cl b a 0)) 0).toInt=1) (
 cond ((cl b a 1).toInt<(-1048576)) (
 cond ((sl (Bv (ad (ad (ad Ap (.row [(sl (Ey (cl b a 0)) 1)])) (.row [(.bool true)])) (.row [(.bool false)])) (.bool false) (.bool false)) 0).toInt=1) (
 cond ((sl (Bv (ad (ad (ad Ap (.row [(sl (Ey (cl b a 0)) 1)])) (.row [(.bool true)])) (.row [(.bool false)])) (.bool false) (.bool false)) 1).toInt<0) (
 Q6 b (.int (IntKind.wrap .i64 (a+1))) (ad c (.row [(cl b a 0),(.bool true)]))) (
 .row [.int 1,(.int a),(ad c (.row [(cl b a 0),(.bool true)]))])) (
 .row [])) (
 cond ((sl (Bv (ad (ad (ad Ap (.row [(sl (Ey (cl b a 0)) 1)])) (.row [(.bool (!decide ((cl b a 1).toInt=0)))])) (.row [(.bool (!decide (1048576<(cl b a 1).toInt)))])) (.bool false) (.bool false)) 0).toInt=1) (
 cond ((sl (Bv (ad (ad (ad Ap (.row [(sl (Ey (cl b a 0)) 1)])) (.row [(.bool (!decide ((cl b a 1).toInt=0)))])) (.row [(.bool (!decide (1048576<(cl b a 1).toInt)))])) (.bool false) (.bool false)) 1).toInt<0) (
 Q6 b (.int (IntKind.wrap .i64 (a+1))) (ad c (.row [(cl b a 0),(.bool true)]))) (
 .row [.int 1,(.int a),(ad c (.row [(cl b a 0),(.bool true)]))])) (
 .row []))) (
 .row [])) (
 cond ((cl c (mIx [.str] c (.row [(cl b a 0)])) 1).toBool) (
 .row [.int 1,(.int a),(upd c (mIx [.str] c (.row [(cl b a 0)])) 1 (.bool true))]) (
 cond ((sl (Ey (cl b a 0)) 0).toInt=1) (
 cond ((cl b a 1).toInt<(-1048576)) (
 cond ((sl (Bv (ad (ad (ad Ap (.row [(sl (Ey (cl b a 0)) 1)])) (.row [(.bool true)])) (.row [(.bool false)])) (.bool false) (.bool false)) 0).toInt=1) (
 cond ((sl (Bv (ad (ad (ad Ap (.row [(sl (Ey (cl b a 0)) 1)])) (.row [(.bool true)])) (.row [(.bool false)])) (.bool false) (.bool false)) 1).toInt<0) (
 Q6 b (.int (IntKind.wrap .i64 (a+1))) (upd c (mIx [.str] c (.row [(cl b a 0)])) 1 (.bool true))) (
 .row [.int 1,(.int a),(upd c (mIx [.str] c (.row [(cl b a 0)])) 1 (.bool true))])) (
 .row [])) (
 cond ((sl (Bv (ad (ad (ad Ap (.row [(sl (Ey (cl b a 0)) 1)])) (.row [(.bool (!decide ((cl b a 1).toInt=0)))])) (.row [(.bool (!decide (1048576<(cl b a 1).toInt)))])) (.bool false) (.bool false)) 0).toInt=1) (
 cond ((sl (Bv (ad (ad (ad Ap (.row [(sl (Ey (cl b a 0)) 1)])) (.row [(.bool (!decide ((cl b a 1).toInt=0)))])) (.row [(.bool (!decide (1048576<(cl b a 1).toInt)))])) (.bool false) (.bool false)) 1).toInt<0) (
 Q6 b (.int (IntKind.wrap .i64 (a+1))) (upd c (mIx [.str] c (.row [(cl b a 0)])) 1 (.bool true))) (
 .row [.int 1,(.int a),(upd c (mIx [.str] c (.row [(cl b a 0)])) 1 (.bool true))])) (
 .row []))) (
 .row []))))) (
 .row [.int 1,(.int (-1)),c]):=gw rfl rfl (cL (cL rfl (cL (cQ (cL (cQ rfl rfl) (cQ (cL rfl rfl) rfl)) rfl) (cg rfl rfl (cQ (cL (cQ rfl rfl) (cQ (cL rfl rfl) rfl)) rfl)))) rfl)
theorem kY (a:D):Bt a =
 Kw a (.int 0) Ap:=gw rfl rfl rfl
theorem fq (b:D) (a:Int) (c:D):Kw b (.int a) c =
  cond (a<len b) (
 cond (a<0) (
 .row []) (
 cond ((cl b a 1).toInt=1) (
 cond ((mIx [.str] c (.row [(cl b a 0)]))<0) (
 Kw b (.int (IntKind.wrap .i64 (a+1))) (ad c (.row [(cl b a 0),(cl b a 5),(cl b a 6)]))) (
 Kw b (.int (IntKind.wrap .i64 (a+1))) (upd (upd c (mIx [.str] c (.row [(cl b a 0)])) 1 (cl b a 5)) (mIx [.str] c (.row [(cl b a 0)])) 2 (cl b a 6)))) (
 cond ((cl b a 1).toInt=2) (
 cond ((mIx [.str] c (.row [(cl b a 0)]))<0) (
 Kw b (.int (IntKind.wrap .i64 (a+1))) (ad c (.row [(cl b a 0),(cl b a 5),(cl b a 5)]))) (
 Kw b (.int (IntKind.wrap .i64 (a+1))) (upd (upd c (mIx [.str] c (.row [(cl b a 0)])) 1 (cl b a 5)) (mIx [.str] c (.row [(cl b a 0)])) 2 (cl b a 5)))) (
 cond ((cl b a 1).toInt=3) (
 cond ((mIx [.str] c (.row [(cl b a 0)]))<0) (
 Kw b (.int (IntKind.wrap .i64 (a+1))) (ad c (.row [(cl b a 0),(cl b a 5),(cl b a 6)]))) (
 Kw b (.int (IntKind.wrap .i64 (a+1))) (upd (upd c (mIx [.str] c (.row [(cl b a 0)])) 1 (cl b a 5)) (mIx [.str] c (.row [(cl b a 0)])) 2 (cl b a 6)))) (
 Kw b (.int (IntKind.wrap .i64 (a+1))) c))))) (
 .row [.int 1,c]):=gw rfl rfl (cL (cL rfl (cQ rfl (cQ rfl (cQ rfl rfl)))) rfl)
theorem eo (c d e f g:D) (h i:Int) (j k l a:D) (b:Bool):Gk c d e f g (.int h) (.int i) j k l a (.bool b) =
 Po a (.bool b) (.int 0) c d e (.int h) (.int i) j k f g l:=gw rfl rfl rfl
theorem ZU (e:D) (h:Bool) (b:Int) (i j k:D) (f g:Int) (l m c d a:D):Po e (.bool h) (.int b) i j k (.int f) (.int g) l m c d a =
  cond (b<len e) (
 cond (b<0) (
 .row []) (
 cond ((mIx [.str] a (.row [(cl e b 0)]))<0) (
 .row [.int 1,(.int f),(.int g)]) (
 Po e (.bool h) (.int (IntKind.wrap .i64 (b+1))) i j k (.int f) (.int g) l m c d a))) (
 .row [.int 2]):=gw rfl rfl rfl
theorem gT (a b:D) (c:Int) (d:Bool) (e:D) (f:Bool):Ed a b (.int c) (.bool d) e (.bool f) =
 Hk e (.bool f) (.int 0) a b (.int c) (.bool d):=gw rfl rfl rfl
theorem V9 (c:D) (f:Bool) (b:Int) (d a:D) (g:Int) (e:Bool):Hk c (.bool f) (.int b) d a (.int g) (.bool e) =
  cond (b<len c) (
 cond (b<0) (
 .row []) (
 cond ((mIx [.str] a (.row [(cl c b 0)]))<0) (
 cond (D.strEq (cl c b 0) d) (
 Hk c (.bool f) (.int (IntKind.wrap .i64 (b+1))) d a (.int g) (.bool e)) (
 Hk c (.bool f) (.int (IntKind.wrap .i64 (b+1))) d a (.int g) (.bool true))) (
 cond (D.strEq (cl c b 0) d) (
 Hk c (.bool f) (.int (IntKind.wrap .i64 (b+1))) d a (.int g) (.bool e)) (
 cond ((sl (Bv (ad (ad (ad Ap (.row [(.bool (!decide ((cl a (mIx [.str] a (.row [(cl c b 0)])) 1).toInt<0)))])) (.row [(.bool (!decide ((cl a (mIx [.str] a (.row [(cl c b 0)])) 2).toInt<(cl a (mIx [.str] a (.row [(cl c b 0)])) 1).toInt)))])) (.row [(.bool (decide ((cl a (mIx [.str] a (.row [(cl c b 0)])) 2).toInt<34359738368)))])) (.bool false) (.bool false)) 0).toInt=1) (
 cond ((sl (Bv (ad (ad (ad Ap (.row [(.bool (!decide ((cl a (mIx [.str] a (.row [(cl c b 0)])) 1).toInt<0)))])) (.row [(.bool (!decide ((cl a (mIx [.str] a (.row [(cl c b 0)])) 2).toInt<(cl a (mIx [.str] a (.row [(cl c b 0)])) 1).toInt)))])) (.row [(.bool (decide ((cl a (mIx [.str] a (.row [(cl c b 0)])) 2).toInt<34359738368)))])) (.bool false) (.bool false)) 1).toInt<0) (
 Hk c (.bool f) (.int (IntKind.wrap .i64 (b+1))) d a (.int g) (.bool e)) (
 .row [.int 1,(.bool e)])) (
 .row []))))) (
 .row [.int 2,(.bool e)]):=gw rfl rfl (cL (cL rfl (cL rfl (cg rfl rfl (cQ (cL rfl rfl) rfl)))) rfl)
theorem Z0 (a:Int) (b c:D) (d:Bool):DF (.int a) b c (.bool d) =
 EK (.int a) b (.int 0) c (.bool d):=gw rfl rfl rfl
theorem Th (e:Int) (b:D) (a:Int) (c:D) (d:Bool):EK (.int e) b (.int a) c (.bool d) =
  cond (a<len b) (
 cond (a<0) (
 .row []) (
 cond ((mIx [.str] c (.row [(cl b a 0)]))<0) (
 cond (d) (
 cond (0<(cl b a 1).toInt) (
 EK (.int (IntKind.wrap .i64 (e+(IntKind.wrap .i64 ((cl b a 1).toInt*0))))) b (.int (IntKind.wrap .i64 (a+1))) c (.bool d)) (
 EK (.int (IntKind.wrap .i64 (e+(IntKind.wrap .i64 ((cl b a 1).toInt*0))))) b (.int (IntKind.wrap .i64 (a+1))) c (.bool d))) (
 cond (0<(cl b a 1).toInt) (
 EK (.int (IntKind.wrap .i64 (e+(IntKind.wrap .i64 ((cl b a 1).toInt*0))))) b (.int (IntKind.wrap .i64 (a+1))) c (.bool d)) (
 EK (.int (IntKind.wrap .i64 (e+(IntKind.wrap .i64 ((cl b a 1).toInt*0))))) b (.int (IntKind.wrap .i64 (a+1))) c (.bool d)))) (
 cond (d) (
 cond (0<(cl b a 1).toInt) (
 EK (.int (IntKind.wrap .i64 (e+(IntKind.wrap .i64 ((cl b a 1).toInt*(cl c (mIx [.str] c (.row [(cl b a 0)])) 1).toInt))))) b (.int (IntKind.wrap .i64 (a+1))) c (.bool d)) (
 EK (.int (IntKind.wrap .i64 (e+(IntKind.wrap .i64 ((cl b a 1).toInt*(cl c (mIx [.str] c (.row [(cl b a 0)])) 2).toInt))))) b (.int (IntKind.wrap .i64 (a+1))) c (.bool d))) (
 cond (0<(cl b a 1).toInt) (
 EK (.int (IntKind.wrap .i64 (e+(IntKind.wrap .i64 ((cl b a 1).toInt*(cl c (mIx [.str] c (.row [(cl b a 0)])) 2).toInt))))) b (.int (IntKind.wrap .i64 (a+1))) c (.bool d)) (
 EK (.int (IntKind.wrap .i64 (e+(IntKind.wrap .i64 ((cl b a 1).toInt*(cl c (mIx [.str] c (.row [(cl b a 0)])) 1).toInt))))) b (.int (IntKind.wrap .i64 (a+1))) c (.bool d)))))) (
 .row [.int 1,(.int e)]):=gw rfl rfl rfl
theorem iM (v0 v1 v2 v3 v4:D) (v5 v6:Int) (v7 v8 o:D) (c d:Int) (e f:Bool) (g h b:Int) (a i j k l:D) (m n:Int):Pv v0 v1 v2 v3 v4 (.int v5) (.int v6) v7 v8 o (.int c) (.int d) (.bool e) (.bool f) (.int g) (.int h) (.int b) a i j k l (.int m) (.int n) =
  cond (b<(-1048576)) (
 .row [.int 1,(.int v5),(.int v6),(.int 9)]) (
 cond ((sl (Bv (ad (ad Ap (.row [(.bool (!decide (1048576<b)))])) (.row [(.bool (!decide (4<(len a:Int))))])) (.bool false) (.bool false)) 0).toInt=1) (
 cond ((sl (Bv (ad (ad Ap (.row [(.bool (!decide (1048576<b)))])) (.row [(.bool (!decide (4<(len a:Int))))])) (.bool false) (.bool false)) 1).toInt<0) (
 cond ((sl (Sq a Ap) 0).toInt=1) (
 cond ((sl (Sq a Ap) 1).toInt<0) (
 cond (v6<0) (
 .row []) (
 cond (len v8<v6) (
 .row []) (
 cond ((sl (Bt (sb v8 0 v6)) 0).toInt=1) (
 cond (a.isNil) (
 cond ((sl (Gk v0 v1 v2 v3 v4 (.int v5) (.int v6) v7 v8 (sl (Bt (sb v8 0 v6)) 1) Cv (.bool true)) 0).toInt=1) (
 .row [.int 1,(sl (Gk v0 v1 v2 v3 v4 (.int v5) (.int v6) v7 v8 (sl (Bt (sb v8 0 v6)) 1) Cv (.bool true)) 1),(sl (Gk v0 v1 v2 v3 v4 (.int v5) (.int v6) v7 v8 (sl (Bt (sb v8 0 v6)) 1) Cv (.bool true)) 2),(.int 8)]) (
 cond ((sl (Gk v0 v1 v2 v3 v4 (.int v5) (.int v6) v7 v8 (sl (Bt (sb v8 0 v6)) 1) Cv (.bool true)) 0).toInt=2) (
 cond ((sl (Ed (A0 0 0) (sl (Bt (sb v8 0 v6)) 1) (.int 0) (.bool false) Cv (.bool true)) 0).toInt=1) (
 .row [.int 1,(.int v5),(.int v6),(.int 9)]) (
 cond ((sl (Ed (A0 0 0) (sl (Bt (sb v8 0 v6)) 1) (.int 0) (.bool false) Cv (.bool true)) 0).toInt=2) (
 cond ((sl (Ed (A0 0 0) (sl (Bt (sb v8 0 v6)) 1) (.int 0) (.bool false) Cv (.bool true)) 1).toBool) (
 .row [.int 1,(.int v5),(.int v6),(.int 9)]) (
 cond ((sl (DF (.int b) a (sl (Bt (sb v8 0 v6)) 1) (.bool true)) 0).toInt=1) (
 cond ((sl (DF (.int b) a (sl (Bt (sb v8 0 v6)) 1) (.bool false)) 0).toInt=1) (
 cond ((sl (DF (.int b) a (sl (Bt (sb v8 0 v6)) 1) (.bool true)) 1).toInt<0) (
 .row [.int 1,(.int v5),(.int v6),(.int 9)]) (
 cond (1048576<(sl (DF (.int b) a (sl (Bt (sb v8 0 v6)) 1) (.bool false)) 1).toInt) (
 .row [.int 1,(.int v5),(.int v6),(.int 9)]) (
 .row [.int 2]))) (
 .row [])) (
 .row []))) (
 .row []))) (
 .row []))) (
 cond ((len a:Int)<1048576) (
 cond ((sl (Gk v0 v1 v2 v3 v4 (.int v5) (.int v6) v7 v8 (sl (Bt (sb v8 0 v6)) 1) (ct Ap a) (.bool (false&&decide ((len a:Int)=0)))) 0).toInt=1) (
 .row [.int 1,(sl (Gk v0 v1 v2 v3 v4 (.int v5) (.int v6) v7 v8 (sl (Bt (sb v8 0 v6)) 1) (ct Ap a) (.bool false)) 1),(sl (Gk v0 v1 v2 v3 v4 (.int v5) (.int v6) v7 v8 (sl (Bt (sb v8 0 v6)) 1) (ct Ap a) (.bool false)) 2),(.int 8)]) (
 cond ((sl (Gk v0 v1 v2 v3 v4 (.int v5) (.int v6) v7 v8 (sl (Bt (sb v8 0 v6)) 1) (ct Ap a) (.bool (false&&decide ((len a:Int)=0)))) 0).toInt=2) (
 cond ((sl (Ed (A0 0 0) (sl (Bt (sb v8 0 v6)) 1) (.int 0) (.bool false) (ct Ap a) (.bool (false&&decide ((len a:Int)=0)))) 0).toInt=1) (
 .row [.int 1,(.int v5),(.int v6),(.int 9)]) (
 cond ((sl (Ed (A0 0 0) (sl (Bt (sb v8 0 v6)) 1) (.int 0) (.bool false) (ct Ap a) (.bool (false&&decide ((len a:Int)=0)))) 0).toInt=2) (
 cond ((sl (Ed (A0 0 0) (sl (Bt (sb v8 0 v6)) 1) (.int 0) (.bool false) (ct Ap a) (.bool (false&&decide ((len a:Int)=0)))) 1).toBool) (
 .row [.int 1,(.int v5),(.int v6),(.int 9)]) (
 cond ((sl (DF (.int b) a (sl (Bt (sb v8 0 v6)) 1) (.bool true)) 0).toInt=1) (
 cond ((sl (DF (.int b) a (sl (Bt (sb v8 0 v6)) 1) (.bool false)) 0).toInt=1) (
 cond ((sl (DF (.int b) a (sl (Bt (sb v8 0 v6)) 1) (.bool true)) 1).toInt<0) (
 .row [.int 1,(.int v5),(.int v6),(.int 9)]) (
 cond (1048576<(sl (DF (.int b) a (sl (Bt (sb v8 0 v6)) 1) (.bool false)) 1).toInt) (
 .row [.int 1,(.int v5),(.int v6),(.int 9)]) (
 .row [.int 2]))) (
 .row [])) (
 .row []))) (
 .row []))) (
 .row []))) (
 .row []))) (
 .row [])))) (
 .row [.int 1,(.int v5),(.int v6),(.int 9)])) (
 .row [])) (
 .row [.int 1,(.int v5),(.int v6),(.int 9)])) (
 .row [])):=gw rfl rfl (cL rfl (cQ (cL (cQ (cL (cL rfl (cL rfl (cQ (cg rfl (cQ rfl (cQ (cQ rfl (cQ (cg rfl rfl (cQ (cQ (cL rfl (cL rfl rfl)) rfl) rfl)) rfl)) rfl)) (cL (cQ rfl (cQ (cQ rfl (cQ (cg rfl rfl (cQ (cQ (cL rfl (cL rfl rfl)) rfl) rfl)) rfl)) rfl)) rfl)) rfl))) rfl) rfl) rfl) rfl))
theorem f6 (g h:D) (i j:Int) (k l:Bool) (m n o:Int) (p a b c d:D) (e f:Int):QL g h (.int i) (.int j) (.bool k) (.bool l) (.int m) (.int n) (.int o) p a b c d (.int e) (.int f) =
 Ls g (.int 0) h (.int i) (.int j) (.bool k) (.bool l) (.int m) (.int n) (.int o) p a b c d (.int e) (.int f):=gw rfl rfl rfl
theorem Zl (i:D) (b:Int) (j:D) (k l:Int) (m n:Bool) (o p q:Int) (c d a e f:D) (g h:Int):Ls i (.int b) j (.int k) (.int l) (.bool m) (.bool n) (.int o) (.int p) (.int q) c d a e f (.int g) (.int h) =
  cond (b<len i) (
 cond (b<0) (
 .row []) (
 cond ((cl i b 1).toInt=9) (
 cond (D.strEq (cl i b 10) a) (
 .row [.int 1,(.int b)]) (
 Ls i (.int (IntKind.wrap .i64 (b+1))) j (.int k) (.int l) (.bool m) (.bool n) (.int o) (.int p) (.int q) c d a e f (.int g) (.int h))) (
 Ls i (.int (IntKind.wrap .i64 (b+1))) j (.int k) (.int l) (.bool m) (.bool n) (.int o) (.int p) (.int q) c d a e f (.int g) (.int h)))) (
 .row [.int 1,(.int (-1))]):=gw rfl rfl (cL (cL rfl (cQ rfl rfl)) rfl)
theorem jd (d e f g h:D) (c a:Int) (i b v9:D) (v10 v11:Int) (v12 v13:Bool) (v14 v15 v16:Int) (v17 v18 v19 v20 v21:D) (v22 v23:Int):Tt d e f g h (.int c) (.int a) i b v9 (.int v10) (.int v11) (.bool v12) (.bool v13) (.int v14) (.int v15) (.int v16) v17 v18 v19 v20 v21 (.int v22) (.int v23) =
  cond (a<0) (
 .row []) (
 cond (len b<a) (
 .row []) (
 cond ((sl (Bt (sb b 0 a)) 0).toInt=1) (
 cond ((mIx [.str] (sl (Bt (sb b 0 a)) 1) (.row [v19]))<0) (
 cond ((sl (QL (sb b 0 a) v9 (.int v10) (.int v11) (.bool v12) (.bool v13) (.int v14) (.int v15) (.int v16) v17 v18 v19 v20 v21 (.int v22) (.int v23)) 0).toInt=1) (
 .row [.int 1,(.int c),(.int a),(.int 8)]) (
 .row [])) (
 cond ((sl (QL (sb b 0 a) v9 (.int v10) (.int v11) (.bool v12) (.bool v13) (.int v14) (.int v15) (.int v16) v17 v18 v19 v20 v21 (.int v22) (.int v23)) 0).toInt=1) (
 cond ((sl (QL (sb b 0 a) v9 (.int v10) (.int v11) (.bool v12) (.bool v13) (.int v14) (.int v15) (.int v16) v17 v18 v19 v20 v21 (.int v22) (.int v23)) 1).toInt<0) (
 cond ((len v21:Int)<1) (
 .row [.int 1,(.int c),(.int a),(.int 3)]) (
 cond (40<(len v21:Int)) (
 .row [.int 1,(.int c),(.int a),(.int 3)]) (
 Tk (cl (sl (Bt (sb b 0 a)) 1) (mIx [.str] (sl (Bt (sb b 0 a)) 1) (.row [v19])) 1) v21 (.int 0) d e f (.int c) (.int a) i b g h (cl (sl (Bt (sb b 0 a)) 1) (mIx [.str] (sl (Bt (sb b 0 a)) 1) (.row [v19])) 1) (cl (sl (Bt (sb b 0 a)) 1) (mIx [.str] (sl (Bt (sb b 0 a)) 1) (.row [v19])) 2)))) (
 .row [.int 1,(.int c),(.int a),(.int 8)])) (
 .row []))) (
 .row []))):=gw rfl rfl (cL rfl (cL rfl (cQ (cL (cQ rfl rfl) (cQ rfl rfl)) rfl)))
theorem ZC (v0:Int) (v1:D) (v2:Int) (v3 v4 v5:D) (v6 v7:Int) (v8 d a b:D) (e c:Int):Tk (.int v0) v1 (.int v2) v3 v4 v5 (.int v6) (.int v7) v8 d a b (.int e) (.int c) =
  cond (v2<len v1) (
 cond (v2<0) (
 .row []) (
 cond ((sl (EY v3 v4 v5 a b (.int v6) (.int v7) v8 d (.int v0) (.int c) (ad (ad Ap (.row [(cl v1 v2 0)])) (.row [(cl v1 v2 1)])) (.bool false)) 0).toInt=1) (
 .row [.int 1,(sl (EY v3 v4 v5 a b (.int v6) (.int v7) v8 d (.int v0) (.int c) (ad (ad Ap (.row [(cl v1 v2 0)])) (.row [(cl v1 v2 1)])) (.bool false)) 1),(sl (EY v3 v4 v5 a b (.int v6) (.int v7) v8 d (.int v0) (.int c) (ad (ad Ap (.row [(cl v1 v2 0)])) (.row [(cl v1 v2 1)])) (.bool false)) 2),(.int 7)]) (
 cond ((sl (EY v3 v4 v5 a b (.int v6) (.int v7) v8 d (.int v0) (.int c) (ad (ad Ap (.row [(cl v1 v2 0)])) (.row [(cl v1 v2 1)])) (.bool false)) 0).toInt=2) (
 cond ((mIx [.str] a (.row [(cl v1 v2 2)]))<0) (
 .row [.int 1,(.int v6),(.int v7),(.int 8)]) (
 Tk (.int (IntKind.wrap .i64 ((cl v1 v2 1).toInt+1))) v1 (.int (IntKind.wrap .i64 (v2+1))) v3 v4 v5 (.int v6) (.int v7) v8 d a b (.int e) (.int c))) (
 .row [])))) (
 .row [.int 2]):=gw rfl rfl (cL (cL rfl (cQ rfl (cQ rfl rfl))) rfl)
theorem fw (v0 v1 v2 v3 v4:D) (v5 v6:Int) (v7 v8 g:D) (a b:Int) (c d:Bool) (h i m:Int) (s e l f t:D) (j k:Int) {p u v w n x o y z A q r:D} (h0:Pv v0 v1 v2 v3 v4 (.int v5) (.int v6) v7 v8 g (.int a) (.int b) (.bool c) (.bool d) (.int h) (.int i) (.int m) s e l f t (.int j) (.int k)=p) (E:EY v0 v1 v2 v3 v4 (.int v5) (.int v6) v7 v8 (.int 0) (.int (IntKind.wrap .i64 ((ari .shl .i64 1 b)-1))) (ad (ad Ap (.row [(.int h)])) (.row [(.int i)])) (.bool false)=u) (F:EY v0 v1 v2 v3 v4 (.int v5) (.int v6) v7 v8 (.int 0) (.int (IntKind.wrap .i64 ((ari .shl .i64 1 b)-1))) (ad Ap (.row [(.int h)])) (.bool false)=v) (G:Tt v0 v1 v2 v3 v4 (.int v5) (.int v6) v7 v8 g (.int a) (.int b) (.bool c) (.bool d) (.int h) (.int i) (.int m) s e l f t (.int j) (.int k)=w) (H:bF t Cv (.bool true)=n) (I:EY v0 v1 v2 v3 v4 (.int v5) (.int v6) v7 v8 (.int 0) (.int 34359738367) (ad (ad Ap (.row [(.int h)])) (.row [(.int i)])) (.bool false)=x) (J:ah s Cv (.bool true)=o) (K:EY v0 v1 v2 v3 v4 (.int v5) (.int v6) v7 v8 (.int 0) (.int 4294967295) (ad Ap (.row [(.int k)])) (.bool false)=y) (L:EY v0 v1 v2 v3 v4 (.int v5) (.int v6) v7 v8 (.int 2) (.int 1048576) (ad Ap (.row [(.int i)])) (.bool false)=z) (M:EY v0 v1 v2 v3 v4 (.int v5) (.int v6) v7 v8 (.int 0) (.int 1048576) (ad Ap (.row [(.int i)])) (.bool false)=A) (B:EY v0 v1 v2 v3 v4 (.int v5) (.int v6) v7 v8 (.int 0) (.int 255) (ad Ap (.row [(.int h)])) (.bool false)=q) (C:EY v0 v1 v2 v3 v4 (.int v5) (.int v6) v7 v8 (.int 1) (.int 3) (ad Ap (.row [(.int j)])) (.bool false)=r):LA v0 v1 v2 v3 v4 (.int v5) (.int v6) v7 v8 g (.int a) (.int b) (.bool c) (.bool d) (.int h) (.int i) (.int m) s e l f t (.int j) (.int k) =
  cond ((sl (Ey g) 0).toInt=1) (
 cond ((sl (Ey g) 1).toBool) (
 cond (v6<0) (
 .row []) (
 cond (len v8<v6) (
 .row []) (
 cond ((sl (B5 (sb v8 0 v6) g) 0).toInt=1) (
 cond ((sl (B5 (sb v8 0 v6) g) 1).toInt<0) (
 cond (a=1) (
 cond ((D.strEq g g&&(D.strEq e (A0 0 0)&&(D.strEq l (A0 0 0)&&(D.strEq f (A0 0 0)&&(decide (a=a)&&(true&&(true&&(true&&(decide (m=0)&&(decide (j=0)&&(decide (k=0)&&((!((!(false&&false))&&(!((!false)&&(!false)))))&&(!((!((d&&true)&&false))&&(!((!(d&&true))&&(!false)))))))))))))))))) (
 cond ((sl o 0).toInt=1) (
 cond ((sl o 1).toBool) (
 cond ((sl n 0).toInt=1) (
 cond ((sl n 1).toBool) (
 cond (b<1) (
 .row [.int 1,(.int v5),(.int v6),(.int 6)]) (
 cond (32<b) (
 .row [.int 1,(.int v5),(.int v6),(.int 6)]) (
 cond (c) (
 cond (8<b) (
 cond ((ari .rem .i64 b 8)=0) (
 cond ((sl u 0).toInt=1) (
 .row [.int 1,(sl u 1),(sl u 2),(.int 7)]) (
 cond ((sl u 0).toInt=2) (
 .row [.int 2]) (
 .row []))) (
 .row [.int 1,(.int v5),(.int v6),(.int 6)])) (
 .row [.int 1,(.int v5),(.int v6),(.int 6)])) (
 cond ((sl u 0).toInt=1) (
 .row [.int 1,(sl u 1),(sl u 2),(.int 7)]) (
 cond ((sl u 0).toInt=2) (
 .row [.int 2]) (
 .row [])))))) (
 .row [.int 1,(.int v5),(.int v6),(.int 5)])) (
 .row [])) (
 .row [.int 1,(.int v5),(.int v6),(.int 5)])) (
 .row [])) (
 .row [.int 1,(.int v5),(.int v6),(.int 5)])) (
 cond (a=2) (
 cond ((D.strEq g g&&(D.strEq e (A0 0 0)&&(D.strEq l (A0 0 0)&&(D.strEq f (A0 0 0)&&(decide (a=a)&&(true&&(true&&(decide (i=0)&&(decide (m=0)&&(decide (j=0)&&(decide (k=0)&&((!((!(false&&false))&&(!((!false)&&(!false)))))&&(!((!((d&&true)&&false))&&(!((!(d&&true))&&(!false)))))))))))))))))) (
 cond ((sl o 0).toInt=1) (
 cond ((sl o 1).toBool) (
 cond ((sl n 0).toInt=1) (
 cond ((sl n 1).toBool) (
 cond (b<1) (
 .row [.int 1,(.int v5),(.int v6),(.int 6)]) (
 cond (32<b) (
 .row [.int 1,(.int v5),(.int v6),(.int 6)]) (
 cond (c) (
 cond (8<b) (
 cond ((ari .rem .i64 b 8)=0) (
 cond ((sl v 0).toInt=1) (
 .row [.int 1,(sl v 1),(sl v 2),(.int 7)]) (
 cond ((sl v 0).toInt=2) (
 .row [.int 2]) (
 .row []))) (
 .row [.int 1,(.int v5),(.int v6),(.int 6)])) (
 .row [.int 1,(.int v5),(.int v6),(.int 6)])) (
 cond ((sl v 0).toInt=1) (
 .row [.int 1,(sl v 1),(sl v 2),(.int 7)]) (
 cond ((sl v 0).toInt=2) (
 .row [.int 2]) (
 .row [])))))) (
 .row [.int 1,(.int v5),(.int v6),(.int 5)])) (
 .row [])) (
 .row [.int 1,(.int v5),(.int v6),(.int 5)])) (
 .row [])) (
 .row [.int 1,(.int v5),(.int v6),(.int 5)])) (
 cond (a=3) (
 cond ((D.strEq g g&&(D.strEq e (A0 0 0)&&(D.strEq l (A0 0 0)&&(D.strEq f (A0 0 0)&&(decide (a=a)&&(decide (b=0)&&(true&&(true&&(decide (m=0)&&(decide (j=0)&&(decide (k=0)&&((!((!((c&&true)&&false))&&(!((!(c&&true))&&(!false)))))&&(!((!(false&&false))&&(!((!false)&&(!false)))))))))))))))))) (
 cond ((sl o 0).toInt=1) (
 cond ((sl o 1).toBool) (
 cond ((sl n 0).toInt=1) (
 cond ((sl n 1).toBool) (
 cond ((sl x 0).toInt=1) (
 .row [.int 1,(sl x 1),(sl x 2),(.int 7)]) (
 cond ((sl x 0).toInt=2) (
 .row [.int 2]) (
 .row []))) (
 .row [.int 1,(.int v5),(.int v6),(.int 5)])) (
 .row [])) (
 .row [.int 1,(.int v5),(.int v6),(.int 5)])) (
 .row [])) (
 .row [.int 1,(.int v5),(.int v6),(.int 5)])) (
 cond (a=4) (
 cond ((D.strEq g g&&(D.strEq e (A0 0 0)&&(D.strEq l (A0 0 0)&&(D.strEq f (A0 0 0)&&(decide (a=a)&&(decide (b=0)&&(decide (h=0)&&(decide (i=0)&&(true&&(decide (j=0)&&(decide (k=0)&&((!((!((c&&true)&&false))&&(!((!(c&&true))&&(!false)))))&&(!((!((d&&true)&&false))&&(!((!(d&&true))&&(!false)))))))))))))))))) (
 cond ((sl n 0).toInt=1) (
 cond ((sl n 1).toBool) (
 cond ((sl p 0).toInt=1) (
 .row [.int 1,(sl p 1),(sl p 2),(sl p 3)]) (
 cond ((sl p 0).toInt=2) (
 .row [.int 2]) (
 .row []))) (
 .row [.int 1,(.int v5),(.int v6),(.int 5)])) (
 .row [])) (
 .row [.int 1,(.int v5),(.int v6),(.int 5)])) (
 cond (a=5) (
 cond ((D.strEq g g&&(D.strEq e (A0 0 0)&&(D.strEq l (A0 0 0)&&(D.strEq f (A0 0 0)&&(decide (a=a)&&(decide (b=0)&&(true&&(true&&(decide (m=0)&&(decide (j=0)&&(decide (k=0)&&((!((!((c&&true)&&false))&&(!((!(c&&true))&&(!false)))))&&(!((!((d&&true)&&false))&&(!((!(d&&true))&&(!false)))))))))))))))))) (
 cond ((sl o 0).toInt=1) (
 cond ((sl o 1).toBool) (
 cond ((sl n 0).toInt=1) (
 cond ((sl n 1).toBool) (
 cond ((sl q 0).toInt=1) (
 .row [.int 1,(sl q 1),(sl q 2),(.int 7)]) (
 cond ((sl q 0).toInt=2) (
 cond ((sl A 0).toInt=1) (
 .row [.int 1,(sl A 1),(sl A 2),(.int 7)]) (
 cond ((sl A 0).toInt=2) (
 .row [.int 2]) (
 .row []))) (
 .row []))) (
 .row [.int 1,(.int v5),(.int v6),(.int 5)])) (
 .row [])) (
 .row [.int 1,(.int v5),(.int v6),(.int 5)])) (
 .row [])) (
 .row [.int 1,(.int v5),(.int v6),(.int 5)])) (
 cond (a=6) (
 cond ((D.strEq g g&&(D.strEq e (A0 0 0)&&(D.strEq l (A0 0 0)&&(D.strEq f (A0 0 0)&&(decide (a=a)&&(decide (b=0)&&(decide (h=0)&&(true&&(decide (m=0)&&(decide (j=0)&&(decide (k=0)&&((!((!((c&&true)&&false))&&(!((!(c&&true))&&(!false)))))&&(!((!(false&&false))&&(!((!false)&&(!false)))))))))))))))))) (
 cond ((sl o 0).toInt=1) (
 cond ((sl o 1).toBool) (
 cond ((sl n 0).toInt=1) (
 cond ((sl n 1).toBool) (
 cond ((sl z 0).toInt=1) (
 .row [.int 1,(sl z 1),(sl z 2),(.int 7)]) (
 cond ((sl z 0).toInt=2) (
 .row [.int 2]) (
 .row []))) (
 .row [.int 1,(.int v5),(.int v6),(.int 5)])) (
 .row [])) (
 .row [.int 1,(.int v5),(.int v6),(.int 5)])) (
 .row [])) (
 .row [.int 1,(.int v5),(.int v6),(.int 5)])) (
 cond (a=7) (
 cond ((D.strEq g g&&(D.strEq (A0 0 0) (A0 0 0)&&(D.strEq l (A0 0 0)&&(D.strEq f (A0 0 0)&&(decide (a=a)&&(decide (b=0)&&(decide (h=0)&&(decide (i=0)&&(true&&(decide (j=0)&&(decide (k=0)&&((!((!((c&&true)&&false))&&(!((!(c&&true))&&(!false)))))&&(!((!((d&&true)&&false))&&(!((!(d&&true))&&(!false)))))))))))))))))) (
 cond ((sl n 0).toInt=1) (
 cond ((sl n 1).toBool) (
 cond ((mIx [.str] v3 (.row [e]))<0) (
 .row [.int 1,(.int v5),(.int v6),(.int 8)]) (
 cond ((sl p 0).toInt=1) (
 .row [.int 1,(sl p 1),(sl p 2),(sl p 3)]) (
 cond ((sl p 0).toInt=2) (
 .row [.int 2]) (
 .row [])))) (
 .row [.int 1,(.int v5),(.int v6),(.int 5)])) (
 .row [])) (
 .row [.int 1,(.int v5),(.int v6),(.int 5)])) (
 cond (a=8) (
 cond ((D.strEq g g&&(D.strEq (A0 0 0) (A0 0 0)&&(D.strEq l (A0 0 0)&&(D.strEq f (A0 0 0)&&(decide (a=a)&&(decide (b=0)&&(decide (h=0)&&(decide (i=0)&&(decide (m=0)&&(decide (j=0)&&(decide (k=0)&&((!((!((c&&true)&&false))&&(!((!(c&&true))&&(!false)))))&&(!((!((d&&true)&&false))&&(!((!(d&&true))&&(!false)))))))))))))))))) (
 cond ((sl o 0).toInt=1) (
 cond ((sl o 1).toBool) (
 cond ((sl n 0).toInt=1) (
 cond ((sl n 1).toBool) (
 cond ((mIx [.str] v3 (.row [e]))<0) (
 .row [.int 1,(.int v5),(.int v6),(.int 8)]) (
 .row [.int 2])) (
 .row [.int 1,(.int v5),(.int v6),(.int 5)])) (
 .row [])) (
 .row [.int 1,(.int v5),(.int v6),(.int 5)])) (
 .row [])) (
 .row [.int 1,(.int v5),(.int v6),(.int 5)])) (
 cond (a=9) (
 cond ((D.strEq g g&&(D.strEq e (A0 0 0)&&(D.strEq (A0 0 0) (A0 0 0)&&(D.strEq f (A0 0 0)&&(decide (a=a)&&(decide (b=0)&&(decide (h=0)&&(decide (i=0)&&(decide (m=0)&&(decide (j=0)&&(decide (k=0)&&((!((!((c&&true)&&false))&&(!((!(c&&true))&&(!false)))))&&(!((!((d&&true)&&false))&&(!((!(d&&true))&&(!false)))))))))))))))))) (
 cond ((sl o 0).toInt=1) (
 cond ((sl o 1).toBool) (
 cond ((sl w 0).toInt=1) (
 .row [.int 1,(sl w 1),(sl w 2),(sl w 3)]) (
 cond ((sl w 0).toInt=2) (
 .row [.int 2]) (
 .row []))) (
 .row [.int 1,(.int v5),(.int v6),(.int 5)])) (
 .row [])) (
 .row [.int 1,(.int v5),(.int v6),(.int 5)])) (
 cond (a=10) (
 cond ((D.strEq g g&&(D.strEq e (A0 0 0)&&(D.strEq l (A0 0 0)&&(D.strEq f (A0 0 0)&&(decide (a=a)&&(true&&(decide (h=0)&&(decide (i=0)&&(decide (m=0)&&(decide (j=0)&&(decide (k=0)&&((!((!((c&&true)&&false))&&(!((!(c&&true))&&(!false)))))&&(!((!((d&&true)&&false))&&(!((!(d&&true))&&(!false)))))))))))))))))) (
 cond ((sl o 0).toInt=1) (
 cond ((sl o 1).toBool) (
 cond ((sl n 0).toInt=1) (
 cond ((sl n 1).toBool) (
 cond (b=2) (
 .row [.int 2]) (
 cond (b=4) (
 .row [.int 2]) (
 cond (b<8) (
 .row [.int 1,(.int v5),(.int v6),(.int 6)]) (
 cond (512<b) (
 .row [.int 1,(.int v5),(.int v6),(.int 6)]) (
 cond ((ari .rem .i64 b 8)=0) (
 .row [.int 2]) (
 .row [.int 1,(.int v5),(.int v6),(.int 6)])))))) (
 .row [.int 1,(.int v5),(.int v6),(.int 5)])) (
 .row [])) (
 .row [.int 1,(.int v5),(.int v6),(.int 5)])) (
 .row [])) (
 .row [.int 1,(.int v5),(.int v6),(.int 5)])) (
 cond (a=11) (
 cond ((D.strEq g g&&(D.strEq e (A0 0 0)&&(D.strEq l (A0 0 0)&&(D.strEq (A0 0 0) (A0 0 0)&&(decide (a=a)&&(decide (b=0)&&(decide (h=0)&&(decide (i=0)&&(decide (m=0)&&(true&&(decide (k=0)&&((!((!((c&&true)&&false))&&(!((!(c&&true))&&(!false)))))&&(!((!((d&&true)&&false))&&(!((!(d&&true))&&(!false)))))))))))))))))) (
 cond ((sl o 0).toInt=1) (
 cond ((sl o 1).toBool) (
 cond ((sl n 0).toInt=1) (
 cond ((sl n 1).toBool) (
 cond ((sl r 0).toInt=1) (
 .row [.int 1,(sl r 1),(sl r 2),(.int 7)]) (
 cond ((sl r 0).toInt=2) (
 cond ((sl (B5 (sb v8 0 v6) f) 0).toInt=1) (
 cond ((sl (B5 (sb v8 0 v6) f) 1).toInt<0) (
 .row [.int 1,(.int v5),(.int v6),(.int 8)]) (
 .row [.int 2])) (
 .row [])) (
 .row []))) (
 .row [.int 1,(.int v5),(.int v6),(.int 5)])) (
 .row [])) (
 .row [.int 1,(.int v5),(.int v6),(.int 5)])) (
 .row [])) (
 .row [.int 1,(.int v5),(.int v6),(.int 5)])) (
 cond (a=12) (
 cond ((D.strEq g g&&(D.strEq (A0 0 0) (A0 0 0)&&(D.strEq l (A0 0 0)&&(D.strEq f (A0 0 0)&&(decide (a=a)&&(decide (b=0)&&(decide (h=0)&&(decide (i=0)&&(true&&(decide (j=0)&&(true&&((!((!((c&&true)&&false))&&(!((!(c&&true))&&(!false)))))&&(!((!((d&&true)&&false))&&(!((!(d&&true))&&(!false)))))))))))))))))) (
 cond ((sl n 0).toInt=1) (
 cond ((sl n 1).toBool) (
 cond ((sl y 0).toInt=1) (
 .row [.int 1,(sl y 1),(sl y 2),(.int 7)]) (
 cond ((sl y 0).toInt=2) (
 cond ((mIx [.str] v4 (.row [e]))<0) (
 .row [.int 1,(.int v5),(.int v6),(.int 8)]) (
 cond ((cl v4 (mIx [.str] v4 (.row [e])) 1).toBool) (
 cond ((sl p 0).toInt=1) (
 .row [.int 1,(sl p 1),(sl p 2),(sl p 3)]) (
 cond ((sl p 0).toInt=2) (
 .row [.int 2]) (
 .row []))) (
 .row [.int 1,(.int v5),(.int v6),(.int 8)]))) (
 .row []))) (
 .row [.int 1,(.int v5),(.int v6),(.int 5)])) (
 .row [])) (
 .row [.int 1,(.int v5),(.int v6),(.int 5)])) (
 .row [.int 1,(.int v5),(.int v6),(.int 4)]))))))))))))) (
 .row [.int 1,(.int v5),(.int v6),(.int 2)])) (
 .row [])))) (
 .row [.int 1,(.int v5),(.int v6),(.int 1)])) (
 .row []):=by
  subst h0;subst E;subst F;subst G;subst H;subst I;subst J;subst K;subst L;subst M;subst B;subst C;exact gw rfl rfl (cQ (cg rfl (cL rfl (cL rfl (cQ (cL (cQ (cg (aE rfl (aE rfl (aE rfl (aE rfl (aE (qE rfl rfl) (aE rfl (aE rfl (aE rfl (aE (qE rfl rfl) (aE (qE rfl rfl) (aE (qE rfl rfl) (aE (nE (aE (nE (aE rfl rfl)) (nE (aE (nE rfl) (nE rfl))))) (nE (aE (nE (aE (aE rfl rfl) rfl)) (nE (aE (nE (aE rfl rfl)) (nE rfl))))))))))))))))) (cQ (cg rfl (cQ (cg rfl (cL rfl (cL rfl (cg rfl (cL (cQ (cQ rfl (cQ rfl rfl)) rfl) rfl) (cQ rfl (cQ rfl rfl))))) rfl) rfl) rfl) rfl) rfl) (cQ (cg (aE rfl (aE rfl (aE rfl (aE rfl (aE (qE rfl rfl) (aE rfl (aE rfl (aE (qE rfl rfl) (aE (qE rfl rfl) (aE (qE rfl rfl) (aE (qE rfl rfl) (aE (nE (aE (nE (aE rfl rfl)) (nE (aE (nE rfl) (nE rfl))))) (nE (aE (nE (aE (aE rfl rfl) rfl)) (nE (aE (nE (aE rfl rfl)) (nE rfl))))))))))))))))) (cQ (cg rfl (cQ (cg rfl (cL rfl (cL rfl (cg rfl (cL (cQ (cQ rfl (cQ rfl rfl)) rfl) rfl) (cQ rfl (cQ rfl rfl))))) rfl) rfl) rfl) rfl) rfl) (cQ (cg (aE rfl (aE rfl (aE rfl (aE rfl (aE (qE rfl rfl) (aE (qE rfl rfl) (aE rfl (aE rfl (aE (qE rfl rfl) (aE (qE rfl rfl) (aE (qE rfl rfl) (aE (nE (aE (nE (aE (aE rfl rfl) rfl)) (nE (aE (nE (aE rfl rfl)) (nE rfl))))) (nE (aE (nE (aE rfl rfl)) (nE (aE (nE rfl) (nE rfl))))))))))))))))) (cQ (cg rfl (cQ (cg rfl (cQ rfl (cQ rfl rfl)) rfl) rfl) rfl) rfl) rfl) (cQ (cg (aE rfl (aE rfl (aE rfl (aE rfl (aE (qE rfl rfl) (aE (qE rfl rfl) (aE (qE rfl rfl) (aE (qE rfl rfl) (aE rfl (aE (qE rfl rfl) (aE (qE rfl rfl) (aE (nE (aE (nE (aE (aE rfl rfl) rfl)) (nE (aE (nE (aE rfl rfl)) (nE rfl))))) (nE (aE (nE (aE (aE rfl rfl) rfl)) (nE (aE (nE (aE rfl rfl)) (nE rfl))))))))))))))))) (cQ (cg rfl (cQ rfl (cQ rfl rfl)) rfl) rfl) rfl) (cQ (cg (aE rfl (aE rfl (aE rfl (aE rfl (aE (qE rfl rfl) (aE (qE rfl rfl) (aE rfl (aE rfl (aE (qE rfl rfl) (aE (qE rfl rfl) (aE (qE rfl rfl) (aE (nE (aE (nE (aE (aE rfl rfl) rfl)) (nE (aE (nE (aE rfl rfl)) (nE rfl))))) (nE (aE (nE (aE (aE rfl rfl) rfl)) (nE (aE (nE (aE rfl rfl)) (nE rfl))))))))))))))))) (cQ (cg rfl (cQ (cg rfl (cQ rfl (cQ (cQ rfl (cQ rfl rfl)) rfl)) rfl) rfl) rfl) rfl) rfl) (cQ (cg (aE rfl (aE rfl (aE rfl (aE rfl (aE (qE rfl rfl) (aE (qE rfl rfl) (aE (qE rfl rfl) (aE rfl (aE (qE rfl rfl) (aE (qE rfl rfl) (aE (qE rfl rfl) (aE (nE (aE (nE (aE (aE rfl rfl) rfl)) (nE (aE (nE (aE rfl rfl)) (nE rfl))))) (nE (aE (nE (aE rfl rfl)) (nE (aE (nE rfl) (nE rfl))))))))))))))))) (cQ (cg rfl (cQ (cg rfl (cQ rfl (cQ rfl rfl)) rfl) rfl) rfl) rfl) rfl) (cQ (cg (aE rfl (aE rfl (aE rfl (aE rfl (aE (qE rfl rfl) (aE (qE rfl rfl) (aE (qE rfl rfl) (aE (qE rfl rfl) (aE rfl (aE (qE rfl rfl) (aE (qE rfl rfl) (aE (nE (aE (nE (aE (aE rfl rfl) rfl)) (nE (aE (nE (aE rfl rfl)) (nE rfl))))) (nE (aE (nE (aE (aE rfl rfl) rfl)) (nE (aE (nE (aE rfl rfl)) (nE rfl))))))))))))))))) (cQ (cg rfl (cL rfl (cQ rfl (cQ rfl rfl))) rfl) rfl) rfl) (cQ (cg (aE rfl (aE rfl (aE rfl (aE rfl (aE (qE rfl rfl) (aE (qE rfl rfl) (aE (qE rfl rfl) (aE (qE rfl rfl) (aE (qE rfl rfl) (aE (qE rfl rfl) (aE (qE rfl rfl) (aE (nE (aE (nE (aE (aE rfl rfl) rfl)) (nE (aE (nE (aE rfl rfl)) (nE rfl))))) (nE (aE (nE (aE (aE rfl rfl) rfl)) (nE (aE (nE (aE rfl rfl)) (nE rfl))))))))))))))))) (cQ (cg rfl (cQ rfl rfl) rfl) rfl) rfl) (cQ (cg (aE rfl (aE rfl (aE rfl (aE rfl (aE (qE rfl rfl) (aE (qE rfl rfl) (aE (qE rfl rfl) (aE (qE rfl rfl) (aE (qE rfl rfl) (aE (qE rfl rfl) (aE (qE rfl rfl) (aE (nE (aE (nE (aE (aE rfl rfl) rfl)) (nE (aE (nE (aE rfl rfl)) (nE rfl))))) (nE (aE (nE (aE (aE rfl rfl) rfl)) (nE (aE (nE (aE rfl rfl)) (nE rfl))))))))))))))))) (cQ (cg rfl (cQ rfl (cQ rfl rfl)) rfl) rfl) rfl) (cQ (cg (aE rfl (aE rfl (aE rfl (aE rfl (aE (qE rfl rfl) (aE rfl (aE (qE rfl rfl) (aE (qE rfl rfl) (aE (qE rfl rfl) (aE (qE rfl rfl) (aE (qE rfl rfl) (aE (nE (aE (nE (aE (aE rfl rfl) rfl)) (nE (aE (nE (aE rfl rfl)) (nE rfl))))) (nE (aE (nE (aE (aE rfl rfl) rfl)) (nE (aE (nE (aE rfl rfl)) (nE rfl))))))))))))))))) (cQ (cg rfl (cQ (cg rfl (cQ rfl (cQ rfl (cL rfl (cL rfl (cQ rfl rfl))))) rfl) rfl) rfl) rfl) rfl) (cQ (cg (aE rfl (aE rfl (aE rfl (aE rfl (aE (qE rfl rfl) (aE (qE rfl rfl) (aE (qE rfl rfl) (aE (qE rfl rfl) (aE (qE rfl rfl) (aE rfl (aE (qE rfl rfl) (aE (nE (aE (nE (aE (aE rfl rfl) rfl)) (nE (aE (nE (aE rfl rfl)) (nE rfl))))) (nE (aE (nE (aE (aE rfl rfl) rfl)) (nE (aE (nE (aE rfl rfl)) (nE rfl))))))))))))))))) (cQ (cg rfl (cQ (cg rfl (cQ rfl (cQ (cQ rfl rfl) rfl)) rfl) rfl) rfl) rfl) rfl) (cQ (cg (aE rfl (aE rfl (aE rfl (aE rfl (aE (qE rfl rfl) (aE (qE rfl rfl) (aE (qE rfl rfl) (aE (qE rfl rfl) (aE rfl (aE (qE rfl rfl) (aE rfl (aE (nE (aE (nE (aE (aE rfl rfl) rfl)) (nE (aE (nE (aE rfl rfl)) (nE rfl))))) (nE (aE (nE (aE (aE rfl rfl) rfl)) (nE (aE (nE (aE rfl rfl)) (nE rfl))))))))))))))))) (cQ (cg rfl (cQ rfl (cQ (cL rfl (cg rfl (cQ rfl (cQ rfl rfl)) rfl)) rfl)) rfl) rfl) rfl) rfl)))))))))))) rfl) rfl))) rfl) rfl)
theorem jW (b a:D):Jb b a =
 I5 a (.int 0) Cv (.bool true):=gw rfl rfl rfl
theorem ZZ (b:D) (a:Int) (c:D) (d:Bool):I5 b (.int a) c (.bool d) =
  cond (a<len b) (
 cond (a<0) (
 .row []) (
 cond ((cl b a 1).toInt=7) (
 cond ((len c:Int)<1073741824) (
 I5 b (.int (IntKind.wrap .i64 (a+1))) (ad c (.row [(cl b a 9)])) (.bool false)) (
 .row [])) (
 cond ((cl b a 1).toInt=8) (
 cond ((len c:Int)<1073741824) (
 I5 b (.int (IntKind.wrap .i64 (a+1))) (ad c (.row [(cl b a 9)])) (.bool false)) (
 .row [])) (
 cond ((cl b a 1).toInt=12) (
 cond ((len c:Int)<1073741824) (
 I5 b (.int (IntKind.wrap .i64 (a+1))) (ad c (.row [(cl b a 9)])) (.bool false)) (
 .row [])) (
 cond ((cl b a 1).toInt=9) (
 T7 b (.int a) (cl b a 12) (.int (len (cl b a 12):Int)) (.int 0) c (.bool d)) (
 I5 b (.int (IntKind.wrap .i64 (a+1))) c (.bool d))))))) (
 .row [.int 1,(ni c d)]):=gw rfl rfl (cL (cL rfl (cQ (cL rfl rfl) (cQ (cL rfl rfl) (cQ (cL rfl rfl) (cQ rfl rfl))))) rfl)
theorem Zy (d:D) (e:Int) (b:D) (f a:Int) (c:D) (g:Bool):T7 d (.int e) b (.int f) (.int a) c (.bool g) =
  cond (a<f) (
 cond (a<0) (
 .row []) (
 cond (a<len b) (
 cond ((len c:Int)<1073741824) (
 T7 d (.int e) b (.int f) (.int (IntKind.wrap .i64 (a+1))) (ad c (.row [(cl b a 2)])) (.bool false)) (
 .row [])) (
 .row []))) (
 I5 d (.int (IntKind.wrap .i64 (e+1))) c (.bool g)):=gw rfl rfl (cL (cL rfl (cL (cL rfl rfl) rfl)) rfl)
theorem jq (a b:D):TU a b =
 NN a b (.int 0):=gw rfl rfl rfl
theorem Zz (b c:D) (a:Int):NN b c (.int a) =
  cond (a<len b) (
 cond (a<0) (
 .row []) (
 cond (D.strEq c (cl b a 0)) (
 .row [.int 1,(.int a)]) (
 NN b c (.int (IntKind.wrap .i64 (a+1)))))) (
 .row [.int 1,(.int (-1))]):=gw rfl rfl rfl
theorem iq (c d e f g:D) (h i:Int) (j k:D) (l:Bool) (a:Int) (b:D):H4 c d e f g (.int h) (.int i) j k (.bool l) (.int a) b =
 DA b (.int 0) c d e (.int h) (.int i) j k f g (.bool l) (.int a):=gw rfl rfl rfl
theorem ZL (c:D) (b:Int) (g h i:D) (j k:Int) (l m d a:D) (f:Bool) (e:Int):DA c (.int b) g h i (.int j) (.int k) l m d a (.bool f) (.int e) =
  cond (b<len c) (
 cond (b<0) (
 .row []) (
 cond (len c<b) (
 .row []) (
 cond ((sl (TU (sb c 0 b) (cl c b 0)) 0).toInt=1) (
 cond ((sl (TU (sb c 0 b) (cl c b 0)) 1).toInt<0) (
 cond ((mIx [.str] d (.row [(cl c b 0)]))<0) (
 cond (e<0) (
 cond (f) (
 cond ((mIx [.str] a (.row [(cl c b 0)]))<0) (
 DA c (.int (IntKind.wrap .i64 (b+1))) g h i (.int j) (.int k) l m d a (.bool false) (.int 0)) (
 DA c (.int (IntKind.wrap .i64 (b+1))) g h i (.int j) (.int k) l m d a (cl a (mIx [.str] a (.row [(cl c b 0)])) 1) (.int 0))) (
 DA c (.int (IntKind.wrap .i64 (b+1))) g h i (.int j) (.int k) l m d a (.bool false) (.int 0))) (
 cond (f) (
 cond ((mIx [.str] a (.row [(cl c b 0)]))<0) (
 DA c (.int (IntKind.wrap .i64 (b+1))) g h i (.int j) (.int k) l m d a (.bool false) (.int e)) (
 DA c (.int (IntKind.wrap .i64 (b+1))) g h i (.int j) (.int k) l m d a (cl a (mIx [.str] a (.row [(cl c b 0)])) 1) (.int e))) (
 DA c (.int (IntKind.wrap .i64 (b+1))) g h i (.int j) (.int k) l m d a (.bool false) (.int e)))) (
 cond (e<(cl d (mIx [.str] d (.row [(cl c b 0)])) 1).toInt) (
 cond (f) (
 cond ((mIx [.str] a (.row [(cl c b 0)]))<0) (
 DA c (.int (IntKind.wrap .i64 (b+1))) g h i (.int j) (.int k) l m d a (.bool false) (cl d (mIx [.str] d (.row [(cl c b 0)])) 1)) (
 DA c (.int (IntKind.wrap .i64 (b+1))) g h i (.int j) (.int k) l m d a (cl a (mIx [.str] a (.row [(cl c b 0)])) 1) (cl d (mIx [.str] d (.row [(cl c b 0)])) 1))) (
 DA c (.int (IntKind.wrap .i64 (b+1))) g h i (.int j) (.int k) l m d a (.bool false) (cl d (mIx [.str] d (.row [(cl c b 0)])) 1))) (
 cond (f) (
 cond ((mIx [.str] a (.row [(cl c b 0)]))<0) (
 DA c (.int (IntKind.wrap .i64 (b+1))) g h i (.int j) (.int k) l m d a (.bool false) (.int e)) (
 DA c (.int (IntKind.wrap .i64 (b+1))) g h i (.int j) (.int k) l m d a (cl a (mIx [.str] a (.row [(cl c b 0)])) 1) (.int e))) (
 DA c (.int (IntKind.wrap .i64 (b+1))) g h i (.int j) (.int k) l m d a (.bool false) (.int e))))) (
 DA c (.int (IntKind.wrap .i64 (b+1))) g h i (.int j) (.int k) l m d a (.bool f) (.int e))) (
 .row [])))) (
 .row [.int 1,(.bool f),(.int e)]):=gw rfl rfl (cL (cL rfl (cL rfl (cQ rfl rfl))) rfl)
theorem eE (f g h c d:D) (e i:Int) (j k b a:D):DW f g h c d (.int e) (.int i) j k b a =
  cond ((sl (Ey b) 0).toInt=1) (
 cond ((sl (Ey b) 1).toBool) (
 cond ((mIx [.str] c (.row [b]))<0) (
 cond ((len a:Int)<1) (
 .row [.int 1,(.int e),(.int (-1)),(.int 3),(.int (-1)),b,a,c,d]) (
 cond (40<(len a:Int)) (
 .row [.int 1,(.int e),(.int (-1)),(.int 3),(.int (-1)),b,a,c,d]) (
 NJ a (.int 0) f g h (.int e) (.int (-1)) b c d (.bool true)))) (
 .row [.int 1,(.int e),(.int (-1)),(.int 2),(.int (-1)),b,a,c,d])) (
 .row [.int 1,(.int e),(.int (-1)),(.int 1),(.int (-1)),b,a,c,d])) (
 .row []):=gw rfl rfl (cQ rfl rfl)
theorem ZW (v0:D) (v1:Int) (v2 v3 v4:D) (v5 v6:Int) (v7 v8 a:D) (b:Bool):NJ v0 (.int v1) v2 v3 v4 (.int v5) (.int v6) v7 v8 a (.bool b) =
  cond (v1<len v0) (
 cond (v1<0) (
 .row []) (
 cond ((sl (LA v2 v3 v4 v8 a (.int v5) (.int v1) v7 v0 (cl v0 v1 0) (cl v0 v1 1) (cl v0 v1 2) (cl v0 v1 3) (cl v0 v1 4) (cl v0 v1 5) (cl v0 v1 6) (cl v0 v1 7) (cl v0 v1 8) (cl v0 v1 9) (cl v0 v1 10) (cl v0 v1 11) (cl v0 v1 12) (cl v0 v1 13) (cl v0 v1 14)) 0).toInt=1) (
 .row [.int 1,(sl (LA v2 v3 v4 v8 a (.int v5) (.int v1) v7 v0 (cl v0 v1 0) (cl v0 v1 1) (cl v0 v1 2) (cl v0 v1 3) (cl v0 v1 4) (cl v0 v1 5) (cl v0 v1 6) (cl v0 v1 7) (cl v0 v1 8) (cl v0 v1 9) (cl v0 v1 10) (cl v0 v1 11) (cl v0 v1 12) (cl v0 v1 13) (cl v0 v1 14)) 1),(sl (LA v2 v3 v4 v8 a (.int v5) (.int v1) v7 v0 (cl v0 v1 0) (cl v0 v1 1) (cl v0 v1 2) (cl v0 v1 3) (cl v0 v1 4) (cl v0 v1 5) (cl v0 v1 6) (cl v0 v1 7) (cl v0 v1 8) (cl v0 v1 9) (cl v0 v1 10) (cl v0 v1 11) (cl v0 v1 12) (cl v0 v1 13) (cl v0 v1 14)) 2),(sl (LA v2 v3 v4 v8 a (.int v5) (.int v1) v7 v0 (cl v0 v1 0) (cl v0 v1 1) (cl v0 v1 2) (cl v0 v1 3) (cl v0 v1 4) (cl v0 v1 5) (cl v0 v1 6) (cl v0 v1 7) (cl v0 v1 8) (cl v0 v1 9) (cl v0 v1 10) (cl v0 v1 11) (cl v0 v1 12) (cl v0 v1 13) (cl v0 v1 14)) 3),(.int v1),v7,v0,v8,a]) (
 cond ((sl (LA v2 v3 v4 v8 a (.int v5) (.int v1) v7 v0 (cl v0 v1 0) (cl v0 v1 1) (cl v0 v1 2) (cl v0 v1 3) (cl v0 v1 4) (cl v0 v1 5) (cl v0 v1 6) (cl v0 v1 7) (cl v0 v1 8) (cl v0 v1 9) (cl v0 v1 10) (cl v0 v1 11) (cl v0 v1 12) (cl v0 v1 13) (cl v0 v1 14)) 0).toInt=2) (
 cond (b) (
 NJ v0 (.int (IntKind.wrap .i64 (v1+1))) v2 v3 v4 (.int v5) (.int v1) v7 v8 a (.bool (!(cl v0 v1 4).toBool))) (
 NJ v0 (.int (IntKind.wrap .i64 (v1+1))) v2 v3 v4 (.int v5) (.int v1) v7 v8 a (.bool false))) (
 .row [])))) (
 cond ((sl (Jb v7 v0) 0).toInt=1) (
 cond ((sl (H4 v2 v3 v4 v8 a (.int v5) (.int (-1)) v7 v0 (.bool b) (.int 0) (sl (Jb v7 v0) 1)) 0).toInt=1) (
 cond ((mIx [.str] v8 (.row [v7]))<0) (
 cond ((mIx [.str] a (.row [v7]))<0) (
 cond ((sl (H4 v2 v3 v4 v8 a (.int v5) (.int (-1)) v7 v0 (.bool b) (.int 0) (sl (Jb v7 v0) 1)) 2).toInt<16) (
 .row [.int 2,v7,v0,(upd (ad v8 (.row [v7,(.int 0)])) (len v8:Int) 1 (.int (IntKind.wrap .i64 ((sl (H4 v2 v3 v4 v8 a (.int v5) (.int (-1)) v7 v0 (.bool b) (.int 0) (sl (Jb v7 v0) 1)) 2).toInt+1)))),(upd (ad a (.row [v7,(.bool false)])) (len a:Int) 1 (sl (H4 v2 v3 v4 v8 a (.int v5) (.int (-1)) v7 v0 (.bool b) (.int 0) (sl (Jb v7 v0) 1)) 1))]) (
 .row [.int 1,(.int v5),(.int (-1)),(.int 10),(.int (-1)),v7,v0,(upd (ad v8 (.row [v7,(.int 0)])) (len v8:Int) 1 (.int (IntKind.wrap .i64 ((sl (H4 v2 v3 v4 v8 a (.int v5) (.int (-1)) v7 v0 (.bool b) (.int 0) (sl (Jb v7 v0) 1)) 2).toInt+1)))),(upd (ad a (.row [v7,(.bool false)])) (len a:Int) 1 (sl (H4 v2 v3 v4 v8 a (.int v5) (.int (-1)) v7 v0 (.bool b) (.int 0) (sl (Jb v7 v0) 1)) 1))])) (
 .row [])) (
 .row [])) (
 .row [])) (
 .row [])):=gw rfl rfl (cL (cL rfl (cQ rfl (cQ rfl rfl))) (cQ (cQ rfl rfl) rfl))
theorem jJ (a b c:D):IT a b c =
  cond ((sl (Ey a) 0).toInt=1) (
 cond ((sl (Ey a) 1).toBool) (
 cond ((len b:Int)<1) (
 .row [.int 1,(.int 3),a,b,c]) (
 cond (60<(len b:Int)) (
 .row [.int 1,(.int 3),a,b,c]) (
 TO b (.int 0) a c (.int (-1)) (A0 0 0) Cv Ap Ap))) (
 .row [.int 1,(.int 1),a,b,c])) (
 .row []):=gw rfl rfl (cQ rfl rfl)
theorem ZR (v0:D) (v1:Int) (v2 a:D) (b:Int) (v5 v6 v7 v8:D):TO v0 (.int v1) v2 a (.int b) v5 v6 v7 v8 =
  cond (v1<len v0) (
 cond (v1<0) (
 .row []) (
 cond ((sl (DW v2 v0 a v7 v8 (.int v1) (.int (-1)) v5 v6 (cl v0 v1 0) (cl v0 v1 1)) 0).toInt=1) (
 .row [.int 2,(sl (DW v2 v0 a v7 v8 (.int v1) (.int (-1)) v5 v6 (cl v0 v1 0) (cl v0 v1 1)) 1),(sl (DW v2 v0 a v7 v8 (.int v1) (.int (-1)) v5 v6 (cl v0 v1 0) (cl v0 v1 1)) 2),(sl (DW v2 v0 a v7 v8 (.int v1) (.int (-1)) v5 v6 (cl v0 v1 0) (cl v0 v1 1)) 3),(.bool true),v2,v0,a,(.int v1),(sl (DW v2 v0 a v7 v8 (.int v1) (.int (-1)) v5 v6 (cl v0 v1 0) (cl v0 v1 1)) 4),(sl (DW v2 v0 a v7 v8 (.int v1) (.int (-1)) v5 v6 (cl v0 v1 0) (cl v0 v1 1)) 5),(sl (DW v2 v0 a v7 v8 (.int v1) (.int (-1)) v5 v6 (cl v0 v1 0) (cl v0 v1 1)) 6),(sl (DW v2 v0 a v7 v8 (.int v1) (.int (-1)) v5 v6 (cl v0 v1 0) (cl v0 v1 1)) 7),(sl (DW v2 v0 a v7 v8 (.int v1) (.int (-1)) v5 v6 (cl v0 v1 0) (cl v0 v1 1)) 8)]) (
 cond ((sl (DW v2 v0 a v7 v8 (.int v1) (.int (-1)) v5 v6 (cl v0 v1 0) (cl v0 v1 1)) 0).toInt=2) (
 TO v0 (.int (IntKind.wrap .i64 (v1+1))) v2 a (.int v1) (sl (DW v2 v0 a v7 v8 (.int v1) (.int (-1)) v5 v6 (cl v0 v1 0) (cl v0 v1 1)) 1) (sl (DW v2 v0 a v7 v8 (.int v1) (.int (-1)) v5 v6 (cl v0 v1 0) (cl v0 v1 1)) 2) (sl (DW v2 v0 a v7 v8 (.int v1) (.int (-1)) v5 v6 (cl v0 v1 0) (cl v0 v1 1)) 3) (sl (DW v2 v0 a v7 v8 (.int v1) (.int (-1)) v5 v6 (cl v0 v1 0) (cl v0 v1 1)) 4)) (
 .row [])))) (
 cond ((mIx [.str] v7 (.row [a]))<0) (
 .row [.int 2,(.int (-1)),(.int (-1)),(.int 11),(.bool true),v2,v0,a,(.int (-1)),(.int (-1)),v5,v6,v7,v8]) (
 .row [.int 2,(.int 0),(.int 0),(.int 0),(.bool false),v2,v0,a,(.int (-1)),(.int (-1)),v5,v6,v7,v8])):=gw rfl rfl (cL (cL rfl (cQ rfl (cQ rfl rfl))) rfl)
theorem iO (v0 a v2:D):Ih v0 a v2 =
  cond ((sl (IT v0 a v2) 0).toInt=1) (
 .row [.int 1,(.int (-1)),(.int (-1)),(sl (IT v0 a v2) 1),(.bool true)]) (
 cond ((sl (IT v0 a v2) 0).toInt=2) (
 .row [.int 1,(sl (IT v0 a v2) 1),(sl (IT v0 a v2) 2),(sl (IT v0 a v2) 3),(sl (IT v0 a v2) 4)]) (
 .row [])):=gw rfl rfl (cQ rfl (cQ rfl rfl))
theorem Zu (a b:Int) (c:D):Cw (.int a) (.int b) c =
 Ha (.int 0) c (.int 0) (.int a) (.int b):=gw rfl rfl rfl
theorem SW (d:Int) (b:D) (a c e:Int):Ha (.int d) b (.int a) (.int c) (.int e) =
  cond (a<len b) (
 cond (a<0) (
 .row []) (
 cond (a=c) (
 .row [.int 1,(.int d)]) (
 cond ((cl b a 1).toInt=1) (
 Ha (.int (ari .rem .i64 (IntKind.wrap .i64 (d+(cl b a 2).toInt)) 8)) b (.int (IntKind.wrap .i64 (a+1))) (.int c) (.int e)) (
 cond ((cl b a 1).toInt=2) (
 Ha (.int (ari .rem .i64 (IntKind.wrap .i64 (d+(cl b a 2).toInt)) 8)) b (.int (IntKind.wrap .i64 (a+1))) (.int c) (.int e)) (
 cond ((cl b a 1).toInt=10) (
 cond ((cl b a 2).toInt=0) (
 .row []) (
 Ha (.int (ari .rem .i64 (IntKind.wrap .i64 ((ari .quo .i64 (IntKind.wrap .i64 ((IntKind.wrap .i64 (d+(cl b a 2).toInt))-1)) (cl b a 2).toInt)*(cl b a 2).toInt)) 8)) b (.int (IntKind.wrap .i64 (a+1))) (.int c) (.int e))) (
 Ha (.int 0) b (.int (IntKind.wrap .i64 (a+1))) (.int c) (.int e))))))) (
 cond (len b=c) (
 .row [.int 1,(.int d)]) (
 .row [.int 2])):=gw rfl rfl (cL (cL rfl (cQ rfl (cQ rfl (cQ rfl (cQ (cQ rfl rfl) rfl))))) (cQ rfl rfl))
theorem ig (a:D) (b c:Int):Eh a (.int b) (.int c) =
  cond (b=len a) (
 .row [.int 1,(.bool (!decide (c=0)))]) (
 cond (b<0) (
 .row []) (
 cond (b<len a) (
 cond (c=0) (
 cond ((sl (B5 a (cl a b 11)) 0).toInt=1) (
 cond ((sl (B5 a (cl a b 11)) 1).toInt<0) (
 cond ((cl a b 1).toInt=11) (
 cond ((sl (Cw (.int 0) (.int 0) a) 0).toInt=1) (
 cond ((sl (Cw (.int 0) (.int 0) a) 1).toInt=0) (
 .row [.int 1,(.bool false)]) (
 .row [.int 1,(.bool true)])) (
 cond ((sl (Cw (.int 0) (.int 0) a) 0).toInt=2) (
 .row [.int 1,(.bool false)]) (
 .row []))) (
 .row [.int 1,(.bool false)])) (
 cond ((cl a b 1).toInt=11) (
 cond ((sl (Cw (sl (B5 a (cl a b 11)) 1) (.int 0) a) 0).toInt=1) (
 cond ((sl (Cw (sl (B5 a (cl a b 11)) 1) (.int 0) a) 1).toInt=0) (
 .row [.int 1,(.bool false)]) (
 .row [.int 1,(.bool true)])) (
 cond ((sl (Cw (sl (B5 a (cl a b 11)) 1) (.int 0) a) 0).toInt=2) (
 .row [.int 1,(.bool false)]) (
 .row []))) (
 .row [.int 1,(.bool false)]))) (
 .row [])) (
 cond ((cl a b 1).toInt=1) (
 cond ((cl a b 3).toBool) (
 .row [.int 1,(.bool true)]) (
 cond ((sl (B5 a (cl a b 11)) 0).toInt=1) (
 cond ((sl (B5 a (cl a b 11)) 1).toInt<0) (
 .row [.int 1,(.bool false)]) (
 .row [.int 1,(.bool false)])) (
 .row []))) (
 cond ((cl a b 1).toInt=2) (
 cond ((cl a b 3).toBool) (
 .row [.int 1,(.bool true)]) (
 cond ((sl (B5 a (cl a b 11)) 0).toInt=1) (
 cond ((sl (B5 a (cl a b 11)) 1).toInt<0) (
 .row [.int 1,(.bool false)]) (
 .row [.int 1,(.bool false)])) (
 .row []))) (
 cond ((cl a b 1).toInt=10) (
 cond ((cl a b 3).toBool) (
 .row [.int 1,(.bool true)]) (
 cond ((sl (B5 a (cl a b 11)) 0).toInt=1) (
 cond ((sl (B5 a (cl a b 11)) 1).toInt<0) (
 .row [.int 1,(.bool false)]) (
 .row [.int 1,(.bool false)])) (
 .row []))) (
 .row [.int 1,(.bool true)]))))) (
 .row []))):=gw rfl rfl (cQ rfl (cL rfl (cL (cQ (cQ (cL (cQ (cQ (cQ rfl rfl) (cQ rfl rfl)) rfl) (cQ (cQ (cQ rfl rfl) (cQ rfl rfl)) rfl)) rfl) (cQ (cg rfl rfl (cQ rfl rfl)) (cQ (cg rfl rfl (cQ rfl rfl)) (cQ (cg rfl rfl (cQ rfl rfl)) rfl)))) rfl)))
theorem fX (a b c:Int) (d:Bool) (e:Int) (f g h:D):Gd (.int a) (.int b) (.int c) (.bool d) (.int e) f g h =
 Ew (.int 0) h (.int 0) (.int a) (.int b) (.int c) (.bool d) (.int e) f g:=gw rfl rfl rfl
theorem Zs (d:Int) (b:D) (a f g h:Int) (j:Bool) (e:Int) (i c:D):Ew (.int d) b (.int a) (.int f) (.int g) (.int h) (.bool j) (.int e) i c =
  cond (a<len b) (
 cond (a<0) (
 .row []) (
 cond ((sl (Eh c (.int a) (.int d)) 0).toInt=1) (
 cond ((sl (Eh c (.int a) (.int d)) 1).toBool) (
 cond (a=len c) (
 .row [.int 1,(.int e),(.int (-1)),(sl (Eh c (.int a) (.int d)) 1)]) (
 .row [.int 1,(.int e),(.int a),(sl (Eh c (.int a) (.int d)) 1)])) (
 cond ((cl b a 1).toInt=1) (
 Ew (.int (ari .rem .i64 (IntKind.wrap .i64 (d+(cl b a 2).toInt)) 8)) b (.int (IntKind.wrap .i64 (a+1))) (.int f) (.int g) (.int h) (sl (Eh c (.int a) (.int d)) 1) (.int e) i c) (
 cond ((cl b a 1).toInt=2) (
 Ew (.int (ari .rem .i64 (IntKind.wrap .i64 (d+(cl b a 2).toInt)) 8)) b (.int (IntKind.wrap .i64 (a+1))) (.int f) (.int g) (.int h) (sl (Eh c (.int a) (.int d)) 1) (.int e) i c) (
 cond ((cl b a 1).toInt=10) (
 cond ((cl b a 2).toInt=0) (
 .row []) (
 Ew (.int (ari .rem .i64 (IntKind.wrap .i64 ((ari .quo .i64 (IntKind.wrap .i64 ((IntKind.wrap .i64 (d+(cl b a 2).toInt))-1)) (cl b a 2).toInt)*(cl b a 2).toInt)) 8)) b (.int (IntKind.wrap .i64 (a+1))) (.int f) (.int g) (.int h) (sl (Eh c (.int a) (.int d)) 1) (.int e) i c)) (
 Ew (.int 0) b (.int (IntKind.wrap .i64 (a+1))) (.int f) (.int g) (.int h) (sl (Eh c (.int a) (.int d)) 1) (.int e) i c))))) (
 .row []))) (
 cond ((sl (Eh c (.int (len b:Int)) (.int d)) 0).toInt=1) (
 cond ((sl (Eh c (.int (len b:Int)) (.int d)) 1).toBool) (
 cond ((len b:Int)=(len c:Int)) (
 .row [.int 1,(.int e),(.int (-1)),(sl (Eh c (.int (len b:Int)) (.int d)) 1)]) (
 .row [.int 1,(.int e),(.int (len b:Int)),(sl (Eh c (.int (len b:Int)) (.int d)) 1)])) (
 .row [.int 2,(sl (Eh c (.int (len b:Int)) (.int d)) 1)])) (
 .row [])):=gw rfl rfl (cL (cL rfl (cQ (cg rfl (cQ rfl rfl) (cQ rfl (cQ rfl (cQ (cQ rfl rfl) rfl)))) rfl)) (cQ (cg rfl (cQ rfl rfl) rfl) rfl))
theorem CV (v0 b v2:D) {a d e f g h i j k l c:D} (h0:Ih v0 b v2=a) (n:Gd (sl a 1) (sl a 2) (sl a 3) (sl a 4) (.int 0) (cl b 0 0) (cl b 0 1) (cl b 0 1)=d) (o:Gd (sl a 1) (sl a 2) (sl a 3) (sl d 1) (.int 1) (cl b 1 0) (cl b 1 1) (cl b 1 1)=e) (p:Gd (sl a 1) (sl a 2) (sl a 3) (sl e 1) (.int 2) (cl b 2 0) (cl b 2 1) (cl b 2 1)=f) (q:Gd (sl a 1) (sl a 2) (sl a 3) (sl f 1) (.int 3) (cl b 3 0) (cl b 3 1) (cl b 3 1)=g) (r:Gd (sl a 1) (sl a 2) (sl a 3) (sl g 1) (.int 4) (cl b 4 0) (cl b 4 1) (cl b 4 1)=h) (s:Gd (sl a 1) (sl a 2) (sl a 3) (sl h 1) (.int 5) (cl b 5 0) (cl b 5 1) (cl b 5 1)=i) (t:Gd (sl a 1) (sl a 2) (sl a 3) (sl i 1) (.int 6) (cl b 6 0) (cl b 6 1) (cl b 6 1)=j) (u:Gd (sl a 1) (sl a 2) (sl a 3) (sl j 1) (.int 7) (cl b 7 0) (cl b 7 1) (cl b 7 1)=k) (v:Gd (sl a 1) (sl a 2) (sl a 3) (sl k 1) (.int 8) (cl b 8 0) (cl b 8 1) (cl b 8 1)=l) (m:Gd (sl a 1) (sl a 2) (sl a 3) (sl l 1) (.int 9) (cl b 9 0) (cl b 9 1) (cl b 9 1)=c):NQ v0 b v2 =
  cond ((sl a 0).toInt=1) (
 cond ((sl a 4).toBool) (
 .row [.int 1,(sl a 1),(sl a 2),(sl a 3),(sl a 4)]) (
 cond (0<(len b:Int)) (
 cond ((sl d 0).toInt=1) (
 .row [.int 1,(sl d 1),(sl d 2),(.int 12),(sl d 3)]) (
 cond ((sl d 0).toInt=2) (
 cond (1<(len b:Int)) (
 cond ((sl e 0).toInt=1) (
 .row [.int 1,(sl e 1),(sl e 2),(.int 12),(sl e 3)]) (
 cond ((sl e 0).toInt=2) (
 cond (2<(len b:Int)) (
 cond ((sl f 0).toInt=1) (
 .row [.int 1,(sl f 1),(sl f 2),(.int 12),(sl f 3)]) (
 cond ((sl f 0).toInt=2) (
 cond (3<(len b:Int)) (
 cond ((sl g 0).toInt=1) (
 .row [.int 1,(sl g 1),(sl g 2),(.int 12),(sl g 3)]) (
 cond ((sl g 0).toInt=2) (
 cond (4<(len b:Int)) (
 cond ((sl h 0).toInt=1) (
 .row [.int 1,(sl h 1),(sl h 2),(.int 12),(sl h 3)]) (
 cond ((sl h 0).toInt=2) (
 cond (5<(len b:Int)) (
 cond ((sl i 0).toInt=1) (
 .row [.int 1,(sl i 1),(sl i 2),(.int 12),(sl i 3)]) (
 cond ((sl i 0).toInt=2) (
 cond (6<(len b:Int)) (
 cond ((sl j 0).toInt=1) (
 .row [.int 1,(sl j 1),(sl j 2),(.int 12),(sl j 3)]) (
 cond ((sl j 0).toInt=2) (
 cond (7<(len b:Int)) (
 cond ((sl k 0).toInt=1) (
 .row [.int 1,(sl k 1),(sl k 2),(.int 12),(sl k 3)]) (
 cond ((sl k 0).toInt=2) (
 cond (8<(len b:Int)) (
 cond ((sl l 0).toInt=1) (
 .row [.int 1,(sl l 1),(sl l 2),(.int 12),(sl l 3)]) (
 cond ((sl l 0).toInt=2) (
 cond (9<(len b:Int)) (
 cond ((sl c 0).toInt=1) (
 .row [.int 1,(sl c 1),(sl c 2),(.int 12),(sl c 3)]) (
 cond ((sl c 0).toInt=2) (
 cond (10<(len b:Int)) (
 .row []) (
 .row [.int 1,(sl a 1),(sl a 2),(sl a 3),(sl c 1)])) (
 .row []))) (
 .row [.int 1,(sl a 1),(sl a 2),(sl a 3),(sl l 1)])) (
 .row []))) (
 .row [.int 1,(sl a 1),(sl a 2),(sl a 3),(sl k 1)])) (
 .row []))) (
 .row [.int 1,(sl a 1),(sl a 2),(sl a 3),(sl j 1)])) (
 .row []))) (
 .row [.int 1,(sl a 1),(sl a 2),(sl a 3),(sl i 1)])) (
 .row []))) (
 .row [.int 1,(sl a 1),(sl a 2),(sl a 3),(sl h 1)])) (
 .row []))) (
 .row [.int 1,(sl a 1),(sl a 2),(sl a 3),(sl g 1)])) (
 .row []))) (
 .row [.int 1,(sl a 1),(sl a 2),(sl a 3),(sl f 1)])) (
 .row []))) (
 .row [.int 1,(sl a 1),(sl a 2),(sl a 3),(sl e 1)])) (
 .row []))) (
 .row [.int 1,(sl a 1),(sl a 2),(sl a 3),(sl d 1)])) (
 .row []))) (
 .row [.int 1,(sl a 1),(sl a 2),(sl a 3),(sl a 4)]))) (
 .row []):=by
  subst h0;subst n;subst o;subst p;subst q;subst r;subst s;subst t;subst u;subst v;subst m;exact gw rfl rfl (cQ (cg rfl rfl (cL (cQ rfl (cQ (cL (cQ rfl (cQ (cL (cQ rfl (cQ (cL (cQ rfl (cQ (cL (cQ rfl (cQ (cL (cQ rfl (cQ (cL (cQ rfl (cQ (cL (cQ rfl (cQ (cL (cQ rfl (cQ (cL (cQ rfl (cQ rfl rfl)) rfl) rfl)) rfl) rfl)) rfl) rfl)) rfl) rfl)) rfl) rfl)) rfl) rfl)) rfl) rfl)) rfl) rfl)) rfl) rfl)) rfl)) rfl)
theorem fK (v0 a v2:D):Mo v0 a v2 =
  cond ((sl (NQ v0 a v2) 0).toInt=1) (
 .row [.int 1,(.bool (!(sl (NQ v0 a v2) 4).toBool))]) (
 .row []):=gw rfl rfl (cQ rfl rfl)
theorem gu (a b:D):BQ a b =
 ND a (.int 0) b:=gw rfl rfl rfl
theorem ZD (b:D) (a:Int) (c:D):ND b (.int a) c =
  cond (a<len b) (
 cond (a<0) (
 .row []) (
 cond (D.strEq (cl b a 0) c) (
 .row [.int 1,(.int a)]) (
 ND b (.int (IntKind.wrap .i64 (a+1))) c))) (
 .row [.int 1,(.int (-1))]):=gw rfl rfl rfl
theorem Ga (o e:D) (p:Int) (q:D) (h c:Int) (r n:Bool) (s g d:Int) (a i j k l:D) (f m b:Int):CQ o e (.int p) q (.int h) (.int c) (.bool r) (.bool n) (.int s) (.int g) (.int d) a i j k l (.int f) (.int m) (.int b) =
  cond (h=1) (
 .row [.int 1,(.int c)]) (
 cond (h=2) (
 .row [.int 1,(.int c)]) (
 cond (h=3) (
 cond (n) (
 .row [.int 1,(.int 40)]) (
 cond (g<0) (
 .row [.int 1,(.int 0)]) (
 cond (g<34359738368) (
 cond (g<128) (
 .row [.int 1,(.int 8)]) (
 cond ((ari .shr .i64 g 7)<128) (
 .row [.int 1,(.int 16)]) (
 cond ((ari .shr .i64 (ari .shr .i64 g 7) 7)<128) (
 .row [.int 1,(.int 24)]) (
 cond ((ari .shr .i64 (ari .shr .i64 (ari .shr .i64 g 7) 7) 7)<128) (
 .row [.int 1,(.int 32)]) (
 cond ((ari .shr .i64 (ari .shr .i64 (ari .shr .i64 (ari .shr .i64 g 7) 7) 7) 7)<128) (
 .row [.int 1,(.int 40)]) (
 .row [.int 1,(.int 0)])))))) (
 .row [.int 1,(.int 0)])))) (
 cond (h=4) (
 cond ((sl (Bt e) 0).toInt=1) (
 cond (d<(-1048576)) (
 .row [.int 1,(.int 0)]) (
 cond ((sl (Bv (ad (ad Ap (.row [(.bool (!decide (1048576<d)))])) (.row [(.bool (!decide (4<(len a:Int))))])) (.bool false) (.bool false)) 0).toInt=1) (
 cond ((sl (Bv (ad (ad Ap (.row [(.bool (!decide (1048576<d)))])) (.row [(.bool (!decide (4<(len a:Int))))])) (.bool false) (.bool false)) 1).toInt<0) (
 cond ((sl (Sq a Ap) 0).toInt=1) (
 cond ((sl (Sq a Ap) 1).toInt<0) (
 cond (a.isNil) (
 cond ((sl (Ed (A0 0 0) (sl (Bt e) 1) (.int 0) (.bool false) Cv (.bool true)) 0).toInt=1) (
 .row [.int 1,(.int 0)]) (
 cond ((sl (Ed (A0 0 0) (sl (Bt e) 1) (.int 0) (.bool false) Cv (.bool true)) 0).toInt=2) (
 cond ((sl (Ed (A0 0 0) (sl (Bt e) 1) (.int 0) (.bool false) Cv (.bool true)) 1).toBool) (
 .row [.int 1,(.int 0)]) (
 cond ((sl (DF (.int d) a (sl (Bt e) 1) (.bool true)) 0).toInt=1) (
 cond ((sl (DF (.int d) a (sl (Bt e) 1) (.bool false)) 0).toInt=1) (
 .row [.int 1,(.int (IntKind.wrap .i64 (8*(sl (DF (.int d) a (sl (Bt e) 1) (.bool false)) 1).toInt)))]) (
 .row [])) (
 .row []))) (
 .row []))) (
 cond ((len a:Int)<1048576) (
 cond ((sl (Ed (A0 0 0) (sl (Bt e) 1) (.int 0) (.bool false) (ct Ap a) (.bool (false&&decide ((len a:Int)=0)))) 0).toInt=1) (
 .row [.int 1,(.int 0)]) (
 cond ((sl (Ed (A0 0 0) (sl (Bt e) 1) (.int 0) (.bool false) (ct Ap a) (.bool (false&&decide ((len a:Int)=0)))) 0).toInt=2) (
 cond ((sl (Ed (A0 0 0) (sl (Bt e) 1) (.int 0) (.bool false) (ct Ap a) (.bool (false&&decide ((len a:Int)=0)))) 1).toBool) (
 .row [.int 1,(.int 0)]) (
 cond ((sl (DF (.int d) a (sl (Bt e) 1) (.bool true)) 0).toInt=1) (
 cond ((sl (DF (.int d) a (sl (Bt e) 1) (.bool false)) 0).toInt=1) (
 .row [.int 1,(.int (IntKind.wrap .i64 (8*(sl (DF (.int d) a (sl (Bt e) 1) (.bool false)) 1).toInt)))]) (
 .row [])) (
 .row []))) (
 .row []))) (
 cond ((sl (Bv (ad (ad Ap (.row [(.bool (!decide (1048576<d)))])) (.row [(.bool false)])) (.bool false) (.bool false)) 0).toInt=1) (
 cond ((sl (Bv (ad (ad Ap (.row [(.bool (!decide (1048576<d)))])) (.row [(.bool false)])) (.bool false) (.bool false)) 1).toInt<0) (
 .row []) (
 .row [.int 1,(.int 0)])) (
 .row [])))) (
 .row [.int 1,(.int 0)])) (
 .row [])) (
 .row [.int 1,(.int 0)])) (
 .row []))) (
 .row [])) (
 cond (h=5) (
 .row [.int 1,(.int (IntKind.wrap .i64 (8*(IntKind.wrap .i64 (g+1)))))]) (
 cond (h=6) (
 .row [.int 1,(.int (IntKind.wrap .i64 (8*g)))]) (
 cond (h=10) (
 cond (c<8) (
 cond (c=2) (
 cond (b<0) (
 cond (0<(IntKind.wrap .i64 (c-8))) (
 .row [.int 1,(.int (IntKind.wrap .i64 (0+(IntKind.wrap .i64 (c-8)))))]) (
 .row [.int 1,(.int 0)])) (
 cond (335544320<b) (
 cond (0<(IntKind.wrap .i64 (c-8))) (
 .row [.int 1,(.int (IntKind.wrap .i64 (0+(IntKind.wrap .i64 (c-8)))))]) (
 .row [.int 1,(.int 0)])) (
 cond (0<(IntKind.wrap .i64 (c-8))) (
 .row [.int 1,(.int (IntKind.wrap .i64 ((IntKind.wrap .i64 ((IntKind.wrap .i64 ((ari .quo .i64 (IntKind.wrap .i64 ((IntKind.wrap .i64 (b+c))-1)) c)*c))-b))+(IntKind.wrap .i64 (c-8)))))]) (
 .row [.int 1,(.int (IntKind.wrap .i64 ((IntKind.wrap .i64 ((IntKind.wrap .i64 ((ari .quo .i64 (IntKind.wrap .i64 ((IntKind.wrap .i64 (b+c))-1)) c)*c))-b))+0)))])))) (
 cond (c=4) (
 cond (b<0) (
 cond (0<(IntKind.wrap .i64 (c-8))) (
 .row [.int 1,(.int (IntKind.wrap .i64 (0+(IntKind.wrap .i64 (c-8)))))]) (
 .row [.int 1,(.int 0)])) (
 cond (335544320<b) (
 cond (0<(IntKind.wrap .i64 (c-8))) (
 .row [.int 1,(.int (IntKind.wrap .i64 (0+(IntKind.wrap .i64 (c-8)))))]) (
 .row [.int 1,(.int 0)])) (
 cond (0<(IntKind.wrap .i64 (c-8))) (
 .row [.int 1,(.int (IntKind.wrap .i64 ((IntKind.wrap .i64 ((IntKind.wrap .i64 ((ari .quo .i64 (IntKind.wrap .i64 ((IntKind.wrap .i64 (b+c))-1)) c)*c))-b))+(IntKind.wrap .i64 (c-8)))))]) (
 .row [.int 1,(.int (IntKind.wrap .i64 ((IntKind.wrap .i64 ((IntKind.wrap .i64 ((ari .quo .i64 (IntKind.wrap .i64 ((IntKind.wrap .i64 (b+c))-1)) c)*c))-b))+0)))])))) (
 cond (0<(IntKind.wrap .i64 (c-8))) (
 .row [.int 1,(.int (IntKind.wrap .i64 (0+(IntKind.wrap .i64 (c-8)))))]) (
 .row [.int 1,(.int 0)])))) (
 cond (b<0) (
 cond (0<(IntKind.wrap .i64 (c-8))) (
 .row [.int 1,(.int (IntKind.wrap .i64 (0+(IntKind.wrap .i64 (c-8)))))]) (
 .row [.int 1,(.int 0)])) (
 cond (335544320<b) (
 cond (0<(IntKind.wrap .i64 (c-8))) (
 .row [.int 1,(.int (IntKind.wrap .i64 (0+(IntKind.wrap .i64 (c-8)))))]) (
 .row [.int 1,(.int 0)])) (
 cond (0<(IntKind.wrap .i64 (c-8))) (
 .row [.int 1,(.int (IntKind.wrap .i64 ((IntKind.wrap .i64 ((IntKind.wrap .i64 ((ari .quo .i64 (IntKind.wrap .i64 ((IntKind.wrap .i64 (b+8))-1)) 8)*8))-b))+(IntKind.wrap .i64 (c-8)))))]) (
 .row [.int 1,(.int (IntKind.wrap .i64 ((IntKind.wrap .i64 ((IntKind.wrap .i64 ((ari .quo .i64 (IntKind.wrap .i64 ((IntKind.wrap .i64 (b+8))-1)) 8)*8))-b))+0)))]))))) (
 cond (h=11) (
 cond (f<1) (
 .row [.int 1,(.int 0)]) (
 cond (3<f) (
 .row [.int 1,(.int 0)]) (
 cond ((IntKind.wrap .i64 (f-1))=0) (
 .row [.int 1,(.int 16)]) (
 cond ((IntKind.wrap .i64 (f-1))=1) (
 .row [.int 1,(.int 16)]) (
 cond ((IntKind.wrap .i64 (f-1))=2) (
 .row [.int 1,(.int 32)]) (
 .row [])))))) (
 .row [.int 1,(.int 0)])))))))):=gw rfl rfl (cQ rfl (cQ rfl (cQ (cg rfl rfl (cL rfl (cL rfl rfl))) (cQ (cQ (cL rfl (cQ (cL (cQ (cL (cg rfl (cQ rfl (cQ (cg rfl rfl (cQ (cQ rfl rfl) rfl)) rfl)) (cL (cQ rfl (cQ (cg rfl rfl (cQ (cQ rfl rfl) rfl)) rfl)) (cQ (cL rfl rfl) rfl))) rfl) rfl) rfl) rfl)) rfl) (cQ rfl (cQ rfl (cQ (cL (cQ (cL rfl (cL rfl rfl)) (cQ (cL rfl (cL rfl rfl)) rfl)) (cL rfl (cL rfl rfl))) (cQ (cL rfl (cL rfl (cQ rfl (cQ rfl (cQ rfl rfl))))) rfl))))))))
theorem eT (d a:D) (c:Int) (f e g:D) (b:Int):Nk d a (.int c) f e g (.int b) =
  cond ((sl (Ih f e g) 0).toInt=1) (
 cond ((sl (Ih f e g) 4).toBool) (
 cond (b<0) (
 .row []) (
 cond (b<len a) (
 cond ((sl (CQ d a (.int c) (cl a b 0) (cl a b 1) (cl a b 2) (cl a b 3) (cl a b 4) (cl a b 5) (cl a b 6) (cl a b 7) (cl a b 8) (cl a b 9) (cl a b 10) (cl a b 11) (cl a b 12) (cl a b 13) (cl a b 14) (.int 0)) 0).toInt=1) (
 cond (0<(IntKind.wrap .i64 ((ari .quo .i64 (IntKind.wrap .i64 ((IntKind.wrap .i64 ((IntKind.wrap .i64 (0+(sl (CQ d a (.int c) (cl a b 0) (cl a b 1) (cl a b 2) (cl a b 3) (cl a b 4) (cl a b 5) (cl a b 6) (cl a b 7) (cl a b 8) (cl a b 9) (cl a b 10) (cl a b 11) (cl a b 12) (cl a b 13) (cl a b 14) (.int 0)) 1).toInt))+8))-1)) 8)-1))) (
 .row [.int 1,(.int (IntKind.wrap .i64 ((ari .quo .i64 (IntKind.wrap .i64 ((IntKind.wrap .i64 ((IntKind.wrap .i64 (0+(sl (CQ d a (.int c) (cl a b 0) (cl a b 1) (cl a b 2) (cl a b 3) (cl a b 4) (cl a b 5) (cl a b 6) (cl a b 7) (cl a b 8) (cl a b 9) (cl a b 10) (cl a b 11) (cl a b 12) (cl a b 13) (cl a b 14) (.int 0)) 1).toInt))+8))-1)) 8)-1)))]) (
 .row [.int 1,(.int 0)])) (
 .row [])) (
 .row []))) (
 cond (c<0) (
 cond (b<0) (
 .row []) (
 cond (b<len a) (
 cond ((sl (CQ d a (.int c) (cl a b 0) (cl a b 1) (cl a b 2) (cl a b 3) (cl a b 4) (cl a b 5) (cl a b 6) (cl a b 7) (cl a b 8) (cl a b 9) (cl a b 10) (cl a b 11) (cl a b 12) (cl a b 13) (cl a b 14) (.int 0)) 0).toInt=1) (
 cond (0<(IntKind.wrap .i64 ((ari .quo .i64 (IntKind.wrap .i64 ((IntKind.wrap .i64 ((IntKind.wrap .i64 (0+(sl (CQ d a (.int c) (cl a b 0) (cl a b 1) (cl a b 2) (cl a b 3) (cl a b 4) (cl a b 5) (cl a b 6) (cl a b 7) (cl a b 8) (cl a b 9) (cl a b 10) (cl a b 11) (cl a b 12) (cl a b 13) (cl a b 14) (.int 0)) 1).toInt))+8))-1)) 8)-1))) (
 .row [.int 1,(.int (IntKind.wrap .i64 ((ari .quo .i64 (IntKind.wrap .i64 ((IntKind.wrap .i64 ((IntKind.wrap .i64 (0+(sl (CQ d a (.int c) (cl a b 0) (cl a b 1) (cl a b 2) (cl a b 3) (cl a b 4) (cl a b 5) (cl a b 6) (cl a b 7) (cl a b 8) (cl a b 9) (cl a b 10) (cl a b 11) (cl a b 12) (cl a b 13) (cl a b 14) (.int 0)) 1).toInt))+8))-1)) 8)-1)))]) (
 .row [.int 1,(.int 0)])) (
 .row [])) (
 .row []))) (
 cond (c<len e) (
 cond (b<0) (
 .row []) (
 cond (b<len (cl e c 1)) (
 cond ((sl (Cw (.int b) (.int 0) (cl e c 1)) 0).toInt=1) (
 cond (b<len a) (
 cond ((sl (CQ d a (.int c) (cl a b 0) (cl a b 1) (cl a b 2) (cl a b 3) (cl a b 4) (cl a b 5) (cl a b 6) (cl a b 7) (cl a b 8) (cl a b 9) (cl a b 10) (cl a b 11) (cl a b 12) (cl a b 13) (cl a b 14) (sl (Cw (.int b) (.int 0) (cl e c 1)) 1)) 0).toInt=1) (
 cond (0<(IntKind.wrap .i64 ((ari .quo .i64 (IntKind.wrap .i64 ((IntKind.wrap .i64 ((IntKind.wrap .i64 ((sl (Cw (.int b) (.int 0) (cl e c 1)) 1).toInt+(sl (CQ d a (.int c) (cl a b 0) (cl a b 1) (cl a b 2) (cl a b 3) (cl a b 4) (cl a b 5) (cl a b 6) (cl a b 7) (cl a b 8) (cl a b 9) (cl a b 10) (cl a b 11) (cl a b 12) (cl a b 13) (cl a b 14) (sl (Cw (.int b) (.int 0) (cl e c 1)) 1)) 1).toInt))+8))-1)) 8)-1))) (
 .row [.int 1,(.int (IntKind.wrap .i64 ((ari .quo .i64 (IntKind.wrap .i64 ((IntKind.wrap .i64 ((IntKind.wrap .i64 ((sl (Cw (.int b) (.int 0) (cl e c 1)) 1).toInt+(sl (CQ d a (.int c) (cl a b 0) (cl a b 1) (cl a b 2) (cl a b 3) (cl a b 4) (cl a b 5) (cl a b 6) (cl a b 7) (cl a b 8) (cl a b 9) (cl a b 10) (cl a b 11) (cl a b 12) (cl a b 13) (cl a b 14) (sl (Cw (.int b) (.int 0) (cl e c 1)) 1)) 1).toInt))+8))-1)) 8)-1)))]) (
 .row [.int 1,(.int 0)])) (
 .row [])) (
 .row [])) (
 cond ((sl (Cw (.int b) (.int 0) (cl e c 1)) 0).toInt=2) (
 cond (b<len a) (
 cond ((sl (CQ d a (.int c) (cl a b 0) (cl a b 1) (cl a b 2) (cl a b 3) (cl a b 4) (cl a b 5) (cl a b 6) (cl a b 7) (cl a b 8) (cl a b 9) (cl a b 10) (cl a b 11) (cl a b 12) (cl a b 13) (cl a b 14) (.int 0)) 0).toInt=1) (
 cond (0<(IntKind.wrap .i64 ((ari .quo .i64 (IntKind.wrap .i64 ((IntKind.wrap .i64 ((IntKind.wrap .i64 (0+(sl (CQ d a (.int c) (cl a b 0) (cl a b 1) (cl a b 2) (cl a b 3) (cl a b 4) (cl a b 5) (cl a b 6) (cl a b 7) (cl a b 8) (cl a b 9) (cl a b 10) (cl a b 11) (cl a b 12) (cl a b 13) (cl a b 14) (.int 0)) 1).toInt))+8))-1)) 8)-1))) (
 .row [.int 1,(.int (IntKind.wrap .i64 ((ari .quo .i64 (IntKind.wrap .i64 ((IntKind.wrap .i64 ((IntKind.wrap .i64 (0+(sl (CQ d a (.int c) (cl a b 0) (cl a b 1) (cl a b 2) (cl a b 3) (cl a b 4) (cl a b 5) (cl a b 6) (cl a b 7) (cl a b 8) (cl a b 9) (cl a b 10) (cl a b 11) (cl a b 12) (cl a b 13) (cl a b 14) (.int 0)) 1).toInt))+8))-1)) 8)-1)))]) (
 .row [.int 1,(.int 0)])) (
 .row [])) (
 .row [])) (
 .row []))) (
 cond (b<len a) (
 cond ((sl (CQ d a (.int c) (cl a b 0) (cl a b 1) (cl a b 2) (cl a b 3) (cl a b 4) (cl a b 5) (cl a b 6) (cl a b 7) (cl a b 8) (cl a b 9) (cl a b 10) (cl a b 11) (cl a b 12) (cl a b 13) (cl a b 14) (.int 0)) 0).toInt=1) (
 cond (0<(IntKind.wrap .i64 ((ari .quo .i64 (IntKind.wrap .i64 ((IntKind.wrap .i64 ((IntKind.wrap .i64 (0+(sl (CQ d a (.int c) (cl a b 0) (cl a b 1) (cl a b 2) (cl a b 3) (cl a b 4) (cl a b 5) (cl a b 6) (cl a b 7) (cl a b 8) (cl a b 9) (cl a b 10) (cl a b 11) (cl a b 12) (cl a b 13) (cl a b 14) (.int 0)) 1).toInt))+8))-1)) 8)-1))) (
 .row [.int 1,(.int (IntKind.wrap .i64 ((ari .quo .i64 (IntKind.wrap .i64 ((IntKind.wrap .i64 ((IntKind.wrap .i64 (0+(sl (CQ d a (.int c) (cl a b 0) (cl a b 1) (cl a b 2) (cl a b 3) (cl a b 4) (cl a b 5) (cl a b 6) (cl a b 7) (cl a b 8) (cl a b 9) (cl a b 10) (cl a b 11) (cl a b 12) (cl a b 13) (cl a b 14) (.int 0)) 1).toInt))+8))-1)) 8)-1)))]) (
 .row [.int 1,(.int 0)])) (
 .row [])) (
 .row [])))) (
 cond (b<0) (
 .row []) (
 cond (b<len a) (
 cond ((sl (CQ d a (.int c) (cl a b 0) (cl a b 1) (cl a b 2) (cl a b 3) (cl a b 4) (cl a b 5) (cl a b 6) (cl a b 7) (cl a b 8) (cl a b 9) (cl a b 10) (cl a b 11) (cl a b 12) (cl a b 13) (cl a b 14) (.int 0)) 0).toInt=1) (
 cond (0<(IntKind.wrap .i64 ((ari .quo .i64 (IntKind.wrap .i64 ((IntKind.wrap .i64 ((IntKind.wrap .i64 (0+(sl (CQ d a (.int c) (cl a b 0) (cl a b 1) (cl a b 2) (cl a b 3) (cl a b 4) (cl a b 5) (cl a b 6) (cl a b 7) (cl a b 8) (cl a b 9) (cl a b 10) (cl a b 11) (cl a b 12) (cl a b 13) (cl a b 14) (.int 0)) 1).toInt))+8))-1)) 8)-1))) (
 .row [.int 1,(.int (IntKind.wrap .i64 ((ari .quo .i64 (IntKind.wrap .i64 ((IntKind.wrap .i64 ((IntKind.wrap .i64 (0+(sl (CQ d a (.int c) (cl a b 0) (cl a b 1) (cl a b 2) (cl a b 3) (cl a b 4) (cl a b 5) (cl a b 6) (cl a b 7) (cl a b 8) (cl a b 9) (cl a b 10) (cl a b 11) (cl a b 12) (cl a b 13) (cl a b 14) (.int 0)) 1).toInt))+8))-1)) 8)-1)))]) (
 .row [.int 1,(.int 0)])) (
 .row [])) (
 .row [])))))) (
 .row []):=gw rfl rfl (cQ (cg rfl (cL rfl (cL (cQ rfl rfl) rfl)) (cL (cL rfl (cL (cQ rfl rfl) rfl)) (cL (cL rfl (cL (cQ (cL (cQ rfl rfl) rfl) (cQ (cL (cQ rfl rfl) rfl) rfl)) (cL (cQ rfl rfl) rfl))) (cL rfl (cL (cQ rfl rfl) rfl))))) rfl)
theorem TJ (v0 v1 v2 a b:D):EG v0 v1 v2 a b =
  cond ((sl (Mo v0 v1 v2) 0).toInt=1) (
 cond ((sl (Mo v0 v1 v2) 1).toBool) (
 cond ((sl (BQ v1 a) 0).toInt=1) (
 cond ((sl (BQ v1 a) 1).toInt<0) (
 .row [.int 1,(.int 0),(.int 9)]) (
 cond ((sl (BQ v1 a) 1).toInt<len v1) (
 cond ((sl (B5 (cl v1 (sl (BQ v1 a) 1).toInt 1) b) 0).toInt=1) (
 cond ((sl (B5 (cl v1 (sl (BQ v1 a) 1).toInt 1) b) 1).toInt<0) (
 .row [.int 1,(.int 0),(.int 9)]) (
 cond ((sl (Nk (cl v1 (sl (BQ v1 a) 1).toInt 0) (cl v1 (sl (BQ v1 a) 1).toInt 1) (sl (BQ v1 a) 1) v0 v1 v2 (sl (B5 (cl v1 (sl (BQ v1 a) 1).toInt 1) b) 1)) 0).toInt=1) (
 .row [.int 1,(sl (Nk (cl v1 (sl (BQ v1 a) 1).toInt 0) (cl v1 (sl (BQ v1 a) 1).toInt 1) (sl (BQ v1 a) 1) v0 v1 v2 (sl (B5 (cl v1 (sl (BQ v1 a) 1).toInt 1) b) 1)) 1),(.int 0)]) (
 .row []))) (
 .row [])) (
 .row []))) (
 .row [])) (
 .row [.int 1,(.int 0),(.int 2)])) (
 .row []):=gw rfl rfl (cQ (cg rfl (cQ (cL rfl (cL (cQ (cL rfl (cQ rfl rfl)) rfl) rfl)) rfl) rfl) rfl)
theorem iH (i:D) (h b:Int) (j k:Bool) (l m n:Int) (o p c d e:D) (f g a:Int):SU i (.int h) (.int b) (.bool j) (.bool k) (.int l) (.int m) (.int n) o p c d e (.int f) (.int g) (.int a) =
  cond (h=1) (
 .row [.int 1,(.int (ari .rem .i64 (IntKind.wrap .i64 (a+b)) 8))]) (
 cond (h=2) (
 .row [.int 1,(.int (ari .rem .i64 (IntKind.wrap .i64 (a+b)) 8))]) (
 cond (h=10) (
 cond (b=2) (
 PI (.int a) i (.int h) (.int b) (.bool j) (.bool k) (.int l) (.int m) (.int n) o p c d e (.int f) (.int g)) (
 cond (b=4) (
 PI (.int a) i (.int h) (.int b) (.bool j) (.bool k) (.int l) (.int m) (.int n) o p c d e (.int f) (.int g)) (
 .row [.int 1,(.int 0)]))) (
 .row [.int 1,(.int 0)]))):=gw rfl rfl (cQ rfl (cQ rfl (cQ (cQ rfl (cQ rfl rfl)) rfl)))
theorem gr (g:Int) (i:D) (j h:Int) (k l:Bool) (m n o:Int) (p a b c d:D) (e f:Int):PI (.int g) i (.int j) (.int h) (.bool k) (.bool l) (.int m) (.int n) (.int o) p a b c d (.int e) (.int f) =
  cond (h=0) (
 .row []) (
 cond ((ari .rem .i64 g h)=0) (
 .row [.int 1,(.int (ari .rem .i64 g 8))]) (
 PI (.int (IntKind.wrap .i64 (g+1))) i (.int j) (.int h) (.bool k) (.bool l) (.int m) (.int n) (.int o) p a b c d (.int e) (.int f))):=gw rfl rfl (cQ rfl (cQ rfl rfl))
theorem eZ (a b:D):Ia a b =
 TI Cv (.bool true) (.int 0) (.int 0) a b:=gw rfl rfl rfl
theorem Zo (d:D) (e:Bool) (c a:Int) (f b:D):TI d (.bool e) (.int c) (.int a) f b =
  cond (a<len b) (
 cond ((len d:Int)<1073741824) (
 cond (a<0) (
 .row []) (
 cond ((sl (SU (cl b a 0) (cl b a 1) (cl b a 2) (cl b a 3) (cl b a 4) (cl b a 5) (cl b a 6) (cl b a 7) (cl b a 8) (cl b a 9) (cl b a 10) (cl b a 11) (cl b a 12) (cl b a 13) (cl b a 14) (.int c)) 0).toInt=1) (
 TI (ad d (.row [(.int c)])) (.bool false) (sl (SU (cl b a 0) (cl b a 1) (cl b a 2) (cl b a 3) (cl b a 4) (cl b a 5) (cl b a 6) (cl b a 7) (cl b a 8) (cl b a 9) (cl b a 10) (cl b a 11) (cl b a 12) (cl b a 13) (cl b a 14) (.int c)) 1) (.int (IntKind.wrap .i64 (a+1))) f b) (
 .row []))) (
 .row [])) (
 .row [.int 1,d,(.bool e),(.int c)]):=gw rfl rfl (cL (cL (cL rfl (cQ rfl rfl)) rfl) rfl)
theorem dr (a b:Int):NP (.int a) (.int b) =
 PZ (.int a) (.int b) Cv (.bool true) (.int 0):=gw rfl rfl rfl
theorem ZS (a c:Int) (b:D) (e:Bool) (d:Int):PZ (.int a) (.int c) b (.bool e) (.int d) =
  cond (d<c) (
 cond (d<(IntKind.wrap .i64 (c-1))) (
 cond ((len b:Int)<1073741824) (
 PZ (.int (ari .quo .i64 a 128)) (.int c) (ad b (.row [(.int (IntKind.wrap .u8 (IntKind.wrap .i64 ((ari .rem .i64 a 128)+128))))])) (.bool false) (.int (IntKind.wrap .i64 (d+1)))) (
 .row [])) (
 cond ((len b:Int)<1073741824) (
 PZ (.int (ari .quo .i64 a 128)) (.int c) (ad b (.row [(.int (IntKind.wrap .u8 (ari .rem .i64 a 128)))])) (.bool false) (.int (IntKind.wrap .i64 (d+1)))) (
 .row []))) (
 .row [.int 1,b,(.bool e),(.bool (decide (a=0)))]):=gw rfl rfl (cL (cL (cL rfl rfl) (cL rfl rfl)) rfl)
theorem dG (a:Int):QJ (.int a) =
 IZ (.int a) Cv (.bool true) (.int 1):=gw rfl rfl rfl
theorem TT (a:Int) (c:D) (d:Bool) (b:Int):IZ (.int a) c (.bool d) (.int b) =
  cond (5<b) (
 .row [.int 1,c,(.bool d)]) (
 cond (a<0) (
 .row [.int 1,c,(.bool d)]) (
 cond (a<34359738368) (
 cond ((sl (NP (.int a) (.int b)) 0).toInt=1) (
 cond ((sl (NP (.int a) (.int b)) 3).toBool) (
 cond ((len c:Int)<1073741824) (
 IZ (.int a) (ad c (.row [(ni (sl (NP (.int a) (.int b)) 1) ((sl (NP (.int a) (.int b)) 2).toBool))])) (.bool false) (.int (IntKind.wrap .i64 (b+1)))) (
 .row [])) (
 IZ (.int a) c (.bool d) (.int (IntKind.wrap .i64 (b+1))))) (
 .row [])) (
 .row [.int 1,c,(.bool d)]))):=gw rfl rfl (cL rfl (cL rfl (cL (cQ (cg rfl (cL rfl rfl) rfl) rfl) rfl)))
theorem jr (a b c:D) (d:Int):EI a b c (.int d) =
 MW c (.int d) (.int 0) a b:=gw rfl rfl rfl
theorem Zn (c:D) (d a:Int) (e b:D):MW c (.int d) (.int a) e b =
  cond (a<d) (
 cond (a<0) (
 .row []) (
 cond (a<len b) (
 cond (D.strEq (cl b a 0) c) (
 .row [.int 1,(.int a)]) (
 MW c (.int d) (.int (IntKind.wrap .i64 (a+1))) e b)) (
 .row []))) (
 .row [.int 1,(.int (-1))]):=gw rfl rfl rfl
theorem gC (b c:D) (a:Int) (d:D):Ug b c (.int a) d =
 IC (.int a) (.int 0) b c (.int a) d:=gw rfl rfl rfl
theorem Zx (e b:Int) (d a:D) (f:Int) (c:D):IC (.int e) (.int b) d a (.int f) c =
  cond (b<len c) (
 cond (b<0) (
 .row []) (
 cond ((sl (EI d a (cl c b 0) (.int (len a:Int))) 0).toInt=1) (
 cond ((sl (EI d a (cl c b 0) (.int (len a:Int))) 1).toInt<0) (
 .row []) (
 cond ((sl (EI d a (cl c b 0) (.int (len a:Int))) 1).toInt<len a) (
 cond ((cl a (sl (EI d a (cl c b 0) (.int (len a:Int))) 1).toInt 1).toInt=2) (
 cond ((IntKind.wrap .i64 ((cl c b 1).toInt*(cl a (sl (EI d a (cl c b 0) (.int (len a:Int))) 1).toInt 5).toInt))<(IntKind.wrap .i64 ((cl c b 1).toInt*(cl a (sl (EI d a (cl c b 0) (.int (len a:Int))) 1).toInt 5).toInt))) (
 IC (.int (IntKind.wrap .i64 (e+(IntKind.wrap .i64 ((cl c b 1).toInt*(cl a (sl (EI d a (cl c b 0) (.int (len a:Int))) 1).toInt 5).toInt))))) (.int (IntKind.wrap .i64 (b+1))) d a (.int f) c) (
 IC (.int (IntKind.wrap .i64 (e+(IntKind.wrap .i64 ((cl c b 1).toInt*(cl a (sl (EI d a (cl c b 0) (.int (len a:Int))) 1).toInt 5).toInt))))) (.int (IntKind.wrap .i64 (b+1))) d a (.int f) c)) (
 cond ((IntKind.wrap .i64 ((cl c b 1).toInt*(cl a (sl (EI d a (cl c b 0) (.int (len a:Int))) 1).toInt 5).toInt))<(IntKind.wrap .i64 ((cl c b 1).toInt*(cl a (sl (EI d a (cl c b 0) (.int (len a:Int))) 1).toInt 6).toInt))) (
 IC (.int (IntKind.wrap .i64 (e+(IntKind.wrap .i64 ((cl c b 1).toInt*(cl a (sl (EI d a (cl c b 0) (.int (len a:Int))) 1).toInt 6).toInt))))) (.int (IntKind.wrap .i64 (b+1))) d a (.int f) c) (
 IC (.int (IntKind.wrap .i64 (e+(IntKind.wrap .i64 ((cl c b 1).toInt*(cl a (sl (EI d a (cl c b 0) (.int (len a:Int))) 1).toInt 5).toInt))))) (.int (IntKind.wrap .i64 (b+1))) d a (.int f) c))) (
 .row []))) (
 .row []))) (
 .row [.int 1,(.int e)]):=gw rfl rfl (cL (cL rfl (cQ (cL rfl (cL (cQ rfl rfl) rfl)) rfl)) rfl)
theorem Gb (m n p:D) (a k:Int) (q o:Bool) (r b l:Int) (c e f g h:D) (d i j:Int):Qs m n p (.int a) (.int k) (.bool q) (.bool o) (.int r) (.int b) (.int l) c e f g h (.int d) (.int i) (.int j) =
  cond (a=1) (
 .row [.int 1,(.int k)]) (
 cond (a=2) (
 .row [.int 1,(.int k)]) (
 cond (a=3) (
 cond (o) (
 .row [.int 1,(.int 40)]) (
 cond (b<0) (
 .row [.int 1,(.int 0)]) (
 cond (b<34359738368) (
 cond ((sl (QJ (.int b)) 0).toInt=1) (
 cond (0<(len (sl (QJ (.int b)) 1):Int)) (
 .row [.int 1,(.int (IntKind.wrap .i64 (8*(len (cl (sl (QJ (.int b)) 1) 0 0):Int))))]) (
 .row [])) (
 .row [])) (
 .row [.int 1,(.int 0)])))) (
 cond (a=4) (
 cond ((sl (Ug m n (.int l) c) 0).toInt=1) (
 .row [.int 1,(.int (IntKind.wrap .i64 (8*(sl (Ug m n (.int l) c) 1).toInt)))]) (
 .row [])) (
 cond (a=5) (
 .row [.int 1,(.int (IntKind.wrap .i64 ((IntKind.wrap .i64 (8*b))+8)))]) (
 cond (a=6) (
 .row [.int 1,(.int (IntKind.wrap .i64 (8*b)))]) (
 cond (a=10) (
 NX (.int j) (.int 0) p (.int a) (.int k) (.bool q) (.bool o) (.int r) (.int b) (.int l) c e f g h (.int d) (.int i)) (
 cond (a=11) (
 cond (d=3) (
 .row [.int 1,(.int 32)]) (
 .row [.int 1,(.int 16)])) (
 .row [.int 1,(.int 0)])))))))):=gw rfl rfl (cQ rfl (cQ rfl (cQ (cg rfl rfl (cL rfl (cL (cQ rfl rfl) rfl))) (cQ (cQ rfl rfl) (cQ rfl (cQ rfl (cQ rfl (cQ (cQ rfl rfl) rfl))))))))
theorem ZO (j b:Int) (k:D) (l a:Int) (m n:Bool) (o p q:Int) (c d e f g:D) (h i:Int):NX (.int j) (.int b) k (.int l) (.int a) (.bool m) (.bool n) (.int o) (.int p) (.int q) c d e f g (.int h) (.int i) =
  cond (a<8) (
 cond (a=0) (
 .row []) (
 cond ((ari .rem .i64 (IntKind.wrap .i64 (j+b)) a)=0) (
 cond (0<(IntKind.wrap .i64 (a-8))) (
 .row [.int 1,(.int (IntKind.wrap .i64 (b+(IntKind.wrap .i64 (a-8)))))]) (
 .row [.int 1,(.int (IntKind.wrap .i64 (b+0)))])) (
 NX (.int j) (.int (IntKind.wrap .i64 (b+1))) k (.int l) (.int a) (.bool m) (.bool n) (.int o) (.int p) (.int q) c d e f g (.int h) (.int i)))) (
 cond ((ari .rem .i64 (IntKind.wrap .i64 (j+b)) 8)=0) (
 cond (0<(IntKind.wrap .i64 (a-8))) (
 .row [.int 1,(.int (IntKind.wrap .i64 (b+(IntKind.wrap .i64 (a-8)))))]) (
 .row [.int 1,(.int (IntKind.wrap .i64 (b+0)))])) (
 NX (.int j) (.int (IntKind.wrap .i64 (b+1))) k (.int l) (.int a) (.bool m) (.bool n) (.int o) (.int p) (.int q) c d e f g (.int h) (.int i))):=gw rfl rfl (cL (cQ rfl (cQ rfl rfl)) (cQ rfl rfl))
theorem eQ (c a:D) (b:Int):NV c a (.int b) =
  cond ((sl (Ia c a) 0).toInt=1) (
 cond (b<0) (
 .row []) (
 cond (b<len (sl (Ia c a) 1)) (
 cond (b<len a) (
 cond ((sl (Qs c a (cl a b 0) (cl a b 1) (cl a b 2) (cl a b 3) (cl a b 4) (cl a b 5) (cl a b 6) (cl a b 7) (cl a b 8) (cl a b 9) (cl a b 10) (cl a b 11) (cl a b 12) (cl a b 13) (cl a b 14) (cl (sl (Ia c a) 1) b 0)) 0).toInt=1) (
 cond (0<(IntKind.wrap .i64 ((ari .quo .i64 (IntKind.wrap .i64 ((IntKind.wrap .i64 ((cl (sl (Ia c a) 1) b 0).toInt+(sl (Qs c a (cl a b 0) (cl a b 1) (cl a b 2) (cl a b 3) (cl a b 4) (cl a b 5) (cl a b 6) (cl a b 7) (cl a b 8) (cl a b 9) (cl a b 10) (cl a b 11) (cl a b 12) (cl a b 13) (cl a b 14) (cl (sl (Ia c a) 1) b 0)) 1).toInt))+7)) 8)-1))) (
 .row [.int 1,(.int (IntKind.wrap .i64 ((ari .quo .i64 (IntKind.wrap .i64 ((IntKind.wrap .i64 ((cl (sl (Ia c a) 1) b 0).toInt+(sl (Qs c a (cl a b 0) (cl a b 1) (cl a b 2) (cl a b 3) (cl a b 4) (cl a b 5) (cl a b 6) (cl a b 7) (cl a b 8) (cl a b 9) (cl a b 10) (cl a b 11) (cl a b 12) (cl a b 13) (cl a b 14) (cl (sl (Ia c a) 1) b 0)) 1).toInt))+7)) 8)-1)))]) (
 .row [.int 1,(.int 0)])) (
 .row [])) (
 .row [])) (
 .row []))) (
 .row []):=gw rfl rfl (cQ (cL rfl (cL (cL (cQ rfl rfl) rfl) rfl)) rfl)
theorem gA (v0 v1 v2 a b:D):ZJ v0 v1 v2 a b =
  cond ((sl (Xq v0 v1 v2) 0).toInt=1) (
 cond ((sl (Xq v0 v1 v2) 1).toBool) (
 cond (100<(C0 a:Int)) (
 .row [.int 1,(.bool true)]) (
 cond (100<(C0 b:Int)) (
 .row [.int 1,(.bool true)]) (
 cond ((sl (EG v0 v1 v2 a b) 0).toInt=1) (
 cond ((sl (Mo v0 v1 v2) 0).toInt=1) (
 cond ((sl (Mo v0 v1 v2) 1).toBool) (
 cond ((sl (BQ v1 a) 0).toInt=1) (
 cond ((sl (BQ v1 a) 1).toInt<0) (
 cond ((sl (EG v0 v1 v2 a b) 1).toInt=0) (
 cond ((sl (EG v0 v1 v2 a b) 2).toInt=9) (
 .row [.int 1,(.bool true)]) (
 .row [.int 1,(.bool false)])) (
 .row [.int 1,(.bool false)])) (
 cond ((sl (BQ v1 a) 1).toInt<len v1) (
 cond ((sl (B5 (cl v1 (sl (BQ v1 a) 1).toInt 1) b) 0).toInt=1) (
 cond ((sl (B5 (cl v1 (sl (BQ v1 a) 1).toInt 1) b) 1).toInt<0) (
 cond ((sl (EG v0 v1 v2 a b) 1).toInt=0) (
 cond ((sl (EG v0 v1 v2 a b) 2).toInt=9) (
 .row [.int 1,(.bool true)]) (
 .row [.int 1,(.bool false)])) (
 .row [.int 1,(.bool false)])) (
 cond ((sl (NV (cl v1 (sl (BQ v1 a) 1).toInt 0) (cl v1 (sl (BQ v1 a) 1).toInt 1) (sl (B5 (cl v1 (sl (BQ v1 a) 1).toInt 1) b) 1)) 0).toInt=1) (
 cond ((sl (EG v0 v1 v2 a b) 1).toInt=(sl (NV (cl v1 (sl (BQ v1 a) 1).toInt 0) (cl v1 (sl (BQ v1 a) 1).toInt 1) (sl (B5 (cl v1 (sl (BQ v1 a) 1).toInt 1) b) 1)) 1).toInt) (
 cond ((sl (EG v0 v1 v2 a b) 2).toInt=0) (
 .row [.int 1,(.bool true)]) (
 .row [.int 1,(.bool false)])) (
 .row [.int 1,(.bool false)])) (
 .row []))) (
 .row [])) (
 .row []))) (
 .row [])) (
 cond ((sl (EG v0 v1 v2 a b) 1).toInt=0) (
 cond ((sl (EG v0 v1 v2 a b) 2).toInt=2) (
 .row [.int 1,(.bool true)]) (
 .row [.int 1,(.bool false)])) (
 .row [.int 1,(.bool false)]))) (
 .row [])) (
 .row [])))) (
 .row [.int 1,(.bool true)])) (
 .row []):=gw rfl rfl (cQ (cg rfl (cL rfl (cL rfl (cQ (cQ (cg rfl (cQ (cL (cQ (cQ rfl rfl) rfl) (cL (cQ (cL (cQ (cQ rfl rfl) rfl) (cQ (cQ (cQ rfl rfl) rfl) rfl)) rfl) rfl)) rfl) (cQ (cQ rfl rfl) rfl)) rfl) rfl))) rfl) rfl)
end
end Mm
namespace Mm
open Go Go.AE
section
variable [Ax]
theorem tot {F:Nat→D} {Q:D→Prop} {n:Nat} (a:Q (F n)) (b:∀j,j<n→Q (F (j+1))→Q (F j)):∀k i,i+k=n→Q (F i)
 |0,i,h=>by
  have:i=n:=h;rw [this];exact a
 |k+1,i,h=>b i (by omega) (tot a b k (i+1) (by omega))
theorem qc {Q:D→Prop} {c:Bool} {a b:D} (d:Q a) (e:Q b):Q (cond c a b):=by
 cases c
 ·exact e
 ·exact d
theorem qT {Q:D→Prop} {p:Prop} [Decidable p] {a b:D} (h:p) (c:Q a):Q (cond (decide p) a b):=by rw [ifT h];exact c
theorem qF {Q:D→Prop} {p:Prop} [Decidable p] {a b:D} (h:¬p) (c:Q b):Q (cond (decide p) a b):=by rw [ifF h];exact c
def IsB (d:D):Prop:=∃b,d=.row [.int 1,.bool b]
def IsI (d:D):Prop:=∃k,d=.row [.int 1,.int k]
def l2 (a b:Bool):D:=ad (ad Ap (.row [(.bool a)])) (.row [(.bool b)])
def l3 (a b c:Bool):D:=ad (ad (ad Ap (.row [(.bool a)])) (.row [(.bool b)])) (.row [(.bool c)])
theorem ZH {i:Int} (h:0≤i) (h':i<4611686018427387904):IntKind.wrap .i64 (i+1)=i+1:=Am (by omega) (by omega)
theorem Ja {v:D} {i:Int} {m:Nat} (a:len v=m) (h0:0≤i) (h:i<m) (h':i<4611686018427387904):Ra v (.bool false) (.bool false) (.int i)=cond ((cl v i 0).toBool) (Ra v (.bool false) (.bool false) (.int (i+1))) (.row [.int 1,(.int i)]):=by
 rw [fW,ifT (by omega),ifF (by omega),ZH h0 h'];rfl
theorem XM {v:D} {i:Int} {m:Nat} (a:len v=m) (h:¬i<m):Ra v (.bool false) (.bool false) (.int i)=.row [.int 1,(.int (-1))]:=by
 rw [fW,ifF (by omega)]
theorem Vg (a b:Bool):Bv (l2 a b) (.bool false) (.bool false)=.row [.int 1,.int (cond a (cond b (-1) 1) 0)]:=by
 rw [ge,Ja (m:=2) rfl (by decide) (by decide) (by decide)]
 cases a
 ·rfl
 ·refine (Ja (m:=2) rfl (by decide) (by decide) (by decide)).trans ?_
  cases b
  ·rfl
  ·exact XM (m:=2) rfl (by decide)
theorem Yr (a b c:Bool):Bv (l3 a b c) (.bool false) (.bool false)=.row [.int 1,.int (cond a (cond b (cond c (-1) 2) 1) 0)]:=by
 rw [ge,Ja (m:=3) rfl (by decide) (by decide) (by decide)]
 cases a
 ·rfl
 ·refine (Ja (m:=3) rfl (by decide) (by decide) (by decide)).trans ?_
  cases b
  ·rfl
  ·refine (Ja (m:=3) rfl (by decide) (by decide) (by decide)).trans ?_
   cases c
   ·rfl
   ·exact XM (m:=3) rfl (by decide)
theorem eh {v:D} (h:len v≤1000000):IsI (Uj v (.bool false)):=by
 rw [lh];refine tot (F:=fun j=>Ou v (.bool false) (.int (j:Nat))) (Q:=IsI) (n:=len v) ?_ ?_ (len v) 0 (by omega)
 ·refine (?_:IsI (Ou v (.bool false) (.int ((len v:Nat):Int))));rw [jz,ifF (by omega)]
  exact ⟨_,rfl⟩
 ·intro j a ih;refine (?_:IsI (Ou v (.bool false) (.int ((j:Nat):Int))));rw [jz,ifT (by omega),ifF (by omega),Bm (by omega)]
  repeat' apply qc
  all_goals first|exact ih|exact ⟨_,rfl⟩
theorem VW {v:D}:len (Rj v)=C0 v:=by simp [len,Rj,C0,D.rows]
theorem gi (v:D):IsB (Ey v):=by
 rw [cU];refine (?_:IsB (cond (decide ((sl (Bv (l2 _ _) (.bool false) (.bool false)) 0).toInt=1)) (cond (decide ((sl (Bv (l2 _ _) (.bool false) (.bool false)) 1).toInt<0)) _ _) _));rw [Vg];refine qT rfl ?_;by_cases a:(C0 v:Int)<1
 ·refine qF (p:=_) ?_ ⟨_,rfl⟩;rw [decide_eq_true a];show ¬(0:Int)<0
  decide
 ·by_cases b:32<(C0 v:Int)
  ·refine qF (p:=_) ?_ ⟨_,rfl⟩;rw [decide_eq_false a,decide_eq_true b]
   decide
  ·obtain ⟨k,c⟩:=eh (v:=Rj v) (by rw [VW];omega)
   rw [c];refine qT (p:=_) ?_ (qT (by omega) ?_)
   ·rw [decide_eq_false a,decide_eq_false b]
    decide
   repeat' first|exact ⟨_,rfl⟩ | (refine qT rfl ?_)|apply qc
def C9 (v:D):Bool:=(sl (Ey v) 1).toBool
theorem Ud (v:D):Ey v=.row [.int 1,.bool (C9 v)]:=by
 obtain ⟨b,h⟩:=gi v;unfold C9;rw [h];rfl
def fld (v nm:D):Int:=fdG (fun i=>D.strEq (cl v i 0) nm) (len v) 0
theorem S3 {v nm:D} (h:len v≤1000000):B5 v nm=.row [.int 1,.int (fld v nm)]:=by
 rw [lz];refine find (F:=fun j=>UY v (.int (j:Nat)) nm) (bad:=fun i=>D.strEq (cl v i 0) nm) (n:=len v) ?_ ?_
 ·intro j a;refine (?_:UY v (.int ((j:Nat):Int)) nm=_);rw [jc,ifT (by omega),ifF (by omega),Bm (by omega)]
 ·refine (?_:UY v (.int ((len v:Nat):Int)) nm=_);rw [jc,ifF (by omega)]
theorem ag {v nm:D} (h:len v≤1000000):BQ v nm=.row [.int 1,.int (fld v nm)]:=by
 rw [gu];refine find (F:=fun j=>ND v (.int (j:Nat)) nm) (bad:=fun i=>D.strEq (cl v i 0) nm) (n:=len v) ?_ ?_
 ·intro j a;refine (?_:ND v (.int ((j:Nat):Int)) nm=_);rw [ZD,ifT (by omega),ifF (by omega),Bm (by omega)]
 ·refine (?_:ND v (.int ((len v:Nat):Int)) nm=_);rw [ZD,ifF (by omega)]
theorem aW (v:D):ah v Cv (.bool true)=.row [.int 1,.bool (decide (len v=0))]:=by
 rw [kC];by_cases h:len v=0
 ·rw [ifT (by rw [h];rfl),kQ,ifF (by omega),decide_eq_true h]
 ·rw [ifF (by rw [show len Cv=0 from rfl];omega),decide_eq_false h]
theorem ax (v:D):bF v Cv (.bool true)=.row [.int 1,.bool (decide (len v=0))]:=by
 rw [kN];by_cases h:len v=0
 ·rw [ifT (by rw [h];rfl),kR,ifF (by omega),decide_eq_true h]
 ·rw [ifF (by rw [show len Cv=0 from rfl];omega),decide_eq_false h]
section
variable {v0 v1 v2 v3 v4 v7 v8:D} {v5 v6 lo hi:Int}
def m1 (n:Int):D:=ad Ap (.row [(.int n)])
def m2 (n m:Int):D:=ad (ad Ap (.row [(.int n)])) (.row [(.int m)])
theorem N3 {v:D} {i n:Int} {m:Nat} (b:len v=m) (h0:0≤i) (h:i<m) (h':i<4611686018427387904) (a:cl v i 0=.int n):WH (.int lo) (.int hi) v (.bool false) (.int i) v0 v1 v2 (.int v5) (.int v6) v7 v8 v3 v4 =
  cond (decide (n<lo)) (.row [.int 1,(.int v5),(.int v6)]) (cond (decide (hi<n)) (.row [.int 1,(.int v5),(.int v6)]) (WH (.int n) (.int hi) v (.bool false) (.int (i+1)) v0 v1 v2 (.int v5) (.int v6) v7 v8 v3 v4)):=by
 rw [bo,ifT (by omega),ifF (by omega),ZH h0 h',a];rfl
theorem aD {n:Int}:EY v0 v1 v2 v3 v4 (.int v5) (.int v6) v7 v8 (.int lo) (.int hi) (m1 n) (.bool false)=cond (decide (lo≤n∧n≤hi)) (.row [.int 2]) (.row [.int 1,(.int v5),(.int v6)]):=by
 rw [iw,N3 (n:=n) (m:=1) rfl (by decide) (by decide) (by decide) rfl]
 by_cases a:n<lo
 ·rw [ifT a,ifF (by omega)]
 ·rw [ifF a];by_cases b:hi<n
  ·rw [ifT b,ifF (by omega)]
  ·rw [ifF b,ifT (by omega),bo,ifF (by rw [show len (m1 n)=1 from rfl];decide)]
theorem aA {n m:Int}:EY v0 v1 v2 v3 v4 (.int v5) (.int v6) v7 v8 (.int lo) (.int hi) (m2 n m) (.bool false)=cond (decide (lo≤n∧n≤m∧n≤hi∧m≤hi)) (.row [.int 2]) (.row [.int 1,(.int v5),(.int v6)]):=by
 rw [iw,N3 (n:=n) (m:=2) rfl (by decide) (by decide) (by decide) rfl]
 by_cases a:n<lo
 ·rw [ifT a,ifF (by omega)]
 ·rw [ifF a];by_cases b:hi<n
  ·rw [ifT b,ifF (by omega)]
  ·rw [ifF b];refine (N3 (n:=m) (m:=2) rfl (by decide) (by decide) (by decide) rfl).trans ?_
   by_cases c:m<n
   ·rw [ifT c,ifF (by omega)]
   ·rw [ifF c];by_cases d:hi<m
    ·rw [ifT d,ifF (by omega)]
    ·rw [ifF d,ifT (by omega),bo,ifF (by rw [show len (m2 n m)=2 from rfl];decide)]
end
end
end Mm
namespace Mm
open Go Go.AE
section
variable [Ax]
theorem OJ {M k x:D} {l:List D} (w:∀r∈M.rows,∃x l,r=.row (x::l)):mIx [.str] (ad M (.row (x::l))) (.row [k])=if 0≤mIx [.str] M (.row [k]) then mIx [.str] M (.row [k]) else if D.strEq x k=true then (len M:Int) else -1:=by
 have q:∀r∈(ad M (.row (x::l))).rows,∃x l,r=.row (x::l):=by
  intro r hr;rcases List.mem_append.1 hr with h|h
  ·exact w r h
  ·exact ⟨x,l,List.mem_singleton.1 h⟩
 rw [IF w,IF q,Dl]
 have g:∀j:Nat,j<len M→D.strEq (cl (ad M (.row (x::l))) j 0) k=D.strEq (cl M j 0) k:=by
  intro j y;rw [If (by omega),if_neg (by omega)]
 have z:D.strEq (cl (ad M (.row (x::l))) (len M:Nat) 0) k=D.strEq x k:=by
  rw [If (by omega),if_pos rfl];rfl
 by_cases h:0≤fdG (fun i=>D.strEq (cl M i 0) k) (len M) 0
 ·rw [if_pos h];have s:=Fs (p:=fun i=>D.strEq (cl M i 0) k) (k:=len M) (i:=0)
  have c:=JP h;obtain ⟨n,A⟩:=Int.eq_ofNat_of_zero_le h;rw [A] at c s ⊢;have t:n<len M:=by omega
  have a:=LB (p:=fun i=>D.strEq (cl (ad M (.row (x::l))) i 0) k) (k:=len M+1) (i:=0) (j:=n) (by omega) (by omega) (by show D.strEq _ k=true;rw [g n t];exact c)
  obtain ⟨m,u⟩:=Int.eq_ofNat_of_zero_le a.1;have d:=JP a.1;rw [u] at a d ⊢;have C:m≤n:=by omega
  rcases Nat.lt_or_ge m n with b|v
  ·have B:=Pc (p:=fun i=>D.strEq (cl M i 0) k) (k:=len M) (i:=0) (j:=m) (by omega) (.inl (by rw [A];omega))
   have e:D.strEq (cl (ad M (.row (x::l))) m 0) k=true:=d;rw [g m (by omega)] at e
   rw [e] at B;cases B
  ·congr 1;omega
 ·rw [if_neg h];have f:∀j:Nat,j<len M→D.strEq (cl M j 0) k=false:=fun j y=>Pc (p:=fun i=>D.strEq (cl M i 0) k) (k:=len M) (i:=0) (by omega) (.inr ⟨by omega,by omega⟩)
  by_cases o:D.strEq x k=true
  ·rw [if_pos o];have a:=LB (p:=fun i=>D.strEq (cl (ad M (.row (x::l))) i 0) k) (k:=len M+1) (i:=0) (j:=len M) (by omega) (by omega) (by show D.strEq _ k=true;rw [z];exact o)
   obtain ⟨m,u⟩:=Int.eq_ofNat_of_zero_le a.1;have d:=JP a.1;rw [u] at a d ⊢;rcases Nat.lt_or_ge m (len M) with b|v
   ·have e:D.strEq (cl (ad M (.row (x::l))) m 0) k=true:=d;rw [g m b,f m b] at e;cases e
   ·congr 1;omega
  ·rw [if_neg o];refine YV fun j _ y=>?_
   rcases Nat.lt_or_ge j (len M) with a|a
   ·show D.strEq _ k=false;rw [g j a];exact f j a
   ·have:j=len M:=by omega
    subst this;show D.strEq _ k=false;rw [z];cases h:D.strEq x k
    ·rfl
    ·exact absurd h o
def kd (v:D) (i:Int):Int:=(cl v i 1).toInt
def Mn (k:Int):Bool:=decide (k=1)||(decide (k=2)||decide (k=3))
def hiC (v:D) (i:Nat):D:=cond (decide (kd v i=2)) (cl v i 5) (cl v i 6)
def AK (v:D):Nat→D
 |0=>Ap
 |i+1=>cond (Mn (kd v i)) (ad (AK v i) (.row [cl v i 0,cl v i 5,hiC v i])) (AK v i)
def DN (v:D) (n:Nat):Prop:=∀j k:Nat,j<k→k<n→D.strEq (cl v j 0) (cl v k 0)=false
theorem DN.mono {v:D} {n m:Nat} (h:DN v n) (r:m≤n):DN v m:=fun j k l t=>h j k l (by omega)
theorem FJ {v:D}:∀i:Nat,∀r∈(AK v i).rows,∃x l,r=.row (x::l)
 |0,r,hr=>by cases hr
 |i+1,r,hr=>by
  rw [AK] at hr;cases h:Mn (kd v i) with
  |false=>rw [h] at hr;exact FJ i r hr
  |true=>
   rw [h] at hr;rcases List.mem_append.1 hr with a|a
   ·exact FJ i r a
   ·exact ⟨_,_,List.mem_singleton.1 a⟩
theorem D7 {v:D} {nm:D}:∀i:Nat,(mIx [.str] (AK v i) (.row [nm])<0∧∀j:Nat,j<i→Mn (kd v j)=true→D.strEq (cl v j 0) nm=false)∨
  (∃j:Nat,j<i∧Mn (kd v j)=true∧D.strEq (cl v j 0) nm=true∧0≤mIx [.str] (AK v i) (.row [nm])∧mIx [.str] (AK v i) (.row [nm])<len (AK v i)∧
   cl (AK v i) (mIx [.str] (AK v i) (.row [nm])) 1=cl v j 5∧cl (AK v i) (mIx [.str] (AK v i) (.row [nm])) 2=hiC v j)
 |0=>.inl ⟨(by rw [show mIx [.str] (AK v 0) (.row [nm]) = -1 from rfl];decide),fun j f=>absurd f (Nat.not_lt_zero _)⟩
 |i+1=>by
  rw [AK];cases g:Mn (kd v i) with
  |false=>
   rcases D7 (v:=v) (nm:=nm) i with ⟨c,a⟩|⟨j,c,a⟩
   ·refine .inl ⟨c,fun j f b=>?_⟩
    rcases Nat.lt_or_ge j i with h|h
    ·exact a j h b
    ·have:j=i:=by omega
     subst this;rw [g] at b;cases b
   ·exact .inr ⟨j,by omega,a⟩
  |true=>
   show _∨_;simp only [cond_true];rw [OJ (FJ (v:=v) i)];rcases D7 (v:=v) (nm:=nm) i with ⟨c,a⟩|⟨j,c,a,k,d,n,l,m⟩
   ·rw [if_neg (by omega)]
    by_cases e:D.strEq (cl v i 0) nm=true
    ·rw [if_pos e];refine .inr ⟨i,by omega,g,e,by omega,by rw [Dl];omega,?_,?_⟩
     ·rw [If (by omega),if_pos rfl];rfl
     ·rw [If (by omega),if_pos rfl];rfl
    ·rw [if_neg e];refine .inl ⟨by omega,fun j f b=>?_⟩
     rcases Nat.lt_or_ge j i with h|h
     ·exact a j h b
     ·have:j=i:=by omega
      subst this;cases h:D.strEq (cl v j 0) nm
      ·rfl
      ·exact absurd h e
   ·rw [if_pos d];refine .inr ⟨j,by omega,a,k,d,by rw [Dl];omega,?_,?_⟩
    ·rw [If d,if_neg (by omega)];exact l
    ·rw [If d,if_neg (by omega)];exact m
theorem XJ {v:D} {i n:Nat} (c:DN v n) (hi:i<n):mIx [.str] (AK v i) (.row [cl v i 0])<0:=by
 rcases D7 (v:=v) (nm:=cl v i 0) i with ⟨a,_⟩|⟨j,a,_,b,_⟩
 ·exact a
 ·rw [c j i a hi] at b;cases b
theorem Zt {v:D} (h:len v≤1000000) (f:DN v (len v)):Bt v=.row [.int 1,AK v (len v)]:=by
 rw [kY]
 have g:∀j,j<len v→Kw v (.int (j:Nat)) (AK v j)=Kw v (.int ((j+1:Nat):Int)) (AK v (j+1)):=by
  intro j l;have e:=XJ f l;rw [fq,ifT (by omega),ifF (by omega),Bm (by omega),AK]
  have a:kd v j=(cl v j 1).toInt:=rfl;by_cases b:(cl v j 1).toInt=1
  ·rw [ifT b,ifT e,show Mn (kd v j)=true by rw [a,b];rfl,hiC,a,b];rfl
  ·rw [ifF b];by_cases c:(cl v j 1).toInt=2
   ·rw [ifT c,ifT e,show Mn (kd v j)=true by rw [a,c];rfl,hiC,a,c];rfl
   ·rw [ifF c];by_cases d:(cl v j 1).toInt=3
    ·rw [ifT d,ifT e,show Mn (kd v j)=true by rw [a,d];rfl,hiC,a,d];rfl
    ·rw [ifF d,show Mn (kd v j)=false by simp [Mn,a,b,c,d]];rfl
 have m:∀k i,i+k=len v→Kw v (.int (i:Nat)) (AK v i)=.row [.int 1,AK v (len v)]:=by
  intro k
  induction k with
  |zero=>
   intro i hi;have:i=len v:=hi;subst this;rw [fq,ifF (by omega)]
  |succ k ih=>intro i hi;rw [g i (by omega)];exact ih (i+1) (by omega)
 exact m (len v) 0 (by omega)
theorem TY {v:D} {n:Nat} (a:n≤len v):∀i:Nat,i≤n→AK (sb v 0 (n:Nat)) i=AK v i
 |0,_=>rfl
 |i+1,h=>by
  have h0:∀c,cl (sb v 0 (n:Nat)) (i:Nat) c=cl v (i:Nat) c:=fun c=>Uc a (by omega)
  have b:kd (sb v 0 (n:Nat)) (i:Nat)=kd v (i:Nat):=by unfold kd;rw [h0]
  rw [AK,AK,b,h0,h0,TY a i (by omega)]
  unfold hiC;rw [b,h0,h0]
end
end Mm
namespace Mm
open Go Go.AE
section
variable [Ax]
theorem B8 {k:Int} {l:List D} {a b:D}:cond (decide ((sl (D.row (D.int k::l)) 0).toInt=k)) a b=a:=ifT rfl
theorem UE {v:D} (h:C9 v=true):1≤C0 v∧C0 v≤32:=by
 by_cases a:(C0 v:Int)<1
 ·exfalso
  have e:Ey v=.row [.int 1,.bool false]:=by
   rw [cU];refine (?_:cond (decide ((sl (Bv (l2 _ _) (.bool false) (.bool false)) 0).toInt=1)) (cond (decide ((sl (Bv (l2 _ _) (.bool false) (.bool false)) 1).toInt<0)) _ _) _=_);rw [Vg,B8,decide_eq_true a,ifF (by show ¬(0:Int)<0;decide)]
  unfold C9 at h;rw [e] at h;cases h
 ·by_cases b:32<(C0 v:Int)
  ·exfalso
   have e:Ey v=.row [.int 1,.bool false]:=by
    rw [cU];refine (?_:cond (decide ((sl (Bv (l2 _ _) (.bool false) (.bool false)) 0).toInt=1)) (cond (decide ((sl (Bv (l2 _ _) (.bool false) (.bool false)) 1).toInt<0)) _ _) _=_);rw [Vg,B8,decide_eq_false a,decide_eq_true b,ifF (by show ¬(1:Int)<0;decide)]
   unfold C9 at h;rw [e] at h;cases h
  ·omega
theorem Wz {v:D} (h:C9 v=true):D.strEq v (A0 0 0)=false:=by
 cases a:D.strEq v (A0 0 0) with
 |false=>rfl
 |true=>
  have c:=UE h;have b:=FX.1 a;have:C0 v=0:=by unfold C0;rw [b];rfl
  omega
def fac (t:D) (j:Int):Int:=(cl t j 1).toInt
structure TOK (t:D) (j:Nat):Prop where
 name:C9 (cl t j 0)=true
 ne:fac t j≠0
 lo:-1048576≤fac t j
 hi:fac t j≤1048576
 new:∀i,i<j→D.strEq (cl t i 0) (cl t j 0)=false
theorem ZT {t:D} (s:len t≤1000000):∀k i,i+k=len t→(∀j,j<i→TOK t j)→∃r m,Q6 t (.int (i:Nat)) (ID (fun j=>cl t j 0) i)=.row [.int 1,.int r,m]∧(r<0→∀j,j<len t→TOK t j)
 |0,i,h,c=>by
  have:i=len t:=h;subst this;exact ⟨_,_,by rw [f5,ifF (by omega)],fun _=>c⟩
 |k+1,i,h,c=>by
  have hi:i<len t:=by omega
  rw [f5,ifT (by omega),ifF (by omega),Xl,Bm (by omega),Ud]
  by_cases l:fdG (fun j=>D.strEq (cl t j 0) (cl t i 0)) i 0<0
  ·rw [ifT l];have n:∀j,j<i→D.strEq (cl t j 0) (cl t i 0)=false:=fun j u=>Pc (p:=fun j=>D.strEq (cl t j 0) (cl t i 0)) (k:=i) (i:=0) (by omega) (.inr ⟨l,by omega⟩)
   refine (?_:∃r m,cond (decide ((1:Int)=1)) _ _=_∧_)
   rw [ifT rfl];by_cases q:fac t i < -1048576
   ·refine (?_:∃r m,cond (decide (fac t i < -1048576)) _ _=_∧_)
    rw [ifT q];refine (?_:∃r m,cond (decide ((sl (Bv (l3 (C9 (cl t i 0)) true false) (.bool false) (.bool false)) 0).toInt=1)) (cond (decide ((sl (Bv (l3 (C9 (cl t i 0)) true false) (.bool false) (.bool false)) 1).toInt<0)) _ _) _=_∧_)
    rw [Yr,B8,ifF (by cases C9 (cl t i 0)<;>decide)]
    exact ⟨_,_,rfl,fun hr=>absurd hr (by omega)⟩
   ·refine (?_:∃r m,cond (decide (fac t i < -1048576)) _ _=_∧_)
    rw [ifF q];refine (?_:∃r m,cond (decide ((sl (Bv (l3 (C9 (cl t i 0)) (!decide (fac t i=0)) (!decide (1048576<fac t i))) (.bool false) (.bool false)) 0).toInt=1)) (cond (decide ((sl (Bv (l3 (C9 (cl t i 0)) (!decide (fac t i=0)) (!decide (1048576<fac t i))) (.bool false) (.bool false)) 1).toInt<0)) _ _) _=_∧_)
    rw [Yr,B8,Ry (f:=fun j=>cl t j 0)]
    by_cases b:C9 (cl t i 0)=true∧fac t i≠0∧fac t i≤1048576
    ·obtain ⟨a1,a2,a3⟩:=b;rw [a1,decide_eq_false a2,decide_eq_false (show ¬1048576<fac t i by omega),ifT (by decide)]
     exact ZT s k (i+1) (by omega) fun j u=>by
      rcases Nat.lt_or_ge j i with e|e
      ·exact c j e
      ·have:j=i:=by omega
       subst this;exact ⟨a1,a2,by omega,a3,n⟩
    ·rw [ifF (by
      intro a;refine b ?_;cases g:C9 (cl t i 0) with
      |false=>rw [g] at a;exact absurd a (by show ¬(0:Int)<0;decide)
      |true=>
       rw [g] at a;by_cases d:fac t i=0
       ·rw [decide_eq_true d] at a;exact absurd a (by show ¬(1:Int)<0;decide)
       ·rw [decide_eq_false d] at a;by_cases o:1048576<fac t i
        ·rw [decide_eq_true o] at a;exact absurd a (by decide)
        ·exact ⟨rfl,d,by omega⟩)]
     exact ⟨_,_,rfl,fun hr=>absurd hr (by omega)⟩
  ·rw [ifF l,Rn (by omega) (by have:=Fs (p:=fun j=>D.strEq (cl t j 0) (cl t i 0)) (k:=i) (i:=0);omega)]
   refine (?_:∃r m,cond true _ _=_∧_)
   exact ⟨_,_,rfl,fun hr=>absurd hr (by omega)⟩
theorem eK {t:D} (a:len t≤1000000):∃r m,Sq t Ap=.row [.int 1,.int r,m]∧(r<0→∀j,j<len t→TOK t j):=by
 rw [kL];exact ZT a (len t) 0 (by omega) fun j b=>absurd b (Nat.not_lt_zero _)
section
variable {v0 v1 v2 v3 v4 v7 v8 M:D} {v5 v6:Int}
theorem Xs {t:D} {b:Bool} (g:len t≤1000000):Gk v0 v1 v2 v3 v4 (.int v5) (.int v6) v7 v8 M t (.bool b)=.row [.int 1,(.int v5),(.int v6)]∨
  (Gk v0 v1 v2 v3 v4 (.int v5) (.int v6) v7 v8 M t (.bool b)=.row [.int 2]∧∀j:Nat,j<len t→0≤mIx [.str] M (.row [cl t j 0])):=by
 rw [eo]
 have f:∀k i,i+k=len t→(∀j:Nat,j<i→0≤mIx [.str] M (.row [cl t j 0]))→Po t (.bool b) (.int (i:Nat)) v0 v1 v2 (.int v5) (.int v6) v7 v8 v3 v4 M=.row [.int 1,(.int v5),(.int v6)]∨
   (Po t (.bool b) (.int (i:Nat)) v0 v1 v2 (.int v5) (.int v6) v7 v8 v3 v4 M=.row [.int 2]∧∀j:Nat,j<len t→0≤mIx [.str] M (.row [cl t j 0])):=by
  intro k
  induction k with
  |zero=>
   intro i h a;have:i=len t:=h;subst this;rw [ZU,ifF (by omega)]
   exact .inr ⟨rfl,a⟩
  |succ k ih=>
   intro i h a;rw [ZU,ifT (by omega),ifF (by omega),Bm (by omega)]
   by_cases d:mIx [.str] M (.row [cl t i 0])<0
   ·rw [ifT d];exact .inl rfl
   ·rw [ifF d]
    exact ih (i+1) (by omega) fun j e=>by
     rcases Nat.lt_or_ge j i with c|c
     ·exact a j c
     ·have:j=i:=by omega
      subst this;omega
 exact f (len t) 0 (by omega) fun j e=>absurd e (Nat.not_lt_zero _)
end
end
end Mm
namespace Mm
open Go Go.AE
section
variable [Ax]
def ixM (M nm:D):Int:=mIx [.str] M (.row [nm])
def loM (M nm:D):Int:=(cl M (ixM M nm) 1).toInt
def hiM (M nm:D):Int:=(cl M (ixM M nm) 2).toInt
def RO (M nm:D):Prop:=0≤loM M nm∧loM M nm≤hiM M nm∧hiM M nm<34359738368
theorem WK {t M:D} {b:Bool} (s:len t≤1000000) (q:∀j:Nat,j<len t→0≤ixM M (cl t j 0)) (r:∀j:Nat,j<len t→C9 (cl t j 0)=true):∀k i,i+k=len t→
  (Hk t (.bool b) (.int (i:Nat)) (A0 0 0) M (.int 0) (.bool false)=.row [.int 1,.bool false]∧¬∀j,i≤j→j<len t→RO M (cl t j 0))∨
  (Hk t (.bool b) (.int (i:Nat)) (A0 0 0) M (.int 0) (.bool false)=.row [.int 2,.bool false]∧∀j,i≤j→j<len t→RO M (cl t j 0))
 |0,i,h=>by
  have:i=len t:=h;subst this;exact .inr ⟨by rw [V9,ifF (by omega)],fun j u m=>by omega⟩
 |k+1,i,h=>by
  have hi:i<len t:=by omega
  have u:=q i hi;have m:=Wz (r i hi);have d:ixM M (cl t i 0)=mIx [.str] M (.row [cl t i 0]):=rfl;rw [V9,ifT (by omega),ifF (by omega),Bm (by omega),ifF (by rw [←d];omega),m]
  have step:∀x y:D,cond false x y=y:=fun _ _=>rfl
  rw [step];by_cases hr:RO M (cl t i 0)
  ·obtain ⟨g,l,f⟩:=hr
   have e:(Bv (l3 (!decide (loM M (cl t i 0)<0)) (!decide (hiM M (cl t i 0)<loM M (cl t i 0))) (decide (hiM M (cl t i 0)<34359738368))) (.bool false) (.bool false))=.row [.int 1,.int (-1)]:=by
    rw [Yr,decide_eq_false (by omega),decide_eq_false (by omega),decide_eq_true f];rfl
   have v:=WK (b:=b) s q r k (i+1) (by omega)
   have A:Hk t (.bool b) (.int (i:Nat)) (A0 0 0) M (.int 0) (.bool false)=Hk t (.bool b) (.int ((i+1:Nat):Int)) (A0 0 0) M (.int 0) (.bool false):=by
    rw [V9,ifT (by omega),ifF (by omega),Bm (by omega),ifF (by rw [←d];omega),m,step]
    refine (?_:cond (decide ((sl (Bv (l3 (!decide (loM M (cl t i 0)<0)) (!decide (hiM M (cl t i 0)<loM M (cl t i 0))) (decide (hiM M (cl t i 0)<34359738368))) (.bool false) (.bool false)) 0).toInt=1)) (cond (decide ((sl (Bv (l3 (!decide (loM M (cl t i 0)<0)) (!decide (hiM M (cl t i 0)<loM M (cl t i 0))) (decide (hiM M (cl t i 0)<34359738368))) (.bool false) (.bool false)) 1).toInt<0)) _ _) _=_);rw [e,B8,ifT (by decide)]
   refine (?_:(cond (decide ((sl (Bv (l3 (!decide (loM M (cl t i 0)<0)) (!decide (hiM M (cl t i 0)<loM M (cl t i 0))) (decide (hiM M (cl t i 0)<34359738368))) (.bool false) (.bool false)) 0).toInt=1)) (cond (decide ((sl (Bv (l3 (!decide (loM M (cl t i 0)<0)) (!decide (hiM M (cl t i 0)<loM M (cl t i 0))) (decide (hiM M (cl t i 0)<34359738368))) (.bool false) (.bool false)) 1).toInt<0)) _ _) _=_∧_)∨(cond (decide ((sl (Bv (l3 (!decide (loM M (cl t i 0)<0)) (!decide (hiM M (cl t i 0)<loM M (cl t i 0))) (decide (hiM M (cl t i 0)<34359738368))) (.bool false) (.bool false)) 0).toInt=1)) (cond (decide ((sl (Bv (l3 (!decide (loM M (cl t i 0)<0)) (!decide (hiM M (cl t i 0)<loM M (cl t i 0))) (decide (hiM M (cl t i 0)<34359738368))) (.bool false) (.bool false)) 1).toInt<0)) _ _) _=_∧_));rw [e,B8,ifT (by decide)]
   rcases v with ⟨n,o⟩|⟨n,o⟩
   ·exact .inl ⟨n,fun a=>o fun j w c=>a j (by omega) c⟩
   ·refine .inr ⟨n,fun j w c=>?_⟩
    rcases Nat.lt_or_ge i j with p|p
    ·exact o j (by omega) c
    ·have:j=i:=by omega
     subst this;exact ⟨g,l,f⟩
  ·have e:∃z:Int,0≤z∧(Bv (l3 (!decide (loM M (cl t i 0)<0)) (!decide (hiM M (cl t i 0)<loM M (cl t i 0))) (decide (hiM M (cl t i 0)<34359738368))) (.bool false) (.bool false))=.row [.int 1,.int z]:=by
    rw [Yr];by_cases g:loM M (cl t i 0)<0
    ·rw [decide_eq_true g];exact ⟨0,by decide,rfl⟩
    ·rw [decide_eq_false g];by_cases l:hiM M (cl t i 0)<loM M (cl t i 0)
     ·rw [decide_eq_true l];exact ⟨1,by decide,rfl⟩
     ·rw [decide_eq_false l];by_cases f:hiM M (cl t i 0)<34359738368
      ·exact absurd ⟨by omega,by omega,f⟩ hr
      ·rw [decide_eq_false f];exact ⟨2,by decide,rfl⟩
   obtain ⟨z,B,e⟩:=e;refine .inl ⟨?_,fun a=>hr (a i (Nat.le_refl _) hi)⟩
   refine (?_:cond (decide ((sl (Bv (l3 (!decide (loM M (cl t i 0)<0)) (!decide (hiM M (cl t i 0)<loM M (cl t i 0))) (decide (hiM M (cl t i 0)<34359738368))) (.bool false) (.bool false)) 0).toInt=1)) (cond (decide ((sl (Bv (l3 (!decide (loM M (cl t i 0)<0)) (!decide (hiM M (cl t i 0)<loM M (cl t i 0))) (decide (hiM M (cl t i 0)<34359738368))) (.bool false) (.bool false)) 1).toInt<0)) _ _) _=_);rw [e,B8,ifF (by show ¬z<0;omega)]
theorem N7 {t M:D} {b:Bool} (e:len t≤1000000) (f:∀j:Nat,j<len t→0≤ixM M (cl t j 0)) (g:∀j:Nat,j<len t→C9 (cl t j 0)=true) :
  (Ed (A0 0 0) M (.int 0) (.bool false) t (.bool b)=.row [.int 1,.bool false]∧¬∀j,j<len t→RO M (cl t j 0))∨
  (Ed (A0 0 0) M (.int 0) (.bool false) t (.bool b)=.row [.int 2,.bool false]∧∀j,j<len t→RO M (cl t j 0)):=by
 rw [gT];rcases WK (b:=b) e f g (len t) 0 (by omega) with ⟨a,c⟩|⟨a,c⟩
 ·exact .inl ⟨a,fun h=>c fun j _ d=>h j d⟩
 ·exact .inr ⟨a,fun j d=>c j (Nat.zero_le _) d⟩
def vM (M t:D) (i:Nat):Int:=if 0<fac t i then hiM M (cl t i 0) else loM M (cl t i 0)
def IQ (M t:D) (base:Int):Nat→Int
 |0=>base
 |i+1=>IntKind.wrap .i64 (IQ M t base i+IntKind.wrap .i64 (fac t i*vM M t i))
theorem Z9 {t M:D} {base:Int} (f:len t≤1000000) (d:∀j:Nat,j<len t→0≤ixM M (cl t j 0)):DF (.int base) t M (.bool false)=.row [.int 1,.int (IQ M t base (len t))]:=by
 rw [Z0]
 have e:∀k i,i+k=len t→EK (.int (IQ M t base i)) t (.int (i:Nat)) M (.bool false)=.row [.int 1,.int (IQ M t base (len t))]:=by
  intro k
  induction k with
  |zero=>
   intro i h;have:i=len t:=h;subst this;rw [Th,ifF (by omega)]
  |succ k ih=>
   intro i h;have g:=d i (by omega)
   have c:ixM M (cl t i 0)=mIx [.str] M (.row [cl t i 0]):=rfl;rw [Th,ifT (by omega),ifF (by omega),Bm (by omega),ifF (by rw [←c];omega)]
   refine (?_:cond (decide (0<fac t i)) (EK (.int (IntKind.wrap .i64 (IQ M t base i+IntKind.wrap .i64 (fac t i*hiM M (cl t i 0))))) t (.int ((i+1:Nat):Int)) M (.bool false)) (EK (.int (IntKind.wrap .i64 (IQ M t base i+IntKind.wrap .i64 (fac t i*loM M (cl t i 0))))) t (.int ((i+1:Nat):Int)) M (.bool false))=_);have a:=ih (i+1) (by omega)
   rw [IQ,vM] at a;by_cases b:0<fac t i
   ·rw [ifT b];rw [if_pos b] at a;exact a
   ·rw [ifF b];rw [if_neg b] at a;exact a
 exact e (len t) 0 (by omega)
theorem RP {t M:D} {base:Int} {c:Bool} (d:len t≤1000000):IsI (DF (.int base) t M (.bool c)):=by
 rw [Z0]
 have b:∀k i (a:Int),i+k=len t→IsI (EK (.int a) t (.int (i:Nat)) M (.bool c)):=by
  intro k
  induction k with
  |zero=>
   intro i a h;have:i=len t:=h;subst this;rw [Th,ifF (by omega)]
   exact ⟨_,rfl⟩
  |succ k ih=>
   intro i a h;rw [Th,ifT (by omega),ifF (by omega),Bm (by omega)]
   repeat' apply qc
   all_goals exact ih (i+1) _ (by omega)
 exact b (len t) 0 base (by omega)
theorem cH {a v nm:D} (h:len v≤1000000):EI a v nm (.int (len v:Int))=.row [.int 1,.int (fld v nm)]:=by
 rw [jr];refine find (F:=fun j=>MW nm (.int (len v:Int)) (.int (j:Nat)) a v) (bad:=fun i=>D.strEq (cl v i 0) nm) (n:=len v) ?_ ?_
 ·intro j b;refine (?_:MW nm (.int (len v:Int)) (.int ((j:Nat):Int)) a v=_);rw [Zn,ifT (by omega),ifF (by omega),ifT (by omega),Bm (by omega)]
 ·refine (?_:MW nm (.int (len v:Int)) (.int ((len v:Nat):Int)) a v=_);rw [Zn,ifF (by omega)]
theorem bJ {v nm:D} {q:Nat} (e:DN v (len v)) (f:q<len v) (h:D.strEq (cl v q 0) nm=true):fld v nm=q:=by
 have a:=LB (p:=fun i=>D.strEq (cl v i 0) nm) (k:=len v) (i:=0) (j:=q) (by omega) (by omega) h
 have c:=JP a.1;obtain ⟨m,g⟩:=Int.eq_ofNat_of_zero_le a.1;unfold fld;rw [g] at a c ⊢;have l:m≤q:=by omega
 rcases Nat.lt_or_ge m q with b|n
 ·have o:=e m q b f;have r:D.strEq (cl v m 0) nm=true:=c;have d:=N9 r (by rw [Qc];exact h)
  rw [o] at d;cases d
 ·congr 1;omega
theorem bw {f v t:D} {base:Int} (s:len v≤1000000) (G:len t≤1000000) (u:DN v (len v)) (m:∀j,j<len t→TOK t j) (w:∀j:Nat,j<len t→0≤ixM (AK v (len v)) (cl t j 0))
  (hr:∀j,j<len t→RO (AK v (len v)) (cl t j 0)):Ug f v (.int base) t=.row [.int 1,.int (IQ (AK v (len v)) t base (len t))]:=by
 rw [gC]
 have x:∀k i,i+k=len t→IC (.int (IQ (AK v (len v)) t base i)) (.int (i:Nat)) f v (.int base) t=.row [.int 1,.int (IQ (AK v (len v)) t base (len t))]:=by
  intro k
  induction k with
  |zero=>
   intro i h;have:i=len t:=h;subst this;rw [Zx,ifF (by omega)]
  |succ k ih=>
   intro i h;have hi:i<len t:=by omega
   have y:=w i hi;obtain ⟨a1,a2,a3,a4,a5⟩:=m i hi;obtain ⟨n,g,p⟩:=hr i hi;rcases D7 (v:=v) (nm:=cl t i 0) (len v) with ⟨H,_⟩|⟨q,z,I,A,J,K,B,C⟩
   ·exact absurd y (by unfold ixM;omega)
   ·have c:loM (AK v (len v)) (cl t i 0)=(cl v q 5).toInt:=by unfold loM ixM;rw [B]
    have d:hiM (AK v (len v)) (cl t i 0)=(hiC v q).toInt:=by unfold hiM ixM;rw [C]
    have b:=ih (i+1) (by omega)
    rw [IQ,vM,c,d] at b;rw [c,d] at g;rw [c] at n;rw [d] at p;rw [Zx,ifT (by omega),ifF (by omega),cH s,bJ u z A,Bm (by omega)]
    refine (?_:cond (decide ((1:Int)=1)) (cond (decide ((q:Int)<0)) _ (cond (decide ((q:Int)<len v)) (cond (decide (kd v q=2)) _ _) _)) _=_);rw [ifT rfl,ifF (by omega),ifT (by omega)]
    by_cases l:kd v q=2
    ·have E:hiC v q=cl v q 5:=by unfold hiC;rw [ifT l]
     rw [E] at b;rw [ifT l,ifF (by omega)]
     have:(if 0<fac t i then (cl v q 5).toInt else (cl v q 5).toInt)=(cl v q 5).toInt:=by split<;>rfl
     rw [this] at b;exact b
    ·have F:hiC v q=cl v q 6:=by unfold hiC;rw [ifF l]
     rw [F] at b g p;rw [ifF l];refine (?_:cond (decide (IntKind.wrap .i64 (fac t i*(cl v q 5).toInt)<IntKind.wrap .i64 (fac t i*(cl v q 6).toInt))) (IC (.int (IntKind.wrap .i64 (IQ (AK v (len v)) t base i+IntKind.wrap .i64 (fac t i*(cl v q 6).toInt)))) (.int ((i+1:Nat):Int)) f v (.int base) t) (IC (.int (IntKind.wrap .i64 (IQ (AK v (len v)) t base i+IntKind.wrap .i64 (fac t i*(cl v q 5).toInt)))) (.int ((i+1:Nat):Int)) f v (.int base) t)=_);generalize (cl v q 5).toInt=lo at *;generalize (cl v q 6).toInt=hi at *
     have L:fac t i*lo≤36028797018963968:=by
      have:=Int.mul_le_mul_of_nonneg_right a4 n;have:(1048576:Int)*lo≤1048576*34359738368:=Int.mul_le_mul_of_nonneg_left (by omega) (by decide)
      omega
     have M:-36028797018963968≤fac t i*lo:=by
      have:=Int.mul_le_mul_of_nonneg_right a3 n;have:(1048576:Int)*lo≤1048576*34359738368:=Int.mul_le_mul_of_nonneg_left (by omega) (by decide)
      omega
     have b3:fac t i*hi≤36028797018963968:=by
      have:=Int.mul_le_mul_of_nonneg_right a4 (show 0≤hi by omega)
      have:(1048576:Int)*hi≤1048576*34359738368:=Int.mul_le_mul_of_nonneg_left (by omega) (by decide)
      omega
     have b4:-36028797018963968≤fac t i*hi:=by
      have:=Int.mul_le_mul_of_nonneg_right a3 (show 0≤hi by omega)
      have:(1048576:Int)*hi≤1048576*34359738368:=Int.mul_le_mul_of_nonneg_left (by omega) (by decide)
      omega
     rw [Am (a:=fac t i*lo) (by omega) (by omega),Am (a:=fac t i*hi) (by omega) (by omega)]
     by_cases r:0<fac t i
     ·rw [if_pos r,Am (a:=fac t i*hi) (by omega) (by omega)] at b
      have o:fac t i*lo≤fac t i*hi:=Int.mul_le_mul_of_nonneg_left g (by omega)
      by_cases e:fac t i*lo<fac t i*hi
      ·rw [ifT e];exact b
      ·rw [ifF e,show fac t i*lo=fac t i*hi by omega];exact b
     ·rw [if_neg r,Am (a:=fac t i*lo) (by omega) (by omega)] at b
      have o:fac t i*hi≤fac t i*lo:=Int.mul_le_mul_of_nonpos_left (by omega) g
      rw [ifF (by omega)];exact b
 exact x (len t) 0 (by omega)
end
end Mm
namespace Mm
open Go Go.AE
section
variable [Ax]
structure SZ (v t:D) (base:Int) (n:Nat):Prop where
 lo:-1048576≤base
 hi:base≤1048576
 few:len t≤4
 terms:∀j,j<len t→TOK t j
 known:∀j:Nat,j<len t→0≤ixM (AK v n) (cl t j 0)
 right:∀j,j<len t→RO (AK v n) (cl t j 0)
 run:∃r m,Sq t Ap=.row [.int 1,.int r,m]∧r<0
def L5 (d:D):Prop:=∃a b c:Int,d=.row [.int 1,.int a,.int b,.int c]
theorem jn {v:D} {n:Nat} (a:n≤len v) (c:DN v n):DN (sb v 0 (n:Nat)) (len (sb v 0 (n:Nat))):=by
 have d:len (sb v 0 (n:Nat))=n:=by rw [Mt (by simp) (by simpa using a)];simp
 rw [d];intro j k e b;rw [Uc a (by omega),Uc a b]
 exact c j k e b
theorem ZB {v:D} {n:Nat} (d:len v≤1000000) (a:n≤len v) (c:DN v n):Bt (sb v 0 (n:Nat))=.row [.int 1,AK v n]:=by
 have b:len (sb v 0 (n:Nat))=n:=by rw [Mt (by simp) (by simpa using a)];simp
 rw [Zt (by rw [b];omega) (jn a c),b,TY a n (Nat.le_refl _)]
theorem EU {t:D}:len (ct Ap t)=len t:=by simp [len,ct,Ap,D.rows]
theorem Mf {t:D} {i:Int} {j:Nat}:cl (ct Ap t) i j=cl t i j:=by simp [cl,ct,Ap,D.rows]
section
variable {v0 v1 v2 v3 v4 v7 v9 v18 v19 v20 v21:D} {v5 v10 v11 v14 v15 v22 v23:Int} {v12 v13:Bool}
theorem cO {v t:D} {n:Nat} {base:Int} (w:len v≤1000000) (x:n≤len v) (y:DN v n) (d:t.isNil=true→len t=0) (z:len t≤1000) :
  L5 (Pv v0 v1 v2 v3 v4 (.int v5) (.int (n:Nat)) v7 v v9 (.int v10) (.int v11) (.bool v12) (.bool v13) (.int v14) (.int v15) (.int base) t v18 v19 v20 v21 (.int v22) (.int v23))∨
  (Pv v0 v1 v2 v3 v4 (.int v5) (.int (n:Nat)) v7 v v9 (.int v10) (.int v11) (.bool v12) (.bool v13) (.int v14) (.int v15) (.int base) t v18 v19 v20 v21 (.int v22) (.int v23)=.row [.int 2]∧SZ v t base n):=by
 rw [iM];by_cases p:base < -1048576
 ·rw [ifT p];exact .inl ⟨_,_,_,rfl⟩
 ·rw [ifF p];refine (?_:L5 (cond (decide ((sl (Bv (l2 (!decide (1048576<base)) (!decide (4<(len t:Int)))) (.bool false) (.bool false)) 0).toInt=1)) (cond (decide ((sl (Bv (l2 (!decide (1048576<base)) (!decide (4<(len t:Int)))) (.bool false) (.bool false)) 1).toInt<0)) _ _) _)∨(cond (decide ((sl (Bv (l2 (!decide (1048576<base)) (!decide (4<(len t:Int)))) (.bool false) (.bool false)) 0).toInt=1)) (cond (decide ((sl (Bv (l2 (!decide (1048576<base)) (!decide (4<(len t:Int)))) (.bool false) (.bool false)) 1).toInt<0)) _ _) _=_∧_));rw [Vg,B8];by_cases q:1048576<base
  ·rw [decide_eq_true q,ifF (by show ¬(0:Int)<0;decide)];exact .inl ⟨_,_,_,rfl⟩
  ·rw [decide_eq_false q];by_cases s:4<(len t:Int)
   ·rw [decide_eq_true s,ifF (by show ¬(1:Int)<0;decide)];exact .inl ⟨_,_,_,rfl⟩
   ·rw [decide_eq_false s,ifT (by show (-1:Int)<0;decide)]
    obtain ⟨r,m,i,k⟩:=eK (t:=t) (by omega)
    rw [i,ZB w x y];refine (?_:L5 (cond (decide ((1:Int)=1)) (cond (decide (r<0)) _ _) _)∨(cond (decide ((1:Int)=1)) (cond (decide (r<0)) _ _) _=_∧_));rw [ifT rfl];by_cases hr:r<0
    ·have l:=k hr;rw [ifT hr,ifF (by omega),ifF (by omega)]
     refine (?_:L5 (cond (decide ((1:Int)=1)) (cond t.isNil _ _) _)∨(cond (decide ((1:Int)=1)) (cond t.isNil _ _) _=_∧_));rw [ifT rfl];obtain ⟨k1,e⟩:=RP (t:=t) (M:=AK v n) (base:=base) (c:=true) (by omega)
     obtain ⟨k2,f⟩:=RP (t:=t) (M:=AK v n) (base:=base) (c:=false) (by omega)
     cases A:t.isNil with
     |true=>
      have h0:=d A;refine (?_:L5 (cond true _ _)∨(cond true _ _=_∧_));rw [cond_true];have B:SZ v t base n:=⟨by omega,by omega,by omega,l,fun j a=>by omega,fun j a=>by omega,⟨r,m,i,hr⟩⟩
      rcases Xs (v0:=v0) (v1:=v1) (v2:=v2) (v3:=v3) (v4:=v4) (v5:=v5) (v6:=(n:Nat)) (v7:=v7) (v8:=v) (M:=AK v n) (t:=Cv) (b:=true) (by decide) with g|⟨g,_⟩
      ·refine .inl ?_;rw [show sl (.row [.int 1,AK v n]) 1=AK v n from rfl,g]
       exact ⟨_,_,_,rfl⟩
      ·rw [show sl (.row [.int 1,AK v n]) 1=AK v n from rfl,g]
       rcases N7 (t:=Cv) (M:=AK v n) (b:=true) (by decide) (fun j a=>absurd a (Nat.not_lt_zero _)) (fun j a=>absurd a (Nat.not_lt_zero _)) with ⟨u,u2⟩|⟨u,_⟩
       ·exact absurd (fun j a=>absurd a (Nat.not_lt_zero _)) u2
       ·rw [u,e,f];refine (?_:L5 (cond (decide (k1<0)) _ (cond (decide (1048576<k2)) _ _))∨(cond (decide (k1<0)) _ (cond (decide (1048576<k2)) _ _)=_∧_));by_cases c1:k1<0
        ·rw [ifT c1];exact .inl ⟨_,_,_,rfl⟩
        ·rw [ifF c1];by_cases c2:1048576<k2
         ·rw [ifT c2];exact .inl ⟨_,_,_,rfl⟩
         ·rw [ifF c2];exact .inr ⟨rfl,B⟩
     |false=>
      refine (?_:L5 (cond false _ _)∨(cond false _ _=_∧_));rw [cond_false,ifT (by omega)]
      simp only [Bool.false_and];rcases Xs (v0:=v0) (v1:=v1) (v2:=v2) (v3:=v3) (v4:=v4) (v5:=v5) (v6:=(n:Nat)) (v7:=v7) (v8:=v) (M:=AK v n) (t:=ct Ap t) (b:=false) (by rw [EU];omega) with g|⟨g,C⟩
      ·refine .inl ?_;rw [show sl (.row [.int 1,AK v n]) 1=AK v n from rfl,g]
       exact ⟨_,_,_,rfl⟩
      ·rw [show sl (.row [.int 1,AK v n]) 1=AK v n from rfl,g]
       have h:∀j:Nat,j<len t→0≤ixM (AK v n) (cl t j 0):=fun j a=>by
        have:=C j (by rw [EU];exact a)
        rw [Mf] at this;exact this
       rcases N7 (t:=ct Ap t) (M:=AK v n) (b:=false) (by rw [EU];omega) (fun j a=>by rw [Mf];exact h j (by rw [←EU];exact a)) (fun j a=>by rw [Mf];exact (l j (by rw [←EU];exact a)).name) with ⟨u,u2⟩|⟨u,u2⟩
       ·rw [u];exact .inl ⟨_,_,_,rfl⟩
       ·have o:∀j,j<len t→RO (AK v n) (cl t j 0):=fun j a=>by
         have:=u2 j (by rw [EU];exact a)
         rw [Mf] at this;exact this
        rw [u,e,f];refine (?_:L5 (cond (decide (k1<0)) _ (cond (decide (1048576<k2)) _ _))∨(cond (decide (k1<0)) _ (cond (decide (1048576<k2)) _ _)=_∧_));by_cases c1:k1<0
        ·rw [ifT c1];exact .inl ⟨_,_,_,rfl⟩
        ·rw [ifF c1];by_cases c2:1048576<k2
         ·rw [ifT c2];exact .inl ⟨_,_,_,rfl⟩
         ·rw [ifF c2];exact .inr ⟨rfl,⟨by omega,by omega,by omega,l,h,o,⟨r,m,i,hr⟩⟩⟩
    ·rw [ifF hr];exact .inl ⟨_,_,_,rfl⟩
end
end
end Mm
namespace Mm
open Go Go.AE
section
variable [Ax]
structure FT (v:D):Prop where
 i1:∀i:Nat,i<len v→∃n,cl v i 1=.int n
 i2:∀i:Nat,i<len v→∃n,cl v i 2=.int n
 b3:∀i:Nat,i<len v→∃n,cl v i 3=.bool n
 b4:∀i:Nat,i<len v→∃n,cl v i 4=.bool n
 i5:∀i:Nat,i<len v→∃n,cl v i 5=.int n
 i6:∀i:Nat,i<len v→∃n,cl v i 6=.int n
 i7:∀i:Nat,i<len v→∃n,cl v i 7=.int n
 i13:∀i:Nat,i<len v→∃n,cl v i 13=.int n
 i14:∀i:Nat,i<len v→∃n,cl v i 14=.int n
 few:len v≤16
 nil8:∀i:Nat,i<len v→(cl v i 8).isNil=true→len (cl v i 8)=0
 len8:∀i:Nat,i<len v→len (cl v i 8)≤6
 len12:∀i:Nat,i<len v→len (cl v i 12)≤10
 case:∀i:Nat,i<len v→∀j:Nat,j<len (cl v i 12)→(∃n,cl (cl v i 12) j 0=.int n)∧∃n,cl (cl v i 12) j 1=.int n
theorem YA {v:D} (h:FT v) {j:Nat} (a:j<len v):∃n,hiC v j=.int n:=by
 unfold hiC;cases decide (kd v j=2)
 ·exact h.i6 j a
 ·exact h.i5 j a
section
variable {v0 v1 v2 v3 v4 v7 v9 v17 v18 v19 v20 v21:D} {v5 v10 v11 v14 v15 v16 v22 v23:Int} {v12 v13:Bool}
theorem bH {v:D} (h:len v≤1000000):IsI (QL v v9 (.int v10) (.int v11) (.bool v12) (.bool v13) (.int v14) (.int v15) (.int v16) v17 v18 v19 v20 v21 (.int v22) (.int v23)):=by
 rw [f6];refine tot (F:=fun j=>Ls v (.int (j:Nat)) v9 (.int v10) (.int v11) (.bool v12) (.bool v13) (.int v14) (.int v15) (.int v16) v17 v18 v19 v20 v21 (.int v22) (.int v23)) (Q:=IsI) (n:=len v) ?_ ?_ (len v) 0 (by omega)
 ·refine (?_:IsI (Ls v (.int ((len v:Nat):Int)) v9 (.int v10) (.int v11) (.bool v12) (.bool v13) (.int v14) (.int v15) (.int v16) v17 v18 v19 v20 v21 (.int v22) (.int v23)));rw [Zl,ifF (by omega)]
  exact ⟨_,rfl⟩
 ·intro j a ih;refine (?_:IsI (Ls v (.int ((j:Nat):Int)) v9 (.int v10) (.int v11) (.bool v12) (.bool v13) (.int v14) (.int v15) (.int v16) v17 v18 v19 v20 v21 (.int v22) (.int v23)));rw [Zl,ifT (by omega),ifF (by omega),Bm (by omega)]
  repeat' apply qc
  all_goals first|exact ih|exact ⟨_,rfl⟩
def FF (d:D):Prop:=L5 d∨d=.row [.int 2]
theorem T9 {v8:D} {v6 lo hi n m:Int}:(∃a b:Int,EY v0 v1 v2 v3 v4 (.int v5) (.int v6) v7 v8 (.int lo) (.int hi) (m2 n m) (.bool false)=.row [.int 1,.int a,.int b])∨
  (EY v0 v1 v2 v3 v4 (.int v5) (.int v6) v7 v8 (.int lo) (.int hi) (m2 n m) (.bool false)=.row [.int 2]∧lo≤n∧n≤m∧n≤hi∧m≤hi):=by
 rw [aA];by_cases h:lo≤n∧n≤m∧n≤hi∧m≤hi
 ·rw [ifT h];exact .inr ⟨rfl,h⟩
 ·rw [ifF h];exact .inl ⟨_,_,rfl⟩
theorem YB {c:D} {d lo hi n:Int}:(∃a b:Int,EY v0 v1 v2 v3 v4 (.int v5) (.int d) v7 c (.int lo) (.int hi) (m1 n) (.bool false)=.row [.int 1,.int a,.int b])∨
  (EY v0 v1 v2 v3 v4 (.int v5) (.int d) v7 c (.int lo) (.int hi) (m1 n) (.bool false)=.row [.int 2]∧lo≤n∧n≤hi):=by
 rw [aD];by_cases h:lo≤n∧n≤hi
 ·rw [ifT h];exact .inr ⟨rfl,h⟩
 ·rw [ifF h];exact .inl ⟨_,_,rfl⟩
theorem S5 {v8 c:D} {v6 d hi:Int} (l:len c≤1000) (f:∀j:Nat,j<len c→(∃n,cl c j 0=.int n)∧∃n,cl c j 1=.int n):∀k i (lo:Int),i+k=len c→
  FF (Tk (.int lo) c (.int (i:Nat)) v0 v1 v2 (.int v5) (.int v6) v7 v8 v3 v4 (.int d) (.int hi))
 |0,i,lo,h=>by
  have:i=len c:=h;subst this;rw [ZC,ifF (by omega)]
  exact .inr rfl
 |k+1,i,lo,h=>by
  have e:i<len c:=by omega
  obtain ⟨⟨n,o⟩,⟨m,p⟩⟩:=f i e;rw [ZC,ifT (by omega),ifF (by omega),Bm (by omega),o,p]
  rcases T9 (v0:=v0) (v1:=v1) (v2:=v2) (v3:=v3) (v4:=v4) (v5:=v5) (v6:=v6) (v7:=v7) (v8:=v8) (lo:=lo) (hi:=hi) (n:=n) (m:=m) with ⟨a,b,g⟩|⟨g,_⟩
  ·refine .inl ?_;unfold m2 at g;rw [g];exact ⟨_,_,_,rfl⟩
  ·unfold m2 at g;rw [g];refine (?_:FF (cond (decide ((2:Int)=1)) _ (cond (decide ((2:Int)=2)) (cond _ _ _) _)));rw [ifF (by decide),ifT rfl]
   refine qc ?_ ?_
   ·exact .inl ⟨_,_,_,rfl⟩
   ·exact S5 l f k (i+1) _ (by omega)
theorem ci {v:D} {n:Nat} (a:FT v) (e:n≤len v) (f:DN v n) (b:len v21≤1000) (g:∀j:Nat,j<len v21→(∃n,cl v21 j 0=.int n)∧∃n,cl v21 j 1=.int n) :
  FF (Tt v0 v1 v2 v3 v4 (.int v5) (.int (n:Nat)) v7 v v9 (.int v10) (.int v11) (.bool v12) (.bool v13) (.int v14) (.int v15) (.int v16) v17 v18 v19 v20 v21 (.int v22) (.int v23)):=by
 have r:=a.few;have h:len (sb v 0 (n:Nat))=n:=by rw [Mt (by simp) (by simpa using e)];simp
 obtain ⟨k,i⟩:=bH (v:=sb v 0 (n:Nat)) (v9:=v9) (v10:=v10) (v11:=v11) (v12:=v12) (v13:=v13) (v14:=v14) (v15:=v15) (v16:=v16) (v17:=v17) (v18:=v18) (v19:=v19) (v20:=v20) (v21:=v21) (v22:=v22) (v23:=v23) (by rw [h];omega)
 rw [jd,ifF (by omega),ifF (by omega),ZB (by omega) e f,i]
 refine (?_:FF (cond (decide ((1:Int)=1)) (cond (decide (mIx [.str] (AK v n) (.row [v19])<0)) _ _) _));rw [ifT rfl];rcases D7 (v:=v) (nm:=v19) n with ⟨l,_⟩|⟨q,s,t,u,w,x,m,o⟩
 ·rw [ifT l];exact .inl ⟨_,_,_,rfl⟩
 ·rw [ifF (by omega)]
  obtain ⟨p,c⟩:=a.i5 q (by omega)
  obtain ⟨y,d⟩:=YA a (j:=q) (by omega)
  rw [show sl (.row [.int 1,AK v n]) 1=AK v n from rfl,m,o,c,d]
  refine (?_:FF (cond (decide ((1:Int)=1)) (cond (decide (k<0)) _ _) _));rw [ifT rfl];refine qc ?_ (.inl ⟨_,_,_,rfl⟩);refine qc (.inl ⟨_,_,_,rfl⟩) (qc (.inl ⟨_,_,_,rfl⟩) ?_);exact S5 b g (len v21) 0 p (by omega)
end
end
end Mm
namespace Mm
open Go Go.AE
section
variable [Ax]
structure EX' (v:D) (i:Nat) (k b lo hi base ck:Int):Prop where
 name:C9 (cl v i 0)=true
 new:∀j,j<i→D.strEq (cl v j 0) (cl v i 0)=false
 k12:k=1∨k=2→1≤b∧b≤32
 k3:k=3→0≤lo∧lo≤hi∧hi≤34359738367
 k4:k=4→SZ v (cl v i 8) base i
 k56:k=5∨k=6→0≤hi∧hi≤1048576
 k10:k=10→b=2∨b=4∨(8≤b∧b≤512∧ari .rem .i64 b 8=0)
 k11:k=11→1≤ck∧ck≤3
def EX (v:D) (i:Nat):Prop:=EX' v i (cl v i 1).toInt (cl v i 2).toInt (cl v i 5).toInt (cl v i 6).toInt (cl v i 7).toInt (cl v i 13).toInt
def Q16 (v:D) (i:Nat) (d:D):Prop:=L5 d∨(d=.row [.int 2]∧EX v i)
theorem A1 {v:D} {i:Nat} {a b c:Int}:Q16 v i (.row [.int 1,.int a,.int b,.int c]):=.inl ⟨_,_,_,rfl⟩
section
variable {v0 v1 v2 v3 v4 v7:D} {v5:Int}
theorem UB {v8:D} {v6 lo hi n:Int}:∃F,EY v0 v1 v2 v3 v4 (.int v5) (.int v6) v7 v8 (.int lo) (.int hi) (m1 n) (.bool false)=F∧((∃a b:Int,F=.row [.int 1,.int a,.int b])∨(F=.row [.int 2]∧lo≤n∧n≤hi)):=⟨_,rfl,YB⟩
theorem jN {v8:D} {v6 lo hi n m:Int}:∃F,EY v0 v1 v2 v3 v4 (.int v5) (.int v6) v7 v8 (.int lo) (.int hi) (m2 n m) (.bool false)=F∧((∃a b:Int,F=.row [.int 1,.int a,.int b])∨(F=.row [.int 2]∧lo≤n∧n≤m∧n≤hi∧m≤hi)):=⟨_,rfl,T9⟩
theorem bj {v:D} {i:Nat} (q:FT v) (hi:i<len v) (Q:DN v i):Q16 v i (LA v0 v1 v2 v3 v4 (.int v5) (.int (i:Nat)) v7 v (cl v i 0) (cl v i 1) (cl v i 2) (cl v i 3) (cl v i 4) (cl v i 5) (cl v i 6) (cl v i 7) (cl v i 8) (cl v i 9) (cl v i 10) (cl v i 11) (cl v i 12) (cl v i 13) (cl v i 14)):=by
 obtain ⟨o,R⟩:=q.i1 i hi;obtain ⟨h,S⟩:=q.i2 i hi;obtain ⟨T,h3⟩:=q.b3 i hi;obtain ⟨U,h4⟩:=q.b4 i hi;obtain ⟨w,V⟩:=q.i5 i hi;obtain ⟨r,W⟩:=q.i6 i hi;obtain ⟨E,X⟩:=q.i7 i hi;obtain ⟨t,A⟩:=q.i13 i hi;obtain ⟨y,J⟩:=q.i14 i hi;have e:EX v i↔EX' v i o h w r E t:=by unfold EX;rw [R,S,V,W,X,A];exact Iff.rfl
 have few:=q.few;have z:len (sb v 0 (i:Nat))=i:=by rw [Mt (by simp) (by simpa using Nat.le_of_lt hi)];simp
 rw [R,S,h3,h4,V,W,X,A,J]
 obtain ⟨B,g0,Y⟩:∃F,Pv v0 v1 v2 v3 v4 (.int v5) (.int (i:Nat)) v7 v (cl v i 0) (.int o) (.int h) (.bool T) (.bool U) (.int w) (.int r) (.int E) (cl v i 8) (cl v i 9) (cl v i 10) (cl v i 11) (cl v i 12) (.int t) (.int y)=F∧(L5 F∨(F=.row [.int 2]∧SZ v (cl v i 8) E i)):=
  ⟨_,rfl,cO (by omega) (by omega) Q (q.nil8 i hi) (by have:=q.len8 i hi;omega)⟩
 obtain ⟨F3,g3,H3⟩:∃F,Tt v0 v1 v2 v3 v4 (.int v5) (.int (i:Nat)) v7 v (cl v i 0) (.int o) (.int h) (.bool T) (.bool U) (.int w) (.int r) (.int E) (cl v i 8) (cl v i 9) (cl v i 10) (cl v i 11) (cl v i 12) (.int t) (.int y)=F∧FF F:=
  ⟨_,rfl,ci q (by omega) Q (by have:=q.len12 i hi;omega) (q.case i hi)⟩
 obtain ⟨G,g1,H1⟩:=jN (v0:=v0) (v1:=v1) (v2:=v2) (v3:=v3) (v4:=v4) (v5:=v5) (v7:=v7) (v8:=v) (v6:=(i:Nat)) (lo:=0) (hi:=IntKind.wrap .i64 ((ari .shl .i64 1 h)-1)) (n:=w) (m:=r);obtain ⟨H,g2,H2⟩:=UB (v0:=v0) (v1:=v1) (v2:=v2) (v3:=v3) (v4:=v4) (v5:=v5) (v7:=v7) (v8:=v) (v6:=(i:Nat)) (lo:=0) (hi:=IntKind.wrap .i64 ((ari .shl .i64 1 h)-1)) (n:=w);obtain ⟨F5,g5,H5⟩:=jN (v0:=v0) (v1:=v1) (v2:=v2) (v3:=v3) (v4:=v4) (v5:=v5) (v7:=v7) (v8:=v) (v6:=(i:Nat)) (lo:=0) (hi:=34359738367) (n:=w) (m:=r);obtain ⟨F7,g7,H7⟩:=UB (v0:=v0) (v1:=v1) (v2:=v2) (v3:=v3) (v4:=v4) (v5:=v5) (v7:=v7) (v8:=v) (v6:=(i:Nat)) (lo:=0) (hi:=4294967295) (n:=y);obtain ⟨F8,g8,H8⟩:=UB (v0:=v0) (v1:=v1) (v2:=v2) (v3:=v3) (v4:=v4) (v5:=v5) (v7:=v7) (v8:=v) (v6:=(i:Nat)) (lo:=2) (hi:=1048576) (n:=r);obtain ⟨I,g9,H9⟩:=UB (v0:=v0) (v1:=v1) (v2:=v2) (v3:=v3) (v4:=v4) (v5:=v5) (v7:=v7) (v8:=v) (v6:=(i:Nat)) (lo:=0) (hi:=1048576) (n:=r);obtain ⟨u,K,L⟩:=UB (v0:=v0) (v1:=v1) (v2:=v2) (v3:=v3) (v4:=v4) (v5:=v5) (v7:=v7) (v8:=v) (v6:=(i:Nat)) (lo:=0) (hi:=255) (n:=w);obtain ⟨aa,M,N⟩:=UB (v0:=v0) (v1:=v1) (v2:=v2) (v3:=v3) (v4:=v4) (v5:=v5) (v7:=v7) (v8:=v) (v6:=(i:Nat)) (lo:=1) (hi:=3) (n:=t);rw [fw _ _ _ _ _ _ _ _ _ _ _ _ _ _ _ _ _ _ _ _ _ _ _ _ g0 g1 g2 g3 (ax _) g5 (aW _) g7 g8 g9 K M,Ud,S3 (by rw [z];omega),S3 (by rw [z];omega)]
 refine qT rfl ?_;cases f:C9 (cl v i 0) with
 |false=>exact A1
 |true=>
  refine (?_:Q16 v i (cond true _ _));rw [cond_true,ifF (by omega),ifF (by omega)]
  refine qT rfl ?_;by_cases O:fld (sb v 0 (i:Nat)) (cl v i 0)<0
  ·have d:∀j,j<i→D.strEq (cl v j 0) (cl v i 0)=false:=fun j hj=>by
    have:=Pc (p:=fun j=>D.strEq (cl (sb v 0 (i:Nat)) j 0) (cl v i 0)) (k:=len (sb v 0 (i:Nat))) (i:=0) (j:=j) (by omega) (.inr ⟨O,by rw [z];omega⟩)
    simp only [Uc (Nat.le_of_lt hi) hj] at this;exact this
   refine qT O ?_;by_cases k1:o=1
   ·rw [ifT k1];refine qc (qT rfl (qc (qT rfl (qc ?_ A1)) A1)) A1;by_cases c1:h<1
    ·rw [ifT c1];exact A1
    ·rw [ifF c1];by_cases c2:32<h
     ·rw [ifT c2];exact A1
     ·rw [ifF c2];have ok:EX v i:=e.2 (by refine ⟨f,d,?_,?_,?_,?_,?_,?_⟩<;>intro s<;>first | (exfalso;omega)|exact ⟨by omega,by omega⟩)
      have fin:Q16 v i (cond (decide ((sl G 0).toInt=1)) (.row [.int 1,(sl G 1),(sl G 2),(.int 7)]) (cond (decide ((sl G 0).toInt=2)) (.row [.int 2]) (.row []))):=by
       rcases H1 with ⟨a,b,g⟩|⟨g,_⟩
       ·subst g;exact qT rfl A1
       ·subst g;exact qF (by show ¬(2:Int)=1;decide) (qT rfl (.inr ⟨rfl,ok⟩))
      exact qc (qc (qc fin A1) A1) fin
   ·rw [ifF k1];by_cases k2:o=2
    ·rw [ifT k2];refine qc (qT rfl (qc (qT rfl (qc ?_ A1)) A1)) A1;by_cases c1:h<1
     ·rw [ifT c1];exact A1
     ·rw [ifF c1];by_cases c2:32<h
      ·rw [ifT c2];exact A1
      ·rw [ifF c2];have ok:EX v i:=e.2 (by refine ⟨f,d,?_,?_,?_,?_,?_,?_⟩<;>intro s<;>first | (exfalso;omega)|exact ⟨by omega,by omega⟩)
       have fin:Q16 v i (cond (decide ((sl H 0).toInt=1)) (.row [.int 1,(sl H 1),(sl H 2),(.int 7)]) (cond (decide ((sl H 0).toInt=2)) (.row [.int 2]) (.row []))):=by
        rcases H2 with ⟨a,b,g⟩|⟨g,_⟩
        ·subst g;exact qT rfl A1
        ·subst g;exact qF (by show ¬(2:Int)=1;decide) (qT rfl (.inr ⟨rfl,ok⟩))
       exact qc (qc (qc fin A1) A1) fin
    ·rw [ifF k2];by_cases k3:o=3
     ·rw [ifT k3];refine qc (qT rfl (qc (qT rfl (qc ?_ A1)) A1)) A1;rcases H5 with ⟨a,b,g⟩|⟨g,l⟩
      ·subst g;exact qT rfl A1
      ·subst g;refine qF (by show ¬(2:Int)=1;decide) (qT rfl (.inr ⟨rfl,e.2 ?_⟩))
       refine ⟨f,d,?_,?_,?_,?_,?_,?_⟩<;>intro s<;>first | (exfalso;omega)|exact ⟨by omega,by omega,by omega⟩
     ·rw [ifF k3];by_cases k4:o=4
      ·rw [ifT k4];refine qc (qT rfl (qc ?_ A1)) A1;rcases Y with ⟨a,b,c,g⟩|⟨g,l⟩
       ·subst g;exact qT rfl A1
       ·subst g;refine qF (by show ¬(2:Int)=1;decide) (qT rfl (.inr ⟨rfl,e.2 ?_⟩))
        refine ⟨f,d,?_,?_,?_,?_,?_,?_⟩<;>intro s<;>first | (exfalso;omega)|exact l
      ·rw [ifF k4];by_cases k5:o=5
       ·rw [ifT k5];refine qc (qT rfl (qc (qT rfl (qc ?_ A1)) A1)) A1
        have Z:∀{x:D},(0≤r∧r≤1048576→Q16 v i x)→Q16 v i (cond (decide ((sl I 0).toInt=1)) (.row [.int 1,(sl I 1),(sl I 2),(.int 7)]) (cond (decide ((sl I 0).toInt=2)) x (.row []))):=fun P=>by
         rcases H9 with ⟨a,b,g⟩|⟨g,l⟩
         ·subst g;exact qT rfl A1
         ·subst g;exact qF (by show ¬(2:Int)=1;decide) (qT rfl (P l))
        have C:∀{x:D},Q16 v i x→Q16 v i (cond (decide ((sl u 0).toInt=1)) (.row [.int 1,(sl u 1),(sl u 2),(.int 7)]) (cond (decide ((sl u 0).toInt=2)) x (.row []))):=fun P=>by
         rcases L with ⟨a,b,g⟩|⟨g,l⟩
         ·subst g;exact qT rfl A1
         ·subst g;exact qF (by show ¬(2:Int)=1;decide) (qT rfl P)
        have ok:0≤r∧r≤1048576→Q16 v i (.row [.int 2]):=fun l=>.inr ⟨rfl,e.2 (by refine ⟨f,d,?_,?_,?_,?_,?_,?_⟩<;>intro s<;>first | (exfalso;omega)|exact l)⟩
        first|exact Z (fun l=>C (ok l))|exact C (Z fun l=>ok l)
       ·rw [ifF k5];by_cases k6:o=6
        ·rw [ifT k6];refine qc (qT rfl (qc (qT rfl (qc ?_ A1)) A1)) A1;rcases H8 with ⟨a,b,g⟩|⟨g,l⟩
         ·subst g;exact qT rfl A1
         ·subst g;refine qF (by show ¬(2:Int)=1;decide) (qT rfl (.inr ⟨rfl,e.2 ?_⟩))
          refine ⟨f,d,?_,?_,?_,?_,?_,?_⟩<;>intro s<;>first | (exfalso;omega)|exact ⟨by omega,by omega⟩
        ·rw [ifF k6]
         have r0:(o≠4∧o≠10∧o≠11)→Q16 v i (cond (decide ((sl B 0).toInt=1)) (.row [.int 1,(sl B 1),(sl B 2),(sl B 3)]) (cond (decide ((sl B 0).toInt=2)) (.row [.int 2]) (.row []))):=fun ab=>by
          rcases Y with ⟨a,b,c,g⟩|⟨g,l⟩
          ·subst g;exact qT rfl A1
          ·subst g;refine qF (by show ¬(2:Int)=1;decide) (qT rfl (.inr ⟨rfl,e.2 ?_⟩))
           refine ⟨f,d,?_,?_,?_,?_,?_,?_⟩<;>intro s<;>exfalso<;>omega
         by_cases k7:o=7
         ·rw [ifT k7];exact qc (qT rfl (qc (qc A1 (r0 (by omega))) A1)) A1
         ·rw [ifF k7];by_cases k8:o=8
          ·rw [ifT k8];refine qc (qT rfl (qc (qT rfl (qc (qc A1 (.inr ⟨rfl,e.2 ?_⟩)) A1)) A1)) A1;refine ⟨f,d,?_,?_,?_,?_,?_,?_⟩<;>intro s<;>exfalso<;>omega
          ·rw [ifF k8];by_cases k9:o=9
           ·rw [ifT k9];refine qc (qT rfl (qc ?_ A1)) A1;rcases H3 with ⟨a,b,c,g⟩|g
            ·subst g;exact qT rfl A1
            ·subst g;refine qF (by show ¬(2:Int)=1;decide) (qT rfl (.inr ⟨rfl,e.2 ?_⟩))
             refine ⟨f,d,?_,?_,?_,?_,?_,?_⟩<;>intro s<;>exfalso<;>omega
           ·rw [ifF k9];by_cases k10:o=10
            ·rw [ifT k10];refine qc (qT rfl (qc (qT rfl (qc ?_ A1)) A1)) A1;have ok:(h=2∨h=4∨(8≤h∧h≤512∧ari .rem .i64 h 8=0))→Q16 v i (.row [.int 2]):=fun l=>.inr ⟨rfl,e.2 (by refine ⟨f,d,?_,?_,?_,?_,?_,?_⟩<;>intro s<;>first | (exfalso;omega)|exact l)⟩
             by_cases c1:h=2
             ·rw [ifT c1];exact ok (.inl c1)
             ·rw [ifF c1];by_cases c2:h=4
              ·rw [ifT c2];exact ok (.inr (.inl c2))
              ·rw [ifF c2];by_cases c3:h<8
               ·rw [ifT c3];exact A1
               ·rw [ifF c3];by_cases c4:512<h
                ·rw [ifT c4];exact A1
                ·rw [ifF c4];by_cases c5:ari .rem .i64 h 8=0
                 ·rw [ifT c5];exact ok (.inr (.inr ⟨by omega,by omega,c5⟩))
                 ·rw [ifF c5];exact A1
            ·rw [ifF k10];by_cases k11:o=11
             ·rw [ifT k11];refine qc (qT rfl (qc (qT rfl (qc ?_ A1)) A1)) A1;rcases N with ⟨a,b,g⟩|⟨g,l⟩
              ·subst g;exact qT rfl A1
              ·subst g;refine qF (by show ¬(2:Int)=1;decide) (qT rfl (qT rfl (qc A1 (.inr ⟨rfl,e.2 ?_⟩))))
               refine ⟨f,d,?_,?_,?_,?_,?_,?_⟩<;>intro s<;>first | (exfalso;omega)|exact l
             ·rw [ifF k11];by_cases k12:o=12
              ·rw [ifT k12];refine qc (qT rfl (qc ?_ A1)) A1;rcases H7 with ⟨a,b,g⟩|⟨g,l⟩
               ·subst g;exact qT rfl A1
               ·subst g;exact qF (by show ¬(2:Int)=1;decide) (qT rfl (qc A1 (qc (r0 (by omega)) A1)))
              ·rw [ifF k12];exact A1
  ·exact qF O A1
end
end
end Mm
namespace Mm
open Go Go.AE
theorem W2 {M a b x:D}:upd (ad M (.row [a,b])) (len M:Int) 1 x=ad M (.row [a,x]):=by
 have h:∀l:List D,(l++[D.row [a,b]]).modify l.length (fun r=>D.row (r.cells.set 1 x))=l++[D.row [a,x]]:=fun l=>by
  induction l with
  |nil=>rfl
  |cons y l ih=>simp [List.modify_succ_cons,ih]
 show D.slc false ((M.rows++[D.row [a,b]]).modify (len M) _)=D.slc false _;rw [show len M=M.rows.length from rfl,h]
section
variable [Ax]
structure MM (M N:D):Prop where
 ints:∀r∈M.rows,∃x n,r=.row [x,.int n]
 bools:∀r∈N.rows,∃x b,r=.row [x,.bool b]
 same:∀k,mIx [.str] M (.row [k])<0↔mIx [.str] N (.row [k])<0
theorem MM.empty:MM Ap Ap:=⟨fun r hr=>(by cases hr),fun r hr=>(by cases hr),fun k=>Iff.rfl⟩
theorem Wa {M r s:D} (h:s∈(ad M r).rows):s∈M.rows∨s=r:=(List.mem_append.1 h).imp id List.mem_singleton.1
theorem MM.put {M N k:D} {n:Int} {b:Bool} (h:MM M N):MM (ad M (.row [k,.int n])) (ad N (.row [k,.bool b])):=by
 have h1:∀r∈M.rows,∃x l,r=.row (x::l):=fun r hr=>by obtain ⟨x,n,e⟩:=h.ints r hr;exact ⟨x,_,e⟩
 have h2:∀r∈N.rows,∃x l,r=.row (x::l):=fun r hr=>by obtain ⟨x,n,e⟩:=h.bools r hr;exact ⟨x,_,e⟩
 refine ⟨fun r hr=>(Wa hr).elim (h.ints r) fun e=>⟨_,_,e⟩,fun r hr=>(Wa hr).elim (h.bools r) fun e=>⟨_,_,e⟩,fun q=>?_⟩
 rw [OJ h1,OJ h2];have t:=h.same q;by_cases a1:0≤mIx [.str] M (.row [q])
 ·have I:0≤mIx [.str] N (.row [q]):=Int.not_lt.1 fun J=>absurd (t.2 J) (by omega)
  rw [if_pos a1,if_pos I];exact t
 ·have I:¬0≤mIx [.str] N (.row [q]):=fun J=>a1 (Int.not_lt.1 fun h3=>absurd (t.1 h3) (by omega))
  rw [if_neg a1,if_neg I];by_cases a2:D.strEq k q=true
  ·rw [if_pos a2,if_pos a2];constructor<;>intro _<;>omega
  ·rw [if_neg a2,if_neg a2]
theorem We {M:D} {i:Int} {c:Nat} (h0:0≤i) (b:i<len M):∃r∈M.rows,cl M i c=sl r c:=by
 obtain ⟨n,rfl⟩:=Int.eq_ofNat_of_zero_le h0;have a:n<M.rows.length:=by have:(n:Int)<len M:=b;unfold len at this;omega
 refine ⟨M.rows[n],List.getElem_mem a,?_⟩;have e:M.rows.getD n default=M.rows[n]:=by simp [List.getD_eq_getElem?_getD,a]
 show (M.rows.getD n default).cells.getD c default=(M.rows[n]).cells.getD c default;rw [e]
theorem MM.int {M N k:D} (h:MM M N) (hk:¬mIx [.str] M (.row [k])<0):∃n,cl M (mIx [.str] M (.row [k])) 1=.int n:=by
 have I:∀r∈M.rows,∃x l,r=.row (x::l):=fun r hr=>by obtain ⟨x,n,e⟩:=h.ints r hr;exact ⟨x,_,e⟩
 have t:mIx [.str] M (.row [k])<len M:=by
  rw [IF I];have:=Fs (p:=fun i=>D.strEq (cl M i 0) k) (k:=len M) (i:=0);omega
 obtain ⟨r,hr,e⟩:=We (c:=1) (by omega) t
 obtain ⟨x,n,J⟩:=h.ints r hr;exact ⟨n,by rw [e,J];rfl⟩
theorem MM.bool {M N k:D} (h:MM M N) (hk:¬mIx [.str] N (.row [k])<0):∃n,cl N (mIx [.str] N (.row [k])) 1=.bool n:=by
 have I:∀r∈N.rows,∃x l,r=.row (x::l):=fun r hr=>by obtain ⟨x,n,e⟩:=h.bools r hr;exact ⟨x,_,e⟩
 have t:mIx [.str] N (.row [k])<len N:=by
  rw [IF I];have:=Fs (p:=fun i=>D.strEq (cl N i 0) k) (k:=len N) (i:=0);omega
 obtain ⟨r,hr,e⟩:=We (c:=1) (by omega) t
 obtain ⟨x,n,J⟩:=h.bools r hr;exact ⟨n,by rw [e,J];rfl⟩
def R17 (d:D):Prop:=∃l,d=.row [.int 1,l]∧len l≤160
theorem W6 {v:D} (f:FT v):∀k i (a:D) (b:Bool),i+k=len v→len a≤10*i→R17 (I5 v (.int (i:Nat)) a (.bool b))
 |0,i,a,b,h,g=>by
  have few:=f.few;have:i=len v:=h;subst this;rw [ZZ,ifF (by omega)]
  exact ⟨_,rfl,by rw [VP];omega⟩
 |k+1,i,a,b,h,g=>by
  have few:=f.few;have o:=f.len12 i (by omega)
  have nx:∀c l,len c≤10*(i+1)→R17 (I5 v (.int ((i+1:Nat):Int)) c (.bool l)):=fun c l h'=>W6 f k (i+1) c l (by omega) h'
  have d:∀m j (a:D) (b:Bool),j+m=len (cl v i 12)→len a≤10*i+j→R17 (T7 v (.int (i:Nat)) (cl v i 12) (.int (len (cl v i 12):Int)) (.int (j:Nat)) a (.bool b)):=by
   intro m
   induction m with
   |zero=>
    intro j a b n g;rw [Zy,ifF (by omega),Bm (by omega)]
    exact nx a b (by omega)
   |succ m ih=>
    intro j a b n g;rw [Zy,ifT (by omega),ifF (by omega),ifT (by omega),ifT (by omega),Bm (by omega)]
    exact ih (j+1) _ false (by omega) (by rw [Dl];omega)
  have e:(len a:Int)<1073741824:=by omega
  rw [ZZ,ifT (by omega),ifF (by omega),Bm (by omega)]
  have st:=nx (ad a (.row [(cl v i 9)])) false (by rw [Dl];omega)
  exact qc (qT e st) (qc (qT e st) (qc (qT e st) (qc (d (len (cl v i 12)) 0 a b (by omega) (by omega)) (nx a b (by omega)))))
theorem bO {v0 v:D} (a:FT v):R17 (Jb v0 v):=by
 rw [jW];exact W6 a (len v) 0 Cv true (by omega) (by rw [LV];omega)
theorem Z6 {v k:D} (h:len v≤1000000):IsI (TU v k):=by
 rw [jq];refine tot (F:=fun j=>NN v k (.int (j:Nat))) (Q:=IsI) (n:=len v) ?_ ?_ (len v) 0 (by omega)
 ·refine (?_:IsI (NN v k (.int ((len v:Nat):Int))));rw [Zz,ifF (by omega)]
  exact ⟨_,rfl⟩
 ·intro j a ih;refine (?_:IsI (NN v k (.int ((j:Nat):Int))));rw [Zz,ifT (by omega),ifF (by omega),Bm (by omega)]
  exact qc ⟨_,rfl⟩ ih
def R19 (d:D):Prop:=∃b n,d=.row [.int 1,.bool b,.int n]
section
variable {v0 v1 v2 v7 v8:D} {v5 v6:Int}
theorem Xi {l M N:D} (d:MM M N) (g:len l≤1000):∀k i (b:Bool) (n:Int),i+k=len l→R19 (DA l (.int (i:Nat)) v0 v1 v2 (.int v5) (.int v6) v7 v8 M N (.bool b) (.int n))
 |0,i,b,n,h=>by
  have:i=len l:=h;subst this;rw [ZL,ifF (by omega)]
  exact ⟨_,_,rfl⟩
 |k+1,i,b,n,h=>by
  obtain ⟨z,j⟩:=Z6 (v:=sb l 0 (i:Nat)) (k:=cl l i 0) (by rw [Mt (by simp) (by simp;omega)];simp;omega)
  have nx:∀e f,R19 (DA l (.int ((i+1:Nat):Int)) v0 v1 v2 (.int v5) (.int v6) v7 v8 M N (.bool e) (.int f)):=fun e f=>Xi d g k (i+1) e f (by omega)
  rw [ZL,ifT (by omega),ifF (by omega),ifF (by omega),j,Bm (by omega)]
  refine qT rfl (qc ?_ (nx _ _));by_cases m1:mIx [.str] M (.row [cl l i 0])<0
  ·have m2:=(d.same _).1 m1;rw [ifT m1];exact qc (qc (qT m2 (nx _ _)) (nx _ _)) (qc (qT m2 (nx _ _)) (nx _ _))
  ·obtain ⟨a,m⟩:=d.int m1;have m2:¬mIx [.str] N (.row [cl l i 0])<0:=fun h=>m1 ((d.same _).2 h)
   obtain ⟨c,o⟩:=d.bool m2;rw [ifF m1,m,o];exact qc (qc (qF m2 (nx _ _)) (nx _ _)) (qc (qF m2 (nx _ _)) (nx _ _))
theorem aK {l M N:D} {b:Bool} {n:Int} (a:MM M N) (c:len l≤1000):R19 (H4 v0 v1 v2 M N (.int v5) (.int v6) v7 v8 (.bool b) (.int n) l):=by
 rw [iq];exact Xi a c (len l) 0 b n (by omega)
end
structure FO (v:D):Prop where
 ft:FT v
 ex:∀i,i<len v→EX v i
def Q20 (v d:D):Prop:=(∃a b c e x y M N,d=.row [.int 1,.int a,.int b,.int c,.int e,x,y,M,N])∨(∃x y M N,d=.row [.int 2,x,y,M,N]∧MM M N∧FO v)
section
variable {v0 v1 v2 v7 v8 nm:D} {v5 v6:Int}
theorem Vj {v M N:D} (r:MM M N) (f:FT v) (t:mIx [.str] M (.row [nm])<0):∀k i (z:Int) (b:Bool),i+k=len v→(∀j,j<i→EX v j)→Q20 v (NJ v (.int (i:Nat)) v0 v1 v2 (.int v5) (.int z) nm M N (.bool b))
 |0,i,z,b,h,d=>by
  have:i=len v:=h;subst this;obtain ⟨l,A,x⟩:=bO (v0:=nm) f;obtain ⟨m,B,u⟩:=aK (v0:=v0) (v1:=v1) (v2:=v2) (v5:=v5) (v6:=-1) (v7:=nm) (v8:=v) (b:=b) (n:=0) r (l:=l) (by omega)
  have o:H4 v0 v1 v2 M N (.int v5) (.int (-1)) nm v (.bool b) (.int 0) (sl (.row [.int 1,l]) 1)=.row [.int 1,.bool m,.int B]:=u;rw [ZW,ifF (by omega),A,o]
  refine qT rfl (qT rfl (qT t (qT ((r.same nm).1 t) (qc ?_ (.inl ⟨_,_,_,_,_,_,_,_,rfl⟩)))));refine .inr ⟨_,_,_,_,rfl,?_,⟨f,fun j y=>d j y⟩⟩
  rw [W2,W2];exact r.put
 |k+1,i,z,b,h,d=>by
  have few:=f.few
  have nx:∀(w:Int) (m:Bool),EX v i→Q20 v (NJ v (.int ((i+1:Nat):Int)) v0 v1 v2 (.int v5) (.int w) nm M N (.bool m)):=fun w m s=>Vj r f t k (i+1) w m (by omega) fun j y=>by
   rcases Nat.lt_or_ge j i with p|p
   ·exact d j p
   ·have:j=i:=by omega
    subst this;exact s
  have C:DN v i:=fun j q E F=>(d q F).new j E
  rw [ZW,ifT (by omega),ifF (by omega),Bm (by omega)]
  rcases bj (v0:=v0) (v1:=v1) (v2:=v2) (v3:=M) (v4:=N) (v5:=v5) (v7:=nm) f (i:=i) (by omega) C with ⟨a,c,e,g⟩|⟨g,s⟩
  ·rw [g];exact qT rfl (.inl ⟨_,_,_,_,_,_,_,_,rfl⟩)
  ·rw [g];refine qF (by show ¬(2:Int)=1;decide) (qT rfl (qc (nx _ _ s) (nx _ _ s)))
theorem bG {v M N:D} (c:MM M N) (b:FT v):Q20 v (DW v0 v1 v2 M N (.int v5) (.int v6) v7 v8 nm v):=by
 have few:=b.few;rw [eE,Ud];refine qT rfl (qc ?_ (.inl ⟨_,_,_,_,_,_,_,_,rfl⟩));by_cases a:mIx [.str] M (.row [nm])<0
 ·rw [ifT a];exact qc (.inl ⟨_,_,_,_,_,_,_,_,rfl⟩) (qc (.inl ⟨_,_,_,_,_,_,_,_,rfl⟩) (Vj c b a (len v) 0 (-1) true (by omega) fun j d=>absurd d (Nat.not_lt_zero _)))
 ·rw [ifF a];exact .inl ⟨_,_,_,_,_,_,_,_,rfl⟩
end
def Q21 (e d:D):Prop:=(∃c r,d=.row (.int 1::.int c::r))∨(∃a b c r,d=.row (.int 2::.int a::.int b::.int c::.bool true::r))∨
 (∃a b c r,d=.row (.int 2::.int a::.int b::.int c::.bool false::r)∧∀m:Nat,m<len e→FO (cl e m 1))
theorem Xz {d v2 n:D} (u:len d≤1000) (o:∀m:Nat,m<len d→FT (cl d m 1)):∀k i (z:Int) (x y M N:D),i+k=len d→MM M N→(∀m:Nat,m<i→FO (cl d m 1))→Q21 d (TO d (.int (i:Nat)) v2 n (.int z) x y M N)
 |0,i,z,x,y,M,N,h,p,j=>by
  have:i=len d:=h;subst this;rw [ZR,ifF (by omega)]
  exact qc (.inr (.inl ⟨_,_,_,_,rfl⟩)) (.inr (.inr ⟨_,_,_,_,rfl,j⟩))
 |k+1,i,z,x,y,M,N,h,p,j=>by
  rw [ZR,ifT (by omega),ifF (by omega),Bm (by omega)]
  rcases bG (v0:=v2) (v1:=d) (v2:=n) (v5:=(i:Nat)) (v6:=-1) (v7:=x) (v8:=y) (nm:=cl d i 0) p (o i (by omega)) with ⟨a,b,c,e,q,r,s,t,g⟩|⟨q,r,s,t,g,l,v⟩
  ·rw [g];exact qT rfl (.inr (.inl ⟨_,_,_,_,rfl⟩))
  ·rw [g];refine qF (by show ¬(2:Int)=1;decide) (qT rfl ?_)
   exact Xz u o k (i+1) _ q r s t (by omega) l fun m w=>by
    rcases Nat.lt_or_ge m i with f|f
    ·exact j m f
    ·have:m=i:=by omega
     subst this;exact v
theorem bk {v0 a v2:D} (b:len a≤1000) (c:∀m:Nat,m<len a→FT (cl a m 1)):Q21 a (IT v0 a v2):=by
 rw [jJ,Ud];refine qT rfl (qc ?_ (.inl ⟨_,_,rfl⟩));exact qc (.inl ⟨_,_,rfl⟩) (qc (.inl ⟨_,_,rfl⟩) (Xz b c (len a) 0 (-1) _ _ _ _ (by omega) MM.empty fun m d=>absurd d (Nat.not_lt_zero _)))
def Q22 (e d:D):Prop:=(∃a b c:Int,d=.row [.int 1,.int a,.int b,.int c,.bool true])∨(∃a b c:Int,d=.row [.int 1,.int a,.int b,.int c,.bool false]∧∀m:Nat,m<len e→FO (cl e m 1))
theorem aP {v0 ms v2:D} (d:len ms≤1000) (e:∀m:Nat,m<len ms→FT (cl ms m 1)):Q22 ms (Ih v0 ms v2):=by
 rw [iO];rcases bk (v0:=v0) (v2:=v2) d e with ⟨c,r,g⟩|⟨a,b,c,r,g⟩|⟨a,b,c,r,g,f⟩
 ·rw [g];exact qT rfl (.inl ⟨_,_,_,rfl⟩)
 ·rw [g];exact qF (by show ¬(2:Int)=1;decide) (qT rfl (.inl ⟨_,_,_,rfl⟩))
 ·rw [g];exact qF (by show ¬(2:Int)=1;decide) (qT rfl (.inr ⟨_,_,_,rfl,f⟩))
end
end Mm
namespace Mm
open Go Go.AE
theorem Cm {x y:Int} (a:y≠0) (h0:0≤x):ari .rem .i64 x y=x%y:=by
 have b:(y==0)=false:=by simpa using a
 have e:ari .rem .i64 x y=x.tmod y:=by
  show (match (match y==0 with|true=>none|false=>some (AV.int .i64 (x.tmod y))) with|some (.int _ n)=>n|_=>0)=_
  rw [b]
 rw [e,Int.tmod_eq_emod_of_nonneg h0]
theorem Im {x y:Int} (a:0<y) (h0:0≤x) (c:x<4611686018427387904):ari .quo .i64 x y=x/y:=by
 have b:(y==0)=false:=by simpa using Int.ne_of_gt a
 have e:ari .quo .i64 x y=IntKind.wrap .i64 (x.tdiv y):=by
  show (match (match y==0 with|true=>none|false=>some (AV.int .i64 (IntKind.wrap .i64 (x.tdiv y)))) with|some (.int _ n)=>n|_=>0)=_
  rw [b]
 have d:0≤x/y:=Int.ediv_nonneg h0 (Int.le_of_lt a);have f:x/y≤x:=Int.ediv_le_self _ h0;rw [e,Int.tdiv_eq_ediv_of_nonneg h0,Am (by omega) (by omega)]
def stp (k b o:Int):Int:=if k=1∨k=2 then (o+b)%8 else if k=10 then (if b=2 then ((o+1)/2*2)%8 else if b=4 then ((o+3)/4*4)%8 else 0) else 0
def bt (v:D) (i:Int):Int:=(cl v i 2).toInt
def off (v:D):Nat→Int
 |0=>0
 |i+1=>stp (kd v i) (bt v i) (off v i)
theorem TS {k b o:Int} (h:0≤o∧o≤7):0≤stp k b o∧stp k b o≤7:=by
 unfold stp
 repeat' split
 all_goals omega
theorem KM {v:D}:∀i,0≤off v i∧off v i≤7
 |0=>⟨Int.le_refl _,(by decide:(0:Int)≤7)⟩
 |i+1=>TS (KM i)
theorem ZI {o b:Int} (h:0≤o∧o≤7) (e:b=2∨b=4∨(8≤b∧b≤512∧ari .rem .i64 b 8=0)):ari .rem .i64 (IntKind.wrap .i64 ((ari .quo .i64 (IntKind.wrap .i64 ((IntKind.wrap .i64 (o+b))-1)) b)*b)) 8=stp 10 b o:=by
 have d:stp 10 b o=if b=2 then ((o+1)/2*2)%8 else if b=4 then ((o+3)/4*4)%8 else 0:=rfl
 have c:0<b:=by omega
 have f:b≤512:=by omega
 rw [Am (a:=o+b) (by omega) (by omega),Am (a:=o+b-1) (by omega) (by omega),Im c (by omega) (by omega),d]
 rcases e with rfl|rfl|⟨g,i,b3⟩
 ·rw [Am (by omega) (by omega),Cm (by decide) (by omega),if_pos rfl,show o+2-1=o+1 by omega]
 ·rw [Am (by omega) (by omega),Cm (by decide) (by omega),if_neg (by decide),if_pos rfl,show o+4-1=o+3 by omega]
 ·rw [Cm (by decide) (by omega)] at b3
  rw [if_neg (by omega),if_neg (by omega)]
  by_cases j:o=0
  ·have:(o+b-1)/b=0:=((Int.ediv_emod_unique c (q:=0) (r:=o+b-1)).2 ⟨by omega,by omega,by omega⟩).1
   rw [this,Int.zero_mul];rfl
  ·have:(o+b-1)/b=1:=((Int.ediv_emod_unique c (q:=1) (r:=o-1)).2 ⟨by omega,by omega,by omega⟩).1
   rw [this,Int.one_mul,Am (by omega) (by omega),Cm (by decide) (by omega),b3]
section
variable [Ax]
def R12 (d:D):Prop:=(∃x:Int,d=.row [.int 1,.int x])∨d=.row [.int 2]
theorem PN {v:D} {i q:Int} {n:Nat} {z:Int} (a:FO v) (hi:i=(n:Nat)) (c:n<len v) (d:i≠q):Ha (.int (off v n)) v (.int i) (.int q) (.int z)=Ha (.int (off v (n+1))) v (.int ((n+1:Nat):Int)) (.int q) (.int z):=by
 subst hi;have k12:kd v n=1∨kd v n=2→1≤bt v n∧bt v n≤32:=(a.ex n c).k12;have k10:kd v n=10→bt v n=2∨bt v n=4∨(8≤bt v n∧bt v n≤512∧ari .rem .i64 (bt v n) 8=0):=(a.ex n c).k10;have e:=KM (v:=v) n;have few:=a.ft.few;rw [SW,ifT (by omega),ifF (by omega),ifF d,Bm (by omega),off]
 have f:(cl v n 1).toInt=kd v n:=rfl;have b:(cl v n 2).toInt=bt v n:=rfl;rw [f,b];by_cases k1:kd v n=1
 ·have:=k12 (.inl k1);rw [ifT k1,Am (by omega) (by omega),Cm (by decide) (by omega),show stp (kd v n) (bt v n) (off v n)=(off v n+bt v n)%8 by unfold stp;rw [if_pos (.inl k1)]]
 ·rw [ifF k1];by_cases k2:kd v n=2
  ·have:=k12 (.inr k2);rw [ifT k2,Am (by omega) (by omega),Cm (by decide) (by omega),show stp (kd v n) (bt v n) (off v n)=(off v n+bt v n)%8 by unfold stp;rw [if_pos (.inr k2)]]
  ·rw [ifF k2];by_cases k3:kd v n=10
   ·have b:=k10 k3;rw [ifT k3,ifF (by omega),ZI e b,k3]
   ·rw [ifF k3,show stp (kd v n) (bt v n) (off v n)=0 by unfold stp;rw [if_neg (by omega),if_neg k3]]
theorem Vi {v:D} {q z:Int} (a:FO v):∀k n,n+k=len v→R12 (Ha (.int (off v n)) v (.int (n:Nat)) (.int q) (.int z))
 |0,n,h=>by
  have:n=len v:=h;subst this;rw [SW,ifF (by omega)]
  exact qc (.inl ⟨_,rfl⟩) (.inr rfl)
 |k+1,n,h=>by
  by_cases b:(n:Int)=q
  ·rw [SW,ifT (by omega),ifF (by omega),ifT b];exact .inl ⟨_,rfl⟩
  ·rw [PN a rfl (by omega) b];exact Vi a k (n+1) (by omega)
theorem Y8 {v:D} {q z:Int} (a:FO v):R12 (Cw (.int q) (.int z) v):=by
 rw [Zu];exact Vi a (len v) 0 (by omega)
theorem bh {v:D} {q:Nat} {z:Int} (a:FO v) (c:q≤len v):Cw (.int (q:Nat)) (.int z) v=.row [.int 1,.int (off v q)]:=by
 rw [Zu]
 have b:∀k n,n+k=q→Ha (.int (off v n)) v (.int (n:Nat)) (.int (q:Nat)) (.int z)=.row [.int 1,.int (off v q)]:=by
  intro k
  induction k with
  |zero=>
   intro n h;have:n=q:=h;subst this;rw [SW];by_cases d:n<len v
   ·rw [ifT (by omega),ifF (by omega),ifT rfl]
   ·rw [ifF (by omega),ifT (by omega)]
  |succ k ih=>
   intro n h;rw [PN a rfl (by omega) (by omega)]
   exact ih (n+1) (by omega)
 exact b q 0 (by omega)
theorem VK {v:D} {i:Nat} {o:Int} (a:FO v) (hi:i≤len v):IsB (Eh v (.int (i:Nat)) (.int o)):=by
 have few:=a.ft.few;rw [ig,S3 (by omega)]
 refine (?_:IsB (cond (decide ((i:Int)=len v)) _ (cond _ _ (cond _ (cond _ (cond _ (cond _ (cond _ (cond (decide ((sl (Cw (.int 0) (.int 0) v) 0).toInt=1)) _ _) _) (cond _ (cond (decide ((sl (Cw (.int (fld v (cl v i 11))) (.int 0) v) 0).toInt=1)) _ _) _)) _) _) _))))
 have t1:∀(q:Int),IsB (cond (decide ((sl (Cw (.int q) (.int 0) v) 0).toInt=1)) (cond (decide ((sl (Cw (.int q) (.int 0) v) 1).toInt=0)) (.row [.int 1,(.bool false)]) (.row [.int 1,(.bool true)])) (cond (decide ((sl (Cw (.int q) (.int 0) v) 0).toInt=2)) (.row [.int 1,(.bool false)]) (.row []))):=fun q=>by
  rcases Y8 (q:=q) (z:=0) a with ⟨x,g⟩|g
  ·rw [g];exact qT rfl (qc ⟨_,rfl⟩ ⟨_,rfl⟩)
  ·rw [g];exact qF (by show ¬(2:Int)=1;decide) (qT rfl ⟨_,rfl⟩)
 by_cases h:(i:Int)=len v
 ·exact qT h ⟨_,rfl⟩
 ·refine qF h (qF (by omega) (qT (by omega) (qc (qT rfl (qc (qc (t1 _) ⟨_,rfl⟩) (qc (t1 _) ⟨_,rfl⟩))) ?_)))
  have t2:IsB (cond (decide ((sl (.row [.int 1,.int (fld v (cl v i 11))]) 0).toInt=1)) (cond (decide ((sl (.row [.int 1,.int (fld v (cl v i 11))]) 1).toInt<0)) (.row [.int 1,(.bool false)]) (.row [.int 1,(.bool false)])) (.row [])):=qT rfl (qc ⟨_,rfl⟩ ⟨_,rfl⟩);exact qc (qc ⟨_,rfl⟩ t2) (qc (qc ⟨_,rfl⟩ t2) (qc (qc ⟨_,rfl⟩ t2) ⟨_,rfl⟩))
def R26 (d:D):Prop:=(∃a b:Int,d=.row [.int 1,.int a,.int b,.bool true])∨d=.row [.int 2,.bool false]
theorem Wx {v l:D} {a b c z:Int} (d:FO v):∀k n (t:Bool) (o:Int),n+k=len v→0≤o∧o≤7→R26 (Ew (.int o) v (.int (n:Nat)) (.int a) (.int b) (.int c) (.bool t) (.int z) l v)
 |0,n,t,o,h,f=>by
  have:n=len v:=h;subst this;obtain ⟨x,g⟩:=VK (i:=len v) (o:=o) d (Nat.le_refl _);rw [Zs,ifF (by omega),g]
  refine qT rfl ?_;cases x with
  |true=>
   refine (?_:R26 (cond true _ _));rw [cond_true];exact qc (.inl ⟨_,_,rfl⟩) (.inl ⟨_,_,rfl⟩)
  |false=>exact .inr rfl
 |k+1,n,t,o,h,f=>by
  have few:=d.ft.few;have k12:kd v n=1∨kd v n=2→1≤bt v n∧bt v n≤32:=(d.ex n (by omega)).k12
  have k10:kd v n=10→bt v n=2∨bt v n=4∨(8≤bt v n∧bt v n≤512∧ari .rem .i64 (bt v n) 8=0):=(d.ex n (by omega)).k10
  obtain ⟨x,g⟩:=VK (i:=n) (o:=o) d (by omega)
  rw [Zs,ifT (by omega),ifF (by omega),g,Bm (by omega)]
  refine qT rfl ?_;cases x with
  |true=>
   refine (?_:R26 (cond true _ _));rw [cond_true];exact qc (.inl ⟨_,_,rfl⟩) (.inl ⟨_,_,rfl⟩)
  |false=>
   refine (?_:R26 (cond false _ (cond (decide (kd v n=1)) (Ew _ _ _ _ _ _ (.bool false) _ _ _) (cond (decide (kd v n=2)) (Ew _ _ _ _ _ _ (.bool false) _ _ _) (cond (decide (kd v n=10)) (cond (decide (bt v n=0)) _ (Ew _ _ _ _ _ _ (.bool false) _ _ _)) (Ew _ _ _ _ _ _ (.bool false) _ _ _))))));rw [cond_false];have nx:∀e,0≤e∧e≤7→R26 (Ew (.int e) v (.int ((n+1:Nat):Int)) (.int a) (.int b) (.int c) (.bool false) (.int z) l v):=fun e j=>Wx d k (n+1) false e (by omega) j
   have m:kd v n=1∨kd v n=2→ari .rem .i64 (IntKind.wrap .i64 (o+bt v n)) 8=(o+bt v n)%8:=fun p=>by
    have:=k12 p;rw [Am (by omega) (by omega),Cm (by decide) (by omega)]
   by_cases k1:kd v n=1
   ·refine qT k1 ?_;show R26 (Ew (.int (ari .rem .i64 (IntKind.wrap .i64 (o+bt v n)) 8)) _ _ _ _ _ _ _ _ _);rw [m (.inl k1)];exact nx _ (by omega)
   ·refine qF k1 ?_;by_cases k2:kd v n=2
    ·refine qT k2 ?_;show R26 (Ew (.int (ari .rem .i64 (IntKind.wrap .i64 (o+bt v n)) 8)) _ _ _ _ _ _ _ _ _);rw [m (.inr k2)];exact nx _ (by omega)
    ·refine qF k2 ?_;by_cases k3:kd v n=10
     ·have q:bt v n=2∨bt v n=4∨(8≤bt v n∧bt v n≤512∧ari .rem .i64 (bt v n) 8=0):=k10 k3;refine qT k3 (qF (by omega) ?_)
      show R26 (Ew (.int (ari .rem .i64 (IntKind.wrap .i64 ((ari .quo .i64 (IntKind.wrap .i64 ((IntKind.wrap .i64 (o+bt v n))-1)) (bt v n))*(bt v n))) 8)) _ _ _ _ _ _ _ _ _);rw [ZI f q];exact nx _ (TS f)
     ·exact qF k3 (nx 0 (by omega))
theorem FV {v nm:D} {a b c z:Int} {t:Bool} (d:FO v):R26 (Gd (.int a) (.int b) (.int c) (.bool t) (.int z) nm v v):=by
 rw [fX];exact Wx d (len v) 0 t 0 (by omega) (by omega)
end
end Mm
namespace Mm
open Go Go.AE
section
variable [Ax]
theorem ko {v:D} (h:∀i,i<len v→EX v i) {n:Nat} (b:n≤len v):DN v n:=fun j k a c=>(h k (by omega)).new j a
theorem O8 {v nm:D} {i:Nat} (h:0≤ixM (AK v i) nm):∀n,i≤n→ixM (AK v n) nm=ixM (AK v i) nm∧(∀c,cl (AK v n) (ixM (AK v i) nm) c=cl (AK v i) (ixM (AK v i) nm) c)∧len (AK v i)≤len (AK v n)
 |0,d=>by
  have:i=0:=by omega
  subst this;exact ⟨rfl,fun _=>rfl,Nat.le_refl _⟩
 |n+1,d=>by
  by_cases e:i=n+1
  ·subst e;exact ⟨rfl,fun _=>rfl,Nat.le_refl _⟩
  ·obtain ⟨a,b,f⟩:=O8 h n (by omega)
   have j:ixM (AK v i) nm<len (AK v i):=by
    rcases D7 (v:=v) (nm:=nm) i with ⟨g,_⟩|⟨_,_,_,_,_,g,_⟩
    ·exact absurd h (by unfold ixM;omega)
    ·exact g
   rw [AK];cases Mn (kd v n) with
   |false=>exact ⟨a,b,f⟩
   |true=>
    simp only [cond_true];refine ⟨?_,fun c=>?_,by rw [Dl];omega⟩
    ·show mIx [.str] _ _=_;rw [OJ (FJ (v:=v) n)];have:mIx [.str] (AK v n) (.row [nm])=ixM (AK v i) nm:=a;rw [this,if_pos h]
    ·rw [If h,if_neg (by omega)];exact b c
theorem SZ.up {v t:D} {base:Int} {i n:Nat} (h:SZ v t base i) (r:i≤n):SZ v t base n:=by
 refine ⟨h.lo,h.hi,h.few,h.terms,fun j l=>?_,fun j l=>?_,h.run⟩
 ·have:=h.known j l;rw [(O8 this n r).1];exact this
 ·have J:=h.known j l;obtain ⟨h1,I,_⟩:=O8 J n r;obtain ⟨r1,r2,r3⟩:=h.right j l;unfold RO loM hiM at *;rw [h1,I 1,I 2];exact ⟨r1,r2,r3⟩
theorem Q1 {n:Nat}:∀k i (x:Int) (a:D) (b:Bool),i+k=n→n≤100→len a=i→0≤x→x<4611686018427387904→∃l f,PZ (.int x) (.int (n:Nat)) a (.bool b) (.int (i:Nat))=.row [.int 1,l,.bool f,.bool (decide (x/128^k=0))]∧len l=n
 |0,i,x,a,b,h,d,g,e,j=>by
  rw [ZS,ifF (by omega)]
  refine ⟨a,b,?_,by omega⟩
  rw [show (128:Int)^0=1 from rfl,Int.ediv_one]
 |k+1,i,x,a,b,h,d,g,e,j=>by
  have m:x/128/128^k=x/128^(k+1):=by
   rw [Int.ediv_ediv_of_nonneg (by decide),Int.pow_succ,Int.mul_comm]
  rw [ZS,ifT (by omega),Bm (by omega),Im (by decide) e (by omega),←m]
  by_cases c:(i:Int)<IntKind.wrap .i64 ((n:Nat)-1)
  ·rw [ifT c,ifT (by omega)]
   exact Q1 k (i+1) (x/128) _ false (by omega) d (by rw [Dl];omega) (by omega) (by omega)
  ·rw [ifF c,ifT (by omega)]
   exact Q1 k (i+1) (x/128) _ false (by omega) d (by rw [Dl];omega) (by omega) (by omega)
theorem Rg {n:Nat} {x:Int} (a:n≤100) (b:0≤x) (c:x<4611686018427387904):∃l d,NP (.int x) (.int (n:Nat))=.row [.int 1,l,.bool d,.bool (decide (x/128^n=0))]∧len l=n:=by
 rw [dr];exact Q1 n 0 x Cv true (by omega) a rfl b c
theorem Ll {x:Int} (e:0≤x) (f:x<34359738368) {X:D}:∀k n (a:D) (b:Bool),n+k=6→1≤len a→len a≤n→cl a 0 0=X→∃l g,IZ (.int x) a (.bool b) (.int (n:Nat))=.row [.int 1,l,.bool g]∧0<len l∧cl l 0 0=X
 |0,n,a,b,h,i,j,d=>by
  rw [TT,ifT (by omega)];exact ⟨a,b,rfl,by omega,d⟩
 |k+1,n,a,b,h,i,j,d=>by
  obtain ⟨l,g,m,_⟩:=Rg (n:=n) (x:=x) (by omega) e (by omega)
  rw [TT,ifF (by omega),ifF (by omega),ifT f,m,Bm (by omega)]
  refine (?_:∃p o,cond (decide ((1:Int)=1)) (cond (decide (x/128^n=0)) _ _) _=_∧_∧_)
  rw [ifT rfl];by_cases c:x/128^n=0
  ·rw [ifT c,ifT (by omega)]
   exact Ll e f k (n+1) _ false (by omega) (by rw [Dl];omega) (by rw [Dl];omega) (by rw [If (by decide),if_neg (by omega)];exact d)
  ·rw [ifF c];exact Ll e f k (n+1) a b (by omega) i (by omega) d
theorem HV {x:Int} {n:Nat} {b:Bool} (a:0≤x) (d:x<34359738368) (f:n≤5) (c:¬x/128^n=0):IZ (.int x) Cv (.bool b) (.int (n:Nat))=IZ (.int x) Cv (.bool b) (.int ((n+1:Nat):Int)):=by
 obtain ⟨l,g,e,_⟩:=Rg (n:=n) (x:=x) (by omega) a (by omega)
 rw [TT,ifF (by omega),ifF (by omega),ifT d,e,Bm (by omega)]
 refine (?_:cond (decide ((1:Int)=1)) (cond (decide (x/128^n=0)) _ _) _=_);rw [ifT rfl,ifF c]
theorem I9 {x:Int} {n:Nat} {b:Bool} (f:0≤x) (g:x<34359738368) (r:1≤n) (h:n≤5) (c:x/128^n=0):∃l d,IZ (.int x) Cv (.bool b) (.int (n:Nat))=.row [.int 1,l,.bool d]∧0<len l∧len (cl l 0 0)=n:=by
 obtain ⟨l,d,i,a⟩:=Rg (n:=n) (x:=x) (by omega) f (by omega)
 obtain ⟨k,j⟩:∃k,n+1+k=6:=⟨5-n,by omega⟩
 obtain ⟨m,e,o,p,q⟩:=Ll f g k (n+1) (ad Cv (.row [ni l d])) false j (by rw [Dl];omega) (by rw [Dl,LV];omega) (X:=ni l d) rfl
 refine ⟨m,e,?_,p,by rw [q,VP];exact a⟩
 rw [TT,ifF (by omega),ifF (by omega),ifT g,i,Bm (by omega)]
 refine (?_:cond (decide ((1:Int)=1)) (cond (decide (x/128^n=0)) _ _) _=_);rw [ifT rfl,ifT c,ifT (by rw [LV];decide)]
 exact o
def vb (x:Int):Nat:=if x<128 then 1 else if x<16384 then 2 else if x<2097152 then 3 else if x<268435456 then 4 else 5
theorem bR {x:Int} (a:0≤x) (b:x<34359738368):∃l c,QJ (.int x)=.row [.int 1,l,.bool c]∧0<len l∧len (cl l 0 0)=vb x:=by
 rw [dG];refine (?_:∃l c,IZ (.int x) Cv (.bool true) (.int ((1:Nat):Int))=_∧_∧_)
 unfold vb;have p1:x/128^1=x/128:=rfl;have p2:x/128^2=x/16384:=rfl;have p3:x/128^3=x/2097152:=rfl;have p4:x/128^4=x/268435456:=rfl;have p5:x/128^5=x/34359738368:=rfl;by_cases c1:x<128
 ·rw [if_pos c1];exact I9 a b (by decide) (by decide) (by rw [p1];omega)
 ·rw [if_neg c1,HV a b (by decide) (by rw [p1];omega)]
  by_cases c2:x<16384
  ·rw [if_pos c2];exact I9 a b (by decide) (by decide) (by rw [p2];omega)
  ·rw [if_neg c2,HV a b (by decide) (by rw [p2];omega)]
   by_cases c3:x<2097152
   ·rw [if_pos c3];exact I9 a b (by decide) (by decide) (by rw [p3];omega)
   ·rw [if_neg c3,HV a b (by decide) (by rw [p3];omega)]
    by_cases c4:x<268435456
    ·rw [if_pos c4];exact I9 a b (by decide) (by decide) (by rw [p4];omega)
    ·rw [if_neg c4,HV a b (by decide) (by rw [p4];omega)]
     exact I9 a b (by decide) (by decide) (by rw [p5];omega)
theorem KW {x:Int}:ari .shr .i64 x 7=x/128:=by
 have e:ari .shr .i64 x 7=x.fdiv (2^7):=rfl;rw [e,Int.fdiv_eq_ediv_of_nonneg _ (by decide)];rfl
end
def Jv (c o:Int):Int:=(o+c-1)/c*c-o
section
variable [Ax]
variable {v0 v9 v10 v11 v12 v13:D} {v3 v7 v8 v14 v15:Int} {v5 v6:Bool}
theorem St {k:Int} {b o:Int} (d:0≤o∧o≤7) (a:b=2∨b=4):∀n (w:Nat),w+n=8→(w:Int)≤Jv b o→NX (.int o) (.int (w:Nat)) v0 (.int k) (.int b) (.bool v5) (.bool v6) (.int v7) (.int v8) (.int v3) v9 v10 v11 v12 v13 (.int v14) (.int v15)=.row [.int 1,.int (Jv b o)]
 |n,w,h,f=>by
  have e:Jv b o=(o+b-1)/b*b-o:=rfl
  have hr:ari .rem .i64 (IntKind.wrap .i64 (o+w)) b=(o+w)%b:=by
   rw [Am (by omega) (by omega),Cm (by omega) (by omega)]
  rw [ZO,ifT (by omega),ifF (by omega),hr]
  by_cases c:(o+w)%b=0
  ·rw [ifT c,ifF (by rw [Am (by omega) (by omega)];omega),Int.add_zero,Am (by omega) (by omega)]
   have:(w:Int)=Jv b o:=by rcases a with rfl|rfl<;>omega
   rw [this]
  ·rw [ifF c];cases n with
   |zero=>exfalso;rcases a with rfl|rfl<;>omega
   |succ n=>
    rw [show IntKind.wrap .i64 ((w:Int)+1)=((w+1:Nat):Int) from Bm (by omega)]
    exact St d a n (w+1) (by omega) (by rcases a with rfl|rfl<;>omega)
theorem WC {k:Int} {b o:Int} (d:0≤o∧o≤7) (e:8≤b∧b≤512):∀n (w:Nat),w+n=8→(w:Int)≤Jv 8 o→NX (.int o) (.int (w:Nat)) v0 (.int k) (.int b) (.bool v5) (.bool v6) (.int v7) (.int v8) (.int v3) v9 v10 v11 v12 v13 (.int v14) (.int v15)=.row [.int 1,.int (Jv 8 o+(b-8))]
 |n,w,h,g=>by
  have f:Jv 8 o=(o+8-1)/8*8-o:=rfl
  have hr:ari .rem .i64 (IntKind.wrap .i64 (o+w)) 8=(o+w)%8:=by
   rw [Am (by omega) (by omega),Cm (by omega) (by omega)]
  have a:IntKind.wrap .i64 (b-8)=b-8:=Am (by omega) (by omega)
  rw [ZO,ifF (by omega),hr,a]
  by_cases c:(o+w)%8=0
  ·have:(w:Int)=Jv 8 o:=by omega
   rw [ifT c];by_cases c8:0<b-8
   ·rw [ifT c8,Am (by omega) (by omega),this]
   ·rw [ifF c8,Int.add_zero,Am (by omega) (by omega),this,show b-8=0 by omega,Int.add_zero]
  ·rw [ifF c];cases n with
   |zero=>exfalso;omega
   |succ n=>
    rw [show IntKind.wrap .i64 ((w:Int)+1)=((w+1:Nat):Int) from Bm (by omega)]
    exact WC d e n (w+1) (by omega) (by omega)
end
end Mm
namespace Mm
open Go Go.AE
section
variable [Ax]
theorem ww {y:Int}:IntKind.wrap .i64 (IntKind.wrap .i64 (y+8)-1)=IntKind.wrap .i64 (y+7):=by
 have e:∀a:Int,IntKind.wrap .i64 a=if a%18446744073709551616≥9223372036854775808 then a%18446744073709551616-18446744073709551616 else a%18446744073709551616:=fun a=>by
  show (if (true&&decide (a%(2^64:Int)≥2^63))=true then a%(2^64:Int)-2^64 else a%(2^64:Int))=_
  simp only [Bool.true_and,decide_eq_true_eq];rfl
 rw [e,e,e]
 repeat' split
 all_goals omega
theorem Yk {v a:D} {i:Nat} {o m:Int} (E:FO v) (hi:i<len v) (F:0≤o∧o≤7):∃z:Int,
  CQ a v (.int m) (cl v i 0) (cl v i 1) (cl v i 2) (cl v i 3) (cl v i 4) (cl v i 5) (cl v i 6) (cl v i 7) (cl v i 8) (cl v i 9) (cl v i 10) (cl v i 11) (cl v i 12) (cl v i 13) (cl v i 14) (.int o)=.row [.int 1,.int z]∧
  Qs a v (cl v i 0) (cl v i 1) (cl v i 2) (cl v i 3) (cl v i 4) (cl v i 5) (cl v i 6) (cl v i 7) (cl v i 8) (cl v i 9) (cl v i 10) (cl v i 11) (cl v i 12) (cl v i 13) (cl v i 14) (.int o)=.row [.int 1,.int z]:=by
 have f:=E.ft;have few:=f.few;have G:=E.ex i hi;have l8:=f.len8 i hi;have Q:=f.nil8 i hi;obtain ⟨k,R⟩:=f.i1 i hi;obtain ⟨p,S⟩:=f.i2 i hi;obtain ⟨n3,W⟩:=f.b3 i hi;obtain ⟨X,Y⟩:=f.b4 i hi;obtain ⟨Z,T⟩:=f.i5 i hi;obtain ⟨e,U⟩:=f.i6 i hi;obtain ⟨s,V⟩:=f.i7 i hi;obtain ⟨d,y⟩:=f.i13 i hi;obtain ⟨aa,H⟩:=f.i14 i hi;unfold EX at G;rw [R,S,T,U,V,y] at G;have I:EX' v i k p Z e s d:=G;obtain ⟨_,_,k12,J,K,k56,A,B⟩:=I;rw [R,S,W,Y,T,U,V,y,H];by_cases k1:k=1
 ·exact ⟨p,by rw [Ga,ifT k1],by rw [Gb,ifT k1]⟩
 by_cases k2:k=2
 ·exact ⟨p,by rw [Ga,ifF k1,ifT k2],by rw [Gb,ifF k1,ifT k2]⟩
 by_cases k3:k=3
 ·obtain ⟨q1,q2,q3⟩:=J k3;cases X with
  |true=>exact ⟨40,by rw [Ga,ifF k1,ifF k2,ifT k3];rfl,by rw [Gb,ifF k1,ifF k2,ifT k3];rfl⟩
  |false=>
   refine ⟨8*(vb e:Nat),?_,?_⟩
   ·rw [Ga,ifF k1,ifF k2,ifT k3,cond_false,ifF (by omega),ifT (by omega),KW,KW,KW,KW]
    unfold vb;by_cases c1:e<128
    ·rw [ifT c1,if_pos c1];rfl
    ·rw [ifF c1,if_neg c1];by_cases c2:e<16384
     ·rw [ifT (by omega),if_pos c2];rfl
     ·rw [ifF (by omega),if_neg c2]
      by_cases c3:e<2097152
      ·rw [ifT (by omega),if_pos c3];rfl
      ·rw [ifF (by omega),if_neg c3]
       by_cases c4:e<268435456
       ·rw [ifT (by omega),if_pos c4];rfl
       ·rw [ifF (by omega),if_neg c4,ifT (by omega)];rfl
   ·obtain ⟨l,b',g1,g2,g3⟩:=bR (x:=e) (by omega) (by omega)
    rw [Gb,ifF k1,ifF k2,ifT k3,cond_false,ifF (by omega),ifT (by omega),g1]
    refine (?_:cond (decide ((1:Int)=1)) (cond (decide (0<(len l:Int))) (D.row [D.int 1,D.int (IntKind.wrap .i64 (8*(len (cl l 0 0):Int)))]) _) _=_)
    have ab:vb e≤5:=by
     unfold vb
     repeat' split
     all_goals decide
    rw [ifT rfl,ifT (by omega),g3,Am (by omega) (by omega)]
 by_cases k4:k=4
 ·have g:=(K k4).up (n:=len v) (Nat.le_of_lt hi);have C:=ko E.ex (Nat.le_refl (len v));have h9:Bt v=.row [.int 1,AK v (len v)]:=Zt (by omega) C
  have w:len (cl v i 8)≤1000000:=by omega
  refine ⟨IntKind.wrap .i64 (8*IQ (AK v (len v)) (cl v i 8) s (len (cl v i 8))),?_,?_⟩
  ·have s1:=g.lo;have s2:=g.hi;have s3:=g.few;rw [Ga,ifF k1,ifF k2,ifF k3,ifT k4,h9];refine (?_:cond (decide ((1:Int)=1)) (cond (decide (s < -1048576)) _ (cond (decide ((sl (Bv (l2 (!decide (1048576<s)) (!decide (4<(len (cl v i 8):Int)))) (.bool false) (.bool false)) 0).toInt=1)) (cond (decide ((sl (Bv (l2 (!decide (1048576<s)) (!decide (4<(len (cl v i 8):Int)))) (.bool false) (.bool false)) 1).toInt<0)) _ _) _)) _=_);rw [ifT rfl,ifF (by omega),Vg,B8,decide_eq_false (by omega:¬1048576<s),decide_eq_false (by omega:¬4<(len (cl v i 8):Int)),ifT (by show (-1:Int)<0;decide)]
   obtain ⟨r,mm,g8,hr⟩:=g.run;rw [g8];refine (?_:cond (decide ((1:Int)=1)) (cond (decide (r<0)) (cond (cl v i 8).isNil _ _) _) _=_);rw [ifT rfl,ifT hr];obtain ⟨z1,L⟩:=RP (t:=cl v i 8) (M:=AK v (len v)) (base:=s) (c:=true) w;have N:=Z9 (t:=cl v i 8) (M:=AK v (len v)) (base:=s) w g.known;rw [show sl (D.row [.int 1,AK v (len v)]) 1=AK v (len v) from rfl,L,N]
   cases hN:(cl v i 8).isNil with
   |true=>
    rw [cond_true];rcases N7 (t:=Cv) (M:=AK v (len v)) (b:=true) (by decide) (fun j h=>absurd h (Nat.not_lt_zero _)) (fun j h=>absurd h (Nat.not_lt_zero _)) with ⟨u,u2⟩|⟨u,_⟩
    ·exact absurd (fun j h=>absurd h (Nat.not_lt_zero _)) u2
    ·rw [u];rfl
   |false=>
    rw [cond_false,ifT (by omega)]
    simp only [Bool.false_and];rcases N7 (t:=ct Ap (cl v i 8)) (M:=AK v (len v)) (b:=false) (by rw [EU];omega) (fun j h=>by rw [Mf];exact g.known j (by rw [←EU];exact h)) (fun j h=>by rw [Mf];exact (g.terms j (by rw [←EU];exact h)).name) with ⟨u,u2⟩|⟨u,_⟩
    ·exact absurd (fun j h=>by rw [Mf];exact g.right j (by rw [←EU];exact h)) u2
    ·rw [u];rfl
  ·rw [Gb,ifF k1,ifF k2,ifF k3,ifT k4,bw (by omega) w C g.terms g.known g.right]
   rfl
 by_cases k5:k=5
 ·have q:=k56 (.inl k5);refine ⟨8*e+8,?_,?_⟩
  ·rw [Ga,ifF k1,ifF k2,ifF k3,ifF k4,ifT k5,Am (a:=e+1) (by omega) (by omega),Am (by omega) (by omega),show 8*(e+1)=8*e+8 by omega]
  ·rw [Gb,ifF k1,ifF k2,ifF k3,ifF k4,ifT k5,Am (a:=8*e) (by omega) (by omega),Am (by omega) (by omega)]
 by_cases k6:k=6
 ·exact ⟨_,by rw [Ga,ifF k1,ifF k2,ifF k3,ifF k4,ifF k5,ifT k6],by rw [Gb,ifF k1,ifF k2,ifF k3,ifF k4,ifF k5,ifT k6]⟩
 by_cases k10:k=10
 ·rcases A k10 with rfl|rfl|⟨b1,b2,b3⟩
  ·refine ⟨Jv 2 o,?_,?_⟩
   ·rw [Ga,ifF k1,ifF k2,ifF k3,ifF k4,ifF k5,ifF k6,ifT k10,ifT (by decide),ifT rfl,ifF (by omega),ifF (by omega),ifF (by decide),Am (a:=o+2) (by omega) (by omega),Am (a:=o+2-1) (by omega) (by omega),Im (by decide) (by omega) (by omega),Am (a:=(o+2-1)/2*2) (by omega) (by omega),Am (a:=(o+2-1)/2*2-o) (by omega) (by omega),Int.add_zero,Am (by omega) (by omega)]
    rfl
   ·rw [Gb,ifF k1,ifF k2,ifF k3,ifF k4,ifF k5,ifF k6,ifT k10];exact St F (.inl rfl) 8 0 rfl (by show (0:Int)≤(o+2-1)/2*2-o;omega)
  ·refine ⟨Jv 4 o,?_,?_⟩
   ·rw [Ga,ifF k1,ifF k2,ifF k3,ifF k4,ifF k5,ifF k6,ifT k10,ifT (by decide),ifF (by decide),ifT rfl,ifF (by omega),ifF (by omega),ifF (by decide),Am (a:=o+4) (by omega) (by omega),Am (a:=o+4-1) (by omega) (by omega),Im (by decide) (by omega) (by omega),Am (a:=(o+4-1)/4*4) (by omega) (by omega),Am (a:=(o+4-1)/4*4-o) (by omega) (by omega),Int.add_zero,Am (by omega) (by omega)]
    rfl
   ·rw [Gb,ifF k1,ifF k2,ifF k3,ifF k4,ifF k5,ifF k6,ifT k10];exact St F (.inr rfl) 8 0 rfl (by show (0:Int)≤(o+4-1)/4*4-o;omega)
  ·have O:Jv 8 o=(o+8-1)/8*8-o:=rfl;have P:IntKind.wrap .i64 (p-8)=p-8:=Am (by omega) (by omega)
   refine ⟨Jv 8 o+(p-8),?_,?_⟩
   ·rw [Ga,ifF k1,ifF k2,ifF k3,ifF k4,ifF k5,ifF k6,ifT k10,ifF (by omega),ifF (by omega),ifF (by omega),P,Am (a:=o+8) (by omega) (by omega),Am (a:=o+8-1) (by omega) (by omega),Im (by decide) (by omega) (by omega),Am (a:=(o+8-1)/8*8) (by omega) (by omega),Am (a:=(o+8-1)/8*8-o) (by omega) (by omega),←O]
    by_cases c8:0<p-8
    ·rw [ifT c8,Am (by omega) (by omega)]
    ·rw [ifF c8,Am (by omega) (by omega),show p-8=0 by omega]
   ·rw [Gb,ifF k1,ifF k2,ifF k3,ifF k4,ifF k5,ifF k6,ifT k10];exact WC F ⟨b1,b2⟩ 8 0 rfl (by show (0:Int)≤Jv 8 o;omega)
 by_cases k11:k=11
 ·obtain ⟨q1,q2⟩:=B k11;have hw:IntKind.wrap .i64 (d-1)=d-1:=Am (by omega) (by omega)
  refine ⟨if d=3 then 32 else 16,?_,?_⟩
  ·rw [Ga,ifF k1,ifF k2,ifF k3,ifF k4,ifF k5,ifF k6,ifF k10,ifT k11,ifF (by omega),ifF (by omega),hw]
   by_cases c1:d=1
   ·rw [ifT (by omega),if_neg (by omega)]
   ·rw [ifF (by omega)]
    by_cases c2:d=2
    ·rw [ifT (by omega),if_neg (by omega)]
    ·rw [ifF (by omega),ifT (by omega),if_pos (by omega)]
  ·rw [Gb,ifF k1,ifF k2,ifF k3,ifF k4,ifF k5,ifF k6,ifF k10,ifT k11];by_cases c3:d=3
   ·rw [ifT c3,if_pos c3]
   ·rw [ifF c3,if_neg c3]
 exact ⟨0,by rw [Ga,ifF k1,ifF k2,ifF k3,ifF k4,ifF k5,ifF k6,ifF k10,ifF k11],by rw [Gb,ifF k1,ifF k2,ifF k3,ifF k4,ifF k5,ifF k6,ifF k10,ifF k11]⟩
section
variable {v0 v9 v10 v11 v12 v13:D} {v3 v7 v8 v14 v15 k:Int} {v5 v6:Bool}
theorem WW {b:Int} (a:b=2∨b=4):∀n (w:Nat),w+n=8→PI (.int (w:Nat)) v0 (.int k) (.int b) (.bool v5) (.bool v6) (.int v7) (.int v8) (.int v3) v9 v10 v11 v12 v13 (.int v14) (.int v15)=.row [.int 1,.int (((w+b-1)/b*b)%8)]
 |n,w,h=>by
  rw [gr,ifF (by omega),Cm (by omega) (by omega)]
  by_cases c:(w:Int)%b=0
  ·rw [ifT c,Cm (by decide) (by omega)]
   have:((w:Int)+b-1)/b*b=w:=by rcases a with rfl|rfl<;>omega
   rw [this]
  ·rw [ifF c];cases n with
   |zero=>exfalso;rcases a with rfl|rfl<;>omega
   |succ n=>
    rw [show IntKind.wrap .i64 ((w:Int)+1)=((w+1:Nat):Int) from Bm (by omega),WW a n (w+1) (by omega)]
    have:(((w+1:Nat):Int)+b-1)/b*b=((w:Int)+b-1)/b*b:=by rcases a with rfl|rfl<;>omega
    rw [this]
end
theorem aO {v:D} {i:Nat} {o:Int} (d:FO v) (hi:i<len v) (q:0≤o∧o≤7):SU (cl v i 0) (cl v i 1) (cl v i 2) (cl v i 3) (cl v i 4) (cl v i 5) (cl v i 6) (cl v i 7) (cl v i 8) (cl v i 9) (cl v i 10) (cl v i 11) (cl v i 12) (cl v i 13) (cl v i 14) (.int o)=.row [.int 1,.int (stp (kd v i) (bt v i) o)]:=by
 have a:=d.ft;obtain ⟨c,j⟩:=a.i1 i hi;obtain ⟨b,k⟩:=a.i2 i hi;obtain ⟨A,r⟩:=a.b3 i hi;obtain ⟨B,s⟩:=a.b4 i hi;obtain ⟨C,t⟩:=a.i5 i hi;obtain ⟨E,u⟩:=a.i6 i hi;obtain ⟨F,x⟩:=a.i7 i hi;obtain ⟨y,e⟩:=a.i13 i hi;obtain ⟨z,f⟩:=a.i14 i hi;have k12:kd v i=1∨kd v i=2→1≤bt v i∧bt v i≤32:=(d.ex i hi).k12;have k10:kd v i=10→bt v i=2∨bt v i=4∨(8≤bt v i∧bt v i≤512∧ari .rem .i64 (bt v i) 8=0):=(d.ex i hi).k10;have l:kd v i=c:=by unfold kd;rw [j];rfl
 have m:bt v i=b:=by unfold bt;rw [k];rfl
 rw [l,m] at k12 k10;rw [l,m,j,k,r,s,t,u,x,e,f,iH];by_cases k1:c=1
 ·have:=k12 (.inl k1);rw [ifT k1,Am (by omega) (by omega),Cm (by decide) (by omega)];unfold stp;rw [if_pos (.inl k1)]
 rw [ifF k1];by_cases k2:c=2
 ·have:=k12 (.inr k2);rw [ifT k2,Am (by omega) (by omega),Cm (by decide) (by omega)];unfold stp;rw [if_pos (.inr k2)]
 rw [ifF k2];obtain ⟨w,rfl⟩:=Int.eq_ofNat_of_zero_le q.1;obtain ⟨n,p⟩:∃n,w+n=8:=⟨8-w,by omega⟩
 by_cases k3:c=10
 ·have g:stp c b (w:Nat)=if b=2 then (((w:Nat)+1:Int)/2*2)%8 else if b=4 then (((w:Nat)+3:Int)/4*4)%8 else 0:=by unfold stp;rw [if_neg (by omega),if_pos k3]
  rw [ifT k3,g];by_cases h:b=2
  ·subst h;rw [ifT rfl,if_pos rfl,WW (.inl rfl) n w p,show ((w:Nat):Int)+2-1=(w:Nat)+1 by omega]
  ·rw [ifF h,if_neg h];by_cases b4:b=4
   ·subst b4;rw [ifT rfl,if_pos rfl,WW (.inr rfl) n w p,show ((w:Nat):Int)+4-1=(w:Nat)+3 by omega]
   ·rw [ifF b4,if_neg b4]
 ·rw [ifF k3];unfold stp;rw [if_neg (by omega),if_neg k3]
def MD (v:D):Nat→D
 |0=>Cv
 |i+1=>ad (MD v i) (.row [.int (off v i)])
theorem Iq {v:D}:∀i,len (MD v i)=i
 |0=>rfl
 |i+1=>by rw [MD,Dl,Iq i]
theorem S7 {v:D} {j:Nat}:∀i,j<i→cl (MD v i) j 0=.int (off v j)
 |i+1,h=>by
  rw [MD,If (by omega),Iq]
  by_cases c:(j:Int)=(i:Nat)
  ·rw [if_pos c];have:j=i:=by omega
   subst this;rfl
  ·rw [if_neg c];exact S7 i (by omega)
theorem cq {v a:D} (c:FO v):∃b o,Ia a v=.row [.int 1,MD v (len v),.bool b,.int o]:=by
 have few:=c.ft.few;rw [eZ]
 have d:∀k i (b:Bool),i+k=len v→∃e o,TI (MD v i) (.bool b) (.int (off v i)) (.int (i:Nat)) a v=.row [.int 1,MD v (len v),.bool e,.int o]:=by
  intro k
  induction k with
  |zero=>
   intro i b h;have:i=len v:=h;subst this;rw [Zo,ifF (by omega)]
   exact ⟨_,_,rfl⟩
  |succ k ih=>
   intro i b h;rw [Zo,ifT (by omega),ifT (by rw [Iq];omega),ifF (by omega),aO c (by omega) (KM i),Bm (by omega)]
   rw [B8];exact ih (i+1) false (by omega)
 exact d (len v) 0 true (by omega)
theorem Yy {v a x y z:D} {i m:Nat} (b:FO v) (hi:i<len v) {c1 c2 c3:Int} (c:Ih x y z=.row [.int 1,.int c1,.int c2,.int c3,.bool false]) (l:m<len y) (d:cl y m 1=v) :
  ∃n:Int,Nk a v (.int (m:Nat)) x y z (.int (i:Nat))=.row [.int 1,.int n]∧NV a v (.int (i:Nat))=.row [.int 1,.int n]:=by
 have few:=b.ft.few;obtain ⟨z1,e,f⟩:=Yk (a:=a) (m:=(m:Nat)) b hi (KM (v:=v) i);obtain ⟨g,j,k⟩:=cq (a:=a) b;refine ⟨if 0<IntKind.wrap .i64 (ari .quo .i64 (IntKind.wrap .i64 (IntKind.wrap .i64 (off v i+z1)+7)) 8-1) then IntKind.wrap .i64 (ari .quo .i64 (IntKind.wrap .i64 (IntKind.wrap .i64 (off v i+z1)+7)) 8-1) else 0,?_,?_⟩
 ·rw [eT,c,B8];refine (?_:cond false _ _=_);rw [cond_false,ifF (by omega),ifT (by omega),ifF (by omega),d,ifT (by omega),bh b (by omega),B8,ifT (by omega)]
  rw [show sl (D.row [.int 1,.int (off v i)]) 1=.int (off v i) from rfl,e,B8]
  rw [show (sl (D.row [.int 1,.int z1]) 1).toInt=z1 from rfl,show (D.int (off v i)).toInt=off v i from rfl,ww]
  split
  ·rename_i h;rw [ifT h]
  ·rename_i h;rw [ifF h]
 ·rw [eQ,k,B8,ifF (by omega)]
  rw [show sl (D.row [.int 1,MD v (len v),.bool g,.int j]) 1=MD v (len v) from rfl,Iq,ifT (by omega),ifT (by omega),S7 _ hi,f,B8]
  rw [show (sl (D.row [.int 1,.int z1]) 1).toInt=z1 from rfl,show (D.int (off v i)).toInt=off v i from rfl]
  split
  ·rename_i h;rw [ifT h]
  ·rename_i h;rw [ifF h]
end
end Mm
namespace Mm
open Go Go.AE
section
variable [Ax]
def Q26 (d:D):Prop:=∃(a b c:Int) (t:Bool),d=.row [.int 1,.int a,.int b,.int c,.bool t]
theorem n21:¬(sl (.row [.int 2,.bool false]) 0).toInt=1:=by show ¬(2:Int)=1;decide
theorem cN {v0 d v2:D} {a b c:Int} (e:Ih v0 d v2=.row [.int 1,.int a,.int b,.int c,.bool false]) (s:len d≤9) (k:∀m:Nat,m<len d→FO (cl d m 1)):Q26 (NQ v0 d v2):=by
 by_cases c0:(0:Int)<len d
 ·rcases FV (nm:=cl d 0 0) (a:=a) (b:=b) (c:=c) (z:=0) (t:=false) (k 0 (by omega)) with ⟨p,q,f⟩|f
  ·rw [CV v0 d v2 e f rfl rfl rfl rfl rfl rfl rfl rfl rfl];refine qT rfl ?_;refine (?_:Q26 (cond false _ _));rw [cond_false];exact qT c0 (qT rfl ⟨_,_,_,_,rfl⟩)
  ·by_cases c1:(1:Int)<len d
   ·rcases FV (nm:=cl d 1 0) (a:=a) (b:=b) (c:=c) (z:=1) (t:=false) (k 1 (by omega)) with ⟨p,q,g⟩|g
    ·rw [CV v0 d v2 e f g rfl rfl rfl rfl rfl rfl rfl rfl];refine qT rfl ?_;refine (?_:Q26 (cond false _ _));rw [cond_false];exact qT c0 (qF n21 (qT rfl (qT c1 (qT rfl ⟨_,_,_,_,rfl⟩))))
    ·by_cases c2:(2:Int)<len d
     ·rcases FV (nm:=cl d 2 0) (a:=a) (b:=b) (c:=c) (z:=2) (t:=false) (k 2 (by omega)) with ⟨p,q,h⟩|h
      ·rw [CV v0 d v2 e f g h rfl rfl rfl rfl rfl rfl rfl];refine qT rfl ?_;refine (?_:Q26 (cond false _ _));rw [cond_false];exact qT c0 (qF n21 (qT rfl (qT c1 (qF n21 (qT rfl (qT c2 (qT rfl ⟨_,_,_,_,rfl⟩)))))))
      ·by_cases c3:(3:Int)<len d
       ·rcases FV (nm:=cl d 3 0) (a:=a) (b:=b) (c:=c) (z:=3) (t:=false) (k 3 (by omega)) with ⟨p,q,i⟩|i
        ·rw [CV v0 d v2 e f g h i rfl rfl rfl rfl rfl rfl];refine qT rfl ?_;refine (?_:Q26 (cond false _ _));rw [cond_false];exact qT c0 (qF n21 (qT rfl (qT c1 (qF n21 (qT rfl (qT c2 (qF n21 (qT rfl (qT c3 (qT rfl ⟨_,_,_,_,rfl⟩))))))))))
        ·by_cases c4:(4:Int)<len d
         ·rcases FV (nm:=cl d 4 0) (a:=a) (b:=b) (c:=c) (z:=4) (t:=false) (k 4 (by omega)) with ⟨p,q,j⟩|j
          ·rw [CV v0 d v2 e f g h i j rfl rfl rfl rfl rfl];refine qT rfl ?_;refine (?_:Q26 (cond false _ _));rw [cond_false];exact qT c0 (qF n21 (qT rfl (qT c1 (qF n21 (qT rfl (qT c2 (qF n21 (qT rfl (qT c3 (qF n21 (qT rfl (qT c4 (qT rfl ⟨_,_,_,_,rfl⟩)))))))))))))
          ·by_cases c5:(5:Int)<len d
           ·rcases FV (nm:=cl d 5 0) (a:=a) (b:=b) (c:=c) (z:=5) (t:=false) (k 5 (by omega)) with ⟨p,q,l⟩|l
            ·rw [CV v0 d v2 e f g h i j l rfl rfl rfl rfl];refine qT rfl ?_;refine (?_:Q26 (cond false _ _));rw [cond_false];exact qT c0 (qF n21 (qT rfl (qT c1 (qF n21 (qT rfl (qT c2 (qF n21 (qT rfl (qT c3 (qF n21 (qT rfl (qT c4 (qF n21 (qT rfl (qT c5 (qT rfl ⟨_,_,_,_,rfl⟩))))))))))))))))
            ·by_cases c6:(6:Int)<len d
             ·rcases FV (nm:=cl d 6 0) (a:=a) (b:=b) (c:=c) (z:=6) (t:=false) (k 6 (by omega)) with ⟨p,q,n⟩|n
              ·rw [CV v0 d v2 e f g h i j l n rfl rfl rfl];refine qT rfl ?_;refine (?_:Q26 (cond false _ _));rw [cond_false];exact qT c0 (qF n21 (qT rfl (qT c1 (qF n21 (qT rfl (qT c2 (qF n21 (qT rfl (qT c3 (qF n21 (qT rfl (qT c4 (qF n21 (qT rfl (qT c5 (qF n21 (qT rfl (qT c6 (qT rfl ⟨_,_,_,_,rfl⟩)))))))))))))))))))
              ·by_cases c7:(7:Int)<len d
               ·rcases FV (nm:=cl d 7 0) (a:=a) (b:=b) (c:=c) (z:=7) (t:=false) (k 7 (by omega)) with ⟨p,q,o⟩|o
                ·rw [CV v0 d v2 e f g h i j l n o rfl rfl];refine qT rfl ?_;refine (?_:Q26 (cond false _ _));rw [cond_false];exact qT c0 (qF n21 (qT rfl (qT c1 (qF n21 (qT rfl (qT c2 (qF n21 (qT rfl (qT c3 (qF n21 (qT rfl (qT c4 (qF n21 (qT rfl (qT c5 (qF n21 (qT rfl (qT c6 (qF n21 (qT rfl (qT c7 (qT rfl ⟨_,_,_,_,rfl⟩))))))))))))))))))))))
                ·by_cases c8:(8:Int)<len d
                 ·rcases FV (nm:=cl d 8 0) (a:=a) (b:=b) (c:=c) (z:=8) (t:=false) (k 8 (by omega)) with ⟨p,q,r⟩|r
                  ·rw [CV v0 d v2 e f g h i j l n o r rfl];refine qT rfl ?_;refine (?_:Q26 (cond false _ _));rw [cond_false];exact qT c0 (qF n21 (qT rfl (qT c1 (qF n21 (qT rfl (qT c2 (qF n21 (qT rfl (qT c3 (qF n21 (qT rfl (qT c4 (qF n21 (qT rfl (qT c5 (qF n21 (qT rfl (qT c6 (qF n21 (qT rfl (qT c7 (qF n21 (qT rfl (qT c8 (qT rfl ⟨_,_,_,_,rfl⟩)))))))))))))))))))))))))
                  ·have c9:¬(9:Int)<len d:=by omega
                   rw [CV v0 d v2 e f g h i j l n o r rfl];refine qT rfl ?_;refine (?_:Q26 (cond false _ _));rw [cond_false];exact qT c0 (qF n21 (qT rfl (qT c1 (qF n21 (qT rfl (qT c2 (qF n21 (qT rfl (qT c3 (qF n21 (qT rfl (qT c4 (qF n21 (qT rfl (qT c5 (qF n21 (qT rfl (qT c6 (qF n21 (qT rfl (qT c7 (qF n21 (qT rfl (qT c8 (qF n21 (qT rfl (qF c9 ⟨_,_,_,_,rfl⟩)))))))))))))))))))))))))))
                 ·rw [CV v0 d v2 e f g h i j l n o rfl rfl];refine qT rfl ?_;refine (?_:Q26 (cond false _ _));rw [cond_false];exact qT c0 (qF n21 (qT rfl (qT c1 (qF n21 (qT rfl (qT c2 (qF n21 (qT rfl (qT c3 (qF n21 (qT rfl (qT c4 (qF n21 (qT rfl (qT c5 (qF n21 (qT rfl (qT c6 (qF n21 (qT rfl (qT c7 (qF n21 (qT rfl (qF c8 ⟨_,_,_,_,rfl⟩))))))))))))))))))))))))
               ·rw [CV v0 d v2 e f g h i j l n rfl rfl rfl];refine qT rfl ?_;refine (?_:Q26 (cond false _ _));rw [cond_false];exact qT c0 (qF n21 (qT rfl (qT c1 (qF n21 (qT rfl (qT c2 (qF n21 (qT rfl (qT c3 (qF n21 (qT rfl (qT c4 (qF n21 (qT rfl (qT c5 (qF n21 (qT rfl (qT c6 (qF n21 (qT rfl (qF c7 ⟨_,_,_,_,rfl⟩)))))))))))))))))))))
             ·rw [CV v0 d v2 e f g h i j l rfl rfl rfl rfl];refine qT rfl ?_;refine (?_:Q26 (cond false _ _));rw [cond_false];exact qT c0 (qF n21 (qT rfl (qT c1 (qF n21 (qT rfl (qT c2 (qF n21 (qT rfl (qT c3 (qF n21 (qT rfl (qT c4 (qF n21 (qT rfl (qT c5 (qF n21 (qT rfl (qF c6 ⟨_,_,_,_,rfl⟩))))))))))))))))))
           ·rw [CV v0 d v2 e f g h i j rfl rfl rfl rfl rfl];refine qT rfl ?_;refine (?_:Q26 (cond false _ _));rw [cond_false];exact qT c0 (qF n21 (qT rfl (qT c1 (qF n21 (qT rfl (qT c2 (qF n21 (qT rfl (qT c3 (qF n21 (qT rfl (qT c4 (qF n21 (qT rfl (qF c5 ⟨_,_,_,_,rfl⟩)))))))))))))))
         ·rw [CV v0 d v2 e f g h i rfl rfl rfl rfl rfl rfl];refine qT rfl ?_;refine (?_:Q26 (cond false _ _));rw [cond_false];exact qT c0 (qF n21 (qT rfl (qT c1 (qF n21 (qT rfl (qT c2 (qF n21 (qT rfl (qT c3 (qF n21 (qT rfl (qF c4 ⟨_,_,_,_,rfl⟩))))))))))))
       ·rw [CV v0 d v2 e f g h rfl rfl rfl rfl rfl rfl rfl];refine qT rfl ?_;refine (?_:Q26 (cond false _ _));rw [cond_false];exact qT c0 (qF n21 (qT rfl (qT c1 (qF n21 (qT rfl (qT c2 (qF n21 (qT rfl (qF c3 ⟨_,_,_,_,rfl⟩)))))))))
     ·rw [CV v0 d v2 e f g rfl rfl rfl rfl rfl rfl rfl rfl];refine qT rfl ?_;refine (?_:Q26 (cond false _ _));rw [cond_false];exact qT c0 (qF n21 (qT rfl (qT c1 (qF n21 (qT rfl (qF c2 ⟨_,_,_,_,rfl⟩))))))
   ·rw [CV v0 d v2 e f rfl rfl rfl rfl rfl rfl rfl rfl rfl];refine qT rfl ?_;refine (?_:Q26 (cond false _ _));rw [cond_false];exact qT c0 (qF n21 (qT rfl (qF c1 ⟨_,_,_,_,rfl⟩)))
 ·rw [CV v0 d v2 e rfl rfl rfl rfl rfl rfl rfl rfl rfl rfl];refine qT rfl ?_;refine (?_:Q26 (cond false _ _));rw [cond_false];exact qF c0 ⟨_,_,_,_,rfl⟩
theorem aY {v0 d v2:D} (f:len d≤9) (h:∀m:Nat,m<len d→FT (cl d m 1)):(∃a b c:Int,NQ v0 d v2=.row [.int 1,.int a,.int b,.int c,.bool true])∨
  (Q26 (NQ v0 d v2)∧(∃a b c:Int,Ih v0 d v2=.row [.int 1,.int a,.int b,.int c,.bool false])∧∀m:Nat,m<len d→FO (cl d m 1)):=by
 rcases aP (v0:=v0) (v2:=v2) (ms:=d) (by omega) h with ⟨a,b,c,g⟩|⟨a,b,c,g,e⟩
 ·refine .inl ⟨a,b,c,?_⟩;rw [CV v0 d v2 g rfl rfl rfl rfl rfl rfl rfl rfl rfl rfl];rfl
 ·exact .inr ⟨cN g f e,⟨a,b,c,g⟩,e⟩
theorem ce {v0 v1 v2:D} (d:len v1≤9) (e:∀m:Nat,m<len v1→FT (cl v1 m 1)):Mo v0 v1 v2=.row [.int 1,.bool false]∨
  (Mo v0 v1 v2=.row [.int 1,.bool true]∧(∃a b c:Int,Ih v0 v1 v2=.row [.int 1,.int a,.int b,.int c,.bool false])∧∀m:Nat,m<len v1→FO (cl v1 m 1)):=by
 rw [fK];rcases aY (v0:=v0) (v2:=v2) d e with ⟨a,b,c,g⟩|⟨⟨a,b,c,t,g⟩,f,h⟩
 ·rw [g];exact .inl rfl
 ·rw [g];cases t with
  |true=>exact .inl rfl
  |false=>exact .inr ⟨rfl,f,h⟩
def Sm (a:D) (n:Nat):Prop:=∀m:Nat,m<n→len (cl a m 1)≤16∧∀k:Nat,k<len (cl a m 1)→len (cl (cl a m 1) k 12)≤10∧len (cl (cl a m 1) k 8)≤6
theorem ZM {v0 v1 v2:D} (l:len v1≤9):∀k i,i+k=len v1→Sm v1 i→Wk (.int (i:Nat)) v0 v1 v2=.row [.int 1,.bool false]∨(Wk (.int (i:Nat)) v0 v1 v2=.row [.int 1,.bool true]∧Sm v1 (len v1))
 |0,i,h,d=>by
  have:i=len v1:=h;subst this;rw [fL,ifF (by omega)]
  exact .inr ⟨rfl,d⟩
 |k+1,i,h,d=>by
  rw [fL,ifT (by omega),ifF (by omega)]
  by_cases c1:16<(len (cl v1 i 1):Int)
  ·rw [ifT c1];exact .inl rfl
  ·rw [ifF c1];by_cases c2:100<(C0 (cl v1 i 0):Int)
   ·rw [ifT c2];exact .inl rfl
   ·rw [ifF c2]
    have a:∀n j,j+n=len (cl v1 i 1)→(∀k:Nat,k<j→len (cl (cl v1 i 1) k 12)≤10∧len (cl (cl v1 i 1) k 8)≤6)→
      Wm (.int (i:Nat)) (.int (j:Nat)) v0 v1 v2 (cl v1 i 0) (cl v1 i 1)=.row [.int 1,.bool false]∨(Wm (.int (i:Nat)) (.int (j:Nat)) v0 v1 v2 (cl v1 i 0) (cl v1 i 1)=.row [.int 1,.bool true]∧Sm v1 (len v1)):=by
     intro n
     induction n with
     |zero=>
      intro j g e;have:j=len (cl v1 i 1):=g;rw [fM,ifF (by omega),Bm (by omega)]
      refine ZM l k (i+1) (by omega) fun m o=>?_
      rcases Nat.lt_or_ge m i with b|b
      ·exact d m b
      ·have:m=i:=by omega
       subst this;exact ⟨by omega,fun q f=>e q (by omega)⟩
     |succ n ih=>
      intro j g e;rw [fM,ifT (by omega),ifF (by omega),Bm (by omega)]
      by_cases d1:100<(C0 (cl (cl v1 i 1) j 0):Int)
      ·rw [ifT d1];exact .inl rfl
      ·rw [ifF d1];by_cases d2:10<(len (cl (cl v1 i 1) j 12):Int)
       ·rw [ifT d2];exact .inl rfl
       ·rw [ifF d2];by_cases d3:6<(len (cl (cl v1 i 1) j 8):Int)
        ·rw [ifT d3];exact .inl rfl
        ·rw [ifF d3];refine ih (j+1) (by omega) fun q f=>?_
         rcases Nat.lt_or_ge q j with c|c
         ·exact e q c
         ·have:q=j:=by omega
          subst this;exact ⟨by omega,by omega⟩
    exact a (len (cl v1 i 1)) 0 (by omega) fun q f=>absurd f (Nat.not_lt_zero _)
theorem fE {v0 v1 v2:D}:Xq v0 v1 v2=.row [.int 1,.bool false]∨(Xq v0 v1 v2=.row [.int 1,.bool true]∧len v1≤9∧Sm v1 (len v1)):=by
 rw [lq];by_cases c1:9<(len v1:Int)
 ·rw [ifT c1];exact .inl rfl
 ·rw [ifF c1];by_cases c2:100<(C0 v0:Int)
  ·rw [ifT c2];exact .inl rfl
  ·rw [ifF c2];by_cases c3:100<(C0 v2:Int)
   ·rw [ifT c3];exact .inl rfl
   ·rw [ifF c3];rcases ZM (v0:=v0) (v2:=v2) (v1:=v1) (by omega) (len v1) 0 (by omega) (fun m a=>absurd a (Nat.not_lt_zero _)) with g|⟨g,b⟩
    ·exact .inl g
    ·exact .inr ⟨g,by omega,b⟩
structure FK (v:D):Prop where
 i1:∀i:Nat,i<len v→∃n,cl v i 1=.int n
 i2:∀i:Nat,i<len v→∃n,cl v i 2=.int n
 b3:∀i:Nat,i<len v→∃n,cl v i 3=.bool n
 b4:∀i:Nat,i<len v→∃n,cl v i 4=.bool n
 i5:∀i:Nat,i<len v→∃n,cl v i 5=.int n
 i6:∀i:Nat,i<len v→∃n,cl v i 6=.int n
 i7:∀i:Nat,i<len v→∃n,cl v i 7=.int n
 i13:∀i:Nat,i<len v→∃n,cl v i 13=.int n
 i14:∀i:Nat,i<len v→∃n,cl v i 14=.int n
 nil8:∀i:Nat,i<len v→(cl v i 8).isNil=true→len (cl v i 8)=0
 case:∀i:Nat,i<len v→∀j:Nat,j<len (cl v i 12)→(∃n,cl (cl v i 12) j 0=.int n)∧∃n,cl (cl v i 12) j 1=.int n
theorem law {v0 v1 v2 j d:D} (y:∀m:Nat,m<len v1→FK (cl v1 m 1)):ZJ v0 v1 v2 j d=.row [.int 1,.bool true]:=by
 rw [gA];rcases fE (v0:=v0) (v1:=v1) (v2:=v2) with g|⟨g,z,A⟩
 ·rw [g];rfl
 rw [g,B8];refine (?_:cond true _ _=_);rw [cond_true];by_cases c1:100<(C0 j:Int)
 ·rw [ifT c1]
 rw [ifF c1];by_cases c2:100<(C0 d:Int)
 ·rw [ifT c2]
 rw [ifF c2]
 have w:∀m:Nat,m<len v1→FT (cl v1 m 1):=fun m o=>by
  obtain ⟨B,x⟩:=A m o;obtain ⟨a1,a2,a3,a4,a5,a6,a7,a8,a9,a10,a11⟩:=y m o;exact ⟨a1,a2,a3,a4,a5,a6,a7,a8,a9,B,a10,fun i hi=>(x i hi).2,fun i hi=>(x i hi).1,a11⟩
 rcases ce (v0:=v0) (v2:=v2) z w with e|⟨e,⟨a,b,c,r⟩,C⟩
 ·have f:EG v0 v1 v2 j d=.row [.int 1,.int 0,.int 2]:=by rw [TJ,e];rfl
  rw [f,e];rfl
 have h:=ag (v:=v1) (nm:=j) (by omega)
 by_cases c3:fld v1 j<0
 ·have f:EG v0 v1 v2 j d=.row [.int 1,.int 0,.int 9]:=by
   rw [TJ,e,B8];refine (?_:cond true _ _=_);rw [cond_true,h,B8];exact ifT c3
  rw [f,e,B8,B8];refine (?_:cond true _ _=_);rw [cond_true,h,B8];exact (ifT c3).trans rfl
 obtain ⟨m,o⟩:=Int.eq_ofNat_of_zero_le (show 0≤fld v1 j by omega)
 have l:m<len v1:=by
  have:=Fs (p:=fun i=>D.strEq (cl v1 i 0) j) (k:=len v1) (i:=0)
  unfold fld at o;omega
 rw [o] at h;have few:=(w m l).few;have q:=S3 (v:=cl v1 m 1) (nm:=d) (by omega)
 by_cases c4:fld (cl v1 m 1) d<0
 ·have f:EG v0 v1 v2 j d=.row [.int 1,.int 0,.int 9]:=by
   rw [TJ,e,B8];refine (?_:cond true _ _=_);rw [cond_true,h,B8];refine (?_:cond (decide (((m:Nat):Int)<0)) _ (cond (decide (((m:Nat):Int)<len v1)) (cond (decide ((sl (B5 (cl v1 m 1) d) 0).toInt=1)) (cond (decide ((sl (B5 (cl v1 m 1) d) 1).toInt<0)) _ _) _) _)=_);rw [ifF (by omega),ifT (by omega),q,B8]
   exact ifT c4
  rw [f,e,B8,B8];refine (?_:cond true _ _=_);rw [cond_true,h,B8];refine (?_:cond (decide (((m:Nat):Int)<0)) _ (cond (decide (((m:Nat):Int)<len v1)) (cond (decide ((sl (B5 (cl v1 m 1) d) 0).toInt=1)) (cond (decide ((sl (B5 (cl v1 m 1) d) 1).toInt<0)) _ _) _) _)=_);rw [ifF (by omega),ifT (by omega),q,B8]
  exact (ifT c4).trans rfl
 obtain ⟨i,hi⟩:=Int.eq_ofNat_of_zero_le (show 0≤fld (cl v1 m 1) d by omega)
 have s:i<len (cl v1 m 1):=by
  have:=Fs (p:=fun i=>D.strEq (cl (cl v1 m 1) i 0) d) (k:=len (cl v1 m 1)) (i:=0)
  unfold fld at hi;omega
 rw [hi] at q;obtain ⟨n,t,u⟩:=Yy (a:=cl v1 m 0) (C m l) s r l rfl
 have f:EG v0 v1 v2 j d=.row [.int 1,.int n,.int 0]:=by
  rw [TJ,e,B8];refine (?_:cond true _ _=_);rw [cond_true,h,B8];refine (?_:cond (decide (((m:Nat):Int)<0)) _ (cond (decide (((m:Nat):Int)<len v1)) (cond (decide ((sl (B5 (cl v1 m 1) d) 0).toInt=1)) (cond (decide ((sl (B5 (cl v1 m 1) d) 1).toInt<0)) _ (cond (decide ((sl (Nk (cl v1 m 0) (cl v1 m 1) (.int m) v0 v1 v2 (sl (B5 (cl v1 m 1) d) 1)) 0).toInt=1)) (D.row [D.int 1,sl (Nk (cl v1 m 0) (cl v1 m 1) (.int m) v0 v1 v2 (sl (B5 (cl v1 m 1) d) 1)) 1,D.int 0]) _)) _) _)=_);rw [ifF (by omega),ifT (by omega),q,B8,ifF (by show ¬((i:Nat):Int)<0;omega)]
  rw [show sl (D.row [.int 1,.int ((i:Nat):Int)]) 1=.int ((i:Nat):Int) from rfl,t]
  exact ifT rfl
 rw [f,e,B8,B8];refine (?_:cond true _ _=_);rw [cond_true,h,B8];refine (?_:cond (decide (((m:Nat):Int)<0)) _ (cond (decide (((m:Nat):Int)<len v1)) (cond (decide ((sl (B5 (cl v1 m 1) d) 0).toInt=1)) (cond (decide ((sl (B5 (cl v1 m 1) d) 1).toInt<0)) _ (cond (decide ((sl (NV (cl v1 m 0) (cl v1 m 1) (sl (B5 (cl v1 m 1) d) 1)) 0).toInt=1)) (cond (decide (n=(sl (NV (cl v1 m 0) (cl v1 m 1) (sl (B5 (cl v1 m 1) d) 1)) 1).toInt)) (cond (decide ((0:Int)=0)) (D.row [D.int 1,D.bool true]) _) _) _)) _) _)=_);rw [ifF (by omega),ifT (by omega),q,B8,ifF (by show ¬((i:Nat):Int)<0;omega)]
 rw [show sl (D.row [.int 1,.int ((i:Nat):Int)]) 1=.int ((i:Nat):Int) from rfl,u,B8]
 exact (ifT rfl).trans (ifT rfl)
end
end Mm

