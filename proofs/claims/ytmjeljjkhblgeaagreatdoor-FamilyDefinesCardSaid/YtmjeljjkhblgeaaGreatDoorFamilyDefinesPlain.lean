/- What is proved: what the plain functions over data say, whose trees the text before writes out: the law FamilyDefines answers true. Conditions: those that each theorem states. -/
import Derived.Test.YtmjeljjkhblgeaaGreatDoorFamilyDefinesTree
set_option linter.unusedVariables false
set_option linter.unusedSectionVars false
set_option linter.unusedSimpArgs false
namespace Go.AE
section
variable [CP]
def atV (a:List (List (Tr Plf))) (b:List D):Val:=ME (Hf a) b
def fin (a:List (List (Tr Plf))) (k:Nat) (V:Val):Plf→D
 |.stuck=>.row []
 |.done s cs=>.row (.int (s+1:Nat)::cs.map (Ac V))
 |.next j b=>Hf a k (.row (.int j::b.map (Ac V)))
def Xn (a:List (List (Tr Plf))) (k:Nat) (V:Val) (t:Tr Plf):D:=fin a k V (t.get V)
theorem Azh {a:List (List (Tr Plf))} (h:H5 0 a=true) {k p:Nat} {T:List (Tr Plf)} {t:Tr Plf} {b:List D} (d:a[k]?=some T) (f:T[p]?=some t) :
  Hf a k (.row (.int (p:Nat)::b))=Xn a k (atV a b) t:=by
 have c:DW T (Hf a) (.row (.int (p:Nat)::b))=De (atV a b) (t.get (atV a b)):=by
  show (match T[p]? with|some t=>De _ (t.get _)|none=>none)=_
  rw [f];rfl
 unfold Xn fin;split
 ·rename_i e;rw [e] at c;rw [IC h d];rcases GT (DW T (Hf a)) (.row (.int (p:Nat)::b)) with q|⟨n,q⟩
  ·exact q
  ·cases n with
   |zero=>cases q
   |succ n=>
    simp only [Fp,c] at q;cases q
 ·rename_i e;rw [e] at c;rw [IC h d];exact S5 c
 ·rename_i e;rw [e] at c;rw [IC h d,UC c,←IC h d]
theorem WU {c:List (List (Tr Plf))} {k:Nat} {V:Val} {e:SB} {a b:Tr Plf}:Xn c k V (.split e a b)=if Ah V e=true then Xn c k V a else Xn c k V b:=by
 unfold Xn;rw [show (Tr.split e a b).get V=match Ah V e with|true=>a.get V|false=>b.get V from rfl]
 cases Ah V e<;>rfl
end
theorem iU {a:Int} (h:-9223372036854775808≤a) (h':a<9223372036854775808):IntKind.wrap .i64 a=a:=by
 show (if (true&&decide (a%(2^64:Int)≥2^63))=true then a%(2^64:Int)-2^64 else a%(2^64:Int))=a
 split
 ·rename_i q;simp only [Bool.true_and,decide_eq_true_eq] at q;omega
 ·rename_i q;simp only [Bool.true_and,decide_eq_true_eq] at q;omega
def len (d:D):Nat:=d.rows.length
def kZ (d:D):Nat:=d.toStr.data.toList.length
def cl (a:D) (i:Int) (j:Nat):D:=(a.rows.getD i.toNat default).cells.getD j default
def ad (a r:D):D:=.slc false (a.rows++[r])
def upd (a:D) (i:Int) (j:Nat) (x:D):D:=.slc a.isNil (a.rows.modify i.toNat fun r=>.row (r.cells.set j x))
def sb (a:D) (lo hi:Int):D:=.slc a.isNil ((a.rows.drop lo.toNat).take (hi.toNat-lo.toNat))
def eqC (a:D) (l b:Nat):Bool:=strEq a.toStr.data.toList.length (Ay a.toStr.data.toList) l b
theorem ifT {c:Type} {p:Prop} [Decidable p] {a b:c} (h:p):cond (decide p) a b=a:=by rw [decide_eq_true h];rfl
theorem ifF {c:Type} {p:Prop} [Decidable p] {a b:c} (h:¬p):cond (decide p) a b=b:=by rw [decide_eq_false h];rfl
section
variable [CP]
def DU (c:List (List (Tr Plf))) (k:Nat) (V:Val):Tr Plf→D
 |.leaf l=>fin c k V l
 |.split e a b=>cond (Ah V e) (DU c k V a) (DU c k V b)
theorem KX {c:List (List (Tr Plf))} {k:Nat} {V:Val}:∀t:Tr Plf,Xn c k V t=DU c k V t
 |.leaf l=>rfl
 |.split e a b=>by
  rw [WU,KX a,KX b,DU];cases Ah V e<;>rfl
theorem yC {a:List (List (Tr Plf))} (h:H5 0 a=true) {k p:Nat} {T:List (Tr Plf)} {t:Tr Plf} {b:List D} (c:a[k]?=some T) (d:T[p]?=some t) :
  Hf a k (.row (.int (p:Nat)::b))=DU a k (atV a b) t:=(Azh h c d).trans (KX t)
theorem cg {d:List (List (Tr Plf))} {k:Nat} {V:Val} {e:SB} {a b:Tr Plf} {c:Bool} {x y:D} (h:Ah V e=c) (f:DU d k V a=x) (g:DU d k V b=y):DU d k V (.split e a b)=cond c x y:=by
 rw [DU,h,f,g]
end
theorem lE {V:Val} {a b:SE} {x y:Int} (h:(Ac V a).toInt=x) (h':(Ac V b).toInt=y):Ah V (.lss a b)=decide (x<y):=by rw [←h,←h'];rfl
theorem qE {V:Val} {a b:SE} {x y:Int} (h:(Ac V a).toInt=x) (h':(Ac V b).toInt=y):Ah V (.eql a b)=decide (x=y):=by rw [←h,←h'];rfl
section
variable [CP]
theorem cL {c:List (List (Tr Plf))} {k:Nat} {V:Val} {e f:SE} {a b:Tr Plf} {m n:Int} {x y:D} (d:DU c k V a=x) (g:DU c k V b=y) (h:(Ac V e).toInt=m:=by rfl) (h':(Ac V f).toInt=n:=by rfl):DU c k V (.split (.lss e f) a b)=cond (decide (m<n)) x y:=cg (lE h h') d g
theorem cQ {c:List (List (Tr Plf))} {k:Nat} {V:Val} {e f:SE} {a b:Tr Plf} {m n:Int} {x y:D} (d:DU c k V a=x) (g:DU c k V b=y) (h:(Ac V e).toInt=m:=by rfl) (h':(Ac V f).toInt=n:=by rfl):DU c k V (.split (.eql e f) a b)=cond (decide (m=n)) x y:=cg (qE h h') d g
end
theorem iA {P:Program} {ts:List TypeId} {a:List D} {b:List Kd} (h:MW P ts a) (c:Bm (Env.of P) ts=some b):b.length=a.length∧Rv (Env.of P).kinds 9 b a:=by
 obtain ⟨d,cs,M,e,f,_,g⟩:=h;rw [c] at e;cases e;exact ⟨f.len.2,g⟩
theorem Jf.cell {K:TypeId→Option (List Kd)} {m j:Nat} {e:TypeId} {r:List Kd} {kd:Kd} {d:D} {i:Int} (h:Jf K (m+1) (.slice e) d) (t:K e=some r) (h0:0≤i) (hi:i<len d) (C:r[j]?=some kd):Jf K m kd (cl d i j):=by
 obtain ⟨I,rows,rfl,_,q⟩:=h;have l:i.toNat<rows.length:=by have:len (.slc I rows)=rows.length:=rfl;omega
 obtain ⟨cs,J,_,e3⟩:=q r t _ (List.getElem_mem l);show Jf K m kd ((rows[i.toNat]?.getD default).cells.getD j default);rw [List.getElem?_eq_getElem l,Option.getD_some,J];exact e3 j kd C
theorem Jf.toI {K:TypeId→Option (List Kd)} {m:Nat} {k:IntKind} {d:D} (h:Jf K m (.int k) d):∃n,d=.int n:=by cases m<;>exact h
theorem Jf.toB {K:TypeId→Option (List Kd)} {m:Nat} {d:D} (h:Jf K m .bool d):∃b,d=.bool b:=by cases m<;>exact h
def fdG (p:Nat→Bool):Nat→Nat→Int
 |0,_=>-1
 |k+1,i=>cond (p i) (i:Int) (fdG p k (i+1))
theorem gM {p:Nat→Bool}:∀{k i:Nat},fdG p k i = -1∨(i:Int)≤fdG p k i
 |0,i=>.inl rfl
 |k+1,i=>by
  rw [fdG];cases p i
  ·show fdG p k (i+1)=_∨_≤fdG p k (i+1);rcases gM (p:=p) (k:=k) (i:=i+1) with h|h
   ·exact .inl h
   ·exact .inr (by omega)
  ·exact .inr (Int.le_refl _)
theorem uG {F:Nat→D} {bad:Nat→Bool} {B:Nat→D} {n:Nat}:∀{k i:Nat},i+k=n→(∀j,i≤j→j<n→F j=cond (bad j) (B j) (F (j+1)))→F i=cond (decide (fdG bad k i<0)) (F n) (B (fdG bad k i).toNat)
 |0,i=>fun h _=>by
  have:i=n:=by omega
  subst this;rfl
 |k+1,i=>fun h c=>by
  rw [c i (Nat.le_refl _) (by omega),fdG]
  cases bad i
  ·exact uG (by omega) fun j a b=>c j (by omega) b
  ·show B i=cond (decide ((i:Int)<0)) _ (B (i:Int).toNat);rw [ifF (by omega)]
   rfl
theorem bB {F:Nat→D} {bad:Nat→Bool} {B:Nat→D} {n:Nat} (a:∀j,j<n→F j=cond (bad j) (B j) (F (j+1))):F 0=cond (decide (fdG bad n 0<0)) (F n) (B (fdG bad n 0).toNat):=uG (by omega) fun j _ b=>a j b
theorem find {F:Nat→D} {bad:Nat→Bool} {n:Nat} (a:∀j,j<n→F j=cond (bad j) (.row [.int 1,.int (j:Nat)]) (F (j+1))) (hr:F n=.row [.int 1,.int (-1)]):F 0=.row [.int 1,.int (fdG bad n 0)]:=by
 rw [bB a,hr];have h:=gM (p:=bad) (k:=n) (i:=0);by_cases q:fdG bad n 0<0
 ·rw [ifT q];rcases h with h|h
  ·rw [h]
  ·omega
 ·rw [ifF q];have:((fdG bad n 0).toNat:Int)=fdG bad n 0:=by omega
  rw [this]
theorem ShK.cell {K:TypeId→Option (List Kd)} {o:Option Nat} {m j:Nat} {e:TypeId} {l:List Kd} {kd:Kd} {d:D} {i:Nat} (h:ShK K o (m+1) (.slice e) d) (r:K e=some l) (hi:i<len d) (t:l[j]?=some kd):ShK K o m kd (cl d i j):=h.2 l r i hi j kd t
theorem ShK.rows {K:TypeId→Option (List Kd)} {b m:Nat} {e:TypeId} {d:D} (h:ShK K (some b) (m+1) (.slice e) d):len d≤b:=h.1 b rfl
theorem ShK.text {K:TypeId→Option (List Kd)} {b m:Nat} {d:D} (h:ShK K (some b) m .str d):kZ d≤b:=by
 have:leB (some b) (kZ d):=by cases m<;>exact h
 exact this b rfl
end Go.AE
set_option maxRecDepth 100000
namespace Fdm
open Go Go.AE
theorem lt:H5 0 ts=true:=by decide
theorem gw [CP] {k p:Nat} {T:List (Tr Plf)} {t:Tr Plf} {a:List D} {x:D} (b:ts[k]?=some T) (c:T[p]?=some t) (h:DU ts k (atV ts a) t=x):Hf ts k (.row (.int (p:Nat)::a))=x:=(yC lt b c).trans h
section
variable [CP]
def Aqc (v0 a:D):D:=Hf ts 0 (.row [.int (0:Nat),v0,a])
theorem Ayy (v0:Int) (a:D):Aqc (.int v0) a =
  cond ((IntKind.wrap .i64 v0)<8) (
 cond ((IntKind.wrap .i64 v0)=0) (
 .row [.int 1,(.bool true)]) (
 cond ((IntKind.wrap .i64 v0)=1) (
 .row [.int 1,(.bool true)]) (
 cond ((IntKind.wrap .i64 v0)=2) (
 .row [.int 1,(.bool true)]) (
 cond ((IntKind.wrap .i64 v0)=3) (
 .row [.int 1,(.bool true)]) (
 cond ((IntKind.wrap .i64 v0)=4) (
 .row [.int 1,(.bool true)]) (
 cond ((IntKind.wrap .i64 v0)=5) (
 .row [.int 1,(.bool true)]) (
 cond ((IntKind.wrap .i64 v0)=6) (
 .row [.int 1,(.bool true)]) (
 cond ((IntKind.wrap .i64 v0)=7) (
 .row [.int 1,(.bool true)]) (
 .row []))))))))) (
 cond (eqC a 5 495622906222) (
 .row [.int 1,(.bool true)]) (
 cond (eqC a 5 435727459692) (
 .row [.int 1,(.bool true)]) (
 cond (eqC a 5 495622842726) (
 .row [.int 1,(.bool true)]) (
 cond (eqC a 6 126870807932788) (
 .row [.int 1,(.bool true)]) (
 cond (eqC a 7 32480064979559794) (
 .row [.int 1,(.bool true)]) (
 cond (eqC a 7 32495402123093352) (
 .row [.int 1,(.bool true)]) (
 cond (eqC a 7 32497592573780591) (
 .row [.int 1,(.bool true)]) (
 cond (eqC a 9 2129618691208608441714) (
 .row [.int 1,(.bool true)]) (
 cond (100<(kZ a:Int)) (
 .row [.int 1,(.bool true)]) (
 .row [.int 1,(.bool true)])))))))))):=gw rfl rfl (cL (cQ rfl (cQ rfl (cQ rfl (cQ rfl (cQ rfl (cQ rfl (cQ rfl (cQ rfl rfl)))))))) (cg rfl rfl (cg rfl rfl (cg rfl rfl (cg rfl rfl (cg rfl rfl (cg rfl rfl (cg rfl rfl (cg rfl rfl rfl)))))))))
end
end Fdm
namespace Fdm
open Go Go.AE
section
variable [CP]
theorem step {c:Bool} {y:D} (h:y=.row [.int 1,.bool true]):cond c (.row [.int 1,.bool true]) y=.row [.int 1,.bool true]:=by
 cases c
 ·exact h
 ·rfl
theorem Lv {n k:Int} {y:D} (h:n≠k→y=.row [.int 1,.bool true]):cond (n=k) (.row [.int 1,.bool true]) y=.row [.int 1,.bool true]:=by
 by_cases c:n=k
 ·rw [ifT c]
 ·rw [ifF c];exact h c
theorem law (n:Int) (v:D) (h0:0≤n) (b:n≤255):Aqc (.int n) v=.row [.int 1,.bool true]:=by
 rw [Ayy];have a:IntKind.wrap .i64 n=n:=iU (by omega) (by omega)
 rw [a];by_cases c:n<8
 ·rw [ifT c];refine Lv fun c0=>Lv fun e=>Lv fun f=>Lv fun g=>Lv fun h=>Lv fun i=>Lv fun j=>Lv fun k=>?_
  omega
 ·rw [ifF c];refine step <| step <| step <| step <| step <| step <| step <| step ?_;by_cases d:100<(kZ v:Int)
  ·rw [ifT d]
  ·rw [ifF d]
theorem rng {P:Program} {ts:List TypeId} {n:Int} {v:D} (h:MW P ts [.int n,v]) (f:Bm (Env.of P) ts=some [.int .u8,.str]):0≤n∧n≤255:=by
 obtain ⟨i,cs,M,e,a,_⟩:=h;rw [f] at e;cases e
 match cs,a with
 |c::cs,a=>
  have h:=a.1;generalize g:(D.int n)=x at h;cases h with
  |int k m d hr b=>
   subst g;have b:n=m:=b;subst b;rcases hr with hr|hr
   ·cases hr
   ·exact hr
end
end Fdm

