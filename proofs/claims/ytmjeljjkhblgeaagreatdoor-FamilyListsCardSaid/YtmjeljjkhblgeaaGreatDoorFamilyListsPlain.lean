/- What is proved: what the plain functions over data say, whose trees the text before writes out: the law FamilyLists answers true. Conditions: those that each theorem states. -/
import Derived.Test.YtmjeljjkhblgeaaGreatDoorFamilyListsTree
set_option linter.unusedVariables false
set_option linter.unusedSectionVars false
set_option linter.unusedSimpArgs false
namespace Go.AE
section
variable [BX]
def atV (Ts:List (List (Tr Plf))) (xs:List D):Val:=I8 (DZ Ts) xs
def fin (Ts:List (List (Tr Plf))) (k:Nat) (V:Val):Plf→D
 |.stuck=>.row []
 |.done s cs=>.row (.int (s+1:Nat)::cs.map (Ac V))
 |.next j θ=>DZ Ts k (.row (.int j::θ.map (Ac V)))
def Pc (Ts:List (List (Tr Plf))) (k:Nat) (V:Val) (t:Tr Plf):D:=fin Ts k V (t.get V)
theorem rR {Ts:List (List (Tr Plf))} (h:GD 0 Ts=true) {k p:Nat} {T:List (Tr Plf)} {t:Tr Plf} {xs:List D} (hk:Ts[k]?=some T) (hp:T[p]?=some t) :
  DZ Ts k (.row (.int (p:Nat)::xs))=Pc Ts k (atV Ts xs) t:=by
 have hd:Cr T (DZ Ts) (.row (.int (p:Nat)::xs))=CO (atV Ts xs) (t.get (atV Ts xs)):=by
  show (match T[p]? with|some t=>CO _ (t.get _)|none=>none)=_
  rw [hp];rfl
 unfold Pc fin;split
 ·rename_i e;rw [e] at hd;rw [FN h hk];rcases Ep (Cr T (DZ Ts)) (.row (.int (p:Nat)::xs)) with q|⟨n,q⟩
  ·exact q
  ·cases n with
   |zero=>cases q
   |succ n=>
    simp only [EA,hd] at q;cases q
 ·rename_i e;rw [e] at hd;rw [FN h hk];exact M9 hd
 ·rename_i e;rw [e] at hd;rw [FN h hk,NL hd,←FN h hk]
theorem OP {Ts:List (List (Tr Plf))} {k:Nat} {V:Val} {e:SB} {a b:Tr Plf}:Pc Ts k V (.split e a b)=if Ai V e=true then Pc Ts k V a else Pc Ts k V b:=by
 unfold Pc;rw [show (Tr.split e a b).get V=match Ai V e with|true=>a.get V|false=>b.get V from rfl]
 cases Ai V e<;>rfl
end
def len (d:D):Nat:=d.rows.length
def dn (d:D):Nat:=d.toStr.data.toList.length
def cl (a:D) (i:Int) (j:Nat):D:=(a.rows.getD i.toNat default).cells.getD j default
def sl (a:D) (j:Nat):D:=a.cells.getD j default
def ad (a r:D):D:=.slc false (a.rows++[r])
def upd (a:D) (i:Int) (j:Nat) (x:D):D:=.slc a.isNil (a.rows.modify i.toNat fun r=>.row (r.cells.set j x))
def sb (a:D) (lo hi:Int):D:=.slc a.isNil ((a.rows.drop lo.toNat).take (hi.toNat-lo.toNat))
theorem ifT {α:Type} {p:Prop} [Decidable p] {a b:α} (h:p):cond (decide p) a b=a:=by rw [decide_eq_true h];rfl
theorem ifF {α:Type} {p:Prop} [Decidable p] {a b:α} (h:¬p):cond (decide p) a b=b:=by rw [decide_eq_false h];rfl
section
variable [BX]
def Dk (Ts:List (List (Tr Plf))) (k:Nat) (V:Val):Tr Plf→D
 |.leaf l=>fin Ts k V l
 |.split e a b=>cond (Ai V e) (Dk Ts k V a) (Dk Ts k V b)
theorem In {Ts:List (List (Tr Plf))} {k:Nat} {V:Val}:∀t:Tr Plf,Pc Ts k V t=Dk Ts k V t
 |.leaf l=>rfl
 |.split e a b=>by
  rw [OP,In a,In b,Dk];cases Ai V e<;>rfl
theorem WR {Ts:List (List (Tr Plf))} (h:GD 0 Ts=true) {k p:Nat} {T:List (Tr Plf)} {t:Tr Plf} {xs:List D} (hk:Ts[k]?=some T) (hp:T[p]?=some t) :
  DZ Ts k (.row (.int (p:Nat)::xs))=Dk Ts k (atV Ts xs) t:=(rR h hk hp).trans (In t)
theorem cg {Ts:List (List (Tr Plf))} {k:Nat} {V:Val} {e:SB} {a b:Tr Plf} {c:Bool} {x y:D} (h:Ai V e=c) (ha:Dk Ts k V a=x) (hb:Dk Ts k V b=y):Dk Ts k V (.split e a b)=cond c x y:=by
 rw [Dk,h,ha,hb]
end
theorem lE {V:Val} {a b:SE} {x y:Int} (h:(Ac V a).toInt=x) (h':(Ac V b).toInt=y):Ai V (.lss a b)=decide (x<y):=by rw [←h,←h'];rfl
theorem qE {V:Val} {a b:SE} {x y:Int} (h:(Ac V a).toInt=x) (h':(Ac V b).toInt=y):Ai V (.eql a b)=decide (x=y):=by rw [←h,←h'];rfl
section
variable [BX]
theorem cL {Ts:List (List (Tr Plf))} {k:Nat} {V:Val} {e f:SE} {a b:Tr Plf} {m n:Int} {x y:D} (ha:Dk Ts k V a=x) (hb:Dk Ts k V b=y) (h:(Ac V e).toInt=m:=by rfl) (h':(Ac V f).toInt=n:=by rfl):Dk Ts k V (.split (.lss e f) a b)=cond (decide (m<n)) x y:=cg (lE h h') ha hb
theorem cQ {Ts:List (List (Tr Plf))} {k:Nat} {V:Val} {e f:SE} {a b:Tr Plf} {m n:Int} {x y:D} (ha:Dk Ts k V a=x) (hb:Dk Ts k V b=y) (h:(Ac V e).toInt=m:=by rfl) (h':(Ac V f).toInt=n:=by rfl):Dk Ts k V (.split (.eql e f) a b)=cond (decide (m=n)) x y:=cg (qE h h') ha hb
end
theorem TF {P:Program} {ts:List TypeId} {xs:List D} {ks:List Kd} (h:M4 P ts xs) (hk:Bl (Env.of P) ts=some ks):ks.length=xs.length∧Ma (Env.of P).kinds 9 ks xs:=by
 obtain ⟨ks',cs,M,e,hd,_,hc⟩:=h;rw [hk] at e;cases e;exact ⟨hd.len.2,hc⟩
theorem Hg.cell {K:TypeId→Option (List Kd)} {m j:Nat} {e:TypeId} {ks:List Kd} {kd:Kd} {d:D} {i:Int} (h:Hg K (m+1) (.slice e) d) (hk:K e=some ks) (h0:0≤i) (hi:i<len d) (hj:ks[j]?=some kd):Hg K m kd (cl d i j):=by
 obtain ⟨nl,rows,rfl,_,q⟩:=h;have hi':i.toNat<rows.length:=by have:len (.slc nl rows)=rows.length:=rfl;omega
 obtain ⟨cs,e1,_,e3⟩:=q ks hk _ (List.getElem_mem hi');show Hg K m kd ((rows[i.toNat]?.getD default).cells.getD j default);rw [List.getElem?_eq_getElem hi',Option.getD_some,e1];exact e3 j kd hj
theorem Hg.toI {K:TypeId→Option (List Kd)} {m:Nat} {k:IntKind} {d:D} (h:Hg K m (.int k) d):∃n,d=.int n:=by cases m<;>exact h
theorem Hg.toB {K:TypeId→Option (List Kd)} {m:Nat} {d:D} (h:Hg K m .bool d):∃b,d=.bool b:=by cases m<;>exact h
def fdG (p:Nat→Bool):Nat→Nat→Int
 |0,_=>-1
 |k+1,i=>cond (p i) (i:Int) (fdG p k (i+1))
theorem Td {p:Nat→Bool}:∀{k i:Nat},fdG p k i = -1∨(i:Int)≤fdG p k i
 |0,i=>.inl rfl
 |k+1,i=>by
  rw [fdG];cases p i
  ·show fdG p k (i+1)=_∨_≤fdG p k (i+1);rcases Td (p:=p) (k:=k) (i:=i+1) with h|h
   ·exact .inl h
   ·exact .inr (by omega)
  ·exact .inr (Int.le_refl _)
theorem Vz {F:Nat→D} {bad:Nat→Bool} {B:Nat→D} {n:Nat}:∀{k i:Nat},i+k=n→(∀j,i≤j→j<n→F j=cond (bad j) (B j) (F (j+1)))→F i=cond (decide (fdG bad k i<0)) (F n) (B (fdG bad k i).toNat)
 |0,i=>fun h _=>by
  have:i=n:=by omega
  subst this;rfl
 |k+1,i=>fun h hs=>by
  rw [hs i (Nat.le_refl _) (by omega),fdG]
  cases bad i
  ·exact Vz (by omega) fun j a b=>hs j (by omega) b
  ·show B i=cond (decide ((i:Int)<0)) _ (B (i:Int).toNat);rw [ifF (by omega)]
   rfl
theorem Rv {F:Nat→D} {bad:Nat→Bool} {B:Nat→D} {n:Nat} (hs:∀j,j<n→F j=cond (bad j) (B j) (F (j+1))):F 0=cond (decide (fdG bad n 0<0)) (F n) (B (fdG bad n 0).toNat):=Vz (by omega) fun j _ b=>hs j b
theorem find {F:Nat→D} {bad:Nat→Bool} {n:Nat} (hs:∀j,j<n→F j=cond (bad j) (.row [.int 1,.int (j:Nat)]) (F (j+1))) (hr:F n=.row [.int 1,.int (-1)]):F 0=.row [.int 1,.int (fdG bad n 0)]:=by
 rw [Rv hs,hr];have h:=Td (p:=bad) (k:=n) (i:=0);by_cases q:fdG bad n 0<0
 ·rw [ifT q];rcases h with h|h
  ·rw [h]
  ·omega
 ·rw [ifF q];have:((fdG bad n 0).toNat:Int)=fdG bad n 0:=by omega
  rw [this]
theorem ShK.cell {K:TypeId→Option (List Kd)} {o:Option Nat} {m j:Nat} {e:TypeId} {ks:List Kd} {kd:Kd} {d:D} {i:Nat} (h:ShK K o (m+1) (.slice e) d) (hk:K e=some ks) (hi:i<len d) (hj:ks[j]?=some kd):ShK K o m kd (cl d i j):=h.2 ks hk i hi j kd hj
theorem ShK.rows {K:TypeId→Option (List Kd)} {b m:Nat} {e:TypeId} {d:D} (h:ShK K (some b) (m+1) (.slice e) d):len d≤b:=h.1 b rfl
theorem ShK.text {K:TypeId→Option (List Kd)} {b m:Nat} {d:D} (h:ShK K (some b) m .str d):dn d≤b:=by
 have:leB (some b) (dn d):=by cases m<;>exact h
 exact this b rfl
end Go.AE
set_option maxRecDepth 100000
namespace Fl
open Go Go.AE
theorem lt:GD 0 ts=true:=by decide
theorem gw [BX] {k p:Nat} {T:List (Tr Plf)} {t:Tr Plf} {xs:List D} {x:D} (hk:ts[k]?=some T) (hp:T[p]?=some t) (h:Dk ts k (atV ts xs) t=x):DZ ts k (.row (.int (p:Nat)::xs))=x:=(WR lt hk hp).trans h
section
variable [BX]
def Kr (v0 v1 v2 v3:D):D:=DZ ts 0 (.row [.int (0:Nat),v0,v1,v2,v3])
def A6 (v0 v1 v2 v3 v4:D):D:=DZ ts 0 (.row [.int (1:Nat),v0,v1,v2,v3,v4])
def fE (v0:D):D:=DZ ts 1 (.row [.int (0:Nat),v0])
def cu (v0:D):D:=DZ ts 1 (.row [.int (1:Nat),v0])
def Uc (v0:D):D:=DZ ts 1 (.row [.int (2:Nat),v0])
def XW (v0:D):D:=DZ ts 1 (.row [.int (3:Nat),v0])
theorem gR (v0:Int) (v1:Bool) (v2 v3:Int):Kr (.int v0) (.bool v1) (.int v2) (.int v3) =
 A6 (.int 0) (.int v0) (.bool v1) (.int v2) (.int v3):=gw rfl rfl rfl
theorem Mm (v0 v1:Int) (v2:Bool) (v3 v4:Int):A6 (.int v0) (.int v1) (.bool v2) (.int v3) (.int v4) =
  cond (v0<8) (
 cond (v0=0) (
 cond (v0=v4) (
 cond (v4<8) (
 cond (v4=0) (
 cond (v3=0) (
 cond ((IntKind.wrap .i64 (v4+1))<v1) (
 A6 (.int (IntKind.wrap .i64 (v0+1))) (.int v1) (.bool v2) (.int v3) (.int (IntKind.wrap .i64 (v4+1)))) (
 .row [.int 1,(.int (IntKind.wrap .i64 (v4+1)))])) (
 A6 (.int (IntKind.wrap .i64 (v0+1))) (.int v1) (.bool v2) (.int v3) (.int (IntKind.wrap .i64 (v4+1))))) (
 cond (v4=1) (
 .row [.int 2,(.int v4)]) (
 cond (v4=2) (
 .row [.int 2,(.int v4)]) (
 cond (v4=3) (
 .row [.int 2,(.int v4)]) (
 cond (v4=4) (
 .row [.int 2,(.int v4)]) (
 cond (v4=5) (
 .row [.int 2,(.int v4)]) (
 cond (v4=6) (
 .row [.int 2,(.int v4)]) (
 cond (v4=7) (
 .row [.int 2,(.int v4)]) (
 .row []))))))))) (
 .row [.int 2,(.int v4)])) (
 .row [.int 2,(.int v4)])) (
 cond (v0=1) (
 cond (v0=v4) (
 cond (v4<8) (
 cond (v4=0) (
 .row [.int 2,(.int v4)]) (
 cond (v4=1) (
 cond (v3=0) (
 cond ((IntKind.wrap .i64 (v4+1))<v1) (
 A6 (.int (IntKind.wrap .i64 (v0+1))) (.int v1) (.bool v2) (.int v3) (.int (IntKind.wrap .i64 (v4+1)))) (
 .row [.int 1,(.int (IntKind.wrap .i64 (v4+1)))])) (
 A6 (.int (IntKind.wrap .i64 (v0+1))) (.int v1) (.bool v2) (.int v3) (.int (IntKind.wrap .i64 (v4+1))))) (
 cond (v4=2) (
 .row [.int 2,(.int v4)]) (
 cond (v4=3) (
 .row [.int 2,(.int v4)]) (
 cond (v4=4) (
 .row [.int 2,(.int v4)]) (
 cond (v4=5) (
 .row [.int 2,(.int v4)]) (
 cond (v4=6) (
 .row [.int 2,(.int v4)]) (
 cond (v4=7) (
 .row [.int 2,(.int v4)]) (
 .row []))))))))) (
 .row [.int 2,(.int v4)])) (
 .row [.int 2,(.int v4)])) (
 cond (v0=2) (
 cond (v0=v4) (
 cond (v4<8) (
 cond (v4=0) (
 .row [.int 2,(.int v4)]) (
 cond (v4=1) (
 .row [.int 2,(.int v4)]) (
 cond (v4=2) (
 cond (v3=0) (
 cond ((IntKind.wrap .i64 (v4+1))<v1) (
 A6 (.int (IntKind.wrap .i64 (v0+1))) (.int v1) (.bool v2) (.int v3) (.int (IntKind.wrap .i64 (v4+1)))) (
 .row [.int 1,(.int (IntKind.wrap .i64 (v4+1)))])) (
 A6 (.int (IntKind.wrap .i64 (v0+1))) (.int v1) (.bool v2) (.int v3) (.int (IntKind.wrap .i64 (v4+1))))) (
 cond (v4=3) (
 .row [.int 2,(.int v4)]) (
 cond (v4=4) (
 .row [.int 2,(.int v4)]) (
 cond (v4=5) (
 .row [.int 2,(.int v4)]) (
 cond (v4=6) (
 .row [.int 2,(.int v4)]) (
 cond (v4=7) (
 .row [.int 2,(.int v4)]) (
 .row []))))))))) (
 .row [.int 2,(.int v4)])) (
 .row [.int 2,(.int v4)])) (
 cond (v0=3) (
 cond (v0=v4) (
 cond (v4<8) (
 cond (v4=0) (
 .row [.int 2,(.int v4)]) (
 cond (v4=1) (
 .row [.int 2,(.int v4)]) (
 cond (v4=2) (
 .row [.int 2,(.int v4)]) (
 cond (v4=3) (
 cond (v3=0) (
 cond ((IntKind.wrap .i64 (v4+1))<v1) (
 A6 (.int (IntKind.wrap .i64 (v0+1))) (.int v1) (.bool v2) (.int v3) (.int (IntKind.wrap .i64 (v4+1)))) (
 .row [.int 1,(.int (IntKind.wrap .i64 (v4+1)))])) (
 A6 (.int (IntKind.wrap .i64 (v0+1))) (.int v1) (.bool v2) (.int v3) (.int (IntKind.wrap .i64 (v4+1))))) (
 cond (v4=4) (
 .row [.int 2,(.int v4)]) (
 cond (v4=5) (
 .row [.int 2,(.int v4)]) (
 cond (v4=6) (
 .row [.int 2,(.int v4)]) (
 cond (v4=7) (
 .row [.int 2,(.int v4)]) (
 .row []))))))))) (
 .row [.int 2,(.int v4)])) (
 .row [.int 2,(.int v4)])) (
 cond (v0=4) (
 cond (v0=v4) (
 cond (v4<8) (
 cond (v4=0) (
 .row [.int 2,(.int v4)]) (
 cond (v4=1) (
 .row [.int 2,(.int v4)]) (
 cond (v4=2) (
 .row [.int 2,(.int v4)]) (
 cond (v4=3) (
 .row [.int 2,(.int v4)]) (
 cond (v4=4) (
 cond (v3=0) (
 cond ((IntKind.wrap .i64 (v4+1))<v1) (
 A6 (.int (IntKind.wrap .i64 (v0+1))) (.int v1) (.bool v2) (.int v3) (.int (IntKind.wrap .i64 (v4+1)))) (
 .row [.int 1,(.int (IntKind.wrap .i64 (v4+1)))])) (
 A6 (.int (IntKind.wrap .i64 (v0+1))) (.int v1) (.bool v2) (.int v3) (.int (IntKind.wrap .i64 (v4+1))))) (
 cond (v4=5) (
 .row [.int 2,(.int v4)]) (
 cond (v4=6) (
 .row [.int 2,(.int v4)]) (
 cond (v4=7) (
 .row [.int 2,(.int v4)]) (
 .row []))))))))) (
 .row [.int 2,(.int v4)])) (
 .row [.int 2,(.int v4)])) (
 cond (v0=5) (
 cond (v0=v4) (
 cond (v4<8) (
 cond (v4=0) (
 .row [.int 2,(.int v4)]) (
 cond (v4=1) (
 .row [.int 2,(.int v4)]) (
 cond (v4=2) (
 .row [.int 2,(.int v4)]) (
 cond (v4=3) (
 .row [.int 2,(.int v4)]) (
 cond (v4=4) (
 .row [.int 2,(.int v4)]) (
 cond (v4=5) (
 cond (v3=0) (
 cond ((IntKind.wrap .i64 (v4+1))<v1) (
 A6 (.int (IntKind.wrap .i64 (v0+1))) (.int v1) (.bool v2) (.int v3) (.int (IntKind.wrap .i64 (v4+1)))) (
 .row [.int 1,(.int (IntKind.wrap .i64 (v4+1)))])) (
 A6 (.int (IntKind.wrap .i64 (v0+1))) (.int v1) (.bool v2) (.int v3) (.int (IntKind.wrap .i64 (v4+1))))) (
 cond (v4=6) (
 .row [.int 2,(.int v4)]) (
 cond (v4=7) (
 .row [.int 2,(.int v4)]) (
 .row []))))))))) (
 .row [.int 2,(.int v4)])) (
 .row [.int 2,(.int v4)])) (
 cond (v0=6) (
 cond (v0=v4) (
 cond (v4<8) (
 cond (v4=0) (
 .row [.int 2,(.int v4)]) (
 cond (v4=1) (
 .row [.int 2,(.int v4)]) (
 cond (v4=2) (
 .row [.int 2,(.int v4)]) (
 cond (v4=3) (
 .row [.int 2,(.int v4)]) (
 cond (v4=4) (
 .row [.int 2,(.int v4)]) (
 cond (v4=5) (
 .row [.int 2,(.int v4)]) (
 cond (v4=6) (
 cond (v3=0) (
 cond ((IntKind.wrap .i64 (v4+1))<v1) (
 A6 (.int (IntKind.wrap .i64 (v0+1))) (.int v1) (.bool v2) (.int v3) (.int (IntKind.wrap .i64 (v4+1)))) (
 .row [.int 1,(.int (IntKind.wrap .i64 (v4+1)))])) (
 A6 (.int (IntKind.wrap .i64 (v0+1))) (.int v1) (.bool v2) (.int v3) (.int (IntKind.wrap .i64 (v4+1))))) (
 cond (v4=7) (
 .row [.int 2,(.int v4)]) (
 .row []))))))))) (
 .row [.int 2,(.int v4)])) (
 .row [.int 2,(.int v4)])) (
 cond (v0=7) (
 cond (v0=v4) (
 cond (v4<8) (
 cond (v4=0) (
 .row [.int 2,(.int v4)]) (
 cond (v4=1) (
 .row [.int 2,(.int v4)]) (
 cond (v4=2) (
 .row [.int 2,(.int v4)]) (
 cond (v4=3) (
 .row [.int 2,(.int v4)]) (
 cond (v4=4) (
 .row [.int 2,(.int v4)]) (
 cond (v4=5) (
 .row [.int 2,(.int v4)]) (
 cond (v4=6) (
 .row [.int 2,(.int v4)]) (
 cond (v4=7) (
 cond (v3=0) (
 cond ((IntKind.wrap .i64 (v4+1))<v1) (
 A6 (.int (IntKind.wrap .i64 (v0+1))) (.int v1) (.bool v2) (.int v3) (.int (IntKind.wrap .i64 (v4+1)))) (
 .row [.int 1,(.int (IntKind.wrap .i64 (v4+1)))])) (
 A6 (.int (IntKind.wrap .i64 (v0+1))) (.int v1) (.bool v2) (.int v3) (.int (IntKind.wrap .i64 (v4+1))))) (
 .row []))))))))) (
 .row [.int 2,(.int v4)])) (
 .row [.int 2,(.int v4)])) (
 .row []))))))))) (
 .row [.int 3,(.int v4)]):=gw rfl rfl (cL (cQ (cQ (cL (cQ (cQ rfl rfl) (cQ rfl (cQ rfl (cQ rfl (cQ rfl (cQ rfl (cQ rfl (cQ rfl rfl)))))))) rfl) rfl) (cQ (cQ (cL (cQ rfl (cQ (cQ rfl rfl) (cQ rfl (cQ rfl (cQ rfl (cQ rfl (cQ rfl (cQ rfl rfl)))))))) rfl) rfl) (cQ (cQ (cL (cQ rfl (cQ rfl (cQ (cQ rfl rfl) (cQ rfl (cQ rfl (cQ rfl (cQ rfl (cQ rfl rfl)))))))) rfl) rfl) (cQ (cQ (cL (cQ rfl (cQ rfl (cQ rfl (cQ (cQ rfl rfl) (cQ rfl (cQ rfl (cQ rfl (cQ rfl rfl)))))))) rfl) rfl) (cQ (cQ (cL (cQ rfl (cQ rfl (cQ rfl (cQ rfl (cQ (cQ rfl rfl) (cQ rfl (cQ rfl (cQ rfl rfl)))))))) rfl) rfl) (cQ (cQ (cL (cQ rfl (cQ rfl (cQ rfl (cQ rfl (cQ rfl (cQ (cQ rfl rfl) (cQ rfl (cQ rfl rfl)))))))) rfl) rfl) (cQ (cQ (cL (cQ rfl (cQ rfl (cQ rfl (cQ rfl (cQ rfl (cQ rfl (cQ (cQ rfl rfl) (cQ rfl rfl)))))))) rfl) rfl) (cQ (cQ (cL (cQ rfl (cQ rfl (cQ rfl (cQ rfl (cQ rfl (cQ rfl (cQ rfl (cQ (cQ rfl rfl) rfl)))))))) rfl) rfl) rfl)))))))) rfl)
theorem oF (v0:Int):fE (.int v0) =
 cu (.int v0):=gw rfl rfl rfl
theorem n8 (v0:Int):cu (.int v0) =
  cond ((sl (Kr (.int v0) (.bool false) (.int 0) (.int 0)) 0).toInt=1) (
 Uc (.int v0)) (
 cond ((sl (Kr (.int v0) (.bool false) (.int 0) (.int 0)) 0).toInt=2) (
 .row [.int 1,(.bool false)]) (
 cond ((sl (Kr (.int v0) (.bool false) (.int 0) (.int 0)) 0).toInt=3) (
 Uc (.int v0)) (
 .row []))):=gw rfl rfl (cQ rfl (cQ rfl (cQ rfl rfl)))
theorem oZ (v0:Int):Uc (.int v0) =
  cond ((sl (Kr (.int v0) (.bool false) (.int 1) (.int 0)) 0).toInt=1) (
 cond ((sl (Kr (.int v0) (.bool false) (.int 1) (.int 0)) 1).toInt=8) (
 XW (.int v0)) (
 .row [.int 1,(.bool false)])) (
 cond ((sl (Kr (.int v0) (.bool false) (.int 1) (.int 0)) 0).toInt=2) (
 .row [.int 1,(.bool false)]) (
 cond ((sl (Kr (.int v0) (.bool false) (.int 1) (.int 0)) 0).toInt=3) (
 cond ((sl (Kr (.int v0) (.bool false) (.int 1) (.int 0)) 1).toInt=8) (
 XW (.int v0)) (
 .row [.int 1,(.bool false)])) (
 .row []))):=gw rfl rfl (cQ (cQ rfl rfl) (cQ rfl (cQ (cQ rfl rfl) rfl)))
theorem s8 (v0:Int):XW (.int v0) =
 .row [.int 1,(.bool true)]:=gw rfl rfl rfl
end
end Fl
namespace Fl
open Go Go.AE
section
variable [BX]
theorem w1:IntKind.wrap .i64 ((0:Int)+1)=1:=by decide
theorem w2:IntKind.wrap .i64 ((1:Int)+1)=2:=by decide
theorem w3:IntKind.wrap .i64 ((2:Int)+1)=3:=by decide
theorem w4:IntKind.wrap .i64 ((3:Int)+1)=4:=by decide
theorem w5:IntKind.wrap .i64 ((4:Int)+1)=5:=by decide
theorem w6:IntKind.wrap .i64 ((5:Int)+1)=6:=by decide
theorem w7:IntKind.wrap .i64 ((6:Int)+1)=7:=by decide
theorem w8:IntKind.wrap .i64 ((7:Int)+1)=8:=by decide
theorem at8 (m t:Int):A6 (.int 8) (.int m) (.bool false) (.int t) (.int 8)=.row [.int 3,.int 8]:=by
 rw [Mm];rfl
theorem s0 (m t:Int):A6 (.int 0) (.int m) (.bool false) (.int t) (.int 0)=cond (decide (t=0)) (cond (decide ((1:Int)<m)) (A6 (.int 1) (.int m) (.bool false) (.int t) (.int 1)) (.row [.int 1,.int 1])) (A6 (.int 1) (.int m) (.bool false) (.int t) (.int 1)):=by
 rw [Mm,w1];rfl
theorem s1 (m t:Int):A6 (.int 1) (.int m) (.bool false) (.int t) (.int 1)=cond (decide (t=0)) (cond (decide ((2:Int)<m)) (A6 (.int 2) (.int m) (.bool false) (.int t) (.int 2)) (.row [.int 1,.int 2])) (A6 (.int 2) (.int m) (.bool false) (.int t) (.int 2)):=by
 rw [Mm,w2];rfl
theorem s2 (m t:Int):A6 (.int 2) (.int m) (.bool false) (.int t) (.int 2)=cond (decide (t=0)) (cond (decide ((3:Int)<m)) (A6 (.int 3) (.int m) (.bool false) (.int t) (.int 3)) (.row [.int 1,.int 3])) (A6 (.int 3) (.int m) (.bool false) (.int t) (.int 3)):=by
 rw [Mm,w3];rfl
theorem s3 (m t:Int):A6 (.int 3) (.int m) (.bool false) (.int t) (.int 3)=cond (decide (t=0)) (cond (decide ((4:Int)<m)) (A6 (.int 4) (.int m) (.bool false) (.int t) (.int 4)) (.row [.int 1,.int 4])) (A6 (.int 4) (.int m) (.bool false) (.int t) (.int 4)):=by
 rw [Mm,w4];rfl
theorem s4 (m t:Int):A6 (.int 4) (.int m) (.bool false) (.int t) (.int 4)=cond (decide (t=0)) (cond (decide ((5:Int)<m)) (A6 (.int 5) (.int m) (.bool false) (.int t) (.int 5)) (.row [.int 1,.int 5])) (A6 (.int 5) (.int m) (.bool false) (.int t) (.int 5)):=by
 rw [Mm,w5];rfl
theorem s5 (m t:Int):A6 (.int 5) (.int m) (.bool false) (.int t) (.int 5)=cond (decide (t=0)) (cond (decide ((6:Int)<m)) (A6 (.int 6) (.int m) (.bool false) (.int t) (.int 6)) (.row [.int 1,.int 6])) (A6 (.int 6) (.int m) (.bool false) (.int t) (.int 6)):=by
 rw [Mm,w6];rfl
theorem s6 (m t:Int):A6 (.int 6) (.int m) (.bool false) (.int t) (.int 6)=cond (decide (t=0)) (cond (decide ((7:Int)<m)) (A6 (.int 7) (.int m) (.bool false) (.int t) (.int 7)) (.row [.int 1,.int 7])) (A6 (.int 7) (.int m) (.bool false) (.int t) (.int 7)):=by
 rw [Mm,w7];rfl
theorem s7 (m t:Int):A6 (.int 7) (.int m) (.bool false) (.int t) (.int 7)=cond (decide (t=0)) (cond (decide ((8:Int)<m)) (A6 (.int 8) (.int m) (.bool false) (.int t) (.int 8)) (.row [.int 1,.int 8])) (A6 (.int 8) (.int m) (.bool false) (.int t) (.int 8)):=by
 rw [Mm,w8];rfl
theorem uy (m:Int):Kr (.int m) (.bool false) (.int 1) (.int 0)=.row [.int 3,.int 8]:=by
 rw [gR];rw [s0,ifF (by decide)]
 rw [s1,ifF (by decide)]
 rw [s2,ifF (by decide)]
 rw [s3,ifF (by decide)]
 rw [s4,ifF (by decide)]
 rw [s5,ifF (by decide)]
 rw [s6,ifF (by decide)]
 rw [s7,ifF (by decide)]
 exact at8 m 1
def K0 (d:D):Prop:=∃n:Int,d=.row [.int 1,.int n]∨d=.row [.int 3,.int n]
theorem z8 (m:Int):K0 (A6 (.int 8) (.int m) (.bool false) (.int 0) (.int 8)):=⟨8,.inr (at8 m 0)⟩
theorem z7 (m:Int):K0 (A6 (.int 7) (.int m) (.bool false) (.int 0) (.int 7)):=by
 rw [s7,ifT rfl];by_cases c:(8:Int)<m
 ·rw [ifT c];exact z8 m
 ·rw [ifF c];exact ⟨8,.inl rfl⟩
theorem z6 (m:Int):K0 (A6 (.int 6) (.int m) (.bool false) (.int 0) (.int 6)):=by
 rw [s6,ifT rfl];by_cases c:(7:Int)<m
 ·rw [ifT c];exact z7 m
 ·rw [ifF c];exact ⟨7,.inl rfl⟩
theorem z5 (m:Int):K0 (A6 (.int 5) (.int m) (.bool false) (.int 0) (.int 5)):=by
 rw [s5,ifT rfl];by_cases c:(6:Int)<m
 ·rw [ifT c];exact z6 m
 ·rw [ifF c];exact ⟨6,.inl rfl⟩
theorem z4 (m:Int):K0 (A6 (.int 4) (.int m) (.bool false) (.int 0) (.int 4)):=by
 rw [s4,ifT rfl];by_cases c:(5:Int)<m
 ·rw [ifT c];exact z5 m
 ·rw [ifF c];exact ⟨5,.inl rfl⟩
theorem z3 (m:Int):K0 (A6 (.int 3) (.int m) (.bool false) (.int 0) (.int 3)):=by
 rw [s3,ifT rfl];by_cases c:(4:Int)<m
 ·rw [ifT c];exact z4 m
 ·rw [ifF c];exact ⟨4,.inl rfl⟩
theorem z2 (m:Int):K0 (A6 (.int 2) (.int m) (.bool false) (.int 0) (.int 2)):=by
 rw [s2,ifT rfl];by_cases c:(3:Int)<m
 ·rw [ifT c];exact z3 m
 ·rw [ifF c];exact ⟨3,.inl rfl⟩
theorem z1 (m:Int):K0 (A6 (.int 1) (.int m) (.bool false) (.int 0) (.int 1)):=by
 rw [s1,ifT rfl];by_cases c:(2:Int)<m
 ·rw [ifT c];exact z2 m
 ·rw [ifF c];exact ⟨2,.inl rfl⟩
theorem z0 (m:Int):K0 (A6 (.int 0) (.int m) (.bool false) (.int 0) (.int 0)):=by
 rw [s0,ifT rfl];by_cases c:(1:Int)<m
 ·rw [ifT c];exact z1 m
 ·rw [ifF c];exact ⟨1,.inl rfl⟩
theorem law (m:Int):fE (.int m)=.row [.int 1,.bool true]:=by
 have h2:Uc (.int m)=.row [.int 1,.bool true]:=by
  rw [oZ,uy,s8];rfl
 rw [oF,n8,h2];have h0:K0 (Kr (.int m) (.bool false) (.int 0) (.int 0)):=by rw [gR];exact z0 m
 obtain ⟨n,h|h⟩:=h0<;>rw [h]<;>rfl
end
end Fl

