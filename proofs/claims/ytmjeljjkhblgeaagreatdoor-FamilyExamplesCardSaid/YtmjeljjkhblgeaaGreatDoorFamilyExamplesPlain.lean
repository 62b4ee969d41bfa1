/- What is proved: what the plain functions over data say, whose trees the text before writes out: the law FamilyExamples answers true. Conditions: those that each theorem states. -/
import Derived.Test.YtmjeljjkhblgeaaGreatDoorFamilyExamplesTree
set_option linter.unusedVariables false
set_option linter.unusedSectionVars false
set_option linter.unusedSimpArgs false
namespace Go.AE
section
variable [Cq]
def atV (Ts:List (List (Tr Plf))) (xs:List D):Val:=IY (FW Ts) xs
def fin (Ts:List (List (Tr Plf))) (k:Nat) (V:Val):Plf→D
 |.stuck=>.row []
 |.done s cs=>.row (.int (s+1:Nat)::cs.map (Af V))
 |.next j θ=>FW Ts k (.row (.int j::θ.map (Af V)))
def O0 (Ts:List (List (Tr Plf))) (k:Nat) (V:Val) (t:Tr Plf):D:=fin Ts k V (t.get V)
theorem yj {Ts:List (List (Tr Plf))} (h:Gt 0 Ts=true) {k p:Nat} {T:List (Tr Plf)} {t:Tr Plf} {xs:List D} (hk:Ts[k]?=some T) (hp:T[p]?=some t) :
  FW Ts k (.row (.int (p:Nat)::xs))=O0 Ts k (atV Ts xs) t:=by
 have hd:Df T (FW Ts) (.row (.int (p:Nat)::xs))=CI (atV Ts xs) (t.get (atV Ts xs)):=by
  show (match T[p]? with|some t=>CI _ (t.get _)|none=>none)=_
  rw [hp];rfl
 unfold O0 fin;split
 ·rename_i e;rw [e] at hd;rw [GQ h hk];rcases FB (Df T (FW Ts)) (.row (.int (p:Nat)::xs)) with q|⟨n,q⟩
  ·exact q
  ·cases n with
   |zero=>cases q
   |succ n=>
    simp only [Er,hd] at q;cases q
 ·rename_i e;rw [e] at hd;rw [GQ h hk];exact MY hd
 ·rename_i e;rw [e] at hd;rw [GQ h hk,NA hd,←GQ h hk]
theorem OD {Ts:List (List (Tr Plf))} {k:Nat} {V:Val} {e:SB} {a b:Tr Plf}:O0 Ts k V (.split e a b)=if Ai V e=true then O0 Ts k V a else O0 Ts k V b:=by
 unfold O0;rw [show (Tr.split e a b).get V=match Ai V e with|true=>a.get V|false=>b.get V from rfl]
 cases Ai V e<;>rfl
end
theorem TK {a:Int} (h:-9223372036854775808≤a) (h':a<9223372036854775808):IntKind.wrap .i64 a=a:=by
 show (if (true&&decide (a%(2^64:Int)≥2^63))=true then a%(2^64:Int)-2^64 else a%(2^64:Int))=a
 split
 ·rename_i q;simp only [Bool.true_and,decide_eq_true_eq] at q;omega
 ·rename_i q;simp only [Bool.true_and,decide_eq_true_eq] at q;omega
def len (d:D):Nat:=d.rows.length
def Uv (d:D):Nat:=d.toStr.data.toList.length
def cl (a:D) (i:Int) (j:Nat):D:=(a.rows.getD i.toNat default).cells.getD j default
def ad (a r:D):D:=.slc false (a.rows++[r])
def upd (a:D) (i:Int) (j:Nat) (x:D):D:=.slc a.isNil (a.rows.modify i.toNat fun r=>.row (r.cells.set j x))
def sb (a:D) (lo hi:Int):D:=.slc a.isNil ((a.rows.drop lo.toNat).take (hi.toNat-lo.toNat))
def eqC (a:D) (l b:Nat):Bool:=strEq a.toStr.data.toList.length (As a.toStr.data.toList) l b
theorem ifT {α:Type} {p:Prop} [Decidable p] {a b:α} (h:p):cond (decide p) a b=a:=by rw [decide_eq_true h];rfl
theorem ifF {α:Type} {p:Prop} [Decidable p] {a b:α} (h:¬p):cond (decide p) a b=b:=by rw [decide_eq_false h];rfl
section
variable [Cq]
def De (Ts:List (List (Tr Plf))) (k:Nat) (V:Val):Tr Plf→D
 |.leaf l=>fin Ts k V l
 |.split e a b=>cond (Ai V e) (De Ts k V a) (De Ts k V b)
theorem Ic {Ts:List (List (Tr Plf))} {k:Nat} {V:Val}:∀t:Tr Plf,O0 Ts k V t=De Ts k V t
 |.leaf l=>rfl
 |.split e a b=>by
  rw [OD,Ic a,Ic b,De];cases Ai V e<;>rfl
theorem Xv {Ts:List (List (Tr Plf))} (h:Gt 0 Ts=true) {k p:Nat} {T:List (Tr Plf)} {t:Tr Plf} {xs:List D} (hk:Ts[k]?=some T) (hp:T[p]?=some t) :
  FW Ts k (.row (.int (p:Nat)::xs))=De Ts k (atV Ts xs) t:=(yj h hk hp).trans (Ic t)
theorem cg {Ts:List (List (Tr Plf))} {k:Nat} {V:Val} {e:SB} {a b:Tr Plf} {c:Bool} {x y:D} (h:Ai V e=c) (ha:De Ts k V a=x) (hb:De Ts k V b=y):De Ts k V (.split e a b)=cond c x y:=by
 rw [De,h,ha,hb]
end
theorem lE {V:Val} {a b:SE} {x y:Int} (h:(Af V a).toInt=x) (h':(Af V b).toInt=y):Ai V (.lss a b)=decide (x<y):=by rw [←h,←h'];rfl
theorem qE {V:Val} {a b:SE} {x y:Int} (h:(Af V a).toInt=x) (h':(Af V b).toInt=y):Ai V (.eql a b)=decide (x=y):=by rw [←h,←h'];rfl
section
variable [Cq]
theorem cL {Ts:List (List (Tr Plf))} {k:Nat} {V:Val} {e f:SE} {a b:Tr Plf} {m n:Int} {x y:D} (ha:De Ts k V a=x) (hb:De Ts k V b=y) (h:(Af V e).toInt=m:=by rfl) (h':(Af V f).toInt=n:=by rfl):De Ts k V (.split (.lss e f) a b)=cond (decide (m<n)) x y:=cg (lE h h') ha hb
theorem cQ {Ts:List (List (Tr Plf))} {k:Nat} {V:Val} {e f:SE} {a b:Tr Plf} {m n:Int} {x y:D} (ha:De Ts k V a=x) (hb:De Ts k V b=y) (h:(Af V e).toInt=m:=by rfl) (h':(Af V f).toInt=n:=by rfl):De Ts k V (.split (.eql e f) a b)=cond (decide (m=n)) x y:=cg (qE h h') ha hb
end
theorem TC {P:Program} {ts:List TypeId} {xs:List D} {ks:List Kd} (h:Jg P ts xs) (hk:A8 (Env.of P) ts=some ks):ks.length=xs.length∧LZ (Env.of P).kinds 9 ks xs:=by
 obtain ⟨ks',cs,M,e,hd,_,hc⟩:=h;rw [hk] at e;cases e;exact ⟨hd.len.2,hc⟩
theorem G8.cell {K:TypeId→Option (List Kd)} {m j:Nat} {e:TypeId} {ks:List Kd} {kd:Kd} {d:D} {i:Int} (h:G8 K (m+1) (.slice e) d) (hk:K e=some ks) (h0:0≤i) (hi:i<len d) (hj:ks[j]?=some kd):G8 K m kd (cl d i j):=by
 obtain ⟨nl,rows,rfl,_,q⟩:=h;have hi':i.toNat<rows.length:=by have:len (.slc nl rows)=rows.length:=rfl;omega
 obtain ⟨cs,e1,_,e3⟩:=q ks hk _ (List.getElem_mem hi');show G8 K m kd ((rows[i.toNat]?.getD default).cells.getD j default);rw [List.getElem?_eq_getElem hi',Option.getD_some,e1];exact e3 j kd hj
theorem G8.toI {K:TypeId→Option (List Kd)} {m:Nat} {k:IntKind} {d:D} (h:G8 K m (.int k) d):∃n,d=.int n:=by cases m<;>exact h
theorem G8.toB {K:TypeId→Option (List Kd)} {m:Nat} {d:D} (h:G8 K m .bool d):∃b,d=.bool b:=by cases m<;>exact h
def fdG (p:Nat→Bool):Nat→Nat→Int
 |0,_=>-1
 |k+1,i=>cond (p i) (i:Int) (fdG p k (i+1))
theorem Ta {p:Nat→Bool}:∀{k i:Nat},fdG p k i = -1∨(i:Int)≤fdG p k i
 |0,i=>.inl rfl
 |k+1,i=>by
  rw [fdG];cases p i
  ·show fdG p k (i+1)=_∨_≤fdG p k (i+1);rcases Ta (p:=p) (k:=k) (i:=i+1) with h|h
   ·exact .inl h
   ·exact .inr (by omega)
  ·exact .inr (Int.le_refl _)
theorem V7 {F:Nat→D} {bad:Nat→Bool} {B:Nat→D} {n:Nat}:∀{k i:Nat},i+k=n→(∀j,i≤j→j<n→F j=cond (bad j) (B j) (F (j+1)))→F i=cond (decide (fdG bad k i<0)) (F n) (B (fdG bad k i).toNat)
 |0,i=>fun h _=>by
  have:i=n:=by omega
  subst this;rfl
 |k+1,i=>fun h hs=>by
  rw [hs i (Nat.le_refl _) (by omega),fdG]
  cases bad i
  ·exact V7 (by omega) fun j a b=>hs j (by omega) b
  ·show B i=cond (decide ((i:Int)<0)) _ (B (i:Int).toNat);rw [ifF (by omega)]
   rfl
theorem Rm {F:Nat→D} {bad:Nat→Bool} {B:Nat→D} {n:Nat} (hs:∀j,j<n→F j=cond (bad j) (B j) (F (j+1))):F 0=cond (decide (fdG bad n 0<0)) (F n) (B (fdG bad n 0).toNat):=V7 (by omega) fun j _ b=>hs j b
theorem find {F:Nat→D} {bad:Nat→Bool} {n:Nat} (hs:∀j,j<n→F j=cond (bad j) (.row [.int 1,.int (j:Nat)]) (F (j+1))) (hr:F n=.row [.int 1,.int (-1)]):F 0=.row [.int 1,.int (fdG bad n 0)]:=by
 rw [Rm hs,hr];have h:=Ta (p:=bad) (k:=n) (i:=0);by_cases q:fdG bad n 0<0
 ·rw [ifT q];rcases h with h|h
  ·rw [h]
  ·omega
 ·rw [ifF q];have:((fdG bad n 0).toNat:Int)=fdG bad n 0:=by omega
  rw [this]
theorem ShK.cell {K:TypeId→Option (List Kd)} {o:Option Nat} {m j:Nat} {e:TypeId} {ks:List Kd} {kd:Kd} {d:D} {i:Nat} (h:ShK K o (m+1) (.slice e) d) (hk:K e=some ks) (hi:i<len d) (hj:ks[j]?=some kd):ShK K o m kd (cl d i j):=h.2 ks hk i hi j kd hj
theorem ShK.rows {K:TypeId→Option (List Kd)} {b m:Nat} {e:TypeId} {d:D} (h:ShK K (some b) (m+1) (.slice e) d):len d≤b:=h.1 b rfl
theorem ShK.text {K:TypeId→Option (List Kd)} {b m:Nat} {d:D} (h:ShK K (some b) m .str d):Uv d≤b:=by
 have:leB (some b) (Uv d):=by cases m<;>exact h
 exact this b rfl
end Go.AE
set_option maxRecDepth 100000
namespace Fx
open Go Go.AE
theorem lt:Gt 0 ts=true:=by decide
theorem gw [Cq] {k p:Nat} {T:List (Tr Plf)} {t:Tr Plf} {xs:List D} {x:D} (hk:ts[k]?=some T) (hp:T[p]?=some t) (h:De ts k (atV ts xs) t=x):FW ts k (.row (.int (p:Nat)::xs))=x:=(Xv lt hk hp).trans h
section
variable [Cq]
def nD (v0 v1:D):D:=FW ts 0 (.row [.int (0:Nat),v0,v1])
theorem xD (v0:Int) (v1:D):nD (.int v0) v1 =
  cond ((IntKind.wrap .i64 v0)<8) (
 cond ((IntKind.wrap .i64 v0)=0) (
 .row [.int 1,(.bool true)]) (
 cond ((IntKind.wrap .i64 v0)=1) (
 .row [.int 1,(.bool true)]) (
 cond ((IntKind.wrap .i64 v0)=2) (
 .row [.int 1,(.bool true)]) (
 cond ((IntKind.wrap .i64 v0)=3) (
 .row [.int 1,(.bool true)]) (
 cond ((IntKind.wrap .i64 v0)=4) (
 .row [.int 1,(.bool true)]) (
 cond ((IntKind.wrap .i64 v0)=5) (
 .row [.int 1,(.bool true)]) (
 cond ((IntKind.wrap .i64 v0)=6) (
 .row [.int 1,(.bool true)]) (
 cond ((IntKind.wrap .i64 v0)=7) (
 .row [.int 1,(.bool true)]) (
 .row []))))))))) (
 cond (eqC v1 5 495622906222) (
 .row [.int 1,(.bool true)]) (
 cond (eqC v1 5 435727459692) (
 .row [.int 1,(.bool true)]) (
 cond (eqC v1 5 495622842726) (
 .row [.int 1,(.bool true)]) (
 cond (eqC v1 6 126870807932788) (
 .row [.int 1,(.bool true)]) (
 cond (eqC v1 7 32480064979559794) (
 .row [.int 1,(.bool true)]) (
 cond (eqC v1 7 32495402123093352) (
 .row [.int 1,(.bool true)]) (
 cond (eqC v1 7 32497592573780591) (
 .row [.int 1,(.bool true)]) (
 cond (eqC v1 9 2129618691208608441714) (
 .row [.int 1,(.bool true)]) (
 cond (100<(Uv v1:Int)) (
 .row [.int 1,(.bool true)]) (
 .row [.int 1,(.bool true)])))))))))):=gw rfl rfl (cL (cQ rfl (cQ rfl (cQ rfl (cQ rfl (cQ rfl (cQ rfl (cQ rfl (cQ rfl rfl)))))))) (cg rfl rfl (cg rfl rfl (cg rfl rfl (cg rfl rfl (cg rfl rfl (cg rfl rfl (cg rfl rfl (cg rfl rfl rfl)))))))))
end
end Fx
namespace Fx
open Go Go.AE
section
variable [Cq]
theorem step {c:Bool} {y:D} (h:y=.row [.int 1,.bool true]):cond c (.row [.int 1,.bool true]) y=.row [.int 1,.bool true]:=by
 cases c
 ·exact h
 ·rfl
theorem Is {n k:Int} {y:D} (h:n≠k→y=.row [.int 1,.bool true]):cond (n=k) (.row [.int 1,.bool true]) y=.row [.int 1,.bool true]:=by
 by_cases c:n=k
 ·rw [ifT c]
 ·rw [ifF c];exact h c
theorem law (n:Int) (v:D) (h0:0≤n) (h1:n≤255):nD (.int n) v=.row [.int 1,.bool true]:=by
 rw [xD];have hw:IntKind.wrap .i64 n=n:=TK (by omega) (by omega)
 rw [hw];by_cases c:n<8
 ·rw [ifT c];refine Is fun c0=>Is fun c1=>Is fun c2=>Is fun c3=>Is fun c4=>Is fun c5=>Is fun c6=>Is fun c7=>?_
  omega
 ·rw [ifF c];refine step <| step <| step <| step <| step <| step <| step <| step ?_;by_cases d:100<(Uv v:Int)
  ·rw [ifT d]
  ·rw [ifF d]
theorem rng {P:Program} {ts:List TypeId} {n:Int} {v:D} (h:Jg P ts [.int n,v]) (hk:A8 (Env.of P) ts=some [.int .u8,.str]):0≤n∧n≤255:=by
 obtain ⟨ks,cs,M,e,hd,_⟩:=h;rw [hk] at e;cases e
 match cs,hd with
 |c::cs,hd=>
  have h:=hd.1;generalize hx:(D.int n)=x at h;cases h with
  |int k m d hr h3=>
   subst hx;have h3:n=m:=h3;subst h3;rcases hr with hr|hr
   ·cases hr
   ·exact hr
end
end Fx

