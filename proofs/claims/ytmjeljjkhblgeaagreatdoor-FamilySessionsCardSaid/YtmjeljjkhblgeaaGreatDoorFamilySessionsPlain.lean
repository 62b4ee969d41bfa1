/- What is proved: what the plain functions over data say, whose trees the text before writes out: the law FamilySessions answers true. Conditions: those that each theorem states. -/
import Derived.Test.YtmjeljjkhblgeaaGreatDoorFamilySessionsTree
set_option linter.unusedVariables false
set_option linter.unusedSectionVars false
set_option linter.unusedSimpArgs false
namespace Go.AE
section
variable [Cr]
def atV (a:List (List (Tr Plf))) (b:List D):Val:=I3 (FZ a) b
def fin (a:List (List (Tr Plf))) (k:Nat) (V:Val):Plf→D
 |.stuck=>.row []
 |.done s cs=>.row (.int (s+1:Nat)::cs.map (Af V))
 |.next j b=>FZ a k (.row (.int j::b.map (Af V)))
def O9 (a:List (List (Tr Plf))) (k:Nat) (V:Val) (t:Tr Plf):D:=fin a k V (t.get V)
theorem Amy {a:List (List (Tr Plf))} (h:Gw 0 a=true) {k p:Nat} {T:List (Tr Plf)} {t:Tr Plf} {b:List D} (d:a[k]?=some T) (f:T[p]?=some t) :
  FZ a k (.row (.int (p:Nat)::b))=O9 a k (atV a b) t:=by
 have c:Dg T (FZ a) (.row (.int (p:Nat)::b))=CJ (atV a b) (t.get (atV a b)):=by
  show (match T[p]? with|some t=>CJ _ (t.get _)|none=>none)=_
  rw [f];rfl
 unfold O9 fin;split
 ·rename_i e;rw [e] at c;rw [GT h d];rcases FE (Dg T (FZ a)) (.row (.int (p:Nat)::b)) with q|⟨n,q⟩
  ·exact q
  ·cases n with
   |zero=>cases q
   |succ n=>
    simp only [Eu,c] at q;cases q
 ·rename_i e;rw [e] at c;rw [GT h d];exact M5 c
 ·rename_i e;rw [e] at c;rw [GT h d,NH c,←GT h d]
theorem ON {c:List (List (Tr Plf))} {k:Nat} {V:Val} {e:SB} {a b:Tr Plf}:O9 c k V (.split e a b)=if Ai V e=true then O9 c k V a else O9 c k V b:=by
 unfold O9;rw [show (Tr.split e a b).get V=match Ai V e with|true=>a.get V|false=>b.get V from rfl]
 cases Ai V e<;>rfl
end
theorem T8 {a:Int} (h:-9223372036854775808≤a) (h':a<9223372036854775808):IntKind.wrap .i64 a=a:=by
 show (if (true&&decide (a%(2^64:Int)≥2^63))=true then a%(2^64:Int)-2^64 else a%(2^64:Int))=a
 split
 ·rename_i q;simp only [Bool.true_and,decide_eq_true_eq] at q;omega
 ·rename_i q;simp only [Bool.true_and,decide_eq_true_eq] at q;omega
def len (d:D):Nat:=d.rows.length
def UV (d:D):Nat:=d.toStr.data.toList.length
def cl (a:D) (i:Int) (j:Nat):D:=(a.rows.getD i.toNat default).cells.getD j default
def ad (a r:D):D:=.slc false (a.rows++[r])
def upd (a:D) (i:Int) (j:Nat) (x:D):D:=.slc a.isNil (a.rows.modify i.toNat fun r=>.row (r.cells.set j x))
def sb (a:D) (lo hi:Int):D:=.slc a.isNil ((a.rows.drop lo.toNat).take (hi.toNat-lo.toNat))
def eqC (a:D) (l b:Nat):Bool:=strEq a.toStr.data.toList.length (Au a.toStr.data.toList) l b
theorem ifT {c:Type} {p:Prop} [Decidable p] {a b:c} (h:p):cond (decide p) a b=a:=by rw [decide_eq_true h];rfl
theorem ifF {c:Type} {p:Prop} [Decidable p] {a b:c} (h:¬p):cond (decide p) a b=b:=by rw [decide_eq_false h];rfl
section
variable [Cr]
def Df (c:List (List (Tr Plf))) (k:Nat) (V:Val):Tr Plf→D
 |.leaf l=>fin c k V l
 |.split e a b=>cond (Ai V e) (Df c k V a) (Df c k V b)
theorem Ig {c:List (List (Tr Plf))} {k:Nat} {V:Val}:∀t:Tr Plf,O9 c k V t=Df c k V t
 |.leaf l=>rfl
 |.split e a b=>by
  rw [ON,Ig a,Ig b,Df];cases Ai V e<;>rfl
theorem Ya {a:List (List (Tr Plf))} (h:Gw 0 a=true) {k p:Nat} {T:List (Tr Plf)} {t:Tr Plf} {b:List D} (c:a[k]?=some T) (d:T[p]?=some t) :
  FZ a k (.row (.int (p:Nat)::b))=Df a k (atV a b) t:=(Amy h c d).trans (Ig t)
theorem cg {d:List (List (Tr Plf))} {k:Nat} {V:Val} {e:SB} {a b:Tr Plf} {c:Bool} {x y:D} (h:Ai V e=c) (f:Df d k V a=x) (g:Df d k V b=y):Df d k V (.split e a b)=cond c x y:=by
 rw [Df,h,f,g]
end
theorem lE {V:Val} {a b:SE} {x y:Int} (h:(Af V a).toInt=x) (h':(Af V b).toInt=y):Ai V (.lss a b)=decide (x<y):=by rw [←h,←h'];rfl
theorem qE {V:Val} {a b:SE} {x y:Int} (h:(Af V a).toInt=x) (h':(Af V b).toInt=y):Ai V (.eql a b)=decide (x=y):=by rw [←h,←h'];rfl
section
variable [Cr]
theorem cL {c:List (List (Tr Plf))} {k:Nat} {V:Val} {e f:SE} {a b:Tr Plf} {m n:Int} {x y:D} (d:Df c k V a=x) (g:Df c k V b=y) (h:(Af V e).toInt=m:=by rfl) (h':(Af V f).toInt=n:=by rfl):Df c k V (.split (.lss e f) a b)=cond (decide (m<n)) x y:=cg (lE h h') d g
theorem cQ {c:List (List (Tr Plf))} {k:Nat} {V:Val} {e f:SE} {a b:Tr Plf} {m n:Int} {x y:D} (d:Df c k V a=x) (g:Df c k V b=y) (h:(Af V e).toInt=m:=by rfl) (h':(Af V f).toInt=n:=by rfl):Df c k V (.split (.eql e f) a b)=cond (decide (m=n)) x y:=cg (qE h h') d g
end
theorem TZ {P:Program} {ts:List TypeId} {a:List D} {ks:List Kd} (h:Jk P ts a) (b:Ba (Env.of P) ts=some ks):ks.length=a.length∧L8 (Env.of P).kinds 9 ks a:=by
 obtain ⟨c,cs,M,e,d,_,f⟩:=h;rw [b] at e;cases e;exact ⟨d.len.2,f⟩
theorem Hb.cell {K:TypeId→Option (List Kd)} {m j:Nat} {e:TypeId} {ks:List Kd} {kd:Kd} {d:D} {i:Int} (h:Hb K (m+1) (.slice e) d) (r:K e=some ks) (h0:0≤i) (hi:i<len d) (t:ks[j]?=some kd):Hb K m kd (cl d i j):=by
 obtain ⟨C,rows,rfl,_,q⟩:=h;have l:i.toNat<rows.length:=by have:len (.slc C rows)=rows.length:=rfl;omega
 obtain ⟨cs,I,_,J⟩:=q ks r _ (List.getElem_mem l);show Hb K m kd ((rows[i.toNat]?.getD default).cells.getD j default);rw [List.getElem?_eq_getElem l,Option.getD_some,I];exact J j kd t
theorem Hb.toI {K:TypeId→Option (List Kd)} {m:Nat} {k:IntKind} {d:D} (h:Hb K m (.int k) d):∃n,d=.int n:=by cases m<;>exact h
theorem Hb.toB {K:TypeId→Option (List Kd)} {m:Nat} {d:D} (h:Hb K m .bool d):∃b,d=.bool b:=by cases m<;>exact h
def fdG (p:Nat→Bool):Nat→Nat→Int
 |0,_=>-1
 |k+1,i=>cond (p i) (i:Int) (fdG p k (i+1))
theorem Tz {p:Nat→Bool}:∀{k i:Nat},fdG p k i = -1∨(i:Int)≤fdG p k i
 |0,i=>.inl rfl
 |k+1,i=>by
  rw [fdG];cases p i
  ·show fdG p k (i+1)=_∨_≤fdG p k (i+1);rcases Tz (p:=p) (k:=k) (i:=i+1) with h|h
   ·exact .inl h
   ·exact .inr (by omega)
  ·exact .inr (Int.le_refl _)
theorem WC {F:Nat→D} {bad:Nat→Bool} {B:Nat→D} {n:Nat}:∀{k i:Nat},i+k=n→(∀j,i≤j→j<n→F j=cond (bad j) (B j) (F (j+1)))→F i=cond (decide (fdG bad k i<0)) (F n) (B (fdG bad k i).toNat)
 |0,i=>fun h _=>by
  have:i=n:=by omega
  subst this;rfl
 |k+1,i=>fun h c=>by
  rw [c i (Nat.le_refl _) (by omega),fdG]
  cases bad i
  ·exact WC (by omega) fun j a b=>c j (by omega) b
  ·show B i=cond (decide ((i:Int)<0)) _ (B (i:Int).toNat);rw [ifF (by omega)]
   rfl
theorem Q8 {F:Nat→D} {bad:Nat→Bool} {B:Nat→D} {n:Nat} (a:∀j,j<n→F j=cond (bad j) (B j) (F (j+1))):F 0=cond (decide (fdG bad n 0<0)) (F n) (B (fdG bad n 0).toNat):=WC (by omega) fun j _ b=>a j b
theorem find {F:Nat→D} {bad:Nat→Bool} {n:Nat} (a:∀j,j<n→F j=cond (bad j) (.row [.int 1,.int (j:Nat)]) (F (j+1))) (hr:F n=.row [.int 1,.int (-1)]):F 0=.row [.int 1,.int (fdG bad n 0)]:=by
 rw [Q8 a,hr];have h:=Tz (p:=bad) (k:=n) (i:=0);by_cases q:fdG bad n 0<0
 ·rw [ifT q];rcases h with h|h
  ·rw [h]
  ·omega
 ·rw [ifF q];have:((fdG bad n 0).toNat:Int)=fdG bad n 0:=by omega
  rw [this]
theorem ShK.cell {K:TypeId→Option (List Kd)} {o:Option Nat} {m j:Nat} {e:TypeId} {l:List Kd} {kd:Kd} {d:D} {i:Nat} (h:ShK K o (m+1) (.slice e) d) (r:K e=some l) (hi:i<len d) (t:l[j]?=some kd):ShK K o m kd (cl d i j):=h.2 l r i hi j kd t
theorem ShK.rows {K:TypeId→Option (List Kd)} {b m:Nat} {e:TypeId} {d:D} (h:ShK K (some b) (m+1) (.slice e) d):len d≤b:=h.1 b rfl
theorem ShK.text {K:TypeId→Option (List Kd)} {b m:Nat} {d:D} (h:ShK K (some b) m .str d):UV d≤b:=by
 have:leB (some b) (UV d):=by cases m<;>exact h
 exact this b rfl
end Go.AE
set_option maxRecDepth 100000
namespace Fs
open Go Go.AE
theorem lt:Gw 0 ts=true:=by decide
theorem gw [Cr] {k p:Nat} {T:List (Tr Plf)} {t:Tr Plf} {a:List D} {x:D} (b:ts[k]?=some T) (c:T[p]?=some t) (h:Df ts k (atV ts a) t=x):FZ ts k (.row (.int (p:Nat)::a))=x:=(Ya lt b c).trans h
section
variable [Cr]
def vG (v0 a:D):D:=FZ ts 0 (.row [.int (0:Nat),v0,a])
theorem Alo (v0:Int) (a:D):vG (.int v0) a =
  cond ((IntKind.wrap .i64 v0)<8) (
 cond ((IntKind.wrap .i64 v0)=0) (
 .row [.int 1,(.bool true)]) (
 cond ((IntKind.wrap .i64 v0)=1) (
 .row [.int 1,(.bool true)]) (
 cond ((IntKind.wrap .i64 v0)=2) (
 .row [.int 1,(.bool true)]) (
 cond ((IntKind.wrap .i64 v0)=3) (
 .row [.int 1,(.bool true)]) (
 cond ((IntKind.wrap .i64 v0)=4) (
 .row [.int 1,(.bool true)]) (
 cond ((IntKind.wrap .i64 v0)=5) (
 .row [.int 1,(.bool true)]) (
 cond ((IntKind.wrap .i64 v0)=6) (
 .row [.int 1,(.bool true)]) (
 cond ((IntKind.wrap .i64 v0)=7) (
 .row [.int 1,(.bool true)]) (
 .row []))))))))) (
 cond (eqC a 5 495622906222) (
 .row [.int 1,(.bool true)]) (
 cond (eqC a 5 435727459692) (
 .row [.int 1,(.bool true)]) (
 cond (eqC a 5 495622842726) (
 .row [.int 1,(.bool true)]) (
 cond (eqC a 6 126870807932788) (
 .row [.int 1,(.bool true)]) (
 cond (eqC a 7 32480064979559794) (
 .row [.int 1,(.bool true)]) (
 cond (eqC a 7 32495402123093352) (
 .row [.int 1,(.bool true)]) (
 cond (eqC a 7 32497592573780591) (
 .row [.int 1,(.bool true)]) (
 cond (eqC a 9 2129618691208608441714) (
 .row [.int 1,(.bool true)]) (
 cond (100<(UV a:Int)) (
 .row [.int 1,(.bool true)]) (
 .row [.int 1,(.bool true)])))))))))):=gw rfl rfl (cL (cQ rfl (cQ rfl (cQ rfl (cQ rfl (cQ rfl (cQ rfl (cQ rfl (cQ rfl rfl)))))))) (cg rfl rfl (cg rfl rfl (cg rfl rfl (cg rfl rfl (cg rfl rfl (cg rfl rfl (cg rfl rfl (cg rfl rfl rfl)))))))))
end
end Fs
namespace Fs
open Go Go.AE
section
variable [Cr]
theorem step {c:Bool} {y:D} (h:y=.row [.int 1,.bool true]):cond c (.row [.int 1,.bool true]) y=.row [.int 1,.bool true]:=by
 cases c
 ·exact h
 ·rfl
theorem Iv {n k:Int} {y:D} (h:n≠k→y=.row [.int 1,.bool true]):cond (n=k) (.row [.int 1,.bool true]) y=.row [.int 1,.bool true]:=by
 by_cases c:n=k
 ·rw [ifT c]
 ·rw [ifF c];exact h c
theorem law (n:Int) (v:D) (h0:0≤n) (b:n≤255):vG (.int n) v=.row [.int 1,.bool true]:=by
 rw [Alo];have a:IntKind.wrap .i64 n=n:=T8 (by omega) (by omega)
 rw [a];by_cases c:n<8
 ·rw [ifT c];refine Iv fun c0=>Iv fun e=>Iv fun f=>Iv fun g=>Iv fun h=>Iv fun i=>Iv fun j=>Iv fun k=>?_
  omega
 ·rw [ifF c];refine step <| step <| step <| step <| step <| step <| step <| step ?_;by_cases d:100<(UV v:Int)
  ·rw [ifT d]
  ·rw [ifF d]
theorem rng {P:Program} {ts:List TypeId} {n:Int} {v:D} (h:Jk P ts [.int n,v]) (f:Ba (Env.of P) ts=some [.int .u8,.str]):0≤n∧n≤255:=by
 obtain ⟨ks,cs,M,e,a,_⟩:=h;rw [f] at e;cases e
 match cs,a with
 |c::cs,a=>
  have h:=a.1;generalize g:(D.int n)=x at h;cases h with
  |int k m d hr b=>
   subst g;have b:n=m:=b;subst b;rcases hr with hr|hr
   ·cases hr
   ·exact hr
end
end Fs

