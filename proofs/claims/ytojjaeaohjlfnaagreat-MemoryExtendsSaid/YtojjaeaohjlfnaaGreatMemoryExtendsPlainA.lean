/- What is proved: what the plain functions over data say, whose trees the text before writes out: the law MemoryExtends answers true. Conditions: those that each theorem states. -/
import Derived.Test.YtojjaeaohjlfnaaGreatMemoryExtendsTree
set_option linter.unusedVariables false
set_option linter.unusedSectionVars false
set_option linter.unusedSimpArgs false
namespace Go.AE
section
variable [Ap]
def atV (a:List (List (Tr Plf))) (b:List D):Val:=Lh (Am a) b
def fin (a:List (List (Tr Plf))) (k:Nat) (V:Val):Plf→D
 |.stuck=>.row []
 |.done s cs=>.row (.int (s+1:Nat)::cs.map (Ab V))
 |.next j b=>Am a k (.row (.int j::b.map (Ab V)))
def Ty (a:List (List (Tr Plf))) (k:Nat) (V:Val) (t:Tr Plf):D:=fin a k V (t.get V)
theorem yX {a:List (List (Tr Plf))} (h:If 0 a=true) {k p:Nat} {T:List (Tr Plf)} {t:Tr Plf} {b:List D} (d:a[k]?=some T) (f:T[p]?=some t) :
  Am a k (.row (.int (p:Nat)::b))=Ty a k (atV a b) t:=by
 have c:C1 T (Am a) (.row (.int (p:Nat)::b))=Ds (atV a b) (t.get (atV a b)):=by
  show (match T[p]? with|some t=>Ds _ (t.get _)|none=>none)=_
  rw [f];rfl
 unfold Ty fin;split
 ·rename_i e;rw [e] at c;rw [Ao h d];rcases Ft (C1 T (Am a)) (.row (.int (p:Nat)::b)) with q|⟨n,q⟩
  ·exact q
  ·cases n with
   |zero=>cases q
   |succ n=>
    simp only [FD,c] at q;cases q
 ·rename_i e;rw [e] at c;rw [Ao h d];exact QH c
 ·rename_i e;rw [e] at c;rw [Ao h d,Rq c,←Ao h d]
theorem S6 {c:List (List (Tr Plf))} {k:Nat} {V:Val} {e:SB} {a b:Tr Plf}:Ty c k V (.split e a b)=if Ag V e=true then Ty c k V a else Ty c k V b:=by
 unfold Ty;rw [show (Tr.split e a b).get V=match Ag V e with|true=>a.get V|false=>b.get V from rfl]
 cases Ag V e<;>rfl
end
theorem A4 {a:Int} (h:-9223372036854775808≤a) (h':a<9223372036854775808):IntKind.wrap .i64 a=a:=by
 show (if (true&&decide (a%(2^64:Int)≥2^63))=true then a%(2^64:Int)-2^64 else a%(2^64:Int))=a
 split
 ·rename_i q;simp only [Bool.true_and,kp] at q;omega
 ·rename_i q;simp only [Bool.true_and,kp] at q;omega
def len (d:D):Nat:=d.rows.length
def Cx (d:D):Nat:=d.toStr.data.toList.length
def cl (a:D) (i:Int) (j:Nat):D:=(a.rows.getD i.toNat default).cells.getD j default
def sl (a:D) (j:Nat):D:=a.cells.getD j default
def B0:D:=.slc true []
def Ad:D:=.slc false []
def ad (a r:D):D:=.slc false (a.rows++[r])
def upd (a:D) (i:Int) (j:Nat) (x:D):D:=.slc a.isNil (a.rows.modify i.toNat fun r=>.row (r.cells.set j x))
def ct (a b:D):D:=.slc (a.isNil&&b.rows.isEmpty) (a.rows++b.rows)
def sb (a:D) (lo hi:Int):D:=.slc a.isNil ((a.rows.drop lo.toNat).take (hi.toNat-lo.toNat))
def ni (a:D) (b:Bool):D:=.slc b a.rows
def AA (l b:Nat):D:=.str ⟨(Df l b).toArray⟩
def NB (a:D):D:=.slc false (a.toStr.data.toList.map fun b=>.row [.int b.toNat])
def mIx (ks:List Kd) (a k:D):Int:=Fm ks k.cells a.rows 0
def sAt (a:D) (i:Int):Int:=((a.toStr.data.toList[i.toNat]?).getD 0).toNat
def eqC (a:D) (l b:Nat):Bool:=strEq a.toStr.data.toList.length (AH a.toStr.data.toList) l b
def ari (a:BinOp) (k:IntKind) (x y:Int):Int:=match CU a k x y with
 |some (.int _ n)=>n
 |_=>0
theorem ifT {c:Type} {p:Prop} [Decidable p] {a b:c} (h:p):cond (decide p) a b=a:=by rw [oj h];rfl
theorem ifF {c:Type} {p:Prop} [Decidable p] {a b:c} (h:¬p):cond (decide p) a b=b:=by rw [ll h];rfl
section
variable [Ap]
def D7 (c:List (List (Tr Plf))) (k:Nat) (V:Val):Tr Plf→D
 |.leaf l=>fin c k V l
 |.split e a b=>cond (Ag V e) (D7 c k V a) (D7 c k V b)
theorem Ko {c:List (List (Tr Plf))} {k:Nat} {V:Val}:∀t:Tr Plf,Ty c k V t=D7 c k V t
 |.leaf l=>rfl
 |.split e a b=>by
  rw [S6,Ko a,Ko b,D7];cases Ag V e<;>rfl
theorem gJ {a:List (List (Tr Plf))} (h:If 0 a=true) {k p:Nat} {T:List (Tr Plf)} {t:Tr Plf} {b:List D} (c:a[k]?=some T) (d:T[p]?=some t) :
  Am a k (.row (.int (p:Nat)::b))=D7 a k (atV a b) t:=(yX h c d).trans (Ko t)
theorem cg {d:List (List (Tr Plf))} {k:Nat} {V:Val} {e:SB} {a b:Tr Plf} {c:Bool} {x y:D} (h:Ag V e=c) (f:D7 d k V a=x) (g:D7 d k V b=y):D7 d k V (.split e a b)=cond c x y:=by
 rw [D7,h,f,g]
end
theorem lE {V:Val} {a b:SE} {x y:Int} (h:(Ab V a).toInt=x) (h':(Ab V b).toInt=y):Ag V (.lss a b)=decide (x<y):=by rw [←h,←h'];rfl
theorem qE {V:Val} {a b:SE} {x y:Int} (h:(Ab V a).toInt=x) (h':(Ab V b).toInt=y):Ag V (.eql a b)=decide (x=y):=by rw [←h,←h'];rfl
section
variable [Ap]
theorem cL {c:List (List (Tr Plf))} {k:Nat} {V:Val} {e f:SE} {a b:Tr Plf} {m n:Int} {x y:D} (d:D7 c k V a=x) (g:D7 c k V b=y) (h:(Ab V e).toInt=m:=by rfl) (h':(Ab V f).toInt=n:=by rfl):D7 c k V (.split (.lss e f) a b)=cond (decide (m<n)) x y:=cg (lE h h') d g
theorem cQ {c:List (List (Tr Plf))} {k:Nat} {V:Val} {e f:SE} {a b:Tr Plf} {m n:Int} {x y:D} (d:D7 c k V a=x) (g:D7 c k V b=y) (h:(Ab V e).toInt=m:=by rfl) (h':(Ab V f).toInt=n:=by rfl):D7 c k V (.split (.eql e f) a b)=cond (decide (m=n)) x y:=cg (qE h h') d g
end
theorem aE {V:Val} {a b:SE} {x y:Bool} (h:Ag V a=x) (h':Ag V b=y):Ag V (.and a b)=(x&&y):=by rw [←h,←h'];rfl
theorem nE {V:Val} {a:SE} {x:Bool} (h:Ag V a=x):Ag V (.neg a)=(!x):=by rw [←h];rfl
def Wd (a:D) (n:Nat):Prop:=∀r∈a.rows,∃cs,r=.row cs∧cs.length=n
theorem EZ {a x:D} {i:Int} {j:Nat}:len (upd a i j x)=len a:=by
 show (a.rows.modify _ _).length=_;simp [len]
theorem Dv {a r:D}:len (ad a r)=len a+1:=by
 show (a.rows++[r]).length=_;simp [len]
theorem MG:len B0=0:=rfl
theorem gP {a:D} {b:Bool}:len (ni a b)=len a:=rfl
theorem Nl {a:D} {lo hi:Int} (h:lo.toNat≤hi.toNat) (h':hi.toNat≤len a):len (sb a lo hi)=hi.toNat-lo.toNat:=by
 show ((a.rows.drop _).take _).length=_;have:hi.toNat≤a.rows.length:=h';simp;omega
theorem aB {n:Nat}:Wd B0 n:=fun r a=>(by cases a)
theorem OC {n:Nat}:Wd Ad n:=fun r a=>(by cases a)
theorem Qf {a x:D} {i:Int} {j n:Nat} (h:Wd a n):Wd (upd a i j x) n:=by
 intro r g;have b:r∈a.rows.modify i.toNat fun r=>.row (r.cells.set j x):=g
 obtain ⟨k,l,e⟩:=ue b;rw [List.getElem_modify] at e;have c:k<a.rows.length:=by simpa using l
 obtain ⟨cs,d,f⟩:=h _ (zF c);split at e
 ·rw [d] at e;exact ⟨_,e.symm,by simp [D.cells,f]⟩
 ·exact ⟨cs,by rw [←e];exact d,f⟩
theorem eZ {a:D} {b:Bool} {n:Nat} (h:Wd a n):Wd (ni a b) n:=h
theorem fj {a b:D} {n:Nat} (h:Wd a n) (h':Wd b n):Wd (ct a b) n:=fun r c=>(rc.1 c).elim (h r) (h' r)
theorem JX {a x:D} {i k:Int} {j b n:Nat} (h:Wd a n) (hj:j<n) (hi:0≤i) (g:i<len a) (m:0≤k):cl (upd a i j x) k b=if k=i∧b=j then x else cl a k b:=by
 have d:i.toNat<a.rows.length:=by have:len a=a.rows.length:=rfl;omega
 show ((a.rows.modify i.toNat fun r=>D.row (r.cells.set j x))[k.toNat]?.getD default).cells.getD b default=_
 rw [List.getElem?_modify];by_cases q:k=i
 ·subst q;obtain ⟨cs,f,o⟩:=h _ (zF d);rw [ud d];show ((if k.toNat=k.toNat then D.row ((a.rows[k.toNat]).cells.set j x) else a.rows[k.toNat]).cells[b]?).getD default=_
  rw [if_pos rfl,f];show ((cs.set j x)[b]?).getD default=_;rw [List.getElem?_set];by_cases e:j=b
  ·subst e;rw [if_pos rfl,if_pos (by omega),if_pos ⟨rfl,rfl⟩]
   rfl
  ·rw [if_neg e,if_neg (fun c=>e c.2.symm)]
   show _=(a.rows[k.toNat]?.getD default).cells.getD b default;rw [ud d,zH,f];rfl
 ·have l:¬i.toNat=k.toNat:=by omega
  rw [if_neg (fun c=>q c.1)]
  simp [l,cl]
theorem KM {a x:D} {i:Int} {j n:Nat} (h:Wd a n) (hj:j<n) (hi:0≤i) (b:i<len a):cl (upd a i j x) i j=x:=by rw [JX h hj hi b hi,if_pos ⟨rfl,rfl⟩]
theorem WD {a x:D} {i k:Int} {j d n:Nat} (h:Wd a n) (hj:j<n) (hi:0≤i) (b:i<len a) (e:0≤k) (f:k≠i):cl (upd a i j x) k d=cl a k d:=by rw [JX h hj hi b e,if_neg (fun c=>f c.1)]
theorem EO {a r:D} {k:Int} {j:Nat} (c:0≤k):cl (ad a r) k j=if k=len a then sl r j else cl a k j:=by
 have d:len a=a.rows.length:=rfl;show ((a.rows++[r])[k.toNat]?.getD default).cells.getD j default=_;by_cases q:k.toNat<a.rows.length
 ·rw [Nj q,if_neg (by omega)]
  rfl
 ·by_cases b:k=len a
  ·subst b;rw [if_pos rfl];have:((len a:Int)).toNat=a.rows.length:=by omega
   rw [this];simp [sl]
  ·rw [if_neg b,sN (by simp;omega)]
   show _=(a.rows[k.toNat]?.getD default).cells.getD j default;rw [sN (by omega)]
theorem YM {a:D} {b:Bool} {k:Int} {j:Nat}:cl (ni a b) k j=cl a k j:=rfl
theorem Zr {P:Program} {ts:List TypeId} {a:List D} {ks:List Kd} (h:LC P ts a) (b:Br (Env.of P) ts=some ks):ks.length=a.length∧Py (Env.of P).kinds 9 ks a:=by
 obtain ⟨c,cs,M,e,d,_,f⟩:=h;rw [b] at e;cases e;exact ⟨d.len.2,f⟩
theorem Fc.cell {K:TypeId→Option (List Kd)} {m j:Nat} {e:TypeId} {ks:List Kd} {kd:Kd} {d:D} {i:Int} (h:Fc K (m+1) (.slice e) d) (r:K e=some ks) (J:0≤i) (hi:i<len d) (hj:ks[j]?=some kd):Fc K m kd (cl d i j):=by
 obtain ⟨nl,rows,rfl,_,q⟩:=h;have l:i.toNat<rows.length:=by have:len (.slc nl rows)=rows.length:=rfl;omega
 obtain ⟨cs,t,_,I⟩:=q ks r _ (zF l);show Fc K m kd ((rows[i.toNat]?.getD default).cells.getD j default);rw [ud l,zH,t];exact I j kd hj
theorem Fc.toI {K:TypeId→Option (List Kd)} {m:Nat} {k:IntKind} {d:D} (h:Fc K m (.int k) d):∃n,d=.int n:=by cases m<;>exact h
theorem Fc.toB {K:TypeId→Option (List Kd)} {m:Nat} {d:D} (h:Fc K m .bool d):∃b,d=.bool b:=by cases m<;>exact h
theorem Fc.wd {K:TypeId→Option (List Kd)} {m:Nat} {e:TypeId} {ks:List Kd} {d:D} (h:Fc K (m+1) (.slice e) d) (l:K e=some ks):Wd d ks.length:=by
 obtain ⟨nl,rows,rfl,_,q⟩:=h;intro r t;obtain ⟨cs,I,J,_⟩:=q ks l r t;exact ⟨cs,I,J⟩
def fdG (p:Nat→Bool):Nat→Nat→Int
 |0,_=>-1
 |k+1,i=>cond (p i) (i:Int) (fdG p k (i+1))
theorem D1 {p:Nat→Bool}:∀{k i:Nat},fdG p k i<i+k
 |0,i=>by show (-1:Int)<_;omega
 |k+1,i=>by
  rw [fdG];have:=D1 (p:=p) (k:=k) (i:=i+1);cases p i
  ·show fdG p k (i+1)<_;omega
  ·show (i:Int)<_;omega
theorem TZ {p:Nat→Bool}:∀{k i:Nat},fdG p k i = -1∨(i:Int)≤fdG p k i
 |0,i=>.inl rfl
 |k+1,i=>by
  rw [fdG];cases p i
  ·show fdG p k (i+1)=_∨_≤fdG p k (i+1);rcases TZ (p:=p) (k:=k) (i:=i+1) with h|h
   ·exact .inl h
   ·exact .inr (by omega)
  ·exact .inr (zw _)
theorem Fg {p:Nat→Bool}:∀{k i:Nat},0≤fdG p k i→p (fdG p k i).toNat=true
 |0,i=>fun h=>by simp [fdG] at h
 |k+1,i=>by
  rw [fdG];cases q:p i
  ·exact Fg (k:=k)
  ·intro _;show p i=true;exact q
theorem Mg {p:Nat→Bool}:∀{k i j:Nat},i≤j→j<i+k→p j=true→0≤fdG p k i∧fdG p k i≤j
 |0,i,j=>fun h h'=>by omega
 |k+1,i,j=>by
  intro h h' a;rw [fdG];cases q:p i
  ·have:i≠j:=fun c=>by rw [c,a] at q;cases q
   exact Mg (k:=k) (by omega) (by omega) a
  ·show 0≤(i:Int)∧(i:Int)≤j;omega
theorem In {p:Nat→Bool} {k i j:Nat} (h:i≤j) (h':(j:Int)<fdG p k i∨(fdG p k i<0∧j<i+k)):p j=false:=by
 cases q:p j
 ·rfl
 ·have:=D1 (p:=p) (k:=k) (i:=i);have:=Mg (p:=p) (k:=k) h (by omega) q
  omega
theorem dh {p:Nat→Bool} {k i:Nat} (h:∀j,i≤j→j<i+k→p j=false):fdG p k i = -1:=by
 rcases TZ (p:=p) (k:=k) (i:=i) with q|q
 ·exact q
 ·have a:=Fg (p:=p) (k:=k) (i:=i) (by omega)
  rw [h _ (by omega) (by have:=D1 (p:=p) (k:=k) (i:=i);omega)] at a
  cases a
theorem C0 {p q:Nat→Bool}:∀{k i:Nat},(∀j,i≤j→j<i+k→p j=q j)→fdG p k i=fdG q k i
 |0,i,h=>rfl
 |k+1,i,h=>by
  rw [fdG,fdG,h i (L1 _) (by omega),C0 fun j a b=>h j (by omega) (by omega)]
theorem fa {F:Nat→D} {bad:Nat→Bool} {B:Nat→D} {n:Nat}:∀{k i:Nat},i+k=n→(∀j,i≤j→j<n→F j=cond (bad j) (B j) (F (j+1)))→F i=cond (decide (fdG bad k i<0)) (F n) (B (fdG bad k i).toNat)
 |0,i=>fun h _=>by
  have:i=n:=by omega
  subst this;rfl
 |k+1,i=>fun h c=>by
  rw [c i (L1 _) (by omega),fdG]
  cases bad i
  ·exact fa (by omega) fun j a b=>c j (by omega) b
  ·show B i=cond (decide ((i:Int)<0)) _ (B (i:Int).toNat);rw [ifF (by omega)]
   rfl
theorem Wx {F:Nat→D} {bad:Nat→Bool} {B:Nat→D} {n:Nat} (a:∀j,j<n→F j=cond (bad j) (B j) (F (j+1))):F 0=cond (decide (fdG bad n 0<0)) (F n) (B (fdG bad n 0).toNat):=fa (by omega) fun j _ b=>a j b
theorem find {F:Nat→D} {bad:Nat→Bool} {n:Nat} (a:∀j,j<n→F j=cond (bad j) (.row [.int 1,.int (j:Nat)]) (F (j+1))) (b:F n=.row [.int 1,.int (-1)]):F 0=.row [.int 1,.int (fdG bad n 0)]:=by
 rw [Wx a,b];have h:=TZ (p:=bad) (k:=n) (i:=0);by_cases q:fdG bad n 0<0
 ·rw [ifT q];rcases h with h|h
  ·rw [h]
  ·omega
 ·rw [ifF q];have:((fdG bad n 0).toNat:Int)=fdG bad n 0:=by omega
  rw [this]
theorem AL {i:Nat} (h:i<4611686018427387904):IntKind.wrap .i64 ((i:Int)+1)=((i+1:Nat):Int):=by rw [A4 (by omega) (by omega)];omega
theorem BW {a:D}:D.strEq a a=true:=by
 show (Nat.beq _ _&&Nat.beq _ _)=true;simp
theorem A2 {a b:D}:D.strEq a b=D.strEq b a:=OU (U:=Hz) _ _ _ _
theorem Xm {a:D}:eqC a 0 0=decide (Cx a=0):=by
 show (Nat.beq _ 0&&Nat.beq _ 0)=_;show _=decide (a.toStr.data.toList.length=0);cases a.toStr.data.toList<;>simp [AH]
theorem DB {a b:D}:D.strEq a b=true↔a.toStr=b.toStr:=by
 show AE.strEq _ _ _ _=true↔_;rw [Cq (U:=Hz)];constructor
 ·intro h;rw [ByteArray.toList_eq,ByteArray.toList_eq] at h;have:a.toStr.data.toList=b.toStr.data.toList:=by simpa only [beq_iff_eq] using h
  exact ByteArray.ext (Array.toList_inj.1 this)
 ·intro h;rw [h];simp
theorem Db {a b c:D} (h:D.strEq a b=true) (h':D.strEq b c=true):D.strEq a c=true:=DB.2 ((DB.1 h).trans (DB.1 h'))
theorem Jk {a b c:D} (h:D.strEq a b=true):D.strEq a c=D.strEq b c:=by
 show AE.strEq _ _ _ _=AE.strEq _ _ _ _;rw [DB.1 h]
theorem O7 {a:D} {i:Nat} {j c:Nat} (hi:i≤len a) (hj:j<i):cl (sb a 0 i) j c=cl a j c:=by
 have b:i≤a.rows.length:=hi;show (((a.rows.drop 0).take (i-0)).getD j default).cells.getD c default=(a.rows.getD j default).cells.getD c default;rw [Id,Id,pl];simp [hj]
theorem Cu {a k:D} (d:∀r∈a.rows,∃x l,r=.row (x::l)):mIx [.str] a (.row [k])=fdG (fun i=>D.strEq (cl a i 0) k) (len a) 0:=by
 have gen:∀(b l:List D) (nl:Bool),(∀r∈b,∃x l,r=.row (x::l))→Fm [.str] [k] b l.length=fdG (fun i=>D.strEq (cl (.slc nl (l++b)) i 0) k) b.length l.length:=by
  intro b
  induction b with
  |nil=>intro l nl _;rfl
  |cons r b ih=>
   intro l nl c;rw [Fm,la,fdG]
   have e:cl (.slc nl (l++r::b)) (l.length:Nat) 0=r.cells.getD 0 default:=by
    show ((l++r::b).getD l.length default).cells.getD 0 default=_;simp
   have i2:=ih (l++[r]) nl fun x f=>c x (zE _ f)
   rw [lv,List.append_assoc] at i2;have i2:Fm [.str] [k] b (l.length+1)=fdG (fun i=>D.strEq (cl (.slc nl (l++r::b)) i 0) k) b.length (l.length+1):=i2
   rw [e,i2]
   have h:Eg [.str] r.cells [k]=D.strEq (r.cells.getD 0 default) k:=by
    obtain ⟨x,t,e⟩:=c r (zC ..);subst e;show (D.strEq x k&&true)=D.strEq x k;rw [Bool.and_true]
   rw [h];cases D.strEq (r.cells.getD 0 default) k<;>rfl
 have h:=gen a.rows [] a.isNil d;exact h
def I3 (f:Nat→D) (i:Nat):D:=.slc false ((List.range i).map fun j=>.row [f j,.bool true])
theorem Tj {f:Nat→D} {i:Nat}:ad (I3 f i) (.row [f i,.bool true])=I3 f (i+1):=by
 unfold I3 ad;rw [List.range_succ,List.map_append];rfl
theorem ZH {f:Nat→D} {i:Nat} {k:D}:mIx [.str] (I3 f i) (.row [k])=fdG (fun j=>D.strEq (f j) k) i 0:=by
 rw [Cu (by
  intro r a;obtain ⟨j,_,e⟩:=List.mem_map.1 a;exact ⟨_,_,e.symm⟩)]
 have b:len (I3 f i)=i:=by unfold len I3;simp [D.rows]
 rw [b];refine C0 fun j _ hj=>?_
 have:cl (I3 f i) j 0=f j:=by
  show ((((List.range i).map fun j=>D.row [f j,.bool true])[j]?).getD default).cells.getD 0 default=f j
  rw [sd,zG (by omega)]
  rfl
 rw [this]
theorem S9 {f:Nat→D} {i:Nat} {j:Int} (a:0≤j) (h:j<i):cl (I3 f i) j 1=.bool true:=by
 show ((((List.range i).map fun j=>D.row [f j,.bool true])[j.toNat]?).getD default).cells.getD 1 default=_
 rw [sd,zG (by omega)]
 rfl
theorem ShK.cell {K:TypeId→Option (List Kd)} {o:Option Nat} {m j:Nat} {e:TypeId} {ks:List Kd} {kd:Kd} {d:D} {i:Nat} (h:ShK K o (m+1) (.slice e) d) (l:K e=some ks) (hi:i<len d) (hj:ks[j]?=some kd):ShK K o m kd (cl d i j):=h.2 ks l i hi j kd hj
theorem ShK.rows {K:TypeId→Option (List Kd)} {b m:Nat} {e:TypeId} {d:D} (h:ShK K (some b) (m+1) (.slice e) d):len d≤b:=h.1 b rfl
theorem ShK.text {K:TypeId→Option (List Kd)} {b m:Nat} {d:D} (h:ShK K (some b) m .str d):Cx d≤b:=by
 have:leB (some b) (Cx d):=by cases m<;>exact h
 exact this b rfl
end Go.AE
set_option maxRecDepth 100000
namespace Mx
open Go Go.AE
theorem lt:If 0 ts=true:=by decide
theorem gw [Ap] {k p:Nat} {T:List (Tr Plf)} {t:Tr Plf} {a:List D} {x:D} (b:ts[k]?=some T) (c:T[p]?=some t) (h:D7 ts k (atV ts a) t=x):Am ts k (.row (.int (p:Nat)::a))=x:=(gJ lt b c).trans h
section
variable [Ap]
def ZP (v0 v1 v2:D):D:=Am ts 0 (.row [.int (0:Nat),v0,v1,v2])
def Yo (a b c d:D):D:=Am ts 0 (.row [.int (1:Nat),a,b,c,d])
def Ys (a b c d e f g:D):D:=Am ts 0 (.row [.int (2:Nat),a,b,c,d,e,f,g])
def BB (v0 v1 v2:D):D:=Am ts 1 (.row [.int (0:Nat),v0,v1,v2])
def SV (a b c d:D):D:=Am ts 1 (.row [.int (1:Nat),a,b,c,d])
def SG (a b:D):D:=Am ts 2 (.row [.int (0:Nat),a,b])
def Lb (a b c:D):D:=Am ts 2 (.row [.int (1:Nat),a,b,c])
def GQ (a:D):D:=Am ts 3 (.row [.int (0:Nat),a])
def GV (a b:D):D:=Am ts 4 (.row [.int (0:Nat),a,b])
def WL (a b c:D):D:=Am ts 4 (.row [.int (1:Nat),a,b,c])
def gp (a b c:D):D:=Am ts 5 (.row [.int (0:Nat),a,b,c])
def f7 (a b c d:D):D:=Am ts 5 (.row [.int (1:Nat),a,b,c,d])
def jD (a b c:D):D:=Am ts 6 (.row [.int (0:Nat),a,b,c])
def jf (a b c d:D):D:=Am ts 6 (.row [.int (1:Nat),a,b,c,d])
def CZ (d e f g h i j k l m a b c:D):D:=Am ts 7 (.row [.int (0:Nat),d,e,f,g,h,i,j,k,l,m,a,b,c])
def YR (e f g h i j k l m n a b c d:D):D:=Am ts 7 (.row [.int (1:Nat),e,f,g,h,i,j,k,l,m,n,a,b,c,d])
def Ul (a b:D):D:=Am ts 8 (.row [.int (0:Nat),a,b])
def SP (a b c:D):D:=Am ts 8 (.row [.int (1:Nat),a,b,c])
def Bm (a:D):D:=Am ts 9 (.row [.int (0:Nat),a])
def Lc (a b c:D):D:=Am ts 9 (.row [.int (1:Nat),a,b,c])
def DI (c d e f g h i j k l a b:D):D:=Am ts 10 (.row [.int (0:Nat),c,d,e,f,g,h,i,j,k,l,a,b])
def LO (d e f g h i j k l m a b c:D):D:=Am ts 10 (.row [.int (1:Nat),d,e,f,g,h,i,j,k,l,m,a,b,c])
def Es (a b c d e f:D):D:=Am ts 11 (.row [.int (0:Nat),a,b,c,d,e,f])
def HM (a b c d e f g:D):D:=Am ts 11 (.row [.int (1:Nat),a,b,c,d,e,f,g])
def DX (a b c d:D):D:=Am ts 12 (.row [.int (0:Nat),a,b,c,d])
def EY (a b c d e:D):D:=Am ts 12 (.row [.int (1:Nat),a,b,c,d,e])
def IE (v0 v1 v2 v3 v4 v5 v6 v7 v8 o a b c d e f g h i j k l m n:D):D:=Am ts 13 (.row [.int (0:Nat),v0,v1,v2,v3,v4,v5,v6,v7,v8,o,a,b,c,d,e,f,g,h,i,j,k,l,m,n])
def Su (g h i j k l m n o p a b c d e f:D):D:=Am ts 14 (.row [.int (0:Nat),g,h,i,j,k,l,m,n,o,p,a,b,c,d,e,f])
def L8 (h i j k l m n o p q a b c d e f g:D):D:=Am ts 14 (.row [.int (1:Nat),h,i,j,k,l,m,n,o,p,q,a,b,c,d,e,f,g])
def KF (v0 v1 v2 v3 v4 v5 v6 v7 v8 v9 v10 v11 v12 v13 v14 v15 v16 v17 v18 v19 v20 v21 v22 v23:D):D:=Am ts 15 (.row [.int (0:Nat),v0,v1,v2,v3,v4,v5,v6,v7,v8,v9,v10,v11,v12,v13,v14,v15,v16,v17,v18,v19,v20,v21,v22,v23])
def Od (v0 v1 v2 v3 v4 v5 v6 v7 v8 e a b c d:D):D:=Am ts 15 (.row [.int (1:Nat),v0,v1,v2,v3,v4,v5,v6,v7,v8,e,a,b,c,d])
def Ra (v0 v1 v2 v3 v4 v5 v6 v7 v8 o a b c d e f g h i j k l m n:D):D:=Am ts 16 (.row [.int (0:Nat),v0,v1,v2,v3,v4,v5,v6,v7,v8,o,a,b,c,d,e,f,g,h,i,j,k,l,m,n])
def AK (v0 v1:D):D:=Am ts 17 (.row [.int (0:Nat),v0,v1])
def HK (a b c d:D):D:=Am ts 17 (.row [.int (1:Nat),a,b,c,d])
def VO (a b c d e f g:D):D:=Am ts 17 (.row [.int (2:Nat),a,b,c,d,e,f,g])
def E3 (a b:D):D:=Am ts 18 (.row [.int (0:Nat),a,b])
def OX (a b c:D):D:=Am ts 18 (.row [.int (1:Nat),a,b,c])
def LQ (v0 v1 v2 v3 v4 v5 v6 v7 v8 c a b:D):D:=Am ts 19 (.row [.int (0:Nat),v0,v1,v2,v3,v4,v5,v6,v7,v8,c,a,b])
def CA (d e f g h i j k l m a b c:D):D:=Am ts 19 (.row [.int (1:Nat),d,e,f,g,h,i,j,k,l,m,a,b,c])
def MV (v0 v1 v2 b c v5 v6 v7 v8 d a:D):D:=Am ts 20 (.row [.int (0:Nat),v0,v1,v2,b,c,v5,v6,v7,v8,d,a])
def FG (v0 v1 v2 v3 v4 v5 v6 v7 v8 b a:D):D:=Am ts 20 (.row [.int (1:Nat),v0,v1,v2,v3,v4,v5,v6,v7,v8,b,a])
def Do (v0 a b:D):D:=Am ts 21 (.row [.int (0:Nat),v0,a,b])
def Jf (v0 v1 v2 a b v5 v6 v7 v8:D):D:=Am ts 21 (.row [.int (1:Nat),v0,v1,v2,a,b,v5,v6,v7,v8])
def Et (v0 a b:D):D:=Am ts 22 (.row [.int (0:Nat),v0,a,b])
def Da (a b c:D):D:=Am ts 23 (.row [.int (0:Nat),a,b,c])
def HD (a b c d e:D):D:=Am ts 23 (.row [.int (1:Nat),a,b,c,d,e])
def Ex (a b c:D):D:=Am ts 24 (.row [.int (0:Nat),a,b,c])
def DW (a b c d e f g h:D):D:=Am ts 25 (.row [.int (0:Nat),a,b,c,d,e,f,g,h])
def DZ (a b c d e f g h i j:D):D:=Am ts 25 (.row [.int (1:Nat),a,b,c,d,e,f,g,h,i,j])
def So (v0 a b:D):D:=Am ts 26 (.row [.int (0:Nat),v0,a,b])
def EH (v0 v1 v2:D):D:=Am ts 27 (.row [.int (0:Nat),v0,v1,v2])
def Ax (a b:D):D:=Am ts 28 (.row [.int (0:Nat),a,b])
def OL (a b c:D):D:=Am ts 28 (.row [.int (1:Nat),a,b,c])
def GN (a b c:D):D:=Am ts 29 (.row [.int (0:Nat),a,b,c])
def Jb (a b c d v4 v5:D):D:=Am ts 29 (.row [.int (1:Nat),a,b,c,d,v4,v5])
def eU (a b c d e f g:D):D:=Am ts 29 (.row [.int (2:Nat),a,b,c,d,e,f,g])
def KO (a b c d e f g h i j:D):D:=Am ts 29 (.row [.int (3:Nat),a,b,c,d,e,f,g,h,i,j])
def Fz (f g h i j k l m n o a b c d e:D):D:=Am ts 30 (.row [.int (0:Nat),f,g,h,i,j,k,l,m,n,o,a,b,c,d,e])
def KD (v0 a b c d:D):D:=Am ts 31 (.row [.int (0:Nat),v0,a,b,c,d])
def XM (a b c d e f:D):D:=Am ts 31 (.row [.int (1:Nat),a,b,c,d,e,f])
def QE (v0 a b c d:D):D:=Am ts 32 (.row [.int (0:Nat),v0,a,b,c,d])
def NZ (a b c d e:D):D:=Am ts 33 (.row [.int (0:Nat),a,b,c,d,e])
def Ry (a b c d e f:D):D:=Am ts 33 (.row [.int (1:Nat),a,b,c,d,e,f])
def Sj (a b c d e:D):D:=Am ts 34 (.row [.int (0:Nat),a,b,c,d,e])
def O5 (a b c d e:D):D:=Am ts 35 (.row [.int (0:Nat),a,b,c,d,e])
def R7 (a b c d e f:D):D:=Am ts 35 (.row [.int (1:Nat),a,b,c,d,e,f])
def Rm (a b c d e:D):D:=Am ts 36 (.row [.int (0:Nat),a,b,c,d,e])
def Pb (a b c d e:D):D:=Am ts 37 (.row [.int (0:Nat),a,b,c,d,e])
def Rk (a b c d e f:D):D:=Am ts 37 (.row [.int (1:Nat),a,b,c,d,e,f])
def RW (a b c d e:D):D:=Am ts 38 (.row [.int (0:Nat),a,b,c,d,e])
def O9 (a b c d e:D):D:=Am ts 39 (.row [.int (0:Nat),a,b,c,d,e])
def QW (a b c d e f:D):D:=Am ts 39 (.row [.int (1:Nat),a,b,c,d,e,f])
def RH (a b c d e:D):D:=Am ts 40 (.row [.int (0:Nat),a,b,c,d,e])
def OP (a b c d e:D):D:=Am ts 41 (.row [.int (0:Nat),a,b,c,d,e])
def Sp (a b c d e f:D):D:=Am ts 41 (.row [.int (1:Nat),a,b,c,d,e,f])
def Rh (a b c d e:D):D:=Am ts 42 (.row [.int (0:Nat),a,b,c,d,e])
def O4 (a b c d e:D):D:=Am ts 43 (.row [.int (0:Nat),a,b,c,d,e])
def Sb (a b c d e f:D):D:=Am ts 43 (.row [.int (1:Nat),a,b,c,d,e,f])
def Q8 (a b c d e:D):D:=Am ts 44 (.row [.int (0:Nat),a,b,c,d,e])
def Oi (a b c d e:D):D:=Am ts 45 (.row [.int (0:Nat),a,b,c,d,e])
def Rr (a b c d e f:D):D:=Am ts 45 (.row [.int (1:Nat),a,b,c,d,e,f])
def QK (a b c d e:D):D:=Am ts 46 (.row [.int (0:Nat),a,b,c,d,e])
def NW (a b c d e:D):D:=Am ts 47 (.row [.int (0:Nat),a,b,c,d,e])
def Q5 (a b c d e f:D):D:=Am ts 47 (.row [.int (1:Nat),a,b,c,d,e,f])
def K5 (a b c d e:D):D:=Am ts 48 (.row [.int (0:Nat),a,b,c,d,e])
def RZ (a b c d e:D):D:=Am ts 49 (.row [.int (0:Nat),a,b,c,d,e])
def UZ (a b c d e f g:D):D:=Am ts 49 (.row [.int (1:Nat),a,b,c,d,e,f,g])
def Om (a:D):D:=Am ts 50 (.row [.int (0:Nat),a])
def Bh (v0 v1 v2 v3 v4 v5 v6 v7 v8 c a b:D):D:=Am ts 51 (.row [.int (0:Nat),v0,v1,v2,v3,v4,v5,v6,v7,v8,c,a,b])
def UX (p q r s t u v w x y a b c d e f g h i j k l m n o:D):D:=Am ts 52 (.row [.int (0:Nat),p,q,r,s,t,u,v,w,x,y,a,b,c,d,e,f,g,h,i,j,k,l,m,n,o])
def MO (c d e f g h i j k l a b:D):D:=Am ts 52 (.row [.int (1:Nat),c,d,e,f,g,h,i,j,k,l,a,b])
def NS (a b:D):D:=Am ts 53 (.row [.int (0:Nat),a,b])
def Ot (a b c:D):D:=Am ts 53 (.row [.int (1:Nat),a,b,c])
def Vq (a b:D):D:=Am ts 54 (.row [.int (0:Nat),a,b])
def IQ (a b c:D):D:=Am ts 54 (.row [.int (1:Nat),a,b,c])
def Jn (a b c:D):D:=Am ts 55 (.row [.int (0:Nat),a,b,c])
def BF (a b c:D):D:=Am ts 56 (.row [.int (0:Nat),a,b,c])
def HE (d e f g h i j k l m a b c:D):D:=Am ts 56 (.row [.int (1:Nat),d,e,f,g,h,i,j,k,l,m,a,b,c])
def BU (k l m n o p q r s t a b c d e f g h i j:D):D:=Am ts 56 (.row [.int (2:Nat),k,l,m,n,o,p,q,r,s,t,a,b,c,d,e,f,g,h,i,j])
def eH (a b c:D):D:=Am ts 58 (.row [.int (0:Nat),a,b,c])
def LK (j k l m n o p q r s a b c d e f g h i:D):D:=Am ts 59 (.row [.int (0:Nat),j,k,l,m,n,o,p,q,r,s,a,b,c,d,e,f,g,h,i])
def MZ (a b c d e f g:D):D:=Am ts 60 (.row [.int (0:Nat),a,b,c,d,e,f,g])
def LU (a b c d e f g:D):D:=Am ts 61 (.row [.int (0:Nat),a,b,c,d,e,f,g])
def Nm (a b c d e f g h i:D):D:=Am ts 61 (.row [.int (1:Nat),a,b,c,d,e,f,g,h,i])
def My (a b c d e:D):D:=Am ts 62 (.row [.int (0:Nat),a,b,c,d,e])
def I5 (a b c d e f g:D):D:=Am ts 62 (.row [.int (1:Nat),a,b,c,d,e,f,g])
def BE (v0 a v2 v3 v4 v5 b v7 v8:D):D:=Am ts 63 (.row [.int (0:Nat),v0,a,v2,v3,v4,v5,b,v7,v8])
def O3 (v0 a v2:D):D:=Am ts 64 (.row [.int (0:Nat),v0,a,v2])
def IP (a b c d:D):D:=Am ts 64 (.row [.int (1:Nat),a,b,c,d])
def Nk (b c v2 v3 v4 v5 d v7 v8 e a:D):D:=Am ts 65 (.row [.int (0:Nat),b,c,v2,v3,v4,v5,d,v7,v8,e,a])
def Vn (a b v2 v3 v4 v5 c v7 v8 d:D):D:=Am ts 65 (.row [.int (1:Nat),a,b,v2,v3,v4,v5,c,v7,v8,d])
def NY (b c v2 v3 v4 v5 d v7 v8 e a:D):D:=Am ts 65 (.row [.int (2:Nat),b,c,v2,v3,v4,v5,d,v7,v8,e,a])
def OO (b c v2 v3 v4 v5 d v7 v8 e a:D):D:=Am ts 65 (.row [.int (3:Nat),b,c,v2,v3,v4,v5,d,v7,v8,e,a])
def OW (b c v2 v3 v4 v5 d v7 v8 e a:D):D:=Am ts 65 (.row [.int (4:Nat),b,c,v2,v3,v4,v5,d,v7,v8,e,a])
def N9 (b c v2 v3 v4 v5 d v7 v8 e a:D):D:=Am ts 65 (.row [.int (5:Nat),b,c,v2,v3,v4,v5,d,v7,v8,e,a])
def OA (b c v2 v3 v4 v5 d v7 v8 e a:D):D:=Am ts 65 (.row [.int (6:Nat),b,c,v2,v3,v4,v5,d,v7,v8,e,a])
def Ou (b c v2 v3 v4 v5 d v7 v8 e a:D):D:=Am ts 65 (.row [.int (7:Nat),b,c,v2,v3,v4,v5,d,v7,v8,e,a])
def O6 (b c v2 v3 v4 v5 d v7 v8 e a:D):D:=Am ts 65 (.row [.int (8:Nat),b,c,v2,v3,v4,v5,d,v7,v8,e,a])
def OS (b c v2 v3 v4 v5 d v7 v8 e a:D):D:=Am ts 65 (.row [.int (9:Nat),b,c,v2,v3,v4,v5,d,v7,v8,e,a])
def Ki (b c v2 v3 v4 v5 d v7 v8 e a:D):D:=Am ts 65 (.row [.int (10:Nat),b,c,v2,v3,v4,v5,d,v7,v8,e,a])
def EU (v0 v1 v2:D):D:=Am ts 66 (.row [.int (0:Nat),v0,v1,v2])
def EC (v0 a b c:D):D:=Am ts 67 (.row [.int (0:Nat),v0,a,b,c])
def Ms (a b c d e:D):D:=Am ts 67 (.row [.int (1:Nat),a,b,c,d,e])
def D9 (v0 v1 v2:D):D:=Am ts 68 (.row [.int (0:Nat),v0,v1,v2])
def tt (a b c:D):D:=Am ts 68 (.row [.int (1:Nat),a,b,c])
def Oc (c d e v3 v4 v5 v6 f v8 g a b:D):D:=Am ts 68 (.row [.int (2:Nat),c,d,e,v3,v4,v5,v6,f,v8,g,a,b])
def Q6 (d e f v3 v4 v5 v6 g v8 h a b c:D):D:=Am ts 68 (.row [.int (3:Nat),d,e,f,v3,v4,v5,v6,g,v8,h,a,b,c])
def SA (e f g v3 v4 v5 v6 h v8 i a b c d:D):D:=Am ts 68 (.row [.int (4:Nat),e,f,g,v3,v4,v5,v6,h,v8,i,a,b,c,d])
def RJ (f g h v3 v4 v5 v6 i v8 j a b c d e:D):D:=Am ts 68 (.row [.int (5:Nat),f,g,h,v3,v4,v5,v6,i,v8,j,a,b,c,d,e])
def Q0 (g h i v3 v4 v5 v6 j v8 k a b c d e f:D):D:=Am ts 68 (.row [.int (6:Nat),g,h,i,v3,v4,v5,v6,j,v8,k,a,b,c,d,e,f])
def Sw (h i j v3 v4 v5 v6 k v8 l a b c d e f g:D):D:=Am ts 68 (.row [.int (7:Nat),h,i,j,v3,v4,v5,v6,k,v8,l,a,b,c,d,e,f,g])
def Ss (h i j v3 v4 v5 v6 k v8 l a b c d e f g v17:D):D:=Am ts 68 (.row [.int (8:Nat),h,i,j,v3,v4,v5,v6,k,v8,l,a,b,c,d,e,f,g,v17])
def Rd (i j k v3 v4 v5 v6 l v8 m a b c d e f g v17 h:D):D:=Am ts 68 (.row [.int (9:Nat),i,j,k,v3,v4,v5,v6,l,v8,m,a,b,c,d,e,f,g,v17,h])
def MB (j k l v3 v4 v5 v6 m v8 n a b c d e f g v17 h i:D):D:=Am ts 68 (.row [.int (10:Nat),j,k,l,v3,v4,v5,v6,m,v8,n,a,b,c,d,e,f,g,v17,h,i])
def TL (k l m v3 v4 v5 v6 n v8 o a b c d e f g v17 h i j:D):D:=Am ts 68 (.row [.int (11:Nat),k,l,m,v3,v4,v5,v6,n,v8,o,a,b,c,d,e,f,g,v17,h,i,j])
def NU (v0 v1 v2 a:D):D:=Am ts 69 (.row [.int (0:Nat),v0,v1,v2,a])
def VA (a b c d e:D):D:=Am ts 69 (.row [.int (1:Nat),a,b,c,d,e])
def eK (v0 v1 v2 a:D):D:=Am ts 70 (.row [.int (0:Nat),v0,v1,v2,a])
theorem yT (v0 v1 v2:D):ZP v0 v1 v2 =
  cond (9<(len v1:Int)) (
 .row [.int 1,(.bool false)]) (
 cond (100<(Cx v0:Int)) (
 .row [.int 1,(.bool false)]) (
 cond (100<(Cx v2:Int)) (
 .row [.int 1,(.bool false)]) (
 Yo (.int 0) v0 v1 v2))):=gw rfl rfl rfl
theorem pS (a:Int) (c b d:D):Yo (.int a) c b d =
  cond (a<len b) (
 cond (a<0) (
 .row []) (
 cond (16<(len (cl b a 1):Int)) (
 .row [.int 1,(.bool false)]) (
 cond (100<(Cx (cl b a 0):Int)) (
 .row [.int 1,(.bool false)]) (
 Ys (.int a) (.int 0) c b d (cl b a 0) (cl b a 1))))) (
 .row [.int 1,(.bool true)]):=gw rfl rfl rfl
theorem pT (c a:Int) (d e f g b:D):Ys (.int c) (.int a) d e f g b =
  cond (a<len b) (
 cond (a<0) (
 .row []) (
 cond (100<(Cx (cl b a 0):Int)) (
 .row [.int 1,(.bool false)]) (
 cond (10<(len (cl b a 12):Int)) (
 .row [.int 1,(.bool false)]) (
 cond (6<(len (cl b a 8):Int)) (
 .row [.int 1,(.bool false)]) (
 Ys (.int c) (.int (IntKind.wrap .i64 (a+1))) d e f g b))))) (
 Yo (.int (IntKind.wrap .i64 (c+1))) d e f):=gw rfl rfl rfl
theorem qU (a:D) (b c:Bool):BB a (.bool b) (.bool c) =
 SV a (.bool b) (.bool c) (.int 0):=gw rfl rfl rfl
theorem ql (b:D) (d c:Bool) (a:Int):SV b (.bool d) (.bool c) (.int a) =
  cond (a<len b) (
 cond (a<0) (
 .row []) (
 cond (c) (
 cond ((cl b a 0).toBool) (
 .row [.int 1,(.int a)]) (
 SV b (.bool d) (.bool c) (.int (IntKind.wrap .i64 (a+1))))) (
 cond ((cl b a 0).toBool) (
 SV b (.bool d) (.bool c) (.int (IntKind.wrap .i64 (a+1)))) (
 .row [.int 1,(.int a)])))) (
 .row [.int 1,(.int (-1))]):=gw rfl rfl rfl
theorem sJ (a:D) (b:Bool):SG a (.bool b) =
 Lb a (.bool b) (.int 0):=gw rfl rfl rfl
theorem dr (b:D) (c:Bool) (a:Int):Lb b (.bool c) (.int a) =
  cond (a<len b) (
 cond (a<0) (
 .row []) (
 cond ((IntKind.wrap .u8 (cl b a 0).toInt)<65) (
 cond ((IntKind.wrap .u8 (cl b a 0).toInt)<48) (
 .row [.int 1,(.int a)]) (
 cond (57<(IntKind.wrap .u8 (cl b a 0).toInt)) (
 .row [.int 1,(.int a)]) (
 Lb b (.bool c) (.int (IntKind.wrap .i64 (a+1)))))) (
 cond (90<(IntKind.wrap .u8 (cl b a 0).toInt)) (
 cond ((IntKind.wrap .u8 (cl b a 0).toInt)<97) (
 cond ((IntKind.wrap .u8 (cl b a 0).toInt)=95) (
 Lb b (.bool c) (.int (IntKind.wrap .i64 (a+1)))) (
 .row [.int 1,(.int a)])) (
 cond (122<(IntKind.wrap .u8 (cl b a 0).toInt)) (
 .row [.int 1,(.int a)]) (
 Lb b (.bool c) (.int (IntKind.wrap .i64 (a+1)))))) (
 Lb b (.bool c) (.int (IntKind.wrap .i64 (a+1))))))) (
 .row [.int 1,(.int (-1))]):=gw rfl rfl (cL (cL rfl (cL rfl (cL (cL (cQ rfl rfl) rfl) rfl))) rfl)
theorem ap (a:D):GQ a =
  cond ((sl (BB (ad (ad Ad (.row [(.bool (!decide ((Cx a:Int)<1)))])) (.row [(.bool (!decide (32<(Cx a:Int))))])) (.bool false) (.bool false)) 0).toInt=1) (
 cond ((sl (BB (ad (ad Ad (.row [(.bool (!decide ((Cx a:Int)<1)))])) (.row [(.bool (!decide (32<(Cx a:Int))))])) (.bool false) (.bool false)) 1).toInt<0) (
 cond (0<(Cx a:Int)) (
 cond ((sAt a 0)<65) (
 .row [.int 1,(.bool false)]) (
 cond (90<(sAt a 0)) (
 cond ((sAt a 0)<97) (
 .row [.int 1,(.bool false)]) (
 cond (122<(sAt a 0)) (
 .row [.int 1,(.bool false)]) (
 cond ((sl (SG (NB a) (.bool false)) 0).toInt=1) (
 .row [.int 1,(.bool (decide ((sl (SG (NB a) (.bool false)) 1).toInt<0)))]) (
 .row [])))) (
 cond ((sl (SG (NB a) (.bool false)) 0).toInt=1) (
 .row [.int 1,(.bool (decide ((sl (SG (NB a) (.bool false)) 1).toInt<0)))]) (
 .row [])))) (
 .row [])) (
 .row [.int 1,(.bool false)])) (
 .row []):=gw rfl rfl (cQ (cL (cL (cL rfl (cL (cL rfl (cL rfl (cQ rfl rfl))) (cQ rfl rfl))) rfl) rfl) rfl)
theorem yY (a b:D):GV a b =
 WL a (.int 0) b:=gw rfl rfl rfl
theorem va (b:D) (a:Int) (c:D):WL b (.int a) c =
  cond (a<len b) (
 cond (a<0) (
 .row []) (
 cond (D.strEq (cl b a 0) c) (
 .row [.int 1,(.int a)]) (
 WL b (.int (IntKind.wrap .i64 (a+1))) c))) (
 .row [.int 1,(.int (-1))]):=gw rfl rfl rfl
theorem yg (a b:D) (c:Bool):gp a b (.bool c) =
  cond ((len a:Int)=(len b:Int)) (
 f7 a b (.bool c) (.int 0)) (
 .row [.int 1,(.bool false)]):=gw rfl rfl (cQ rfl rfl)
theorem yz (b c:D) (d:Bool) (a:Int):f7 b c (.bool d) (.int a) =
  cond (a<len b) (
 cond (a<0) (
 .row []) (
 cond (a<len c) (
 cond ((D.strEq (cl b a 0) (cl c a 0)&&decide ((cl b a 1).toInt=(cl c a 1).toInt))) (
 f7 b c (.bool d) (.int (IntKind.wrap .i64 (a+1)))) (
 .row [.int 1,(.bool false)])) (
 .row []))) (
 .row [.int 1,(.bool true)]):=gw rfl rfl (cL (cL rfl (cL (cg (aE rfl (qE rfl rfl)) rfl rfl) rfl)) rfl)
theorem yu (a b:D) (c:Bool):jD a b (.bool c) =
  cond ((len a:Int)=(len b:Int)) (
 jf a b (.bool c) (.int 0)) (
 .row [.int 1,(.bool false)]):=gw rfl rfl (cQ rfl rfl)
theorem yC (b c:D) (d:Bool) (a:Int):jf b c (.bool d) (.int a) =
  cond (a<len b) (
 cond (a<0) (
 .row []) (
 cond (a<len c) (
 cond ((decide ((cl b a 0).toInt=(cl c a 0).toInt)&&(decide ((cl b a 1).toInt=(cl c a 1).toInt)&&D.strEq (cl b a 2) (cl c a 2)))) (
 jf b c (.bool d) (.int (IntKind.wrap .i64 (a+1)))) (
 .row [.int 1,(.bool false)])) (
 .row []))) (
 .row [.int 1,(.bool true)]):=gw rfl rfl (cL (cL rfl (cL (cg (aE (qE rfl rfl) (aE (qE rfl rfl) rfl)) rfl rfl) rfl)) rfl)
theorem tH (d e f g h:D) (i j:Int) (k l:D) (m a:Int) (b:D) (c:Bool):CZ d e f g h (.int i) (.int j) k l (.int m) (.int a) b (.bool c) =
 YR (.int m) (.int a) b (.bool c) (.int 0) d e f (.int i) (.int j) k l g h:=gw rfl rfl rfl
theorem jb (j i:Int) (b:D) (k:Bool) (a:Int) (l m n:D) (g h:Int) (c d e f:D):YR (.int j) (.int i) b (.bool k) (.int a) l m n (.int g) (.int h) c d e f =
  cond (a<len b) (
 cond (a<0) (
 .row []) (
 cond ((cl b a 0).toInt<j) (
 .row [.int 1,(.int g),(.int h)]) (
 cond (i<(cl b a 0).toInt) (
 .row [.int 1,(.int g),(.int h)]) (
 YR (cl b a 0) (.int i) b (.bool k) (.int (IntKind.wrap .i64 (a+1))) l m n (.int g) (.int h) c d e f)))) (
 .row [.int 2]):=gw rfl rfl rfl
theorem yq (a b:D):Ul a b =
 SP a (.int 0) b:=gw rfl rfl rfl
theorem qG (b:D) (a:Int) (c:D) {d e:D} (f:BB (ad (ad (ad Ad (.row [(sl (GQ (cl b a 0)) 1)])) (.row [(.bool true)])) (.row [(.bool false)])) (.bool false) (.bool false)=e) (g:BB (ad (ad (ad Ad (.row [(sl (GQ (cl b a 0)) 1)])) (.row [(.bool (!decide ((cl b a 1).toInt=0)))])) (.row [(.bool (!decide (1048576<(cl b a 1).toInt)))])) (.bool false) (.bool false)=d):SP b (.int a) c =
  cond (a<len b) (
 cond (a<0) (
 .row []) (
 cond ((mIx [.str] c (.row [(cl b a 0)]))<0) (
 cond ((sl (GQ (cl b a 0)) 0).toInt=1) (
 cond ((cl b a 1).toInt<(-1048576)) (
 cond ((sl e 0).toInt=1) (
 cond ((sl e 1).toInt<0) (
 SP b (.int (IntKind.wrap .i64 (a+1))) (ad c (.row [(cl b a 0),(.bool true)]))) (
 .row [.int 1,(.int a),(ad c (.row [(cl b a 0),(.bool true)]))])) (
 .row [])) (
 cond ((sl d 0).toInt=1) (
 cond ((sl d 1).toInt<0) (
 SP b (.int (IntKind.wrap .i64 (a+1))) (ad c (.row [(cl b a 0),(.bool true)]))) (
 .row [.int 1,(.int a),(ad c (.row [(cl b a 0),(.bool true)]))])) (
 .row []))) (
 .row [])) (
 cond ((cl c (mIx [.str] c (.row [(cl b a 0)])) 1).toBool) (
 .row [.int 1,(.int a),(upd c (mIx [.str] c (.row [(cl b a 0)])) 1 (.bool true))]) (
 cond ((sl (GQ (cl b a 0)) 0).toInt=1) (
 cond ((cl b a 1).toInt<(-1048576)) (
 cond ((sl e 0).toInt=1) (
 cond ((sl e 1).toInt<0) (
 SP b (.int (IntKind.wrap .i64 (a+1))) (upd c (mIx [.str] c (.row [(cl b a 0)])) 1 (.bool true))) (
 .row [.int 1,(.int a),(upd c (mIx [.str] c (.row [(cl b a 0)])) 1 (.bool true))])) (
 .row [])) (
 cond ((sl d 0).toInt=1) (
 cond ((sl d 1).toInt<0) (
 SP b (.int (IntKind.wrap .i64 (a+1))) (upd c (mIx [.str] c (.row [(cl b a 0)])) 1 (.bool true))) (
 .row [.int 1,(.int a),(upd c (mIx [.str] c (.row [(cl b a 0)])) 1 (.bool true))])) (
 .row []))) (
 .row []))))) (
 .row [.int 1,(.int (-1)),c]):=by
  subst g;subst f;exact gw rfl rfl (cL (cL rfl (cL (cQ (cL (cQ rfl rfl) (cQ (cL rfl rfl) rfl)) rfl) (cg rfl rfl (cQ (cL (cQ rfl rfl) (cQ (cL rfl rfl) rfl)) rfl)))) rfl)
theorem yJ (a:D):Bm a =
 Lc a (.int 0) Ad:=gw rfl rfl rfl
theorem pz (b:D) (a:Int) (c:D):Lc b (.int a) c =
  cond (a<len b) (
 cond (a<0) (
 .row []) (
 cond ((cl b a 1).toInt=1) (
 cond ((mIx [.str] c (.row [(cl b a 0)]))<0) (
 Lc b (.int (IntKind.wrap .i64 (a+1))) (ad c (.row [(cl b a 0),(cl b a 5),(cl b a 6)]))) (
 Lc b (.int (IntKind.wrap .i64 (a+1))) (upd (upd c (mIx [.str] c (.row [(cl b a 0)])) 1 (cl b a 5)) (mIx [.str] c (.row [(cl b a 0)])) 2 (cl b a 6)))) (
 cond ((cl b a 1).toInt=2) (
 cond ((mIx [.str] c (.row [(cl b a 0)]))<0) (
 Lc b (.int (IntKind.wrap .i64 (a+1))) (ad c (.row [(cl b a 0),(cl b a 5),(cl b a 5)]))) (
 Lc b (.int (IntKind.wrap .i64 (a+1))) (upd (upd c (mIx [.str] c (.row [(cl b a 0)])) 1 (cl b a 5)) (mIx [.str] c (.row [(cl b a 0)])) 2 (cl b a 5)))) (
 cond ((cl b a 1).toInt=3) (
 cond ((mIx [.str] c (.row [(cl b a 0)]))<0) (
 Lc b (.int (IntKind.wrap .i64 (a+1))) (ad c (.row [(cl b a 0),(cl b a 5),(cl b a 6)]))) (
 Lc b (.int (IntKind.wrap .i64 (a+1))) (upd (upd c (mIx [.str] c (.row [(cl b a 0)])) 1 (cl b a 5)) (mIx [.str] c (.row [(cl b a 0)])) 2 (cl b a 6)))) (
 Lc b (.int (IntKind.wrap .i64 (a+1))) c))))) (
 .row [.int 1,c]):=gw rfl rfl (cL (cL rfl (cQ rfl (cQ rfl (cQ rfl rfl)))) rfl)
theorem Xv (c d e f g:D) (h i:Int) (j k l a:D) (b:Bool):DI c d e f g (.int h) (.int i) j k l a (.bool b) =
 LO a (.bool b) (.int 0) c d e (.int h) (.int i) j k f g l:=gw rfl rfl rfl
theorem OZ (e:D) (h:Bool) (b:Int) (i j k:D) (f g:Int) (l m c d a:D):LO e (.bool h) (.int b) i j k (.int f) (.int g) l m c d a =
  cond (b<len e) (
 cond (b<0) (
 .row []) (
 cond ((mIx [.str] a (.row [(cl e b 0)]))<0) (
 .row [.int 1,(.int f),(.int g)]) (
 LO e (.bool h) (.int (IntKind.wrap .i64 (b+1))) i j k (.int f) (.int g) l m c d a))) (
 .row [.int 2]):=gw rfl rfl rfl
theorem sA (a b:D) (c:Int) (d:Bool) (e:D) (f:Bool):Es a b (.int c) (.bool d) e (.bool f) =
 HM e (.bool f) (.int 0) a b (.int c) (.bool d):=gw rfl rfl rfl
theorem X8 (c:D) (f:Bool) (b:Int) (d a:D) (g:Int) (e:Bool):HM c (.bool f) (.int b) d a (.int g) (.bool e) =
  cond (b<len c) (
 cond (b<0) (
 .row []) (
 cond ((mIx [.str] a (.row [(cl c b 0)]))<0) (
 cond (D.strEq (cl c b 0) d) (
 HM c (.bool f) (.int (IntKind.wrap .i64 (b+1))) d a (.int g) (.bool e)) (
 HM c (.bool f) (.int (IntKind.wrap .i64 (b+1))) d a (.int g) (.bool true))) (
 cond (D.strEq (cl c b 0) d) (
 HM c (.bool f) (.int (IntKind.wrap .i64 (b+1))) d a (.int g) (.bool e)) (
 cond ((sl (BB (ad (ad (ad Ad (.row [(.bool (!decide ((cl a (mIx [.str] a (.row [(cl c b 0)])) 1).toInt<0)))])) (.row [(.bool (!decide ((cl a (mIx [.str] a (.row [(cl c b 0)])) 2).toInt<(cl a (mIx [.str] a (.row [(cl c b 0)])) 1).toInt)))])) (.row [(.bool (decide ((cl a (mIx [.str] a (.row [(cl c b 0)])) 2).toInt<34359738368)))])) (.bool false) (.bool false)) 0).toInt=1) (
 cond ((sl (BB (ad (ad (ad Ad (.row [(.bool (!decide ((cl a (mIx [.str] a (.row [(cl c b 0)])) 1).toInt<0)))])) (.row [(.bool (!decide ((cl a (mIx [.str] a (.row [(cl c b 0)])) 2).toInt<(cl a (mIx [.str] a (.row [(cl c b 0)])) 1).toInt)))])) (.row [(.bool (decide ((cl a (mIx [.str] a (.row [(cl c b 0)])) 2).toInt<34359738368)))])) (.bool false) (.bool false)) 1).toInt<0) (
 HM c (.bool f) (.int (IntKind.wrap .i64 (b+1))) d a (.int g) (.bool e)) (
 .row [.int 1,(.bool e)])) (
 .row []))))) (
 .row [.int 2,(.bool e)]):=gw rfl rfl (cL (cL rfl (cL rfl (cg rfl rfl (cQ (cL rfl rfl) rfl)))) rfl)
theorem fB (a:Int) (b c:D) (d:Bool):DX (.int a) b c (.bool d) =
 EY (.int a) b (.int 0) c (.bool d):=gw rfl rfl rfl
theorem U3 (e:Int) (b:D) (a:Int) (c:D) (d:Bool):EY (.int e) b (.int a) c (.bool d) =
  cond (a<len b) (
 cond (a<0) (
 .row []) (
 cond ((mIx [.str] c (.row [(cl b a 0)]))<0) (
 cond (d) (
 cond (0<(cl b a 1).toInt) (
 EY (.int (IntKind.wrap .i64 (e+(IntKind.wrap .i64 ((cl b a 1).toInt*0))))) b (.int (IntKind.wrap .i64 (a+1))) c (.bool d)) (
 EY (.int (IntKind.wrap .i64 (e+(IntKind.wrap .i64 ((cl b a 1).toInt*0))))) b (.int (IntKind.wrap .i64 (a+1))) c (.bool d))) (
 cond (0<(cl b a 1).toInt) (
 EY (.int (IntKind.wrap .i64 (e+(IntKind.wrap .i64 ((cl b a 1).toInt*0))))) b (.int (IntKind.wrap .i64 (a+1))) c (.bool d)) (
 EY (.int (IntKind.wrap .i64 (e+(IntKind.wrap .i64 ((cl b a 1).toInt*0))))) b (.int (IntKind.wrap .i64 (a+1))) c (.bool d)))) (
 cond (d) (
 cond (0<(cl b a 1).toInt) (
 EY (.int (IntKind.wrap .i64 (e+(IntKind.wrap .i64 ((cl b a 1).toInt*(cl c (mIx [.str] c (.row [(cl b a 0)])) 1).toInt))))) b (.int (IntKind.wrap .i64 (a+1))) c (.bool d)) (
 EY (.int (IntKind.wrap .i64 (e+(IntKind.wrap .i64 ((cl b a 1).toInt*(cl c (mIx [.str] c (.row [(cl b a 0)])) 2).toInt))))) b (.int (IntKind.wrap .i64 (a+1))) c (.bool d))) (
 cond (0<(cl b a 1).toInt) (
 EY (.int (IntKind.wrap .i64 (e+(IntKind.wrap .i64 ((cl b a 1).toInt*(cl c (mIx [.str] c (.row [(cl b a 0)])) 2).toInt))))) b (.int (IntKind.wrap .i64 (a+1))) c (.bool d)) (
 EY (.int (IntKind.wrap .i64 (e+(IntKind.wrap .i64 ((cl b a 1).toInt*(cl c (mIx [.str] c (.row [(cl b a 0)])) 1).toInt))))) b (.int (IntKind.wrap .i64 (a+1))) c (.bool d)))))) (
 .row [.int 1,(.int e)]):=gw rfl rfl rfl
theorem Zj (v0 v1 v2 v3 v4:D) (v5 v6:Int) (v7 v8 o:D) (c d:Int) (e f:Bool) (g h b:Int) (a i j k l:D) (m n:Int):IE v0 v1 v2 v3 v4 (.int v5) (.int v6) v7 v8 o (.int c) (.int d) (.bool e) (.bool f) (.int g) (.int h) (.int b) a i j k l (.int m) (.int n) =
  cond (b<(-1048576)) (
 .row [.int 1,(.int v5),(.int v6),(.int 9)]) (
 cond ((sl (BB (ad (ad Ad (.row [(.bool (!decide (1048576<b)))])) (.row [(.bool (!decide (4<(len a:Int))))])) (.bool false) (.bool false)) 0).toInt=1) (
 cond ((sl (BB (ad (ad Ad (.row [(.bool (!decide (1048576<b)))])) (.row [(.bool (!decide (4<(len a:Int))))])) (.bool false) (.bool false)) 1).toInt<0) (
 cond ((sl (Ul a Ad) 0).toInt=1) (
 cond ((sl (Ul a Ad) 1).toInt<0) (
 cond (v6<0) (
 .row []) (
 cond (len v8<v6) (
 .row []) (
 cond ((sl (Bm (sb v8 0 v6)) 0).toInt=1) (
 cond (a.isNil) (
 cond ((sl (DI v0 v1 v2 v3 v4 (.int v5) (.int v6) v7 v8 (sl (Bm (sb v8 0 v6)) 1) B0 (.bool true)) 0).toInt=1) (
 .row [.int 1,(sl (DI v0 v1 v2 v3 v4 (.int v5) (.int v6) v7 v8 (sl (Bm (sb v8 0 v6)) 1) B0 (.bool true)) 1),(sl (DI v0 v1 v2 v3 v4 (.int v5) (.int v6) v7 v8 (sl (Bm (sb v8 0 v6)) 1) B0 (.bool true)) 2),(.int 8)]) (
 cond ((sl (DI v0 v1 v2 v3 v4 (.int v5) (.int v6) v7 v8 (sl (Bm (sb v8 0 v6)) 1) B0 (.bool true)) 0).toInt=2) (
 cond ((sl (Es (AA 0 0) (sl (Bm (sb v8 0 v6)) 1) (.int 0) (.bool false) B0 (.bool true)) 0).toInt=1) (
 .row [.int 1,(.int v5),(.int v6),(.int 9)]) (
 cond ((sl (Es (AA 0 0) (sl (Bm (sb v8 0 v6)) 1) (.int 0) (.bool false) B0 (.bool true)) 0).toInt=2) (
 cond ((sl (Es (AA 0 0) (sl (Bm (sb v8 0 v6)) 1) (.int 0) (.bool false) B0 (.bool true)) 1).toBool) (
 .row [.int 1,(.int v5),(.int v6),(.int 9)]) (
 cond ((sl (DX (.int b) a (sl (Bm (sb v8 0 v6)) 1) (.bool true)) 0).toInt=1) (
 cond ((sl (DX (.int b) a (sl (Bm (sb v8 0 v6)) 1) (.bool false)) 0).toInt=1) (
 cond ((sl (DX (.int b) a (sl (Bm (sb v8 0 v6)) 1) (.bool true)) 1).toInt<0) (
 .row [.int 1,(.int v5),(.int v6),(.int 9)]) (
 cond (1048576<(sl (DX (.int b) a (sl (Bm (sb v8 0 v6)) 1) (.bool false)) 1).toInt) (
 .row [.int 1,(.int v5),(.int v6),(.int 9)]) (
 .row [.int 2]))) (
 .row [])) (
 .row []))) (
 .row []))) (
 .row []))) (
 cond ((len a:Int)<1048576) (
 cond ((sl (DI v0 v1 v2 v3 v4 (.int v5) (.int v6) v7 v8 (sl (Bm (sb v8 0 v6)) 1) (ct Ad a) (.bool (false&&decide ((len a:Int)=0)))) 0).toInt=1) (
 .row [.int 1,(sl (DI v0 v1 v2 v3 v4 (.int v5) (.int v6) v7 v8 (sl (Bm (sb v8 0 v6)) 1) (ct Ad a) (.bool false)) 1),(sl (DI v0 v1 v2 v3 v4 (.int v5) (.int v6) v7 v8 (sl (Bm (sb v8 0 v6)) 1) (ct Ad a) (.bool false)) 2),(.int 8)]) (
 cond ((sl (DI v0 v1 v2 v3 v4 (.int v5) (.int v6) v7 v8 (sl (Bm (sb v8 0 v6)) 1) (ct Ad a) (.bool (false&&decide ((len a:Int)=0)))) 0).toInt=2) (
 cond ((sl (Es (AA 0 0) (sl (Bm (sb v8 0 v6)) 1) (.int 0) (.bool false) (ct Ad a) (.bool (false&&decide ((len a:Int)=0)))) 0).toInt=1) (
 .row [.int 1,(.int v5),(.int v6),(.int 9)]) (
 cond ((sl (Es (AA 0 0) (sl (Bm (sb v8 0 v6)) 1) (.int 0) (.bool false) (ct Ad a) (.bool (false&&decide ((len a:Int)=0)))) 0).toInt=2) (
 cond ((sl (Es (AA 0 0) (sl (Bm (sb v8 0 v6)) 1) (.int 0) (.bool false) (ct Ad a) (.bool (false&&decide ((len a:Int)=0)))) 1).toBool) (
 .row [.int 1,(.int v5),(.int v6),(.int 9)]) (
 cond ((sl (DX (.int b) a (sl (Bm (sb v8 0 v6)) 1) (.bool true)) 0).toInt=1) (
 cond ((sl (DX (.int b) a (sl (Bm (sb v8 0 v6)) 1) (.bool false)) 0).toInt=1) (
 cond ((sl (DX (.int b) a (sl (Bm (sb v8 0 v6)) 1) (.bool true)) 1).toInt<0) (
 .row [.int 1,(.int v5),(.int v6),(.int 9)]) (
 cond (1048576<(sl (DX (.int b) a (sl (Bm (sb v8 0 v6)) 1) (.bool false)) 1).toInt) (
 .row [.int 1,(.int v5),(.int v6),(.int 9)]) (
 .row [.int 2]))) (
 .row [])) (
 .row []))) (
 .row []))) (
 .row []))) (
 .row []))) (
 .row [])))) (
 .row [.int 1,(.int v5),(.int v6),(.int 9)])) (
 .row [])) (
 .row [.int 1,(.int v5),(.int v6),(.int 9)])) (
 .row [])):=gw rfl rfl (cL rfl (cQ (cL (cQ (cL (cL rfl (cL rfl (cQ (cg rfl (cQ rfl (cQ (cQ rfl (cQ (cg rfl rfl (cQ (cQ (cL rfl (cL rfl rfl)) rfl) rfl)) rfl)) rfl)) (cL (cQ rfl (cQ (cQ rfl (cQ (cg rfl rfl (cQ (cQ (cL rfl (cL rfl rfl)) rfl) rfl)) rfl)) rfl)) rfl)) rfl))) rfl) rfl) rfl) rfl))
theorem qI (g h:D) (i j:Int) (k l:Bool) (m n o:Int) (p a b c d:D) (e f:Int):Su g h (.int i) (.int j) (.bool k) (.bool l) (.int m) (.int n) (.int o) p a b c d (.int e) (.int f) =
 L8 g (.int 0) h (.int i) (.int j) (.bool k) (.bool l) (.int m) (.int n) (.int o) p a b c d (.int e) (.int f):=gw rfl rfl rfl
theorem en (i:D) (b:Int) (j:D) (k l:Int) (m n:Bool) (o p q:Int) (c d a e f:D) (g h:Int):L8 i (.int b) j (.int k) (.int l) (.bool m) (.bool n) (.int o) (.int p) (.int q) c d a e f (.int g) (.int h) =
  cond (b<len i) (
 cond (b<0) (
 .row []) (
 cond ((cl i b 1).toInt=9) (
 cond (D.strEq (cl i b 10) a) (
 .row [.int 1,(.int b)]) (
 L8 i (.int (IntKind.wrap .i64 (b+1))) j (.int k) (.int l) (.bool m) (.bool n) (.int o) (.int p) (.int q) c d a e f (.int g) (.int h))) (
 L8 i (.int (IntKind.wrap .i64 (b+1))) j (.int k) (.int l) (.bool m) (.bool n) (.int o) (.int p) (.int q) c d a e f (.int g) (.int h)))) (
 .row [.int 1,(.int (-1))]):=gw rfl rfl (cL (cL rfl (cQ rfl rfl)) rfl)
theorem ZD (d e f g h:D) (c a:Int) (i b v9:D) (v10 v11:Int) (v12 v13:Bool) (v14 v15 v16:Int) (v17 v18 v19 v20 v21:D) (v22 v23:Int):KF d e f g h (.int c) (.int a) i b v9 (.int v10) (.int v11) (.bool v12) (.bool v13) (.int v14) (.int v15) (.int v16) v17 v18 v19 v20 v21 (.int v22) (.int v23) =
  cond (a<0) (
 .row []) (
 cond (len b<a) (
 .row []) (
 cond ((sl (Bm (sb b 0 a)) 0).toInt=1) (
 cond ((mIx [.str] (sl (Bm (sb b 0 a)) 1) (.row [v19]))<0) (
 cond ((sl (Su (sb b 0 a) v9 (.int v10) (.int v11) (.bool v12) (.bool v13) (.int v14) (.int v15) (.int v16) v17 v18 v19 v20 v21 (.int v22) (.int v23)) 0).toInt=1) (
 .row [.int 1,(.int c),(.int a),(.int 8)]) (
 .row [])) (
 cond ((sl (Su (sb b 0 a) v9 (.int v10) (.int v11) (.bool v12) (.bool v13) (.int v14) (.int v15) (.int v16) v17 v18 v19 v20 v21 (.int v22) (.int v23)) 0).toInt=1) (
 cond ((sl (Su (sb b 0 a) v9 (.int v10) (.int v11) (.bool v12) (.bool v13) (.int v14) (.int v15) (.int v16) v17 v18 v19 v20 v21 (.int v22) (.int v23)) 1).toInt<0) (
 cond ((len v21:Int)<1) (
 .row [.int 1,(.int c),(.int a),(.int 3)]) (
 cond (40<(len v21:Int)) (
 .row [.int 1,(.int c),(.int a),(.int 3)]) (
 Od (cl (sl (Bm (sb b 0 a)) 1) (mIx [.str] (sl (Bm (sb b 0 a)) 1) (.row [v19])) 1) v21 (.int 0) d e f (.int c) (.int a) i b g h (cl (sl (Bm (sb b 0 a)) 1) (mIx [.str] (sl (Bm (sb b 0 a)) 1) (.row [v19])) 1) (cl (sl (Bm (sb b 0 a)) 1) (mIx [.str] (sl (Bm (sb b 0 a)) 1) (.row [v19])) 2)))) (
 .row [.int 1,(.int c),(.int a),(.int 8)])) (
 .row []))) (
 .row []))):=gw rfl rfl (cL rfl (cL rfl (cQ (cL (cQ rfl rfl) (cQ rfl rfl)) rfl)))
theorem Oh (v0:Int) (v1:D) (v2:Int) (v3 v4 v5:D) (v6 v7:Int) (v8 d a b:D) (e c:Int):Od (.int v0) v1 (.int v2) v3 v4 v5 (.int v6) (.int v7) v8 d a b (.int e) (.int c) =
  cond (v2<len v1) (
 cond (v2<0) (
 .row []) (
 cond ((sl (CZ v3 v4 v5 a b (.int v6) (.int v7) v8 d (.int v0) (.int c) (ad (ad Ad (.row [(cl v1 v2 0)])) (.row [(cl v1 v2 1)])) (.bool false)) 0).toInt=1) (
 .row [.int 1,(sl (CZ v3 v4 v5 a b (.int v6) (.int v7) v8 d (.int v0) (.int c) (ad (ad Ad (.row [(cl v1 v2 0)])) (.row [(cl v1 v2 1)])) (.bool false)) 1),(sl (CZ v3 v4 v5 a b (.int v6) (.int v7) v8 d (.int v0) (.int c) (ad (ad Ad (.row [(cl v1 v2 0)])) (.row [(cl v1 v2 1)])) (.bool false)) 2),(.int 7)]) (
 cond ((sl (CZ v3 v4 v5 a b (.int v6) (.int v7) v8 d (.int v0) (.int c) (ad (ad Ad (.row [(cl v1 v2 0)])) (.row [(cl v1 v2 1)])) (.bool false)) 0).toInt=2) (
 cond ((mIx [.str] a (.row [(cl v1 v2 2)]))<0) (
 .row [.int 1,(.int v6),(.int v7),(.int 8)]) (
 Od (.int (IntKind.wrap .i64 ((cl v1 v2 1).toInt+1))) v1 (.int (IntKind.wrap .i64 (v2+1))) v3 v4 v5 (.int v6) (.int v7) v8 d a b (.int e) (.int c))) (
 .row [])))) (
 .row [.int 2]):=gw rfl rfl (cL (cL rfl (cQ rfl (cQ rfl rfl))) rfl)
theorem X0 (v0 v1 v2 v3 v4:D) (v5 v6:Int) (v7 v8 g:D) (a b:Int) (c d:Bool) (h i m:Int) (s e l f t:D) (j k:Int) {p u v w n x o y z A q r:D} (E:IE v0 v1 v2 v3 v4 (.int v5) (.int v6) v7 v8 g (.int a) (.int b) (.bool c) (.bool d) (.int h) (.int i) (.int m) s e l f t (.int j) (.int k)=p) (F:CZ v0 v1 v2 v3 v4 (.int v5) (.int v6) v7 v8 (.int 0) (.int (IntKind.wrap .i64 ((ari .shl .i64 1 b)-1))) (ad (ad Ad (.row [(.int h)])) (.row [(.int i)])) (.bool false)=u) (G:CZ v0 v1 v2 v3 v4 (.int v5) (.int v6) v7 v8 (.int 0) (.int (IntKind.wrap .i64 ((ari .shl .i64 1 b)-1))) (ad Ad (.row [(.int h)])) (.bool false)=v) (H:KF v0 v1 v2 v3 v4 (.int v5) (.int v6) v7 v8 g (.int a) (.int b) (.bool c) (.bool d) (.int h) (.int i) (.int m) s e l f t (.int j) (.int k)=w) (I:jD t B0 (.bool true)=n) (J:CZ v0 v1 v2 v3 v4 (.int v5) (.int v6) v7 v8 (.int 0) (.int 34359738367) (ad (ad Ad (.row [(.int h)])) (.row [(.int i)])) (.bool false)=x) (K:gp s B0 (.bool true)=o) (L:CZ v0 v1 v2 v3 v4 (.int v5) (.int v6) v7 v8 (.int 0) (.int 4294967295) (ad Ad (.row [(.int k)])) (.bool false)=y) (M:CZ v0 v1 v2 v3 v4 (.int v5) (.int v6) v7 v8 (.int 2) (.int 1048576) (ad Ad (.row [(.int i)])) (.bool false)=z) (N:CZ v0 v1 v2 v3 v4 (.int v5) (.int v6) v7 v8 (.int 0) (.int 1048576) (ad Ad (.row [(.int i)])) (.bool false)=A) (B:CZ v0 v1 v2 v3 v4 (.int v5) (.int v6) v7 v8 (.int 0) (.int 255) (ad Ad (.row [(.int h)])) (.bool false)=q) (C:CZ v0 v1 v2 v3 v4 (.int v5) (.int v6) v7 v8 (.int 1) (.int 3) (ad Ad (.row [(.int j)])) (.bool false)=r):Ra v0 v1 v2 v3 v4 (.int v5) (.int v6) v7 v8 g (.int a) (.int b) (.bool c) (.bool d) (.int h) (.int i) (.int m) s e l f t (.int j) (.int k) =
  cond ((sl (GQ g) 0).toInt=1) (
 cond ((sl (GQ g) 1).toBool) (
 cond (v6<0) (
 .row []) (
 cond (len v8<v6) (
 .row []) (
 cond ((sl (GV (sb v8 0 v6) g) 0).toInt=1) (
 cond ((sl (GV (sb v8 0 v6) g) 1).toInt<0) (
 cond (a=1) (
 cond ((D.strEq g g&&(D.strEq e (AA 0 0)&&(D.strEq l (AA 0 0)&&(D.strEq f (AA 0 0)&&(decide (a=a)&&(true&&(true&&(true&&(decide (m=0)&&(decide (j=0)&&(decide (k=0)&&((!((!(false&&false))&&(!((!false)&&(!false)))))&&(!((!((d&&true)&&false))&&(!((!(d&&true))&&(!false)))))))))))))))))) (
 cond ((sl o 0).toInt=1) (
 cond ((sl o 1).toBool) (
 cond ((sl n 0).toInt=1) (
 cond ((sl n 1).toBool) (
 cond (b<1) (
 .row [.int 1,(.int v5),(.int v6),(.int 6)]) (
 cond (32<b) (
 .row [.int 1,(.int v5),(.int v6),(.int 6)]) (
 cond (c) (
 cond (8<b) (
 cond ((ari .rem .i64 b 8)=0) (
 cond ((sl u 0).toInt=1) (
 .row [.int 1,(sl u 1),(sl u 2),(.int 7)]) (
 cond ((sl u 0).toInt=2) (
 .row [.int 2]) (
 .row []))) (
 .row [.int 1,(.int v5),(.int v6),(.int 6)])) (
 .row [.int 1,(.int v5),(.int v6),(.int 6)])) (
 cond ((sl u 0).toInt=1) (
 .row [.int 1,(sl u 1),(sl u 2),(.int 7)]) (
 cond ((sl u 0).toInt=2) (
 .row [.int 2]) (
 .row [])))))) (
 .row [.int 1,(.int v5),(.int v6),(.int 5)])) (
 .row [])) (
 .row [.int 1,(.int v5),(.int v6),(.int 5)])) (
 .row [])) (
 .row [.int 1,(.int v5),(.int v6),(.int 5)])) (
 cond (a=2) (
 cond ((D.strEq g g&&(D.strEq e (AA 0 0)&&(D.strEq l (AA 0 0)&&(D.strEq f (AA 0 0)&&(decide (a=a)&&(true&&(true&&(decide (i=0)&&(decide (m=0)&&(decide (j=0)&&(decide (k=0)&&((!((!(false&&false))&&(!((!false)&&(!false)))))&&(!((!((d&&true)&&false))&&(!((!(d&&true))&&(!false)))))))))))))))))) (
 cond ((sl o 0).toInt=1) (
 cond ((sl o 1).toBool) (
 cond ((sl n 0).toInt=1) (
 cond ((sl n 1).toBool) (
 cond (b<1) (
 .row [.int 1,(.int v5),(.int v6),(.int 6)]) (
 cond (32<b) (
 .row [.int 1,(.int v5),(.int v6),(.int 6)]) (
 cond (c) (
 cond (8<b) (
 cond ((ari .rem .i64 b 8)=0) (
 cond ((sl v 0).toInt=1) (
 .row [.int 1,(sl v 1),(sl v 2),(.int 7)]) (
 cond ((sl v 0).toInt=2) (
 .row [.int 2]) (
 .row []))) (
 .row [.int 1,(.int v5),(.int v6),(.int 6)])) (
 .row [.int 1,(.int v5),(.int v6),(.int 6)])) (
 cond ((sl v 0).toInt=1) (
 .row [.int 1,(sl v 1),(sl v 2),(.int 7)]) (
 cond ((sl v 0).toInt=2) (
 .row [.int 2]) (
 .row [])))))) (
 .row [.int 1,(.int v5),(.int v6),(.int 5)])) (
 .row [])) (
 .row [.int 1,(.int v5),(.int v6),(.int 5)])) (
 .row [])) (
 .row [.int 1,(.int v5),(.int v6),(.int 5)])) (
 cond (a=3) (
 cond ((D.strEq g g&&(D.strEq e (AA 0 0)&&(D.strEq l (AA 0 0)&&(D.strEq f (AA 0 0)&&(decide (a=a)&&(decide (b=0)&&(true&&(true&&(decide (m=0)&&(decide (j=0)&&(decide (k=0)&&((!((!((c&&true)&&false))&&(!((!(c&&true))&&(!false)))))&&(!((!(false&&false))&&(!((!false)&&(!false)))))))))))))))))) (
 cond ((sl o 0).toInt=1) (
 cond ((sl o 1).toBool) (
 cond ((sl n 0).toInt=1) (
 cond ((sl n 1).toBool) (
 cond ((sl x 0).toInt=1) (
 .row [.int 1,(sl x 1),(sl x 2),(.int 7)]) (
 cond ((sl x 0).toInt=2) (
 .row [.int 2]) (
 .row []))) (
 .row [.int 1,(.int v5),(.int v6),(.int 5)])) (
 .row [])) (
 .row [.int 1,(.int v5),(.int v6),(.int 5)])) (
 .row [])) (
 .row [.int 1,(.int v5),(.int v6),(.int 5)])) (
 cond (a=4) (
 cond ((D.strEq g g&&(D.strEq e (AA 0 0)&&(D.strEq l (AA 0 0)&&(D.strEq f (AA 0 0)&&(decide (a=a)&&(decide (b=0)&&(decide (h=0)&&(decide (i=0)&&(true&&(decide (j=0)&&(decide (k=0)&&((!((!((c&&true)&&false))&&(!((!(c&&true))&&(!false)))))&&(!((!((d&&true)&&false))&&(!((!(d&&true))&&(!false)))))))))))))))))) (
 cond ((sl n 0).toInt=1) (
 cond ((sl n 1).toBool) (
 cond ((sl p 0).toInt=1) (
 .row [.int 1,(sl p 1),(sl p 2),(sl p 3)]) (
 cond ((sl p 0).toInt=2) (
 .row [.int 2]) (
 .row []))) (
 .row [.int 1,(.int v5),(.int v6),(.int 5)])) (
 .row [])) (
 .row [.int 1,(.int v5),(.int v6),(.int 5)])) (
 cond (a=5) (
 cond ((D.strEq g g&&(D.strEq e (AA 0 0)&&(D.strEq l (AA 0 0)&&(D.strEq f (AA 0 0)&&(decide (a=a)&&(decide (b=0)&&(true&&(true&&(decide (m=0)&&(decide (j=0)&&(decide (k=0)&&((!((!((c&&true)&&false))&&(!((!(c&&true))&&(!false)))))&&(!((!((d&&true)&&false))&&(!((!(d&&true))&&(!false)))))))))))))))))) (
 cond ((sl o 0).toInt=1) (
 cond ((sl o 1).toBool) (
 cond ((sl n 0).toInt=1) (
 cond ((sl n 1).toBool) (
 cond ((sl q 0).toInt=1) (
 .row [.int 1,(sl q 1),(sl q 2),(.int 7)]) (
 cond ((sl q 0).toInt=2) (
 cond ((sl A 0).toInt=1) (
 .row [.int 1,(sl A 1),(sl A 2),(.int 7)]) (
 cond ((sl A 0).toInt=2) (
 .row [.int 2]) (
 .row []))) (
 .row []))) (
 .row [.int 1,(.int v5),(.int v6),(.int 5)])) (
 .row [])) (
 .row [.int 1,(.int v5),(.int v6),(.int 5)])) (
 .row [])) (
 .row [.int 1,(.int v5),(.int v6),(.int 5)])) (
 cond (a=6) (
 cond ((D.strEq g g&&(D.strEq e (AA 0 0)&&(D.strEq l (AA 0 0)&&(D.strEq f (AA 0 0)&&(decide (a=a)&&(decide (b=0)&&(decide (h=0)&&(true&&(decide (m=0)&&(decide (j=0)&&(decide (k=0)&&((!((!((c&&true)&&false))&&(!((!(c&&true))&&(!false)))))&&(!((!(false&&false))&&(!((!false)&&(!false)))))))))))))))))) (
 cond ((sl o 0).toInt=1) (
 cond ((sl o 1).toBool) (
 cond ((sl n 0).toInt=1) (
 cond ((sl n 1).toBool) (
 cond ((sl z 0).toInt=1) (
 .row [.int 1,(sl z 1),(sl z 2),(.int 7)]) (
 cond ((sl z 0).toInt=2) (
 .row [.int 2]) (
 .row []))) (
 .row [.int 1,(.int v5),(.int v6),(.int 5)])) (
 .row [])) (
 .row [.int 1,(.int v5),(.int v6),(.int 5)])) (
 .row [])) (
 .row [.int 1,(.int v5),(.int v6),(.int 5)])) (
 cond (a=7) (
 cond ((D.strEq g g&&(D.strEq (AA 0 0) (AA 0 0)&&(D.strEq l (AA 0 0)&&(D.strEq f (AA 0 0)&&(decide (a=a)&&(decide (b=0)&&(decide (h=0)&&(decide (i=0)&&(true&&(decide (j=0)&&(decide (k=0)&&((!((!((c&&true)&&false))&&(!((!(c&&true))&&(!false)))))&&(!((!((d&&true)&&false))&&(!((!(d&&true))&&(!false)))))))))))))))))) (
 cond ((sl n 0).toInt=1) (
 cond ((sl n 1).toBool) (
 cond ((mIx [.str] v3 (.row [e]))<0) (
 .row [.int 1,(.int v5),(.int v6),(.int 8)]) (
 cond ((sl p 0).toInt=1) (
 .row [.int 1,(sl p 1),(sl p 2),(sl p 3)]) (
 cond ((sl p 0).toInt=2) (
 .row [.int 2]) (
 .row [])))) (
 .row [.int 1,(.int v5),(.int v6),(.int 5)])) (
 .row [])) (
 .row [.int 1,(.int v5),(.int v6),(.int 5)])) (
 cond (a=8) (
 cond ((D.strEq g g&&(D.strEq (AA 0 0) (AA 0 0)&&(D.strEq l (AA 0 0)&&(D.strEq f (AA 0 0)&&(decide (a=a)&&(decide (b=0)&&(decide (h=0)&&(decide (i=0)&&(decide (m=0)&&(decide (j=0)&&(decide (k=0)&&((!((!((c&&true)&&false))&&(!((!(c&&true))&&(!false)))))&&(!((!((d&&true)&&false))&&(!((!(d&&true))&&(!false)))))))))))))))))) (
 cond ((sl o 0).toInt=1) (
 cond ((sl o 1).toBool) (
 cond ((sl n 0).toInt=1) (
 cond ((sl n 1).toBool) (
 cond ((mIx [.str] v3 (.row [e]))<0) (
 .row [.int 1,(.int v5),(.int v6),(.int 8)]) (
 .row [.int 2])) (
 .row [.int 1,(.int v5),(.int v6),(.int 5)])) (
 .row [])) (
 .row [.int 1,(.int v5),(.int v6),(.int 5)])) (
 .row [])) (
 .row [.int 1,(.int v5),(.int v6),(.int 5)])) (
 cond (a=9) (
 cond ((D.strEq g g&&(D.strEq e (AA 0 0)&&(D.strEq (AA 0 0) (AA 0 0)&&(D.strEq f (AA 0 0)&&(decide (a=a)&&(decide (b=0)&&(decide (h=0)&&(decide (i=0)&&(decide (m=0)&&(decide (j=0)&&(decide (k=0)&&((!((!((c&&true)&&false))&&(!((!(c&&true))&&(!false)))))&&(!((!((d&&true)&&false))&&(!((!(d&&true))&&(!false)))))))))))))))))) (
 cond ((sl o 0).toInt=1) (
 cond ((sl o 1).toBool) (
 cond ((sl w 0).toInt=1) (
 .row [.int 1,(sl w 1),(sl w 2),(sl w 3)]) (
 cond ((sl w 0).toInt=2) (
 .row [.int 2]) (
 .row []))) (
 .row [.int 1,(.int v5),(.int v6),(.int 5)])) (
 .row [])) (
 .row [.int 1,(.int v5),(.int v6),(.int 5)])) (
 cond (a=10) (
 cond ((D.strEq g g&&(D.strEq e (AA 0 0)&&(D.strEq l (AA 0 0)&&(D.strEq f (AA 0 0)&&(decide (a=a)&&(true&&(decide (h=0)&&(decide (i=0)&&(decide (m=0)&&(decide (j=0)&&(decide (k=0)&&((!((!((c&&true)&&false))&&(!((!(c&&true))&&(!false)))))&&(!((!((d&&true)&&false))&&(!((!(d&&true))&&(!false)))))))))))))))))) (
 cond ((sl o 0).toInt=1) (
 cond ((sl o 1).toBool) (
 cond ((sl n 0).toInt=1) (
 cond ((sl n 1).toBool) (
 cond (b=2) (
 .row [.int 2]) (
 cond (b=4) (
 .row [.int 2]) (
 cond (b<8) (
 .row [.int 1,(.int v5),(.int v6),(.int 6)]) (
 cond (512<b) (
 .row [.int 1,(.int v5),(.int v6),(.int 6)]) (
 cond ((ari .rem .i64 b 8)=0) (
 .row [.int 2]) (
 .row [.int 1,(.int v5),(.int v6),(.int 6)])))))) (
 .row [.int 1,(.int v5),(.int v6),(.int 5)])) (
 .row [])) (
 .row [.int 1,(.int v5),(.int v6),(.int 5)])) (
 .row [])) (
 .row [.int 1,(.int v5),(.int v6),(.int 5)])) (
 cond (a=11) (
 cond ((D.strEq g g&&(D.strEq e (AA 0 0)&&(D.strEq l (AA 0 0)&&(D.strEq (AA 0 0) (AA 0 0)&&(decide (a=a)&&(decide (b=0)&&(decide (h=0)&&(decide (i=0)&&(decide (m=0)&&(true&&(decide (k=0)&&((!((!((c&&true)&&false))&&(!((!(c&&true))&&(!false)))))&&(!((!((d&&true)&&false))&&(!((!(d&&true))&&(!false)))))))))))))))))) (
 cond ((sl o 0).toInt=1) (
 cond ((sl o 1).toBool) (
 cond ((sl n 0).toInt=1) (
 cond ((sl n 1).toBool) (
 cond ((sl r 0).toInt=1) (
 .row [.int 1,(sl r 1),(sl r 2),(.int 7)]) (
 cond ((sl r 0).toInt=2) (
 cond ((sl (GV (sb v8 0 v6) f) 0).toInt=1) (
 cond ((sl (GV (sb v8 0 v6) f) 1).toInt<0) (
 .row [.int 1,(.int v5),(.int v6),(.int 8)]) (
 .row [.int 2])) (
 .row [])) (
 .row []))) (
 .row [.int 1,(.int v5),(.int v6),(.int 5)])) (
 .row [])) (
 .row [.int 1,(.int v5),(.int v6),(.int 5)])) (
 .row [])) (
 .row [.int 1,(.int v5),(.int v6),(.int 5)])) (
 cond (a=12) (
 cond ((D.strEq g g&&(D.strEq (AA 0 0) (AA 0 0)&&(D.strEq l (AA 0 0)&&(D.strEq f (AA 0 0)&&(decide (a=a)&&(decide (b=0)&&(decide (h=0)&&(decide (i=0)&&(true&&(decide (j=0)&&(true&&((!((!((c&&true)&&false))&&(!((!(c&&true))&&(!false)))))&&(!((!((d&&true)&&false))&&(!((!(d&&true))&&(!false)))))))))))))))))) (
 cond ((sl n 0).toInt=1) (
 cond ((sl n 1).toBool) (
 cond ((sl y 0).toInt=1) (
 .row [.int 1,(sl y 1),(sl y 2),(.int 7)]) (
 cond ((sl y 0).toInt=2) (
 cond ((mIx [.str] v4 (.row [e]))<0) (
 .row [.int 1,(.int v5),(.int v6),(.int 8)]) (
 cond ((cl v4 (mIx [.str] v4 (.row [e])) 1).toBool) (
 cond ((sl p 0).toInt=1) (
 .row [.int 1,(sl p 1),(sl p 2),(sl p 3)]) (
 cond ((sl p 0).toInt=2) (
 .row [.int 2]) (
 .row []))) (
 .row [.int 1,(.int v5),(.int v6),(.int 8)]))) (
 .row []))) (
 .row [.int 1,(.int v5),(.int v6),(.int 5)])) (
 .row [])) (
 .row [.int 1,(.int v5),(.int v6),(.int 5)])) (
 .row [.int 1,(.int v5),(.int v6),(.int 4)]))))))))))))) (
 .row [.int 1,(.int v5),(.int v6),(.int 2)])) (
 .row [])))) (
 .row [.int 1,(.int v5),(.int v6),(.int 1)])) (
 .row []):=by
  subst E;subst F;subst G;subst H;subst I;subst J;subst K;subst L;subst M;subst N;subst B;subst C;exact gw rfl rfl (cQ (cg rfl (cL rfl (cL rfl (cQ (cL (cQ (cg (aE rfl (aE rfl (aE rfl (aE rfl (aE (qE rfl rfl) (aE rfl (aE rfl (aE rfl (aE (qE rfl rfl) (aE (qE rfl rfl) (aE (qE rfl rfl) (aE (nE (aE (nE (aE rfl rfl)) (nE (aE (nE rfl) (nE rfl))))) (nE (aE (nE (aE (aE rfl rfl) rfl)) (nE (aE (nE (aE rfl rfl)) (nE rfl))))))))))))))))) (cQ (cg rfl (cQ (cg rfl (cL rfl (cL rfl (cg rfl (cL (cQ (cQ rfl (cQ rfl rfl)) rfl) rfl) (cQ rfl (cQ rfl rfl))))) rfl) rfl) rfl) rfl) rfl) (cQ (cg (aE rfl (aE rfl (aE rfl (aE rfl (aE (qE rfl rfl) (aE rfl (aE rfl (aE (qE rfl rfl) (aE (qE rfl rfl) (aE (qE rfl rfl) (aE (qE rfl rfl) (aE (nE (aE (nE (aE rfl rfl)) (nE (aE (nE rfl) (nE rfl))))) (nE (aE (nE (aE (aE rfl rfl) rfl)) (nE (aE (nE (aE rfl rfl)) (nE rfl))))))))))))))))) (cQ (cg rfl (cQ (cg rfl (cL rfl (cL rfl (cg rfl (cL (cQ (cQ rfl (cQ rfl rfl)) rfl) rfl) (cQ rfl (cQ rfl rfl))))) rfl) rfl) rfl) rfl) rfl) (cQ (cg (aE rfl (aE rfl (aE rfl (aE rfl (aE (qE rfl rfl) (aE (qE rfl rfl) (aE rfl (aE rfl (aE (qE rfl rfl) (aE (qE rfl rfl) (aE (qE rfl rfl) (aE (nE (aE (nE (aE (aE rfl rfl) rfl)) (nE (aE (nE (aE rfl rfl)) (nE rfl))))) (nE (aE (nE (aE rfl rfl)) (nE (aE (nE rfl) (nE rfl))))))))))))))))) (cQ (cg rfl (cQ (cg rfl (cQ rfl (cQ rfl rfl)) rfl) rfl) rfl) rfl) rfl) (cQ (cg (aE rfl (aE rfl (aE rfl (aE rfl (aE (qE rfl rfl) (aE (qE rfl rfl) (aE (qE rfl rfl) (aE (qE rfl rfl) (aE rfl (aE (qE rfl rfl) (aE (qE rfl rfl) (aE (nE (aE (nE (aE (aE rfl rfl) rfl)) (nE (aE (nE (aE rfl rfl)) (nE rfl))))) (nE (aE (nE (aE (aE rfl rfl) rfl)) (nE (aE (nE (aE rfl rfl)) (nE rfl))))))))))))))))) (cQ (cg rfl (cQ rfl (cQ rfl rfl)) rfl) rfl) rfl) (cQ (cg (aE rfl (aE rfl (aE rfl (aE rfl (aE (qE rfl rfl) (aE (qE rfl rfl) (aE rfl (aE rfl (aE (qE rfl rfl) (aE (qE rfl rfl) (aE (qE rfl rfl) (aE (nE (aE (nE (aE (aE rfl rfl) rfl)) (nE (aE (nE (aE rfl rfl)) (nE rfl))))) (nE (aE (nE (aE (aE rfl rfl) rfl)) (nE (aE (nE (aE rfl rfl)) (nE rfl))))))))))))))))) (cQ (cg rfl (cQ (cg rfl (cQ rfl (cQ (cQ rfl (cQ rfl rfl)) rfl)) rfl) rfl) rfl) rfl) rfl) (cQ (cg (aE rfl (aE rfl (aE rfl (aE rfl (aE (qE rfl rfl) (aE (qE rfl rfl) (aE (qE rfl rfl) (aE rfl (aE (qE rfl rfl) (aE (qE rfl rfl) (aE (qE rfl rfl) (aE (nE (aE (nE (aE (aE rfl rfl) rfl)) (nE (aE (nE (aE rfl rfl)) (nE rfl))))) (nE (aE (nE (aE rfl rfl)) (nE (aE (nE rfl) (nE rfl))))))))))))))))) (cQ (cg rfl (cQ (cg rfl (cQ rfl (cQ rfl rfl)) rfl) rfl) rfl) rfl) rfl) (cQ (cg (aE rfl (aE rfl (aE rfl (aE rfl (aE (qE rfl rfl) (aE (qE rfl rfl) (aE (qE rfl rfl) (aE (qE rfl rfl) (aE rfl (aE (qE rfl rfl) (aE (qE rfl rfl) (aE (nE (aE (nE (aE (aE rfl rfl) rfl)) (nE (aE (nE (aE rfl rfl)) (nE rfl))))) (nE (aE (nE (aE (aE rfl rfl) rfl)) (nE (aE (nE (aE rfl rfl)) (nE rfl))))))))))))))))) (cQ (cg rfl (cL rfl (cQ rfl (cQ rfl rfl))) rfl) rfl) rfl) (cQ (cg (aE rfl (aE rfl (aE rfl (aE rfl (aE (qE rfl rfl) (aE (qE rfl rfl) (aE (qE rfl rfl) (aE (qE rfl rfl) (aE (qE rfl rfl) (aE (qE rfl rfl) (aE (qE rfl rfl) (aE (nE (aE (nE (aE (aE rfl rfl) rfl)) (nE (aE (nE (aE rfl rfl)) (nE rfl))))) (nE (aE (nE (aE (aE rfl rfl) rfl)) (nE (aE (nE (aE rfl rfl)) (nE rfl))))))))))))))))) (cQ (cg rfl (cQ rfl rfl) rfl) rfl) rfl) (cQ (cg (aE rfl (aE rfl (aE rfl (aE rfl (aE (qE rfl rfl) (aE (qE rfl rfl) (aE (qE rfl rfl) (aE (qE rfl rfl) (aE (qE rfl rfl) (aE (qE rfl rfl) (aE (qE rfl rfl) (aE (nE (aE (nE (aE (aE rfl rfl) rfl)) (nE (aE (nE (aE rfl rfl)) (nE rfl))))) (nE (aE (nE (aE (aE rfl rfl) rfl)) (nE (aE (nE (aE rfl rfl)) (nE rfl))))))))))))))))) (cQ (cg rfl (cQ rfl (cQ rfl rfl)) rfl) rfl) rfl) (cQ (cg (aE rfl (aE rfl (aE rfl (aE rfl (aE (qE rfl rfl) (aE rfl (aE (qE rfl rfl) (aE (qE rfl rfl) (aE (qE rfl rfl) (aE (qE rfl rfl) (aE (qE rfl rfl) (aE (nE (aE (nE (aE (aE rfl rfl) rfl)) (nE (aE (nE (aE rfl rfl)) (nE rfl))))) (nE (aE (nE (aE (aE rfl rfl) rfl)) (nE (aE (nE (aE rfl rfl)) (nE rfl))))))))))))))))) (cQ (cg rfl (cQ (cg rfl (cQ rfl (cQ rfl (cL rfl (cL rfl (cQ rfl rfl))))) rfl) rfl) rfl) rfl) rfl) (cQ (cg (aE rfl (aE rfl (aE rfl (aE rfl (aE (qE rfl rfl) (aE (qE rfl rfl) (aE (qE rfl rfl) (aE (qE rfl rfl) (aE (qE rfl rfl) (aE rfl (aE (qE rfl rfl) (aE (nE (aE (nE (aE (aE rfl rfl) rfl)) (nE (aE (nE (aE rfl rfl)) (nE rfl))))) (nE (aE (nE (aE (aE rfl rfl) rfl)) (nE (aE (nE (aE rfl rfl)) (nE rfl))))))))))))))))) (cQ (cg rfl (cQ (cg rfl (cQ rfl (cQ (cQ rfl rfl) rfl)) rfl) rfl) rfl) rfl) rfl) (cQ (cg (aE rfl (aE rfl (aE rfl (aE rfl (aE (qE rfl rfl) (aE (qE rfl rfl) (aE (qE rfl rfl) (aE (qE rfl rfl) (aE rfl (aE (qE rfl rfl) (aE rfl (aE (nE (aE (nE (aE (aE rfl rfl) rfl)) (nE (aE (nE (aE rfl rfl)) (nE rfl))))) (nE (aE (nE (aE (aE rfl rfl) rfl)) (nE (aE (nE (aE rfl rfl)) (nE rfl))))))))))))))))) (cQ (cg rfl (cQ rfl (cQ (cL rfl (cg rfl (cQ rfl (cQ rfl rfl)) rfl)) rfl)) rfl) rfl) rfl) rfl)))))))))))) rfl) rfl))) rfl) rfl)
theorem Z6 (v0 v1:D):AK v0 v1 =
 HK v1 (.int 0) B0 (.bool true):=gw rfl rfl rfl
theorem fA (b:D) (a:Int) (c:D) (d:Bool):HK b (.int a) c (.bool d) =
  cond (a<len b) (
 cond (a<0) (
 .row []) (
 cond ((cl b a 1).toInt=7) (
 cond ((len c:Int)<1073741824) (
 HK b (.int (IntKind.wrap .i64 (a+1))) (ad c (.row [(cl b a 9)])) (.bool false)) (
 .row [])) (
 cond ((cl b a 1).toInt=8) (
 cond ((len c:Int)<1073741824) (
 HK b (.int (IntKind.wrap .i64 (a+1))) (ad c (.row [(cl b a 9)])) (.bool false)) (
 .row [])) (
 cond ((cl b a 1).toInt=12) (
 cond ((len c:Int)<1073741824) (
 HK b (.int (IntKind.wrap .i64 (a+1))) (ad c (.row [(cl b a 9)])) (.bool false)) (
 .row [])) (
 cond ((cl b a 1).toInt=9) (
 VO b (.int a) (cl b a 12) (.int (len (cl b a 12):Int)) (.int 0) c (.bool d)) (
 HK b (.int (IntKind.wrap .i64 (a+1))) c (.bool d))))))) (
 .row [.int 1,(ni c d)]):=gw rfl rfl (cL (cL rfl (cQ (cL rfl rfl) (cQ (cL rfl rfl) (cQ (cL rfl rfl) (cQ rfl rfl))))) rfl)
theorem eC (d:D) (e:Int) (b:D) (f a:Int) (c:D) (g:Bool):VO d (.int e) b (.int f) (.int a) c (.bool g) =
  cond (a<f) (
 cond (a<0) (
 .row []) (
 cond (a<len b) (
 cond ((len c:Int)<1073741824) (
 VO d (.int e) b (.int f) (.int (IntKind.wrap .i64 (a+1))) (ad c (.row [(cl b a 2)])) (.bool false)) (
 .row [])) (
 .row []))) (
 HK d (.int (IntKind.wrap .i64 (e+1))) c (.bool g)):=gw rfl rfl (cL (cL rfl (cL (cL rfl rfl) rfl)) rfl)
theorem vX (a b:D):E3 a b =
 OX a b (.int 0):=gw rfl rfl rfl
theorem eD (b c:D) (a:Int):OX b c (.int a) =
  cond (a<len b) (
 cond (a<0) (
 .row []) (
 cond (D.strEq c (cl b a 0)) (
 .row [.int 1,(.int a)]) (
 OX b c (.int (IntKind.wrap .i64 (a+1)))))) (
 .row [.int 1,(.int (-1))]):=gw rfl rfl rfl
theorem Y2 (v0 v1 v2 v3 v4:D) (v5 v6:Int) (v7 v8:D) (c:Bool) (a:Int) (b:D):LQ v0 v1 v2 v3 v4 (.int v5) (.int v6) v7 v8 (.bool c) (.int a) b =
 CA b (.int 0) v0 v1 v2 (.int v5) (.int v6) v7 v8 v3 v4 (.bool c) (.int a):=gw rfl rfl rfl
theorem RK (c:D) (b:Int) (g h i:D) (j k:Int) (l m d a:D) (f:Bool) (e:Int):CA c (.int b) g h i (.int j) (.int k) l m d a (.bool f) (.int e) =
  cond (b<len c) (
 cond (b<0) (
 .row []) (
 cond (len c<b) (
 .row []) (
 cond ((sl (E3 (sb c 0 b) (cl c b 0)) 0).toInt=1) (
 cond ((sl (E3 (sb c 0 b) (cl c b 0)) 1).toInt<0) (
 cond ((mIx [.str] d (.row [(cl c b 0)]))<0) (
 cond (e<0) (
 cond (f) (
 cond ((mIx [.str] a (.row [(cl c b 0)]))<0) (
 CA c (.int (IntKind.wrap .i64 (b+1))) g h i (.int j) (.int k) l m d a (.bool false) (.int 0)) (
 CA c (.int (IntKind.wrap .i64 (b+1))) g h i (.int j) (.int k) l m d a (cl a (mIx [.str] a (.row [(cl c b 0)])) 1) (.int 0))) (
 CA c (.int (IntKind.wrap .i64 (b+1))) g h i (.int j) (.int k) l m d a (.bool false) (.int 0))) (
 cond (f) (
 cond ((mIx [.str] a (.row [(cl c b 0)]))<0) (
 CA c (.int (IntKind.wrap .i64 (b+1))) g h i (.int j) (.int k) l m d a (.bool false) (.int e)) (
 CA c (.int (IntKind.wrap .i64 (b+1))) g h i (.int j) (.int k) l m d a (cl a (mIx [.str] a (.row [(cl c b 0)])) 1) (.int e))) (
 CA c (.int (IntKind.wrap .i64 (b+1))) g h i (.int j) (.int k) l m d a (.bool false) (.int e)))) (
 cond (e<(cl d (mIx [.str] d (.row [(cl c b 0)])) 1).toInt) (
 cond (f) (
 cond ((mIx [.str] a (.row [(cl c b 0)]))<0) (
 CA c (.int (IntKind.wrap .i64 (b+1))) g h i (.int j) (.int k) l m d a (.bool false) (cl d (mIx [.str] d (.row [(cl c b 0)])) 1)) (
 CA c (.int (IntKind.wrap .i64 (b+1))) g h i (.int j) (.int k) l m d a (cl a (mIx [.str] a (.row [(cl c b 0)])) 1) (cl d (mIx [.str] d (.row [(cl c b 0)])) 1))) (
 CA c (.int (IntKind.wrap .i64 (b+1))) g h i (.int j) (.int k) l m d a (.bool false) (cl d (mIx [.str] d (.row [(cl c b 0)])) 1))) (
 cond (f) (
 cond ((mIx [.str] a (.row [(cl c b 0)]))<0) (
 CA c (.int (IntKind.wrap .i64 (b+1))) g h i (.int j) (.int k) l m d a (.bool false) (.int e)) (
 CA c (.int (IntKind.wrap .i64 (b+1))) g h i (.int j) (.int k) l m d a (cl a (mIx [.str] a (.row [(cl c b 0)])) 1) (.int e))) (
 CA c (.int (IntKind.wrap .i64 (b+1))) g h i (.int j) (.int k) l m d a (.bool false) (.int e))))) (
 CA c (.int (IntKind.wrap .i64 (b+1))) g h i (.int j) (.int k) l m d a (.bool f) (.int e))) (
 .row [])))) (
 .row [.int 1,(.bool f),(.int e)]):=gw rfl rfl (cL (cL rfl (cL rfl (cQ rfl rfl))) rfl)
theorem UW (f g h c d:D) (e i:Int) (j k b a:D):MV f g h c d (.int e) (.int i) j k b a =
  cond ((sl (GQ b) 0).toInt=1) (
 cond ((sl (GQ b) 1).toBool) (
 cond ((mIx [.str] c (.row [b]))<0) (
 cond ((len a:Int)<1) (
 .row [.int 1,(.int e),(.int (-1)),(.int 3),(.int (-1)),b,a,c,d]) (
 cond (40<(len a:Int)) (
 .row [.int 1,(.int e),(.int (-1)),(.int 3),(.int (-1)),b,a,c,d]) (
 FG a (.int 0) f g h (.int e) (.int (-1)) b c d (.bool true)))) (
 .row [.int 1,(.int e),(.int (-1)),(.int 2),(.int (-1)),b,a,c,d])) (
 .row [.int 1,(.int e),(.int (-1)),(.int 1),(.int (-1)),b,a,c,d])) (
 .row []):=gw rfl rfl (cQ rfl rfl)
theorem K2 (v0:D) (v1:Int) (v2 v3 v4:D) (v5 v6:Int) (v7 v8 a:D) (b:Bool) {d c:D} (e:LQ v2 v3 v4 v8 a (.int v5) (.int (-1)) v7 v0 (.bool b) (.int 0) (sl (AK v7 v0) 1)=c) (f:Ra v2 v3 v4 v8 a (.int v5) (.int v1) v7 v0 (cl v0 v1 0) (cl v0 v1 1) (cl v0 v1 2) (cl v0 v1 3) (cl v0 v1 4) (cl v0 v1 5) (cl v0 v1 6) (cl v0 v1 7) (cl v0 v1 8) (cl v0 v1 9) (cl v0 v1 10) (cl v0 v1 11) (cl v0 v1 12) (cl v0 v1 13) (cl v0 v1 14)=d):FG v0 (.int v1) v2 v3 v4 (.int v5) (.int v6) v7 v8 a (.bool b) =
  cond (v1<len v0) (
 cond (v1<0) (
 .row []) (
 cond ((sl d 0).toInt=1) (
 .row [.int 1,(sl d 1),(sl d 2),(sl d 3),(.int v1),v7,v0,v8,a]) (
 cond ((sl d 0).toInt=2) (
 cond (b) (
 FG v0 (.int (IntKind.wrap .i64 (v1+1))) v2 v3 v4 (.int v5) (.int v1) v7 v8 a (.bool (!(cl v0 v1 4).toBool))) (
 FG v0 (.int (IntKind.wrap .i64 (v1+1))) v2 v3 v4 (.int v5) (.int v1) v7 v8 a (.bool false))) (
 .row [])))) (
 cond ((sl (AK v7 v0) 0).toInt=1) (
 cond ((sl c 0).toInt=1) (
 cond ((mIx [.str] v8 (.row [v7]))<0) (
 cond ((mIx [.str] a (.row [v7]))<0) (
 cond ((sl c 2).toInt<16) (
 .row [.int 2,v7,v0,(upd (ad v8 (.row [v7,(.int 0)])) (len v8:Int) 1 (.int (IntKind.wrap .i64 ((sl c 2).toInt+1)))),(upd (ad a (.row [v7,(.bool false)])) (len a:Int) 1 (sl c 1))]) (
 .row [.int 1,(.int v5),(.int (-1)),(.int 10),(.int (-1)),v7,v0,(upd (ad v8 (.row [v7,(.int 0)])) (len v8:Int) 1 (.int (IntKind.wrap .i64 ((sl c 2).toInt+1)))),(upd (ad a (.row [v7,(.bool false)])) (len a:Int) 1 (sl c 1))])) (
 .row [])) (
 .row [])) (
 .row [])) (
 .row [])):=by
  subst f;subst e;exact gw rfl rfl (cL (cL rfl (cQ rfl (cQ rfl rfl))) (cQ (cQ rfl rfl) rfl))
theorem ZZ (a b c:D):Do a b c =
  cond ((sl (GQ a) 0).toInt=1) (
 cond ((sl (GQ a) 1).toBool) (
 cond ((len b:Int)<1) (
 .row [.int 1,(.int 3),a,b,c]) (
 cond (60<(len b:Int)) (
 .row [.int 1,(.int 3),a,b,c]) (
 Jf b (.int 0) a c (.int (-1)) (AA 0 0) B0 Ad Ad))) (
 .row [.int 1,(.int 1),a,b,c])) (
 .row []):=gw rfl rfl (cQ rfl rfl)
theorem KZ (v0:D) (v1:Int) (v2 b:D) (c:Int) (v5 v6 v7 v8:D) {a:D} (d:MV v2 v0 b v7 v8 (.int v1) (.int (-1)) v5 v6 (cl v0 v1 0) (cl v0 v1 1)=a):Jf v0 (.int v1) v2 b (.int c) v5 v6 v7 v8 =
  cond (v1<len v0) (
 cond (v1<0) (
 .row []) (
 cond ((sl a 0).toInt=1) (
 .row [.int 2,(sl a 1),(sl a 2),(sl a 3),(.bool true),v2,v0,b,(.int v1),(sl a 4),(sl a 5),(sl a 6),(sl a 7),(sl a 8)]) (
 cond ((sl a 0).toInt=2) (
 Jf v0 (.int (IntKind.wrap .i64 (v1+1))) v2 b (.int v1) (sl a 1) (sl a 2) (sl a 3) (sl a 4)) (
 .row [])))) (
 cond ((mIx [.str] v7 (.row [b]))<0) (
 .row [.int 2,(.int (-1)),(.int (-1)),(.int 11),(.bool true),v2,v0,b,(.int (-1)),(.int (-1)),v5,v6,v7,v8]) (
 .row [.int 2,(.int 0),(.int 0),(.int 0),(.bool false),v2,v0,b,(.int (-1)),(.int (-1)),v5,v6,v7,v8])):=by
  subst d;exact gw rfl rfl (cL (cL rfl (cQ rfl (cQ rfl rfl))) rfl)
theorem fc (v0 a b:D):Et v0 a b =
  cond ((sl (Do v0 a b) 0).toInt=1) (
 .row [.int 1,(.int (-1)),(.int (-1)),(sl (Do v0 a b) 1),(.bool true)]) (
 cond ((sl (Do v0 a b) 0).toInt=2) (
 .row [.int 1,(sl (Do v0 a b) 1),(sl (Do v0 a b) 2),(sl (Do v0 a b) 3),(sl (Do v0 a b) 4)]) (
 .row [])):=gw rfl rfl (cQ rfl (cQ rfl rfl))
theorem ey (a b:Int) (c:D):Da (.int a) (.int b) c =
 HD (.int 0) c (.int 0) (.int a) (.int b):=gw rfl rfl rfl
theorem UL (d:Int) (b:D) (a c e:Int):HD (.int d) b (.int a) (.int c) (.int e) =
  cond (a<len b) (
 cond (a<0) (
 .row []) (
 cond (a=c) (
 .row [.int 1,(.int d)]) (
 cond ((cl b a 1).toInt=1) (
 HD (.int (ari .rem .i64 (IntKind.wrap .i64 (d+(cl b a 2).toInt)) 8)) b (.int (IntKind.wrap .i64 (a+1))) (.int c) (.int e)) (
 cond ((cl b a 1).toInt=2) (
 HD (.int (ari .rem .i64 (IntKind.wrap .i64 (d+(cl b a 2).toInt)) 8)) b (.int (IntKind.wrap .i64 (a+1))) (.int c) (.int e)) (
 cond ((cl b a 1).toInt=10) (
 cond ((cl b a 2).toInt=0) (
 .row []) (
 HD (.int (ari .rem .i64 (IntKind.wrap .i64 ((ari .quo .i64 (IntKind.wrap .i64 ((IntKind.wrap .i64 (d+(cl b a 2).toInt))-1)) (cl b a 2).toInt)*(cl b a 2).toInt)) 8)) b (.int (IntKind.wrap .i64 (a+1))) (.int c) (.int e))) (
 HD (.int 0) b (.int (IntKind.wrap .i64 (a+1))) (.int c) (.int e))))))) (
 cond (len b=c) (
 .row [.int 1,(.int d)]) (
 .row [.int 2])):=gw rfl rfl (cL (cL rfl (cQ rfl (cQ rfl (cQ rfl (cQ (cQ rfl rfl) rfl))))) (cQ rfl rfl))
theorem th (a:D) (b c:Int):Ex a (.int b) (.int c) =
  cond (b=len a) (
 .row [.int 1,(.bool (!decide (c=0)))]) (
 cond (b<0) (
 .row []) (
 cond (b<len a) (
 cond (c=0) (
 cond ((sl (GV a (cl a b 11)) 0).toInt=1) (
 cond ((sl (GV a (cl a b 11)) 1).toInt<0) (
 cond ((cl a b 1).toInt=11) (
 cond ((sl (Da (.int 0) (.int 0) a) 0).toInt=1) (
 cond ((sl (Da (.int 0) (.int 0) a) 1).toInt=0) (
 .row [.int 1,(.bool false)]) (
 .row [.int 1,(.bool true)])) (
 cond ((sl (Da (.int 0) (.int 0) a) 0).toInt=2) (
 .row [.int 1,(.bool false)]) (
 .row []))) (
 .row [.int 1,(.bool false)])) (
 cond ((cl a b 1).toInt=11) (
 cond ((sl (Da (sl (GV a (cl a b 11)) 1) (.int 0) a) 0).toInt=1) (
 cond ((sl (Da (sl (GV a (cl a b 11)) 1) (.int 0) a) 1).toInt=0) (
 .row [.int 1,(.bool false)]) (
 .row [.int 1,(.bool true)])) (
 cond ((sl (Da (sl (GV a (cl a b 11)) 1) (.int 0) a) 0).toInt=2) (
 .row [.int 1,(.bool false)]) (
 .row []))) (
 .row [.int 1,(.bool false)]))) (
 .row [])) (
 cond ((cl a b 1).toInt=1) (
 cond ((cl a b 3).toBool) (
 .row [.int 1,(.bool true)]) (
 cond ((sl (GV a (cl a b 11)) 0).toInt=1) (
 cond ((sl (GV a (cl a b 11)) 1).toInt<0) (
 .row [.int 1,(.bool false)]) (
 .row [.int 1,(.bool false)])) (
 .row []))) (
 cond ((cl a b 1).toInt=2) (
 cond ((cl a b 3).toBool) (
 .row [.int 1,(.bool true)]) (
 cond ((sl (GV a (cl a b 11)) 0).toInt=1) (
 cond ((sl (GV a (cl a b 11)) 1).toInt<0) (
 .row [.int 1,(.bool false)]) (
 .row [.int 1,(.bool false)])) (
 .row []))) (
 cond ((cl a b 1).toInt=10) (
 cond ((cl a b 3).toBool) (
 .row [.int 1,(.bool true)]) (
 cond ((sl (GV a (cl a b 11)) 0).toInt=1) (
 cond ((sl (GV a (cl a b 11)) 1).toInt<0) (
 .row [.int 1,(.bool false)]) (
 .row [.int 1,(.bool false)])) (
 .row []))) (
 .row [.int 1,(.bool true)]))))) (
 .row []))):=gw rfl rfl (cQ rfl (cL rfl (cL (cQ (cQ (cL (cQ (cQ (cQ rfl rfl) (cQ rfl rfl)) rfl) (cQ (cQ (cQ rfl rfl) (cQ rfl rfl)) rfl)) rfl) (cQ (cg rfl rfl (cQ rfl rfl)) (cQ (cg rfl rfl (cQ rfl rfl)) (cQ (cg rfl rfl (cQ rfl rfl)) rfl)))) rfl)))
theorem Yc (a b c:Int) (d:Bool) (e:Int) (f g h:D):DW (.int a) (.int b) (.int c) (.bool d) (.int e) f g h =
 DZ (.int 0) h (.int 0) (.int a) (.int b) (.int c) (.bool d) (.int e) f g:=gw rfl rfl rfl
theorem N5 (d:Int) (b:D) (a f g h:Int) (j:Bool) (e:Int) (i c:D):DZ (.int d) b (.int a) (.int f) (.int g) (.int h) (.bool j) (.int e) i c =
  cond (a<len b) (
 cond (a<0) (
 .row []) (
 cond ((sl (Ex c (.int a) (.int d)) 0).toInt=1) (
 cond ((sl (Ex c (.int a) (.int d)) 1).toBool) (
 cond (a=len c) (
 .row [.int 1,(.int e),(.int (-1)),(sl (Ex c (.int a) (.int d)) 1)]) (
 .row [.int 1,(.int e),(.int a),(sl (Ex c (.int a) (.int d)) 1)])) (
 cond ((cl b a 1).toInt=1) (
 DZ (.int (ari .rem .i64 (IntKind.wrap .i64 (d+(cl b a 2).toInt)) 8)) b (.int (IntKind.wrap .i64 (a+1))) (.int f) (.int g) (.int h) (sl (Ex c (.int a) (.int d)) 1) (.int e) i c) (
 cond ((cl b a 1).toInt=2) (
 DZ (.int (ari .rem .i64 (IntKind.wrap .i64 (d+(cl b a 2).toInt)) 8)) b (.int (IntKind.wrap .i64 (a+1))) (.int f) (.int g) (.int h) (sl (Ex c (.int a) (.int d)) 1) (.int e) i c) (
 cond ((cl b a 1).toInt=10) (
 cond ((cl b a 2).toInt=0) (
 .row []) (
 DZ (.int (ari .rem .i64 (IntKind.wrap .i64 ((ari .quo .i64 (IntKind.wrap .i64 ((IntKind.wrap .i64 (d+(cl b a 2).toInt))-1)) (cl b a 2).toInt)*(cl b a 2).toInt)) 8)) b (.int (IntKind.wrap .i64 (a+1))) (.int f) (.int g) (.int h) (sl (Ex c (.int a) (.int d)) 1) (.int e) i c)) (
 DZ (.int 0) b (.int (IntKind.wrap .i64 (a+1))) (.int f) (.int g) (.int h) (sl (Ex c (.int a) (.int d)) 1) (.int e) i c))))) (
 .row []))) (
 cond ((sl (Ex c (.int (len b:Int)) (.int d)) 0).toInt=1) (
 cond ((sl (Ex c (.int (len b:Int)) (.int d)) 1).toBool) (
 cond ((len b:Int)=(len c:Int)) (
 .row [.int 1,(.int e),(.int (-1)),(sl (Ex c (.int (len b:Int)) (.int d)) 1)]) (
 .row [.int 1,(.int e),(.int (len b:Int)),(sl (Ex c (.int (len b:Int)) (.int d)) 1)])) (
 .row [.int 2,(sl (Ex c (.int (len b:Int)) (.int d)) 1)])) (
 .row [])):=gw rfl rfl (cL (cL rfl (cQ (cg rfl (cQ rfl rfl) (cQ rfl (cQ rfl (cQ (cQ rfl rfl) rfl)))) rfl)) (cQ (cg rfl (cQ rfl rfl) rfl) rfl))
theorem C7 (v0 b n:D) {a d e f g h i j k l c:D} (o:Et v0 b n=a) (p:DW (sl a 1) (sl a 2) (sl a 3) (sl a 4) (.int 0) (cl b 0 0) (cl b 0 1) (cl b 0 1)=d) (q:DW (sl a 1) (sl a 2) (sl a 3) (sl d 1) (.int 1) (cl b 1 0) (cl b 1 1) (cl b 1 1)=e) (r:DW (sl a 1) (sl a 2) (sl a 3) (sl e 1) (.int 2) (cl b 2 0) (cl b 2 1) (cl b 2 1)=f) (s:DW (sl a 1) (sl a 2) (sl a 3) (sl f 1) (.int 3) (cl b 3 0) (cl b 3 1) (cl b 3 1)=g) (t:DW (sl a 1) (sl a 2) (sl a 3) (sl g 1) (.int 4) (cl b 4 0) (cl b 4 1) (cl b 4 1)=h) (u:DW (sl a 1) (sl a 2) (sl a 3) (sl h 1) (.int 5) (cl b 5 0) (cl b 5 1) (cl b 5 1)=i) (v:DW (sl a 1) (sl a 2) (sl a 3) (sl i 1) (.int 6) (cl b 6 0) (cl b 6 1) (cl b 6 1)=j) (w:DW (sl a 1) (sl a 2) (sl a 3) (sl j 1) (.int 7) (cl b 7 0) (cl b 7 1) (cl b 7 1)=k) (x:DW (sl a 1) (sl a 2) (sl a 3) (sl k 1) (.int 8) (cl b 8 0) (cl b 8 1) (cl b 8 1)=l) (m:DW (sl a 1) (sl a 2) (sl a 3) (sl l 1) (.int 9) (cl b 9 0) (cl b 9 1) (cl b 9 1)=c):So v0 b n =
  cond ((sl a 0).toInt=1) (
 cond ((sl a 4).toBool) (
 .row [.int 1,(sl a 1),(sl a 2),(sl a 3),(sl a 4)]) (
 cond (0<(len b:Int)) (
 cond ((sl d 0).toInt=1) (
 .row [.int 1,(sl d 1),(sl d 2),(.int 12),(sl d 3)]) (
 cond ((sl d 0).toInt=2) (
 cond (1<(len b:Int)) (
 cond ((sl e 0).toInt=1) (
 .row [.int 1,(sl e 1),(sl e 2),(.int 12),(sl e 3)]) (
 cond ((sl e 0).toInt=2) (
 cond (2<(len b:Int)) (
 cond ((sl f 0).toInt=1) (
 .row [.int 1,(sl f 1),(sl f 2),(.int 12),(sl f 3)]) (
 cond ((sl f 0).toInt=2) (
 cond (3<(len b:Int)) (
 cond ((sl g 0).toInt=1) (
 .row [.int 1,(sl g 1),(sl g 2),(.int 12),(sl g 3)]) (
 cond ((sl g 0).toInt=2) (
 cond (4<(len b:Int)) (
 cond ((sl h 0).toInt=1) (
 .row [.int 1,(sl h 1),(sl h 2),(.int 12),(sl h 3)]) (
 cond ((sl h 0).toInt=2) (
 cond (5<(len b:Int)) (
 cond ((sl i 0).toInt=1) (
 .row [.int 1,(sl i 1),(sl i 2),(.int 12),(sl i 3)]) (
 cond ((sl i 0).toInt=2) (
 cond (6<(len b:Int)) (
 cond ((sl j 0).toInt=1) (
 .row [.int 1,(sl j 1),(sl j 2),(.int 12),(sl j 3)]) (
 cond ((sl j 0).toInt=2) (
 cond (7<(len b:Int)) (
 cond ((sl k 0).toInt=1) (
 .row [.int 1,(sl k 1),(sl k 2),(.int 12),(sl k 3)]) (
 cond ((sl k 0).toInt=2) (
 cond (8<(len b:Int)) (
 cond ((sl l 0).toInt=1) (
 .row [.int 1,(sl l 1),(sl l 2),(.int 12),(sl l 3)]) (
 cond ((sl l 0).toInt=2) (
 cond (9<(len b:Int)) (
 cond ((sl c 0).toInt=1) (
 .row [.int 1,(sl c 1),(sl c 2),(.int 12),(sl c 3)]) (
 cond ((sl c 0).toInt=2) (
 cond (10<(len b:Int)) (
 .row []) (
 .row [.int 1,(sl a 1),(sl a 2),(sl a 3),(sl c 1)])) (
 .row []))) (
 .row [.int 1,(sl a 1),(sl a 2),(sl a 3),(sl l 1)])) (
 .row []))) (
 .row [.int 1,(sl a 1),(sl a 2),(sl a 3),(sl k 1)])) (
 .row []))) (
 .row [.int 1,(sl a 1),(sl a 2),(sl a 3),(sl j 1)])) (
 .row []))) (
 .row [.int 1,(sl a 1),(sl a 2),(sl a 3),(sl i 1)])) (
 .row []))) (
 .row [.int 1,(sl a 1),(sl a 2),(sl a 3),(sl h 1)])) (
 .row []))) (
 .row [.int 1,(sl a 1),(sl a 2),(sl a 3),(sl g 1)])) (
 .row []))) (
 .row [.int 1,(sl a 1),(sl a 2),(sl a 3),(sl f 1)])) (
 .row []))) (
 .row [.int 1,(sl a 1),(sl a 2),(sl a 3),(sl e 1)])) (
 .row []))) (
 .row [.int 1,(sl a 1),(sl a 2),(sl a 3),(sl d 1)])) (
 .row []))) (
 .row [.int 1,(sl a 1),(sl a 2),(sl a 3),(sl a 4)]))) (
 .row []):=by
  subst o;subst p;subst q;subst r;subst s;subst t;subst u;subst v;subst w;subst x;subst m;exact gw rfl rfl (cQ (cg rfl rfl (cL (cQ rfl (cQ (cL (cQ rfl (cQ (cL (cQ rfl (cQ (cL (cQ rfl (cQ (cL (cQ rfl (cQ (cL (cQ rfl (cQ (cL (cQ rfl (cQ (cL (cQ rfl (cQ (cL (cQ rfl (cQ (cL (cQ rfl (cQ rfl rfl)) rfl) rfl)) rfl) rfl)) rfl) rfl)) rfl) rfl)) rfl) rfl)) rfl) rfl)) rfl) rfl)) rfl) rfl)) rfl) rfl)) rfl)) rfl)
theorem eI (v0 a b:D):EH v0 a b =
  cond ((sl (So v0 a b) 0).toInt=1) (
 .row [.int 1,(.bool (!(sl (So v0 a b) 4).toBool))]) (
 .row []):=gw rfl rfl (cQ rfl rfl)
theorem pu (b a c:D):GN b a c =
  cond (a.isNil) (
 Jb (.int 0) (.int 0) b B0 (.bool true) c) (
 cond ((len a:Int)<1048576) (
 Jb (.int (len a:Int)) (.int 0) b (ct Ad a) (.bool false) c) (
 .row [])):=gw rfl rfl (cg rfl rfl (cL rfl rfl))
theorem ac (c a:Int) (d b:D) (v4:Bool) (v5:D):Jb (.int c) (.int a) d b (.bool v4) v5 =
  cond (a<c) (
 cond (a<0) (
 .row []) (
 cond (a<len b) (
 cond ((cl b a 1).isNil) (
 eU (.int a) (.int c) (.int (len (cl (upd b a 1 B0) a 1):Int)) d (upd b a 1 B0) (.bool v4) v5) (
 cond ((len (cl b a 1):Int)<1048576) (
 KO (.int a) (.int c) (.int (len (cl b a 1):Int)) (.int 0) d b (.bool v4) v5 (ct Ad (cl b a 1)) (.bool false)) (
 .row []))) (
 .row []))) (
 .row [.int 1,d,b,(.bool v4),v5]):=gw rfl rfl (cL (cL rfl (cL (cg rfl rfl (cL rfl rfl)) rfl)) rfl)
theorem mg (a b c:Int) (d v4:D) (v5:Bool) (e:D):eU (.int a) (.int b) (.int c) d v4 (.bool v5) e =
  cond (0<c) (
 .row []) (
 Jb (.int b) (.int (IntKind.wrap .i64 (a+1))) d v4 (.bool v5) e):=gw rfl rfl rfl
theorem e9 (c d e a:Int) (f g:D) (h:Bool) (i b:D) (j:Bool):KO (.int c) (.int d) (.int e) (.int a) f g (.bool h) i b (.bool j) =
  cond (a<e) (
 cond (a<0) (
 .row []) (
 cond (a<len b) (
 cond ((cl b a 8).isNil) (
 cond ((cl b a 12).isNil) (
 KO (.int c) (.int d) (.int e) (.int (IntKind.wrap .i64 (a+1))) f g (.bool h) i (upd (upd b a 8 B0) a 12 B0) (.bool j)) (
 cond ((len (cl b a 12):Int)<1048576) (
 KO (.int c) (.int d) (.int e) (.int (IntKind.wrap .i64 (a+1))) f g (.bool h) i (upd (upd b a 8 B0) a 12 (ni (ct Ad (cl b a 12)) false)) (.bool j)) (
 .row []))) (
 cond ((len (cl b a 8):Int)<1048576) (
 cond ((cl b a 12).isNil) (
 KO (.int c) (.int d) (.int e) (.int (IntKind.wrap .i64 (a+1))) f g (.bool h) i (upd (upd b a 8 (ni (ct Ad (cl b a 8)) false)) a 12 B0) (.bool j)) (
 cond ((len (cl b a 12):Int)<1048576) (
 KO (.int c) (.int d) (.int e) (.int (IntKind.wrap .i64 (a+1))) f g (.bool h) i (upd (upd b a 8 (ni (ct Ad (cl b a 8)) false)) a 12 (ni (ct Ad (cl b a 12)) false)) (.bool j)) (
 .row []))) (
 .row []))) (
 .row []))) (
 Jb (.int d) (.int (IntKind.wrap .i64 (c+1))) f (upd g c 1 (ni b j)) (.bool h) i):=gw rfl rfl (cL (cL rfl (cL (cg rfl (cg rfl rfl (cL rfl rfl)) (cL (cg rfl rfl (cL rfl rfl)) rfl)) rfl)) rfl)
theorem oB (h i:D) (j:Bool) (k f:D) (l:Bool) (m n:D) (o g a b c d e:Int):Fz h i (.bool j) k f (.bool l) m n (.int o) (.int g) (.int a) (.int b) (.int c) (.int d) (.int e) =
  cond ((len f:Int)<1073741824) (
 .row [.int 1,(ad f (.row [(.int g),(.int a),(.int b),(.int c),(.int d),(.int e)])),(.bool false)]) (
 .row []):=gw rfl rfl (cL rfl rfl)
theorem rx (a b:D):Ax a b =
 OL a (.int 0) b:=gw rfl rfl rfl
theorem eN (b:D) (a:Int) (c:D):OL b (.int a) c =
  cond (a<len b) (
 cond (a<0) (
 .row []) (
 cond (D.strEq (cl b a 0) c) (
 .row [.int 1,(.int a)]) (
 OL b (.int (IntKind.wrap .i64 (a+1))) c))) (
 .row [.int 1,(.int (-1))]):=gw rfl rfl rfl
def VT (R:D→D→D→D→D→D) (v0 b c a d:D):D:=
  cond ((mIx [.str] b (.row [v0]))<0) (
 cond ((sl (Ax a v0) 0).toInt=1) (
 cond ((sl (Ax a v0) 1).toInt<0) (
 cond (0<(len a:Int)) (
 cond ((sl (AK (cl a 0 0) (cl a 0 1)) 0).toInt=1) (
 cond ((sl (R (ad b (.row [v0,(.bool true)])) c a d (sl (AK (cl a 0 0) (cl a 0 1)) 1)) 0).toInt=1) (
 .row [.int 1,(sl (R (ad b (.row [v0,(.bool true)])) c a d (sl (AK (cl a 0 0) (cl a 0 1)) 1)) 1)]) (
 .row [])) (
 .row [])) (
 .row [])) (
 cond ((sl (Ax a v0) 1).toInt<len a) (
 cond ((sl (AK (cl a (sl (Ax a v0) 1).toInt 0) (cl a (sl (Ax a v0) 1).toInt 1)) 0).toInt=1) (
 cond ((sl (R (ad b (.row [v0,(.bool true)])) c a d (sl (AK (cl a (sl (Ax a v0) 1).toInt 0) (cl a (sl (Ax a v0) 1).toInt 1)) 1)) 0).toInt=1) (
 .row [.int 1,(sl (R (ad b (.row [v0,(.bool true)])) c a d (sl (AK (cl a (sl (Ax a v0) 1).toInt 0) (cl a (sl (Ax a v0) 1).toInt 1)) 1)) 1)]) (
 .row [])) (
 .row [])) (
 .row []))) (
 .row [])) (
 cond ((cl b (mIx [.str] b (.row [v0])) 1).toBool) (
 .row [.int 1,b]) (
 cond ((sl (Ax a v0) 0).toInt=1) (
 cond ((sl (Ax a v0) 1).toInt<0) (
 cond (0<(len a:Int)) (
 cond ((sl (AK (cl a 0 0) (cl a 0 1)) 0).toInt=1) (
 cond ((sl (R (upd b (mIx [.str] b (.row [v0])) 1 (.bool true)) c a d (sl (AK (cl a 0 0) (cl a 0 1)) 1)) 0).toInt=1) (
 .row [.int 1,(sl (R (upd b (mIx [.str] b (.row [v0])) 1 (.bool true)) c a d (sl (AK (cl a 0 0) (cl a 0 1)) 1)) 1)]) (
 .row [])) (
 .row [])) (
 .row [])) (
 cond ((sl (Ax a v0) 1).toInt<len a) (
 cond ((sl (AK (cl a (sl (Ax a v0) 1).toInt 0) (cl a (sl (Ax a v0) 1).toInt 1)) 0).toInt=1) (
 cond ((sl (R (upd b (mIx [.str] b (.row [v0])) 1 (.bool true)) c a d (sl (AK (cl a (sl (Ax a v0) 1).toInt 0) (cl a (sl (Ax a v0) 1).toInt 1)) 1)) 0).toInt=1) (
 .row [.int 1,(sl (R (upd b (mIx [.str] b (.row [v0])) 1 (.bool true)) c a d (sl (AK (cl a (sl (Ax a v0) 1).toInt 0) (cl a (sl (Ax a v0) 1).toInt 1)) 1)) 1)]) (
 .row [])) (
 .row [])) (
 .row []))) (
 .row [])))
def RT (V:D→D→D→D→D→D) (g:D→D→D→D→D→D→D) (b:D) (a:Int) (c d e f:D):D:=
  cond (a<len b) (
 cond (a<0) (
 .row []) (
 cond (len b<a) (
 .row []) (
 cond ((sl (E3 (sb b 0 a) (cl b a 0)) 0).toInt=1) (
 cond ((sl (E3 (sb b 0 a) (cl b a 0)) 1).toInt<0) (
 cond ((sl (V (cl b a 0) c d e f) 0).toInt=1) (
 g b (.int (IntKind.wrap .i64 (a+1))) (sl (V (cl b a 0) c d e f) 1) d e f) (
 .row [])) (
 g b (.int (IntKind.wrap .i64 (a+1))) c d e f)) (
 .row [])))) (
 .row [.int 1,c])
def ST (c v2 v3:D) (v4:Bool) (v5 d:D) (v7:Bool) (v8 e:D) (F G:Int→D→D) (a:Int) (b:D):D:=
  cond (a<len c) (
 cond (a<0) (
 .row []) (
 cond ((sl (BE v2 v3 (.bool v4) v5 d (.bool v7) v8 e (cl c a 0)) 0).toInt=1) (
 cond ((sl (BE v2 v3 (.bool v4) v5 d (.bool v7) v8 e (cl c a 0)) 2).toInt=0) (
 cond ((sl (AK (cl c a 0) (cl c a 1)) 0).toInt=1) (
 cond ((sl (O3 b (.int 0) (sl (AK (cl c a 0) (cl c a 1)) 1)) 0).toInt=1) (
 cond ((mIx [.str] b (.row [(cl c a 0)]))<0) (
 G (IntKind.wrap .i64 (a+1)) (ad b (.row [(cl c a 0),(.int (IntKind.wrap .i64 ((sl (BE v2 v3 (.bool v4) v5 d (.bool v7) v8 e (cl c a 0)) 1).toInt+(sl (O3 b (.int 0) (sl (AK (cl c a 0) (cl c a 1)) 1)) 1).toInt)))]))) (
 G (IntKind.wrap .i64 (a+1)) (upd b (mIx [.str] b (.row [(cl c a 0)])) 1 (.int (IntKind.wrap .i64 ((sl (BE v2 v3 (.bool v4) v5 d (.bool v7) v8 e (cl c a 0)) 1).toInt+(sl (O3 b (.int 0) (sl (AK (cl c a 0) (cl c a 1)) 1)) 1).toInt)))))) (
 .row [])) (
 .row [])) (
 F (IntKind.wrap .i64 (a+1)) b)) (
 .row []))) (
 .row [.int 1,b])
def CT (c f g:D) (h:Bool) (i j:D) (k:Bool) (d e b m l:D) (G:D→D) (a:D):D:=
  cond (eqC a 0 0) (
 m) (
 cond ((sl (Ax c a) 0).toInt=1) (
 cond ((sl (Ax c a) 1).toInt<0) (
 cond ((sl (BE f g (.bool h) i j (.bool k) d e a) 0).toInt=1) (
 cond ((mIx [.str] b (.row [a]))<0) (
 cond ((IntKind.wrap .i64 (0-(sl (BE f g (.bool h) i j (.bool k) d e a) 1).toInt))=0) (
 .row [.int 1,(ad l (.row [a])),(.bool false),(.int 0)]) (
 cond (0<(len c:Int)) (
 cond ((sl (AK (cl c 0 0) (cl c 0 1)) 0).toInt=1) (
 cond ((sl (EC b (AA 0 0) (.int (IntKind.wrap .i64 (0-(sl (BE f g (.bool h) i j (.bool k) d e a) 1).toInt))) (sl (AK (cl c 0 0) (cl c 0 1)) 1)) 0).toInt=1) (
 G (sl (EC b (AA 0 0) (.int (IntKind.wrap .i64 (0-(sl (BE f g (.bool h) i j (.bool k) d e a) 1).toInt))) (sl (AK (cl c 0 0) (cl c 0 1)) 1)) 1)) (
 cond ((sl (EC b (AA 0 0) (.int (IntKind.wrap .i64 (0-(sl (BE f g (.bool h) i j (.bool k) d e a) 1).toInt))) (sl (AK (cl c 0 0) (cl c 0 1)) 1)) 0).toInt=2) (
 G (AA 0 0)) (
 .row []))) (
 .row [])) (
 .row []))) (
 cond ((IntKind.wrap .i64 ((cl b (mIx [.str] b (.row [a])) 1).toInt-(sl (BE f g (.bool h) i j (.bool k) d e a) 1).toInt))=0) (
 .row [.int 1,(ad l (.row [a])),(.bool false),(.int 0)]) (
 cond (0<(len c:Int)) (
 cond ((sl (AK (cl c 0 0) (cl c 0 1)) 0).toInt=1) (
 cond ((sl (EC b (AA 0 0) (.int (IntKind.wrap .i64 ((cl b (mIx [.str] b (.row [a])) 1).toInt-(sl (BE f g (.bool h) i j (.bool k) d e a) 1).toInt))) (sl (AK (cl c 0 0) (cl c 0 1)) 1)) 0).toInt=1) (
 G (sl (EC b (AA 0 0) (.int (IntKind.wrap .i64 ((cl b (mIx [.str] b (.row [a])) 1).toInt-(sl (BE f g (.bool h) i j (.bool k) d e a) 1).toInt))) (sl (AK (cl c 0 0) (cl c 0 1)) 1)) 1)) (
 cond ((sl (EC b (AA 0 0) (.int (IntKind.wrap .i64 ((cl b (mIx [.str] b (.row [a])) 1).toInt-(sl (BE f g (.bool h) i j (.bool k) d e a) 1).toInt))) (sl (AK (cl c 0 0) (cl c 0 1)) 1)) 0).toInt=2) (
 G (AA 0 0)) (
 .row []))) (
 .row [])) (
 .row [])))) (
 .row [])) (
 cond ((sl (BE f g (.bool h) i j (.bool k) d e a) 0).toInt=1) (
 cond ((mIx [.str] b (.row [a]))<0) (
 cond ((IntKind.wrap .i64 (0-(sl (BE f g (.bool h) i j (.bool k) d e a) 1).toInt))=0) (
 .row [.int 1,(ad l (.row [a])),(.bool false),(.int 0)]) (
 cond ((sl (Ax c a) 1).toInt<len c) (
 cond ((sl (AK (cl c (sl (Ax c a) 1).toInt 0) (cl c (sl (Ax c a) 1).toInt 1)) 0).toInt=1) (
 cond ((sl (EC b (AA 0 0) (.int (IntKind.wrap .i64 (0-(sl (BE f g (.bool h) i j (.bool k) d e a) 1).toInt))) (sl (AK (cl c (sl (Ax c a) 1).toInt 0) (cl c (sl (Ax c a) 1).toInt 1)) 1)) 0).toInt=1) (
 G (sl (EC b (AA 0 0) (.int (IntKind.wrap .i64 (0-(sl (BE f g (.bool h) i j (.bool k) d e a) 1).toInt))) (sl (AK (cl c (sl (Ax c a) 1).toInt 0) (cl c (sl (Ax c a) 1).toInt 1)) 1)) 1)) (
 cond ((sl (EC b (AA 0 0) (.int (IntKind.wrap .i64 (0-(sl (BE f g (.bool h) i j (.bool k) d e a) 1).toInt))) (sl (AK (cl c (sl (Ax c a) 1).toInt 0) (cl c (sl (Ax c a) 1).toInt 1)) 1)) 0).toInt=2) (
 G (AA 0 0)) (
 .row []))) (
 .row [])) (
 .row []))) (
 cond ((IntKind.wrap .i64 ((cl b (mIx [.str] b (.row [a])) 1).toInt-(sl (BE f g (.bool h) i j (.bool k) d e a) 1).toInt))=0) (
 .row [.int 1,(ad l (.row [a])),(.bool false),(.int 0)]) (
 cond ((sl (Ax c a) 1).toInt<len c) (
 cond ((sl (AK (cl c (sl (Ax c a) 1).toInt 0) (cl c (sl (Ax c a) 1).toInt 1)) 0).toInt=1) (
 cond ((sl (EC b (AA 0 0) (.int (IntKind.wrap .i64 ((cl b (mIx [.str] b (.row [a])) 1).toInt-(sl (BE f g (.bool h) i j (.bool k) d e a) 1).toInt))) (sl (AK (cl c (sl (Ax c a) 1).toInt 0) (cl c (sl (Ax c a) 1).toInt 1)) 1)) 0).toInt=1) (
 G (sl (EC b (AA 0 0) (.int (IntKind.wrap .i64 ((cl b (mIx [.str] b (.row [a])) 1).toInt-(sl (BE f g (.bool h) i j (.bool k) d e a) 1).toInt))) (sl (AK (cl c (sl (Ax c a) 1).toInt 0) (cl c (sl (Ax c a) 1).toInt 1)) 1)) 1)) (
 cond ((sl (EC b (AA 0 0) (.int (IntKind.wrap .i64 ((cl b (mIx [.str] b (.row [a])) 1).toInt-(sl (BE f g (.bool h) i j (.bool k) d e a) 1).toInt))) (sl (AK (cl c (sl (Ax c a) 1).toInt 0) (cl c (sl (Ax c a) 1).toInt 1)) 1)) 0).toInt=2) (
 G (AA 0 0)) (
 .row []))) (
 .row [])) (
 .row [])))) (
 .row []))) (
 .row []))
theorem sk (v0 a b c d:D):KD v0 a b c d =
 XM d (.int 0) v0 a b c:=gw rfl rfl rfl
theorem uv (v0:D) (a:Int) (b c d e:D):XM v0 (.int a) b c d e =
  cond (a<len v0) (
 cond (a<0) (
 .row []) (
 cond (len v0<a) (
 .row []) (
 cond ((sl (E3 (sb v0 0 a) (cl v0 a 0)) 0).toInt=1) (
 cond ((sl (E3 (sb v0 0 a) (cl v0 a 0)) 1).toInt<0) (
 .row []) (
 XM v0 (.int (IntKind.wrap .i64 (a+1))) b c d e)) (
 .row [])))) (
 .row [.int 1]):=gw rfl rfl (cL (cL rfl (cL rfl (cQ rfl rfl))) rfl)
theorem ub (v0 b c a d:D):QE v0 b c a d =
  cond ((mIx [.str] b (.row [v0]))<0) (
 cond ((sl (Ax a v0) 0).toInt=1) (
 cond ((sl (Ax a v0) 1).toInt<0) (
 cond (0<(len a:Int)) (
 cond ((sl (AK (cl a 0 0) (cl a 0 1)) 0).toInt=1) (
 cond ((sl (KD (ad b (.row [v0,(.bool true)])) c a d (sl (AK (cl a 0 0) (cl a 0 1)) 1)) 0).toInt=1) (
 .row [.int 1,(ad b (.row [v0,(.bool true)]))]) (
 .row [])) (
 .row [])) (
 .row [])) (
 cond ((sl (Ax a v0) 1).toInt<len a) (
 cond ((sl (AK (cl a (sl (Ax a v0) 1).toInt 0) (cl a (sl (Ax a v0) 1).toInt 1)) 0).toInt=1) (
 cond ((sl (KD (ad b (.row [v0,(.bool true)])) c a d (sl (AK (cl a (sl (Ax a v0) 1).toInt 0) (cl a (sl (Ax a v0) 1).toInt 1)) 1)) 0).toInt=1) (
 .row [.int 1,(ad b (.row [v0,(.bool true)]))]) (
 .row [])) (
 .row [])) (
 .row []))) (
 .row [])) (
 cond ((cl b (mIx [.str] b (.row [v0])) 1).toBool) (
 .row [.int 1,b]) (
 cond ((sl (Ax a v0) 0).toInt=1) (
 cond ((sl (Ax a v0) 1).toInt<0) (
 cond (0<(len a:Int)) (
 cond ((sl (AK (cl a 0 0) (cl a 0 1)) 0).toInt=1) (
 cond ((sl (KD (upd b (mIx [.str] b (.row [v0])) 1 (.bool true)) c a d (sl (AK (cl a 0 0) (cl a 0 1)) 1)) 0).toInt=1) (
 .row [.int 1,(upd b (mIx [.str] b (.row [v0])) 1 (.bool true))]) (
 .row [])) (
 .row [])) (
 .row [])) (
 cond ((sl (Ax a v0) 1).toInt<len a) (
 cond ((sl (AK (cl a (sl (Ax a v0) 1).toInt 0) (cl a (sl (Ax a v0) 1).toInt 1)) 0).toInt=1) (
 cond ((sl (KD (upd b (mIx [.str] b (.row [v0])) 1 (.bool true)) c a d (sl (AK (cl a (sl (Ax a v0) 1).toInt 0) (cl a (sl (Ax a v0) 1).toInt 1)) 1)) 0).toInt=1) (
 .row [.int 1,(upd b (mIx [.str] b (.row [v0])) 1 (.bool true))]) (
 .row [])) (
 .row [])) (
 .row []))) (
 .row []))):=gw rfl rfl (cL (cQ (cL (cL (cQ (cQ rfl rfl) rfl) rfl) (cL (cQ (cQ rfl rfl) rfl) rfl)) rfl) (cg rfl rfl (cQ (cL (cL (cQ (cQ rfl rfl) rfl) rfl) (cL (cQ (cQ rfl rfl) rfl) rfl)) rfl)))
theorem oO (a b c d e:D):NZ a b c d e =
 Ry e (.int 0) a b c d:=gw rfl rfl rfl
theorem l5 (a:D) (b:Int) (c d e f:D):Ry a (.int b) c d e f =
 RT QE Ry a b c d e f:=gw rfl rfl (cL (cL rfl (cL rfl (cQ (cL (cQ rfl rfl) rfl) rfl))) rfl)
theorem l4 (a b c d e:D):Sj a b c d e =
 VT NZ a b c d e:=gw rfl rfl (cL (cQ (cL (cL (cQ (cQ rfl rfl) rfl) rfl) (cL (cQ (cQ rfl rfl) rfl) rfl)) rfl) (cg rfl rfl (cQ (cL (cL (cQ (cQ rfl rfl) rfl) rfl) (cL (cQ (cQ rfl rfl) rfl) rfl)) rfl)))
theorem mq (a b c d e:D):O5 a b c d e =
 R7 e (.int 0) a b c d:=gw rfl rfl rfl
theorem ut (a:D) (b:Int) (c d e f:D):R7 a (.int b) c d e f =
 RT Sj R7 a b c d e f:=gw rfl rfl (cL (cL rfl (cL rfl (cQ (cL (cQ rfl rfl) rfl) rfl))) rfl)
theorem wh (a b c d e:D):Rm a b c d e =
 VT O5 a b c d e:=gw rfl rfl (cL (cQ (cL (cL (cQ (cQ rfl rfl) rfl) rfl) (cL (cQ (cQ rfl rfl) rfl) rfl)) rfl) (cg rfl rfl (cQ (cL (cL (cQ (cQ rfl rfl) rfl) rfl) (cL (cQ (cQ rfl rfl) rfl) rfl)) rfl)))
theorem rK (a b c d e:D):Pb a b c d e =
 Rk e (.int 0) a b c d:=gw rfl rfl rfl
theorem oP (a:D) (b:Int) (c d e f:D):Rk a (.int b) c d e f =
 RT Rm Rk a b c d e f:=gw rfl rfl (cL (cL rfl (cL rfl (cQ (cL (cQ rfl rfl) rfl) rfl))) rfl)
theorem qh (a b c d e:D):RW a b c d e =
 VT Pb a b c d e:=gw rfl rfl (cL (cQ (cL (cL (cQ (cQ rfl rfl) rfl) rfl) (cL (cQ (cQ rfl rfl) rfl) rfl)) rfl) (cg rfl rfl (cQ (cL (cL (cQ (cQ rfl rfl) rfl) rfl) (cL (cQ (cQ rfl rfl) rfl) rfl)) rfl)))
theorem ou (a b c d e:D):O9 a b c d e =
 QW e (.int 0) a b c d:=gw rfl rfl rfl
theorem vh (a:D) (b:Int) (c d e f:D):QW a (.int b) c d e f =
 RT RW QW a b c d e f:=gw rfl rfl (cL (cL rfl (cL rfl (cQ (cL (cQ rfl rfl) rfl) rfl))) rfl)
theorem rE (a b c d e:D):RH a b c d e =
 VT O9 a b c d e:=gw rfl rfl (cL (cQ (cL (cL (cQ (cQ rfl rfl) rfl) rfl) (cL (cQ (cQ rfl rfl) rfl) rfl)) rfl) (cg rfl rfl (cQ (cL (cL (cQ (cQ rfl rfl) rfl) rfl) (cL (cQ (cQ rfl rfl) rfl) rfl)) rfl)))
theorem lV (a b c d e:D):OP a b c d e =
 Sp e (.int 0) a b c d:=gw rfl rfl rfl
theorem qS (a:D) (b:Int) (c d e f:D):Sp a (.int b) c d e f =
 RT RH Sp a b c d e f:=gw rfl rfl (cL (cL rfl (cL rfl (cQ (cL (cQ rfl rfl) rfl) rfl))) rfl)
theorem wC (a b c d e:D):Rh a b c d e =
 VT OP a b c d e:=gw rfl rfl (cL (cQ (cL (cL (cQ (cQ rfl rfl) rfl) rfl) (cL (cQ (cQ rfl rfl) rfl) rfl)) rfl) (cg rfl rfl (cQ (cL (cL (cQ (cQ rfl rfl) rfl) rfl) (cL (cQ (cQ rfl rfl) rfl) rfl)) rfl)))
theorem xa (a b c d e:D):O4 a b c d e =
 Sb e (.int 0) a b c d:=gw rfl rfl rfl
theorem nM (a:D) (b:Int) (c d e f:D):Sb a (.int b) c d e f =
 RT Rh Sb a b c d e f:=gw rfl rfl (cL (cL rfl (cL rfl (cQ (cL (cQ rfl rfl) rfl) rfl))) rfl)
theorem oQ (a b c d e:D):Q8 a b c d e =
 VT O4 a b c d e:=gw rfl rfl (cL (cQ (cL (cL (cQ (cQ rfl rfl) rfl) rfl) (cL (cQ (cQ rfl rfl) rfl) rfl)) rfl) (cg rfl rfl (cQ (cL (cL (cQ (cQ rfl rfl) rfl) rfl) (cL (cQ (cQ rfl rfl) rfl) rfl)) rfl)))
theorem mn (a b c d e:D):Oi a b c d e =
 Rr e (.int 0) a b c d:=gw rfl rfl rfl
theorem vT (a:D) (b:Int) (c d e f:D):Rr a (.int b) c d e f =
 RT Q8 Rr a b c d e f:=gw rfl rfl (cL (cL rfl (cL rfl (cQ (cL (cQ rfl rfl) rfl) rfl))) rfl)
theorem vz (a b c d e:D):QK a b c d e =
 VT Oi a b c d e:=gw rfl rfl (cL (cQ (cL (cL (cQ (cQ rfl rfl) rfl) rfl) (cL (cQ (cQ rfl rfl) rfl) rfl)) rfl) (cg rfl rfl (cQ (cL (cL (cQ (cQ rfl rfl) rfl) rfl) (cL (cQ (cQ rfl rfl) rfl) rfl)) rfl)))
theorem pk (a b c d e:D):NW a b c d e =
 Q5 e (.int 0) a b c d:=gw rfl rfl rfl
theorem vR (a:D) (b:Int) (c d e f:D):Q5 a (.int b) c d e f =
 RT QK Q5 a b c d e f:=gw rfl rfl (cL (cL rfl (cL rfl (cQ (cL (cQ rfl rfl) rfl) rfl))) rfl)
theorem mL (a b c d e:D):K5 a b c d e =
 VT NW a b c d e:=gw rfl rfl (cL (cQ (cL (cL (cQ (cQ rfl rfl) rfl) rfl) (cL (cQ (cQ rfl rfl) rfl) rfl)) rfl) (cg rfl rfl (cQ (cL (cL (cQ (cQ rfl rfl) rfl) rfl) (cL (cQ (cQ rfl rfl) rfl) rfl)) rfl)))
theorem xL (a b c d:D) (e:Bool):RZ a b c d (.bool e) =
 UZ d (.bool e) (.int 0) Ad a b c:=gw rfl rfl rfl
theorem fC (b:D) (g:Bool) (a:Int) (c d e f:D):UZ b (.bool g) (.int a) c d e f =
  cond (a<len b) (
 cond (a<0) (
 .row []) (
 cond ((sl (K5 (cl b a 0) c d e f) 0).toInt=1) (
 UZ b (.bool g) (.int (IntKind.wrap .i64 (a+1))) (sl (K5 (cl b a 0) c d e f) 1) d e f) (
 .row []))) (
 .row [.int 1,c]):=gw rfl rfl (cL (cL rfl (cQ rfl rfl)) rfl)
theorem eo (v0:Int):Om (.int v0) =
 .row [.int 1,(.int v0)]:=gw rfl rfl rfl
theorem sq (v0 v1:D) (v2:Bool) (v3 v4:D) (v5:Bool) (v6 v7:D) (v8 c a b:Int):Bh v0 v1 (.bool v2) v3 v4 (.bool v5) v6 v7 (.int v8) (.int c) (.int a) (.int b) =
  cond ((sl (Om (.int c)) 0).toInt=1) (
 cond ((sl (Fz v0 v1 (.bool v2) v3 v4 (.bool v5) v6 v7 (.int v8) (sl (Om (.int c)) 1) (.int v8) (.int a) (.int (-1)) (.int (-1)) (.int b)) 0).toInt=1) (
 .row [.int 1,(sl (Fz v0 v1 (.bool v2) v3 v4 (.bool v5) v6 v7 (.int v8) (sl (Om (.int c)) 1) (.int v8) (.int a) (.int (-1)) (.int (-1)) (.int b)) 1),(sl (Fz v0 v1 (.bool v2) v3 v4 (.bool v5) v6 v7 (.int v8) (sl (Om (.int c)) 1) (.int v8) (.int a) (.int (-1)) (.int (-1)) (.int b)) 2)]) (
 .row [])) (
 .row []):=gw rfl rfl (cQ (cQ rfl rfl) rfl)
theorem sG (a b:D) (c:Bool) (d j:D) (k:Bool) (e f:D) (g h:Int) (l:D) (m n:Int) (o p:Bool) (q r s:Int) (t u v w i:D) (x y:Int):UX a b (.bool c) d j (.bool k) e f (.int g) (.int h) l (.int m) (.int n) (.bool o) (.bool p) (.int q) (.int r) (.int s) t u v w i (.int x) (.int y) =
  cond ((sl (Bh a b (.bool c) d j (.bool k) e f (.int g) (.int 7) (.int h) (.int (-1))) 0).toInt=1) (
 MO (.int h) i (.int 0) a b (.bool c) d (sl (Bh a b (.bool c) d j (.bool k) e f (.int g) (.int 7) (.int h) (.int (-1))) 1) (sl (Bh a b (.bool c) d j (.bool k) e f (.int g) (.int 7) (.int h) (.int (-1))) 2) e f (.int g)) (
 .row []):=gw rfl rfl (cQ rfl rfl)
theorem fb (h:Int) (g:D) (c:Int) (i j:D) (k:Bool) (l m:D) (n:Bool) (d a:D) (b:Int) {e f:D} (o:Bh i j (.bool k) l m (.bool n) d a (.int b) (.int 8) (.int h) (.int 0)=f) (p:Bh i j (.bool k) l m (.bool n) d a (.int b) (.int 8) (.int h) (cl d (mIx [.str] d (.row [(cl g c 2)])) 1)=e):MO (.int h) g (.int c) i j (.bool k) l m (.bool n) d a (.int b) =
  cond (c<len g) (
 cond (c<0) (
 .row []) (
 cond ((mIx [.str] d (.row [(cl g c 2)]))<0) (
 cond ((sl f 0).toInt=1) (
 cond ((IntKind.wrap .i64 ((len (sl f 1):Int)-1))<0) (
 .row []) (
 cond ((IntKind.wrap .i64 ((len (sl f 1):Int)-1))<(len (sl f 1):Int)) (
 MO (.int h) g (.int (IntKind.wrap .i64 (c+1))) i j (.bool k) l (upd (sl f 1) (IntKind.wrap .i64 ((len (sl f 1):Int)-1)) 4 (.int c)) (sl f 2) d a (.int b)) (
 .row []))) (
 .row [])) (
 cond ((sl e 0).toInt=1) (
 cond ((IntKind.wrap .i64 ((len (sl e 1):Int)-1))<0) (
 .row []) (
 cond ((IntKind.wrap .i64 ((len (sl e 1):Int)-1))<(len (sl e 1):Int)) (
 MO (.int h) g (.int (IntKind.wrap .i64 (c+1))) i j (.bool k) l (upd (sl e 1) (IntKind.wrap .i64 ((len (sl e 1):Int)-1)) 4 (.int c)) (sl e 2) d a (.int b)) (
 .row []))) (
 .row [])))) (
 .row [.int 1,m,(.bool n)]):=by
  subst p;subst o;exact gw rfl rfl (cL (cL rfl (cL (cQ rfl rfl) (cQ rfl rfl))) rfl)
theorem sD (a b:D):NS a b =
 Ot a (.int 0) b:=gw rfl rfl rfl
theorem fu (b:D) (a:Int) (c:D):Ot b (.int a) c =
  cond (a<len b) (
 cond (a<0) (
 .row []) (
 cond (D.strEq (cl b a 0) c) (
 .row [.int 1,(.int a)]) (
 Ot b (.int (IntKind.wrap .i64 (a+1))) c))) (
 .row [.int 1,(.int (-1))]):=gw rfl rfl rfl
theorem pD (a b:D):Vq a b =
 IQ a (.int 0) b:=gw rfl rfl rfl
theorem fq (b:D) (a:Int) (c:D):IQ b (.int a) c =
  cond (a<len b) (
 cond (a<0) (
 .row []) (
 cond ((cl b a 1).toInt=9) (
 cond (D.strEq (cl b a 10) c) (
 .row [.int 1,(.int a)]) (
 cond ((sl (NS (cl b a 8) c) 0).toInt=1) (
 cond ((sl (NS (cl b a 8) c) 1).toInt<0) (
 IQ b (.int (IntKind.wrap .i64 (a+1))) c) (
 .row [.int 1,(.int a)])) (
 .row []))) (
 cond ((sl (NS (cl b a 8) c) 0).toInt=1) (
 cond ((sl (NS (cl b a 8) c) 1).toInt<0) (
 IQ b (.int (IntKind.wrap .i64 (a+1))) c) (
 .row [.int 1,(.int a)])) (
 .row [])))) (
 .row [.int 1,(.int (-1))]):=gw rfl rfl (cL (cL rfl (cQ (cg rfl rfl (cQ rfl rfl)) (cQ rfl rfl))) rfl)
theorem qJ (c a b:D):Jn c a b =
  cond ((sl (Vq a b) 0).toInt=1) (
 .row [.int 1,(.bool (!decide ((sl (Vq a b) 1).toInt<0)))]) (
 .row []):=gw rfl rfl (cQ rfl rfl)
theorem tn (a b c:D):BF a b c =
  cond ((sl (EH a b c) 0).toInt=1) (
 cond ((sl (EH a b c) 1).toBool) (
 cond ((sl (GN a b c) 0).toInt=1) (
 cond ((sl (RZ a b c (ad Ad (.row [(sl (GN a b c) 4)])) (.bool false)) 0).toInt=1) (
 HE (sl (GN a b c) 2) (sl (GN a b c) 3) (.int (len (sl (GN a b c) 2):Int)) (.int 0) (sl (GN a b c) 1) (sl (GN a b c) 3) (sl (GN a b c) 4) (ad (ad Ad (.row [(.int 1),(.int (-1)),(.int (-1)),(.int (-1)),(.int (-1)),(.int (-1))])) (.row [(.int 2),(.int (-1)),(.int (-1)),(.int (-1)),(.int (-1)),(.int (-1))])) (.bool false) (.int 0) (sl (RZ a b c (ad Ad (.row [(sl (GN a b c) 4)])) (.bool false)) 1) Ad Ad) (
 .row [])) (
 .row [])) (
 .row [.int 1])) (
 .row []):=gw rfl rfl (cQ (cg rfl (cQ (cQ rfl rfl) rfl) rfl) rfl)
theorem fv (d:D) (l:Bool) (k b:Int) (h:D) (i:Bool) (g f:D) (j:Bool) (m:Int) (e a c:D):HE d (.bool l) (.int k) (.int b) h (.bool i) g f (.bool j) (.int m) e a c =
  cond (b<k) (
 cond (b<0) (
 .row []) (
 cond (b<len d) (
 cond ((mIx [.str] e (.row [(cl d b 0)]))<0) (
 HE d (.bool l) (.int k) (.int (IntKind.wrap .i64 (b+1))) h (.bool i) g f (.bool j) (.int m) e a c) (
 cond ((cl e (mIx [.str] e (.row [(cl d b 0)])) 1).toBool) (
 cond ((mIx [.str] a (.row [(cl d b 0)]))<0) (
 cond ((mIx [.str] c (.row [(cl d b 0)]))<0) (
 cond ((sl (Bh h d (.bool i) g f (.bool j) (upd (ad a (.row [(cl d b 0),(.int 0)])) (len a:Int) 1 (.int (len f:Int))) (upd (ad c (.row [(cl d b 0),(.int 0)])) (len c:Int) 1 (.int 0)) (.int b) (.int 3) (.int (-1)) (.int (-1))) 0).toInt=1) (
 BU d (.bool l) (.int k) (.int b) (cl d b 1) (.int (len (cl d b 1):Int)) (.int 0) h (.bool i) g (sl (Bh h d (.bool i) g f (.bool j) (upd (ad a (.row [(cl d b 0),(.int 0)])) (len a:Int) 1 (.int (len f:Int))) (upd (ad c (.row [(cl d b 0),(.int 0)])) (len c:Int) 1 (.int 0)) (.int b) (.int 3) (.int (-1)) (.int (-1))) 1) (sl (Bh h d (.bool i) g f (.bool j) (upd (ad a (.row [(cl d b 0),(.int 0)])) (len a:Int) 1 (.int (len f:Int))) (upd (ad c (.row [(cl d b 0),(.int 0)])) (len c:Int) 1 (.int 0)) (.int b) (.int 3) (.int (-1)) (.int (-1))) 2) (.int b) e (.int b) (.int b) (.int b) (.int b) (upd (ad a (.row [(cl d b 0),(.int 0)])) (len a:Int) 1 (.int (len f:Int))) (upd (ad c (.row [(cl d b 0),(.int 0)])) (len c:Int) 1 (.int 0))) (
 .row [])) (
 .row [])) (
 .row [])) (
 HE d (.bool l) (.int k) (.int (IntKind.wrap .i64 (b+1))) h (.bool i) g f (.bool j) (.int m) e a c))) (
 .row []))) (
 cond ((mIx [.str] a (.row [g]))<0) (
 cond (0<(len f:Int)) (
 .row [.int 2,h,d,(.bool i),g,(upd f 0 5 (.int 0)),(.bool j),a,c]) (
 .row [])) (
 cond (0<(len f:Int)) (
 .row [.int 2,h,d,(.bool i),g,(upd f 0 5 (cl a (mIx [.str] a (.row [g])) 1)),(.bool j),a,c]) (
 .row []))):=gw rfl rfl (cL (cL rfl (cL (cL rfl (cg rfl (cL (cL (cQ rfl rfl) rfl) rfl) rfl)) rfl)) rfl)
theorem fi (e:D) (q:Bool) (r s:Int) (f:D) (t d:Int) (n:D) (o:Bool) (p j:D) (k:Bool) (a:Int) (l:D) (g h i m:Int) (c b:D) {y x v u w z A B:D} (C:UX n e (.bool o) p j (.bool k) c b (.int m) (.int d) (cl f d 0) (cl f d 1) (cl f d 2) (cl f d 3) (cl f d 4) (cl f d 5) (cl f d 6) (cl f d 7) (cl f d 8) (cl f d 9) (cl f d 10) (cl f d 11) (cl f d 12) (cl f d 13) (cl f d 14)=y) (E:Om (.int 4)=x) (F:Fz n e (.bool o) p j (.bool k) c (upd b (mIx [.str] b (.row [(cl e a 0)])) 1 (.int (IntKind.wrap .i64 ((cl b (mIx [.str] b (.row [(cl e a 0)])) 1).toInt+1)))) (.int a) (sl x 1) (.int a) (.int d) (cl b (mIx [.str] b (.row [(cl e a 0)])) 1) (.int (-1)) (.int (-1))=v) (G:Fz n e (.bool o) p j (.bool k) c b (.int a) (sl x 1) (.int a) (.int d) (.int (-1)) (.int (-1)) (.int (-1))=u) (H:Fz n e (.bool o) p j (.bool k) c (ad b (.row [(cl e a 0),(.int 1)])) (.int a) (sl x 1) (.int a) (.int d) (.int 0) (.int (-1)) (.int (-1))=w) (I:Bh n e (.bool o) p j (.bool k) c b (.int i) (.int 9) (.int d) (cl c (mIx [.str] c (.row [(cl f d 9)])) 1)=z) (J:Bh n e (.bool o) p j (.bool k) c b (.int h) (.int 6) (.int d) (cl c (mIx [.str] c (.row [(cl f d 9)])) 1)=A) (K:Bh n e (.bool o) p j (.bool k) c b (.int g) (.int 5) (.int d) (cl c (mIx [.str] c (.row [(cl f d 9)])) 1)=B):BU e (.bool q) (.int r) (.int s) f (.int t) (.int d) n (.bool o) p j (.bool k) (.int a) l (.int g) (.int h) (.int i) (.int m) c b =
  cond (d<t) (
 cond (d<0) (
 .row []) (
 cond (d<len f) (
 cond ((cl f d 1).toInt=8) (
 cond ((mIx [.str] c (.row [(cl f d 9)]))<0) (
 cond ((sl (Bh n e (.bool o) p j (.bool k) c b (.int g) (.int 5) (.int d) (.int 0)) 0).toInt=1) (
 BU e (.bool q) (.int r) (.int s) f (.int t) (.int (IntKind.wrap .i64 (d+1))) n (.bool o) p (sl (Bh n e (.bool o) p j (.bool k) c b (.int g) (.int 5) (.int d) (.int 0)) 1) (sl (Bh n e (.bool o) p j (.bool k) c b (.int g) (.int 5) (.int d) (.int 0)) 2) (.int a) l (.int g) (.int h) (.int i) (.int m) c b) (
 .row [])) (
 cond ((sl B 0).toInt=1) (
 BU e (.bool q) (.int r) (.int s) f (.int t) (.int (IntKind.wrap .i64 (d+1))) n (.bool o) p (sl B 1) (sl B 2) (.int a) l (.int g) (.int h) (.int i) (.int m) c b) (
 .row []))) (
 cond ((cl f d 1).toInt=7) (
 cond ((mIx [.str] c (.row [(cl f d 9)]))<0) (
 cond ((sl (Bh n e (.bool o) p j (.bool k) c b (.int h) (.int 6) (.int d) (.int 0)) 0).toInt=1) (
 BU e (.bool q) (.int r) (.int s) f (.int t) (.int (IntKind.wrap .i64 (d+1))) n (.bool o) p (sl (Bh n e (.bool o) p j (.bool k) c b (.int h) (.int 6) (.int d) (.int 0)) 1) (sl (Bh n e (.bool o) p j (.bool k) c b (.int h) (.int 6) (.int d) (.int 0)) 2) (.int a) l (.int g) (.int h) (.int i) (.int m) c b) (
 .row [])) (
 cond ((sl A 0).toInt=1) (
 BU e (.bool q) (.int r) (.int s) f (.int t) (.int (IntKind.wrap .i64 (d+1))) n (.bool o) p (sl A 1) (sl A 2) (.int a) l (.int g) (.int h) (.int i) (.int m) c b) (
 .row []))) (
 cond ((cl f d 1).toInt=12) (
 cond ((mIx [.str] c (.row [(cl f d 9)]))<0) (
 cond ((sl (Bh n e (.bool o) p j (.bool k) c b (.int i) (.int 9) (.int d) (.int 0)) 0).toInt=1) (
 BU e (.bool q) (.int r) (.int s) f (.int t) (.int (IntKind.wrap .i64 (d+1))) n (.bool o) p (sl (Bh n e (.bool o) p j (.bool k) c b (.int i) (.int 9) (.int d) (.int 0)) 1) (sl (Bh n e (.bool o) p j (.bool k) c b (.int i) (.int 9) (.int d) (.int 0)) 2) (.int a) l (.int g) (.int h) (.int i) (.int m) c b) (
 .row [])) (
 cond ((sl z 0).toInt=1) (
 BU e (.bool q) (.int r) (.int s) f (.int t) (.int (IntKind.wrap .i64 (d+1))) n (.bool o) p (sl z 1) (sl z 2) (.int a) l (.int g) (.int h) (.int i) (.int m) c b) (
 .row []))) (
 cond ((cl f d 1).toInt=9) (
 cond ((sl y 0).toInt=1) (
 BU e (.bool q) (.int r) (.int s) f (.int t) (.int (IntKind.wrap .i64 (d+1))) n (.bool o) p (sl y 1) (sl y 2) (.int a) l (.int g) (.int h) (.int i) (.int m) c b) (
 .row [])) (
 cond ((sl x 0).toInt=1) (
 cond (a<0) (
 .row []) (
 cond (a<len e) (
 cond ((cl f d 1).toInt=1) (
 cond ((sl (Jn (cl e a 0) (cl e a 1) (cl f d 0)) 0).toInt=1) (
 cond ((sl (Jn (cl e a 0) (cl e a 1) (cl f d 0)) 1).toBool) (
 cond ((mIx [.str] b (.row [(cl e a 0)]))<0) (
 cond ((sl w 0).toInt=1) (
 BU e (.bool q) (.int r) (.int s) f (.int t) (.int (IntKind.wrap .i64 (d+1))) n (.bool o) p (sl w 1) (sl w 2) (.int a) l (.int g) (.int h) (.int i) (.int m) c (ad b (.row [(cl e a 0),(.int 1)]))) (
 .row [])) (
 cond ((sl v 0).toInt=1) (
 BU e (.bool q) (.int r) (.int s) f (.int t) (.int (IntKind.wrap .i64 (d+1))) n (.bool o) p (sl v 1) (sl v 2) (.int a) l (.int g) (.int h) (.int i) (.int m) c (upd b (mIx [.str] b (.row [(cl e a 0)])) 1 (.int (IntKind.wrap .i64 ((cl b (mIx [.str] b (.row [(cl e a 0)])) 1).toInt+1))))) (
 .row []))) (
 cond ((sl u 0).toInt=1) (
 BU e (.bool q) (.int r) (.int s) f (.int t) (.int (IntKind.wrap .i64 (d+1))) n (.bool o) p (sl u 1) (sl u 2) (.int a) l (.int g) (.int h) (.int i) (.int m) c b) (
 .row []))) (
 .row [])) (
 cond ((cl f d 1).toInt=2) (
 cond ((sl (Jn (cl e a 0) (cl e a 1) (cl f d 0)) 0).toInt=1) (
 cond ((sl (Jn (cl e a 0) (cl e a 1) (cl f d 0)) 1).toBool) (
 cond ((mIx [.str] b (.row [(cl e a 0)]))<0) (
 cond ((sl w 0).toInt=1) (
 BU e (.bool q) (.int r) (.int s) f (.int t) (.int (IntKind.wrap .i64 (d+1))) n (.bool o) p (sl w 1) (sl w 2) (.int a) l (.int g) (.int h) (.int i) (.int m) c (ad b (.row [(cl e a 0),(.int 1)]))) (
 .row [])) (
 cond ((sl v 0).toInt=1) (
 BU e (.bool q) (.int r) (.int s) f (.int t) (.int (IntKind.wrap .i64 (d+1))) n (.bool o) p (sl v 1) (sl v 2) (.int a) l (.int g) (.int h) (.int i) (.int m) c (upd b (mIx [.str] b (.row [(cl e a 0)])) 1 (.int (IntKind.wrap .i64 ((cl b (mIx [.str] b (.row [(cl e a 0)])) 1).toInt+1))))) (
 .row []))) (
 cond ((sl u 0).toInt=1) (
 BU e (.bool q) (.int r) (.int s) f (.int t) (.int (IntKind.wrap .i64 (d+1))) n (.bool o) p (sl u 1) (sl u 2) (.int a) l (.int g) (.int h) (.int i) (.int m) c b) (
 .row []))) (
 .row [])) (
 cond ((cl f d 1).toInt=3) (
 cond ((sl (Jn (cl e a 0) (cl e a 1) (cl f d 0)) 0).toInt=1) (
 cond ((sl (Jn (cl e a 0) (cl e a 1) (cl f d 0)) 1).toBool) (
 cond ((mIx [.str] b (.row [(cl e a 0)]))<0) (
 cond ((sl w 0).toInt=1) (
 BU e (.bool q) (.int r) (.int s) f (.int t) (.int (IntKind.wrap .i64 (d+1))) n (.bool o) p (sl w 1) (sl w 2) (.int a) l (.int g) (.int h) (.int i) (.int m) c (ad b (.row [(cl e a 0),(.int 1)]))) (
 .row [])) (
 cond ((sl v 0).toInt=1) (
 BU e (.bool q) (.int r) (.int s) f (.int t) (.int (IntKind.wrap .i64 (d+1))) n (.bool o) p (sl v 1) (sl v 2) (.int a) l (.int g) (.int h) (.int i) (.int m) c (upd b (mIx [.str] b (.row [(cl e a 0)])) 1 (.int (IntKind.wrap .i64 ((cl b (mIx [.str] b (.row [(cl e a 0)])) 1).toInt+1))))) (
 .row []))) (
 cond ((sl u 0).toInt=1) (
 BU e (.bool q) (.int r) (.int s) f (.int t) (.int (IntKind.wrap .i64 (d+1))) n (.bool o) p (sl u 1) (sl u 2) (.int a) l (.int g) (.int h) (.int i) (.int m) c b) (
 .row []))) (
 .row [])) (
 cond ((sl u 0).toInt=1) (
 BU e (.bool q) (.int r) (.int s) f (.int t) (.int (IntKind.wrap .i64 (d+1))) n (.bool o) p (sl u 1) (sl u 2) (.int a) l (.int g) (.int h) (.int i) (.int m) c b) (
 .row []))))) (
 .row []))) (
 .row [])))))) (
 .row []))) (
 cond ((sl (Bh n e (.bool o) p j (.bool k) c b (.int a) (.int 10) (.int (-1)) (.int (-1))) 0).toInt=1) (
 HE e (.bool q) (.int r) (.int (IntKind.wrap .i64 (s+1))) n (.bool o) p (sl (Bh n e (.bool o) p j (.bool k) c b (.int a) (.int 10) (.int (-1)) (.int (-1))) 1) (sl (Bh n e (.bool o) p j (.bool k) c b (.int a) (.int 10) (.int (-1)) (.int (-1))) 2) (.int a) l c b) (
 .row [])):=by
  subst C;subst E;subst F;subst G;subst H;subst I;subst J;subst K;exact gw rfl rfl (cL (cL rfl (cL (cQ (cL (cQ rfl rfl) (cQ rfl rfl)) (cQ (cL (cQ rfl rfl) (cQ rfl rfl)) (cQ (cL (cQ rfl rfl) (cQ rfl rfl)) (cQ (cQ rfl rfl) (cQ (cL rfl (cL (cQ (cQ (cg rfl (cL (cQ rfl rfl) (cQ rfl rfl)) (cQ rfl rfl)) rfl) (cQ (cQ (cg rfl (cL (cQ rfl rfl) (cQ rfl rfl)) (cQ rfl rfl)) rfl) (cQ (cQ (cg rfl (cL (cQ rfl rfl) (cQ rfl rfl)) (cQ rfl rfl)) rfl) (cQ rfl rfl)))) rfl)) rfl))))) rfl)) (cQ rfl rfl))
theorem vI (d e:D) (f:Bool) (g c:D) (h:Bool) (i a b:D):BE d e (.bool f) g c (.bool h) i a b =
  cond ((len c:Int)=0) (
 .row [.int 1,(.int 0),(.int 1)]) (
 cond ((mIx [.str] a (.row [b]))<0) (
 .row [.int 1,(.int 0),(.int 9)]) (
 .row [.int 1,(cl a (mIx [.str] a (.row [b])) 1),(.int 0)])):=gw rfl rfl (cQ rfl rfl)
theorem tA (a:D) (b:Int) (c:D):O3 a (.int b) c =
 IP c (.int 0) a (.int b):=gw rfl rfl rfl
theorem eL (b:D) (a:Int) (c:D) (d:Int):IP b (.int a) c (.int d) =
  cond (a<len b) (
 cond (a<0) (
 .row []) (
 cond (len b<a) (
 .row []) (
 cond ((sl (E3 (sb b 0 a) (cl b a 0)) 0).toInt=1) (
 cond ((sl (E3 (sb b 0 a) (cl b a 0)) 1).toInt<0) (
 cond ((mIx [.str] c (.row [(cl b a 0)]))<0) (
 cond (d<0) (
 IP b (.int (IntKind.wrap .i64 (a+1))) c (.int 0)) (
 IP b (.int (IntKind.wrap .i64 (a+1))) c (.int d))) (
 cond (d<(cl c (mIx [.str] c (.row [(cl b a 0)])) 1).toInt) (
 IP b (.int (IntKind.wrap .i64 (a+1))) c (cl c (mIx [.str] c (.row [(cl b a 0)])) 1)) (
 IP b (.int (IntKind.wrap .i64 (a+1))) c (.int d)))) (
 IP b (.int (IntKind.wrap .i64 (a+1))) c (.int d))) (
 .row [])))) (
 .row [.int 1,(.int d)]):=gw rfl rfl (cL (cL rfl (cL rfl (cQ rfl rfl))) rfl)
theorem nS (e b v2 v3 v4:D) (v5:Bool) (c v7:D) (v8:Bool) (d a:D):Nk e b v2 v3 v4 (.bool v5) c v7 (.bool v8) d a =
 Vn b (.int 0) v3 v4 (.bool v5) c v7 (.bool v8) d a:=gw rfl rfl rfl
theorem xD (a:D) (d:Int) (v2 v3:D) (v4:Bool) (v5 b:D) (v7:Bool) (v8 c:D):Vn a (.int d) v2 v3 (.bool v4) v5 b (.bool v7) v8 c =
 ST a v2 v3 v4 v5 b v7 v8 c (fun i s=>Vn a (.int i) v2 v3 (.bool v4) v5 b (.bool v7) v8 c) (fun i s=>NY a (.int i) v2 v3 (.bool v4) v5 b (.bool v7) v8 c s) d Ad:=gw rfl rfl (cL (cL rfl (cQ (cQ (cQ (cQ rfl rfl) rfl) rfl) rfl)) rfl)
theorem mQ (b:D) (e:Int) (v2 v3:D) (v4:Bool) (v5 c:D) (v7:Bool) (v8 d a:D):NY b (.int e) v2 v3 (.bool v4) v5 c (.bool v7) v8 d a =
 ST b v2 v3 v4 v5 c v7 v8 d (fun i s=>NY b (.int i) v2 v3 (.bool v4) v5 c (.bool v7) v8 d s) (fun i s=>OO b (.int i) v2 v3 (.bool v4) v5 c (.bool v7) v8 d s) e a:=gw rfl rfl (cL (cL rfl (cQ (cQ (cQ (cQ rfl rfl) rfl) rfl) rfl)) rfl)
theorem mH (b:D) (e:Int) (v2 v3:D) (v4:Bool) (v5 c:D) (v7:Bool) (v8 d a:D):OO b (.int e) v2 v3 (.bool v4) v5 c (.bool v7) v8 d a =
 ST b v2 v3 v4 v5 c v7 v8 d (fun i s=>OO b (.int i) v2 v3 (.bool v4) v5 c (.bool v7) v8 d s) (fun i s=>OW b (.int i) v2 v3 (.bool v4) v5 c (.bool v7) v8 d s) e a:=gw rfl rfl (cL (cL rfl (cQ (cQ (cQ (cQ rfl rfl) rfl) rfl) rfl)) rfl)
theorem nX (b:D) (e:Int) (v2 v3:D) (v4:Bool) (v5 c:D) (v7:Bool) (v8 d a:D):OW b (.int e) v2 v3 (.bool v4) v5 c (.bool v7) v8 d a =
 ST b v2 v3 v4 v5 c v7 v8 d (fun i s=>OW b (.int i) v2 v3 (.bool v4) v5 c (.bool v7) v8 d s) (fun i s=>N9 b (.int i) v2 v3 (.bool v4) v5 c (.bool v7) v8 d s) e a:=gw rfl rfl (cL (cL rfl (cQ (cQ (cQ (cQ rfl rfl) rfl) rfl) rfl)) rfl)
theorem qk (b:D) (e:Int) (v2 v3:D) (v4:Bool) (v5 c:D) (v7:Bool) (v8 d a:D):N9 b (.int e) v2 v3 (.bool v4) v5 c (.bool v7) v8 d a =
 ST b v2 v3 v4 v5 c v7 v8 d (fun i s=>N9 b (.int i) v2 v3 (.bool v4) v5 c (.bool v7) v8 d s) (fun i s=>OA b (.int i) v2 v3 (.bool v4) v5 c (.bool v7) v8 d s) e a:=gw rfl rfl (cL (cL rfl (cQ (cQ (cQ (cQ rfl rfl) rfl) rfl) rfl)) rfl)
theorem xS (b:D) (e:Int) (v2 v3:D) (v4:Bool) (v5 c:D) (v7:Bool) (v8 d a:D):OA b (.int e) v2 v3 (.bool v4) v5 c (.bool v7) v8 d a =
 ST b v2 v3 v4 v5 c v7 v8 d (fun i s=>OA b (.int i) v2 v3 (.bool v4) v5 c (.bool v7) v8 d s) (fun i s=>Ou b (.int i) v2 v3 (.bool v4) v5 c (.bool v7) v8 d s) e a:=gw rfl rfl (cL (cL rfl (cQ (cQ (cQ (cQ rfl rfl) rfl) rfl) rfl)) rfl)
theorem ua (b:D) (e:Int) (v2 v3:D) (v4:Bool) (v5 c:D) (v7:Bool) (v8 d a:D):Ou b (.int e) v2 v3 (.bool v4) v5 c (.bool v7) v8 d a =
 ST b v2 v3 v4 v5 c v7 v8 d (fun i s=>Ou b (.int i) v2 v3 (.bool v4) v5 c (.bool v7) v8 d s) (fun i s=>O6 b (.int i) v2 v3 (.bool v4) v5 c (.bool v7) v8 d s) e a:=gw rfl rfl (cL (cL rfl (cQ (cQ (cQ (cQ rfl rfl) rfl) rfl) rfl)) rfl)
theorem qZ (b:D) (e:Int) (v2 v3:D) (v4:Bool) (v5 c:D) (v7:Bool) (v8 d a:D):O6 b (.int e) v2 v3 (.bool v4) v5 c (.bool v7) v8 d a =
 ST b v2 v3 v4 v5 c v7 v8 d (fun i s=>O6 b (.int i) v2 v3 (.bool v4) v5 c (.bool v7) v8 d s) (fun i s=>OS b (.int i) v2 v3 (.bool v4) v5 c (.bool v7) v8 d s) e a:=gw rfl rfl (cL (cL rfl (cQ (cQ (cQ (cQ rfl rfl) rfl) rfl) rfl)) rfl)
theorem oN (b:D) (e:Int) (v2 v3:D) (v4:Bool) (v5 c:D) (v7:Bool) (v8 d a:D):OS b (.int e) v2 v3 (.bool v4) v5 c (.bool v7) v8 d a =
 ST b v2 v3 v4 v5 c v7 v8 d (fun i s=>OS b (.int i) v2 v3 (.bool v4) v5 c (.bool v7) v8 d s) (fun i s=>Ki b (.int i) v2 v3 (.bool v4) v5 c (.bool v7) v8 d s) e a:=gw rfl rfl (cL (cL rfl (cQ (cQ (cQ (cQ rfl rfl) rfl) rfl) rfl)) rfl)
theorem kV (c:D) (b:Int) (d e:D) (f:Bool) (g h:D) (i:Bool) (j k a:D):Ki c (.int b) d e (.bool f) g h (.bool i) j k a =
  cond (b<len c) (
 cond (b<0) (
 .row []) (
 cond ((sl (BE d e (.bool f) g h (.bool i) j k (cl c b 0)) 0).toInt=1) (
 cond ((sl (BE d e (.bool f) g h (.bool i) j k (cl c b 0)) 2).toInt=0) (
 .row []) (
 Ki c (.int (IntKind.wrap .i64 (b+1))) d e (.bool f) g h (.bool i) j k a)) (
 .row []))) (
 .row [.int 1,a]):=gw rfl rfl (cL (cL rfl (cQ (cQ rfl rfl) rfl)) rfl)
theorem uE (a b:D) (c:Int) (d:D):EC a b (.int c) d =
 Ms d (.int 0) a b (.int c):=gw rfl rfl rfl
theorem eE (b:D) (a:Int) (c e:D) (d:Int):Ms b (.int a) c e (.int d) =
  cond (a<len b) (
 cond (a<0) (
 .row []) (
 cond (len b<a) (
 .row []) (
 cond ((sl (E3 (sb b 0 a) (cl b a 0)) 0).toInt=1) (
 cond ((sl (E3 (sb b 0 a) (cl b a 0)) 1).toInt<0) (
 cond ((mIx [.str] c (.row [(cl b a 0)]))<0) (
 cond (0=d) (
 .row [.int 1,(cl b a 0)]) (
 Ms b (.int (IntKind.wrap .i64 (a+1))) c e (.int d))) (
 cond ((cl c (mIx [.str] c (.row [(cl b a 0)])) 1).toInt=d) (
 .row [.int 1,(cl b a 0)]) (
 Ms b (.int (IntKind.wrap .i64 (a+1))) c e (.int d)))) (
 Ms b (.int (IntKind.wrap .i64 (a+1))) c e (.int d))) (
 .row [])))) (
 .row [.int 2]):=gw rfl rfl (cL (cL rfl (cL rfl (cQ (cL (cL (cQ rfl rfl) (cQ rfl rfl)) rfl) rfl))) rfl)
theorem oY (a b c:D):D9 a b c =
  cond ((sl (EH a b c) 0).toInt=1) (
 cond ((sl (EH a b c) 1).toBool) (
 cond ((sl (BF a b c) 0).toInt=1) (
 cond ((sl (eH a b c) 0).toInt=1) (
 tt a b c) (
 .row [])) (
 cond ((sl (BF a b c) 0).toInt=2) (
 cond ((sl (Nk a b c (sl (BF a b c) 1) (sl (BF a b c) 2) (sl (BF a b c) 3) (sl (BF a b c) 4) (sl (BF a b c) 5) (sl (BF a b c) 6) (sl (BF a b c) 7) (sl (BF a b c) 8)) 0).toInt=1) (
 Oc a b c (sl (BF a b c) 1) (sl (BF a b c) 2) (sl (BF a b c) 3) (sl (BF a b c) 4) (sl (BF a b c) 5) (sl (BF a b c) 6) (sl (BF a b c) 7) (sl (BF a b c) 8) (sl (Nk a b c (sl (BF a b c) 1) (sl (BF a b c) 2) (sl (BF a b c) 3) (sl (BF a b c) 4) (sl (BF a b c) 5) (sl (BF a b c) 6) (sl (BF a b c) 7) (sl (BF a b c) 8)) 1)) (
 .row [])) (
 .row []))) (
 .row [.int 1,B0,(.bool true),(.int 2)])) (
 .row []):=gw rfl rfl (cQ (cg rfl (cQ (cQ rfl rfl) (cQ (cQ rfl rfl) rfl)) rfl) rfl)
theorem vJ (g c d v3 v4:D) (v5:Bool) (v6 e:D) (v8:Bool) (f a b:D):Oc g c d v3 v4 (.bool v5) v6 e (.bool v8) f a b =
 CT c v3 v4 v5 v6 e v8 f a b (.row [.int 1,B0,(.bool true),(.int 0)]) Ad (fun x=>Q6 g c d v3 v4 (.bool v5) v6 e (.bool v8) x f a b) d:=gw rfl rfl (cg rfl rfl (cQ (cL (cQ (cL (cQ rfl (cL (cQ (cQ rfl (cQ rfl rfl)) rfl) rfl)) (cQ rfl (cL (cQ (cQ rfl (cQ rfl rfl)) rfl) rfl))) rfl) (cQ (cL (cQ rfl (cL (cQ (cQ rfl (cQ rfl rfl)) rfl) rfl)) (cQ rfl (cL (cQ (cQ rfl (cQ rfl rfl)) rfl) rfl))) rfl)) rfl))
theorem uu (h e d v3 v4:D) (v5:Bool) (v6 f:D) (v8:Bool) (g a b c:D):Q6 h e d v3 v4 (.bool v5) v6 f (.bool v8) g a b c =
 CT e v3 v4 v5 v6 f v8 a b c (.row [.int 1,(ad Ad (.row [d])),(.bool false),(.int 0)]) (ad Ad (.row [d])) (fun x=>SA h e d v3 v4 (.bool v5) v6 f (.bool v8) g x a b c) g:=gw rfl rfl (cg rfl rfl (cQ (cL (cQ (cL (cQ rfl (cL (cQ (cQ rfl (cQ rfl rfl)) rfl) rfl)) (cQ rfl (cL (cQ (cQ rfl (cQ rfl rfl)) rfl) rfl))) rfl) (cQ (cL (cQ rfl (cL (cQ (cQ rfl (cQ rfl rfl)) rfl) rfl)) (cQ rfl (cL (cQ (cQ rfl (cQ rfl rfl)) rfl) rfl))) rfl)) rfl))
theorem oo (i g e v3 v4:D) (v5:Bool) (v6 h:D) (v8:Bool) (f a b c d:D):SA i g e v3 v4 (.bool v5) v6 h (.bool v8) f a b c d =
 CT g v3 v4 v5 v6 h v8 b c d (.row [.int 1,(ad (ad Ad (.row [e])) (.row [f])),(.bool false),(.int 0)]) (ad (ad Ad (.row [e])) (.row [f])) (fun x=>RJ i g e v3 v4 (.bool v5) v6 h (.bool v8) f a x b c d) a:=gw rfl rfl (cg rfl rfl (cQ (cL (cQ (cL (cQ rfl (cL (cQ (cQ rfl (cQ rfl rfl)) rfl) rfl)) (cQ rfl (cL (cQ (cQ rfl (cQ rfl rfl)) rfl) rfl))) rfl) (cQ (cL (cQ rfl (cL (cQ (cQ rfl (cQ rfl rfl)) rfl) rfl)) (cQ rfl (cL (cQ (cQ rfl (cQ rfl rfl)) rfl) rfl))) rfl)) rfl))
theorem ru (j h f v3 v4:D) (v5:Bool) (v6 i:D) (v8:Bool) (g a b c d e:D):RJ j h f v3 v4 (.bool v5) v6 i (.bool v8) g a b c d e =
 CT h v3 v4 v5 v6 i v8 c d e (.row [.int 1,(ad (ad (ad Ad (.row [f])) (.row [g])) (.row [a])),(.bool false),(.int 0)]) (ad (ad (ad Ad (.row [f])) (.row [g])) (.row [a])) (fun x=>Q0 j h f v3 v4 (.bool v5) v6 i (.bool v8) g a b x c d e) b:=gw rfl rfl (cg rfl rfl (cQ (cL (cQ (cL (cQ rfl (cL (cQ (cQ rfl (cQ rfl rfl)) rfl) rfl)) (cQ rfl (cL (cQ (cQ rfl (cQ rfl rfl)) rfl) rfl))) rfl) (cQ (cL (cQ rfl (cL (cQ (cQ rfl (cQ rfl rfl)) rfl) rfl)) (cQ rfl (cL (cQ (cQ rfl (cQ rfl rfl)) rfl) rfl))) rfl)) rfl))
theorem nJ (k i g v3 v4:D) (v5:Bool) (v6 j:D) (v8:Bool) (h a b c d e f:D):Q0 k i g v3 v4 (.bool v5) v6 j (.bool v8) h a b c d e f =
 CT i v3 v4 v5 v6 j v8 d e f (.row [.int 1,(ad (ad (ad (ad Ad (.row [g])) (.row [h])) (.row [a])) (.row [b])),(.bool false),(.int 0)]) (ad (ad (ad (ad Ad (.row [g])) (.row [h])) (.row [a])) (.row [b])) (fun x=>Sw k i g v3 v4 (.bool v5) v6 j (.bool v8) h a b c x d e f) c:=gw rfl rfl (cg rfl rfl (cQ (cL (cQ (cL (cQ rfl (cL (cQ (cQ rfl (cQ rfl rfl)) rfl) rfl)) (cQ rfl (cL (cQ (cQ rfl (cQ rfl rfl)) rfl) rfl))) rfl) (cQ (cL (cQ rfl (cL (cQ (cQ rfl (cQ rfl rfl)) rfl) rfl)) (cQ rfl (cL (cQ (cQ rfl (cQ rfl rfl)) rfl) rfl))) rfl)) rfl))
theorem qW (l j h v3 v4:D) (v5:Bool) (v6 k:D) (v8:Bool) (i a b c d e f g:D):Sw l j h v3 v4 (.bool v5) v6 k (.bool v8) i a b c d e f g =
 CT j v3 v4 v5 v6 k v8 e f g (.row [.int 1,(ad (ad (ad (ad (ad Ad (.row [h])) (.row [i])) (.row [a])) (.row [b])) (.row [c])),(.bool false),(.int 0)]) (ad (ad (ad (ad (ad Ad (.row [h])) (.row [i])) (.row [a])) (.row [b])) (.row [c])) (fun x=>Ss l j h v3 v4 (.bool v5) v6 k (.bool v8) i a b c d x e f g) d:=gw rfl rfl (cg rfl rfl (cQ (cL (cQ (cL (cQ rfl (cL (cQ (cQ rfl (cQ rfl rfl)) rfl) rfl)) (cQ rfl (cL (cQ (cQ rfl (cQ rfl rfl)) rfl) rfl))) rfl) (cQ (cL (cQ rfl (cL (cQ (cQ rfl (cQ rfl rfl)) rfl) rfl)) (cQ rfl (cL (cQ (cQ rfl (cQ rfl rfl)) rfl) rfl))) rfl)) rfl))
theorem pr (l j h v3 v4:D) (v5:Bool) (v6 k:D) (v8:Bool) (i a b c d e f g v17:D):Ss l j h v3 v4 (.bool v5) v6 k (.bool v8) i a b c d e f g v17 =
 CT j v3 v4 v5 v6 k v8 f g v17 (.row [.int 1,(ad (ad (ad (ad (ad (ad Ad (.row [h])) (.row [i])) (.row [a])) (.row [b])) (.row [c])) (.row [d])),(.bool false),(.int 0)]) (ad (ad (ad (ad (ad (ad Ad (.row [h])) (.row [i])) (.row [a])) (.row [b])) (.row [c])) (.row [d])) (fun x=>Rd l j h v3 v4 (.bool v5) v6 k (.bool v8) i a b c d e x f g v17) e:=gw rfl rfl (cg rfl rfl (cQ (cL (cQ (cL (cQ rfl (cL (cQ (cQ rfl (cQ rfl rfl)) rfl) rfl)) (cQ rfl (cL (cQ (cQ rfl (cQ rfl rfl)) rfl) rfl))) rfl) (cQ (cL (cQ rfl (cL (cQ (cQ rfl (cQ rfl rfl)) rfl) rfl)) (cQ rfl (cL (cQ (cQ rfl (cQ rfl rfl)) rfl) rfl))) rfl)) rfl))
theorem wy (m k i v3 v4:D) (v5:Bool) (v6 l:D) (v8:Bool) (j a b c d e f g v17 h:D):Rd m k i v3 v4 (.bool v5) v6 l (.bool v8) j a b c d e f g v17 h =
 CT k v3 v4 v5 v6 l v8 g v17 h (.row [.int 1,(ad (ad (ad (ad (ad (ad (ad Ad (.row [i])) (.row [j])) (.row [a])) (.row [b])) (.row [c])) (.row [d])) (.row [e])),(.bool false),(.int 0)]) (ad (ad (ad (ad (ad (ad (ad Ad (.row [i])) (.row [j])) (.row [a])) (.row [b])) (.row [c])) (.row [d])) (.row [e])) (fun x=>MB m k i v3 v4 (.bool v5) v6 l (.bool v8) j a b c d e f x g v17 h) f:=gw rfl rfl (cg rfl rfl (cQ (cL (cQ (cL (cQ rfl (cL (cQ (cQ rfl (cQ rfl rfl)) rfl) rfl)) (cQ rfl (cL (cQ (cQ rfl (cQ rfl rfl)) rfl) rfl))) rfl) (cQ (cL (cQ rfl (cL (cQ (cQ rfl (cQ rfl rfl)) rfl) rfl)) (cQ rfl (cL (cQ (cQ rfl (cQ rfl rfl)) rfl) rfl))) rfl)) rfl))
theorem fP (n l j v3 v4:D) (v5:Bool) (v6 m:D) (v8:Bool) (k a b c d e f g v17 h i:D):MB n l j v3 v4 (.bool v5) v6 m (.bool v8) k a b c d e f g v17 h i =
 CT l v3 v4 v5 v6 m v8 v17 h i (.row [.int 1,(ad (ad (ad (ad (ad (ad (ad (ad Ad (.row [j])) (.row [k])) (.row [a])) (.row [b])) (.row [c])) (.row [d])) (.row [e])) (.row [f])),(.bool false),(.int 0)]) (ad (ad (ad (ad (ad (ad (ad (ad Ad (.row [j])) (.row [k])) (.row [a])) (.row [b])) (.row [c])) (.row [d])) (.row [e])) (.row [f])) (fun x=>TL n l j v3 v4 (.bool v5) v6 m (.bool v8) k a b c d e f g x v17 h i) g:=gw rfl rfl (cg rfl rfl (cQ (cL (cQ (cL (cQ rfl (cL (cQ (cQ rfl (cQ rfl rfl)) rfl) rfl)) (cQ rfl (cL (cQ (cQ rfl (cQ rfl rfl)) rfl) rfl))) rfl) (cQ (cL (cQ rfl (cL (cQ (cQ rfl (cQ rfl rfl)) rfl) rfl)) (cQ rfl (cL (cQ (cQ rfl (cQ rfl rfl)) rfl) rfl))) rfl)) rfl))
theorem pd (a:D) (c:Bool) (b:D) (d:Bool):NU a (.bool c) b (.bool d) =
  cond ((len a:Int)=(len b:Int)) (
 VA a (.bool c) b (.bool d) (.int 0)) (
 .row [.int 1,(.bool false)]):=gw rfl rfl (cQ rfl rfl)
theorem fD (b:D) (d:Bool) (c:D) (e:Bool) (a:Int):VA b (.bool d) c (.bool e) (.int a) =
  cond (a<len b) (
 cond (a<0) (
 .row []) (
 cond (a<len c) (
 cond (D.strEq (cl b a 0) (cl c a 0)) (
 VA b (.bool d) c (.bool e) (.int (IntKind.wrap .i64 (a+1)))) (
 .row [.int 1,(.bool false)])) (
 .row []))) (
 .row [.int 1,(.bool true)]):=gw rfl rfl rfl
theorem wz (o e:D) (p:Int) (q:D) (h c:Int) (r n:Bool) (s g d:Int) (a i j k l:D) (f m b:Int):LK o e (.int p) q (.int h) (.int c) (.bool r) (.bool n) (.int s) (.int g) (.int d) a i j k l (.int f) (.int m) (.int b) =
  cond (h=1) (
 .row [.int 1,(.int c)]) (
 cond (h=2) (
 .row [.int 1,(.int c)]) (
 cond (h=3) (
 cond (n) (
 .row [.int 1,(.int 40)]) (
 cond (g<0) (
 .row [.int 1,(.int 0)]) (
 cond (g<34359738368) (
 cond (g<128) (
 .row [.int 1,(.int 8)]) (
 cond ((ari .shr .i64 g 7)<128) (
 .row [.int 1,(.int 16)]) (
 cond ((ari .shr .i64 (ari .shr .i64 g 7) 7)<128) (
 .row [.int 1,(.int 24)]) (
 cond ((ari .shr .i64 (ari .shr .i64 (ari .shr .i64 g 7) 7) 7)<128) (
 .row [.int 1,(.int 32)]) (
 cond ((ari .shr .i64 (ari .shr .i64 (ari .shr .i64 (ari .shr .i64 g 7) 7) 7) 7)<128) (
 .row [.int 1,(.int 40)]) (
 .row [.int 1,(.int 0)])))))) (
 .row [.int 1,(.int 0)])))) (
 cond (h=4) (
 cond ((sl (Bm e) 0).toInt=1) (
 cond (d<(-1048576)) (
 .row [.int 1,(.int 0)]) (
 cond ((sl (BB (ad (ad Ad (.row [(.bool (!decide (1048576<d)))])) (.row [(.bool (!decide (4<(len a:Int))))])) (.bool false) (.bool false)) 0).toInt=1) (
 cond ((sl (BB (ad (ad Ad (.row [(.bool (!decide (1048576<d)))])) (.row [(.bool (!decide (4<(len a:Int))))])) (.bool false) (.bool false)) 1).toInt<0) (
 cond ((sl (Ul a Ad) 0).toInt=1) (
 cond ((sl (Ul a Ad) 1).toInt<0) (
 cond (a.isNil) (
 cond ((sl (Es (AA 0 0) (sl (Bm e) 1) (.int 0) (.bool false) B0 (.bool true)) 0).toInt=1) (
 .row [.int 1,(.int 0)]) (
 cond ((sl (Es (AA 0 0) (sl (Bm e) 1) (.int 0) (.bool false) B0 (.bool true)) 0).toInt=2) (
 cond ((sl (Es (AA 0 0) (sl (Bm e) 1) (.int 0) (.bool false) B0 (.bool true)) 1).toBool) (
 .row [.int 1,(.int 0)]) (
 cond ((sl (DX (.int d) a (sl (Bm e) 1) (.bool true)) 0).toInt=1) (
 cond ((sl (DX (.int d) a (sl (Bm e) 1) (.bool false)) 0).toInt=1) (
 .row [.int 1,(.int (IntKind.wrap .i64 (8*(sl (DX (.int d) a (sl (Bm e) 1) (.bool false)) 1).toInt)))]) (
 .row [])) (
 .row []))) (
 .row []))) (
 cond ((len a:Int)<1048576) (
 cond ((sl (Es (AA 0 0) (sl (Bm e) 1) (.int 0) (.bool false) (ct Ad a) (.bool (false&&decide ((len a:Int)=0)))) 0).toInt=1) (
 .row [.int 1,(.int 0)]) (
 cond ((sl (Es (AA 0 0) (sl (Bm e) 1) (.int 0) (.bool false) (ct Ad a) (.bool (false&&decide ((len a:Int)=0)))) 0).toInt=2) (
 cond ((sl (Es (AA 0 0) (sl (Bm e) 1) (.int 0) (.bool false) (ct Ad a) (.bool (false&&decide ((len a:Int)=0)))) 1).toBool) (
 .row [.int 1,(.int 0)]) (
 cond ((sl (DX (.int d) a (sl (Bm e) 1) (.bool true)) 0).toInt=1) (
 cond ((sl (DX (.int d) a (sl (Bm e) 1) (.bool false)) 0).toInt=1) (
 .row [.int 1,(.int (IntKind.wrap .i64 (8*(sl (DX (.int d) a (sl (Bm e) 1) (.bool false)) 1).toInt)))]) (
 .row [])) (
 .row []))) (
 .row []))) (
 cond ((sl (BB (ad (ad Ad (.row [(.bool (!decide (1048576<d)))])) (.row [(.bool false)])) (.bool false) (.bool false)) 0).toInt=1) (
 cond ((sl (BB (ad (ad Ad (.row [(.bool (!decide (1048576<d)))])) (.row [(.bool false)])) (.bool false) (.bool false)) 1).toInt<0) (
 .row []) (
 .row [.int 1,(.int 0)])) (
 .row [])))) (
 .row [.int 1,(.int 0)])) (
 .row [])) (
 .row [.int 1,(.int 0)])) (
 .row []))) (
 .row [])) (
 cond (h=5) (
 .row [.int 1,(.int (IntKind.wrap .i64 (8*(IntKind.wrap .i64 (g+1)))))]) (
 cond (h=6) (
 .row [.int 1,(.int (IntKind.wrap .i64 (8*g)))]) (
 cond (h=10) (
 cond (c<8) (
 cond (c=2) (
 cond (b<0) (
 cond (0<(IntKind.wrap .i64 (c-8))) (
 .row [.int 1,(.int (IntKind.wrap .i64 (0+(IntKind.wrap .i64 (c-8)))))]) (
 .row [.int 1,(.int 0)])) (
 cond (335544320<b) (
 cond (0<(IntKind.wrap .i64 (c-8))) (
 .row [.int 1,(.int (IntKind.wrap .i64 (0+(IntKind.wrap .i64 (c-8)))))]) (
 .row [.int 1,(.int 0)])) (
 cond (0<(IntKind.wrap .i64 (c-8))) (
 .row [.int 1,(.int (IntKind.wrap .i64 ((IntKind.wrap .i64 ((IntKind.wrap .i64 ((ari .quo .i64 (IntKind.wrap .i64 ((IntKind.wrap .i64 (b+c))-1)) c)*c))-b))+(IntKind.wrap .i64 (c-8)))))]) (
 .row [.int 1,(.int (IntKind.wrap .i64 ((IntKind.wrap .i64 ((IntKind.wrap .i64 ((ari .quo .i64 (IntKind.wrap .i64 ((IntKind.wrap .i64 (b+c))-1)) c)*c))-b))+0)))])))) (
 cond (c=4) (
 cond (b<0) (
 cond (0<(IntKind.wrap .i64 (c-8))) (
 .row [.int 1,(.int (IntKind.wrap .i64 (0+(IntKind.wrap .i64 (c-8)))))]) (
 .row [.int 1,(.int 0)])) (
 cond (335544320<b) (
 cond (0<(IntKind.wrap .i64 (c-8))) (
 .row [.int 1,(.int (IntKind.wrap .i64 (0+(IntKind.wrap .i64 (c-8)))))]) (
 .row [.int 1,(.int 0)])) (
 cond (0<(IntKind.wrap .i64 (c-8))) (
 .row [.int 1,(.int (IntKind.wrap .i64 ((IntKind.wrap .i64 ((IntKind.wrap .i64 ((ari .quo .i64 (IntKind.wrap .i64 ((IntKind.wrap .i64 (b+c))-1)) c)*c))-b))+(IntKind.wrap .i64 (c-8)))))]) (
 .row [.int 1,(.int (IntKind.wrap .i64 ((IntKind.wrap .i64 ((IntKind.wrap .i64 ((ari .quo .i64 (IntKind.wrap .i64 ((IntKind.wrap .i64 (b+c))-1)) c)*c))-b))+0)))])))) (
 cond (0<(IntKind.wrap .i64 (c-8))) (
 .row [.int 1,(.int (IntKind.wrap .i64 (0+(IntKind.wrap .i64 (c-8)))))]) (
 .row [.int 1,(.int 0)])))) (
 cond (b<0) (
 cond (0<(IntKind.wrap .i64 (c-8))) (
 .row [.int 1,(.int (IntKind.wrap .i64 (0+(IntKind.wrap .i64 (c-8)))))]) (
 .row [.int 1,(.int 0)])) (
 cond (335544320<b) (
 cond (0<(IntKind.wrap .i64 (c-8))) (
 .row [.int 1,(.int (IntKind.wrap .i64 (0+(IntKind.wrap .i64 (c-8)))))]) (
 .row [.int 1,(.int 0)])) (
 cond (0<(IntKind.wrap .i64 (c-8))) (
 .row [.int 1,(.int (IntKind.wrap .i64 ((IntKind.wrap .i64 ((IntKind.wrap .i64 ((ari .quo .i64 (IntKind.wrap .i64 ((IntKind.wrap .i64 (b+8))-1)) 8)*8))-b))+(IntKind.wrap .i64 (c-8)))))]) (
 .row [.int 1,(.int (IntKind.wrap .i64 ((IntKind.wrap .i64 ((IntKind.wrap .i64 ((ari .quo .i64 (IntKind.wrap .i64 ((IntKind.wrap .i64 (b+8))-1)) 8)*8))-b))+0)))]))))) (
 cond (h=11) (
 cond (f<1) (
 .row [.int 1,(.int 0)]) (
 cond (3<f) (
 .row [.int 1,(.int 0)]) (
 cond ((IntKind.wrap .i64 (f-1))=0) (
 .row [.int 1,(.int 16)]) (
 cond ((IntKind.wrap .i64 (f-1))=1) (
 .row [.int 1,(.int 16)]) (
 cond ((IntKind.wrap .i64 (f-1))=2) (
 .row [.int 1,(.int 32)]) (
 .row [])))))) (
 .row [.int 1,(.int 0)])))))))):=gw rfl rfl (cQ rfl (cQ rfl (cQ (cg rfl rfl (cL rfl (cL rfl rfl))) (cQ (cQ (cL rfl (cQ (cL (cQ (cL (cg rfl (cQ rfl (cQ (cg rfl rfl (cQ (cQ rfl rfl) rfl)) rfl)) (cL (cQ rfl (cQ (cg rfl rfl (cQ (cQ rfl rfl) rfl)) rfl)) (cQ (cL rfl rfl) rfl))) rfl) rfl) rfl) rfl)) rfl) (cQ rfl (cQ rfl (cQ (cL (cQ (cL rfl (cL rfl rfl)) (cQ (cL rfl (cL rfl rfl)) rfl)) (cL rfl (cL rfl rfl))) (cQ (cL rfl (cL rfl (cQ rfl (cQ rfl (cQ rfl rfl))))) rfl))))))))
theorem eG (h b:D) (d:Int) (i e j:D) (a:Int) {c g f:D} (k:Da (.int a) (.int 0) (cl e d 1)=f) (l:LK h b (.int d) (cl b a 0) (cl b a 1) (cl b a 2) (cl b a 3) (cl b a 4) (cl b a 5) (cl b a 6) (cl b a 7) (cl b a 8) (cl b a 9) (cl b a 10) (cl b a 11) (cl b a 12) (cl b a 13) (cl b a 14) (sl f 1)=g) (m:LK h b (.int d) (cl b a 0) (cl b a 1) (cl b a 2) (cl b a 3) (cl b a 4) (cl b a 5) (cl b a 6) (cl b a 7) (cl b a 8) (cl b a 9) (cl b a 10) (cl b a 11) (cl b a 12) (cl b a 13) (cl b a 14) (.int 0)=c):MZ h b (.int d) i e j (.int a) =
  cond ((sl (Et i e j) 0).toInt=1) (
 cond ((sl (Et i e j) 4).toBool) (
 cond (a<0) (
 .row []) (
 cond (a<len b) (
 cond ((sl c 0).toInt=1) (
 cond (0<(IntKind.wrap .i64 ((ari .quo .i64 (IntKind.wrap .i64 ((IntKind.wrap .i64 ((IntKind.wrap .i64 (0+(sl c 1).toInt))+8))-1)) 8)-1))) (
 .row [.int 1,(.int (IntKind.wrap .i64 ((ari .quo .i64 (IntKind.wrap .i64 ((IntKind.wrap .i64 ((IntKind.wrap .i64 (0+(sl c 1).toInt))+8))-1)) 8)-1)))]) (
 .row [.int 1,(.int 0)])) (
 .row [])) (
 .row []))) (
 cond (d<0) (
 cond (a<0) (
 .row []) (
 cond (a<len b) (
 cond ((sl c 0).toInt=1) (
 cond (0<(IntKind.wrap .i64 ((ari .quo .i64 (IntKind.wrap .i64 ((IntKind.wrap .i64 ((IntKind.wrap .i64 (0+(sl c 1).toInt))+8))-1)) 8)-1))) (
 .row [.int 1,(.int (IntKind.wrap .i64 ((ari .quo .i64 (IntKind.wrap .i64 ((IntKind.wrap .i64 ((IntKind.wrap .i64 (0+(sl c 1).toInt))+8))-1)) 8)-1)))]) (
 .row [.int 1,(.int 0)])) (
 .row [])) (
 .row []))) (
 cond (d<len e) (
 cond (a<0) (
 .row []) (
 cond (a<len (cl e d 1)) (
 cond ((sl f 0).toInt=1) (
 cond (a<len b) (
 cond ((sl g 0).toInt=1) (
 cond (0<(IntKind.wrap .i64 ((ari .quo .i64 (IntKind.wrap .i64 ((IntKind.wrap .i64 ((IntKind.wrap .i64 ((sl f 1).toInt+(sl g 1).toInt))+8))-1)) 8)-1))) (
 .row [.int 1,(.int (IntKind.wrap .i64 ((ari .quo .i64 (IntKind.wrap .i64 ((IntKind.wrap .i64 ((IntKind.wrap .i64 ((sl f 1).toInt+(sl g 1).toInt))+8))-1)) 8)-1)))]) (
 .row [.int 1,(.int 0)])) (
 .row [])) (
 .row [])) (
 cond ((sl f 0).toInt=2) (
 cond (a<len b) (
 cond ((sl c 0).toInt=1) (
 cond (0<(IntKind.wrap .i64 ((ari .quo .i64 (IntKind.wrap .i64 ((IntKind.wrap .i64 ((IntKind.wrap .i64 (0+(sl c 1).toInt))+8))-1)) 8)-1))) (
 .row [.int 1,(.int (IntKind.wrap .i64 ((ari .quo .i64 (IntKind.wrap .i64 ((IntKind.wrap .i64 ((IntKind.wrap .i64 (0+(sl c 1).toInt))+8))-1)) 8)-1)))]) (
 .row [.int 1,(.int 0)])) (
 .row [])) (
 .row [])) (
 .row []))) (
 cond (a<len b) (
 cond ((sl c 0).toInt=1) (
 cond (0<(IntKind.wrap .i64 ((ari .quo .i64 (IntKind.wrap .i64 ((IntKind.wrap .i64 ((IntKind.wrap .i64 (0+(sl c 1).toInt))+8))-1)) 8)-1))) (
 .row [.int 1,(.int (IntKind.wrap .i64 ((ari .quo .i64 (IntKind.wrap .i64 ((IntKind.wrap .i64 ((IntKind.wrap .i64 (0+(sl c 1).toInt))+8))-1)) 8)-1)))]) (
 .row [.int 1,(.int 0)])) (
 .row [])) (
 .row [])))) (
 cond (a<0) (
 .row []) (
 cond (a<len b) (
 cond ((sl c 0).toInt=1) (
 cond (0<(IntKind.wrap .i64 ((ari .quo .i64 (IntKind.wrap .i64 ((IntKind.wrap .i64 ((IntKind.wrap .i64 (0+(sl c 1).toInt))+8))-1)) 8)-1))) (
 .row [.int 1,(.int (IntKind.wrap .i64 ((ari .quo .i64 (IntKind.wrap .i64 ((IntKind.wrap .i64 ((IntKind.wrap .i64 (0+(sl c 1).toInt))+8))-1)) 8)-1)))]) (
 .row [.int 1,(.int 0)])) (
 .row [])) (
 .row [])))))) (
 .row []):=by
  subst m;subst l;subst k;exact gw rfl rfl (cQ (cg rfl (cL rfl (cL (cQ rfl rfl) rfl)) (cL (cL rfl (cL (cQ rfl rfl) rfl)) (cL (cL rfl (cL (cQ (cL (cQ rfl rfl) rfl) (cQ (cL (cQ rfl rfl) rfl) rfl)) (cL (cQ rfl rfl) rfl))) (cL rfl (cL (cQ rfl rfl) rfl))))) rfl)
theorem XD (a b c:D) (d:Int) (e f g:D):LU a b c (.int d) e f g =
 Nm (.int 0) a (.int 0) b c (.int d) e f g:=gw rfl rfl rfl
theorem R4 (h:Int) (i:D) (a:Int) (b c:D) (d:Int) (e f g:D):Nm (.int h) i (.int a) b c (.int d) e f g =
  cond (a<len i) (
 cond (a<0) (
 .row []) (
 cond ((sl (MZ b c (.int d) e f g (.int a)) 0).toInt=1) (
 cond (h<(sl (MZ b c (.int d) e f g (.int a)) 1).toInt) (
 Nm (sl (MZ b c (.int d) e f g (.int a)) 1) i (.int (IntKind.wrap .i64 (a+1))) b c (.int d) e f g) (
 Nm (.int h) i (.int (IntKind.wrap .i64 (a+1))) b c (.int d) e f g)) (
 .row []))) (
 .row [.int 1,(.int h)]):=gw rfl rfl (cL (cL rfl (cQ rfl rfl)) rfl)
theorem ZO (a b c d e:D):My a b c d e =
 I5 (.int 0) a (.int 0) b c d e:=gw rfl rfl rfl
theorem LZ (f:Int) (b:D) (a:Int) (g c d e:D):I5 (.int f) b (.int a) g c d e =
  cond (a<len b) (
 cond (a<0) (
 .row []) (
 cond ((mIx [.str] g (.row [(cl b a 0)]))<0) (
 cond (f<0) (
 I5 (.int 0) b (.int (IntKind.wrap .i64 (a+1))) g c d e) (
 I5 (.int f) b (.int (IntKind.wrap .i64 (a+1))) g c d e)) (
 cond ((sl (LU (cl b a 1) (cl b a 0) (cl b a 1) (.int a) c d e) 0).toInt=1) (
 cond (f<(sl (LU (cl b a 1) (cl b a 0) (cl b a 1) (.int a) c d e) 1).toInt) (
 I5 (sl (LU (cl b a 1) (cl b a 0) (cl b a 1) (.int a) c d e) 1) b (.int (IntKind.wrap .i64 (a+1))) g c d e) (
 I5 (.int f) b (.int (IntKind.wrap .i64 (a+1))) g c d e)) (
 .row [])))) (
 .row [.int 1,(.int f)]):=gw rfl rfl (cL (cL rfl (cL rfl (cQ rfl rfl))) rfl)
theorem wc (h b a:D) {g c e f d:D} (i:BF h b a=g) (j:Nk h b a (sl g 1) (sl g 2) (sl g 3) (sl g 4) (sl g 5) (sl g 6) (sl g 7) (sl g 8)=c) (k:My b (sl c 1) h b a=e) (l:My b Ad h b a=f) (m:Do h b a=d):EU h b a =
  cond ((sl (EH h b a) 0).toInt=1) (
 cond ((sl (EH h b a) 1).toBool) (
 cond ((sl g 0).toInt=1) (
 cond ((sl (eH h b a) 0).toInt=1) (
 cond ((sl (Ax b a) 0).toInt=1) (
 cond ((sl (Ax b a) 1).toInt<0) (
 cond ((sl d 0).toInt=1) (
 cond ((sl f 0).toInt=1) (
 cond ((mIx [.str] Ad (.row [a]))<0) (
 .row [.int 1,(sl f 1),(.int 0),(.int 0),(.int 0)]) (
 .row [.int 1,(sl f 1),(.int 0),(cl Ad (mIx [.str] Ad (.row [a])) 1),(.int 0)])) (
 .row [])) (
 cond ((sl d 0).toInt=2) (
 cond ((sl d 4).toBool) (
 cond ((sl f 0).toInt=1) (
 cond ((mIx [.str] Ad (.row [a]))<0) (
 .row [.int 1,(sl f 1),(.int 0),(.int 0),(.int 0)]) (
 .row [.int 1,(sl f 1),(.int 0),(cl Ad (mIx [.str] Ad (.row [a])) 1),(.int 0)])) (
 .row [])) (
 cond (0<(len b:Int)) (
 cond ((mIx [.str] (sl d 12) (.row [(cl b 0 0)]))<0) (
 cond ((sl f 0).toInt=1) (
 cond ((mIx [.str] Ad (.row [a]))<0) (
 .row [.int 1,(sl f 1),(.int 0),(.int 0),(.int 0)]) (
 .row [.int 1,(sl f 1),(.int 0),(cl Ad (mIx [.str] Ad (.row [a])) 1),(.int 0)])) (
 .row [])) (
 cond ((sl f 0).toInt=1) (
 cond ((mIx [.str] Ad (.row [a]))<0) (
 .row [.int 1,(sl f 1),(cl (sl d 12) (mIx [.str] (sl d 12) (.row [(cl b 0 0)])) 1),(.int 0),(.int 0)]) (
 .row [.int 1,(sl f 1),(cl (sl d 12) (mIx [.str] (sl d 12) (.row [(cl b 0 0)])) 1),(cl Ad (mIx [.str] Ad (.row [a])) 1),(.int 0)])) (
 .row []))) (
 cond ((sl f 0).toInt=1) (
 cond ((mIx [.str] Ad (.row [a]))<0) (
 .row [.int 1,(sl f 1),(.int 0),(.int 0),(.int 0)]) (
 .row [.int 1,(sl f 1),(.int 0),(cl Ad (mIx [.str] Ad (.row [a])) 1),(.int 0)])) (
 .row [])))) (
 .row []))) (
 cond ((sl d 0).toInt=1) (
 cond ((sl f 0).toInt=1) (
 cond ((mIx [.str] Ad (.row [a]))<0) (
 .row [.int 1,(sl f 1),(.int 0),(.int 0),(.int 0)]) (
 .row [.int 1,(sl f 1),(.int 0),(cl Ad (mIx [.str] Ad (.row [a])) 1),(.int 0)])) (
 .row [])) (
 cond ((sl d 0).toInt=2) (
 cond ((sl d 4).toBool) (
 cond ((sl f 0).toInt=1) (
 cond ((mIx [.str] Ad (.row [a]))<0) (
 .row [.int 1,(sl f 1),(.int 0),(.int 0),(.int 0)]) (
 .row [.int 1,(sl f 1),(.int 0),(cl Ad (mIx [.str] Ad (.row [a])) 1),(.int 0)])) (
 .row [])) (
 cond ((sl (Ax b a) 1).toInt<len b) (
 cond ((mIx [.str] (sl d 12) (.row [(cl b (sl (Ax b a) 1).toInt 0)]))<0) (
 cond ((sl f 0).toInt=1) (
 cond ((mIx [.str] Ad (.row [a]))<0) (
 .row [.int 1,(sl f 1),(.int 0),(.int 0),(.int 0)]) (
 .row [.int 1,(sl f 1),(.int 0),(cl Ad (mIx [.str] Ad (.row [a])) 1),(.int 0)])) (
 .row [])) (
 cond ((sl f 0).toInt=1) (
 cond ((mIx [.str] Ad (.row [a]))<0) (
 .row [.int 1,(sl f 1),(cl (sl d 12) (mIx [.str] (sl d 12) (.row [(cl b (sl (Ax b a) 1).toInt 0)])) 1),(.int 0),(.int 0)]) (
 .row [.int 1,(sl f 1),(cl (sl d 12) (mIx [.str] (sl d 12) (.row [(cl b (sl (Ax b a) 1).toInt 0)])) 1),(cl Ad (mIx [.str] Ad (.row [a])) 1),(.int 0)])) (
 .row []))) (
 cond ((sl f 0).toInt=1) (
 cond ((mIx [.str] Ad (.row [a]))<0) (
 .row [.int 1,(sl f 1),(.int 0),(.int 0),(.int 0)]) (
 .row [.int 1,(sl f 1),(.int 0),(cl Ad (mIx [.str] Ad (.row [a])) 1),(.int 0)])) (
 .row [])))) (
 .row [])))) (
 .row [])) (
 .row [])) (
 cond ((sl g 0).toInt=2) (
 cond ((sl c 0).toInt=1) (
 cond ((sl (Ax b a) 0).toInt=1) (
 cond ((sl (Ax b a) 1).toInt<0) (
 cond ((sl d 0).toInt=1) (
 cond ((sl e 0).toInt=1) (
 cond ((mIx [.str] (sl c 1) (.row [a]))<0) (
 .row [.int 1,(sl e 1),(.int 0),(.int 0),(.int 0)]) (
 .row [.int 1,(sl e 1),(.int 0),(cl (sl c 1) (mIx [.str] (sl c 1) (.row [a])) 1),(.int 0)])) (
 .row [])) (
 cond ((sl d 0).toInt=2) (
 cond ((sl d 4).toBool) (
 cond ((sl e 0).toInt=1) (
 cond ((mIx [.str] (sl c 1) (.row [a]))<0) (
 .row [.int 1,(sl e 1),(.int 0),(.int 0),(.int 0)]) (
 .row [.int 1,(sl e 1),(.int 0),(cl (sl c 1) (mIx [.str] (sl c 1) (.row [a])) 1),(.int 0)])) (
 .row [])) (
 cond (0<(len b:Int)) (
 cond ((mIx [.str] (sl d 12) (.row [(cl b 0 0)]))<0) (
 cond ((sl e 0).toInt=1) (
 cond ((mIx [.str] (sl c 1) (.row [a]))<0) (
 .row [.int 1,(sl e 1),(.int 0),(.int 0),(.int 0)]) (
 .row [.int 1,(sl e 1),(.int 0),(cl (sl c 1) (mIx [.str] (sl c 1) (.row [a])) 1),(.int 0)])) (
 .row [])) (
 cond ((sl e 0).toInt=1) (
 cond ((mIx [.str] (sl c 1) (.row [a]))<0) (
 .row [.int 1,(sl e 1),(cl (sl d 12) (mIx [.str] (sl d 12) (.row [(cl b 0 0)])) 1),(.int 0),(.int 0)]) (
 .row [.int 1,(sl e 1),(cl (sl d 12) (mIx [.str] (sl d 12) (.row [(cl b 0 0)])) 1),(cl (sl c 1) (mIx [.str] (sl c 1) (.row [a])) 1),(.int 0)])) (
 .row []))) (
 cond ((sl e 0).toInt=1) (
 cond ((mIx [.str] (sl c 1) (.row [a]))<0) (
 .row [.int 1,(sl e 1),(.int 0),(.int 0),(.int 0)]) (
 .row [.int 1,(sl e 1),(.int 0),(cl (sl c 1) (mIx [.str] (sl c 1) (.row [a])) 1),(.int 0)])) (
 .row [])))) (
 .row []))) (
 cond ((sl d 0).toInt=1) (
 cond ((sl e 0).toInt=1) (
 cond ((mIx [.str] (sl c 1) (.row [a]))<0) (
 .row [.int 1,(sl e 1),(.int 0),(.int 0),(.int 0)]) (
 .row [.int 1,(sl e 1),(.int 0),(cl (sl c 1) (mIx [.str] (sl c 1) (.row [a])) 1),(.int 0)])) (
 .row [])) (
 cond ((sl d 0).toInt=2) (
 cond ((sl d 4).toBool) (
 cond ((sl e 0).toInt=1) (
 cond ((mIx [.str] (sl c 1) (.row [a]))<0) (
 .row [.int 1,(sl e 1),(.int 0),(.int 0),(.int 0)]) (
 .row [.int 1,(sl e 1),(.int 0),(cl (sl c 1) (mIx [.str] (sl c 1) (.row [a])) 1),(.int 0)])) (
 .row [])) (
 cond ((sl (Ax b a) 1).toInt<len b) (
 cond ((mIx [.str] (sl d 12) (.row [(cl b (sl (Ax b a) 1).toInt 0)]))<0) (
 cond ((sl e 0).toInt=1) (
 cond ((mIx [.str] (sl c 1) (.row [a]))<0) (
 .row [.int 1,(sl e 1),(.int 0),(.int 0),(.int 0)]) (
 .row [.int 1,(sl e 1),(.int 0),(cl (sl c 1) (mIx [.str] (sl c 1) (.row [a])) 1),(.int 0)])) (
 .row [])) (
 cond ((sl e 0).toInt=1) (
 cond ((mIx [.str] (sl c 1) (.row [a]))<0) (
 .row [.int 1,(sl e 1),(cl (sl d 12) (mIx [.str] (sl d 12) (.row [(cl b (sl (Ax b a) 1).toInt 0)])) 1),(.int 0),(.int 0)]) (
 .row [.int 1,(sl e 1),(cl (sl d 12) (mIx [.str] (sl d 12) (.row [(cl b (sl (Ax b a) 1).toInt 0)])) 1),(cl (sl c 1) (mIx [.str] (sl c 1) (.row [a])) 1),(.int 0)])) (
 .row []))) (
 cond ((sl e 0).toInt=1) (
 cond ((mIx [.str] (sl c 1) (.row [a]))<0) (
 .row [.int 1,(sl e 1),(.int 0),(.int 0),(.int 0)]) (
 .row [.int 1,(sl e 1),(.int 0),(cl (sl c 1) (mIx [.str] (sl c 1) (.row [a])) 1),(.int 0)])) (
 .row [])))) (
 .row [])))) (
 .row [])) (
 .row [])) (
 .row []))) (
 .row [.int 1,(.int 0),(.int 0),(.int 0),(.int 2)])) (
 .row []):=by
  subst i;subst j;subst k;subst l;subst m;exact gw rfl rfl (cQ (cg rfl (cQ (cQ (cQ (cL (cQ (cQ rfl rfl) (cQ (cg rfl (cQ rfl rfl) (cL (cL (cQ rfl rfl) (cQ rfl rfl)) (cQ rfl rfl))) rfl)) (cQ (cQ rfl rfl) (cQ (cg rfl (cQ rfl rfl) (cL (cL (cQ rfl rfl) (cQ rfl rfl)) (cQ rfl rfl))) rfl))) rfl) rfl) (cQ (cQ (cQ (cL (cQ (cQ rfl rfl) (cQ (cg rfl (cQ rfl rfl) (cL (cL (cQ rfl rfl) (cQ rfl rfl)) (cQ rfl rfl))) rfl)) (cQ (cQ rfl rfl) (cQ (cg rfl (cQ rfl rfl) (cL (cL (cQ rfl rfl) (cQ rfl rfl)) (cQ rfl rfl))) rfl))) rfl) rfl) rfl)) rfl) rfl)
theorem xV (v0 v1 v2:D) (a:Int):eK v0 v1 v2 (.int a) =
  cond ((sl (ZP v0 v1 v2) 0).toInt=1) (
 cond ((sl (ZP v0 v1 v2) 1).toBool) (
 cond (8<(len v1:Int)) (
 .row [.int 1,(.bool true)]) (
 cond ((sl (EH v0 v1 v2) 0).toInt=1) (
 cond ((sl (EH v0 v1 v2) 1).toBool) (
 cond ((sl (Ax v1 (AA 7 32199646649677158)) 0).toInt=1) (
 cond ((sl (Ax v1 (AA 7 32199646649677158)) 1).toInt<0) (
 cond ((len v1:Int)=0) (
 .row []) (
 cond ((ari .rem .i64 (IntKind.wrap .i64 a) (len v1:Int))<0) (
 .row []) (
 cond ((ari .rem .i64 (IntKind.wrap .i64 a) (len v1:Int))<(len v1:Int)) (
 cond ((len (ct Ad v1):Int)<1073741824) (
 cond ((sl (EU v0 v1 v2) 0).toInt=1) (
 cond ((sl (EU v0 (ni (ad (ct Ad v1) (.row [(AA 7 32199646649677158),(cl v1 (ari .rem .i64 (IntKind.wrap .i64 a) (len v1:Int)) 1)])) (((false&&decide ((len v1:Int)=0))&&decide (1=0)))) v2) 0).toInt=1) (
 cond ((sl (D9 v0 v1 v2) 0).toInt=1) (
 cond ((sl (D9 v0 (ni (ad (ct Ad v1) (.row [(AA 7 32199646649677158),(cl v1 (ari .rem .i64 (IntKind.wrap .i64 a) (len v1:Int)) 1)])) (((false&&decide ((len v1:Int)=0))&&decide (1=0)))) v2) 0).toInt=1) (
 cond ((IntKind.wrap .i64 ((IntKind.wrap .i64 ((IntKind.wrap .i64 ((sl (EU v0 v1 v2) 4).toInt+(sl (EU v0 (ni (ad (ct Ad v1) (.row [(AA 7 32199646649677158),(cl v1 (ari .rem .i64 (IntKind.wrap .i64 a) (len v1:Int)) 1)])) (((false&&decide ((len v1:Int)=0))&&decide (1=0)))) v2) 4).toInt))+(sl (D9 v0 v1 v2) 3).toInt))+(sl (D9 v0 (ni (ad (ct Ad v1) (.row [(AA 7 32199646649677158),(cl v1 (ari .rem .i64 (IntKind.wrap .i64 a) (len v1:Int)) 1)])) (((false&&decide ((len v1:Int)=0))&&decide (1=0)))) v2) 3).toInt))=0) (
 cond ((decide ((sl (EU v0 v1 v2) 1).toInt=(sl (EU v0 (ni (ad (ct Ad v1) (.row [(AA 7 32199646649677158),(cl v1 (ari .rem .i64 (IntKind.wrap .i64 a) (len v1:Int)) 1)])) (((false&&decide ((len v1:Int)=0))&&decide (1=0)))) v2) 1).toInt)&&(decide ((sl (EU v0 v1 v2) 2).toInt=(sl (EU v0 (ni (ad (ct Ad v1) (.row [(AA 7 32199646649677158),(cl v1 (ari .rem .i64 (IntKind.wrap .i64 a) (len v1:Int)) 1)])) (((false&&decide ((len v1:Int)=0))&&decide (1=0)))) v2) 2).toInt)&&decide ((sl (EU v0 v1 v2) 3).toInt=(sl (EU v0 (ni (ad (ct Ad v1) (.row [(AA 7 32199646649677158),(cl v1 (ari .rem .i64 (IntKind.wrap .i64 a) (len v1:Int)) 1)])) (((false&&decide ((len v1:Int)=0))&&decide (1=0)))) v2) 3).toInt)))) (
 cond ((sl (NU (sl (D9 v0 v1 v2) 1) (sl (D9 v0 v1 v2) 2) (sl (D9 v0 (ni (ad (ct Ad v1) (.row [(AA 7 32199646649677158),(cl v1 (ari .rem .i64 (IntKind.wrap .i64 a) (len v1:Int)) 1)])) (((false&&decide ((len v1:Int)=0))&&decide (1=0)))) v2) 1) (sl (D9 v0 (ni (ad (ct Ad v1) (.row [(AA 7 32199646649677158),(cl v1 (ari .rem .i64 (IntKind.wrap .i64 a) (len v1:Int)) 1)])) (((false&&decide ((len v1:Int)=0))&&decide (1=0)))) v2) 2)) 0).toInt=1) (
 cond ((sl (NU (sl (D9 v0 v1 v2) 1) (sl (D9 v0 v1 v2) 2) (sl (D9 v0 (ni (ad (ct Ad v1) (.row [(AA 7 32199646649677158),(cl v1 (ari .rem .i64 (IntKind.wrap .i64 a) (len v1:Int)) 1)])) (((false&&decide ((len v1:Int)=0))&&decide (1=0)))) v2) 1) (sl (D9 v0 (ni (ad (ct Ad v1) (.row [(AA 7 32199646649677158),(cl v1 (ari .rem .i64 (IntKind.wrap .i64 a) (len v1:Int)) 1)])) (((false&&decide ((len v1:Int)=0))&&decide (1=0)))) v2) 2)) 1).toBool) (
 .row [.int 1,(.bool true)]) (
 .row [.int 1,(.bool false)])) (
 .row [])) (
 .row [.int 1,(.bool false)])) (
 .row [.int 1,(.bool false)])) (
 .row [])) (
 .row [])) (
 .row [])) (
 .row [])) (
 .row [])) (
 .row [])))) (
 .row [.int 1,(.bool true)])) (
 .row [])) (
 .row [.int 1,(.bool true)])) (
 .row []))) (
 .row [.int 1,(.bool true)])) (
 .row []):=gw rfl rfl (cQ (cg rfl (cL rfl (cQ (cg rfl (cQ (cL (cQ rfl (cL rfl (cL (cL (cQ (cQ (cQ (cQ (cQ (cg (aE (qE rfl rfl) (aE (qE rfl rfl) (qE rfl rfl))) (cQ (cg rfl rfl rfl) rfl) rfl) rfl) rfl) rfl) rfl) rfl) rfl) rfl))) rfl) rfl) rfl) rfl)) rfl) rfl)
end
end Mx
set_option maxRecDepth 4000
namespace Mx
open Go Go.AE
section
variable [Ap]
theorem tot {F:Nat→D} {Q:D→Prop} {n:Nat} (a:Q (F n)) (b:∀j,j<n→Q (F (j+1))→Q (F j)):∀k i,i+k=n→Q (F i)
 |0,i,h=>by
  have:i=n:=h;rw [this];exact a
 |k+1,i,h=>b i (by omega) (tot a b k (i+1) (by omega))
theorem qc {Q:D→Prop} {c:Bool} {a b:D} (d:Q a) (e:Q b):Q (cond c a b):=by
 cases c
 ·exact e
 ·exact d
theorem qT {Q:D→Prop} {p:Prop} [Decidable p] {a b:D} (h:p) (c:Q a):Q (cond (decide p) a b):=by rw [ifT h];exact c
theorem qF {Q:D→Prop} {p:Prop} [Decidable p] {a b:D} (h:¬p) (c:Q b):Q (cond (decide p) a b):=by rw [ifF h];exact c
def IsB (d:D):Prop:=∃b,d=.row [.int 1,.bool b]
def IsI (d:D):Prop:=∃k,d=.row [.int 1,.int k]
def l2 (a b:Bool):D:=ad (ad Ad (.row [(.bool a)])) (.row [(.bool b)])
def l3 (a b c:Bool):D:=ad (ad (ad Ad (.row [(.bool a)])) (.row [(.bool b)])) (.row [(.bool c)])
theorem eS {i:Int} (h:0≤i) (h':i<4611686018427387904):IntKind.wrap .i64 (i+1)=i+1:=A4 (by omega) (by omega)
theorem Jw {v:D} {i:Int} {m:Nat} (b:len v=m) (a:0≤i) (h:i<m) (h':i<4611686018427387904):SV v (.bool false) (.bool false) (.int i)=cond ((cl v i 0).toBool) (SV v (.bool false) (.bool false) (.int (i+1))) (.row [.int 1,(.int i)]):=by
 rw [ql,ifT (by omega),ifF (by omega),eS a h'];rfl
theorem az {v:D} {i:Int} {m:Nat} (a:len v=m) (h:¬i<m):SV v (.bool false) (.bool false) (.int i)=.row [.int 1,(.int (-1))]:=by
 rw [ql,ifF (by omega)]
theorem SF (a b:Bool):BB (l2 a b) (.bool false) (.bool false)=.row [.int 1,.int (cond a (cond b (-1) 1) 0)]:=by
 rw [qU,Jw (m:=2) rfl (by decide) (by decide) (by decide)]
 cases a
 ·rfl
 ·refine (Jw (m:=2) rfl (by decide) (by decide) (by decide)).trans ?_
  cases b
  ·rfl
  ·exact az (m:=2) rfl (by decide)
theorem bZ (a b c:Bool):BB (l3 a b c) (.bool false) (.bool false)=.row [.int 1,.int (cond a (cond b (cond c (-1) 2) 1) 0)]:=by
 rw [qU,Jw (m:=3) rfl (by decide) (by decide) (by decide)]
 cases a
 ·rfl
 ·refine (Jw (m:=3) rfl (by decide) (by decide) (by decide)).trans ?_
  cases b
  ·rfl
  ·refine (Jw (m:=3) rfl (by decide) (by decide) (by decide)).trans ?_
   cases c
   ·rfl
   ·exact az (m:=3) rfl (by decide)
theorem nC {v:D} (h:len v≤1000000):IsI (SG v (.bool false)):=by
 rw [sJ];refine tot (F:=fun j=>Lb v (.bool false) (.int (j:Nat))) (Q:=IsI) (n:=len v) ?_ ?_ (len v) 0 (by omega)
 ·refine (?_:IsI (Lb v (.bool false) (.int ((len v:Nat):Int))));rw [dr,ifF (by omega)]
  exact ⟨_,rfl⟩
 ·intro j hj ih;refine (?_:IsI (Lb v (.bool false) (.int ((j:Nat):Int))));rw [dr,ifT (by omega),ifF (by omega),AL (by omega)]
  repeat' apply qc
  all_goals first|exact ih|exact ⟨_,rfl⟩
theorem XO {v:D}:len (NB v)=Cx v:=by simp [len,NB,Cx,D.rows]
theorem qY (v:D):IsB (GQ v):=by
 rw [ap];refine (?_:IsB (cond (decide ((sl (BB (l2 _ _) (.bool false) (.bool false)) 0).toInt=1)) (cond (decide ((sl (BB (l2 _ _) (.bool false) (.bool false)) 1).toInt<0)) _ _) _));rw [SF];refine qT rfl ?_;by_cases a:(Cx v:Int)<1
 ·refine qF (p:=_) ?_ ⟨_,rfl⟩;rw [oj a];show ¬(0:Int)<0
  decide
 ·by_cases b:32<(Cx v:Int)
  ·refine qF (p:=_) ?_ ⟨_,rfl⟩;rw [ll a,oj b]
   decide
  ·obtain ⟨k,c⟩:=nC (v:=NB v) (by rw [XO];omega)
   rw [c];refine qT (p:=_) ?_ (qT (by omega) ?_)
   ·rw [ll a,ll b]
    decide
   repeat' first|exact ⟨_,rfl⟩ | (refine qT rfl ?_)|apply qc
def Bn (v:D):Bool:=(sl (GQ v) 1).toBool
theorem JH (v:D):GQ v=.row [.int 1,.bool (Bn v)]:=by
 obtain ⟨b,h⟩:=qY v;unfold Bn;rw [h];rfl
def fld (v nm:D):Int:=fdG (fun i=>D.strEq (cl v i 0) nm) (len v) 0
theorem Xg {v nm:D} (h:len v≤1000000):GV v nm=.row [.int 1,.int (fld v nm)]:=by
 rw [yY];refine find (F:=fun j=>WL v (.int (j:Nat)) nm) (bad:=fun i=>D.strEq (cl v i 0) nm) (n:=len v) ?_ ?_
 ·intro j hj;refine (?_:WL v (.int ((j:Nat):Int)) nm=_);rw [va,ifT (by omega),ifF (by omega),AL (by omega)]
 ·refine (?_:WL v (.int ((len v:Nat):Int)) nm=_);rw [va,ifF (by omega)]
theorem gj {v nm:D} (h:len v≤1000000):Ax v nm=.row [.int 1,.int (fld v nm)]:=by
 rw [rx];refine find (F:=fun j=>OL v (.int (j:Nat)) nm) (bad:=fun i=>D.strEq (cl v i 0) nm) (n:=len v) ?_ ?_
 ·intro j hj;refine (?_:OL v (.int ((j:Nat):Int)) nm=_);rw [eN,ifT (by omega),ifF (by omega),AL (by omega)]
 ·refine (?_:OL v (.int ((len v:Nat):Int)) nm=_);rw [eN,ifF (by omega)]
theorem iA (v:D):gp v B0 (.bool true)=.row [.int 1,.bool (decide (len v=0))]:=by
 rw [yg];by_cases h:len v=0
 ·rw [ifT (by rw [h];rfl),yz,ifF (by omega),oj h]
 ·rw [ifF (by rw [show len B0=0 from rfl];omega),ll h]
theorem gH (v:D):jD v B0 (.bool true)=.row [.int 1,.bool (decide (len v=0))]:=by
 rw [yu];by_cases h:len v=0
 ·rw [ifT (by rw [h];rfl),yC,ifF (by omega),oj h]
 ·rw [ifF (by rw [show len B0=0 from rfl];omega),ll h]
section
variable {v0 v1 v2 v3 v4 v7 v8:D} {v5 v6 lo hi:Int}
def m1 (n:Int):D:=ad Ad (.row [(.int n)])
def m2 (n m:Int):D:=ad (ad Ad (.row [(.int n)])) (.row [(.int m)])
theorem Pi {v:D} {i n:Int} {m:Nat} (c:len v=m) (a:0≤i) (h:i<m) (h':i<4611686018427387904) (b:cl v i 0=.int n):YR (.int lo) (.int hi) v (.bool false) (.int i) v0 v1 v2 (.int v5) (.int v6) v7 v8 v3 v4 =
  cond (decide (n<lo)) (.row [.int 1,(.int v5),(.int v6)]) (cond (decide (hi<n)) (.row [.int 1,(.int v5),(.int v6)]) (YR (.int n) (.int hi) v (.bool false) (.int (i+1)) v0 v1 v2 (.int v5) (.int v6) v7 v8 v3 v4)):=by
 rw [jb,ifT (by omega),ifF (by omega),eS a h',b];rfl
theorem Th {n:Int}:CZ v0 v1 v2 v3 v4 (.int v5) (.int v6) v7 v8 (.int lo) (.int hi) (m1 n) (.bool false)=cond (decide (lo≤n∧n≤hi)) (.row [.int 2]) (.row [.int 1,(.int v5),(.int v6)]):=by
 rw [tH,Pi (n:=n) (m:=1) rfl (by decide) (by decide) (by decide) rfl]
 by_cases a:n<lo
 ·rw [ifT a,ifF (by omega)]
 ·rw [ifF a];by_cases b:hi<n
  ·rw [ifT b,ifF (by omega)]
  ·rw [ifF b,ifT (by omega),jb,ifF (by rw [show len (m1 n)=1 from rfl];decide)]
theorem S4 {n m:Int}:CZ v0 v1 v2 v3 v4 (.int v5) (.int v6) v7 v8 (.int lo) (.int hi) (m2 n m) (.bool false)=cond (decide (lo≤n∧n≤m∧n≤hi∧m≤hi)) (.row [.int 2]) (.row [.int 1,(.int v5),(.int v6)]):=by
 rw [tH,Pi (n:=n) (m:=2) rfl (by decide) (by decide) (by decide) rfl]
 by_cases a:n<lo
 ·rw [ifT a,ifF (by omega)]
 ·rw [ifF a];by_cases b:hi<n
  ·rw [ifT b,ifF (by omega)]
  ·rw [ifF b];refine (Pi (n:=m) (m:=2) rfl (by decide) (by decide) (by decide) rfl).trans ?_
   by_cases c:m<n
   ·rw [ifT c,ifF (by omega)]
   ·rw [ifF c];by_cases d:hi<m
    ·rw [ifT d,ifF (by omega)]
    ·rw [ifF d,ifT (by omega),jb,ifF (by rw [show len (m2 n m)=2 from rfl];decide)]
end
end
end Mx
namespace Mx
open Go Go.AE
section
variable [Ap]
theorem Kb {M k x:D} {l:List D} (w:∀r∈M.rows,∃x l,r=.row (x::l)):mIx [.str] (ad M (.row (x::l))) (.row [k])=if 0≤mIx [.str] M (.row [k]) then mIx [.str] M (.row [k]) else if D.strEq x k=true then (len M:Int) else -1:=by
 have q:∀r∈(ad M (.row (x::l))).rows,∃x l,r=.row (x::l):=by
  intro r B;rcases rc.1 B with h|h
  ·exact w r h
  ·exact ⟨x,l,vy.1 h⟩
 rw [Cu w,Cu q,Dv]
 have g:∀j:Nat,j<len M→D.strEq (cl (ad M (.row (x::l))) j 0) k=D.strEq (cl M j 0) k:=by
  intro j hj;rw [EO (by omega),if_neg (by omega)]
 have y:D.strEq (cl (ad M (.row (x::l))) (len M:Nat) 0) k=D.strEq x k:=by
  rw [EO (by omega),if_pos rfl];rfl
 by_cases h:0≤fdG (fun i=>D.strEq (cl M i 0) k) (len M) 0
 ·rw [if_pos h];have s:=D1 (p:=fun i=>D.strEq (cl M i 0) k) (k:=len M) (i:=0)
  have c:=Fg h;obtain ⟨n,z⟩:=vv h;rw [z] at c s ⊢;have t:n<len M:=by omega
  have a:=Mg (p:=fun i=>D.strEq (cl (ad M (.row (x::l))) i 0) k) (k:=len M+1) (i:=0) (j:=n) (by omega) (by omega) (by show D.strEq _ k=true;rw [g n t];exact c)
  obtain ⟨m,u⟩:=vv a.1;have d:=Fg a.1;rw [u] at a d ⊢;have C:m≤n:=by omega
  rcases R2 m n with b|v
  ·have A:=In (p:=fun i=>D.strEq (cl M i 0) k) (k:=len M) (i:=0) (j:=m) (by omega) (.inl (by rw [z];omega))
   have e:D.strEq (cl (ad M (.row (x::l))) m 0) k=true:=d;rw [g m (by omega)] at e
   rw [e] at A;cases A
  ·congr 1;omega
 ·rw [if_neg h];have f:∀j:Nat,j<len M→D.strEq (cl M j 0) k=false:=fun j hj=>In (p:=fun i=>D.strEq (cl M i 0) k) (k:=len M) (i:=0) (by omega) (.inr ⟨by omega,by omega⟩)
  by_cases o:D.strEq x k=true
  ·rw [if_pos o];have a:=Mg (p:=fun i=>D.strEq (cl (ad M (.row (x::l))) i 0) k) (k:=len M+1) (i:=0) (j:=len M) (by omega) (by omega) (by show D.strEq _ k=true;rw [y];exact o)
   obtain ⟨m,u⟩:=vv a.1;have d:=Fg a.1;rw [u] at a d ⊢;rcases R2 m (len M) with b|v
   ·have e:D.strEq (cl (ad M (.row (x::l))) m 0) k=true:=d;rw [g m b,f m b] at e;cases e
   ·congr 1;omega
  ·rw [if_neg o];refine dh fun j _ hj=>?_
   rcases R2 j (len M) with a|a
   ·show D.strEq _ k=false;rw [g j a];exact f j a
   ·have:j=len M:=by omega
    subst this;show D.strEq _ k=false;rw [y];cases h:D.strEq x k
    ·rfl
    ·exact absurd h o
def kd (v:D) (i:Int):Int:=(cl v i 1).toInt
def Gy (k:Int):Bool:=decide (k=1)||(decide (k=2)||decide (k=3))
def hiC (v:D) (i:Nat):D:=cond (decide (kd v i=2)) (cl v i 5) (cl v i 6)
def AO (v:D):Nat→D
 |0=>Ad
 |i+1=>cond (Gy (kd v i)) (ad (AO v i) (.row [cl v i 0,cl v i 5,hiC v i])) (AO v i)
def DN (v:D) (n:Nat):Prop:=∀j k:Nat,j<k→k<n→D.strEq (cl v j 0) (cl v k 0)=false
theorem DN.mono {v:D} {n m:Nat} (h:DN v n) (r:m≤n):DN v m:=fun j k l t=>h j k l (by omega)
theorem Gc {v:D}:∀i:Nat,∀r∈(AO v i).rows,∃x l,r=.row (x::l)
 |0,r,a=>by cases a
 |i+1,r,a=>by
  rw [AO] at a;cases h:Gy (kd v i) with
  |false=>rw [h] at a;exact Gc i r a
  |true=>
   rw [h] at a;rcases rc.1 a with b|b
   ·exact Gc i r b
   ·exact ⟨_,_,vy.1 b⟩
theorem En {v:D} {nm:D}:∀i:Nat,(mIx [.str] (AO v i) (.row [nm])<0∧∀j:Nat,j<i→Gy (kd v j)=true→D.strEq (cl v j 0) nm=false)∨
  (∃j:Nat,j<i∧Gy (kd v j)=true∧D.strEq (cl v j 0) nm=true∧0≤mIx [.str] (AO v i) (.row [nm])∧mIx [.str] (AO v i) (.row [nm])<len (AO v i)∧
   cl (AO v i) (mIx [.str] (AO v i) (.row [nm])) 1=cl v j 5∧cl (AO v i) (mIx [.str] (AO v i) (.row [nm])) 2=hiC v j)
 |0=>.inl ⟨(by rw [show mIx [.str] (AO v 0) (.row [nm]) = -1 from rfl];decide),fun j hj=>absurd hj (gk _)⟩
 |i+1=>by
  rw [AO];cases f:Gy (kd v i) with
  |false=>
   rcases En (v:=v) (nm:=nm) i with ⟨c,a⟩|⟨j,c,a⟩
   ·refine .inl ⟨c,fun j hj b=>?_⟩
    rcases R2 j i with h|h
    ·exact a j h b
    ·have:j=i:=by omega
     subst this;rw [f] at b;cases b
   ·exact .inr ⟨j,by omega,a⟩
  |true=>
   show _∨_;simp only [vx];rw [Kb (Gc (v:=v) i)];rcases En (v:=v) (nm:=nm) i with ⟨c,a⟩|⟨j,c,a,g,d,m,k,l⟩
   ·rw [if_neg (by omega)]
    by_cases e:D.strEq (cl v i 0) nm=true
    ·rw [if_pos e];refine .inr ⟨i,by omega,f,e,by omega,by rw [Dv];omega,?_,?_⟩
     ·rw [EO (by omega),if_pos rfl];rfl
     ·rw [EO (by omega),if_pos rfl];rfl
    ·rw [if_neg e];refine .inl ⟨by omega,fun j hj b=>?_⟩
     rcases R2 j i with h|h
     ·exact a j h b
     ·have:j=i:=by omega
      subst this;cases h:D.strEq (cl v j 0) nm
      ·rfl
      ·exact absurd h e
   ·rw [if_pos d];refine .inr ⟨j,by omega,a,g,d,by rw [Dv];omega,?_,?_⟩
    ·rw [EO d,if_neg (by omega)];exact k
    ·rw [EO d,if_neg (by omega)];exact l
theorem aj {v:D} {i n:Nat} (c:DN v n) (hi:i<n):mIx [.str] (AO v i) (.row [cl v i 0])<0:=by
 rcases En (v:=v) (nm:=cl v i 0) i with ⟨a,_⟩|⟨j,a,_,b,_⟩
 ·exact a
 ·rw [c j i a hi] at b;cases b
theorem ew {v:D} (h:len v≤1000000) (f:DN v (len v)):Bm v=.row [.int 1,AO v (len v)]:=by
 rw [yJ]
 have g:∀j,j<len v→Lc v (.int (j:Nat)) (AO v j)=Lc v (.int ((j+1:Nat):Int)) (AO v (j+1)):=by
  intro j hj;have e:=aj f hj;rw [pz,ifT (by omega),ifF (by omega),AL (by omega),AO]
  have a:kd v j=(cl v j 1).toInt:=rfl;by_cases b:(cl v j 1).toInt=1
  ·rw [ifT b,ifT e,show Gy (kd v j)=true by rw [a,b];rfl,hiC,a,b];rfl
  ·rw [ifF b];by_cases c:(cl v j 1).toInt=2
   ·rw [ifT c,ifT e,show Gy (kd v j)=true by rw [a,c];rfl,hiC,a,c];rfl
   ·rw [ifF c];by_cases d:(cl v j 1).toInt=3
    ·rw [ifT d,ifT e,show Gy (kd v j)=true by rw [a,d];rfl,hiC,a,d];rfl
    ·rw [ifF d,show Gy (kd v j)=false by simp [Gy,a,b,c,d]];rfl
 have l:∀k i,i+k=len v→Lc v (.int (i:Nat)) (AO v i)=.row [.int 1,AO v (len v)]:=by
  intro k
  induction k with
  |zero=>
   intro i hi;have:i=len v:=hi;subst this;rw [pz,ifF (by omega)]
  |succ k ih=>intro i hi;rw [g i (by omega)];exact ih (i+1) (by omega)
 exact l (len v) 0 (by omega)
theorem VE {v:D} {n:Nat} (b:n≤len v):∀i:Nat,i≤n→AO (sb v 0 (n:Nat)) i=AO v i
 |0,_=>rfl
 |i+1,h=>by
  have a:∀c,cl (sb v 0 (n:Nat)) (i:Nat) c=cl v (i:Nat) c:=fun c=>O7 b (by omega)
  have d:kd (sb v 0 (n:Nat)) (i:Nat)=kd v (i:Nat):=by unfold kd;rw [a]
  rw [AO,AO,d,a,a,VE b i (by omega)]
  unfold hiC;rw [d,a,a]
end
end Mx
namespace Mx
open Go Go.AE
section
variable [Ap]
theorem AC {k:Int} {l:List D} {a b:D}:cond (decide ((sl (D.row (D.int k::l)) 0).toInt=k)) a b=a:=ifT rfl
theorem Wn {v:D} (h:Bn v=true):1≤Cx v∧Cx v≤32:=by
 by_cases a:(Cx v:Int)<1
 ·exfalso
  have e:GQ v=.row [.int 1,.bool false]:=by
   rw [ap];refine (?_:cond (decide ((sl (BB (l2 _ _) (.bool false) (.bool false)) 0).toInt=1)) (cond (decide ((sl (BB (l2 _ _) (.bool false) (.bool false)) 1).toInt<0)) _ _) _=_);rw [SF,AC,oj a,ifF (by show ¬(0:Int)<0;decide)]
  unfold Bn at h;rw [e] at h;cases h
 ·by_cases b:32<(Cx v:Int)
  ·exfalso
   have e:GQ v=.row [.int 1,.bool false]:=by
    rw [ap];refine (?_:cond (decide ((sl (BB (l2 _ _) (.bool false) (.bool false)) 0).toInt=1)) (cond (decide ((sl (BB (l2 _ _) (.bool false) (.bool false)) 1).toInt<0)) _ _) _=_);rw [SF,AC,ll a,oj b,ifF (by show ¬(1:Int)<0;decide)]
   unfold Bn at h;rw [e] at h;cases h
  ·omega
theorem YK {v:D} (h:Bn v=true):D.strEq v (AA 0 0)=false:=by
 cases a:D.strEq v (AA 0 0) with
 |false=>rfl
 |true=>
  have c:=Wn h;have b:=DB.1 a;have:Cx v=0:=by unfold Cx;rw [b];rfl
  omega
def fac (t:D) (j:Int):Int:=(cl t j 1).toInt
structure TOK (t:D) (j:Nat):Prop where
 name:Bn (cl t j 0)=true
 ne:fac t j≠0
 lo:-1048576≤fac t j
 hi:fac t j≤1048576
 new:∀i,i<j→D.strEq (cl t i 0) (cl t j 0)=false
theorem fh {t:D} (u:len t≤1000000):∀k i,i+k=len t→(∀j,j<i→TOK t j)→∃r m,SP t (.int (i:Nat)) (I3 (fun j=>cl t j 0) i)=.row [.int 1,.int r,m]∧(r<0→∀j,j<len t→TOK t j)
 |0,i,h,c=>by
  have:i=len t:=h;subst this;exact ⟨_,_,by rw [qG _ _ _ rfl rfl,ifF (by omega)],fun _=>c⟩
 |k+1,i,h,c=>by
  have hi:i<len t:=by omega
  rw [qG _ _ _ rfl rfl,ifT (by omega),ifF (by omega),ZH,AL (by omega),JH]
  by_cases n:fdG (fun j=>D.strEq (cl t j 0) (cl t i 0)) i 0<0
  ·rw [ifT n];have o:∀j,j<i→D.strEq (cl t j 0) (cl t i 0)=false:=fun j hj=>In (p:=fun j=>D.strEq (cl t j 0) (cl t i 0)) (k:=i) (i:=0) (by omega) (.inr ⟨n,by omega⟩)
   refine (?_:∃r m,cond (decide ((1:Int)=1)) _ _=_∧_)
   rw [ifT rfl];by_cases s:fac t i < -1048576
   ·refine (?_:∃r m,cond (decide (fac t i < -1048576)) _ _=_∧_)
    rw [ifT s];refine (?_:∃r m,cond (decide ((sl (BB (l3 (Bn (cl t i 0)) true false) (.bool false) (.bool false)) 0).toInt=1)) (cond (decide ((sl (BB (l3 (Bn (cl t i 0)) true false) (.bool false) (.bool false)) 1).toInt<0)) _ _) _=_∧_)
    rw [bZ,AC,ifF (by cases Bn (cl t i 0)<;>decide)]
    exact ⟨_,_,rfl,fun e=>absurd e (by omega)⟩
   ·refine (?_:∃r m,cond (decide (fac t i < -1048576)) _ _=_∧_)
    rw [ifF s];refine (?_:∃r m,cond (decide ((sl (BB (l3 (Bn (cl t i 0)) (!decide (fac t i=0)) (!decide (1048576<fac t i))) (.bool false) (.bool false)) 0).toInt=1)) (cond (decide ((sl (BB (l3 (Bn (cl t i 0)) (!decide (fac t i=0)) (!decide (1048576<fac t i))) (.bool false) (.bool false)) 1).toInt<0)) _ _) _=_∧_)
    rw [bZ,AC,Tj (f:=fun j=>cl t j 0)]
    by_cases b:Bn (cl t i 0)=true∧fac t i≠0∧fac t i≤1048576
    ·obtain ⟨a1,a2,a3⟩:=b;rw [a1,ll a2,ll (show ¬1048576<fac t i by omega),ifT (by decide)]
     exact fh u k (i+1) (by omega) fun j hj=>by
      rcases R2 j i with g|g
      ·exact c j g
      ·have:j=i:=by omega
       subst this;exact ⟨a1,a2,by omega,a3,o⟩
    ·rw [ifF (by
      intro a;refine b ?_;cases l:Bn (cl t i 0) with
      |false=>rw [l] at a;exact absurd a (by show ¬(0:Int)<0;decide)
      |true=>
       rw [l] at a;by_cases d:fac t i=0
       ·rw [oj d] at a;exact absurd a (by show ¬(1:Int)<0;decide)
       ·rw [ll d] at a;by_cases q:1048576<fac t i
        ·rw [oj q] at a;exact absurd a (by decide)
        ·exact ⟨rfl,d,by omega⟩)]
     exact ⟨_,_,rfl,fun e=>absurd e (by omega)⟩
  ·rw [ifF n,S9 (by omega) (by have:=D1 (p:=fun j=>D.strEq (cl t j 0) (cl t i 0)) (k:=i) (i:=0);omega)]
   refine (?_:∃r m,cond true _ _=_∧_)
   exact ⟨_,_,rfl,fun e=>absurd e (by omega)⟩
theorem om {t:D} (a:len t≤1000000):∃r m,Ul t Ad=.row [.int 1,.int r,m]∧(r<0→∀j,j<len t→TOK t j):=by
 rw [yq];exact fh a (len t) 0 (by omega) fun j hj=>absurd hj (gk _)
section
variable {v0 v1 v2 v3 v4 v7 v8 M:D} {v5 v6:Int}
theorem ZR {t:D} {b:Bool} (f:len t≤1000000):DI v0 v1 v2 v3 v4 (.int v5) (.int v6) v7 v8 M t (.bool b)=.row [.int 1,(.int v5),(.int v6)]∨
  (DI v0 v1 v2 v3 v4 (.int v5) (.int v6) v7 v8 M t (.bool b)=.row [.int 2]∧∀j:Nat,j<len t→0≤mIx [.str] M (.row [cl t j 0])):=by
 rw [Xv]
 have e:∀k i,i+k=len t→(∀j:Nat,j<i→0≤mIx [.str] M (.row [cl t j 0]))→LO t (.bool b) (.int (i:Nat)) v0 v1 v2 (.int v5) (.int v6) v7 v8 v3 v4 M=.row [.int 1,(.int v5),(.int v6)]∨
   (LO t (.bool b) (.int (i:Nat)) v0 v1 v2 (.int v5) (.int v6) v7 v8 v3 v4 M=.row [.int 2]∧∀j:Nat,j<len t→0≤mIx [.str] M (.row [cl t j 0])):=by
  intro k
  induction k with
  |zero=>
   intro i h a;have:i=len t:=h;subst this;rw [OZ,ifF (by omega)]
   exact .inr ⟨rfl,a⟩
  |succ k ih=>
   intro i h a;rw [OZ,ifT (by omega),ifF (by omega),AL (by omega)]
   by_cases d:mIx [.str] M (.row [cl t i 0])<0
   ·rw [ifT d];exact .inl rfl
   ·rw [ifF d]
    exact ih (i+1) (by omega) fun j hj=>by
     rcases R2 j i with c|c
     ·exact a j c
     ·have:j=i:=by omega
      subst this;omega
 exact e (len t) 0 (by omega) fun j hj=>absurd hj (gk _)
end
end
end Mx
namespace Mx
open Go Go.AE
section
variable [Ap]
def ixM (M nm:D):Int:=mIx [.str] M (.row [nm])
def loM (M nm:D):Int:=(cl M (ixM M nm) 1).toInt
def hiM (M nm:D):Int:=(cl M (ixM M nm) 2).toInt
def RO (M nm:D):Prop:=0≤loM M nm∧loM M nm≤hiM M nm∧hiM M nm<34359738368
theorem YV {t M:D} {b:Bool} (u:len t≤1000000) (r:∀j:Nat,j<len t→0≤ixM M (cl t j 0)) (s:∀j:Nat,j<len t→Bn (cl t j 0)=true):∀k i,i+k=len t→
  (HM t (.bool b) (.int (i:Nat)) (AA 0 0) M (.int 0) (.bool false)=.row [.int 1,.bool false]∧¬∀j,i≤j→j<len t→RO M (cl t j 0))∨
  (HM t (.bool b) (.int (i:Nat)) (AA 0 0) M (.int 0) (.bool false)=.row [.int 2,.bool false]∧∀j,i≤j→j<len t→RO M (cl t j 0))
 |0,i,h=>by
  have:i=len t:=h;subst this;exact .inr ⟨by rw [X8,ifF (by omega)],fun j v m=>by omega⟩
 |k+1,i,h=>by
  have hi:i<len t:=by omega
  have v:=r i hi;have m:=YK (s i hi);have d:ixM M (cl t i 0)=mIx [.str] M (.row [cl t i 0]):=rfl;rw [X8,ifT (by omega),ifF (by omega),AL (by omega),ifF (by rw [←d];omega),m]
  have step:∀x y:D,cond false x y=y:=fun _ _=>rfl
  rw [step];by_cases n:RO M (cl t i 0)
  ·obtain ⟨g,l,f⟩:=n
   have e:(BB (l3 (!decide (loM M (cl t i 0)<0)) (!decide (hiM M (cl t i 0)<loM M (cl t i 0))) (decide (hiM M (cl t i 0)<34359738368))) (.bool false) (.bool false))=.row [.int 1,.int (-1)]:=by
    rw [bZ,ll (by omega),ll (by omega),oj f];rfl
   have w:=YV (b:=b) u r s k (i+1) (by omega)
   have A:HM t (.bool b) (.int (i:Nat)) (AA 0 0) M (.int 0) (.bool false)=HM t (.bool b) (.int ((i+1:Nat):Int)) (AA 0 0) M (.int 0) (.bool false):=by
    rw [X8,ifT (by omega),ifF (by omega),AL (by omega),ifF (by rw [←d];omega),m,step]
    refine (?_:cond (decide ((sl (BB (l3 (!decide (loM M (cl t i 0)<0)) (!decide (hiM M (cl t i 0)<loM M (cl t i 0))) (decide (hiM M (cl t i 0)<34359738368))) (.bool false) (.bool false)) 0).toInt=1)) (cond (decide ((sl (BB (l3 (!decide (loM M (cl t i 0)<0)) (!decide (hiM M (cl t i 0)<loM M (cl t i 0))) (decide (hiM M (cl t i 0)<34359738368))) (.bool false) (.bool false)) 1).toInt<0)) _ _) _=_);rw [e,AC,ifT (by decide)]
   refine (?_:(cond (decide ((sl (BB (l3 (!decide (loM M (cl t i 0)<0)) (!decide (hiM M (cl t i 0)<loM M (cl t i 0))) (decide (hiM M (cl t i 0)<34359738368))) (.bool false) (.bool false)) 0).toInt=1)) (cond (decide ((sl (BB (l3 (!decide (loM M (cl t i 0)<0)) (!decide (hiM M (cl t i 0)<loM M (cl t i 0))) (decide (hiM M (cl t i 0)<34359738368))) (.bool false) (.bool false)) 1).toInt<0)) _ _) _=_∧_)∨(cond (decide ((sl (BB (l3 (!decide (loM M (cl t i 0)<0)) (!decide (hiM M (cl t i 0)<loM M (cl t i 0))) (decide (hiM M (cl t i 0)<34359738368))) (.bool false) (.bool false)) 0).toInt=1)) (cond (decide ((sl (BB (l3 (!decide (loM M (cl t i 0)<0)) (!decide (hiM M (cl t i 0)<loM M (cl t i 0))) (decide (hiM M (cl t i 0)<34359738368))) (.bool false) (.bool false)) 1).toInt<0)) _ _) _=_∧_));rw [e,AC,ifT (by decide)]
   rcases w with ⟨o,p⟩|⟨o,p⟩
   ·exact .inl ⟨o,fun a=>p fun j hj c=>a j (by omega) c⟩
   ·refine .inr ⟨o,fun j hj c=>?_⟩
    rcases R2 i j with q|q
    ·exact p j (by omega) c
    ·have:j=i:=by omega
     subst this;exact ⟨g,l,f⟩
  ·have e:∃z:Int,0≤z∧(BB (l3 (!decide (loM M (cl t i 0)<0)) (!decide (hiM M (cl t i 0)<loM M (cl t i 0))) (decide (hiM M (cl t i 0)<34359738368))) (.bool false) (.bool false))=.row [.int 1,.int z]:=by
    rw [bZ];by_cases g:loM M (cl t i 0)<0
    ·rw [oj g];exact ⟨0,by decide,rfl⟩
    ·rw [ll g];by_cases l:hiM M (cl t i 0)<loM M (cl t i 0)
     ·rw [oj l];exact ⟨1,by decide,rfl⟩
     ·rw [ll l];by_cases f:hiM M (cl t i 0)<34359738368
      ·exact absurd ⟨by omega,by omega,f⟩ n
      ·rw [ll f];exact ⟨2,by decide,rfl⟩
   obtain ⟨z,B,e⟩:=e;refine .inl ⟨?_,fun a=>n (a i (L1 _) hi)⟩
   refine (?_:cond (decide ((sl (BB (l3 (!decide (loM M (cl t i 0)<0)) (!decide (hiM M (cl t i 0)<loM M (cl t i 0))) (decide (hiM M (cl t i 0)<34359738368))) (.bool false) (.bool false)) 0).toInt=1)) (cond (decide ((sl (BB (l3 (!decide (loM M (cl t i 0)<0)) (!decide (hiM M (cl t i 0)<loM M (cl t i 0))) (decide (hiM M (cl t i 0)<34359738368))) (.bool false) (.bool false)) 1).toInt<0)) _ _) _=_);rw [e,AC,ifF (by show ¬z<0;omega)]
theorem Pm {t M:D} {b:Bool} (d:len t≤1000000) (e:∀j:Nat,j<len t→0≤ixM M (cl t j 0)) (f:∀j:Nat,j<len t→Bn (cl t j 0)=true) :
  (Es (AA 0 0) M (.int 0) (.bool false) t (.bool b)=.row [.int 1,.bool false]∧¬∀j,j<len t→RO M (cl t j 0))∨
  (Es (AA 0 0) M (.int 0) (.bool false) t (.bool b)=.row [.int 2,.bool false]∧∀j,j<len t→RO M (cl t j 0)):=by
 rw [sA];rcases YV (b:=b) d e f (len t) 0 (by omega) with ⟨a,c⟩|⟨a,c⟩
 ·exact .inl ⟨a,fun h=>c fun j _ hj=>h j hj⟩
 ·exact .inr ⟨a,fun j hj=>c j (zz _) hj⟩
def vM (M t:D) (i:Nat):Int:=if 0<fac t i then hiM M (cl t i 0) else loM M (cl t i 0)
def T1 (M t:D) (base:Int):Nat→Int
 |0=>base
 |i+1=>IntKind.wrap .i64 (T1 M t base i+IntKind.wrap .i64 (fac t i*vM M t i))
theorem fY {t M:D} {base:Int} (f:len t≤1000000) (d:∀j:Nat,j<len t→0≤ixM M (cl t j 0)):DX (.int base) t M (.bool false)=.row [.int 1,.int (T1 M t base (len t))]:=by
 rw [fB]
 have e:∀k i,i+k=len t→EY (.int (T1 M t base i)) t (.int (i:Nat)) M (.bool false)=.row [.int 1,.int (T1 M t base (len t))]:=by
  intro k
  induction k with
  |zero=>
   intro i h;have:i=len t:=h;subst this;rw [U3,ifF (by omega)]
  |succ k ih=>
   intro i h;have g:=d i (by omega)
   have c:ixM M (cl t i 0)=mIx [.str] M (.row [cl t i 0]):=rfl;rw [U3,ifT (by omega),ifF (by omega),AL (by omega),ifF (by rw [←c];omega)]
   refine (?_:cond (decide (0<fac t i)) (EY (.int (IntKind.wrap .i64 (T1 M t base i+IntKind.wrap .i64 (fac t i*hiM M (cl t i 0))))) t (.int ((i+1:Nat):Int)) M (.bool false)) (EY (.int (IntKind.wrap .i64 (T1 M t base i+IntKind.wrap .i64 (fac t i*loM M (cl t i 0))))) t (.int ((i+1:Nat):Int)) M (.bool false))=_);have a:=ih (i+1) (by omega)
   rw [T1,vM] at a;by_cases b:0<fac t i
   ·rw [ifT b];rw [if_pos b] at a;exact a
   ·rw [ifF b];rw [if_neg b] at a;exact a
 exact e (len t) 0 (by omega)
theorem TB {t M:D} {base:Int} {c:Bool} (d:len t≤1000000):IsI (DX (.int base) t M (.bool c)):=by
 rw [fB]
 have b:∀k i (a:Int),i+k=len t→IsI (EY (.int a) t (.int (i:Nat)) M (.bool c)):=by
  intro k
  induction k with
  |zero=>
   intro i a h;have:i=len t:=h;subst this;rw [U3,ifF (by omega)]
   exact ⟨_,rfl⟩
  |succ k ih=>
   intro i a h;rw [U3,ifT (by omega),ifF (by omega),AL (by omega)]
   repeat' apply qc
   all_goals exact ih (i+1) _ (by omega)
 exact b (len t) 0 base (by omega)
end
end Mx
namespace Mx
open Go Go.AE
section
variable [Ap]
structure SZ (v t:D) (base:Int) (n:Nat):Prop where
 lo:-1048576≤base
 hi:base≤1048576
 few:len t≤4
 terms:∀j,j<len t→TOK t j
 known:∀j:Nat,j<len t→0≤ixM (AO v n) (cl t j 0)
 right:∀j,j<len t→RO (AO v n) (cl t j 0)
 run:∃r m,Ul t Ad=.row [.int 1,.int r,m]∧r<0
def Jm (d:D):Prop:=∃a b c:Int,d=.row [.int 1,.int a,.int b,.int c]
theorem vK {v:D} {n:Nat} (a:n≤len v) (c:DN v n):DN (sb v 0 (n:Nat)) (len (sb v 0 (n:Nat))):=by
 have d:len (sb v 0 (n:Nat))=n:=by rw [Nl (by simp) (by simpa using a)];simp
 rw [d];intro j k e b;rw [O7 a (by omega),O7 a b]
 exact c j k e b
theorem X1 {v:D} {n:Nat} (hv:len v≤1000000) (a:n≤len v) (c:DN v n):Bm (sb v 0 (n:Nat))=.row [.int 1,AO v n]:=by
 have b:len (sb v 0 (n:Nat))=n:=by rw [Nl (by simp) (by simpa using a)];simp
 rw [ew (by rw [b];omega) (vK a c),b,VE a n (L1 _)]
theorem CV {t:D}:len (ct Ad t)=len t:=by simp [len,ct,Ad,D.rows]
theorem E6 {t:D} {i:Int} {j:Nat}:cl (ct Ad t) i j=cl t i j:=by simp [cl,ct,Ad,D.rows]
section
variable {v0 v1 v2 v3 v4 v7 v9 v18 v19 v20 v21:D} {v5 v10 v11 v14 v15 v22 v23:Int} {v12 v13:Bool}
theorem lg {v t:D} {n:Nat} {base:Int} (hv:len v≤1000000) (w:n≤len v) (x:DN v n) (a:t.isNil=true→len t=0) (y:len t≤1000) :
  Jm (IE v0 v1 v2 v3 v4 (.int v5) (.int (n:Nat)) v7 v v9 (.int v10) (.int v11) (.bool v12) (.bool v13) (.int v14) (.int v15) (.int base) t v18 v19 v20 v21 (.int v22) (.int v23))∨
  (IE v0 v1 v2 v3 v4 (.int v5) (.int (n:Nat)) v7 v v9 (.int v10) (.int v11) (.bool v12) (.bool v13) (.int v14) (.int v15) (.int base) t v18 v19 v20 v21 (.int v22) (.int v23)=.row [.int 2]∧SZ v t base n):=by
 rw [Zj];by_cases p:base < -1048576
 ·rw [ifT p];exact .inl ⟨_,_,_,rfl⟩
 ·rw [ifF p];refine (?_:Jm (cond (decide ((sl (BB (l2 (!decide (1048576<base)) (!decide (4<(len t:Int)))) (.bool false) (.bool false)) 0).toInt=1)) (cond (decide ((sl (BB (l2 (!decide (1048576<base)) (!decide (4<(len t:Int)))) (.bool false) (.bool false)) 1).toInt<0)) _ _) _)∨(cond (decide ((sl (BB (l2 (!decide (1048576<base)) (!decide (4<(len t:Int)))) (.bool false) (.bool false)) 0).toInt=1)) (cond (decide ((sl (BB (l2 (!decide (1048576<base)) (!decide (4<(len t:Int)))) (.bool false) (.bool false)) 1).toInt<0)) _ _) _=_∧_));rw [SF,AC];by_cases q:1048576<base
  ·rw [oj q,ifF (by show ¬(0:Int)<0;decide)];exact .inl ⟨_,_,_,rfl⟩
  ·rw [ll q];by_cases s:4<(len t:Int)
   ·rw [oj s,ifF (by show ¬(1:Int)<0;decide)];exact .inl ⟨_,_,_,rfl⟩
   ·rw [ll s,ifT (by show (-1:Int)<0;decide)]
    obtain ⟨r,m,i,k⟩:=om (t:=t) (by omega)
    rw [i,X1 hv w x];refine (?_:Jm (cond (decide ((1:Int)=1)) (cond (decide (r<0)) _ _) _)∨(cond (decide ((1:Int)=1)) (cond (decide (r<0)) _ _) _=_∧_));rw [ifT rfl];by_cases d:r<0
    ·have l:=k d;rw [ifT d,ifF (by omega),ifF (by omega)]
     refine (?_:Jm (cond (decide ((1:Int)=1)) (cond t.isNil _ _) _)∨(cond (decide ((1:Int)=1)) (cond t.isNil _ _) _=_∧_));rw [ifT rfl];obtain ⟨k1,e⟩:=TB (t:=t) (M:=AO v n) (base:=base) (c:=true) (by omega)
     obtain ⟨k2,f⟩:=TB (t:=t) (M:=AO v n) (base:=base) (c:=false) (by omega)
     cases z:t.isNil with
     |true=>
      have C:=a z;refine (?_:Jm (cond true _ _)∨(cond true _ _=_∧_));rw [vx];have A:SZ v t base n:=⟨by omega,by omega,by omega,l,fun j hj=>by omega,fun j hj=>by omega,⟨r,m,i,d⟩⟩
      rcases ZR (v0:=v0) (v1:=v1) (v2:=v2) (v3:=v3) (v4:=v4) (v5:=v5) (v6:=(n:Nat)) (v7:=v7) (v8:=v) (M:=AO v n) (t:=B0) (b:=true) (by decide) with g|⟨g,_⟩
      ·refine .inl ?_;rw [show sl (.row [.int 1,AO v n]) 1=AO v n from rfl,g]
       exact ⟨_,_,_,rfl⟩
      ·rw [show sl (.row [.int 1,AO v n]) 1=AO v n from rfl,g]
       rcases Pm (t:=B0) (M:=AO v n) (b:=true) (by decide) (fun j hj=>absurd hj (gk _)) (fun j hj=>absurd hj (gk _)) with ⟨u,u2⟩|⟨u,_⟩
       ·exact absurd (fun j hj=>absurd hj (gk _)) u2
       ·rw [u,e,f];refine (?_:Jm (cond (decide (k1<0)) _ (cond (decide (1048576<k2)) _ _))∨(cond (decide (k1<0)) _ (cond (decide (1048576<k2)) _ _)=_∧_));by_cases c1:k1<0
        ·rw [ifT c1];exact .inl ⟨_,_,_,rfl⟩
        ·rw [ifF c1];by_cases c2:1048576<k2
         ·rw [ifT c2];exact .inl ⟨_,_,_,rfl⟩
         ·rw [ifF c2];exact .inr ⟨rfl,A⟩
     |false=>
      refine (?_:Jm (cond false _ _)∨(cond false _ _=_∧_));rw [lp,ifT (by omega)]
      simp only [Bool.false_and];rcases ZR (v0:=v0) (v1:=v1) (v2:=v2) (v3:=v3) (v4:=v4) (v5:=v5) (v6:=(n:Nat)) (v7:=v7) (v8:=v) (M:=AO v n) (t:=ct Ad t) (b:=false) (by rw [CV];omega) with g|⟨g,B⟩
      ·refine .inl ?_;rw [show sl (.row [.int 1,AO v n]) 1=AO v n from rfl,g]
       exact ⟨_,_,_,rfl⟩
      ·rw [show sl (.row [.int 1,AO v n]) 1=AO v n from rfl,g]
       have h:∀j:Nat,j<len t→0≤ixM (AO v n) (cl t j 0):=fun j hj=>by
        have:=B j (by rw [CV];exact hj)
        rw [E6] at this;exact this
       rcases Pm (t:=ct Ad t) (M:=AO v n) (b:=false) (by rw [CV];omega) (fun j hj=>by rw [E6];exact h j (by rw [←CV];exact hj)) (fun j hj=>by rw [E6];exact (l j (by rw [←CV];exact hj)).name) with ⟨u,u2⟩|⟨u,u2⟩
       ·rw [u];exact .inl ⟨_,_,_,rfl⟩
       ·have o:∀j,j<len t→RO (AO v n) (cl t j 0):=fun j hj=>by
         have:=u2 j (by rw [CV];exact hj)
         rw [E6] at this;exact this
        rw [u,e,f];refine (?_:Jm (cond (decide (k1<0)) _ (cond (decide (1048576<k2)) _ _))∨(cond (decide (k1<0)) _ (cond (decide (1048576<k2)) _ _)=_∧_));by_cases c1:k1<0
        ·rw [ifT c1];exact .inl ⟨_,_,_,rfl⟩
        ·rw [ifF c1];by_cases c2:1048576<k2
         ·rw [ifT c2];exact .inl ⟨_,_,_,rfl⟩
         ·rw [ifF c2];exact .inr ⟨rfl,⟨by omega,by omega,by omega,l,h,o,⟨r,m,i,d⟩⟩⟩
    ·rw [ifF d];exact .inl ⟨_,_,_,rfl⟩
end
end
end Mx
namespace Mx
open Go Go.AE
section
variable [Ap]
structure FT (v:D):Prop where
 i1:∀i:Nat,i<len v→∃n,cl v i 1=.int n
 i2:∀i:Nat,i<len v→∃n,cl v i 2=.int n
 b3:∀i:Nat,i<len v→∃n,cl v i 3=.bool n
 b4:∀i:Nat,i<len v→∃n,cl v i 4=.bool n
 i5:∀i:Nat,i<len v→∃n,cl v i 5=.int n
 i6:∀i:Nat,i<len v→∃n,cl v i 6=.int n
 i7:∀i:Nat,i<len v→∃n,cl v i 7=.int n
 i13:∀i:Nat,i<len v→∃n,cl v i 13=.int n
 i14:∀i:Nat,i<len v→∃n,cl v i 14=.int n
 few:len v≤16
 nil8:∀i:Nat,i<len v→(cl v i 8).isNil=true→len (cl v i 8)=0
 len8:∀i:Nat,i<len v→len (cl v i 8)≤6
 len12:∀i:Nat,i<len v→len (cl v i 12)≤10
 case:∀i:Nat,i<len v→∀j:Nat,j<len (cl v i 12)→(∃n,cl (cl v i 12) j 0=.int n)∧∃n,cl (cl v i 12) j 1=.int n
theorem Vr {v:D} (h:FT v) {j:Nat} (hj:j<len v):∃n,hiC v j=.int n:=by
 unfold hiC;cases decide (kd v j=2)
 ·exact h.i6 j hj
 ·exact h.i5 j hj
section
variable {v0 v1 v2 v3 v4 v7 v9 v17 v18 v19 v20 v21:D} {v5 v10 v11 v14 v15 v16 v22 v23:Int} {v12 v13:Bool}
theorem jE {v:D} (h:len v≤1000000):IsI (Su v v9 (.int v10) (.int v11) (.bool v12) (.bool v13) (.int v14) (.int v15) (.int v16) v17 v18 v19 v20 v21 (.int v22) (.int v23)):=by
 rw [qI];refine tot (F:=fun j=>L8 v (.int (j:Nat)) v9 (.int v10) (.int v11) (.bool v12) (.bool v13) (.int v14) (.int v15) (.int v16) v17 v18 v19 v20 v21 (.int v22) (.int v23)) (Q:=IsI) (n:=len v) ?_ ?_ (len v) 0 (by omega)
 ·refine (?_:IsI (L8 v (.int ((len v:Nat):Int)) v9 (.int v10) (.int v11) (.bool v12) (.bool v13) (.int v14) (.int v15) (.int v16) v17 v18 v19 v20 v21 (.int v22) (.int v23)));rw [en,ifF (by omega)]
  exact ⟨_,rfl⟩
 ·intro j hj ih;refine (?_:IsI (L8 v (.int ((j:Nat):Int)) v9 (.int v10) (.int v11) (.bool v12) (.bool v13) (.int v14) (.int v15) (.int v16) v17 v18 v19 v20 v21 (.int v22) (.int v23)));rw [en,ifT (by omega),ifF (by omega),AL (by omega)]
  repeat' apply qc
  all_goals first|exact ih|exact ⟨_,rfl⟩
def FF (d:D):Prop:=Jm d∨d=.row [.int 2]
theorem VP {v8:D} {v6 lo hi n m:Int}:(∃a b:Int,CZ v0 v1 v2 v3 v4 (.int v5) (.int v6) v7 v8 (.int lo) (.int hi) (m2 n m) (.bool false)=.row [.int 1,.int a,.int b])∨
  (CZ v0 v1 v2 v3 v4 (.int v5) (.int v6) v7 v8 (.int lo) (.int hi) (m2 n m) (.bool false)=.row [.int 2]∧lo≤n∧n≤m∧n≤hi∧m≤hi):=by
 rw [S4];by_cases h:lo≤n∧n≤m∧n≤hi∧m≤hi
 ·rw [ifT h];exact .inr ⟨rfl,h⟩
 ·rw [ifF h];exact .inl ⟨_,_,rfl⟩
theorem cy {c:D} {d lo hi n:Int}:(∃a b:Int,CZ v0 v1 v2 v3 v4 (.int v5) (.int d) v7 c (.int lo) (.int hi) (m1 n) (.bool false)=.row [.int 1,.int a,.int b])∨
  (CZ v0 v1 v2 v3 v4 (.int v5) (.int d) v7 c (.int lo) (.int hi) (m1 n) (.bool false)=.row [.int 2]∧lo≤n∧n≤hi):=by
 rw [Th];by_cases h:lo≤n∧n≤hi
 ·rw [ifT h];exact .inr ⟨rfl,h⟩
 ·rw [ifF h];exact .inl ⟨_,_,rfl⟩
def FR (P:Prop) (d:D):Prop:=Jm d∨(d=.row [.int 2]∧P)
theorem FR.imp {P Q:Prop} {d:D} (h:FR P d) (f:P→Q):FR Q d:=Or.imp id (fun ⟨a,b⟩=>⟨a,f b⟩) h
theorem UQ {v8 c:D} {v6 d hi:Int} (q:len c≤1000) (o:∀j:Nat,j<len c→(∃n,cl c j 0=.int n)∧∃n,cl c j 1=.int n):∀k i (lo:Int),i+k=len c→
  FR (∀j:Nat,i≤j→j<len c→¬mIx [.str] v3 (.row [cl c j 2])<0) (Od (.int lo) c (.int (i:Nat)) v0 v1 v2 (.int v5) (.int v6) v7 v8 v3 v4 (.int d) (.int hi))
 |0,i,lo,h=>by
  have:i=len c:=h;subst this;rw [Oh,ifF (by omega)]
  exact .inr ⟨rfl,fun j r p=>by omega⟩
 |k+1,i,lo,h=>by
  have e:i<len c:=by omega
  obtain ⟨⟨n,s⟩,⟨m,t⟩⟩:=o i e;rw [Oh,ifT (by omega),ifF (by omega),AL (by omega),s,t]
  rcases VP (v0:=v0) (v1:=v1) (v2:=v2) (v3:=v3) (v4:=v4) (v5:=v5) (v6:=v6) (v7:=v7) (v8:=v8) (lo:=lo) (hi:=hi) (n:=n) (m:=m) with ⟨a,b,g⟩|⟨g,_⟩
  ·refine .inl ?_;unfold m2 at g;rw [g];exact ⟨_,_,_,rfl⟩
  ·unfold m2 at g;rw [g];refine (?_:FR _ (cond (decide ((2:Int)=1)) _ (cond (decide ((2:Int)=2)) (cond (decide (mIx [.str] v3 (.row [cl c i 2])<0)) _ _) _)));rw [ifF (by decide),ifT rfl]
   by_cases f:mIx [.str] v3 (.row [cl c i 2])<0
   ·rw [ifT f];exact .inl ⟨_,_,_,rfl⟩
   ·rw [ifF f];refine (UQ q o k (i+1) _ (by omega)).imp fun u j r p=>?_
    rcases R2 i j with l|l
    ·exact u j (by omega) p
    ·have:j=i:=by omega
     subst this;exact f
theorem ZG {v:D} {n:Nat} (hv:FT v) (d:n≤len v) (e:DN v n) (a:len v21≤1000) (f:∀j:Nat,j<len v21→(∃n,cl v21 j 0=.int n)∧∃n,cl v21 j 1=.int n) :
  FR (∀j:Nat,j<len v21→¬mIx [.str] v3 (.row [cl v21 j 2])<0) (KF v0 v1 v2 v3 v4 (.int v5) (.int (n:Nat)) v7 v v9 (.int v10) (.int v11) (.bool v12) (.bool v13) (.int v14) (.int v15) (.int v16) v17 v18 v19 v20 v21 (.int v22) (.int v23)):=by
 have r:=hv.few;have g:len (sb v 0 (n:Nat))=n:=by rw [Nl (by simp) (by simpa using d)];simp
 obtain ⟨k,h⟩:=jE (v:=sb v 0 (n:Nat)) (v9:=v9) (v10:=v10) (v11:=v11) (v12:=v12) (v13:=v13) (v14:=v14) (v15:=v15) (v16:=v16) (v17:=v17) (v18:=v18) (v19:=v19) (v20:=v20) (v21:=v21) (v22:=v22) (v23:=v23) (by rw [g];omega)
 rw [ZD,ifF (by omega),ifF (by omega),X1 (by omega) d e,h]
 refine (?_:FR _ (cond (decide ((1:Int)=1)) (cond (decide (mIx [.str] (AO v n) (.row [v19])<0)) _ _) _));rw [ifT rfl];rcases En (v:=v) (nm:=v19) n with ⟨i,_⟩|⟨q,s,t,u,w,x,l,m⟩
 ·rw [ifT i];exact .inl ⟨_,_,_,rfl⟩
 ·rw [ifF (by omega)]
  obtain ⟨o,b⟩:=hv.i5 q (by omega)
  obtain ⟨y,c⟩:=Vr hv (j:=q) (by omega)
  rw [show sl (.row [.int 1,AO v n]) 1=AO v n from rfl,l,m,b,c]
  refine (?_:FR _ (cond (decide ((1:Int)=1)) (cond (decide (k<0)) _ _) _));rw [ifT rfl];refine qc ?_ (.inl ⟨_,_,_,rfl⟩);refine qc (.inl ⟨_,_,_,rfl⟩) (qc (.inl ⟨_,_,_,rfl⟩) ?_);exact (UQ a f (len v21) 0 o (by omega)).imp fun p j hj=>p j (zz _) hj
end
end
end Mx
namespace Mx
open Go Go.AE
section
variable [Ap]
structure EX' (v:D) (i:Nat) (k b lo hi base ck:Int):Prop where
 name:Bn (cl v i 0)=true
 new:∀j,j<i→D.strEq (cl v j 0) (cl v i 0)=false
 k12:k=1∨k=2→1≤b∧b≤32
 k3:k=3→0≤lo∧lo≤hi∧hi≤34359738367
 k4:k=4→SZ v (cl v i 8) base i
 k56:k=5∨k=6→0≤hi∧hi≤1048576
 k10:k=10→b=2∨b=4∨(8≤b∧b≤512∧ari .rem .i64 b 8=0)
 k11:k=11→1≤ck∧ck≤3
def EX (v:D) (i:Nat):Prop:=EX' v i (cl v i 1).toInt (cl v i 2).toInt (cl v i 5).toInt (cl v i 6).toInt (cl v i 7).toInt (cl v i 13).toInt
def RX (M N v:D) (i:Nat):Prop:=(kd v i=7∨kd v i=8→¬mIx [.str] M (.row [cl v i 9])<0)∧(kd v i=12→¬mIx [.str] N (.row [cl v i 9])<0)∧(kd v i=9→∀j:Nat,j<len (cl v i 12)→¬mIx [.str] M (.row [cl (cl v i 12) j 2])<0)
def Q16 (M N v:D) (i:Nat) (d:D):Prop:=Jm d∨(d=.row [.int 2]∧EX v i∧RX M N v i)
theorem A3 {M N v:D} {i:Nat} {a b c:Int}:Q16 M N v i (.row [.int 1,.int a,.int b,.int c]):=.inl ⟨_,_,_,rfl⟩
section
variable {v0 v1 v2 v3 v4 v7:D} {v5:Int}
theorem Wl {v8:D} {v6 lo hi n:Int}:∃F,CZ v0 v1 v2 v3 v4 (.int v5) (.int v6) v7 v8 (.int lo) (.int hi) (m1 n) (.bool false)=F∧((∃a b:Int,F=.row [.int 1,.int a,.int b])∨(F=.row [.int 2]∧lo≤n∧n≤hi)):=⟨_,rfl,cy⟩
theorem wL {v8:D} {v6 lo hi n m:Int}:∃F,CZ v0 v1 v2 v3 v4 (.int v5) (.int v6) v7 v8 (.int lo) (.int hi) (m2 n m) (.bool false)=F∧((∃a b:Int,F=.row [.int 1,.int a,.int b])∨(F=.row [.int 2]∧lo≤n∧n≤m∧n≤hi∧m≤hi)):=⟨_,rfl,VP⟩
theorem YI {v:D} {i:Nat} (hv:FT v) (hi:i<len v) (T:DN v i):Q16 v3 v4 v i (Ra v0 v1 v2 v3 v4 (.int v5) (.int (i:Nat)) v7 v (cl v i 0) (cl v i 1) (cl v i 2) (cl v i 3) (cl v i 4) (cl v i 5) (cl v i 6) (cl v i 7) (cl v i 8) (cl v i 9) (cl v i 10) (cl v i 11) (cl v i 12) (cl v i 13) (cl v i 14)):=by
 obtain ⟨e,L⟩:=hv.i1 i hi;obtain ⟨q,U⟩:=hv.i2 i hi;obtain ⟨V,h3⟩:=hv.b3 i hi;obtain ⟨W,h4⟩:=hv.b4 i hi;obtain ⟨z,X⟩:=hv.i5 i hi;obtain ⟨t,Y⟩:=hv.i6 i hi;obtain ⟨H,Z⟩:=hv.i7 i hi;obtain ⟨w,C⟩:=hv.i13 i hi;obtain ⟨A,M⟩:=hv.i14 i hi;have f:EX v i↔EX' v i e q z t H w:=by unfold EX;rw [L,U,X,Y,Z,C];exact Iff.rfl
 have few:=hv.few;have aa:kd v i=e:=by unfold kd;rw [L];rfl
 have r:e≠7∧e≠8∧e≠9∧e≠12→RX v3 v4 v i:=fun u=>⟨fun h=>by omega,fun h=>by omega,fun h=>by omega⟩
 have B:len (sb v 0 (i:Nat))=i:=by rw [Nl (by simp) (by simpa using Nat.le_of_lt hi)];simp
 rw [L,U,h3,h4,X,Y,Z,C,M]
 obtain ⟨E,g0,H0⟩:∃F,IE v0 v1 v2 v3 v4 (.int v5) (.int (i:Nat)) v7 v (cl v i 0) (.int e) (.int q) (.bool V) (.bool W) (.int z) (.int t) (.int H) (cl v i 8) (cl v i 9) (cl v i 10) (cl v i 11) (cl v i 12) (.int w) (.int A)=F∧(Jm F∨(F=.row [.int 2]∧SZ v (cl v i 8) H i)):=
  ⟨_,rfl,lg (by omega) (by omega) T (hv.nil8 i hi) (by have:=hv.len8 i hi;omega)⟩
 obtain ⟨F3,g3,H3⟩:∃F,KF v0 v1 v2 v3 v4 (.int v5) (.int (i:Nat)) v7 v (cl v i 0) (.int e) (.int q) (.bool V) (.bool W) (.int z) (.int t) (.int H) (cl v i 8) (cl v i 9) (cl v i 10) (cl v i 11) (cl v i 12) (.int w) (.int A)=F∧FR (∀j:Nat,j<len (cl v i 12)→¬mIx [.str] v3 (.row [cl (cl v i 12) j 2])<0) F:=
  ⟨_,rfl,ZG hv (by omega) T (by have:=hv.len12 i hi;omega) (hv.case i hi)⟩
 obtain ⟨I,g1,H1⟩:=wL (v0:=v0) (v1:=v1) (v2:=v2) (v3:=v3) (v4:=v4) (v5:=v5) (v7:=v7) (v8:=v) (v6:=(i:Nat)) (lo:=0) (hi:=IntKind.wrap .i64 ((ari .shl .i64 1 q)-1)) (n:=z) (m:=t);obtain ⟨J,g2,H2⟩:=Wl (v0:=v0) (v1:=v1) (v2:=v2) (v3:=v3) (v4:=v4) (v5:=v5) (v7:=v7) (v8:=v) (v6:=(i:Nat)) (lo:=0) (hi:=IntKind.wrap .i64 ((ari .shl .i64 1 q)-1)) (n:=z);obtain ⟨F5,g5,H5⟩:=wL (v0:=v0) (v1:=v1) (v2:=v2) (v3:=v3) (v4:=v4) (v5:=v5) (v7:=v7) (v8:=v) (v6:=(i:Nat)) (lo:=0) (hi:=34359738367) (n:=z) (m:=t);obtain ⟨F7,g7,H7⟩:=Wl (v0:=v0) (v1:=v1) (v2:=v2) (v3:=v3) (v4:=v4) (v5:=v5) (v7:=v7) (v8:=v) (v6:=(i:Nat)) (lo:=0) (hi:=4294967295) (n:=A);obtain ⟨F8,g8,H8⟩:=Wl (v0:=v0) (v1:=v1) (v2:=v2) (v3:=v3) (v4:=v4) (v5:=v5) (v7:=v7) (v8:=v) (v6:=(i:Nat)) (lo:=2) (hi:=1048576) (n:=t);obtain ⟨K,g9,H9⟩:=Wl (v0:=v0) (v1:=v1) (v2:=v2) (v3:=v3) (v4:=v4) (v5:=v5) (v7:=v7) (v8:=v) (v6:=(i:Nat)) (lo:=0) (hi:=1048576) (n:=t);obtain ⟨y,N,O⟩:=Wl (v0:=v0) (v1:=v1) (v2:=v2) (v3:=v3) (v4:=v4) (v5:=v5) (v7:=v7) (v8:=v) (v6:=(i:Nat)) (lo:=0) (hi:=255) (n:=z);obtain ⟨ab,P,Q⟩:=Wl (v0:=v0) (v1:=v1) (v2:=v2) (v3:=v3) (v4:=v4) (v5:=v5) (v7:=v7) (v8:=v) (v6:=(i:Nat)) (lo:=1) (hi:=3) (n:=w);rw [X0 _ _ _ _ _ _ _ _ _ _ _ _ _ _ _ _ _ _ _ _ _ _ _ _ g0 g1 g2 g3 (gH _) g5 (iA _) g7 g8 g9 N P,JH,Xg (by rw [B];omega),Xg (by rw [B];omega)]
 refine qT rfl ?_;cases o:Bn (cl v i 0) with
 |false=>exact A3
 |true=>
  refine (?_:Q16 v3 v4 v i (cond true _ _));rw [vx,ifF (by omega),ifF (by omega)]
  refine qT rfl ?_;by_cases R:fld (sb v 0 (i:Nat)) (cl v i 0)<0
  ·have d:∀j,j<i→D.strEq (cl v j 0) (cl v i 0)=false:=fun j hj=>by
    have:=In (p:=fun j=>D.strEq (cl (sb v 0 (i:Nat)) j 0) (cl v i 0)) (k:=len (sb v 0 (i:Nat))) (i:=0) (j:=j) (by omega) (.inr ⟨R,by rw [B];omega⟩)
    simp only [O7 (Nat.le_of_lt hi) hj] at this;exact this
   refine qT R ?_;by_cases k1:e=1
   ·rw [ifT k1];refine qc (qT rfl (qc (qT rfl (qc ?_ A3)) A3)) A3;by_cases c1:q<1
    ·rw [ifT c1];exact A3
    ·rw [ifF c1];by_cases c2:32<q
     ·rw [ifT c2];exact A3
     ·rw [ifF c2];have ok:EX v i:=f.2 (by refine ⟨o,d,?_,?_,?_,?_,?_,?_⟩<;>intro u<;>first | (exfalso;omega)|exact ⟨by omega,by omega⟩)
      have fin:Q16 v3 v4 v i (cond (decide ((sl I 0).toInt=1)) (.row [.int 1,(sl I 1),(sl I 2),(.int 7)]) (cond (decide ((sl I 0).toInt=2)) (.row [.int 2]) (.row []))):=by
       rcases H1 with ⟨a,b,g⟩|⟨g,_⟩
       ·subst g;exact qT rfl A3
       ·subst g;exact qF (by show ¬(2:Int)=1;decide) (qT rfl (.inr ⟨rfl,ok,r (by omega)⟩))
      exact qc (qc (qc fin A3) A3) fin
   ·rw [ifF k1];by_cases k2:e=2
    ·rw [ifT k2];refine qc (qT rfl (qc (qT rfl (qc ?_ A3)) A3)) A3;by_cases c1:q<1
     ·rw [ifT c1];exact A3
     ·rw [ifF c1];by_cases c2:32<q
      ·rw [ifT c2];exact A3
      ·rw [ifF c2];have ok:EX v i:=f.2 (by refine ⟨o,d,?_,?_,?_,?_,?_,?_⟩<;>intro u<;>first | (exfalso;omega)|exact ⟨by omega,by omega⟩)
       have fin:Q16 v3 v4 v i (cond (decide ((sl J 0).toInt=1)) (.row [.int 1,(sl J 1),(sl J 2),(.int 7)]) (cond (decide ((sl J 0).toInt=2)) (.row [.int 2]) (.row []))):=by
        rcases H2 with ⟨a,b,g⟩|⟨g,_⟩
        ·subst g;exact qT rfl A3
        ·subst g;exact qF (by show ¬(2:Int)=1;decide) (qT rfl (.inr ⟨rfl,ok,r (by omega)⟩))
       exact qc (qc (qc fin A3) A3) fin
    ·rw [ifF k2];by_cases k3:e=3
     ·rw [ifT k3];refine qc (qT rfl (qc (qT rfl (qc ?_ A3)) A3)) A3;rcases H5 with ⟨a,b,g⟩|⟨g,l⟩
      ·subst g;exact qT rfl A3
      ·subst g;refine qF (by show ¬(2:Int)=1;decide) (qT rfl (.inr ⟨rfl,f.2 ?_,r (by omega)⟩))
       refine ⟨o,d,?_,?_,?_,?_,?_,?_⟩<;>intro u<;>first | (exfalso;omega)|exact ⟨by omega,by omega,by omega⟩
     ·rw [ifF k3];by_cases k4:e=4
      ·rw [ifT k4];refine qc (qT rfl (qc ?_ A3)) A3;rcases H0 with ⟨a,b,c,g⟩|⟨g,l⟩
       ·subst g;exact qT rfl A3
       ·subst g;refine qF (by show ¬(2:Int)=1;decide) (qT rfl (.inr ⟨rfl,f.2 ?_,r (by omega)⟩))
        refine ⟨o,d,?_,?_,?_,?_,?_,?_⟩<;>intro u<;>first | (exfalso;omega)|exact l
      ·rw [ifF k4];by_cases k5:e=5
       ·rw [ifT k5];refine qc (qT rfl (qc (qT rfl (qc ?_ A3)) A3)) A3
        have r9:∀{x:D},(0≤t∧t≤1048576→Q16 v3 v4 v i x)→Q16 v3 v4 v i (cond (decide ((sl K 0).toInt=1)) (.row [.int 1,(sl K 1),(sl K 2),(.int 7)]) (cond (decide ((sl K 0).toInt=2)) x (.row []))):=fun s=>by
         rcases H9 with ⟨a,b,g⟩|⟨g,l⟩
         ·subst g;exact qT rfl A3
         ·subst g;exact qF (by show ¬(2:Int)=1;decide) (qT rfl (s l))
        have G:∀{x:D},Q16 v3 v4 v i x→Q16 v3 v4 v i (cond (decide ((sl y 0).toInt=1)) (.row [.int 1,(sl y 1),(sl y 2),(.int 7)]) (cond (decide ((sl y 0).toInt=2)) x (.row []))):=fun s=>by
         rcases O with ⟨a,b,g⟩|⟨g,l⟩
         ·subst g;exact qT rfl A3
         ·subst g;exact qF (by show ¬(2:Int)=1;decide) (qT rfl s)
        have ok:0≤t∧t≤1048576→Q16 v3 v4 v i (.row [.int 2]):=fun l=>.inr ⟨rfl,f.2 (by refine ⟨o,d,?_,?_,?_,?_,?_,?_⟩<;>intro u<;>first | (exfalso;omega)|exact l),r (by omega)⟩
        first|exact r9 (fun l=>G (ok l))|exact G (r9 fun l=>ok l)
       ·rw [ifF k5];by_cases k6:e=6
        ·rw [ifT k6];refine qc (qT rfl (qc (qT rfl (qc ?_ A3)) A3)) A3;rcases H8 with ⟨a,b,g⟩|⟨g,l⟩
         ·subst g;exact qT rfl A3
         ·subst g;refine qF (by show ¬(2:Int)=1;decide) (qT rfl (.inr ⟨rfl,f.2 ?_,r (by omega)⟩))
          refine ⟨o,d,?_,?_,?_,?_,?_,?_⟩<;>intro u<;>first | (exfalso;omega)|exact ⟨by omega,by omega⟩
        ·rw [ifF k6]
         have r0:(e≠4∧e≠10∧e≠11)→RX v3 v4 v i→Q16 v3 v4 v i (cond (decide ((sl E 0).toInt=1)) (.row [.int 1,(sl E 1),(sl E 2),(sl E 3)]) (cond (decide ((sl E 0).toInt=2)) (.row [.int 2]) (.row []))):=fun ac S=>by
          rcases H0 with ⟨a,b,c,g⟩|⟨g,l⟩
          ·subst g;exact qT rfl A3
          ·subst g;refine qF (by show ¬(2:Int)=1;decide) (qT rfl (.inr ⟨rfl,f.2 ?_,S⟩))
           refine ⟨o,d,?_,?_,?_,?_,?_,?_⟩<;>intro u<;>exfalso<;>omega
         by_cases k7:e=7
         ·rw [ifT k7];refine qc (qT rfl (qc ?_ A3)) A3;by_cases s:mIx [.str] v3 (.row [cl v i 9])<0
          ·rw [ifT s];exact A3
          ·rw [ifF s];exact r0 (by omega) ⟨fun _=>s,fun h=>by omega,fun h=>by omega⟩
         ·rw [ifF k7];by_cases k8:e=8
          ·rw [ifT k8];refine qc (qT rfl (qc (qT rfl (qc ?_ A3)) A3)) A3;by_cases s:mIx [.str] v3 (.row [cl v i 9])<0
           ·rw [ifT s];exact A3
           ·rw [ifF s];refine .inr ⟨rfl,f.2 ?_,⟨fun _=>s,fun h=>by omega,fun h=>by omega⟩⟩
            refine ⟨o,d,?_,?_,?_,?_,?_,?_⟩<;>intro u<;>exfalso<;>omega
          ·rw [ifF k8];by_cases k9:e=9
           ·rw [ifT k9];refine qc (qT rfl (qc ?_ A3)) A3;rcases H3 with ⟨a,b,c,g⟩|⟨g,l⟩
            ·subst g;exact qT rfl A3
            ·subst g;refine qF (by show ¬(2:Int)=1;decide) (qT rfl (.inr ⟨rfl,f.2 ?_,⟨fun h=>by omega,fun h=>by omega,fun _=>l⟩⟩))
             refine ⟨o,d,?_,?_,?_,?_,?_,?_⟩<;>intro u<;>exfalso<;>omega
           ·rw [ifF k9];by_cases k10:e=10
            ·rw [ifT k10];refine qc (qT rfl (qc (qT rfl (qc ?_ A3)) A3)) A3;have ok:(q=2∨q=4∨(8≤q∧q≤512∧ari .rem .i64 q 8=0))→Q16 v3 v4 v i (.row [.int 2]):=fun l=>.inr ⟨rfl,f.2 (by refine ⟨o,d,?_,?_,?_,?_,?_,?_⟩<;>intro u<;>first | (exfalso;omega)|exact l),r (by omega)⟩
             by_cases c1:q=2
             ·rw [ifT c1];exact ok (.inl c1)
             ·rw [ifF c1];by_cases c2:q=4
              ·rw [ifT c2];exact ok (.inr (.inl c2))
              ·rw [ifF c2];by_cases c3:q<8
               ·rw [ifT c3];exact A3
               ·rw [ifF c3];by_cases c4:512<q
                ·rw [ifT c4];exact A3
                ·rw [ifF c4];by_cases c5:ari .rem .i64 q 8=0
                 ·rw [ifT c5];exact ok (.inr (.inr ⟨by omega,by omega,c5⟩))
                 ·rw [ifF c5];exact A3
            ·rw [ifF k10];by_cases k11:e=11
             ·rw [ifT k11];refine qc (qT rfl (qc (qT rfl (qc ?_ A3)) A3)) A3;rcases Q with ⟨a,b,g⟩|⟨g,l⟩
              ·subst g;exact qT rfl A3
              ·subst g;refine qF (by show ¬(2:Int)=1;decide) (qT rfl (qT rfl (qc A3 (.inr ⟨rfl,f.2 ?_,r (by omega)⟩))))
               refine ⟨o,d,?_,?_,?_,?_,?_,?_⟩<;>intro u<;>first | (exfalso;omega)|exact l
             ·rw [ifF k11];by_cases k12:e=12
              ·rw [ifT k12];refine qc (qT rfl (qc ?_ A3)) A3;rcases H7 with ⟨a,b,g⟩|⟨g,l⟩
               ·subst g;exact qT rfl A3
               ·subst g;refine qF (by show ¬(2:Int)=1;decide) (qT rfl ?_)
                by_cases s:mIx [.str] v4 (.row [cl v i 9])<0
                ·rw [ifT s];exact A3
                ·rw [ifF s];exact qc (r0 (by omega) ⟨fun h=>by omega,fun _=>s,fun h=>by omega⟩) A3
              ·rw [ifF k12];exact A3
  ·exact qF R A3
end
end
end Mx

