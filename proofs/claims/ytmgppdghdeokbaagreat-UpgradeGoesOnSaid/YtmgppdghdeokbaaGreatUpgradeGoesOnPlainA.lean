/- What is proved: what the plain functions over data say, whose trees the text before writes out: the law UpgradeGoesOn answers true. Conditions: those that each theorem states. -/
import Derived.Test.YtmgppdghdeokbaaGreatUpgradeGoesOnTree
namespace Go.AE
section
variable [Ai]
def atV (a:List (List (Tr Plf))) (b:List D):Val:=DD (Ak a) b
def fin (a:List (List (Tr Plf))) (k:Nat) (V:Val):Plf→D
 |.stuck=>.row []
 |.done s cs=>.row (.int (s+1:Nat)::cs.map (Ab V))
 |.next j b=>Ak a k (.row (.int j::b.map (Ab V)))
def TK (a:List (List (Tr Plf))) (k:Nat) (V:Val) (t:Tr Plf):D:=fin a k V (t.get V)
theorem zw {a:List (List (Tr Plf))} (h:ID 0 a=true) {k p:Nat} {T:List (Tr Plf)} {t:Tr Plf} {b:List D} (d:a[k]?=some T) (hp:T[p]?=some t) :
  Ak a k (.row (.int (p:Nat)::b))=TK a k (atV a b) t:=by
 have c:Dt T (Ak a) (.row (.int (p:Nat)::b))=D5 (atV a b) (t.get (atV a b)):=by
  show (match T[p]? with|some t=>D5 _ (t.get _)|none=>none)=_
  rw [hp];rfl
 unfold TK fin;split
 ·rename_i e;rw [e] at c;rw [An h d];rcases FH (Dt T (Ak a)) (.row (.int (p:Nat)::b)) with q|⟨n,q⟩
  ·exact q
  ·cases n with
   |zero=>cases q
   |succ n=>
    simp only [FW,c] at q;cases q
 ·rename_i e;rw [e] at c;rw [An h d];exact QQ c
 ·rename_i e;rw [e] at c;rw [An h d,RH c,←An h d]
theorem Th {c:List (List (Tr Plf))} {k:Nat} {V:Val} {e:SB} {a b:Tr Plf}:TK c k V (.split e a b)=if Ah V e=true then TK c k V a else TK c k V b:=by
 unfold TK;rw [show (Tr.split e a b).get V=match Ah V e with|true=>a.get V|false=>b.get V from rfl]
 cases Ah V e<;>rfl
end
theorem AU {a:Int} (h:-9223372036854775808≤a) (h':a<9223372036854775808):IntKind.wrap .i64 a=a:=by
 show (if (true&&decide (a%(2^64:Int)≥2^63))=true then a%(2^64:Int)-2^64 else a%(2^64:Int))=a
 split
 ·rename_i q;simp only [hX,F4] at q;omega
 ·rename_i q;simp only [hX,F4] at q;omega
def len (d:D):Nat:=d.rows.length
def BE (d:D):Nat:=d.toStr.data.toList.length
def cl (a:D) (i:Int) (j:Nat):D:=(a.rows.getD i.toNat default).cells.getD j default
def sl (a:D) (j:Nat):D:=a.cells.getD j default
def Aw:D:=.slc true []
def Aq:D:=.slc false []
def ad (a r:D):D:=.slc false (a.rows++[r])
def upd (a:D) (i:Int) (j:Nat) (x:D):D:=.slc a.isNil (a.rows.modify i.toNat fun r=>.row (r.cells.set j x))
def ct (a b:D):D:=.slc (a.isNil&&b.rows.isEmpty) (a.rows++b.rows)
def sb (a:D) (lo hi:Int):D:=.slc a.isNil ((a.rows.drop lo.toNat).take (hi.toNat-lo.toNat))
def ni (a:D) (b:Bool):D:=.slc b a.rows
def CX (l b:Nat):D:=.str ⟨(DO l b).toArray⟩
def fN (a b:D):D:=.str (a.toStr++b.toStr)
def Ri (a:D):D:=.slc false (a.toStr.data.toList.map fun b=>.row [.int b.toNat])
def mIx (ks:List Kd) (a k:D):Int:=Ev ks k.cells a.rows 0
def Lj (a:D) (i:Int):D:=.slc a.isNil (a.rows.eraseIdx i.toNat)
def sAt (a:D) (i:Int):Int:=((a.toStr.data.toList[i.toNat]?).getD 0).toNat
def eqC (a:D) (l b:Nat):Bool:=strEq a.toStr.data.toList.length (AL a.toStr.data.toList) l b
def ari (a:BinOp) (k:IntKind) (x y:Int):Int:=match D7 a k x y with
 |some (.int _ n)=>n
 |_=>0
theorem ifT {c:Type} {p:Prop} [Decidable p] {a b:c} (h:p):cond (decide p) a b=a:=by rw [F6 h];rfl
theorem ifF {c:Type} {p:Prop} [Decidable p] {a b:c} (h:¬p):cond (decide p) a b=b:=by rw [F1 h];rfl
theorem cT {d:Type} {c:Bool} {a b:d} (h:c=true):cond c a b=a:=by rw [h];rfl
theorem cF {d:Type} {c:Bool} {a b:d} (h:c=false):cond c a b=b:=by rw [h];rfl
section
variable [Ai]
def Ew (c:List (List (Tr Plf))) (k:Nat) (V:Val):Tr Plf→D
 |.leaf l=>fin c k V l
 |.split e a b=>cond (Ah V e) (Ew c k V a) (Ew c k V b)
theorem Kt {c:List (List (Tr Plf))} {k:Nat} {V:Val}:∀t:Tr Plf,TK c k V t=Ew c k V t
 |.leaf l=>rfl
 |.split e a b=>by
  rw [Th,Kt a,Kt b,Ew];cases Ah V e<;>rfl
theorem ji {a:List (List (Tr Plf))} (h:ID 0 a=true) {k p:Nat} {T:List (Tr Plf)} {t:Tr Plf} {b:List D} (c:a[k]?=some T) (hp:T[p]?=some t) :
  Ak a k (.row (.int (p:Nat)::b))=Ew a k (atV a b) t:=(zw h c hp).trans (Kt t)
theorem cg {d:List (List (Tr Plf))} {k:Nat} {V:Val} {e:SB} {a b:Tr Plf} {c:Bool} {x y:D} (h:Ah V e=c) (f:Ew d k V a=x) (g:Ew d k V b=y):Ew d k V (.split e a b)=cond c x y:=by
 rw [Ew,h,f,g]
end
theorem lE {V:Val} {a b:SE} {x y:Int} (h:(Ab V a).toInt=x) (h':(Ab V b).toInt=y):Ah V (.lss a b)=decide (x<y):=by rw [←h,←h'];rfl
theorem qE {V:Val} {a b:SE} {x y:Int} (h:(Ab V a).toInt=x) (h':(Ab V b).toInt=y):Ah V (.eql a b)=decide (x=y):=by rw [←h,←h'];rfl
section
variable [Ai]
theorem cL {c:List (List (Tr Plf))} {k:Nat} {V:Val} {e f:SE} {a b:Tr Plf} {m n:Int} {x y:D} (d:Ew c k V a=x) (g:Ew c k V b=y) (h:(Ab V e).toInt=m:=by rfl) (h':(Ab V f).toInt=n:=by rfl):Ew c k V (.split (.lss e f) a b)=cond (decide (m<n)) x y:=cg (lE h h') d g
theorem cQ {c:List (List (Tr Plf))} {k:Nat} {V:Val} {e f:SE} {a b:Tr Plf} {m n:Int} {x y:D} (d:Ew c k V a=x) (g:Ew c k V b=y) (h:(Ab V e).toInt=m:=by rfl) (h':(Ab V f).toInt=n:=by rfl):Ew c k V (.split (.eql e f) a b)=cond (decide (m=n)) x y:=cg (qE h h') d g
end
theorem aE {V:Val} {a b:SE} {x y:Bool} (h:Ah V a=x) (h':Ah V b=y):Ah V (.and a b)=(x&&y):=by rw [←h,←h'];rfl
def Wd (a:D) (n:Nat):Prop:=∀r∈a.rows,∃cs,r=.row cs∧cs.length=n
theorem CA {a x:D} {i:Int} {j:Nat}:len (upd a i j x)=len a:=by
 show (a.rows.modify _ _).length=_;simp [len]
theorem AJ {a r:D}:len (ad a r)=len a+1:=by
 show (a.rows++[r]).length=_;simp [len]
theorem Bw:len Aw=0:=rfl
theorem Bv:len Aq=0:=rfl
theorem bO {a b:D}:len (ct a b)=len a+len b:=by
 show (a.rows++b.rows).length=_;simp [len]
theorem jr {a:D} {b:Bool}:len (ni a b)=len a:=rfl
theorem QK {a:D} {lo hi:Int} (h:lo.toNat≤hi.toNat) (h':hi.toNat≤len a):len (sb a lo hi)=hi.toNat-lo.toNat:=by
 show ((a.rows.drop _).take _).length=_;have:hi.toNat≤a.rows.length:=h';simp;omega
theorem Az {x:D} {l:List D}:sl (.row (x::l)) 0=x:=rfl
theorem Ay {x:D} {l:List D} {n:Nat}:sl (.row (x::l)) (n+1)=sl (.row l) n:=rfl
theorem Ao {n:Int}:(D.int n).toInt=n:=rfl
theorem Ap {b:Bool}:(D.bool b).toBool=b:=rfl
theorem HJ {n:Nat}:Wd Aw n:=fun r a=>(by cases a)
theorem EJ {n:Nat}:Wd Aq n:=fun r a=>(by cases a)
theorem Fe {a:D} {cs:List D} {n:Nat} (h:Wd a n) (c:cs.length=n):Wd (ad a (.row cs)) n:=by
 intro r b;have b:r∈a.rows++[.row cs]:=b;rcases eq.1 b with q|q
 ·exact h r q
 ·exact ⟨cs,Ts.1 q,c⟩
theorem Dl {a x:D} {i:Int} {j n:Nat} (h:Wd a n):Wd (upd a i j x) n:=by
 intro r f;have b:r∈a.rows.modify i.toNat fun r=>.row (r.cells.set j x):=f
 obtain ⟨k,g,e⟩:=X0 b;rw [List.getElem_modify] at e;have c:k<a.rows.length:=by simpa using g
 obtain ⟨cs,d,hn⟩:=h _ (hH c);split at e
 ·rw [d] at e;exact ⟨_,e.symm,by simp [D.cells,hn]⟩
 ·exact ⟨cs,by rw [←e];exact d,hn⟩
theorem un {a:D} {b:Bool} {n:Nat} (h:Wd a n):Wd (ni a b) n:=h
theorem Cl {a x:D} {i k:Int} {j b n:Nat} (h:Wd a n) (m:j<n) (hi:0≤i) (g:i<len a) (o:0≤k):cl (upd a i j x) k b=if k=i∧b=j then x else cl a k b:=by
 have d:i.toNat<a.rows.length:=by have:len a=a.rows.length:=rfl;omega
 show ((a.rows.modify i.toNat fun r=>D.row (r.cells.set j x))[k.toNat]?.getD default).cells.getD b default=_
 rw [List.getElem?_modify];by_cases q:k=i
 ·subst q;obtain ⟨cs,f,hn⟩:=h _ (hH d);rw [E1 d];show ((if k.toNat=k.toNat then D.row ((a.rows[k.toNat]).cells.set j x) else a.rows[k.toNat]).cells[b]?).getD default=_
  rw [if_pos rfl,f];show ((cs.set j x)[b]?).getD default=_;rw [List.getElem?_set];by_cases e:j=b
  ·subst e;rw [if_pos rfl,if_pos (by omega),if_pos ⟨rfl,rfl⟩]
   rfl
  ·rw [if_neg e,if_neg (fun c=>e c.2.symm)]
   show _=(a.rows[k.toNat]?.getD default).cells.getD b default;rw [E1 d,j1,f];rfl
 ·have l:¬i.toNat=k.toNat:=by omega
  rw [if_neg (fun c=>q c.1)]
  simp [l,cl]
theorem Cy {a r:D} {k:Int} {j:Nat} (c:0≤k):cl (ad a r) k j=if k=len a then sl r j else cl a k j:=by
 have hl:len a=a.rows.length:=rfl;show ((a.rows++[r])[k.toNat]?.getD default).cells.getD j default=_;by_cases q:k.toNat<a.rows.length
 ·rw [Ea q,if_neg (by omega)]
  rfl
 ·by_cases b:k=len a
  ·subst b;rw [if_pos rfl];have:((len a:Int)).toNat=a.rows.length:=by omega
   rw [this];simp [sl]
  ·rw [if_neg b,E4 (by simp;omega)]
   show _=(a.rows[k.toNat]?.getD default).cells.getD j default;rw [E4 (by omega)]
theorem tk {a:D} {b:Bool} {k:Int} {j:Nat}:cl (ni a b) k j=cl a k j:=rfl
theorem aI {P:Program} {ts:List TypeId} {a:List D} {ks:List Kd} (h:QI P ts a) (b:BI (Env.of P) ts=some ks):ks.length=a.length∧PP (Env.of P).kinds 9 ks a:=by
 obtain ⟨c,cs,M,e,d,_,f⟩:=h;rw [b] at e;cases e;exact ⟨d.len.2,f⟩
theorem Tz {x c:Int} {l:List D} (h:x≠c):¬(sl (.row (.int x::l)) 0).toInt=c:=h
theorem DN.cell {K:TypeId→Option (List Kd)} {m j:Nat} {e:TypeId} {ks:List Kd} {kd:Kd} {d:D} {i:Int} (h:DN K (m+1) (.slice e) d) (C:K e=some ks) (h0:0≤i) (hi:i<len d) (I:ks[j]?=some kd):DN K m kd (cl d i j):=by
 obtain ⟨nl,rows,rfl,_,q⟩:=h;have r:i.toNat<rows.length:=by have:len (.slc nl rows)=rows.length:=rfl;omega
 obtain ⟨cs,e1,_,J⟩:=q ks C _ (hH r);show DN K m kd ((rows[i.toNat]?.getD default).cells.getD j default);rw [E1 r,j1,e1];exact J j kd I
theorem DN.toI {K:TypeId→Option (List Kd)} {m:Nat} {k:IntKind} {d:D} (h:DN K m (.int k) d):∃n,d=.int n:=by cases m<;>exact h
theorem DN.toB {K:TypeId→Option (List Kd)} {m:Nat} {d:D} (h:DN K m .bool d):∃b,d=.bool b:=by cases m<;>exact h
theorem DN.wd {K:TypeId→Option (List Kd)} {m:Nat} {e:TypeId} {ks:List Kd} {d:D} (h:DN K (m+1) (.slice e) d) (j:K e=some ks):Wd d ks.length:=by
 obtain ⟨nl,rows,rfl,_,q⟩:=h;intro r C;obtain ⟨cs,e1,I,_⟩:=q ks j r C;exact ⟨cs,e1,I⟩
def fdG (p:Nat→Bool):Nat→Nat→Int
 |0,_=>-1
 |k+1,i=>cond (p i) (i:Int) (fdG p k (i+1))
theorem Eo {p:Nat→Bool}:∀{k i:Nat},fdG p k i<i+k
 |0,i=>by show (-1:Int)<_;omega
 |k+1,i=>by
  rw [fdG];have:=Eo (p:=p) (k:=k) (i:=i+1);cases p i
  ·show fdG p k (i+1)<_;omega
  ·show (i:Int)<_;omega
theorem Kg {p:Nat→Bool}:∀{k i:Nat},fdG p k i = -1∨(i:Int)≤fdG p k i
 |0,i=>.inl rfl
 |k+1,i=>by
  rw [fdG];cases p i
  ·show fdG p k (i+1)=_∨_≤fdG p k (i+1);rcases Kg (p:=p) (k:=k) (i:=i+1) with h|h
   ·exact .inl h
   ·exact .inr (by omega)
  ·exact .inr (Int.le_refl _)
theorem IF {p:Nat→Bool}:∀{k i:Nat},0≤fdG p k i→p (fdG p k i).toNat=true
 |0,i=>fun h=>by simp [fdG] at h
 |k+1,i=>by
  rw [fdG];cases q:p i
  ·exact IF (k:=k)
  ·intro _;show p i=true;exact q
theorem Iu {p:Nat→Bool}:∀{k i j:Nat},i≤j→j<i+k→p j=true→0≤fdG p k i∧fdG p k i≤j
 |0,i,j=>fun h h'=>by omega
 |k+1,i,j=>by
  intro h h' hp;rw [fdG];cases q:p i
  ·have:i≠j:=fun c=>by rw [c,hp] at q;cases q
   exact Iu (k:=k) (by omega) (by omega) hp
  ·show 0≤(i:Int)∧(i:Int)≤j;omega
theorem Dq {p:Nat→Bool} {k i j:Nat} (h:i≤j) (h':(j:Int)<fdG p k i∨(fdG p k i<0∧j<i+k)):p j=false:=by
 cases q:p j
 ·rfl
 ·have:=Eo (p:=p) (k:=k) (i:=i);have:=Iu (p:=p) (k:=k) h (by omega) q
  omega
theorem GG {p:Nat→Bool} {k i:Nat} (h:∀j,i≤j→j<i+k→p j=false):fdG p k i = -1:=by
 rcases Kg (p:=p) (k:=k) (i:=i) with q|q
 ·exact q
 ·have a:=IF (p:=p) (k:=k) (i:=i) (by omega)
  rw [h _ (by omega) (by have:=Eo (p:=p) (k:=k) (i:=i);omega)] at a
  cases a
theorem Cu {p q:Nat→Bool}:∀{k i:Nat},(∀j,i≤j→j<i+k→p j=q j)→fdG p k i=fdG q k i
 |0,i,h=>rfl
 |k+1,i,h=>by
  rw [fdG,fdG,h i (C1 _) (by omega),Cu fun j a b=>h j (by omega) (by omega)]
theorem gS {F:Nat→D} {bad:Nat→Bool} {B:Nat→D} {n:Nat}:∀{k i:Nat},i+k=n→(∀j,i≤j→j<n→F j=cond (bad j) (B j) (F (j+1)))→F i=cond (decide (fdG bad k i<0)) (F n) (B (fdG bad k i).toNat)
 |0,i=>fun h _=>by
  have:i=n:=by omega
  subst this;rfl
 |k+1,i=>fun h hs=>by
  rw [hs i (C1 _) (by omega),fdG]
  cases bad i
  ·exact gS (by omega) fun j a b=>hs j (by omega) b
  ·show B i=cond (decide ((i:Int)<0)) _ (B (i:Int).toNat);rw [ifF (by omega)]
   rfl
theorem Jo {F:Nat→D} {bad:Nat→Bool} {B:Nat→D} {n:Nat} (hs:∀j,j<n→F j=cond (bad j) (B j) (F (j+1))):F 0=cond (decide (fdG bad n 0<0)) (F n) (B (fdG bad n 0).toNat):=gS (by omega) fun j _ b=>hs j b
theorem find {F:Nat→D} {bad:Nat→Bool} {n:Nat} (hs:∀j,j<n→F j=cond (bad j) (.row [.int 1,.int (j:Nat)]) (F (j+1))) (a:F n=.row [.int 1,.int (-1)]):F 0=.row [.int 1,.int (fdG bad n 0)]:=by
 rw [Jo hs,a];have h:=Kg (p:=bad) (k:=n) (i:=0);by_cases q:fdG bad n 0<0
 ·rw [ifT q];rcases h with h|h
  ·rw [h]
  ·omega
 ·rw [ifF q];have:((fdG bad n 0).toNat:Int)=fdG bad n 0:=by omega
  rw [this]
theorem AR {i:Nat} (h:i<4611686018427387904):IntKind.wrap .i64 ((i:Int)+1)=((i+1:Nat):Int):=by rw [AU (by omega) (by omega)];omega
theorem PB {d:Type} {c:Bool} {a b x:d} (h1:c=true→a=x) (h2:c=false→b=x):cond c a b=x:=by
 cases c
 ·exact h2 rfl
 ·exact h1 rfl
theorem dT {p:Prop} [Decidable p] (h:decide p=true):p:=hZ h
theorem dF {p:Prop} [Decidable p] (h:decide p=false):¬p:=of_decide_eq_false h
theorem SQ {x y:Int}:decide (x=y)=decide (y=x):=decide_eq_decide.2 eq_comm
theorem BS {a:D}:D.strEq a a=true:=by
 show (Nat.beq _ _&&Nat.beq _ _)=true;simp
theorem AM {a b:D}:D.strEq a b=D.strEq b a:=Pi (U:=Bm) _ _ _ _
theorem ET {a:D}:eqC a 0 0=decide (BE a=0):=by
 show (Nat.beq _ 0&&Nat.beq _ 0)=_;show _=decide (a.toStr.data.toList.length=0);cases a.toStr.data.toList<;>simp [AL]
theorem Zv {a b:D}:BE (fN a b)=BE a+BE b:=by
 show (a.toStr++b.toStr).data.toList.length=_;simp [BE]
theorem Uj {a b:D}:eqC (fN a b) 0 0=(eqC a 0 0&&eqC b 0 0):=by
 rw [ET,ET,ET,Zv,Bool.eq_iff_iff];simp
theorem Fc {a b:D}:D.strEq a b=true↔a.toStr=b.toStr:=by
 show AE.strEq _ _ _ _=true↔_;rw [CS (U:=Bm)];constructor
 ·intro h;rw [ie,ie] at h;have:a.toStr.data.toList=b.toStr.data.toList:=by simpa only [beq_iff_eq] using h
  exact ByteArray.ext (Array.toList_inj.1 this)
 ·intro h;rw [h];simp
theorem Gl {a b c:D} (h:D.strEq a b=true) (h':D.strEq b c=true):D.strEq a c=true:=Fc.2 ((Fc.1 h).trans (Fc.1 h'))
theorem EG {a b c:D} (h:D.strEq a b=true):D.strEq a c=D.strEq b c:=by
 show AE.strEq _ _ _ _=AE.strEq _ _ _ _;rw [Fc.1 h]
theorem JP {a:D} {i:Nat} {j c:Nat} (hi:i≤len a) (b:j<i):cl (sb a 0 i) j c=cl a j c:=by
 have d:i≤a.rows.length:=hi;show (((a.rows.drop 0).take (i-0)).getD j default).cells.getD c default=(a.rows.getD j default).cells.getD c default;rw [A4,A4,XB];simp [b]
theorem dO {a k:D} (f:∀r∈a.rows,∃x l,r=.row (x::l)):mIx [.str] a (.row [k])=fdG (fun i=>D.strEq (cl a i 0) k) (len a) 0:=by
 have c:∀(b l:List D) (nl:Bool),(∀r∈b,∃x l,r=.row (x::l))→Ev [.str] [k] b l.length=fdG (fun i=>D.strEq (cl (.slc nl (l++b)) i 0) k) b.length l.length:=by
  intro b
  induction b with
  |nil=>intro l nl _;rfl
  |cons r b g=>
   intro l nl d;rw [Ev,F2,fdG]
   have e:cl (.slc nl (l++r::b)) (l.length:Nat) 0=r.cells.getD 0 default:=by
    show ((l++r::b).getD l.length default).cells.getD 0 default=_;simp
   have i2:=g (l++[r]) nl fun x j=>d x (List.mem_cons_of_mem _ j)
   rw [L1,List.append_assoc] at i2;have i2:Ev [.str] [k] b (l.length+1)=fdG (fun i=>D.strEq (cl (.slc nl (l++r::b)) i 0) k) b.length (l.length+1):=i2
   rw [e,i2]
   have h:CC [.str] r.cells [k]=D.strEq (r.cells.getD 0 default) k:=by
    obtain ⟨x,t,e⟩:=d r (List.mem_cons_self ..);subst e;show (D.strEq x k&&true)=D.strEq x k;rw [g6]
   rw [h];cases D.strEq (r.cells.getD 0 default) k<;>rfl
 have h:=c a.rows [] a.isNil f;exact h
def Dx (f:Nat→D) (i:Nat):D:=.slc false ((List.range i).map fun j=>.row [f j,.bool true])
theorem Mt {f:Nat→D} {i:Nat}:ad (Dx f i) (.row [f i,.bool true])=Dx f (i+1):=by
 unfold Dx ad;rw [List.range_succ,List.map_append];rfl
theorem Sl {f:Nat→D} {i:Nat} {k:D}:mIx [.str] (Dx f i) (.row [k])=fdG (fun j=>D.strEq (f j) k) i 0:=by
 rw [dO (by
  intro r a;obtain ⟨j,_,e⟩:=List.mem_map.1 a;exact ⟨_,_,e.symm⟩)]
 have hl:len (Dx f i)=i:=by unfold len Dx;simp [D.rows]
 rw [hl];refine Cu fun j _ b=>?_
 have:cl (Dx f i) j 0=f j:=by
  show ((((List.range i).map fun j=>D.row [f j,.bool true])[j]?).getD default).cells.getD 0 default=f j
  rw [P8,hI (by omega)]
  rfl
 rw [this]
theorem Mk {f:Nat→D} {i:Nat} {j:Int} (a:0≤j) (h:j<i):cl (Dx f i) j 1=.bool true:=by
 show ((((List.range i).map fun j=>D.row [f j,.bool true])[j.toNat]?).getD default).cells.getD 1 default=_
 rw [P8,hI (by omega)]
 rfl
theorem ShK.cell {K:TypeId→Option (List Kd)} {o:Option Nat} {m j:Nat} {e:TypeId} {ks:List Kd} {kd:Kd} {d:D} {i:Nat} (h:ShK K o (m+1) (.slice e) d) (r:K e=some ks) (hi:i<len d) (C:ks[j]?=some kd):ShK K o m kd (cl d i j):=h.2 ks r i hi j kd C
theorem ShK.rows {K:TypeId→Option (List Kd)} {b m:Nat} {e:TypeId} {d:D} (h:ShK K (some b) (m+1) (.slice e) d):len d≤b:=h.1 b rfl
theorem ShK.text {K:TypeId→Option (List Kd)} {b m:Nat} {d:D} (h:ShK K (some b) m .str d):BE d≤b:=by
 have:leB (some b) (BE d):=by cases m<;>exact h
 exact this b rfl
end Go.AE
set_option maxRecDepth 100000
namespace Ug
open Go Go.AE
theorem lt:ID 0 ts=true:=by decide
theorem gw [Ai] {k p:Nat} {T:List (Tr Plf)} {t:Tr Plf} {a:List D} {x:D} (b:ts[k]?=some T) (hp:T[p]?=some t) (h:Ew ts k (atV ts a) t=x):Ak ts k (.row (.int (p:Nat)::a))=x:=(ji lt b hp).trans h
section
variable [Ai]
def St (v0 v1 v2 v3:D):D:=Ak ts 0 (.row [.int (0:Nat),v0,v1,v2,v3])
def Xh (v0 v1 v2 v3 v4 v5:D):D:=Ak ts 0 (.row [.int (1:Nat),v0,v1,v2,v3,v4,v5])
def dN (v0 v1 v2 v3 v4 v5:D):D:=Ak ts 0 (.row [.int (2:Nat),v0,v1,v2,v3,v4,v5])
def eB (v0 v1 v2 v3 v4 v5:D):D:=Ak ts 0 (.row [.int (3:Nat),v0,v1,v2,v3,v4,v5])
def Xk (v0 v1:D):D:=Ak ts 1 (.row [.int (0:Nat),v0,v1])
def LW:D:=Ak ts 2 (.row [.int (0:Nat)])
def dE (v0 v1 v2 v3 v4:D):D:=Ak ts 3 (.row [.int (0:Nat),v0,v1,v2,v3,v4])
def mg (v0 v1 v2 v3:D):D:=Ak ts 3 (.row [.int (1:Nat),v0,v1,v2,v3])
def dA (v0 v1 v2:D):D:=Ak ts 3 (.row [.int (2:Nat),v0,v1,v2])
def GY (v0:D):D:=Ak ts 4 (.row [.int (0:Nat),v0])
def Up (v0 v1 v2:D):D:=Ak ts 4 (.row [.int (1:Nat),v0,v1,v2])
def YF (v0 v1:D):D:=Ak ts 5 (.row [.int (0:Nat),v0,v1])
def cz (v0 v1 v2:D):D:=Ak ts 5 (.row [.int (1:Nat),v0,v1,v2])
def au (v0 v1 v2 v3 v4 v5 v6:D):D:=Ak ts 6 (.row [.int (0:Nat),v0,v1,v2,v3,v4,v5,v6])
def Xu (v0 v1 v2 v3 v4 v5:D):D:=Ak ts 6 (.row [.int (1:Nat),v0,v1,v2,v3,v4,v5])
def Ko (v0 v1:D):D:=Ak ts 7 (.row [.int (0:Nat),v0,v1])
def eA (v0 v1 v2:D):D:=Ak ts 7 (.row [.int (1:Nat),v0,v1,v2])
def bj (v0 v1 v2 v3 v4 v5 v6:D):D:=Ak ts 8 (.row [.int (0:Nat),v0,v1,v2,v3,v4,v5,v6])
def WR (v0 v1 v2 v3 v4 v5:D):D:=Ak ts 8 (.row [.int (1:Nat),v0,v1,v2,v3,v4,v5])
def md (v0 v1 v2 v3 v4 v5 v6 v7 v8 v9:D):D:=Ak ts 9 (.row [.int (0:Nat),v0,v1,v2,v3,v4,v5,v6,v7,v8,v9])
def Xo (v0 v1 v2 v3 v4 v5 v6 v7 v8 v9 aB:D):D:=Ak ts 9 (.row [.int (1:Nat),v0,v1,v2,v3,v4,v5,v6,v7,v8,v9,aB])
def QZ (v0 v1 v2 v3 v4 v5 v6:D):D:=Ak ts 10 (.row [.int (0:Nat),v0,v1,v2,v3,v4,v5,v6])
def EP (v0 v1 v2 v3 v4 v5:D):D:=Ak ts 10 (.row [.int (1:Nat),v0,v1,v2,v3,v4,v5])
def Ej (v0 v1 v2 v3:D):D:=Ak ts 11 (.row [.int (0:Nat),v0,v1,v2,v3])
def Em (v0 v1 v2:D):D:=Ak ts 12 (.row [.int (0:Nat),v0,v1,v2])
def V0 (v0 v1 v2 v3:D):D:=Ak ts 12 (.row [.int (1:Nat),v0,v1,v2,v3])
def AO (v0:D):D:=Ak ts 13 (.row [.int (0:Nat),v0])
def Vy (v0 v1 v2 v3:D):D:=Ak ts 13 (.row [.int (1:Nat),v0,v1,v2,v3])
def BM (v0:D):D:=Ak ts 14 (.row [.int (0:Nat),v0])
def BK (v0:D):D:=Ak ts 15 (.row [.int (0:Nat),v0])
def BL (v0:D):D:=Ak ts 16 (.row [.int (0:Nat),v0])
def EA (v0 v1 v2:D):D:=Ak ts 17 (.row [.int (0:Nat),v0,v1,v2])
def Sj (v0 v1 v2 v3 v4 v5:D):D:=Ak ts 17 (.row [.int (1:Nat),v0,v1,v2,v3,v4,v5])
def Pc (v0 v1 v2 v3 v4 v5:D):D:=Ak ts 18 (.row [.int (0:Nat),v0,v1,v2,v3,v4,v5])
def IW (v0 v1 v2 v3 v4 v5:D):D:=Ak ts 19 (.row [.int (0:Nat),v0,v1,v2,v3,v4,v5])
def La (v0 v1 v2 v3 v4 v5 v6:D):D:=Ak ts 20 (.row [.int (0:Nat),v0,v1,v2,v3,v4,v5,v6])
def Lc (v0 v1 v2 v3 v4 v5:D):D:=Ak ts 20 (.row [.int (1:Nat),v0,v1,v2,v3,v4,v5])
def MY (v0 v1 v2 v3 v4 v5 v6:D):D:=Ak ts 21 (.row [.int (0:Nat),v0,v1,v2,v3,v4,v5,v6])
def GQ (v0 v1 v2 v3 v4 v5 v6 v7 v8 v9 aB aA aC aG aD aH aM aN aO aT aK:D):D:=Ak ts 22 (.row [.int (0:Nat),v0,v1,v2,v3,v4,v5,v6,v7,v8,v9,aB,aA,aC,aG,aD,aH,aM,aN,aO,aT,aK])
def Ci (v0 v1 v2 v3:D):D:=Ak ts 23 (.row [.int (0:Nat),v0,v1,v2,v3])
def C9 (v0 v1 v2 v3:D):D:=Ak ts 24 (.row [.int (0:Nat),v0,v1,v2,v3])
def KS (v0 v1:D):D:=Ak ts 25 (.row [.int (0:Nat),v0,v1])
def F9 (v0 v1 v2 v3 v4:D):D:=Ak ts 26 (.row [.int (0:Nat),v0,v1,v2,v3,v4])
def HE (v0 v1 v2 v3 v4:D):D:=Ak ts 27 (.row [.int (0:Nat),v0,v1,v2,v3,v4])
def V7 (v0 v1 v2 v3 v4 v5 v6:D):D:=Ak ts 27 (.row [.int (1:Nat),v0,v1,v2,v3,v4,v5,v6])
def BQ (v0 v1 v2 v3 v4 v5 v6 v7 v8 v9 aB:D):D:=Ak ts 27 (.row [.int (2:Nat),v0,v1,v2,v3,v4,v5,v6,v7,v8,v9,aB])
def BB (v0 v1 v2 v3 v4:D):D:=Ak ts 28 (.row [.int (0:Nat),v0,v1,v2,v3,v4])
def K7 (v0 v1 v2 v3 v4:D):D:=Ak ts 28 (.row [.int (1:Nat),v0,v1,v2,v3,v4])
def KH (v0 v1 v2 v3 v4 v5:D):D:=Ak ts 29 (.row [.int (0:Nat),v0,v1,v2,v3,v4,v5])
def MJ (v0 v1 v2 v3 v4 v5 v6 v7 v8 v9:D):D:=Ak ts 29 (.row [.int (1:Nat),v0,v1,v2,v3,v4,v5,v6,v7,v8,v9])
def Jj (v0 v1 v2:D):D:=Ak ts 30 (.row [.int (0:Nat),v0,v1,v2])
def GR (v0 v1 v2 v3 v4 v5 v6 v7 v8 v9 aB:D):D:=Ak ts 31 (.row [.int (0:Nat),v0,v1,v2,v3,v4,v5,v6,v7,v8,v9,aB])
def Oe (v0 v1 v2 v3 v4 v5 v6 v7 v8 v9 aB aA aC aG aD aH aM aN aO aT aK aU aV aW aY aZ a_ bb be bd bg bh bm bo bp:D):D:=Ak ts 32 (.row [.int (0:Nat),v0,v1,v2,v3,v4,v5,v6,v7,v8,v9,aB,aA,aC,aG,aD,aH,aM,aN,aO,aT,aK,aU,aV,aW,aY,aZ,a_,bb,be,bd,bg,bh,bm,bo,bp])
def Ml (v0 v1 v2 v3 v4 v5 v6 v7 v8 v9 aB aA aC aG aD aH aM aN aO aT aK aU aV aW aY aZ a_ bb be bd bg bh bm bo bp bq:D):D:=Ak ts 32 (.row [.int (1:Nat),v0,v1,v2,v3,v4,v5,v6,v7,v8,v9,aB,aA,aC,aG,aD,aH,aM,aN,aO,aT,aK,aU,aV,aW,aY,aZ,a_,bb,be,bd,bg,bh,bm,bo,bp,bq])
def QY (v0 v1 v2 v3 v4 v5 v6 v7 v8 v9 aB:D):D:=Ak ts 33 (.row [.int (0:Nat),v0,v1,v2,v3,v4,v5,v6,v7,v8,v9,aB])
def Pl (v0 v1 v2 v3 v4 v5 v6 v7 v8 v9 aB aA aC aG aD aH aM aN aO aT aK aU aV aW aY aZ a_ bb:D):D:=Ak ts 34 (.row [.int (0:Nat),v0,v1,v2,v3,v4,v5,v6,v7,v8,v9,aB,aA,aC,aG,aD,aH,aM,aN,aO,aT,aK,aU,aV,aW,aY,aZ,a_,bb])
def Nw (v0 v1 v2 v3 v4 v5 v6 v7 v8 v9 aB aA aC aG aD aH aM aN aO aT aK aU:D):D:=Ak ts 35 (.row [.int (0:Nat),v0,v1,v2,v3,v4,v5,v6,v7,v8,v9,aB,aA,aC,aG,aD,aH,aM,aN,aO,aT,aK,aU])
def GS (v0 v1:D):D:=Ak ts 36 (.row [.int (0:Nat),v0,v1])
def Pw (v0 v1:D):D:=Ak ts 37 (.row [.int (0:Nat),v0,v1])
def O6 (v0 v1:D):D:=Ak ts 38 (.row [.int (0:Nat),v0,v1])
def Lh (v0 v1 v2 v3 v4 v5 v6 v7 v8 v9 aB aA aC aG aD aH aM aN aO aT:D):D:=Ak ts 39 (.row [.int (0:Nat),v0,v1,v2,v3,v4,v5,v6,v7,v8,v9,aB,aA,aC,aG,aD,aH,aM,aN,aO,aT])
def RV (v0 v1 v2:D):D:=Ak ts 40 (.row [.int (0:Nat),v0,v1,v2])
def R9 (v0 v1 v2:D):D:=Ak ts 41 (.row [.int (0:Nat),v0,v1,v2])
def KL (v0 v1 v2:D):D:=Ak ts 42 (.row [.int (0:Nat),v0,v1,v2])
def SD (v0 v1 v2 v3 v4 v5 v6 v7 v8 v9 aB aA aC aG aD aH aM aN aO aT aK aU aV:D):D:=Ak ts 43 (.row [.int (0:Nat),v0,v1,v2,v3,v4,v5,v6,v7,v8,v9,aB,aA,aC,aG,aD,aH,aM,aN,aO,aT,aK,aU,aV])
def DK (v0 v1:D):D:=Ak ts 44 (.row [.int (0:Nat),v0,v1])
def Vu (v0 v1 v2:D):D:=Ak ts 44 (.row [.int (1:Nat),v0,v1,v2])
def FJ (v0 v1:D):D:=Ak ts 45 (.row [.int (0:Nat),v0,v1])
def VQ (v0 v1 v2:D):D:=Ak ts 45 (.row [.int (1:Nat),v0,v1,v2])
def Cq (v0 v1 v2 v3 v4 v5 v6 v7 v8 v9:D):D:=Ak ts 46 (.row [.int (0:Nat),v0,v1,v2,v3,v4,v5,v6,v7,v8,v9])
def Hz (v0 v1 v2 v3 v4 v5 v6 v7 v8 v9 aB aA aC aG aD aH aM aN aO:D):D:=Ak ts 46 (.row [.int (1:Nat),v0,v1,v2,v3,v4,v5,v6,v7,v8,v9,aB,aA,aC,aG,aD,aH,aM,aN,aO])
def EV (v0 v1 v2 v3 v4 v5 v6 v7 v8 v9 aB aA aC aG aD aH aM aN aO aT aK aU:D):D:=Ak ts 46 (.row [.int (2:Nat),v0,v1,v2,v3,v4,v5,v6,v7,v8,v9,aB,aA,aC,aG,aD,aH,aM,aN,aO,aT,aK,aU])
def QX (v0 v1 v2 v3:D):D:=Ak ts 47 (.row [.int (0:Nat),v0,v1,v2,v3])
def Vw (v0 v1 v2 v3 v4:D):D:=Ak ts 47 (.row [.int (1:Nat),v0,v1,v2,v3,v4])
def Pu (v0 v1:D):D:=Ak ts 48 (.row [.int (0:Nat),v0,v1])
def JB (v0 v1 v2 v3 v4 v5 v6 v7 v8 v9 aB aA aC aG aD aH aM aN aO aT aK aU aV:D):D:=Ak ts 49 (.row [.int (0:Nat),v0,v1,v2,v3,v4,v5,v6,v7,v8,v9,aB,aA,aC,aG,aD,aH,aM,aN,aO,aT,aK,aU,aV])
def C5 (v0 v1 v2 v3 v4 v5:D):D:=Ak ts 50 (.row [.int (0:Nat),v0,v1,v2,v3,v4,v5])
def KI (v0 v1 v2 v3 v4 v5 v6 v7:D):D:=Ak ts 50 (.row [.int (1:Nat),v0,v1,v2,v3,v4,v5,v6,v7])
def NG (v0 v1 v2 v3 v4 v5 v6 v7 v8 v9:D):D:=Ak ts 51 (.row [.int (0:Nat),v0,v1,v2,v3,v4,v5,v6,v7,v8,v9])
def Ph (v0 v1 v2 v3 v4 v5 v6 v7 v8 v9 aB:D):D:=Ak ts 51 (.row [.int (1:Nat),v0,v1,v2,v3,v4,v5,v6,v7,v8,v9,aB])
def Ox (v0 v1 v2 v3 v4 v5 v6 v7 v8 v9 aB aA aC aG aD:D):D:=Ak ts 52 (.row [.int (0:Nat),v0,v1,v2,v3,v4,v5,v6,v7,v8,v9,aB,aA,aC,aG,aD])
def BH (v0 v1 v2 v3 v4 v5 v6 v7 v8 v9 aB aA aC aG aD aH aM aN aO aT:D):D:=Ak ts 52 (.row [.int (1:Nat),v0,v1,v2,v3,v4,v5,v6,v7,v8,v9,aB,aA,aC,aG,aD,aH,aM,aN,aO,aT])
def EO (v0 v1 v2 v3 v4 v5 v6 v7 v8:D):D:=Ak ts 53 (.row [.int (0:Nat),v0,v1,v2,v3,v4,v5,v6,v7,v8])
def Ar (v0 v1 v2 v3 v4 v5 v6 v7 v8 v9 aB aA:D):D:=Ak ts 54 (.row [.int (0:Nat),v0,v1,v2,v3,v4,v5,v6,v7,v8,v9,aB,aA])
def DZ (v0 v1 v2:D):D:=Ak ts 55 (.row [.int (0:Nat),v0,v1,v2])
def Vd (v0 v1 v2 v3:D):D:=Ak ts 55 (.row [.int (1:Nat),v0,v1,v2,v3])
def Rl (v0 v1 v2 v3 v4:D):D:=Ak ts 55 (.row [.int (2:Nat),v0,v1,v2,v3,v4])
def MD (v0 v1 v2 v3 v4 v5 v6 v7 v8:D):D:=Ak ts 56 (.row [.int (0:Nat),v0,v1,v2,v3,v4,v5,v6,v7,v8])
def GW (v0 v1 v2 v3 v4 v5 v6 v7 v8:D):D:=Ak ts 57 (.row [.int (0:Nat),v0,v1,v2,v3,v4,v5,v6,v7,v8])
def G6 (v0 v1 v2 v3 v4 v5 v6 v7 v8 v9 aB aA aC aG aD:D):D:=Ak ts 57 (.row [.int (1:Nat),v0,v1,v2,v3,v4,v5,v6,v7,v8,v9,aB,aA,aC,aG,aD])
def Id (v0 v1 v2 v3 v4 v5:D):D:=Ak ts 58 (.row [.int (0:Nat),v0,v1,v2,v3,v4,v5])
def U1 (v0 v1 v2:D):D:=Ak ts 59 (.row [.int (0:Nat),v0,v1,v2])
def Va (v0 v1 v2 v3:D):D:=Ak ts 59 (.row [.int (1:Nat),v0,v1,v2,v3])
def Hy (v0 v1 v2 v3 v4 v5 v6 v7 v8 v9:D):D:=Ak ts 60 (.row [.int (0:Nat),v0,v1,v2,v3,v4,v5,v6,v7,v8,v9])
def L6 (v0 v1 v2 v3 v4 v5 v6:D):D:=Ak ts 61 (.row [.int (0:Nat),v0,v1,v2,v3,v4,v5,v6])
def VZ (v0 v1:D):D:=Ak ts 62 (.row [.int (0:Nat),v0,v1])
def OR (v0 v1 v2:D):D:=Ak ts 62 (.row [.int (1:Nat),v0,v1,v2])
def Zm (v0 v1 v2 v3:D):D:=Ak ts 63 (.row [.int (0:Nat),v0,v1,v2,v3])
def JF (v0 v1 v2 v3 v4:D):D:=Ak ts 63 (.row [.int (1:Nat),v0,v1,v2,v3,v4])
def Ws (v0 v1 v2 v3:D):D:=Ak ts 64 (.row [.int (0:Nat),v0,v1,v2,v3])
def bJ (v0 v1 v2 v3 v4 v5 v6 v7 v8 v9 aB aA aC aG aD aH aM aN aO aT aK aU aV aW aY aZ:D):D:=Ak ts 65 (.row [.int (0:Nat),v0,v1,v2,v3,v4,v5,v6,v7,v8,v9,aB,aA,aC,aG,aD,aH,aM,aN,aO,aT,aK,aU,aV,aW,aY,aZ])
def Ie (v0 v1 v2 v3 v4 v5 v6 v7 v8 v9 aB aA aC aG aD aH aM aN aO aT aK aU aV aW aY aZ a_ bb be bd bg bh bm bo bp bq bs:D):D:=Ak ts 65 (.row [.int (1:Nat),v0,v1,v2,v3,v4,v5,v6,v7,v8,v9,aB,aA,aC,aG,aD,aH,aM,aN,aO,aT,aK,aU,aV,aW,aY,aZ,a_,bb,be,bd,bg,bh,bm,bo,bp,bq,bs])
def G9 (v0 v1 v2 v3 v4 v5 v6 v7 v8 v9 aB aA aC aG aD aH aM aN aO aT aK aU aV aW aY aZ a_ bb be bd bg bh bm bo bp bq bs bA bB bC bD:D):D:=Ak ts 65 (.row [.int (2:Nat),v0,v1,v2,v3,v4,v5,v6,v7,v8,v9,aB,aA,aC,aG,aD,aH,aM,aN,aO,aT,aK,aU,aV,aW,aY,aZ,a_,bb,be,bd,bg,bh,bm,bo,bp,bq,bs,bA,bB,bC,bD])
def RE (v0 v1 v2 v3 v4 v5 v6 v7 v8 v9 aB aA aC aG aD aH aM aN aO aT aK aU aV:D):D:=Ak ts 66 (.row [.int (0:Nat),v0,v1,v2,v3,v4,v5,v6,v7,v8,v9,aB,aA,aC,aG,aD,aH,aM,aN,aO,aT,aK,aU,aV])
def E6 (v0 v1 v2 v3 v4 v5 v6 v7:D):D:=Ak ts 67 (.row [.int (0:Nat),v0,v1,v2,v3,v4,v5,v6,v7])
def Ig (v0 v1 v2 v3 v4 v5 v6 v7 v8 v9 aB aA:D):D:=Ak ts 68 (.row [.int (0:Nat),v0,v1,v2,v3,v4,v5,v6,v7,v8,v9,aB,aA])
def KX (v0 v1 v2 v3 v4 v5 v6 v7 v8 v9 aB aA aC aG aD aH:D):D:=Ak ts 68 (.row [.int (1:Nat),v0,v1,v2,v3,v4,v5,v6,v7,v8,v9,aB,aA,aC,aG,aD,aH])
def Yq (v0 v1 v2 v3 v4 v5 v6:D):D:=Ak ts 69 (.row [.int (0:Nat),v0,v1,v2,v3,v4,v5,v6])
def V9 (v0 v1 v2 v3 v4 v5 v6 v7 v8 v9 aB:D):D:=Ak ts 69 (.row [.int (1:Nat),v0,v1,v2,v3,v4,v5,v6,v7,v8,v9,aB])
def RX (v0 v1 v2 v3 v4 v5 v6 v7 v8 v9:D):D:=Ak ts 69 (.row [.int (2:Nat),v0,v1,v2,v3,v4,v5,v6,v7,v8,v9])
def Jd (v0 v1 v2 v3 v4 v5 v6 v7 v8 v9 aB aA aC:D):D:=Ak ts 70 (.row [.int (0:Nat),v0,v1,v2,v3,v4,v5,v6,v7,v8,v9,aB,aA,aC])
def Of (v0 v1 v2 v3 v4 v5 v6:D):D:=Ak ts 71 (.row [.int (0:Nat),v0,v1,v2,v3,v4,v5,v6])
def Np (v0 v1 v2 v3 v4 v5 v6 v7:D):D:=Ak ts 71 (.row [.int (1:Nat),v0,v1,v2,v3,v4,v5,v6,v7])
def Le (v0 v1 v2 v3 v4 v5 v6:D):D:=Ak ts 72 (.row [.int (0:Nat),v0,v1,v2,v3,v4,v5,v6])
def IS (v0 v1 v2 v3 v4 v5 v6 v7 v8:D):D:=Ak ts 72 (.row [.int (1:Nat),v0,v1,v2,v3,v4,v5,v6,v7,v8])
def U4 (v0 v1 v2 v3 v4 v5 v6 v7 v8 v9 aB:D):D:=Ak ts 73 (.row [.int (0:Nat),v0,v1,v2,v3,v4,v5,v6,v7,v8,v9,aB])
def OE (v0 v1 v2 v3 v4 v5 v6 v7 v8 v9 aB aA:D):D:=Ak ts 73 (.row [.int (1:Nat),v0,v1,v2,v3,v4,v5,v6,v7,v8,v9,aB,aA])
def KD (v0 v1 v2 v3 v4 v5 v6 v7 v8 v9 aB aA:D):D:=Ak ts 74 (.row [.int (0:Nat),v0,v1,v2,v3,v4,v5,v6,v7,v8,v9,aB,aA])
def V4 (v0 v1 v2 v3 v4 v5 v6 v7 v8 v9 aB aA aC:D):D:=Ak ts 74 (.row [.int (1:Nat),v0,v1,v2,v3,v4,v5,v6,v7,v8,v9,aB,aA,aC])
def OP (v0 v1 v2 v3 v4 v5 v6 v7 v8 v9 aB aA aC aG aD aH aM aN aO aT aK aU aV aW aY:D):D:=Ak ts 75 (.row [.int (0:Nat),v0,v1,v2,v3,v4,v5,v6,v7,v8,v9,aB,aA,aC,aG,aD,aH,aM,aN,aO,aT,aK,aU,aV,aW,aY])
def YY (v0 v1 v2 v3 v4 v5 v6 v7 v8 v9 aB aA aC aG aD aH aM aN aO aT aK aU aV aW:D):D:=Ak ts 76 (.row [.int (0:Nat),v0,v1,v2,v3,v4,v5,v6,v7,v8,v9,aB,aA,aC,aG,aD,aH,aM,aN,aO,aT,aK,aU,aV,aW])
def Og (v0 v1 v2 v3 v4 v5 v6 v7 v8 v9 aB aA aC aG aD aH aM aN aO aT aK aU aV aW aY aZ a_:D):D:=Ak ts 77 (.row [.int (0:Nat),v0,v1,v2,v3,v4,v5,v6,v7,v8,v9,aB,aA,aC,aG,aD,aH,aM,aN,aO,aT,aK,aU,aV,aW,aY,aZ,a_])
def O2 (v0 v1 v2 v3 v4 v5 v6 v7 v8 v9 aB aA aC aG aD aH aM aN aO aT aK aU aV aW aY aZ a_ bb be bd bg bh bm:D):D:=Ak ts 77 (.row [.int (1:Nat),v0,v1,v2,v3,v4,v5,v6,v7,v8,v9,aB,aA,aC,aG,aD,aH,aM,aN,aO,aT,aK,aU,aV,aW,aY,aZ,a_,bb,be,bd,bg,bh,bm])
def Q9 (v0 v1 v2 v3 v4 v5 v6 v7 v8 v9 aB aA aC aG aD aH aM aN aO aT aK aU aV aW aY aZ a_ bb be bd bg bh bm bo bp:D):D:=Ak ts 77 (.row [.int (2:Nat),v0,v1,v2,v3,v4,v5,v6,v7,v8,v9,aB,aA,aC,aG,aD,aH,aM,aN,aO,aT,aK,aU,aV,aW,aY,aZ,a_,bb,be,bd,bg,bh,bm,bo,bp])
def Sg (v0 v1 v2 v3 v4 v5 v6 v7 v8 v9 aB aA aC aG aD aH aM aN aO aT aK aU aV aW aY aZ a_ bb be bd bg bh bm:D):D:=Ak ts 77 (.row [.int (3:Nat),v0,v1,v2,v3,v4,v5,v6,v7,v8,v9,aB,aA,aC,aG,aD,aH,aM,aN,aO,aT,aK,aU,aV,aW,aY,aZ,a_,bb,be,bd,bg,bh,bm])
def SN (v0 v1 v2 v3 v4 v5 v6 v7 v8 v9 aB aA aC aG aD aH aM aN aO aT aK aU aV aW aY aZ a_ bb be bd bg bh bm bo bp:D):D:=Ak ts 77 (.row [.int (4:Nat),v0,v1,v2,v3,v4,v5,v6,v7,v8,v9,aB,aA,aC,aG,aD,aH,aM,aN,aO,aT,aK,aU,aV,aW,aY,aZ,a_,bb,be,bd,bg,bh,bm,bo,bp])
def Y8 (v0 v1 v2 v3 v4 v5 v6 v7 v8 v9 aB aA aC aG aD aH aM aN aO:D):D:=Ak ts 78 (.row [.int (0:Nat),v0,v1,v2,v3,v4,v5,v6,v7,v8,v9,aB,aA,aC,aG,aD,aH,aM,aN,aO])
def Sy (v0 v1 v2 v3 v4 v5 v6 v7 v8 v9 aB aA aC aG aD aH aM aN aO aT aK aU aV:D):D:=Ak ts 78 (.row [.int (1:Nat),v0,v1,v2,v3,v4,v5,v6,v7,v8,v9,aB,aA,aC,aG,aD,aH,aM,aN,aO,aT,aK,aU,aV])
def QR (v0 v1 v2 v3 v4 v5 v6 v7 v8 v9 aB aA aC aG aD aH aM aN aO aT:D):D:=Ak ts 78 (.row [.int (2:Nat),v0,v1,v2,v3,v4,v5,v6,v7,v8,v9,aB,aA,aC,aG,aD,aH,aM,aN,aO,aT])
def Ey (v0 v1 v2 v3 v4 v5 v6 v7 v8 v9:D):D:=Ak ts 79 (.row [.int (0:Nat),v0,v1,v2,v3,v4,v5,v6,v7,v8,v9])
def L5 (v0 v1 v2 v3 v4 v5 v6 v7 v8 v9 aB aA aC aG aD aH:D):D:=Ak ts 79 (.row [.int (1:Nat),v0,v1,v2,v3,v4,v5,v6,v7,v8,v9,aB,aA,aC,aG,aD,aH])
def Wq (v0 v1 v2 v3 v4 v5:D):D:=Ak ts 80 (.row [.int (0:Nat),v0,v1,v2,v3,v4,v5])
def OF (v0 v1 v2:D):D:=Ak ts 81 (.row [.int (0:Nat),v0,v1,v2])
def VN (v0 v1 v2 v3:D):D:=Ak ts 81 (.row [.int (1:Nat),v0,v1,v2,v3])
def AG (v0 v1 v2 v3 v4 v5 v6:D):D:=Ak ts 82 (.row [.int (0:Nat),v0,v1,v2,v3,v4,v5,v6])
def VE (v0 v1 v2 v3 v4 v5 v6 v7 v8 v9 aB aA aC aG aD aH aM aN aO aT aK aU aV aW aY aZ a_ bb be bd:D):D:=Ak ts 83 (.row [.int (0:Nat),v0,v1,v2,v3,v4,v5,v6,v7,v8,v9,aB,aA,aC,aG,aD,aH,aM,aN,aO,aT,aK,aU,aV,aW,aY,aZ,a_,bb,be,bd])
def MU (v0 v1 v2 v3 v4 v5 v6 v7 v8 v9 aB aA aC aG aD aH aM aN aO aT aK aU aV aW aY aZ a_ bb be bd bg:D):D:=Ak ts 83 (.row [.int (1:Nat),v0,v1,v2,v3,v4,v5,v6,v7,v8,v9,aB,aA,aC,aG,aD,aH,aM,aN,aO,aT,aK,aU,aV,aW,aY,aZ,a_,bb,be,bd,bg])
def YT (v0 v1 v2 v3 v4 v5 v6 v7 v8 v9 aB aA aC aG aD aH aM aN aO aT aK aU aV aW aY aZ:D):D:=Ak ts 84 (.row [.int (0:Nat),v0,v1,v2,v3,v4,v5,v6,v7,v8,v9,aB,aA,aC,aG,aD,aH,aM,aN,aO,aT,aK,aU,aV,aW,aY,aZ])
def Pv (v0 v1 v2 v3 v4 v5 v6 v7 v8 v9 aB aA aC aG aD aH aM aN aO aT aK aU aV aW aY aZ a_:D):D:=Ak ts 84 (.row [.int (1:Nat),v0,v1,v2,v3,v4,v5,v6,v7,v8,v9,aB,aA,aC,aG,aD,aH,aM,aN,aO,aT,aK,aU,aV,aW,aY,aZ,a_])
def Vc (v0 v1 v2 v3 v4 v5 v6 v7 v8 v9 aB aA aC aG aD aH aM aN aO aT aK:D):D:=Ak ts 85 (.row [.int (0:Nat),v0,v1,v2,v3,v4,v5,v6,v7,v8,v9,aB,aA,aC,aG,aD,aH,aM,aN,aO,aT,aK])
def MP (v0 v1 v2 v3 v4 v5 v6 v7 v8 v9 aB aA aC aG aD aH aM aN aO aT aK aU aV aW aY aZ a_ bb be bd bg bh:D):D:=Ak ts 86 (.row [.int (0:Nat),v0,v1,v2,v3,v4,v5,v6,v7,v8,v9,aB,aA,aC,aG,aD,aH,aM,aN,aO,aT,aK,aU,aV,aW,aY,aZ,a_,bb,be,bd,bg,bh])
def IZ (v0 v1 v2 v3 v4 v5 v6 v7 v8 v9 aB aA aC aG aD aH aM aN aO aT aK aU aV aW aY aZ a_ bb be bd bg bh bm:D):D:=Ak ts 86 (.row [.int (1:Nat),v0,v1,v2,v3,v4,v5,v6,v7,v8,v9,aB,aA,aC,aG,aD,aH,aM,aN,aO,aT,aK,aU,aV,aW,aY,aZ,a_,bb,be,bd,bg,bh,bm])
def OX (v0 v1 v2 v3 v4 v5 v6 v7 v8 v9 aB aA aC aG aD aH aM aN aO aT aK aU aV:D):D:=Ak ts 87 (.row [.int (0:Nat),v0,v1,v2,v3,v4,v5,v6,v7,v8,v9,aB,aA,aC,aG,aD,aH,aM,aN,aO,aT,aK,aU,aV])
def ZT (v0 v1 v2 v3 v4 v5 v6 v7 v8 v9 aB aA aC aG aD aH aM aN aO aT:D):D:=Ak ts 88 (.row [.int (0:Nat),v0,v1,v2,v3,v4,v5,v6,v7,v8,v9,aB,aA,aC,aG,aD,aH,aM,aN,aO,aT])
def U7 (v0 v1 v2 v3:D):D:=Ak ts 89 (.row [.int (0:Nat),v0,v1,v2,v3])
def Kz (v0 v1 v2 v3 v4:D):D:=Ak ts 89 (.row [.int (1:Nat),v0,v1,v2,v3,v4])
def iy (v0 v1 v2 v3 v4 v5 v6 v7 v8 v9 aB aA:D):D:=Ak ts 90 (.row [.int (0:Nat),v0,v1,v2,v3,v4,v5,v6,v7,v8,v9,aB,aA])
def RA (v0 v1 v2 v3 v4 v5 v6 v7 v8 v9 aB aA aC aG aD aH aM aN aO aT aK aU aV aW aY aZ a_ bb be bd bg bh bm:D):D:=Ak ts 90 (.row [.int (1:Nat),v0,v1,v2,v3,v4,v5,v6,v7,v8,v9,aB,aA,aC,aG,aD,aH,aM,aN,aO,aT,aK,aU,aV,aW,aY,aZ,a_,bb,be,bd,bg,bh,bm])
def Q2 (v0 v1 v2 v3 v4 v5 v6 v7 v8 v9 aB aA aC aG aD aH aM aN aO aT aK aU aV aW aY aZ a_ bb be bd bg bh bm bo bp bq bs bA bB bC bD bu bw bx bK bM bR bS bE bG b0 bU bV bW b7 bX:D):D:=Ak ts 90 (.row [.int (2:Nat),v0,v1,v2,v3,v4,v5,v6,v7,v8,v9,aB,aA,aC,aG,aD,aH,aM,aN,aO,aT,aK,aU,aV,aW,aY,aZ,a_,bb,be,bd,bg,bh,bm,bo,bp,bq,bs,bA,bB,bC,bD,bu,bw,bx,bK,bM,bR,bS,bE,bG,b0,bU,bV,bW,b7,bX])
def O9 (v0 v1 v2 v3 v4 v5 v6 v7 v8 v9 aB aA aC aG aD aH aM aN aO aT aK aU aV aW aY aZ a_ bb be bd bg bh bm bo bp bq bs bA bB bC bD bu bw bx bK bM bR bS bE bG b0 bU bV bW b7 bX b8 b_ b9:D):D:=Ak ts 90 (.row [.int (3:Nat),v0,v1,v2,v3,v4,v5,v6,v7,v8,v9,aB,aA,aC,aG,aD,aH,aM,aN,aO,aT,aK,aU,aV,aW,aY,aZ,a_,bb,be,bd,bg,bh,bm,bo,bp,bq,bs,bA,bB,bC,bD,bu,bw,bx,bK,bM,bR,bS,bE,bG,b0,bU,bV,bW,b7,bX,b8,b_,b9])
def Dy:D:=Ak ts 90 (.row [.int (4:Nat)])
def ON (v0 v1 v2 v3 v4 v5 v6 v7 v8 v9 aB aA aC aG aD aH aM aN aO aT aK aU aV aW aY aZ a_ bb be bd bg bh bm bo bp:D):D:=Ak ts 90 (.row [.int (5:Nat),v0,v1,v2,v3,v4,v5,v6,v7,v8,v9,aB,aA,aC,aG,aD,aH,aM,aN,aO,aT,aK,aU,aV,aW,aY,aZ,a_,bb,be,bd,bg,bh,bm,bo,bp])
def Sa (v0 v1 v2 v3 v4 v5 v6 v7 v8 v9 aB aA aC aG aD aH aM aN aO aT aK aU aV aW aY aZ a_ bb be bd bg bh bm bo bp bq bs bA bB bC bD bu bw bx bK bM bR bS bE bG:D):D:=Ak ts 90 (.row [.int (6:Nat),v0,v1,v2,v3,v4,v5,v6,v7,v8,v9,aB,aA,aC,aG,aD,aH,aM,aN,aO,aT,aK,aU,aV,aW,aY,aZ,a_,bb,be,bd,bg,bh,bm,bo,bp,bq,bs,bA,bB,bC,bD,bu,bw,bx,bK,bM,bR,bS,bE,bG])
def Nb (v0 v1 v2 v3 v4 v5 v6 v7 v8 v9 aB aA aC aG aD aH aM aN aO aT aK aU aV aW aY aZ a_ bb be bd bg bh bm bo bp bq bs bA bB bC bD bu bw bx bK bM bR bS bE bG b0 bU bV bW b7 bX b8 b_ b9 cc cf ch cj ck cm cn ca cd cp:D):D:=Ak ts 90 (.row [.int (7:Nat),v0,v1,v2,v3,v4,v5,v6,v7,v8,v9,aB,aA,aC,aG,aD,aH,aM,aN,aO,aT,aK,aU,aV,aW,aY,aZ,a_,bb,be,bd,bg,bh,bm,bo,bp,bq,bs,bA,bB,bC,bD,bu,bw,bx,bK,bM,bR,bS,bE,bG,b0,bU,bV,bW,b7,bX,b8,b_,b9,cc,cf,ch,cj,ck,cm,cn,ca,cd,cp])
theorem zq (v0 v1 v2 v3:D):St v0 v1 v2 v3 =
  cond (6<(len v1:Int)) (
 .row [.int 1,(.bool false)]) (
 cond (12<(len v3:Int)) (
 .row [.int 1,(.bool false)]) (
 cond (5<(len v2:Int)) (
 .row [.int 1,(.bool false)]) (
 cond (40<(BE v0:Int)) (
 .row [.int 1,(.bool false)]) (
 Xh (.int 0) (.int 0) v0 v1 v2 v3)))):=gw rfl rfl rfl
theorem qM (v0 v1:Int) (v2 v3 v4 v5:D):Xh (.int v0) (.int v1) v2 v3 v4 v5 =
  cond (v1<len v4) (
 cond (v1<0) (
 .row []) (
 cond ((cl v4 v1 1).toInt<0) (
 cond (40<(BE (cl v4 v1 0):Int)) (
 .row [.int 1,(.bool false)]) (
 Xh (.int (IntKind.wrap .i64 (v0+0))) (.int (IntKind.wrap .i64 (v1+1))) v2 v3 v4 v5)) (
 cond (100<(cl v4 v1 1).toInt) (
 cond (40<(BE (cl v4 v1 0):Int)) (
 .row [.int 1,(.bool false)]) (
 Xh (.int (IntKind.wrap .i64 (v0+100))) (.int (IntKind.wrap .i64 (v1+1))) v2 v3 v4 v5)) (
 cond (40<(BE (cl v4 v1 0):Int)) (
 .row [.int 1,(.bool false)]) (
 Xh (.int (IntKind.wrap .i64 (v0+(cl v4 v1 1).toInt))) (.int (IntKind.wrap .i64 (v1+1))) v2 v3 v4 v5))))) (
 dN (.int v0) (.int 0) v2 v3 v4 v5):=gw rfl rfl rfl
theorem qN (v0 v1:Int) (v2 v3 v4 v5:D):dN (.int v0) (.int v1) v2 v3 v4 v5 =
  cond (v1<len v3) (
 cond (v1<0) (
 .row []) (
 cond (40<(BE (cl v3 v1 0):Int)) (
 .row [.int 1,(.bool false)]) (
 dN (.int v0) (.int (IntKind.wrap .i64 (v1+1))) v2 v3 v4 v5))) (
 eB (.int v0) (.int 0) v2 v3 v4 v5):=gw rfl rfl rfl
theorem qX (v0 v1:Int) (v2 v3 v4 v5:D):eB (.int v0) (.int v1) v2 v3 v4 v5 =
  cond (v1<len v5) (
 cond (v1<0) (
 .row []) (
 cond (40<(BE (cl v5 v1 0):Int)) (
 .row [.int 1,(.bool false)]) (
 cond (40<(BE (cl v5 v1 1):Int)) (
 .row [.int 1,(.bool false)]) (
 cond (40<(BE (cl v5 v1 3):Int)) (
 .row [.int 1,(.bool false)]) (
 cond (40<(BE (cl v5 v1 4):Int)) (
 .row [.int 1,(.bool false)]) (
 cond (40<(BE (cl v5 v1 5):Int)) (
 .row [.int 1,(.bool false)]) (
 eB (.int v0) (.int (IntKind.wrap .i64 (v1+1))) v2 v3 v4 v5))))))) (
 .row [.int 1,(.bool (!decide (30<v0)))]):=gw rfl rfl rfl
theorem yT (v0 v1:D):Xk v0 v1 =
  cond (10<(len v0:Int)) (
 .row [.int 1,(.bool false)]) (
 .row [.int 1,(.bool (!decide (10<(len v1:Int))))]):=gw rfl rfl rfl
theorem zi:LW =
 .row [.int 1]:=gw rfl rfl rfl
theorem zM (v0:D) (v1:Bool) (v2:D) (v3 v4:Int):dE v0 (.bool v1) v2 (.int v3) (.int v4) =
  cond (v3<len v0) (
 .row [.int 1,(.bool false)]) (
 cond (v4<len v2) (
 .row [.int 1,(.bool false)]) (
 mg v0 (.bool v1) v2 (.int 0))):=gw rfl rfl rfl
theorem zE (v0:D) (v1:Bool) (v2:D) (v3:Int):mg v0 (.bool v1) v2 (.int v3) =
  cond (v3<len v0) (
 cond (v3<0) (
 .row []) (
 cond ((sl (St (cl v0 v3 0) (cl v0 v3 1) (cl v0 v3 2) (cl v0 v3 3)) 0).toInt=1) (
 cond ((sl (St (cl v0 v3 0) (cl v0 v3 1) (cl v0 v3 2) (cl v0 v3 3)) 1).toBool) (
 cond ((sl (Xk (cl v0 v3 4) (cl v0 v3 5)) 0).toInt=1) (
 cond ((sl (Xk (cl v0 v3 4) (cl v0 v3 5)) 1).toBool) (
 mg v0 (.bool v1) v2 (.int (IntKind.wrap .i64 (v3+1)))) (
 .row [.int 1,(.bool false)])) (
 .row [])) (
 .row [.int 1,(.bool false)])) (
 .row []))) (
 dA v2 (.int 0) v0):=gw rfl rfl (cL (cL rfl (cQ (cg rfl (cQ rfl rfl) rfl) rfl)) rfl)
theorem wi (v0:D) (v1:Int) (v2:D):dA v0 (.int v1) v2 =
  cond (v1<len v0) (
 cond (v1<0) (
 .row []) (
 cond (40<(BE (cl v0 v1 3):Int)) (
 .row [.int 1,(.bool false)]) (
 cond (40<(BE (cl v0 v1 4):Int)) (
 .row [.int 1,(.bool false)]) (
 dA v0 (.int (IntKind.wrap .i64 (v1+1))) v2)))) (
 .row [.int 1,(.bool true)]):=gw rfl rfl rfl
theorem va (v0:D):GY v0 =
  cond ((BE v0:Int)<1) (
 .row [.int 1,(.bool false)]) (
 cond (32<(BE v0:Int)) (
 .row [.int 1,(.bool false)]) (
 Up (Ri v0) (.int (len (Ri v0):Int)) (.int 0))):=gw rfl rfl rfl
theorem li (v0:D) (v1 v2:Int):Up v0 (.int v1) (.int v2) =
  cond (v2<v1) (
 cond (v2<0) (
 .row []) (
 cond (v2<len v0) (
 cond ((IntKind.wrap .u8 (cl v0 v2 0).toInt)<97) (
 cond ((IntKind.wrap .u8 (cl v0 v2 0).toInt)<65) (
 cond (v2=0) (
 .row [.int 1,(.bool false)]) (
 cond ((IntKind.wrap .u8 (cl v0 v2 0).toInt)<48) (
 .row [.int 1,(.bool false)]) (
 cond (57<(IntKind.wrap .u8 (cl v0 v2 0).toInt)) (
 .row [.int 1,(.bool false)]) (
 Up v0 (.int v1) (.int (IntKind.wrap .i64 (v2+1))))))) (
 cond (90<(IntKind.wrap .u8 (cl v0 v2 0).toInt)) (
 cond (v2=0) (
 .row [.int 1,(.bool false)]) (
 cond ((IntKind.wrap .u8 (cl v0 v2 0).toInt)=95) (
 Up v0 (.int v1) (.int (IntKind.wrap .i64 (v2+1)))) (
 .row [.int 1,(.bool false)]))) (
 Up v0 (.int v1) (.int (IntKind.wrap .i64 (v2+1)))))) (
 cond (122<(IntKind.wrap .u8 (cl v0 v2 0).toInt)) (
 cond (v2=0) (
 .row [.int 1,(.bool false)]) (
 .row [.int 1,(.bool false)])) (
 Up v0 (.int v1) (.int (IntKind.wrap .i64 (v2+1)))))) (
 .row []))) (
 .row [.int 1,(.bool true)]):=gw rfl rfl (cL (cL rfl (cL (cL (cL (cQ rfl rfl) (cL (cQ rfl (cQ rfl rfl)) rfl)) (cL (cQ rfl rfl) rfl)) rfl)) rfl)
theorem yH (v0 v1:D):YF v0 v1 =
 cz v0 (.int 0) v1:=gw rfl rfl rfl
theorem yS (v0:D) (v1:Int) (v2:D):cz v0 (.int v1) v2 =
  cond (v1<len v0) (
 cond (v1<0) (
 .row []) (
 cond (D.strEq (cl v0 v1 0) v2) (
 .row [.int 1,(.int v1)]) (
 cz v0 (.int (IntKind.wrap .i64 (v1+1))) v2))) (
 .row [.int 1,(.int (-1))]):=gw rfl rfl rfl
theorem yP (v0 v1 v2:Int) (v3 v4 v5 v6:D):au (.int v0) (.int v1) (.int v2) v3 v4 v5 v6 =
  cond (v0<v1) (
 .row [.int 1,(.int 0)]) (
 cond (v2<v0) (
 .row [.int 1,(.int v2)]) (
 Xu (.int v0) (.int 0) v3 v4 v5 v6)):=gw rfl rfl rfl
theorem rL (v0 v1:Int) (v2 v3 v4 v5:D):Xu (.int v0) (.int v1) v2 v3 v4 v5 =
  cond (v1<v0) (
 cond (v1<0) (
 .row []) (
 cond (v1<len v4) (
 cond ((sl (GY (cl v4 v1 0)) 0).toInt=1) (
 cond ((sl (GY (cl v4 v1 0)) 1).toBool) (
 cond ((sl (YF v4 (cl v4 v1 0)) 0).toInt=1) (
 cond ((sl (YF v4 (cl v4 v1 0)) 1).toInt<v1) (
 .row [.int 1,(.int v1)]) (
 cond ((cl v4 v1 1).toInt<1) (
 .row [.int 1,(.int v1)]) (
 cond (1000<(cl v4 v1 1).toInt) (
 .row [.int 1,(.int v1)]) (
 Xu (.int v0) (.int (IntKind.wrap .i64 (v1+1))) v2 v3 v4 v5)))) (
 .row [])) (
 .row [.int 1,(.int v1)])) (
 .row [])) (
 .row []))) (
 .row [.int 1,(.int (-1))]):=gw rfl rfl (cL (cL rfl (cL (cQ (cg rfl (cQ (cL rfl (cL rfl (cL rfl rfl))) rfl) rfl) rfl) rfl)) rfl)
theorem zp (v0 v1:D):Ko v0 v1 =
 eA v0 (.int 0) v1:=gw rfl rfl rfl
theorem zh (v0:D) (v1:Int) (v2:D):eA v0 (.int v1) v2 =
  cond (v1<len v0) (
 cond (v1<0) (
 .row []) (
 cond (D.strEq (cl v0 v1 0) v2) (
 .row [.int 1,(.int v1)]) (
 eA v0 (.int (IntKind.wrap .i64 (v1+1))) v2))) (
 .row [.int 1,(.int (-1))]):=gw rfl rfl rfl
theorem yO (v0 v1 v2:Int) (v3 v4 v5 v6:D):bj (.int v0) (.int v1) (.int v2) v3 v4 v5 v6 =
  cond (v0<v1) (
 .row [.int 1,(.int 0)]) (
 cond (v2<v0) (
 .row [.int 1,(.int v2)]) (
 WR (.int v0) (.int 0) v3 v4 v5 v6)):=gw rfl rfl rfl
theorem ry (v0 v1:Int) (v2 v3 v4 v5:D):WR (.int v0) (.int v1) v2 v3 v4 v5 =
  cond (v1<v0) (
 cond (v1<0) (
 .row []) (
 cond (v1<len v3) (
 cond ((sl (GY (cl v3 v1 0)) 0).toInt=1) (
 cond ((sl (GY (cl v3 v1 0)) 1).toBool) (
 cond ((sl (Ko v3 (cl v3 v1 0)) 0).toInt=1) (
 cond ((sl (Ko v3 (cl v3 v1 0)) 1).toInt<v1) (
 .row [.int 1,(.int v1)]) (
 cond ((cl v3 v1 2).toInt<0) (
 .row [.int 1,(.int v1)]) (
 cond (1048576<(cl v3 v1 2).toInt) (
 .row [.int 1,(.int v1)]) (
 WR (.int v0) (.int (IntKind.wrap .i64 (v1+1))) v2 v3 v4 v5)))) (
 .row [])) (
 .row [.int 1,(.int v1)])) (
 .row [])) (
 .row []))) (
 .row [.int 1,(.int (-1))]):=gw rfl rfl (cL (cL rfl (cL (cQ (cg rfl (cQ (cL rfl (cL rfl (cL rfl rfl))) rfl) rfl) rfl) rfl)) rfl)
theorem zb (v0 v1 v2:D) (v3:Int) (v4 v5 v6:D) (v7 v8 v9:Int):md v0 v1 v2 (.int v3) v4 v5 v6 (.int v7) (.int v8) (.int v9) =
 Xo v0 (.int 0) v1 v2 (.int v3) v4 v5 v6 (.int v7) (.int v8) (.int v9):=gw rfl rfl rfl
theorem qv (v0:D) (v1:Int) (v2 v3:D) (v4:Int) (v5 v6 v7:D) (v8 v9 aB:Int):Xo v0 (.int v1) v2 v3 (.int v4) v5 v6 v7 (.int v8) (.int v9) (.int aB) =
  cond (v1<len v0) (
 cond (v1<0) (
 .row []) (
 cond ((D.strEq v2 (cl v0 v1 0)&&(D.strEq v3 (cl v0 v1 1)&&(decide (v4=(cl v0 v1 2).toInt)&&(D.strEq v5 (cl v0 v1 3)&&(D.strEq v6 (cl v0 v1 4)&&(D.strEq v7 (cl v0 v1 5)&&(decide (v8=(cl v0 v1 6).toInt)&&(decide (v9=(cl v0 v1 7).toInt)&&decide (aB=(cl v0 v1 8).toInt)))))))))) (
 .row [.int 1,(.int v1)]) (
 Xo v0 (.int (IntKind.wrap .i64 (v1+1))) v2 v3 (.int v4) v5 v6 v7 (.int v8) (.int v9) (.int aB)))) (
 .row [.int 1,(.int (-1))]):=gw rfl rfl (cL (cL rfl (cg (aE rfl (aE rfl (aE (qE rfl rfl) (aE rfl (aE rfl (aE rfl (aE (qE rfl rfl) (aE (qE rfl rfl) (qE rfl rfl))))))))) rfl rfl)) rfl)
theorem oP (v0 v1 v2:Int) (v3 v4 v5 v6:D):QZ (.int v0) (.int v1) (.int v2) v3 v4 v5 v6 =
  cond (v0<v1) (
 .row [.int 1,(.int 0)]) (
 cond (v2<v0) (
 .row [.int 1,(.int v2)]) (
 EP (.int v0) (.int 0) v3 v4 v5 v6)):=gw rfl rfl rfl
theorem ig (v0 v1:Int) (v2 v3 v4 v5:D) {c a b:D} (h0:md (sb v5 0 v1) (cl v5 v1 0) (cl v5 v1 1) (cl v5 v1 2) (cl v5 v1 3) (cl v5 v1 4) (cl v5 v1 5) (cl v5 v1 6) (cl v5 v1 7) (cl v5 v1 8)=c) (h1:YF v4 (cl v5 v1 5)=a) (h2:Ko v3 (cl v5 v1 0)=b):EP (.int v0) (.int v1) v2 v3 v4 v5 =
  cond (v1<v0) (
 cond (v1<0) (
 .row []) (
 cond (v1<len v5) (
 cond ((cl v5 v1 2).toInt=1) (
 cond ((sl b 0).toInt=1) (
 cond ((sl a 0).toInt=1) (
 cond ((sl b 1).toInt<0) (
 .row [.int 1,(.int v1)]) (
 cond ((sl (Ko v3 (cl v5 v1 1)) 0).toInt=1) (
 cond ((sl (Ko v3 (cl v5 v1 1)) 1).toInt<0) (
 .row [.int 1,(.int v1)]) (
 cond (len v5<v1) (
 .row []) (
 cond ((sl c 0).toInt=1) (
 cond ((sl c 1).toInt<0) (
 cond ((sl b 1).toInt<len v3) (
 cond ((sl (GY (cl v5 v1 3)) 0).toInt=1) (
 cond ((sl (GY (cl v5 v1 3)) 1).toBool) (
 cond ((sl (GY (cl v5 v1 4)) 0).toInt=1) (
 cond ((sl (GY (cl v5 v1 4)) 1).toBool) (
 cond (D.strEq (cl v5 v1 4) v2) (
 .row [.int 1,(.int v1)]) (
 cond (eqC (cl v5 v1 5) 0 0) (
 cond ((cl v5 v1 6).toInt=0) (
 cond ((cl v5 v1 7).toInt=0) (
 cond ((cl v5 v1 8).toInt=0) (
 EP (.int v0) (.int (IntKind.wrap .i64 (v1+1))) v2 v3 v4 v5) (
 .row [.int 1,(.int v1)])) (
 .row [.int 1,(.int v1)])) (
 .row [.int 1,(.int v1)])) (
 cond ((sl a 1).toInt<0) (
 .row [.int 1,(.int v1)]) (
 cond ((cl v5 v1 6).toInt<0) (
 .row [.int 1,(.int v1)]) (
 cond ((cl v5 v1 7).toInt<(cl v5 v1 6).toInt) (
 .row [.int 1,(.int v1)]) (
 cond ((cl v5 v1 8).toInt<(-1000)) (
 .row [.int 1,(.int v1)]) (
 cond (1000<(cl v5 v1 8).toInt) (
 .row [.int 1,(.int v1)]) (
 cond ((sl a 1).toInt<len v4) (
 cond ((cl v4 (sl a 1).toInt 1).toInt<(cl v5 v1 7).toInt) (
 .row [.int 1,(.int v1)]) (
 cond ((IntKind.wrap .i64 ((cl v5 v1 6).toInt+(cl v5 v1 8).toInt))<0) (
 .row [.int 1,(.int v1)]) (
 cond ((cl v4 (sl a 1).toInt 1).toInt<(IntKind.wrap .i64 ((cl v5 v1 7).toInt+(cl v5 v1 8).toInt))) (
 .row [.int 1,(.int v1)]) (
 EP (.int v0) (.int (IntKind.wrap .i64 (v1+1))) v2 v3 v4 v5)))) (
 .row []))))))))) (
 .row [.int 1,(.int v1)])) (
 .row [])) (
 .row [.int 1,(.int v1)])) (
 .row [])) (
 .row [])) (
 .row [.int 1,(.int v1)])) (
 .row [])))) (
 .row []))) (
 .row [])) (
 .row [])) (
 cond ((cl v5 v1 2).toInt=2) (
 cond ((sl b 0).toInt=1) (
 cond ((sl a 0).toInt=1) (
 cond ((sl b 1).toInt<0) (
 .row [.int 1,(.int v1)]) (
 cond ((sl (Ko v3 (cl v5 v1 1)) 0).toInt=1) (
 cond ((sl (Ko v3 (cl v5 v1 1)) 1).toInt<0) (
 .row [.int 1,(.int v1)]) (
 cond (len v5<v1) (
 .row []) (
 cond ((sl c 0).toInt=1) (
 cond ((sl c 1).toInt<0) (
 cond ((sl b 1).toInt<len v3) (
 cond ((sl (GY (cl v5 v1 3)) 0).toInt=1) (
 cond ((sl (GY (cl v5 v1 3)) 1).toBool) (
 cond ((sl (GY (cl v5 v1 4)) 0).toInt=1) (
 cond ((sl (GY (cl v5 v1 4)) 1).toBool) (
 cond (D.strEq (cl v5 v1 4) v2) (
 .row [.int 1,(.int v1)]) (
 cond (eqC (cl v5 v1 5) 0 0) (
 cond ((cl v5 v1 6).toInt=0) (
 cond ((cl v5 v1 7).toInt=0) (
 cond ((cl v5 v1 8).toInt=0) (
 EP (.int v0) (.int (IntKind.wrap .i64 (v1+1))) v2 v3 v4 v5) (
 .row [.int 1,(.int v1)])) (
 .row [.int 1,(.int v1)])) (
 .row [.int 1,(.int v1)])) (
 cond ((sl a 1).toInt<0) (
 .row [.int 1,(.int v1)]) (
 cond ((cl v5 v1 6).toInt<0) (
 .row [.int 1,(.int v1)]) (
 cond ((cl v5 v1 7).toInt<(cl v5 v1 6).toInt) (
 .row [.int 1,(.int v1)]) (
 cond ((cl v5 v1 8).toInt<(-1000)) (
 .row [.int 1,(.int v1)]) (
 cond (1000<(cl v5 v1 8).toInt) (
 .row [.int 1,(.int v1)]) (
 cond ((sl a 1).toInt<len v4) (
 cond ((cl v4 (sl a 1).toInt 1).toInt<(cl v5 v1 7).toInt) (
 .row [.int 1,(.int v1)]) (
 cond ((IntKind.wrap .i64 ((cl v5 v1 6).toInt+(cl v5 v1 8).toInt))<0) (
 .row [.int 1,(.int v1)]) (
 cond ((cl v4 (sl a 1).toInt 1).toInt<(IntKind.wrap .i64 ((cl v5 v1 7).toInt+(cl v5 v1 8).toInt))) (
 .row [.int 1,(.int v1)]) (
 EP (.int v0) (.int (IntKind.wrap .i64 (v1+1))) v2 v3 v4 v5)))) (
 .row []))))))))) (
 .row [.int 1,(.int v1)])) (
 .row [])) (
 .row [.int 1,(.int v1)])) (
 .row [])) (
 .row [])) (
 .row [.int 1,(.int v1)])) (
 .row [])))) (
 .row []))) (
 .row [])) (
 .row [])) (
 cond ((cl v5 v1 2).toInt=3) (
 cond ((sl b 0).toInt=1) (
 cond ((sl a 0).toInt=1) (
 cond ((sl b 1).toInt<0) (
 .row [.int 1,(.int v1)]) (
 cond ((sl (Ko v3 (cl v5 v1 1)) 0).toInt=1) (
 cond ((sl (Ko v3 (cl v5 v1 1)) 1).toInt<0) (
 .row [.int 1,(.int v1)]) (
 cond (len v5<v1) (
 .row []) (
 cond ((sl c 0).toInt=1) (
 cond ((sl c 1).toInt<0) (
 cond ((sl b 1).toInt<len v3) (
 cond (0<(cl v3 (sl b 1).toInt 2).toInt) (
 cond ((BE (cl v5 v1 3):Int)<4611686018427387904) (
 cond ((BE (cl v5 v1 4):Int)<4611686018427387904) (
 cond (eqC (fN (cl v5 v1 3) (cl v5 v1 4)) 0 0) (
 cond (eqC (cl v5 v1 5) 0 0) (
 cond ((cl v5 v1 6).toInt=0) (
 cond ((cl v5 v1 7).toInt=0) (
 cond ((cl v5 v1 8).toInt=0) (
 EP (.int v0) (.int (IntKind.wrap .i64 (v1+1))) v2 v3 v4 v5) (
 .row [.int 1,(.int v1)])) (
 .row [.int 1,(.int v1)])) (
 .row [.int 1,(.int v1)])) (
 cond ((sl a 1).toInt<0) (
 .row [.int 1,(.int v1)]) (
 cond ((cl v5 v1 6).toInt<0) (
 .row [.int 1,(.int v1)]) (
 cond ((cl v5 v1 7).toInt<(cl v5 v1 6).toInt) (
 .row [.int 1,(.int v1)]) (
 cond ((cl v5 v1 8).toInt<(-1000)) (
 .row [.int 1,(.int v1)]) (
 cond (1000<(cl v5 v1 8).toInt) (
 .row [.int 1,(.int v1)]) (
 cond ((sl a 1).toInt<len v4) (
 cond ((cl v4 (sl a 1).toInt 1).toInt<(cl v5 v1 7).toInt) (
 .row [.int 1,(.int v1)]) (
 cond ((IntKind.wrap .i64 ((cl v5 v1 6).toInt+(cl v5 v1 8).toInt))<0) (
 .row [.int 1,(.int v1)]) (
 cond ((cl v4 (sl a 1).toInt 1).toInt<(IntKind.wrap .i64 ((cl v5 v1 7).toInt+(cl v5 v1 8).toInt))) (
 .row [.int 1,(.int v1)]) (
 EP (.int v0) (.int (IntKind.wrap .i64 (v1+1))) v2 v3 v4 v5)))) (
 .row [])))))))) (
 .row [.int 1,(.int v1)])) (
 .row [])) (
 .row [])) (
 .row [.int 1,(.int v1)])) (
 .row [])) (
 .row [.int 1,(.int v1)])) (
 .row [])))) (
 .row []))) (
 .row [])) (
 .row [])) (
 cond ((cl v5 v1 2).toInt=4) (
 cond ((sl b 0).toInt=1) (
 cond ((sl a 0).toInt=1) (
 cond ((sl b 1).toInt<0) (
 .row [.int 1,(.int v1)]) (
 cond ((sl (Ko v3 (cl v5 v1 1)) 0).toInt=1) (
 cond ((sl (Ko v3 (cl v5 v1 1)) 1).toInt<0) (
 .row [.int 1,(.int v1)]) (
 cond (len v5<v1) (
 .row []) (
 cond ((sl c 0).toInt=1) (
 cond ((sl c 1).toInt<0) (
 cond ((sl b 1).toInt<len v3) (
 cond ((BE (cl v5 v1 3):Int)<4611686018427387904) (
 cond ((BE (cl v5 v1 4):Int)<4611686018427387904) (
 cond (eqC (fN (cl v5 v1 3) (cl v5 v1 4)) 0 0) (
 cond (eqC (cl v5 v1 5) 0 0) (
 cond ((cl v5 v1 6).toInt=0) (
 cond ((cl v5 v1 7).toInt=0) (
 cond ((cl v5 v1 8).toInt=0) (
 EP (.int v0) (.int (IntKind.wrap .i64 (v1+1))) v2 v3 v4 v5) (
 .row [.int 1,(.int v1)])) (
 .row [.int 1,(.int v1)])) (
 .row [.int 1,(.int v1)])) (
 cond ((sl a 1).toInt<0) (
 .row [.int 1,(.int v1)]) (
 cond ((cl v5 v1 6).toInt<0) (
 .row [.int 1,(.int v1)]) (
 cond ((cl v5 v1 7).toInt<(cl v5 v1 6).toInt) (
 .row [.int 1,(.int v1)]) (
 cond ((cl v5 v1 8).toInt<(-1000)) (
 .row [.int 1,(.int v1)]) (
 cond (1000<(cl v5 v1 8).toInt) (
 .row [.int 1,(.int v1)]) (
 cond ((sl a 1).toInt<len v4) (
 cond ((cl v4 (sl a 1).toInt 1).toInt<(cl v5 v1 7).toInt) (
 .row [.int 1,(.int v1)]) (
 cond ((IntKind.wrap .i64 ((cl v5 v1 6).toInt+(cl v5 v1 8).toInt))<0) (
 .row [.int 1,(.int v1)]) (
 cond ((cl v4 (sl a 1).toInt 1).toInt<(IntKind.wrap .i64 ((cl v5 v1 7).toInt+(cl v5 v1 8).toInt))) (
 .row [.int 1,(.int v1)]) (
 EP (.int v0) (.int (IntKind.wrap .i64 (v1+1))) v2 v3 v4 v5)))) (
 .row [])))))))) (
 .row [.int 1,(.int v1)])) (
 .row [])) (
 .row [])) (
 .row [])) (
 .row [.int 1,(.int v1)])) (
 .row [])))) (
 .row []))) (
 .row [])) (
 .row [])) (
 cond ((sl b 0).toInt=1) (
 cond ((sl a 0).toInt=1) (
 .row [.int 1,(.int v1)]) (
 .row [])) (
 .row [])))))) (
 .row []))) (
 .row [.int 1,(.int (-1))]):=by
  subst h0;subst h1;subst h2;exact gw rfl rfl (cL (cL rfl (cL (cQ (cQ (cQ (cL rfl (cQ (cL rfl (cL rfl (cQ (cL (cL (cQ (cg rfl (cQ (cg rfl (cg rfl rfl (cg rfl (cQ (cQ (cQ rfl rfl) rfl) rfl) (cL rfl (cL rfl (cL rfl (cL rfl (cL rfl rfl))))))) rfl) rfl) rfl) rfl) rfl) rfl) rfl))) rfl)) rfl) rfl) (cQ (cQ (cQ (cL rfl (cQ (cL rfl (cL rfl (cQ (cL (cL (cQ (cg rfl (cQ (cg rfl (cg rfl rfl (cg rfl (cQ (cQ (cQ rfl rfl) rfl) rfl) (cL rfl (cL rfl (cL rfl (cL rfl (cL rfl rfl))))))) rfl) rfl) rfl) rfl) rfl) rfl) rfl))) rfl)) rfl) rfl) (cQ (cQ (cQ (cL rfl (cQ (cL rfl (cL rfl (cQ (cL (cL (cL (cL (cL (cg rfl (cg rfl (cQ (cQ (cQ rfl rfl) rfl) rfl) (cL rfl (cL rfl (cL rfl (cL rfl (cL rfl rfl)))))) rfl) rfl) rfl) rfl) rfl) rfl) rfl))) rfl)) rfl) rfl) (cQ (cQ (cQ (cL rfl (cQ (cL rfl (cL rfl (cQ (cL (cL (cL (cL (cg rfl (cg rfl (cQ (cQ (cQ rfl rfl) rfl) rfl) (cL rfl (cL rfl (cL rfl (cL rfl (cL rfl rfl)))))) rfl) rfl) rfl) rfl) rfl) rfl))) rfl)) rfl) rfl) (cQ (cQ rfl rfl) rfl))))) rfl)) rfl)
theorem tn (v0 v1 v2 v3:D):Ej v0 v1 v2 v3 =
  cond ((sl (GY v0) 0).toInt=1) (
 cond ((sl (GY v0) 1).toBool) (
 cond ((sl (au (.int (len v2:Int)) (.int 0) (.int 4) v0 v1 v2 v3) 0).toInt=1) (
 cond ((sl (au (.int (len v2:Int)) (.int 0) (.int 4) v0 v1 v2 v3) 1).toInt<0) (
 cond ((sl (bj (.int (len v1:Int)) (.int 1) (.int 24) v0 v1 v2 v3) 0).toInt=1) (
 cond ((sl (bj (.int (len v1:Int)) (.int 1) (.int 24) v0 v1 v2 v3) 1).toInt<0) (
 cond ((sl (QZ (.int (len v3:Int)) (.int 0) (.int 80) v0 v1 v2 v3) 0).toInt=1) (
 cond ((sl (QZ (.int (len v3:Int)) (.int 0) (.int 80) v0 v1 v2 v3) 1).toInt<0) (
 .row [.int 1,(.int 0),(.int 0)]) (
 .row [.int 1,(sl (QZ (.int (len v3:Int)) (.int 0) (.int 80) v0 v1 v2 v3) 1),(.int 293)])) (
 .row [])) (
 .row [.int 1,(sl (bj (.int (len v1:Int)) (.int 1) (.int 24) v0 v1 v2 v3) 1),(.int 292)])) (
 .row [])) (
 .row [.int 1,(sl (au (.int (len v2:Int)) (.int 0) (.int 4) v0 v1 v2 v3) 1),(.int 291)])) (
 .row [])) (
 .row [.int 1,(.int 0),(.int 290)])) (
 .row []):=gw rfl rfl (cQ (cg rfl (cQ (cL (cQ (cL (cQ rfl rfl) rfl) rfl) rfl) rfl) rfl) rfl)
theorem xR (v0:D) (v1:Bool) (v2:D):Em v0 (.bool v1) v2 =
 V0 v0 (.bool v1) (.int 0) v2:=gw rfl rfl rfl
theorem qb (v0:D) (v1:Bool) (v2:Int) (v3:D):V0 v0 (.bool v1) (.int v2) v3 =
  cond (v2<len v0) (
 cond (v2<0) (
 .row []) (
 cond (D.strEq (cl v0 v2 0) v3) (
 .row [.int 1,(.int v2)]) (
 V0 v0 (.bool v1) (.int (IntKind.wrap .i64 (v2+1))) v3))) (
 .row [.int 1,(.int (-1))]):=gw rfl rfl rfl
theorem uS (v0:D):AO v0 =
  cond (4<(len v0:Int)) (
 .row []) (
 Vy v0 (.int 0) Aw (.bool true)):=gw rfl rfl rfl
theorem gB (v0:D) (v1:Int) (v2:D) (v3:Bool):Vy v0 (.int v1) v2 (.bool v3) =
  cond (v1<len v0) (
 cond (v1<0) (
 .row []) (
 cond (eqC (cl v0 v1 0) 0 0) (
 .row []) (
 cond ((cl v0 v1 1).toInt<1) (
 .row []) (
 cond (1000<(cl v0 v1 1).toInt) (
 .row []) (
 cond ((sl (Em v2 (.bool v3) (cl v0 v1 0)) 0).toInt=1) (
 cond ((sl (Em v2 (.bool v3) (cl v0 v1 0)) 1).toInt<0) (
 cond ((len v2:Int)<1073741824) (
 Vy v0 (.int (IntKind.wrap .i64 (v1+1))) (ad v2 (.row [(cl v0 v1 0),(cl v0 v1 1),(.int 0)])) (.bool false)) (
 .row [])) (
 .row [])) (
 .row [])))))) (
 .row [.int 1,v2,(.bool v3)]):=gw rfl rfl (cL (cL rfl (cg rfl rfl (cL rfl (cL rfl (cQ (cL (cL rfl rfl) rfl) rfl))))) rfl)
theorem Zy (v0:D):BM v0 =
  cond (v0.isNil) (
 .row [.int 1,Aw,(.bool true)]) (
 cond ((len v0:Int)<1048576) (
 .row [.int 1,(ct Aq v0),(.bool false)]) (
 .row [])):=gw rfl rfl (cg rfl rfl (cL rfl rfl))
theorem bf (v0:D):BK v0 =
  cond (v0.isNil) (
 .row [.int 1,Aw,(.bool true)]) (
 cond ((len v0:Int)<1048576) (
 .row [.int 1,(ct Aq v0),(.bool false)]) (
 .row [])):=gw rfl rfl (cg rfl rfl (cL rfl rfl))
theorem Zi (v0:D):BL v0 =
  cond (v0.isNil) (
 .row [.int 1,Aw,(.bool true)]) (
 cond ((len v0:Int)<1048576) (
 .row [.int 1,(ct Aq v0),(.bool false)]) (
 .row [])):=gw rfl rfl (cg rfl rfl (cL rfl rfl))
theorem xA (v0:D) (v1:Bool) (v2:D):EA v0 (.bool v1) v2 =
 Sj Aw (.bool true) v0 (.bool v1) (.int 0) v2:=gw rfl rfl rfl
theorem iq (v0:D) (v1:Bool) (v2:D) (v3:Bool) (v4:Int) (v5:D):Sj v0 (.bool v1) v2 (.bool v3) (.int v4) v5 =
  cond (v4<len v2) (
 cond (v4<0) (
 .row []) (
 cond (D.strEq (cl v2 v4 0) v5) (
 cond ((len v0:Int)<1073741824) (
 Sj (ad v0 (.row [(cl v2 v4 0),(cl v2 v4 1),(cl v2 v4 2)])) (.bool false) v2 (.bool v3) (.int (IntKind.wrap .i64 (v4+1))) v5) (
 .row [])) (
 Sj v0 (.bool v1) v2 (.bool v3) (.int (IntKind.wrap .i64 (v4+1))) v5))) (
 .row [.int 1,v0,(.bool v1)]):=gw rfl rfl (cL (cL rfl (cg rfl (cL rfl rfl) rfl)) rfl)
theorem ib (v0:Int) (v1 v2 v3:D) (v4:Bool) (v5:Int):Pc (.int v0) v1 v2 v3 (.bool v4) (.int v5) =
  cond (v5<0) (
 .row [.int 1,(.int 0),(.int 2)]) (
 cond (v5<256) (
 cond (v2.toBool) (
 .row [.int 1,(.int 0),(.int 9)]) (
 cond ((mIx [.int .i64] v1 (.row [(.int v5)]))<0) (
 .row [.int 1,(.int 0),(.int 9)]) (
 .row [.int 1,(.int (IntKind.wrap .i64 ((cl v1 (mIx [.int .i64] v1 (.row [(.int v5)])) 1).toInt-v0))),(.int 0)]))) (
 .row [.int 1,(.int 0),(.int 2)])):=gw rfl rfl rfl
theorem gQ (v0:Int) (v1 v2 v3:D) (v4:Bool) (v5:Int):IW (.int v0) v1 v2 v3 (.bool v4) (.int v5) =
  cond ((sl (Pc (.int v0) v1 v2 v3 (.bool v4) (.int v5)) 0).toInt=1) (
 cond ((sl (Pc (.int v0) v1 v2 v3 (.bool v4) (.int v5)) 2).toInt=0) (
 cond (v2.toBool) (
 .row [.int 1,(.int 0),v1]) (
 cond ((mIx [.int .i64] v1 (.row [(.int v5)]))<0) (
 .row [.int 1,(.int 0),v1]) (
 .row [.int 1,(.int 0),(Lj v1 (mIx [.int .i64] v1 (.row [(.int v5)])))]))) (
 .row [.int 1,(sl (Pc (.int v0) v1 v2 v3 (.bool v4) (.int v5)) 2),v1])) (
 .row []):=gw rfl rfl (cQ (cQ rfl rfl) rfl)
theorem o0 (v0:Int) (v1 v2 v3:D) (v4:Bool) (v5 v6:Int):La (.int v0) v1 v2 v3 (.bool v4) (.int v5) (.int v6) =
  cond ((len v3:Int)<1073741824) (
 Lc (.int (IntKind.wrap .i64 ((len (ad v3 (.row [(.int v5),(.int v6)])):Int)-1))) (.int v0) v2 (ad v3 (.row [(.int v5),(.int v6)])) (.bool false) v1) (
 .row []):=gw rfl rfl (cL rfl rfl)
theorem im (v0 v1:Int) (v2 v3:D) (v4:Bool) (v5:D):Lc (.int v0) (.int v1) v2 v3 (.bool v4) v5 =
  cond (0<v0) (
 cond ((ari .quo .i64 (IntKind.wrap .i64 (v0-1)) 2)<0) (
 .row []) (
 cond ((ari .quo .i64 (IntKind.wrap .i64 (v0-1)) 2)<(len v3:Int)) (
 cond (v0<len v3) (
 cond ((cl v3 (ari .quo .i64 (IntKind.wrap .i64 (v0-1)) 2) 0).toInt<(cl v3 v0 0).toInt) (
 cond ((cl v3 (ari .quo .i64 (IntKind.wrap .i64 (v0-1)) 2) 1).toInt<(cl v3 v0 1).toInt) (
 .row [.int 1,v3,(.bool v4)]) (
 cond ((cl v3 v0 1).toInt<(cl v3 (ari .quo .i64 (IntKind.wrap .i64 (v0-1)) 2) 1).toInt) (
 .row [.int 1,v3,(.bool v4)]) (
 .row [.int 1,v3,(.bool v4)]))) (
 cond ((cl v3 v0 0).toInt<(cl v3 (ari .quo .i64 (IntKind.wrap .i64 (v0-1)) 2) 0).toInt) (
 cond ((cl v3 (ari .quo .i64 (IntKind.wrap .i64 (v0-1)) 2) 1).toInt<(cl v3 v0 1).toInt) (
 Lc (.int (ari .quo .i64 (IntKind.wrap .i64 (v0-1)) 2)) (.int v1) v2 (upd (upd (upd (upd v3 (ari .quo .i64 (IntKind.wrap .i64 (v0-1)) 2) 0 (cl v3 v0 0)) (ari .quo .i64 (IntKind.wrap .i64 (v0-1)) 2) 1 (cl v3 v0 1)) v0 0 (cl v3 (ari .quo .i64 (IntKind.wrap .i64 (v0-1)) 2) 0)) v0 1 (cl v3 (ari .quo .i64 (IntKind.wrap .i64 (v0-1)) 2) 1)) (.bool v4) v5) (
 cond ((cl v3 v0 1).toInt<(cl v3 (ari .quo .i64 (IntKind.wrap .i64 (v0-1)) 2) 1).toInt) (
 Lc (.int (ari .quo .i64 (IntKind.wrap .i64 (v0-1)) 2)) (.int v1) v2 (upd (upd (upd (upd v3 (ari .quo .i64 (IntKind.wrap .i64 (v0-1)) 2) 0 (cl v3 v0 0)) (ari .quo .i64 (IntKind.wrap .i64 (v0-1)) 2) 1 (cl v3 v0 1)) v0 0 (cl v3 (ari .quo .i64 (IntKind.wrap .i64 (v0-1)) 2) 0)) v0 1 (cl v3 (ari .quo .i64 (IntKind.wrap .i64 (v0-1)) 2) 1)) (.bool v4) v5) (
 Lc (.int (ari .quo .i64 (IntKind.wrap .i64 (v0-1)) 2)) (.int v1) v2 (upd (upd (upd (upd v3 (ari .quo .i64 (IntKind.wrap .i64 (v0-1)) 2) 0 (cl v3 v0 0)) (ari .quo .i64 (IntKind.wrap .i64 (v0-1)) 2) 1 (cl v3 v0 1)) v0 0 (cl v3 (ari .quo .i64 (IntKind.wrap .i64 (v0-1)) 2) 0)) v0 1 (cl v3 (ari .quo .i64 (IntKind.wrap .i64 (v0-1)) 2) 1)) (.bool v4) v5))) (
 cond ((cl v3 (ari .quo .i64 (IntKind.wrap .i64 (v0-1)) 2) 1).toInt<(cl v3 v0 1).toInt) (
 .row [.int 1,v3,(.bool v4)]) (
 cond ((cl v3 v0 1).toInt<(cl v3 (ari .quo .i64 (IntKind.wrap .i64 (v0-1)) 2) 1).toInt) (
 Lc (.int (ari .quo .i64 (IntKind.wrap .i64 (v0-1)) 2)) (.int v1) v2 (upd (upd (upd (upd v3 (ari .quo .i64 (IntKind.wrap .i64 (v0-1)) 2) 0 (cl v3 v0 0)) (ari .quo .i64 (IntKind.wrap .i64 (v0-1)) 2) 1 (cl v3 v0 1)) v0 0 (cl v3 (ari .quo .i64 (IntKind.wrap .i64 (v0-1)) 2) 0)) v0 1 (cl v3 (ari .quo .i64 (IntKind.wrap .i64 (v0-1)) 2) 1)) (.bool v4) v5) (
 .row [.int 1,v3,(.bool v4)]))))) (
 .row [])) (
 .row []))) (
 .row [.int 1,v3,(.bool v4)]):=gw rfl rfl rfl
theorem wZ (v0:Int) (v1 v2 v3:D) (v4:Bool) (v5 v6:Int) {a b c:D} (h0:La (.int v0) (upd v1 (mIx [.int .i64] v1 (.row [(.int v5)])) 1 (.int (IntKind.wrap .i64 (v0+v6)))) v2 v3 (.bool v4) (.int (IntKind.wrap .i64 (v0+v6))) (.int v5)=a) (h1:La (.int v0) (ad Aq (.row [(.int v5),(.int (IntKind.wrap .i64 (v0+v6)))])) (.bool false) v3 (.bool v4) (.int (IntKind.wrap .i64 (v0+v6))) (.int v5)=b) (h2:La (.int v0) (ad v1 (.row [(.int v5),(.int (IntKind.wrap .i64 (v0+v6)))])) v2 v3 (.bool v4) (.int (IntKind.wrap .i64 (v0+v6))) (.int v5)=c):MY (.int v0) v1 v2 v3 (.bool v4) (.int v5) (.int v6) =
  cond (v5<0) (
 .row [.int 1,(.int 2),v2,v3,(.bool v4),v1]) (
 cond (v5<256) (
 cond (v6<0) (
 .row [.int 1,(.int 3),v2,v3,(.bool v4),v1]) (
 cond ((IntKind.wrap .i64 (1099511627776-v0))<v6) (
 .row [.int 1,(.int 3),v2,v3,(.bool v4),v1]) (
 cond (v2.toBool) (
 cond ((sl b 0).toInt=1) (
 .row [.int 1,(.int 0),(.bool false),(sl b 1),(sl b 2),(ad Aq (.row [(.int v5),(.int (IntKind.wrap .i64 (v0+v6)))]))]) (
 .row [])) (
 cond ((mIx [.int .i64] v1 (.row [(.int v5)]))<0) (
 cond ((sl c 0).toInt=1) (
 .row [.int 1,(.int 0),v2,(sl c 1),(sl c 2),(ad v1 (.row [(.int v5),(.int (IntKind.wrap .i64 (v0+v6)))]))]) (
 .row [])) (
 cond ((sl a 0).toInt=1) (
 .row [.int 1,(.int 0),v2,(sl a 1),(sl a 2),(upd v1 (mIx [.int .i64] v1 (.row [(.int v5)])) 1 (.int (IntKind.wrap .i64 (v0+v6))))]) (
 .row [])))))) (
 .row [.int 1,(.int 2),v2,v3,(.bool v4),v1])):=by
  subst h0;subst h1;subst h2;exact gw rfl rfl (cL rfl (cL (cL rfl (cL rfl (cg rfl (cQ rfl rfl) (cL (cQ rfl rfl) (cQ rfl rfl))))) rfl))
theorem gU (v0:D) (v1:Bool) (v2 v3:D) (v4:Bool) (v5:D) (v6:Bool) (v7:D) (v8:Bool) (v9:D) (aB:Bool) (aA aC:Int) (aG aD aH:D) (aM aN:Bool) (aO:D) (aT:Bool) (aK:D):GQ v0 (.bool v1) v2 v3 (.bool v4) v5 (.bool v6) v7 (.bool v8) v9 (.bool aB) (.int aA) (.int aC) aG aD aH (.bool aM) (.bool aN) aO (.bool aT) aK =
  cond ((sl (EA v3 (.bool v4) aK) 0).toInt=1) (
 cond (0<(len (sl (EA v3 (.bool v4) aK) 1):Int)) (
 cond ((sl (IW (.int aC) aG aD aH (.bool aM) (.int 0)) 0).toInt=1) (
 cond (0<(cl (sl (EA v3 (.bool v4) aK) 1) 0 2).toInt) (
 cond ((sl (MY (.int aC) (sl (IW (.int aC) aG aD aH (.bool aM) (.int 0)) 2) aD aH (.bool aM) (.int 0) (cl (sl (EA v3 (.bool v4) aK) 1) 0 2)) 0).toInt=1) (
 .row [.int 1,(cl (sl (EA v3 (.bool v4) aK) 1) 0 0),(cl (sl (EA v3 (.bool v4) aK) 1) 0 1),(cl (sl (EA v3 (.bool v4) aK) 1) 0 2),(sl (MY (.int aC) (sl (IW (.int aC) aG aD aH (.bool aM) (.int 0)) 2) aD aH (.bool aM) (.int 0) (cl (sl (EA v3 (.bool v4) aK) 1) 0 2)) 2),(sl (MY (.int aC) (sl (IW (.int aC) aG aD aH (.bool aM) (.int 0)) 2) aD aH (.bool aM) (.int 0) (cl (sl (EA v3 (.bool v4) aK) 1) 0 2)) 3),(sl (MY (.int aC) (sl (IW (.int aC) aG aD aH (.bool aM) (.int 0)) 2) aD aH (.bool aM) (.int 0) (cl (sl (EA v3 (.bool v4) aK) 1) 0 2)) 4),(sl (MY (.int aC) (sl (IW (.int aC) aG aD aH (.bool aM) (.int 0)) 2) aD aH (.bool aM) (.int 0) (cl (sl (EA v3 (.bool v4) aK) 1) 0 2)) 5)]) (
 .row [])) (
 .row [.int 1,(cl (sl (EA v3 (.bool v4) aK) 1) 0 0),(cl (sl (EA v3 (.bool v4) aK) 1) 0 1),(cl (sl (EA v3 (.bool v4) aK) 1) 0 2),aD,aH,(.bool aM),(sl (IW (.int aC) aG aD aH (.bool aM) (.int 0)) 2)])) (
 .row [])) (
 .row [])) (
 .row []):=gw rfl rfl (cQ (cL (cQ (cL (cQ rfl rfl) rfl) rfl) rfl) rfl)
theorem YU (v0 v1 v2 v3:D):Ci v0 v1 v2 v3 =
  cond ((sl (Ej v0 v1 v2 v3) 0).toInt=1) (
 cond ((sl (Ej v0 v1 v2 v3) 2).toInt=0) (
 cond ((sl (AO v2) 0).toInt=1) (
 cond ((sl (BM v1) 0).toInt=1) (
 cond ((sl (BK v2) 0).toInt=1) (
 cond ((sl (BL v3) 0).toInt=1) (
 cond (0<(len v1:Int)) (
 cond ((sl (GQ (sl (AO v2) 1) (sl (AO v2) 2) v0 (sl (BM v1) 1) (sl (BM v1) 2) (sl (BK v2) 1) (sl (BK v2) 2) (sl (BL v3) 1) (sl (BL v3) 2) (CX 0 0) (.bool false) (.int 0) (.int 0) Aq (.bool true) Aw (.bool true) (.bool false) Aw (.bool true) (cl v1 0 0)) 0).toInt=1) (
 .row [.int 1,v0,(sl (BM v1) 1),(sl (BM v1) 2),(sl (BK v2) 1),(sl (BK v2) 2),(sl (BL v3) 1),(sl (BL v3) 2),(sl (GQ (sl (AO v2) 1) (sl (AO v2) 2) v0 (sl (BM v1) 1) (sl (BM v1) 2) (sl (BK v2) 1) (sl (BK v2) 2) (sl (BL v3) 1) (sl (BL v3) 2) (CX 0 0) (.bool false) (.int 0) (.int 0) Aq (.bool true) Aw (.bool true) (.bool false) Aw (.bool true) (cl v1 0 0)) 1),(sl (GQ (sl (AO v2) 1) (sl (AO v2) 2) v0 (sl (BM v1) 1) (sl (BM v1) 2) (sl (BK v2) 1) (sl (BK v2) 2) (sl (BL v3) 1) (sl (BL v3) 2) (CX 0 0) (.bool false) (.int 0) (.int 0) Aq (.bool true) Aw (.bool true) (.bool false) Aw (.bool true) (cl v1 0 0)) 2),(sl (GQ (sl (AO v2) 1) (sl (AO v2) 2) v0 (sl (BM v1) 1) (sl (BM v1) 2) (sl (BK v2) 1) (sl (BK v2) 2) (sl (BL v3) 1) (sl (BL v3) 2) (CX 0 0) (.bool false) (.int 0) (.int 0) Aq (.bool true) Aw (.bool true) (.bool false) Aw (.bool true) (cl v1 0 0)) 3),Aw,(sl (AO v2) 1),(sl (AO v2) 2),(sl (GQ (sl (AO v2) 1) (sl (AO v2) 2) v0 (sl (BM v1) 1) (sl (BM v1) 2) (sl (BK v2) 1) (sl (BK v2) 2) (sl (BL v3) 1) (sl (BL v3) 2) (CX 0 0) (.bool false) (.int 0) (.int 0) Aq (.bool true) Aw (.bool true) (.bool false) Aw (.bool true) (cl v1 0 0)) 4),(sl (GQ (sl (AO v2) 1) (sl (AO v2) 2) v0 (sl (BM v1) 1) (sl (BM v1) 2) (sl (BK v2) 1) (sl (BK v2) 2) (sl (BL v3) 1) (sl (BL v3) 2) (CX 0 0) (.bool false) (.int 0) (.int 0) Aq (.bool true) Aw (.bool true) (.bool false) Aw (.bool true) (cl v1 0 0)) 5),(sl (GQ (sl (AO v2) 1) (sl (AO v2) 2) v0 (sl (BM v1) 1) (sl (BM v1) 2) (sl (BK v2) 1) (sl (BK v2) 2) (sl (BL v3) 1) (sl (BL v3) 2) (CX 0 0) (.bool false) (.int 0) (.int 0) Aq (.bool true) Aw (.bool true) (.bool false) Aw (.bool true) (cl v1 0 0)) 6),(sl (GQ (sl (AO v2) 1) (sl (AO v2) 2) v0 (sl (BM v1) 1) (sl (BM v1) 2) (sl (BK v2) 1) (sl (BK v2) 2) (sl (BL v3) 1) (sl (BL v3) 2) (CX 0 0) (.bool false) (.int 0) (.int 0) Aq (.bool true) Aw (.bool true) (.bool false) Aw (.bool true) (cl v1 0 0)) 7)]) (
 .row [])) (
 .row [])) (
 .row [])) (
 .row [])) (
 .row [])) (
 .row [])) (
 .row [.int 2,(sl (Ej v0 v1 v2 v3) 2)])) (
 .row []):=gw rfl rfl (cQ (cQ (cQ (cQ (cQ (cQ (cL (cQ rfl rfl) rfl) rfl) rfl) rfl) rfl) rfl) rfl)
theorem gO (v0 v1 v2 v3:D):C9 v0 v1 v2 v3 =
  cond ((sl (Ci v0 v1 v2 v3) 0).toInt=1) (
 .row [.int 1,(sl (Ci v0 v1 v2 v3) 1),(sl (Ci v0 v1 v2 v3) 2),(sl (Ci v0 v1 v2 v3) 3),(sl (Ci v0 v1 v2 v3) 4),(sl (Ci v0 v1 v2 v3) 5),(sl (Ci v0 v1 v2 v3) 6),(sl (Ci v0 v1 v2 v3) 7),(sl (Ci v0 v1 v2 v3) 8),(sl (Ci v0 v1 v2 v3) 9),(sl (Ci v0 v1 v2 v3) 10),(sl (Ci v0 v1 v2 v3) 11),(sl (Ci v0 v1 v2 v3) 12),(sl (Ci v0 v1 v2 v3) 13),(sl (Ci v0 v1 v2 v3) 14),(sl (Ci v0 v1 v2 v3) 15),(sl (Ci v0 v1 v2 v3) 16),(sl (Ci v0 v1 v2 v3) 17)]) (
 cond ((sl (Ci v0 v1 v2 v3) 0).toInt=2) (
 cond ((sl (Ci v0 v1 v2 v3) 1).toInt=0) (
 .row []) (
 .row [.int 2,(sl (Ci v0 v1 v2 v3) 1)])) (
 .row [])):=gw rfl rfl (cQ rfl (cQ (cQ rfl rfl) rfl))
theorem gA (v0:D) (v1:Bool):KS v0 (.bool v1) =
  cond (v1) (
 .row [.int 1,Aw,(.bool true)]) (
 cond ((len v0:Int)<1048576) (
 .row [.int 1,(ct Aq v0),(.bool false)]) (
 .row [])):=gw rfl rfl (cg rfl rfl (cL rfl rfl))
theorem io (v0:Int) (v1 v2 v3:D) (v4:Bool):F9 (.int v0) v1 v2 v3 (.bool v4) =
  cond (v2.toBool) (
 cond ((sl (KS v3 (.bool v4)) 0).toInt=1) (
 .row [.int 1,(.int v0),(.bool true),(sl (KS v3 (.bool v4)) 1),(sl (KS v3 (.bool v4)) 2),Aq]) (
 .row [])) (
 cond ((sl (KS v3 (.bool v4)) 0).toInt=1) (
 .row [.int 1,(.int v0),(.bool false),(sl (KS v3 (.bool v4)) 1),(sl (KS v3 (.bool v4)) 2),v1]) (
 .row [])):=gw rfl rfl (cg rfl (cQ rfl rfl) (cQ rfl rfl))
theorem qL (v0:Int) (v1 v2 v3:D) (v4:Bool):HE (.int v0) v1 v2 v3 (.bool v4) =
  cond ((IntKind.wrap .i64 ((len v3:Int)-1))<0) (
 .row []) (
 cond ((IntKind.wrap .i64 ((len v3:Int)-1))<(len v3:Int)) (
 cond (0<(len v3:Int)) (
 cond ((len (upd (upd v3 0 0 (cl v3 (IntKind.wrap .i64 ((len v3:Int)-1)) 0)) 0 1 (cl v3 (IntKind.wrap .i64 ((len v3:Int)-1)) 1)):Int)<(IntKind.wrap .i64 ((len v3:Int)-1))) (
 .row []) (
 V7 (.int (IntKind.wrap .i64 ((len v3:Int)-1))) (.int 0) (.int v0) v2 (sb (upd (upd v3 0 0 (cl v3 (IntKind.wrap .i64 ((len v3:Int)-1)) 0)) 0 1 (cl v3 (IntKind.wrap .i64 ((len v3:Int)-1)) 1)) 0 (IntKind.wrap .i64 ((len v3:Int)-1))) (.bool v4) v1)) (
 .row [])) (
 .row [])):=gw rfl rfl rfl
theorem gr (v0 v1 v2:Int) (v3 v4:D) (v5:Bool) (v6:D):V7 (.int v0) (.int v1) (.int v2) v3 v4 (.bool v5) v6 =
 BQ (.int v0) (.int v1) (.int v1) (.int 0) (.int v2) v3 v4 (.bool v5) v6 (.int (IntKind.wrap .i64 ((IntKind.wrap .i64 (2*v1))+1))) (.int (IntKind.wrap .i64 ((IntKind.wrap .i64 (2*v1))+2))):=gw rfl rfl rfl
theorem WB (v0 v1 v2 v3 v4:Int) (v5 v6:D) (v7:Bool) (v8:D) (v9 aB:Int):BQ (.int v0) (.int v1) (.int v2) (.int v3) (.int v4) v5 v6 (.bool v7) v8 (.int v9) (.int aB) =
  cond (v3<2) (
 cond (v3=0) (
 cond (v9<v0) (
 cond (v9<0) (
 .row []) (
 cond (v9<len v6) (
 cond (v2<0) (
 .row []) (
 cond (v2<len v6) (
 cond ((cl v6 v9 0).toInt<(cl v6 v2 0).toInt) (
 cond ((cl v6 v9 1).toInt<(cl v6 v2 1).toInt) (
 BQ (.int v0) (.int v1) (.int v9) (.int (IntKind.wrap .i64 (v3+1))) (.int v4) v5 v6 (.bool v7) v8 (.int v9) (.int aB)) (
 cond ((cl v6 v2 1).toInt<(cl v6 v9 1).toInt) (
 BQ (.int v0) (.int v1) (.int v9) (.int (IntKind.wrap .i64 (v3+1))) (.int v4) v5 v6 (.bool v7) v8 (.int v9) (.int aB)) (
 BQ (.int v0) (.int v1) (.int v9) (.int (IntKind.wrap .i64 (v3+1))) (.int v4) v5 v6 (.bool v7) v8 (.int v9) (.int aB)))) (
 cond ((cl v6 v2 0).toInt<(cl v6 v9 0).toInt) (
 cond ((cl v6 v9 1).toInt<(cl v6 v2 1).toInt) (
 BQ (.int v0) (.int v1) (.int v2) (.int (IntKind.wrap .i64 (v3+1))) (.int v4) v5 v6 (.bool v7) v8 (.int v9) (.int aB)) (
 cond ((cl v6 v2 1).toInt<(cl v6 v9 1).toInt) (
 BQ (.int v0) (.int v1) (.int v2) (.int (IntKind.wrap .i64 (v3+1))) (.int v4) v5 v6 (.bool v7) v8 (.int v9) (.int aB)) (
 BQ (.int v0) (.int v1) (.int v2) (.int (IntKind.wrap .i64 (v3+1))) (.int v4) v5 v6 (.bool v7) v8 (.int v9) (.int aB)))) (
 cond ((cl v6 v9 1).toInt<(cl v6 v2 1).toInt) (
 BQ (.int v0) (.int v1) (.int v9) (.int (IntKind.wrap .i64 (v3+1))) (.int v4) v5 v6 (.bool v7) v8 (.int v9) (.int aB)) (
 cond ((cl v6 v2 1).toInt<(cl v6 v9 1).toInt) (
 BQ (.int v0) (.int v1) (.int v2) (.int (IntKind.wrap .i64 (v3+1))) (.int v4) v5 v6 (.bool v7) v8 (.int v9) (.int aB)) (
 BQ (.int v0) (.int v1) (.int v2) (.int (IntKind.wrap .i64 (v3+1))) (.int v4) v5 v6 (.bool v7) v8 (.int v9) (.int aB)))))) (
 .row []))) (
 .row []))) (
 BQ (.int v0) (.int v1) (.int v2) (.int (IntKind.wrap .i64 (v3+1))) (.int v4) v5 v6 (.bool v7) v8 (.int v9) (.int aB))) (
 cond (v3=1) (
 cond (aB<v0) (
 cond (aB<0) (
 .row []) (
 cond (aB<len v6) (
 cond (v2<0) (
 .row []) (
 cond (v2<len v6) (
 cond ((cl v6 aB 0).toInt<(cl v6 v2 0).toInt) (
 cond ((cl v6 aB 1).toInt<(cl v6 v2 1).toInt) (
 BQ (.int v0) (.int v1) (.int aB) (.int (IntKind.wrap .i64 (v3+1))) (.int v4) v5 v6 (.bool v7) v8 (.int v9) (.int aB)) (
 cond ((cl v6 v2 1).toInt<(cl v6 aB 1).toInt) (
 BQ (.int v0) (.int v1) (.int aB) (.int (IntKind.wrap .i64 (v3+1))) (.int v4) v5 v6 (.bool v7) v8 (.int v9) (.int aB)) (
 BQ (.int v0) (.int v1) (.int aB) (.int (IntKind.wrap .i64 (v3+1))) (.int v4) v5 v6 (.bool v7) v8 (.int v9) (.int aB)))) (
 cond ((cl v6 v2 0).toInt<(cl v6 aB 0).toInt) (
 cond ((cl v6 aB 1).toInt<(cl v6 v2 1).toInt) (
 BQ (.int v0) (.int v1) (.int v2) (.int (IntKind.wrap .i64 (v3+1))) (.int v4) v5 v6 (.bool v7) v8 (.int v9) (.int aB)) (
 cond ((cl v6 v2 1).toInt<(cl v6 aB 1).toInt) (
 BQ (.int v0) (.int v1) (.int v2) (.int (IntKind.wrap .i64 (v3+1))) (.int v4) v5 v6 (.bool v7) v8 (.int v9) (.int aB)) (
 BQ (.int v0) (.int v1) (.int v2) (.int (IntKind.wrap .i64 (v3+1))) (.int v4) v5 v6 (.bool v7) v8 (.int v9) (.int aB)))) (
 cond ((cl v6 aB 1).toInt<(cl v6 v2 1).toInt) (
 BQ (.int v0) (.int v1) (.int aB) (.int (IntKind.wrap .i64 (v3+1))) (.int v4) v5 v6 (.bool v7) v8 (.int v9) (.int aB)) (
 cond ((cl v6 v2 1).toInt<(cl v6 aB 1).toInt) (
 BQ (.int v0) (.int v1) (.int v2) (.int (IntKind.wrap .i64 (v3+1))) (.int v4) v5 v6 (.bool v7) v8 (.int v9) (.int aB)) (
 BQ (.int v0) (.int v1) (.int v2) (.int (IntKind.wrap .i64 (v3+1))) (.int v4) v5 v6 (.bool v7) v8 (.int v9) (.int aB)))))) (
 .row []))) (
 .row []))) (
 BQ (.int v0) (.int v1) (.int v2) (.int (IntKind.wrap .i64 (v3+1))) (.int v4) v5 v6 (.bool v7) v8 (.int v9) (.int aB))) (
 .row []))) (
 cond (v2=v1) (
 .row [.int 1,v6,(.bool v7)]) (
 cond (v2<0) (
 .row []) (
 cond (v2<len v6) (
 cond (v1<0) (
 .row []) (
 cond (v1<len v6) (
 V7 (.int v0) (.int v2) (.int v4) v5 (upd (upd (upd (upd v6 v1 0 (cl v6 v2 0)) v1 1 (cl v6 v2 1)) v2 0 (cl v6 v1 0)) v2 1 (cl v6 v1 1)) (.bool v7) v8) (
 .row []))) (
 .row [])))):=gw rfl rfl (cL (cQ rfl (cQ rfl rfl)) (cQ rfl rfl))
theorem VT (v0:Int) (v1 v2 v3:D) (v4:Bool):BB (.int v0) v1 v2 v3 (.bool v4) =
 K7 (.int v0) v2 v3 (.bool v4) v1:=gw rfl rfl rfl
theorem Zz (v0:Int) (v1 v2:D) (v3:Bool) (v4:D):K7 (.int v0) v1 v2 (.bool v3) v4 =
  cond (0<(len v2:Int)) (
 cond (v1.toBool) (
 cond ((sl (HE (.int v0) v4 v1 v2 (.bool v3)) 0).toInt=1) (
 K7 (.int v0) v1 (sl (HE (.int v0) v4 v1 v2 (.bool v3)) 1) (sl (HE (.int v0) v4 v1 v2 (.bool v3)) 2) v4) (
 .row [])) (
 cond ((mIx [.int .i64] v4 (.row [(cl v2 0 1)]))<0) (
 cond ((sl (HE (.int v0) v4 v1 v2 (.bool v3)) 0).toInt=1) (
 K7 (.int v0) v1 (sl (HE (.int v0) v4 v1 v2 (.bool v3)) 1) (sl (HE (.int v0) v4 v1 v2 (.bool v3)) 2) v4) (
 .row [])) (
 cond ((cl v4 (mIx [.int .i64] v4 (.row [(cl v2 0 1)])) 1).toInt=(cl v2 0 0).toInt) (
 .row [.int 1,(cl v2 0 0),(cl v2 0 1),(.bool true),v2,(.bool v3)]) (
 cond ((sl (HE (.int v0) v4 v1 v2 (.bool v3)) 0).toInt=1) (
 K7 (.int v0) v1 (sl (HE (.int v0) v4 v1 v2 (.bool v3)) 1) (sl (HE (.int v0) v4 v1 v2 (.bool v3)) 2) v4) (
 .row []))))) (
 .row [.int 1,(.int 0),(.int 0),(.bool false),v2,(.bool v3)]):=gw rfl rfl (cL (cg rfl (cQ rfl rfl) (cL (cQ rfl rfl) (cQ rfl (cQ rfl rfl)))) rfl)
theorem qm (v0:Int) (v1 v2 v3:D) (v4:Bool) (v5:Int):KH (.int v0) v1 v2 v3 (.bool v4) (.int v5) =
  cond (1099511627776<v5) (
 .row [.int 1,Aw,(.bool true),(.int 3),(.int v0),v3,(.bool v4),v1]) (
 cond (v0<v5) (
 cond ((sl (BB (.int v5) v1 v2 v3 (.bool v4)) 0).toInt=1) (
 MJ Aw (.bool true) (sl (BB (.int v5) v1 v2 v3 (.bool v4)) 3) (.int v5) v2 (sl (BB (.int v5) v1 v2 v3 (.bool v4)) 4) (sl (BB (.int v5) v1 v2 v3 (.bool v4)) 5) v1 (sl (BB (.int v5) v1 v2 v3 (.bool v4)) 1) (sl (BB (.int v5) v1 v2 v3 (.bool v4)) 2)) (
 .row [])) (
 cond ((sl (BB (.int v0) v1 v2 v3 (.bool v4)) 0).toInt=1) (
 MJ Aw (.bool true) (sl (BB (.int v0) v1 v2 v3 (.bool v4)) 3) (.int v0) v2 (sl (BB (.int v0) v1 v2 v3 (.bool v4)) 4) (sl (BB (.int v0) v1 v2 v3 (.bool v4)) 5) v1 (sl (BB (.int v0) v1 v2 v3 (.bool v4)) 1) (sl (BB (.int v0) v1 v2 v3 (.bool v4)) 2)) (
 .row []))):=gw rfl rfl (cL rfl (cL (cQ rfl rfl) (cQ rfl rfl)))
theorem Ww (v0:D) (v1 v2:Bool) (v3:Int) (v4 v5:D) (v6:Bool) (v7:D) (v8 v9:Int):MJ v0 (.bool v1) (.bool v2) (.int v3) v4 v5 (.bool v6) v7 (.int v8) (.int v9) =
  cond (v2) (
 cond (v3<v8) (
 .row [.int 1,v0,(.bool v1),(.int 0),(.int v3),v5,(.bool v6),v7]) (
 cond ((len v0:Int)<1073741824) (
 cond (v4.toBool) (
 cond ((sl (BB (.int v3) v7 v4 v5 (.bool v6)) 0).toInt=1) (
 MJ (ad v0 (.row [(.int v9)])) (.bool false) (sl (BB (.int v3) v7 v4 v5 (.bool v6)) 3) (.int v3) v4 (sl (BB (.int v3) v7 v4 v5 (.bool v6)) 4) (sl (BB (.int v3) v7 v4 v5 (.bool v6)) 5) v7 (sl (BB (.int v3) v7 v4 v5 (.bool v6)) 1) (sl (BB (.int v3) v7 v4 v5 (.bool v6)) 2)) (
 .row [])) (
 cond ((mIx [.int .i64] v7 (.row [(.int v9)]))<0) (
 cond ((sl (BB (.int v3) v7 v4 v5 (.bool v6)) 0).toInt=1) (
 MJ (ad v0 (.row [(.int v9)])) (.bool false) (sl (BB (.int v3) v7 v4 v5 (.bool v6)) 3) (.int v3) v4 (sl (BB (.int v3) v7 v4 v5 (.bool v6)) 4) (sl (BB (.int v3) v7 v4 v5 (.bool v6)) 5) v7 (sl (BB (.int v3) v7 v4 v5 (.bool v6)) 1) (sl (BB (.int v3) v7 v4 v5 (.bool v6)) 2)) (
 .row [])) (
 cond ((sl (BB (.int v3) (Lj v7 (mIx [.int .i64] v7 (.row [(.int v9)]))) v4 v5 (.bool v6)) 0).toInt=1) (
 MJ (ad v0 (.row [(.int v9)])) (.bool false) (sl (BB (.int v3) (Lj v7 (mIx [.int .i64] v7 (.row [(.int v9)]))) v4 v5 (.bool v6)) 3) (.int v3) v4 (sl (BB (.int v3) (Lj v7 (mIx [.int .i64] v7 (.row [(.int v9)]))) v4 v5 (.bool v6)) 4) (sl (BB (.int v3) (Lj v7 (mIx [.int .i64] v7 (.row [(.int v9)]))) v4 v5 (.bool v6)) 5) (Lj v7 (mIx [.int .i64] v7 (.row [(.int v9)]))) (sl (BB (.int v3) (Lj v7 (mIx [.int .i64] v7 (.row [(.int v9)]))) v4 v5 (.bool v6)) 1) (sl (BB (.int v3) (Lj v7 (mIx [.int .i64] v7 (.row [(.int v9)]))) v4 v5 (.bool v6)) 2)) (
 .row [])))) (
 .row []))) (
 .row [.int 1,v0,(.bool v1),(.int 0),(.int v3),v5,(.bool v6),v7]):=gw rfl rfl (cg rfl (cL rfl (cL (cg rfl (cQ rfl rfl) (cL (cQ rfl rfl) (cQ rfl rfl))) rfl)) rfl)
theorem pE (v0:D) (v1:Bool) (v2:D):Jj v0 (.bool v1) v2 =
  cond ((sl (Em v0 (.bool v1) v2) 0).toInt=1) (
 cond ((sl (Em v0 (.bool v1) v2) 1).toInt<0) (
 .row [.int 1,(.int 0),(.int 9)]) (
 cond ((sl (Em v0 (.bool v1) v2) 1).toInt<len v0) (
 .row [.int 1,(cl v0 (sl (Em v0 (.bool v1) v2) 1).toInt 2),(.int 0)]) (
 .row []))) (
 .row []):=gw rfl rfl (cQ rfl rfl)
theorem s9 (v0:D) (v1:Bool) (v2 v3:D) (v4:Int) (v5 v6 v7:D) (v8 v9 aB:Int):GR v0 (.bool v1) v2 v3 (.int v4) v5 v6 v7 (.int v8) (.int v9) (.int aB) =
  cond (eqC v7 0 0) (
 .row [.int 1,(.bool true),(.int 0)]) (
 cond ((sl (Jj v0 (.bool v1) v7) 0).toInt=1) (
 cond ((sl (Jj v0 (.bool v1) v7) 2).toInt=0) (
 cond ((sl (Em v0 (.bool v1) v7) 0).toInt=1) (
 cond ((sl (Em v0 (.bool v1) v7) 1).toInt<0) (
 .row []) (
 cond ((sl (Em v0 (.bool v1) v7) 1).toInt<len v0) (
 cond ((sl (Jj v0 (.bool v1) v7) 1).toInt<v8) (
 .row [.int 1,(.bool false),(.int 0)]) (
 cond (v9<(sl (Jj v0 (.bool v1) v7) 1).toInt) (
 .row [.int 1,(.bool false),(.int 0)]) (
 cond (aB<(IntKind.wrap .i64 (0-(sl (Jj v0 (.bool v1) v7) 1).toInt))) (
 .row [.int 1,(.bool false),(.int 0)]) (
 .row [.int 1,(.bool (!decide ((IntKind.wrap .i64 ((cl v0 (sl (Em v0 (.bool v1) v7) 1).toInt 1).toInt-(sl (Jj v0 (.bool v1) v7) 1).toInt))<aB))),(.int 0)])))) (
 .row []))) (
 .row [])) (
 .row [.int 1,(.bool false),(sl (Jj v0 (.bool v1) v7) 2)])) (
 .row [])):=gw rfl rfl (cg rfl rfl (cQ (cQ (cQ rfl rfl) rfl) rfl))
theorem uI (v0:D) (v1:Bool) (v2 v3:D) (v4:Bool) (v5:D) (v6:Bool) (v7:D) (v8:Bool) (v9:D) (aB:Bool) (aA aC:Int) (aG aD aH:D) (aM aN:Bool) (aO:D) (aT:Bool) (aK:Int) (aU aV aW:D) (aY aZ:Bool) (a_ bb:D) (be:Int) (bd bg bh:D) (bm bo bp:Int):Oe v0 (.bool v1) v2 v3 (.bool v4) v5 (.bool v6) v7 (.bool v8) v9 (.bool aB) (.int aA) (.int aC) aG aD aH (.bool aM) (.bool aN) aO (.bool aT) (.int aK) aU aV aW (.bool aY) (.bool aZ) a_ bb (.int be) bd bg bh (.int bm) (.int bo) (.int bp) =
 Ml (.int 0) v2 v3 (.bool v4) v5 (.bool v6) v7 (.bool v8) v9 (.bool aB) (.int aA) (.bool aN) aO (.bool aT) v0 (.bool v1) (.int aC) aD aH (.bool aM) aG (.int aK) aV aW (.bool aY) aU a_ bb (.int be) bd bg bh (.int bm) (.int bo) (.int bp) (.bool aZ):=gw rfl rfl rfl
theorem VP (v0:Int) (v1 v2:D) (v3:Bool) (v4:D) (v5:Bool) (v6:D) (v7:Bool) (v8:D) (v9:Bool) (aB:Int) (aA:Bool) (aC:D) (aG:Bool) (aD:D) (aH:Bool) (aM:Int) (aN aO:D) (aT:Bool) (aK:D) (aU:Int) (aV aW:D) (aY:Bool) (aZ a_ bb:D) (be:Int) (bd bg bh:D) (bm bo bp:Int) (bq:Bool):Ml (.int v0) v1 v2 (.bool v3) v4 (.bool v5) v6 (.bool v7) v8 (.bool v9) (.int aB) (.bool aA) aC (.bool aG) aD (.bool aH) (.int aM) aN aO (.bool aT) aK (.int aU) aV aW (.bool aY) aZ a_ bb (.int be) bd bg bh (.int bm) (.int bo) (.int bp) (.bool bq) =
  cond (v0<3) (
 cond (v0=0) (
 cond (D.strEq a_ v8) (
 Ml (.int (IntKind.wrap .i64 (v0+1))) v1 v2 (.bool v3) v4 (.bool v5) v6 (.bool v7) v8 (.bool v9) (.int aB) (.bool aA) aC (.bool aG) aD (.bool aH) (.int aM) aN aO (.bool aT) aK (.int aU) aV aW (.bool aY) aZ a_ bb (.int be) bd bg bh (.int bm) (.int bo) (.int bp) (.bool bq)) (
 .row [.int 1,(.bool false)])) (
 cond (v0=1) (
 cond ((sl (GR aD (.bool aH) a_ bb (.int be) bd bg bh (.int bm) (.int bo) (.int bp)) 0).toInt=1) (
 cond ((sl (GR aD (.bool aH) a_ bb (.int be) bd bg bh (.int bm) (.int bo) (.int bp)) 1).toBool) (
 Ml (.int (IntKind.wrap .i64 (v0+1))) v1 v2 (.bool v3) v4 (.bool v5) v6 (.bool v7) v8 (.bool v9) (.int aB) (.bool aA) aC (.bool aG) aD (.bool aH) (.int aM) aN aO (.bool aT) aK (.int aU) aV aW (.bool aY) aZ a_ bb (.int be) bd bg bh (.int bm) (.int bo) (.int bp) (.bool bq)) (
 .row [.int 1,(.bool false)])) (
 .row [])) (
 cond (v0=2) (
 cond (be=3) (
 cond (bq) (
 Ml (.int (IntKind.wrap .i64 (v0+1))) v1 v2 (.bool v3) v4 (.bool v5) v6 (.bool v7) v8 (.bool v9) (.int aB) (.bool aA) aC (.bool aG) aD (.bool aH) (.int aM) aN aO (.bool aT) aK (.int aU) aV aW (.bool aY) aZ a_ bb (.int be) bd bg bh (.int bm) (.int bo) (.int bp) (.bool bq)) (
 .row [.int 1,(.bool false)])) (
 Ml (.int (IntKind.wrap .i64 (v0+1))) v1 v2 (.bool v3) v4 (.bool v5) v6 (.bool v7) v8 (.bool v9) (.int aB) (.bool aA) aC (.bool aG) aD (.bool aH) (.int aM) aN aO (.bool aT) aK (.int aU) aV aW (.bool aY) aZ a_ bb (.int be) bd bg bh (.int bm) (.int bo) (.int bp) (.bool bq))) (
 .row [])))) (
 .row [.int 1,(.bool true)]):=gw rfl rfl (cL (cQ rfl (cQ (cQ rfl rfl) (cQ (cQ rfl rfl) rfl))) rfl)
theorem Vl (v0:D) (v1:Bool) (v2 v3:D) (v4:Int) (v5 v6 v7:D) (v8 v9 aB:Int):QY v0 (.bool v1) v2 v3 (.int v4) v5 v6 v7 (.int v8) (.int v9) (.int aB) =
  cond ((sl (GR v0 (.bool v1) v2 v3 (.int v4) v5 v6 v7 (.int v8) (.int v9) (.int aB)) 0).toInt=1) (
 cond ((sl (GR v0 (.bool v1) v2 v3 (.int v4) v5 v6 v7 (.int v8) (.int v9) (.int aB)) 2).toInt=0) (
 cond ((sl (GR v0 (.bool v1) v2 v3 (.int v4) v5 v6 v7 (.int v8) (.int v9) (.int aB)) 1).toBool) (
 cond (eqC v7 0 0) (
 .row [.int 1,(.int 0),v0]) (
 cond ((sl (Em v0 (.bool v1) v7) 0).toInt=1) (
 cond ((sl (Em v0 (.bool v1) v7) 1).toInt<0) (
 .row []) (
 cond ((sl (Em v0 (.bool v1) v7) 1).toInt<len v0) (
 .row [.int 1,(.int 0),(upd v0 (sl (Em v0 (.bool v1) v7) 1).toInt 2 (.int (IntKind.wrap .i64 ((cl v0 (sl (Em v0 (.bool v1) v7) 1).toInt 2).toInt+aB))))]) (
 .row []))) (
 .row []))) (
 .row [.int 1,(.int 8),v0])) (
 .row [.int 1,(sl (GR v0 (.bool v1) v2 v3 (.int v4) v5 v6 v7 (.int v8) (.int v9) (.int aB)) 2),v0])) (
 .row []):=gw rfl rfl (cQ (cQ (cg rfl (cg rfl rfl (cQ rfl rfl)) rfl) rfl) rfl)
theorem mW (v0:D) (v1:Bool) (v2 v3:D) (v4:Bool) (v5:D) (v6:Bool) (v7:D) (v8:Bool) (v9:D) (aB:Bool) (aA aC:Int) (aG aD aH:D) (aM aN:Bool) (aO:D) (aT:Bool) (aK:Int) (aU aV aW:D) (aY aZ:Bool) (a_ bb:Int) {b a:D} (h0:QY v0 (.bool v1) (cl v7 bb 0) (cl v7 bb 1) (cl v7 bb 2) (cl v7 bb 3) (cl v7 bb 4) (cl v7 bb 5) (cl v7 bb 6) (cl v7 bb 7) (cl v7 bb 8)=b) (h1:GQ (sl b 2) (.bool v1) v2 v3 (.bool v4) v5 (.bool v6) v7 (.bool v8) v9 (.bool aB) (.int aA) (.int aK) aU aV aW (.bool aY) (.bool aZ) aO (.bool aT) (cl v7 bb 1)=a):Pl v0 (.bool v1) v2 v3 (.bool v4) v5 (.bool v6) v7 (.bool v8) v9 (.bool aB) (.int aA) (.int aC) aG aD aH (.bool aM) (.bool aN) aO (.bool aT) (.int aK) aU aV aW (.bool aY) (.bool aZ) (.int a_) (.int bb) =
  cond ((len aO:Int)<100000) (
 cond (bb<0) (
 .row []) (
 cond (bb<len v7) (
 cond ((sl b 0).toInt=1) (
 cond ((len (sl b 2):Int)=(len v0:Int)) (
 cond ((sl a 0).toInt=1) (
 .row [.int 1,(sl a 1),(sl a 2),(sl a 3),(ad aO (.row [(.int bb),(.int a_)])),(.bool false),(sl b 2),(.bool v1),(.int aC),aD,aH,(.bool aM),aG,(.int aK),(sl a 4),(sl a 5),(sl a 6),(sl a 7)]) (
 .row [])) (
 .row [])) (
 .row [])) (
 .row []))) (
 .row []):=by
  subst h0;subst h1;exact gw rfl rfl (cL (cL rfl (cL (cQ (cQ (cQ rfl rfl) rfl) rfl) rfl)) rfl)
theorem Kx (v0:D) (v1:Bool) (v2 v3:D) (v4:Bool) (v5:D) (v6:Bool) (v7:D) (v8:Bool) (v9:D) (aB:Bool) (aA aC:Int) (aG aD aH:D) (aM aN:Bool) (aO:D) (aT:Bool) (aK aU:Int) {d a b c e f:D} (h0:F9 (.int aC) aG aD aH (.bool aM)=d) (h1:KH (sl d 1) (sl d 5) (sl d 2) (sl d 3) (sl d 4) (.int aK)=a) (h2:Pl v0 (.bool v1) v2 v3 (.bool v4) v5 (.bool v6) v7 (.bool v8) v9 (.bool aB) (.int aA) (.int aC) aG aD aH (.bool aM) (.bool false) aO (.bool aT) (sl a 4) (sl a 7) (sl d 2) (sl a 5) (sl a 6) (.bool (decide (0<(len (sl a 1):Int)))) (.int aK) (.int aU)=b) (h3:Pl v0 (.bool v1) v2 v3 (.bool v4) v5 (.bool v6) v7 (.bool v8) v9 (.bool aB) (.int aA) (.int aC) aG aD aH (.bool aM) (.bool true) aO (.bool aT) (sl a 4) (sl a 7) (sl d 2) (sl a 5) (sl a 6) (.bool true) (.int aK) (.int aU)=c) (h4:Oe v0 (.bool v1) v2 v3 (.bool v4) v5 (.bool v6) v7 (.bool v8) v9 (.bool aB) (.int aA) (.int aC) aG aD aH (.bool aM) (.bool aN) aO (.bool aT) (sl a 4) (sl a 7) (sl d 2) (sl a 5) (sl a 6) (.bool (decide (0<(len (sl a 1):Int)))) (cl v7 aU 0) (cl v7 aU 1) (cl v7 aU 2) (cl v7 aU 3) (cl v7 aU 4) (cl v7 aU 5) (cl v7 aU 6) (cl v7 aU 7) (cl v7 aU 8)=e) (h5:Oe v0 (.bool v1) v2 v3 (.bool v4) v5 (.bool v6) v7 (.bool v8) v9 (.bool aB) (.int aA) (.int aC) aG aD aH (.bool aM) (.bool aN) aO (.bool aT) (sl a 4) (sl a 7) (sl d 2) (sl a 5) (sl a 6) (.bool true) (cl v7 aU 0) (cl v7 aU 1) (cl v7 aU 2) (cl v7 aU 3) (cl v7 aU 4) (cl v7 aU 5) (cl v7 aU 6) (cl v7 aU 7) (cl v7 aU 8)=f):Nw v0 (.bool v1) v2 v3 (.bool v4) v5 (.bool v6) v7 (.bool v8) v9 (.bool aB) (.int aA) (.int aC) aG aD aH (.bool aM) (.bool aN) aO (.bool aT) (.int aK) (.int aU) =
  cond (aU<0) (
 .row [.int 1,(.int 2),v9,(.bool aB),(.int aA),(.bool aN),aO,(.bool aT),v0,(.bool v1),aG,aH,(.int aC),aD,(.bool aM)]) (
 cond (aU<len v7) (
 cond (aK<aC) (
 .row [.int 1,(.int 3),v9,(.bool aB),(.int aA),(.bool aN),aO,(.bool aT),v0,(.bool v1),aG,aH,(.int aC),aD,(.bool aM)]) (
 cond (1099511627776<aK) (
 .row [.int 1,(.int 3),v9,(.bool aB),(.int aA),(.bool aN),aO,(.bool aT),v0,(.bool v1),aG,aH,(.int aC),aD,(.bool aM)]) (
 cond ((sl d 0).toInt=1) (
 cond ((sl a 0).toInt=1) (
 cond (aN) (
 cond ((sl f 0).toInt=1) (
 cond ((sl f 1).toBool) (
 cond ((sl c 0).toInt=1) (
 .row [.int 1,(.int 0),(sl c 1),(sl c 2),(sl c 3),(.bool false),(sl c 4),(sl c 5),(sl c 6),(sl c 7),(sl c 17),(sl c 15),(sl c 13),(sl c 14),(sl c 16)]) (
 .row [])) (
 .row [.int 1,(.int 8),v9,(.bool aB),(.int aA),(.bool true),aO,(.bool aT),v0,(.bool v1),aG,aH,(.int aC),aD,(.bool aM)])) (
 .row [])) (
 cond ((sl e 0).toInt=1) (
 cond ((sl e 1).toBool) (
 cond ((sl b 0).toInt=1) (
 .row [.int 1,(.int 0),(sl b 1),(sl b 2),(sl b 3),(.bool false),(sl b 4),(sl b 5),(sl b 6),(sl b 7),(sl b 17),(sl b 15),(sl b 13),(sl b 14),(sl b 16)]) (
 .row [])) (
 .row [.int 1,(.int 8),v9,(.bool aB),(.int aA),(.bool false),aO,(.bool aT),v0,(.bool v1),aG,aH,(.int aC),aD,(.bool aM)])) (
 .row []))) (
 .row [])) (
 .row [])))) (
 .row [.int 1,(.int 2),v9,(.bool aB),(.int aA),(.bool aN),aO,(.bool aT),v0,(.bool v1),aG,aH,(.int aC),aD,(.bool aM)])):=by
  subst h0;subst h1;subst h2;subst h3;subst h4;subst h5;exact gw rfl rfl (cL rfl (cL (cL rfl (cL rfl (cQ (cQ (cg rfl (cQ (cg rfl (cQ rfl rfl) rfl) rfl) (cQ (cg rfl (cQ rfl rfl) rfl) rfl)) rfl) rfl))) rfl))
theorem bt (v0:D) (v1:Bool):GS v0 (.bool v1) =
  cond (v1) (
 .row [.int 1,Aw,(.bool true)]) (
 cond ((len v0:Int)<1048576) (
 .row [.int 1,(ct Aq v0),(.bool false)]) (
 .row [])):=gw rfl rfl (cg rfl rfl (cL rfl rfl))
theorem gG (v0:D) (v1:Bool):Pw v0 (.bool v1) =
  cond ((sl (GS v0 (.bool v1)) 0).toInt=1) (
 .row [.int 1,(sl (GS v0 (.bool v1)) 1),(sl (GS v0 (.bool v1)) 2)]) (
 .row []):=gw rfl rfl (cQ rfl rfl)
theorem gy (v0:D) (v1:Bool):O6 v0 (.bool v1) =
  cond (v1) (
 .row [.int 1,Aw,(.bool true)]) (
 cond ((len v0:Int)<1048576) (
 .row [.int 1,(ct Aq v0),(.bool false)]) (
 .row [])):=gw rfl rfl (cg rfl rfl (cL rfl rfl))
theorem gj (v0:D) (v1:Bool) (v2 v3:D) (v4:Bool) (v5:D) (v6:Bool) (v7:D) (v8:Bool) (v9:D) (aB:Bool) (aA aC:Int) (aG aD aH:D) (aM aN:Bool) (aO:D) (aT:Bool):Lh v0 (.bool v1) v2 v3 (.bool v4) v5 (.bool v6) v7 (.bool v8) v9 (.bool aB) (.int aA) (.int aC) aG aD aH (.bool aM) (.bool aN) aO (.bool aT) =
  cond ((sl (Pw v0 (.bool v1)) 0).toInt=1) (
 cond ((sl (F9 (.int aC) aG aD aH (.bool aM)) 0).toInt=1) (
 cond ((sl (O6 aO (.bool aT)) 0).toInt=1) (
 .row [.int 1,v3,v5,v7,v2,(.bool v4),(.bool v6),(.bool v8),v9,(.bool aB),(.int aA),(.bool aN),(sl (O6 aO (.bool aT)) 1),(sl (O6 aO (.bool aT)) 2),(sl (Pw v0 (.bool v1)) 1),(sl (Pw v0 (.bool v1)) 2),(sl (F9 (.int aC) aG aD aH (.bool aM)) 1),(sl (F9 (.int aC) aG aD aH (.bool aM)) 2),(sl (F9 (.int aC) aG aD aH (.bool aM)) 3),(sl (F9 (.int aC) aG aD aH (.bool aM)) 4),(sl (F9 (.int aC) aG aD aH (.bool aM)) 5)]) (
 .row [])) (
 .row [])) (
 .row []):=gw rfl rfl (cQ (cQ (cQ rfl rfl) rfl) rfl)
theorem sJ (v0:D) (v1:Bool) (v2:D):RV v0 (.bool v1) v2 =
  cond (v1) (
 .row [.int 1,Aw,(.bool true)]) (
 cond (v2.toInt=len v0) (
 cond ((len v0:Int)<1048576) (
 .row [.int 1,(ct Aq v0),(.bool false)]) (
 .row [])) (
 .row [])):=gw rfl rfl (cg rfl rfl (cQ (cL rfl rfl) rfl))
theorem mL (v0:D) (v1:Bool) (v2:D):R9 v0 (.bool v1) v2 =
  cond (v1) (
 .row [.int 1,Aw,(.bool true)]) (
 cond (v2.toInt=len v0) (
 cond ((len v0:Int)<1048576) (
 .row [.int 1,(ct Aq v0),(.bool false)]) (
 .row [])) (
 .row [])):=gw rfl rfl (cg rfl rfl (cQ (cL rfl rfl) rfl))
theorem ik (v0:D) (v1:Bool) (v2:D):KL v0 (.bool v1) v2 =
  cond (v1) (
 .row [.int 1,Aw,(.bool true)]) (
 cond (v2.toInt=len v0) (
 cond ((len v0:Int)<1048576) (
 .row [.int 1,(ct Aq v0),(.bool false)]) (
 .row [])) (
 .row [])):=gw rfl rfl (cg rfl rfl (cQ (cL rfl rfl) rfl))
theorem xG (v0:D) (v1:Bool) (v2 v3:D) (v4:Bool) (v5 v6:D) (v7:Bool) (v8 v9:D) (aB:Bool) (aA aC:D) (aG:Bool) (aD aH:Int) (aM aN aO:D) (aT aK:Bool) (aU:D) (aV:Bool):SD v0 (.bool v1) v2 v3 (.bool v4) v5 v6 (.bool v7) v8 v9 (.bool aB) aA aC (.bool aG) (.int aD) (.int aH) aM aN aO (.bool aT) (.bool aK) aU (.bool aV) =
  cond ((sl (RV v3 (.bool v4) v5) 0).toInt=1) (
 cond ((sl (R9 v6 (.bool v7) v8) 0).toInt=1) (
 cond ((sl (KL v9 (.bool aB) aA) 0).toInt=1) (
 .row [.int 1,v2,(ni (sl (RV v3 (.bool v4) v5) 1) ((sl (RV v3 (.bool v4) v5) 2).toBool)),(ni (sl (R9 v6 (.bool v7) v8) 1) ((sl (R9 v6 (.bool v7) v8) 2).toBool)),(ni (sl (KL v9 (.bool aB) aA) 1) ((sl (KL v9 (.bool aB) aA) 2).toBool))]) (
 .row [])) (
 .row [])) (
 .row []):=gw rfl rfl (cQ (cQ (cQ rfl rfl) rfl) rfl)
theorem pQ (v0 v1:D):DK v0 v1 =
 Vu v0 (.int 0) v1:=gw rfl rfl rfl
theorem pP (v0:D) (v1:Int) (v2:D):Vu v0 (.int v1) v2 =
  cond (v1<len v0) (
 cond (v1<0) (
 .row []) (
 cond (D.strEq (cl v0 v1 0) v2) (
 .row [.int 1,(.int v1)]) (
 Vu v0 (.int (IntKind.wrap .i64 (v1+1))) v2))) (
 .row [.int 1,(.int (-1))]):=gw rfl rfl rfl
theorem nA (v0 v1:D):FJ v0 v1 =
 VQ v0 (.int 0) v1:=gw rfl rfl rfl
theorem wx (v0:D) (v1:Int) (v2:D):VQ v0 (.int v1) v2 =
  cond (v1<len v0) (
 cond (v1<0) (
 .row []) (
 cond (D.strEq (cl v0 v1 0) v2) (
 .row [.int 1,(.int v1)]) (
 VQ v0 (.int (IntKind.wrap .i64 (v1+1))) v2))) (
 .row [.int 1,(.int (-1))]):=gw rfl rfl rfl
theorem vQ (v0 v1 v2 v3 v4 v5 v6 v7 v8 v9:D):Cq v0 v1 v2 v3 v4 v5 v6 v7 v8 v9 =
  cond ((sl (Ej v0 v1 v2 v3) 0).toInt=1) (
 cond ((sl (Ej v0 v1 v2 v3) 2).toInt=0) (
 cond ((sl (Ej v4 v5 v6 v7) 0).toInt=1) (
 cond ((sl (Ej v4 v5 v6 v7) 2).toInt=0) (
 cond (24<(len v8:Int)) (
 .row [.int 1,(.int 24),(.int 490)]) (
 Hz v0 v1 v2 v3 v4 v5 v6 v7 v8 v9 (.bool (decide ((sl (Ej v0 v1 v2 v3) 2).toInt=0))) (.bool (!decide ((sl (Ej v0 v1 v2 v3) 2).toInt=0))) (.bool (!decide ((sl (Ej v0 v1 v2 v3) 2).toInt=0))) (.bool (decide ((sl (Ej v4 v5 v6 v7) 2).toInt=0))) (.bool (!decide ((sl (Ej v4 v5 v6 v7) 2).toInt=0))) (.bool (!decide ((sl (Ej v4 v5 v6 v7) 2).toInt=0))) (.bool (decide (24<(len v8:Int)))) (.int 0) Aq)) (
 .row [.int 1,(.int 0),(.int 2)])) (
 .row [])) (
 .row [.int 1,(.int 0),(.int 2)])) (
 .row []):=gw rfl rfl (cQ (cQ (cQ (cQ (cL rfl rfl) rfl) rfl) rfl) rfl)
theorem ii (v0 v1 v2 v3 v4 v5 v6 v7 v8 v9:D) (aB aA aC aG aD aH aM:Bool) (aN:Int) (aO:D):Hz v0 v1 v2 v3 v4 v5 v6 v7 v8 v9 (.bool aB) (.bool aA) (.bool aC) (.bool aG) (.bool aD) (.bool aH) (.bool aM) (.int aN) aO =
  cond (aN<len v8) (
 cond (aN<0) (
 .row []) (
 cond ((sl (DK v1 (cl v8 aN 0)) 0).toInt=1) (
 cond ((sl (DK v1 (cl v8 aN 0)) 1).toInt<0) (
 .row [.int 1,(.int aN),(.int 490)]) (
 cond ((sl (DK v5 (cl v8 aN 1)) 0).toInt=1) (
 cond ((sl (DK v5 (cl v8 aN 1)) 1).toInt<0) (
 .row [.int 1,(.int aN),(.int 490)]) (
 cond ((mIx [.str] aO (.row [(cl v8 aN 0)]))<0) (
 Hz v0 v1 v2 v3 v4 v5 v6 v7 v8 v9 (.bool aB) (.bool aA) (.bool aC) (.bool aG) (.bool aD) (.bool aH) (.bool aM) (.int (IntKind.wrap .i64 (aN+1))) (ad aO (.row [(cl v8 aN 0),(.bool true)]))) (
 cond ((cl aO (mIx [.str] aO (.row [(cl v8 aN 0)])) 1).toBool) (
 .row [.int 1,(.int aN),(.int 490)]) (
 Hz v0 v1 v2 v3 v4 v5 v6 v7 v8 v9 (.bool aB) (.bool aA) (.bool aC) (.bool aG) (.bool aD) (.bool aH) (.bool aM) (.int (IntKind.wrap .i64 (aN+1))) (upd aO (mIx [.str] aO (.row [(cl v8 aN 0)])) 1 (.bool true)))))) (
 .row []))) (
 .row []))) (
 cond (4<(len v9:Int)) (
 .row [.int 1,(.int 4),(.int 491)]) (
 EV v0 v1 v2 v3 v4 v5 v6 v7 v8 v9 (.bool aB) (.bool aA) (.bool aC) (.bool aG) (.bool aD) (.bool aH) (.bool aM) (.int aN) (.bool (decide (aN<(len v8:Int)))) (.bool (decide (4<(len v9:Int)))) (.int 0) Aq)):=gw rfl rfl (cL (cL rfl (cQ (cL rfl (cQ rfl rfl)) rfl)) rfl)
theorem ic (v0 v1 v2 v3 v4 v5 v6 v7 v8 v9:D) (aB aA aC aG aD aH aM:Bool) (aN:Int) (aO aT:Bool) (aK:Int) (aU:D):EV v0 v1 v2 v3 v4 v5 v6 v7 v8 v9 (.bool aB) (.bool aA) (.bool aC) (.bool aG) (.bool aD) (.bool aH) (.bool aM) (.int aN) (.bool aO) (.bool aT) (.int aK) aU =
  cond (aK<len v9) (
 cond (aK<0) (
 .row []) (
 cond ((sl (FJ v6 (cl v9 aK 0)) 0).toInt=1) (
 cond ((sl (FJ v6 (cl v9 aK 0)) 1).toInt<0) (
 .row [.int 1,(.int aK),(.int 491)]) (
 cond (eqC (cl v9 aK 1) 0 0) (
 cond ((mIx [.str] aU (.row [(cl v9 aK 0)]))<0) (
 cond ((cl v9 aK 2).toInt<(IntKind.wrap .i64 (0-(cl v9 aK 2).toInt))) (
 cond (1000<(IntKind.wrap .i64 (0-(cl v9 aK 2).toInt))) (
 .row [.int 1,(.int aK),(.int 491)]) (
 cond ((cl v9 aK 2).toInt<(-1000)) (
 .row [.int 1,(.int aK),(.int 491)]) (
 EV v0 v1 v2 v3 v4 v5 v6 v7 v8 v9 (.bool aB) (.bool aA) (.bool aC) (.bool aG) (.bool aD) (.bool aH) (.bool aM) (.int aN) (.bool aO) (.bool aT) (.int (IntKind.wrap .i64 (aK+1))) (ad aU (.row [(cl v9 aK 0),(.bool true)]))))) (
 cond (1000<(cl v9 aK 2).toInt) (
 .row [.int 1,(.int aK),(.int 491)]) (
 cond ((cl v9 aK 2).toInt<(-1000)) (
 .row [.int 1,(.int aK),(.int 491)]) (
 EV v0 v1 v2 v3 v4 v5 v6 v7 v8 v9 (.bool aB) (.bool aA) (.bool aC) (.bool aG) (.bool aD) (.bool aH) (.bool aM) (.int aN) (.bool aO) (.bool aT) (.int (IntKind.wrap .i64 (aK+1))) (ad aU (.row [(cl v9 aK 0),(.bool true)])))))) (
 cond ((cl aU (mIx [.str] aU (.row [(cl v9 aK 0)])) 1).toBool) (
 .row [.int 1,(.int aK),(.int 491)]) (
 cond ((cl v9 aK 2).toInt<(IntKind.wrap .i64 (0-(cl v9 aK 2).toInt))) (
 cond (1000<(IntKind.wrap .i64 (0-(cl v9 aK 2).toInt))) (
 .row [.int 1,(.int aK),(.int 491)]) (
 cond ((cl v9 aK 2).toInt<(-1000)) (
 .row [.int 1,(.int aK),(.int 491)]) (
 EV v0 v1 v2 v3 v4 v5 v6 v7 v8 v9 (.bool aB) (.bool aA) (.bool aC) (.bool aG) (.bool aD) (.bool aH) (.bool aM) (.int aN) (.bool aO) (.bool aT) (.int (IntKind.wrap .i64 (aK+1))) (upd aU (mIx [.str] aU (.row [(cl v9 aK 0)])) 1 (.bool true))))) (
 cond (1000<(cl v9 aK 2).toInt) (
 .row [.int 1,(.int aK),(.int 491)]) (
 cond ((cl v9 aK 2).toInt<(-1000)) (
 .row [.int 1,(.int aK),(.int 491)]) (
 EV v0 v1 v2 v3 v4 v5 v6 v7 v8 v9 (.bool aB) (.bool aA) (.bool aC) (.bool aG) (.bool aD) (.bool aH) (.bool aM) (.int aN) (.bool aO) (.bool aT) (.int (IntKind.wrap .i64 (aK+1))) (upd aU (mIx [.str] aU (.row [(cl v9 aK 0)])) 1 (.bool true)))))))) (
 cond ((sl (FJ v2 (cl v9 aK 1)) 0).toInt=1) (
 cond ((sl (FJ v2 (cl v9 aK 1)) 1).toInt<0) (
 .row [.int 1,(.int aK),(.int 491)]) (
 cond ((mIx [.str] aU (.row [(cl v9 aK 0)]))<0) (
 cond ((cl v9 aK 2).toInt<(IntKind.wrap .i64 (0-(cl v9 aK 2).toInt))) (
 cond (1000<(IntKind.wrap .i64 (0-(cl v9 aK 2).toInt))) (
 .row [.int 1,(.int aK),(.int 491)]) (
 cond ((cl v9 aK 2).toInt<(-1000)) (
 .row [.int 1,(.int aK),(.int 491)]) (
 EV v0 v1 v2 v3 v4 v5 v6 v7 v8 v9 (.bool aB) (.bool aA) (.bool aC) (.bool aG) (.bool aD) (.bool aH) (.bool aM) (.int aN) (.bool aO) (.bool aT) (.int (IntKind.wrap .i64 (aK+1))) (ad aU (.row [(cl v9 aK 0),(.bool true)]))))) (
 cond (1000<(cl v9 aK 2).toInt) (
 .row [.int 1,(.int aK),(.int 491)]) (
 cond ((cl v9 aK 2).toInt<(-1000)) (
 .row [.int 1,(.int aK),(.int 491)]) (
 EV v0 v1 v2 v3 v4 v5 v6 v7 v8 v9 (.bool aB) (.bool aA) (.bool aC) (.bool aG) (.bool aD) (.bool aH) (.bool aM) (.int aN) (.bool aO) (.bool aT) (.int (IntKind.wrap .i64 (aK+1))) (ad aU (.row [(cl v9 aK 0),(.bool true)])))))) (
 cond ((cl aU (mIx [.str] aU (.row [(cl v9 aK 0)])) 1).toBool) (
 .row [.int 1,(.int aK),(.int 491)]) (
 cond ((cl v9 aK 2).toInt<(IntKind.wrap .i64 (0-(cl v9 aK 2).toInt))) (
 cond (1000<(IntKind.wrap .i64 (0-(cl v9 aK 2).toInt))) (
 .row [.int 1,(.int aK),(.int 491)]) (
 cond ((cl v9 aK 2).toInt<(-1000)) (
 .row [.int 1,(.int aK),(.int 491)]) (
 EV v0 v1 v2 v3 v4 v5 v6 v7 v8 v9 (.bool aB) (.bool aA) (.bool aC) (.bool aG) (.bool aD) (.bool aH) (.bool aM) (.int aN) (.bool aO) (.bool aT) (.int (IntKind.wrap .i64 (aK+1))) (upd aU (mIx [.str] aU (.row [(cl v9 aK 0)])) 1 (.bool true))))) (
 cond (1000<(cl v9 aK 2).toInt) (
 .row [.int 1,(.int aK),(.int 491)]) (
 cond ((cl v9 aK 2).toInt<(-1000)) (
 .row [.int 1,(.int aK),(.int 491)]) (
 EV v0 v1 v2 v3 v4 v5 v6 v7 v8 v9 (.bool aB) (.bool aA) (.bool aC) (.bool aG) (.bool aD) (.bool aH) (.bool aM) (.int aN) (.bool aO) (.bool aT) (.int (IntKind.wrap .i64 (aK+1))) (upd aU (mIx [.str] aU (.row [(cl v9 aK 0)])) 1 (.bool true))))))))) (
 .row [])))) (
 .row []))) (
 .row [.int 1,(.int 0),(.int 0)]):=gw rfl rfl (cL (cL rfl (cQ (cL rfl (cg rfl (cL (cL (cL rfl (cL rfl rfl)) (cL rfl (cL rfl rfl))) (cg rfl rfl (cL (cL rfl (cL rfl rfl)) (cL rfl (cL rfl rfl))))) (cQ (cL rfl (cL (cL (cL rfl (cL rfl rfl)) (cL rfl (cL rfl rfl))) (cg rfl rfl (cL (cL rfl (cL rfl rfl)) (cL rfl (cL rfl rfl)))))) rfl))) rfl)) rfl)
theorem qh (v0:D) (v1:Bool) (v2:D) (v3:Bool):QX v0 (.bool v1) v2 (.bool v3) =
 Vw v2 (.bool v3) (.int 0) v0 (.bool v1):=gw rfl rfl rfl
theorem ia (v0:D) (v1:Bool) (v2:Int) (v3:D) (v4:Bool):Vw v0 (.bool v1) (.int v2) v3 (.bool v4) =
  cond (v2<len v0) (
 cond (v2<0) (
 .row []) (
 cond ((len v3:Int)<1073741824) (
 Vw v0 (.bool v1) (.int (IntKind.wrap .i64 (v2+1))) (ad v3 (.row [(cl v0 v2 2)])) (.bool false)) (
 .row []))) (
 .row [.int 1,v3,(.bool v4)]):=gw rfl rfl (cL (cL rfl (cL rfl rfl)) rfl)
theorem nS (v0:D) (v1:Bool):Pu v0 (.bool v1) =
  cond ((sl (GS v0 (.bool v1)) 0).toInt=1) (
 cond ((sl (QX Aw (.bool true) (sl (GS v0 (.bool v1)) 1) (sl (GS v0 (.bool v1)) 2)) 0).toInt=1) (
 .row [.int 1,(sl (QX Aw (.bool true) (sl (GS v0 (.bool v1)) 1) (sl (GS v0 (.bool v1)) 2)) 1),(sl (QX Aw (.bool true) (sl (GS v0 (.bool v1)) 1) (sl (GS v0 (.bool v1)) 2)) 2)]) (
 .row [])) (
 .row []):=gw rfl rfl (cQ (cQ rfl rfl) rfl)
theorem yl (v0:D) (v1:Bool) (v2 v3:D) (v4:Bool) (v5 v6:D) (v7:Bool) (v8 v9:D) (aB:Bool) (aA aC:D) (aG:Bool) (aD aH:Int) (aM aN aO:D) (aT aK:Bool) (aU:D) (aV:Bool):JB v0 (.bool v1) v2 v3 (.bool v4) v5 v6 (.bool v7) v8 v9 (.bool aB) aA aC (.bool aG) (.int aD) (.int aH) aM aN aO (.bool aT) (.bool aK) aU (.bool aV) =
  cond ((sl (Pu v0 (.bool v1)) 0).toInt=1) (
 .row [.int 1,aC,(ni (sl (Pu v0 (.bool v1)) 1) ((sl (Pu v0 (.bool v1)) 2).toBool))]) (
 .row []):=gw rfl rfl (cQ rfl rfl)
theorem mr (v0 v1 v2 v3 v4 v5:D):C5 v0 v1 v2 v3 v4 v5 =
  cond ((sl (DK v1 v4) 0).toInt=1) (
 cond ((sl (DK v1 v4) 1).toInt<0) (
 .row [.int 1,(sl (DK v1 v4) 1),(.int 0),(.int 0),(.int 0),(.int 0),(.bool false)]) (
 cond ((len v5:Int)=(len v2:Int)) (
 KI v5 (.int 0) v0 v1 v2 v3 v4 (sl (DK v1 v4) 1)) (
 .row [.int 1,(sl (DK v1 v4) 1),(.int 0),(.int 0),(.int 0),(.int 0),(.bool false)]))) (
 .row []):=gw rfl rfl (cQ (cL rfl (cQ rfl rfl)) rfl)
theorem g7 (v0:D) (v1:Int) (v2 v3 v4 v5 v6:D) (v7:Int):KI v0 (.int v1) v2 v3 v4 v5 v6 (.int v7) =
  cond (v1<len v0) (
 cond (v1<0) (
 .row []) (
 cond ((cl v0 v1 0).toInt<0) (
 .row [.int 1,(.int v7),(.int 0),(.int 0),(.int 0),(.int 0),(.bool false)]) (
 cond (v1<len v4) (
 cond ((cl v4 v1 1).toInt<(cl v0 v1 0).toInt) (
 .row [.int 1,(.int v7),(.int 0),(.int 0),(.int 0),(.int 0),(.bool false)]) (
 KI v0 (.int (IntKind.wrap .i64 (v1+1))) v2 v3 v4 v5 v6 (.int v7))) (
 .row [])))) (
 cond ((len v0:Int)<4) (
 cond ((len v0:Int)=0) (
 .row [.int 1,(.int v7),(.int 0),(.int 0),(.int 0),(.int 0),(.bool true)]) (
 cond ((len v0:Int)=1) (
 .row [.int 1,(.int v7),(cl v0 0 0),(.int 0),(.int 0),(.int 0),(.bool true)]) (
 cond ((len v0:Int)=2) (
 .row [.int 1,(.int v7),(cl v0 0 0),(cl v0 1 0),(.int 0),(.int 0),(.bool true)]) (
 cond ((len v0:Int)=3) (
 .row [.int 1,(.int v7),(cl v0 0 0),(cl v0 1 0),(cl v0 2 0),(.int 0),(.bool true)]) (
 .row []))))) (
 .row [.int 1,(.int v7),(cl v0 0 0),(cl v0 1 0),(cl v0 2 0),(cl v0 3 0),(.bool true)])):=gw rfl rfl (cL rfl (cL (cQ rfl (cQ rfl (cQ rfl (cQ rfl rfl)))) rfl))
theorem tf (v0 v1 v2 v3 v4:D) (v5 v6 v7 v8 v9:Int):NG v0 v1 v2 v3 v4 (.int v5) (.int v6) (.int v7) (.int v8) (.int v9) =
 Ph v0 (.int 0) v1 v2 v3 v4 (.int v5) (.int v6) (.int v7) (.int v8) (.int v9):=gw rfl rfl rfl
theorem gK (v0:D) (v1:Int) (v2 v3 v4 v5:D) (v6 v7 v8 v9 aB:Int):Ph v0 (.int v1) v2 v3 v4 v5 (.int v6) (.int v7) (.int v8) (.int v9) (.int aB) =
  cond (v1<len v0) (
 cond (v1<0) (
 .row []) (
 cond (v6<0) (
 .row []) (
 cond (v6<len v3) (
 cond (D.strEq (cl v0 v1 0) (cl v3 v6 0)) (
 .row [.int 1,(.int v1)]) (
 Ph v0 (.int (IntKind.wrap .i64 (v1+1))) v2 v3 v4 v5 (.int v6) (.int v7) (.int v8) (.int v9) (.int aB))) (
 .row [])))) (
 .row [.int 1,(.int (-1))]):=gw rfl rfl rfl
theorem tv (v0 v1 v2 v3 v4 v5 v6 v7 v8 v9:D) (aB aA aC aG aD:Int):Ox v0 v1 v2 v3 v4 v5 v6 v7 v8 v9 (.int aB) (.int aA) (.int aC) (.int aG) (.int aD) =
  cond ((sl (NG v8 v0 v1 v2 v3 (.int aB) (.int aA) (.int aC) (.int aG) (.int aD)) 0).toInt=1) (
 cond ((sl (NG v8 v0 v1 v2 v3 (.int aB) (.int aA) (.int aC) (.int aG) (.int aD)) 1).toInt<0) (
 .row [.int 1,(.int 0),(.int 0),(.int 0),(.int 0),(.int 0),(.int 9)]) (
 cond ((sl (NG v8 v0 v1 v2 v3 (.int aB) (.int aA) (.int aC) (.int aG) (.int aD)) 1).toInt<len v8) (
 cond ((sl (DK v5 (cl v8 (sl (NG v8 v0 v1 v2 v3 (.int aB) (.int aA) (.int aC) (.int aG) (.int aD)) 1).toInt 1)) 0).toInt=1) (
 BH v9 (.int 0) v0 v1 v2 v3 v4 v5 v6 v7 (.int aB) (.int aA) (.int aC) (.int aG) (.int aD) (sl (DK v5 (cl v8 (sl (NG v8 v0 v1 v2 v3 (.int aB) (.int aA) (.int aC) (.int aG) (.int aD)) 1).toInt 1)) 1) (.int 0) (.int 0) (.int 0) (.int 0)) (
 .row [])) (
 .row []))) (
 .row []):=gw rfl rfl (cQ (cL rfl (cL (cQ rfl rfl) rfl)) rfl)
theorem gT (v0:D) (v1:Int) (v2 v3 v4 v5 v6 v7 v8 v9:D) (aB aA aC aG aD aH aM aN aO aT:Int) {a:D} (h0:FJ v8 (cl v0 v1 0)=a):BH v0 (.int v1) v2 v3 v4 v5 v6 v7 v8 v9 (.int aB) (.int aA) (.int aC) (.int aG) (.int aD) (.int aH) (.int aM) (.int aN) (.int aO) (.int aT) =
  cond (v1<len v0) (
 cond (v1<0) (
 .row []) (
 cond ((sl a 0).toInt=1) (
 cond ((sl (FJ v4 (cl v0 v1 1)) 0).toInt=1) (
 cond ((sl (FJ v4 (cl v0 v1 1)) 1).toInt<0) (
 cond ((cl v0 v1 2).toInt<0) (
 .row [.int 1,(.int 0),(.int 0),(.int 0),(.int 0),(.int 0),(.int 3)]) (
 cond ((sl a 1).toInt<0) (
 .row []) (
 cond ((sl a 1).toInt<len v8) (
 cond ((cl v8 (sl a 1).toInt 1).toInt<(cl v0 v1 2).toInt) (
 .row [.int 1,(.int 0),(.int 0),(.int 0),(.int 0),(.int 0),(.int 3)]) (
 cond ((sl a 1).toInt=0) (
 BH v0 (.int (IntKind.wrap .i64 (v1+1))) v2 v3 v4 v5 v6 v7 v8 v9 (.int aB) (.int aA) (.int aC) (.int aG) (.int aD) (.int aH) (cl v0 v1 2) (.int aN) (.int aO) (.int aT)) (
 cond ((sl a 1).toInt=1) (
 BH v0 (.int (IntKind.wrap .i64 (v1+1))) v2 v3 v4 v5 v6 v7 v8 v9 (.int aB) (.int aA) (.int aC) (.int aG) (.int aD) (.int aH) (.int aM) (cl v0 v1 2) (.int aO) (.int aT)) (
 cond ((sl a 1).toInt=2) (
 BH v0 (.int (IntKind.wrap .i64 (v1+1))) v2 v3 v4 v5 v6 v7 v8 v9 (.int aB) (.int aA) (.int aC) (.int aG) (.int aD) (.int aH) (.int aM) (.int aN) (cl v0 v1 2) (.int aT)) (
 cond ((sl a 1).toInt=3) (
 BH v0 (.int (IntKind.wrap .i64 (v1+1))) v2 v3 v4 v5 v6 v7 v8 v9 (.int aB) (.int aA) (.int aC) (.int aG) (.int aD) (.int aH) (.int aM) (.int aN) (.int aO) (cl v0 v1 2)) (
 .row [])))))) (
 .row [])))) (
 cond ((sl (FJ v4 (cl v0 v1 1)) 1).toInt=0) (
 cond ((IntKind.wrap .i64 ((cl v0 v1 2).toInt+aA))<0) (
 .row [.int 1,(.int 0),(.int 0),(.int 0),(.int 0),(.int 0),(.int 3)]) (
 cond ((sl a 1).toInt<0) (
 .row []) (
 cond ((sl a 1).toInt<len v8) (
 cond ((cl v8 (sl a 1).toInt 1).toInt<(IntKind.wrap .i64 ((cl v0 v1 2).toInt+aA))) (
 .row [.int 1,(.int 0),(.int 0),(.int 0),(.int 0),(.int 0),(.int 3)]) (
 cond ((sl a 1).toInt=0) (
 BH v0 (.int (IntKind.wrap .i64 (v1+1))) v2 v3 v4 v5 v6 v7 v8 v9 (.int aB) (.int aA) (.int aC) (.int aG) (.int aD) (.int aH) (.int (IntKind.wrap .i64 ((cl v0 v1 2).toInt+aA))) (.int aN) (.int aO) (.int aT)) (
 cond ((sl a 1).toInt=1) (
 BH v0 (.int (IntKind.wrap .i64 (v1+1))) v2 v3 v4 v5 v6 v7 v8 v9 (.int aB) (.int aA) (.int aC) (.int aG) (.int aD) (.int aH) (.int aM) (.int (IntKind.wrap .i64 ((cl v0 v1 2).toInt+aA))) (.int aO) (.int aT)) (
 cond ((sl a 1).toInt=2) (
 BH v0 (.int (IntKind.wrap .i64 (v1+1))) v2 v3 v4 v5 v6 v7 v8 v9 (.int aB) (.int aA) (.int aC) (.int aG) (.int aD) (.int aH) (.int aM) (.int aN) (.int (IntKind.wrap .i64 ((cl v0 v1 2).toInt+aA))) (.int aT)) (
 cond ((sl a 1).toInt=3) (
 BH v0 (.int (IntKind.wrap .i64 (v1+1))) v2 v3 v4 v5 v6 v7 v8 v9 (.int aB) (.int aA) (.int aC) (.int aG) (.int aD) (.int aH) (.int aM) (.int aN) (.int aO) (.int (IntKind.wrap .i64 ((cl v0 v1 2).toInt+aA)))) (
 .row [])))))) (
 .row [])))) (
 cond ((sl (FJ v4 (cl v0 v1 1)) 1).toInt=1) (
 cond ((IntKind.wrap .i64 ((cl v0 v1 2).toInt+aC))<0) (
 .row [.int 1,(.int 0),(.int 0),(.int 0),(.int 0),(.int 0),(.int 3)]) (
 cond ((sl a 1).toInt<0) (
 .row []) (
 cond ((sl a 1).toInt<len v8) (
 cond ((cl v8 (sl a 1).toInt 1).toInt<(IntKind.wrap .i64 ((cl v0 v1 2).toInt+aC))) (
 .row [.int 1,(.int 0),(.int 0),(.int 0),(.int 0),(.int 0),(.int 3)]) (
 cond ((sl a 1).toInt=0) (
 BH v0 (.int (IntKind.wrap .i64 (v1+1))) v2 v3 v4 v5 v6 v7 v8 v9 (.int aB) (.int aA) (.int aC) (.int aG) (.int aD) (.int aH) (.int (IntKind.wrap .i64 ((cl v0 v1 2).toInt+aC))) (.int aN) (.int aO) (.int aT)) (
 cond ((sl a 1).toInt=1) (
 BH v0 (.int (IntKind.wrap .i64 (v1+1))) v2 v3 v4 v5 v6 v7 v8 v9 (.int aB) (.int aA) (.int aC) (.int aG) (.int aD) (.int aH) (.int aM) (.int (IntKind.wrap .i64 ((cl v0 v1 2).toInt+aC))) (.int aO) (.int aT)) (
 cond ((sl a 1).toInt=2) (
 BH v0 (.int (IntKind.wrap .i64 (v1+1))) v2 v3 v4 v5 v6 v7 v8 v9 (.int aB) (.int aA) (.int aC) (.int aG) (.int aD) (.int aH) (.int aM) (.int aN) (.int (IntKind.wrap .i64 ((cl v0 v1 2).toInt+aC))) (.int aT)) (
 cond ((sl a 1).toInt=3) (
 BH v0 (.int (IntKind.wrap .i64 (v1+1))) v2 v3 v4 v5 v6 v7 v8 v9 (.int aB) (.int aA) (.int aC) (.int aG) (.int aD) (.int aH) (.int aM) (.int aN) (.int aO) (.int (IntKind.wrap .i64 ((cl v0 v1 2).toInt+aC)))) (
 .row [])))))) (
 .row [])))) (
 cond ((sl (FJ v4 (cl v0 v1 1)) 1).toInt=2) (
 cond ((IntKind.wrap .i64 ((cl v0 v1 2).toInt+aG))<0) (
 .row [.int 1,(.int 0),(.int 0),(.int 0),(.int 0),(.int 0),(.int 3)]) (
 cond ((sl a 1).toInt<0) (
 .row []) (
 cond ((sl a 1).toInt<len v8) (
 cond ((cl v8 (sl a 1).toInt 1).toInt<(IntKind.wrap .i64 ((cl v0 v1 2).toInt+aG))) (
 .row [.int 1,(.int 0),(.int 0),(.int 0),(.int 0),(.int 0),(.int 3)]) (
 cond ((sl a 1).toInt=0) (
 BH v0 (.int (IntKind.wrap .i64 (v1+1))) v2 v3 v4 v5 v6 v7 v8 v9 (.int aB) (.int aA) (.int aC) (.int aG) (.int aD) (.int aH) (.int (IntKind.wrap .i64 ((cl v0 v1 2).toInt+aG))) (.int aN) (.int aO) (.int aT)) (
 cond ((sl a 1).toInt=1) (
 BH v0 (.int (IntKind.wrap .i64 (v1+1))) v2 v3 v4 v5 v6 v7 v8 v9 (.int aB) (.int aA) (.int aC) (.int aG) (.int aD) (.int aH) (.int aM) (.int (IntKind.wrap .i64 ((cl v0 v1 2).toInt+aG))) (.int aO) (.int aT)) (
 cond ((sl a 1).toInt=2) (
 BH v0 (.int (IntKind.wrap .i64 (v1+1))) v2 v3 v4 v5 v6 v7 v8 v9 (.int aB) (.int aA) (.int aC) (.int aG) (.int aD) (.int aH) (.int aM) (.int aN) (.int (IntKind.wrap .i64 ((cl v0 v1 2).toInt+aG))) (.int aT)) (
 cond ((sl a 1).toInt=3) (
 BH v0 (.int (IntKind.wrap .i64 (v1+1))) v2 v3 v4 v5 v6 v7 v8 v9 (.int aB) (.int aA) (.int aC) (.int aG) (.int aD) (.int aH) (.int aM) (.int aN) (.int aO) (.int (IntKind.wrap .i64 ((cl v0 v1 2).toInt+aG)))) (
 .row [])))))) (
 .row [])))) (
 cond ((sl (FJ v4 (cl v0 v1 1)) 1).toInt=3) (
 cond ((IntKind.wrap .i64 ((cl v0 v1 2).toInt+aD))<0) (
 .row [.int 1,(.int 0),(.int 0),(.int 0),(.int 0),(.int 0),(.int 3)]) (
 cond ((sl a 1).toInt<0) (
 .row []) (
 cond ((sl a 1).toInt<len v8) (
 cond ((cl v8 (sl a 1).toInt 1).toInt<(IntKind.wrap .i64 ((cl v0 v1 2).toInt+aD))) (
 .row [.int 1,(.int 0),(.int 0),(.int 0),(.int 0),(.int 0),(.int 3)]) (
 cond ((sl a 1).toInt=0) (
 BH v0 (.int (IntKind.wrap .i64 (v1+1))) v2 v3 v4 v5 v6 v7 v8 v9 (.int aB) (.int aA) (.int aC) (.int aG) (.int aD) (.int aH) (.int (IntKind.wrap .i64 ((cl v0 v1 2).toInt+aD))) (.int aN) (.int aO) (.int aT)) (
 cond ((sl a 1).toInt=1) (
 BH v0 (.int (IntKind.wrap .i64 (v1+1))) v2 v3 v4 v5 v6 v7 v8 v9 (.int aB) (.int aA) (.int aC) (.int aG) (.int aD) (.int aH) (.int aM) (.int (IntKind.wrap .i64 ((cl v0 v1 2).toInt+aD))) (.int aO) (.int aT)) (
 cond ((sl a 1).toInt=2) (
 BH v0 (.int (IntKind.wrap .i64 (v1+1))) v2 v3 v4 v5 v6 v7 v8 v9 (.int aB) (.int aA) (.int aC) (.int aG) (.int aD) (.int aH) (.int aM) (.int aN) (.int (IntKind.wrap .i64 ((cl v0 v1 2).toInt+aD))) (.int aT)) (
 cond ((sl a 1).toInt=3) (
 BH v0 (.int (IntKind.wrap .i64 (v1+1))) v2 v3 v4 v5 v6 v7 v8 v9 (.int aB) (.int aA) (.int aC) (.int aG) (.int aD) (.int aH) (.int aM) (.int aN) (.int aO) (.int (IntKind.wrap .i64 ((cl v0 v1 2).toInt+aD)))) (
 .row [])))))) (
 .row [])))) (
 .row [])))))) (
 .row [])) (
 .row []))) (
 .row [.int 1,(.int aH),(.int aM),(.int aN),(.int aO),(.int aT),(.int 0)]):=by
  subst h0;exact gw rfl rfl (cL (cL rfl (cQ (cQ (cL (cL rfl (cL rfl (cL (cL rfl (cQ rfl (cQ rfl (cQ rfl (cQ rfl rfl))))) rfl))) (cQ (cL rfl (cL rfl (cL (cL rfl (cQ rfl (cQ rfl (cQ rfl (cQ rfl rfl))))) rfl))) (cQ (cL rfl (cL rfl (cL (cL rfl (cQ rfl (cQ rfl (cQ rfl (cQ rfl rfl))))) rfl))) (cQ (cL rfl (cL rfl (cL (cL rfl (cQ rfl (cQ rfl (cQ rfl (cQ rfl rfl))))) rfl))) (cQ (cL rfl (cL rfl (cL (cL rfl (cQ rfl (cQ rfl (cQ rfl (cQ rfl rfl))))) rfl))) rfl))))) rfl) rfl)) rfl)
theorem gJ (v0 v1 v2 v3 v4:Int) (v5 v6 v7 v8:D):EO (.int v0) (.int v1) (.int v2) (.int v3) (.int v4) v5 v6 v7 v8 =
  cond (v0<0) (
 .row []) (
 cond (v0<len v6) (
 cond ((len v7:Int)=0) (
 .row [.int 1,(cl v6 v0 0),Aq]) (
 cond ((len v7:Int)=1) (
 .row [.int 1,(cl v6 v0 0),(ad Aq (.row [(.int v1)]))]) (
 cond ((len v7:Int)=2) (
 .row [.int 1,(cl v6 v0 0),(ad (ad Aq (.row [(.int v1)])) (.row [(.int v2)]))]) (
 cond ((len v7:Int)=3) (
 .row [.int 1,(cl v6 v0 0),(ad (ad (ad Aq (.row [(.int v1)])) (.row [(.int v2)])) (.row [(.int v3)]))]) (
 cond ((len v7:Int)=4) (
 .row [.int 1,(cl v6 v0 0),(ad (ad (ad (ad Aq (.row [(.int v1)])) (.row [(.int v2)])) (.row [(.int v3)])) (.row [(.int v4)]))]) (
 .row [])))))) (
 .row [])):=gw rfl rfl (cL rfl (cL (cQ rfl (cQ rfl (cQ rfl (cQ rfl (cQ rfl rfl))))) rfl))
theorem Vs (v0 v1 v2 v3 v4 v5 v6 v7 v8 v9 aB aA:D) {b a:D} (h0:C5 v0 v1 v2 v3 aB aA=b) (h1:Ox v0 v1 v2 v3 v4 v5 v6 v7 v8 v9 (sl b 1) (sl b 2) (sl b 3) (sl b 4) (sl b 5)=a):Ar v0 v1 v2 v3 v4 v5 v6 v7 v8 v9 aB aA =
  cond ((sl (Cq v0 v1 v2 v3 v4 v5 v6 v7 v8 v9) 0).toInt=1) (
 cond ((sl (Cq v0 v1 v2 v3 v4 v5 v6 v7 v8 v9) 2).toInt=0) (
 cond ((sl b 0).toInt=1) (
 cond ((sl b 6).toBool) (
 cond ((sl a 0).toInt=1) (
 cond ((sl a 6).toInt=0) (
 cond ((sl (EO (sl a 1) (sl a 2) (sl a 3) (sl a 4) (sl a 5) v4 v5 v6 v7) 0).toInt=1) (
 .row [.int 1,(sl (EO (sl a 1) (sl a 2) (sl a 3) (sl a 4) (sl a 5) v4 v5 v6 v7) 1),(sl (EO (sl a 1) (sl a 2) (sl a 3) (sl a 4) (sl a 5) v4 v5 v6 v7) 2),(.int 0)]) (
 .row [])) (
 .row [.int 1,(CX 0 0),Aw,(sl a 6)])) (
 .row [])) (
 .row [.int 1,(CX 0 0),Aw,(.int 492)])) (
 .row [])) (
 .row [.int 1,(CX 0 0),Aw,(sl (Cq v0 v1 v2 v3 v4 v5 v6 v7 v8 v9) 2)])) (
 .row []):=by
  subst h0;subst h1;exact gw rfl rfl (cQ (cQ (cQ (cg rfl (cQ (cQ (cQ rfl rfl) rfl) rfl) rfl) rfl) rfl) rfl)
theorem rA (v0:D) (v1:Bool) (v2:D):DZ v0 (.bool v1) v2 =
  cond ((len v2:Int)=(len v0:Int)) (
 Vd v2 (.int 0) v0 (.bool v1)) (
 .row [.int 1,(.int 2),v0]):=gw rfl rfl (cQ rfl rfl)
theorem gE (v0:D) (v1:Int) (v2:D) (v3:Bool):Vd v0 (.int v1) v2 (.bool v3) =
  cond (v1<len v0) (
 cond (v1<0) (
 .row []) (
 cond ((cl v0 v1 0).toInt<0) (
 .row [.int 1,(.int 3),v2]) (
 cond (v1<len v2) (
 cond ((cl v2 v1 1).toInt<(cl v0 v1 0).toInt) (
 .row [.int 1,(.int 3),v2]) (
 Vd v0 (.int (IntKind.wrap .i64 (v1+1))) v2 (.bool v3))) (
 .row [])))) (
 Rl v0 (.int (len v0:Int)) (.int 0) v2 (.bool v3)):=gw rfl rfl rfl
theorem iw (v0:D) (v1 v2:Int) (v3:D) (v4:Bool):Rl v0 (.int v1) (.int v2) v3 (.bool v4) =
  cond (v2<v1) (
 cond (v2<0) (
 .row []) (
 cond (v2<len v0) (
 cond (v2<len v3) (
 Rl v0 (.int v1) (.int (IntKind.wrap .i64 (v2+1))) (upd v3 v2 2 (cl v0 v2 0)) (.bool v4)) (
 .row [])) (
 .row []))) (
 .row [.int 1,(.int 0),v3]):=gw rfl rfl rfl
theorem tX (v0 v1 v2 v3 v4:Int) (v5 v6 v7 v8:D):MD (.int v0) (.int v1) (.int v2) (.int v3) (.int v4) v5 v6 v7 v8 =
  cond ((sl (AO v7) 0).toInt=1) (
 cond ((len v7:Int)=0) (
 cond ((sl (DZ (sl (AO v7) 1) (sl (AO v7) 2) Aq) 0).toInt=1) (
 .row [.int 1,(.int (len (sl (AO v7) 1):Int)),(sl (AO v7) 2),(sl (DZ (sl (AO v7) 1) (sl (AO v7) 2) Aq) 2)]) (
 .row [])) (
 cond ((len v7:Int)=1) (
 cond ((sl (DZ (sl (AO v7) 1) (sl (AO v7) 2) (ad Aq (.row [(.int v1)]))) 0).toInt=1) (
 .row [.int 1,(.int (len (sl (AO v7) 1):Int)),(sl (AO v7) 2),(sl (DZ (sl (AO v7) 1) (sl (AO v7) 2) (ad Aq (.row [(.int v1)]))) 2)]) (
 .row [])) (
 cond ((len v7:Int)=2) (
 cond ((sl (DZ (sl (AO v7) 1) (sl (AO v7) 2) (ad (ad Aq (.row [(.int v1)])) (.row [(.int v2)]))) 0).toInt=1) (
 .row [.int 1,(.int (len (sl (AO v7) 1):Int)),(sl (AO v7) 2),(sl (DZ (sl (AO v7) 1) (sl (AO v7) 2) (ad (ad Aq (.row [(.int v1)])) (.row [(.int v2)]))) 2)]) (
 .row [])) (
 cond ((len v7:Int)=3) (
 cond ((sl (DZ (sl (AO v7) 1) (sl (AO v7) 2) (ad (ad (ad Aq (.row [(.int v1)])) (.row [(.int v2)])) (.row [(.int v3)]))) 0).toInt=1) (
 .row [.int 1,(.int (len (sl (AO v7) 1):Int)),(sl (AO v7) 2),(sl (DZ (sl (AO v7) 1) (sl (AO v7) 2) (ad (ad (ad Aq (.row [(.int v1)])) (.row [(.int v2)])) (.row [(.int v3)]))) 2)]) (
 .row [])) (
 cond ((len v7:Int)=4) (
 cond ((sl (DZ (sl (AO v7) 1) (sl (AO v7) 2) (ad (ad (ad (ad Aq (.row [(.int v1)])) (.row [(.int v2)])) (.row [(.int v3)])) (.row [(.int v4)]))) 0).toInt=1) (
 .row [.int 1,(.int (len (sl (AO v7) 1):Int)),(sl (AO v7) 2),(sl (DZ (sl (AO v7) 1) (sl (AO v7) 2) (ad (ad (ad (ad Aq (.row [(.int v1)])) (.row [(.int v2)])) (.row [(.int v3)])) (.row [(.int v4)]))) 2)]) (
 .row [])) (
 .row [])))))) (
 .row []):=gw rfl rfl (cQ (cQ (cQ rfl rfl) (cQ (cQ rfl rfl) (cQ (cQ rfl rfl) (cQ (cQ rfl rfl) (cQ (cQ rfl rfl) rfl))))) rfl)
theorem ym (v0 v1 v2 v3 v4:Int) (v5 v6 v7 v8:D):GW (.int v0) (.int v1) (.int v2) (.int v3) (.int v4) v5 v6 v7 v8 =
  cond ((sl (MD (.int v0) (.int v1) (.int v2) (.int v3) (.int v4) v5 v6 v7 v8) 0).toInt=1) (
 G6 Aw (.bool true) v8 (.int 0) (.int v0) (.int v1) (.int v2) (.int v3) (.int v4) v5 v6 v7 (sl (MD (.int v0) (.int v1) (.int v2) (.int v3) (.int v4) v5 v6 v7 v8) 1) (sl (MD (.int v0) (.int v1) (.int v2) (.int v3) (.int v4) v5 v6 v7 v8) 2) (sl (MD (.int v0) (.int v1) (.int v2) (.int v3) (.int v4) v5 v6 v7 v8) 3)) (
 .row []):=gw rfl rfl (cQ rfl rfl)
theorem gL (v0:D) (v1:Bool) (v2:D) (v3 v4 v5 v6 v7 v8:Int) (v9 aB aA aC:D) (aG:Bool) (aD:D):G6 v0 (.bool v1) v2 (.int v3) (.int v4) (.int v5) (.int v6) (.int v7) (.int v8) v9 aB aA aC (.bool aG) aD =
  cond (v3<len v2) (
 cond (v3<0) (
 .row []) (
 cond (len aD=aC.toInt) (
 cond ((sl (GR aD (.bool aG) (cl v2 v3 0) (cl v2 v3 1) (cl v2 v3 2) (cl v2 v3 3) (cl v2 v3 4) (cl v2 v3 5) (cl v2 v3 6) (cl v2 v3 7) (cl v2 v3 8)) 0).toInt=1) (
 cond ((sl (GR aD (.bool aG) (cl v2 v3 0) (cl v2 v3 1) (cl v2 v3 2) (cl v2 v3 3) (cl v2 v3 4) (cl v2 v3 5) (cl v2 v3 6) (cl v2 v3 7) (cl v2 v3 8)) 1).toBool) (
 cond (v4<0) (
 .row []) (
 cond (v4<len aB) (
 cond (D.strEq (cl v2 v3 0) (cl aB v4 0)) (
 cond ((len v0:Int)<1073741824) (
 G6 (ad v0 (.row [(.int v3)])) (.bool false) v2 (.int (IntKind.wrap .i64 (v3+1))) (.int v4) (.int v5) (.int v6) (.int v7) (.int v8) v9 aB aA (.int (len aD:Int)) (.bool aG) aD) (
 .row [])) (
 G6 v0 (.bool v1) v2 (.int (IntKind.wrap .i64 (v3+1))) (.int v4) (.int v5) (.int v6) (.int v7) (.int v8) v9 aB aA (.int (len aD:Int)) (.bool aG) aD)) (
 .row []))) (
 G6 v0 (.bool v1) v2 (.int (IntKind.wrap .i64 (v3+1))) (.int v4) (.int v5) (.int v6) (.int v7) (.int v8) v9 aB aA (.int (len aD:Int)) (.bool aG) aD)) (
 .row [])) (
 .row []))) (
 .row [.int 1,v0,(.bool v1)]):=gw rfl rfl (cL (cL rfl (cQ (cQ (cg rfl (cL rfl (cL (cg rfl (cL rfl rfl) rfl) rfl)) rfl) rfl) rfl)) rfl)
theorem qW (v0 v1 v2 v3 v4 v5:D):Id v0 v1 v2 v3 v4 v5 =
  cond ((sl (Ej v0 v1 v2 v3) 0).toInt=1) (
 cond ((sl (Ej v0 v1 v2 v3) 2).toInt=0) (
 cond ((sl (C5 v0 v1 v2 v3 v4 v5) 0).toInt=1) (
 cond ((sl (C5 v0 v1 v2 v3 v4 v5) 6).toBool) (
 cond ((sl (GW (sl (C5 v0 v1 v2 v3 v4 v5) 1) (sl (C5 v0 v1 v2 v3 v4 v5) 2) (sl (C5 v0 v1 v2 v3 v4 v5) 3) (sl (C5 v0 v1 v2 v3 v4 v5) 4) (sl (C5 v0 v1 v2 v3 v4 v5) 5) v0 v1 v2 v3) 0).toInt=1) (
 .row [.int 1,(sl (GW (sl (C5 v0 v1 v2 v3 v4 v5) 1) (sl (C5 v0 v1 v2 v3 v4 v5) 2) (sl (C5 v0 v1 v2 v3 v4 v5) 3) (sl (C5 v0 v1 v2 v3 v4 v5) 4) (sl (C5 v0 v1 v2 v3 v4 v5) 5) v0 v1 v2 v3) 1),(sl (GW (sl (C5 v0 v1 v2 v3 v4 v5) 1) (sl (C5 v0 v1 v2 v3 v4 v5) 2) (sl (C5 v0 v1 v2 v3 v4 v5) 3) (sl (C5 v0 v1 v2 v3 v4 v5) 4) (sl (C5 v0 v1 v2 v3 v4 v5) 5) v0 v1 v2 v3) 2),(.int 0)]) (
 .row [])) (
 .row [.int 1,Aw,(.bool true),(.int 492)])) (
 .row [])) (
 .row [.int 1,Aw,(.bool true),(.int 2)])) (
 .row []):=gw rfl rfl (cQ (cQ (cQ (cg rfl (cQ rfl rfl) rfl) rfl) rfl) rfl)
theorem wV (v0:D) (v1:Bool) (v2:Int):U1 v0 (.bool v1) (.int v2) =
 Va v0 (.bool v1) (.int v2) (.int 0):=gw rfl rfl rfl
theorem uf (v0:D) (v1:Bool) (v2 v3:Int):Va v0 (.bool v1) (.int v2) (.int v3) =
  cond (v3<len v0) (
 cond (v3<0) (
 .row []) (
 cond (v2=(cl v0 v3 0).toInt) (
 .row [.int 1,(.int v3)]) (
 Va v0 (.bool v1) (.int v2) (.int (IntKind.wrap .i64 (v3+1)))))) (
 .row [.int 1,(.int (-1))]):=gw rfl rfl (cL (cL rfl (cQ rfl rfl)) rfl)
theorem qI (v0 v1 v2 v3 v4:Int) (v5 v6 v7 v8:D) (v9:Int) {b c a:D} (h0:MD (.int v0) (.int v1) (.int v2) (.int v3) (.int v4) v5 v6 v7 v8=b) (h1:QY (sl b 3) (sl b 2) (cl v8 v9 0) (cl v8 v9 1) (cl v8 v9 2) (cl v8 v9 3) (cl v8 v9 4) (cl v8 v9 5) (cl v8 v9 6) (cl v8 v9 7) (cl v8 v9 8)=c) (h2:Pu (sl c 2) (sl b 2)=a):Hy (.int v0) (.int v1) (.int v2) (.int v3) (.int v4) v5 v6 v7 v8 (.int v9) =
  cond ((sl b 0).toInt=1) (
 cond (v9<0) (
 .row []) (
 cond (v9<len v8) (
 cond (len (sl b 3)=(sl b 1).toInt) (
 cond ((sl c 0).toInt=1) (
 cond ((sl (DK v6 (cl v8 v9 1)) 0).toInt=1) (
 cond ((len (sl c 2):Int)=(len (sl b 3):Int)) (
 cond ((sl a 0).toInt=1) (
 cond ((len (sl a 1):Int)<4) (
 cond ((len (sl a 1):Int)=0) (
 .row [.int 1,(sl (DK v6 (cl v8 v9 1)) 1),(.int 0),(.int 0),(.int 0),(.int 0)]) (
 cond ((len (sl a 1):Int)=1) (
 .row [.int 1,(sl (DK v6 (cl v8 v9 1)) 1),(cl (sl a 1) 0 0),(.int 0),(.int 0),(.int 0)]) (
 cond ((len (sl a 1):Int)=2) (
 .row [.int 1,(sl (DK v6 (cl v8 v9 1)) 1),(cl (sl a 1) 0 0),(cl (sl a 1) 1 0),(.int 0),(.int 0)]) (
 cond ((len (sl a 1):Int)=3) (
 .row [.int 1,(sl (DK v6 (cl v8 v9 1)) 1),(cl (sl a 1) 0 0),(cl (sl a 1) 1 0),(cl (sl a 1) 2 0),(.int 0)]) (
 .row []))))) (
 .row [.int 1,(sl (DK v6 (cl v8 v9 1)) 1),(cl (sl a 1) 0 0),(cl (sl a 1) 1 0),(cl (sl a 1) 2 0),(cl (sl a 1) 3 0)])) (
 .row [])) (
 .row [])) (
 .row [])) (
 .row [])) (
 .row [])) (
 .row []))) (
 .row []):=by
  subst h0;subst h1;subst h2;exact gw rfl rfl (cQ (cL rfl (cL (cQ (cQ (cQ (cQ (cQ (cL (cQ rfl (cQ rfl (cQ rfl (cQ rfl rfl)))) rfl) rfl) rfl) rfl) rfl) rfl) rfl)) rfl)
theorem pk (v0 v1 v2 v3 v4 v5:D) (v6:Int) {b a:D} (h0:C5 v0 v1 v2 v3 v4 v5=b) (h1:Hy (sl b 1) (sl b 2) (sl b 3) (sl b 4) (sl b 5) v0 v1 v2 v3 (.int v6)=a):L6 v0 v1 v2 v3 v4 v5 (.int v6) =
  cond ((sl (Id v0 v1 v2 v3 v4 v5) 0).toInt=1) (
 cond ((sl (Id v0 v1 v2 v3 v4 v5) 3).toInt=0) (
 cond ((sl (U1 (sl (Id v0 v1 v2 v3 v4 v5) 1) (sl (Id v0 v1 v2 v3 v4 v5) 2) (.int v6)) 0).toInt=1) (
 cond ((sl (U1 (sl (Id v0 v1 v2 v3 v4 v5) 1) (sl (Id v0 v1 v2 v3 v4 v5) 2) (.int v6)) 1).toInt<0) (
 .row [.int 1,(CX 0 0),Aw,(.int 8)]) (
 cond ((sl b 0).toInt=1) (
 cond ((sl a 0).toInt=1) (
 cond ((sl (EO (sl a 1) (sl a 2) (sl a 3) (sl a 4) (sl a 5) v0 v1 v2 v3) 0).toInt=1) (
 .row [.int 1,(sl (EO (sl a 1) (sl a 2) (sl a 3) (sl a 4) (sl a 5) v0 v1 v2 v3) 1),(sl (EO (sl a 1) (sl a 2) (sl a 3) (sl a 4) (sl a 5) v0 v1 v2 v3) 2),(.int 0)]) (
 .row [])) (
 .row [])) (
 .row []))) (
 .row [])) (
 .row [.int 1,(CX 0 0),Aw,(sl (Id v0 v1 v2 v3 v4 v5) 3)])) (
 .row []):=by
  subst h0;subst h1;exact gw rfl rfl (cQ (cQ (cQ (cL rfl (cQ (cQ (cQ rfl rfl) rfl) rfl)) rfl) rfl) rfl)
theorem wu (v0 v1:D):VZ v0 v1 =
  cond ((len v0:Int)=(len v1:Int)) (
 OR v0 v1 (.int 0)) (
 .row [.int 1,(.bool false)]):=gw rfl rfl (cQ rfl rfl)
theorem gd (v0 v1:D) (v2:Int):OR v0 v1 (.int v2) =
  cond (v2<len v0) (
 cond (v2<0) (
 .row []) (
 cond (v2<len v1) (
 cond ((cl v0 v2 0).toInt=(cl v1 v2 0).toInt) (
 OR v0 v1 (.int (IntKind.wrap .i64 (v2+1)))) (
 .row [.int 1,(.bool false)])) (
 .row []))) (
 .row [.int 1,(.bool true)]):=gw rfl rfl (cL (cL rfl (cL (cQ rfl rfl) rfl)) rfl)
theorem wg (v0:D) (v1:Bool) (v2 v3:D):Zm v0 (.bool v1) v2 v3 =
 JF v0 (.bool v1) (.int 0) v2 v3:=gw rfl rfl rfl
theorem gV (v0:D) (v1:Bool) (v2:Int) (v3 v4:D):JF v0 (.bool v1) (.int v2) v3 v4 =
  cond (v2<len v0) (
 cond (v2<0) (
 .row []) (
 cond (D.strEq (cl v0 v2 0) v3) (
 cond ((sl (VZ (cl v0 v2 1) v4) 0).toInt=1) (
 cond ((sl (VZ (cl v0 v2 1) v4) 1).toBool) (
 .row [.int 1,(.int v2)]) (
 JF v0 (.bool v1) (.int (IntKind.wrap .i64 (v2+1))) v3 v4)) (
 .row [])) (
 JF v0 (.bool v1) (.int (IntKind.wrap .i64 (v2+1))) v3 v4))) (
 .row [.int 1,(.int (-1))]):=gw rfl rfl (cL (cL rfl (cg rfl (cQ rfl rfl) rfl)) rfl)
theorem ui (v0:D) (v1:Bool) (v2 v3:D):Ws v0 (.bool v1) v2 v3 =
  cond ((sl (Zm v0 (.bool v1) v2 v3) 0).toInt=1) (
 .row [.int 1,(.bool (!decide ((sl (Zm v0 (.bool v1) v2 v3) 1).toInt<0)))]) (
 .row []):=gw rfl rfl (cQ rfl rfl)
theorem oR (v0:D) (v1:Bool) (v2 v3:D) (v4:Bool) (v5:D) (v6:Bool) (v7:D) (v8:Bool) (v9:D) (aB:Bool) (aA aC:Int) (aG aD aH:D) (aM aN:Bool) (aO:D) (aT:Bool) (aK aU aV aW aY aZ:D) {b a c:D} (h0:Lh v0 (.bool v1) v2 v3 (.bool v4) v5 (.bool v6) v7 (.bool v8) v9 (.bool aB) (.int aA) (.int aC) aG aD aH (.bool aM) (.bool aN) aO (.bool aT)=b) (h1:SD v0 (.bool v1) v2 (sl b 1) (.bool v4) (.int (len v3:Int)) (sl b 2) (.bool v6) (.int (len v5:Int)) (sl b 3) (.bool v8) (.int (len v7:Int)) v9 (.bool aB) (.int aA) (.int aC) aG aD aH (.bool aM) (.bool aN) aO (.bool aT)=a) (h2:JB v0 (.bool v1) v2 (sl b 1) (.bool v4) (.int (len v3:Int)) (sl b 2) (.bool v6) (.int (len v5:Int)) (sl b 3) (.bool v8) (.int (len v7:Int)) v9 (.bool aB) (.int aA) (.int aC) aG aD aH (.bool aM) (.bool aN) aO (.bool aT)=c):bJ v0 (.bool v1) v2 v3 (.bool v4) v5 (.bool v6) v7 (.bool v8) v9 (.bool aB) (.int aA) (.int aC) aG aD aH (.bool aM) (.bool aN) aO (.bool aT) aK aU aV aW aY aZ =
  cond ((sl b 0).toInt=1) (
 cond ((sl a 0).toInt=1) (
 cond ((sl (Cq (sl a 1) (sl a 2) (sl a 3) (sl a 4) aK aU aV aW aY aZ) 0).toInt=1) (
 cond ((sl (Cq (sl a 1) (sl a 2) (sl a 3) (sl a 4) aK aU aV aW aY aZ) 2).toInt=0) (
 cond ((sl c 0).toInt=1) (
 Ie (ad Aq (.row [(sl c 1),(sl c 2),Aw])) (.bool false) (.int (-1)) (.int 0) v2 (.int (len v3:Int)) (.bool v4) (.int (len v5:Int)) (.bool v6) (.int (len v7:Int)) (.bool v8) v9 (.bool aB) (.int aA) (.bool aN) aO (.bool aT) v0 (.bool v1) (sl b 1) (sl b 2) (sl b 3) (.int aC) aD aH (.bool aM) aG aK aU aV aW aY aZ (sl a 1) (sl a 2) (sl a 3) (sl a 4)) (
 .row [])) (
 .row [.int 1,(sl (Cq (sl a 1) (sl a 2) (sl a 3) (sl a 4) aK aU aV aW aY aZ) 2),(sl b 1),(sl b 2),(sl b 3)])) (
 .row [])) (
 .row [])) (
 .row []):=by
  subst h0;subst h1;subst h2;exact gw rfl rfl (cQ (cQ (cQ (cQ (cQ rfl rfl) rfl) rfl) rfl) rfl)
theorem iu (v0:D) (v1:Bool) (v2 v3:Int) (v4 v5:D) (v6:Bool) (v7:D) (v8:Bool) (v9:D) (aB:Bool) (aA:D) (aC:Bool) (aG:Int) (aD:Bool) (aH:D) (aM:Bool) (aN:D) (aO:Bool) (aT aK aU:D) (aV:Int) (aW aY:D) (aZ:Bool) (a_ bb be bd bg bh bm bo bp bq bs:D) {a:D} (h0:Id bo bp bq bs (cl v0 v3 0) (cl v0 v3 1)=a):Ie v0 (.bool v1) (.int v2) (.int v3) v4 v5 (.bool v6) v7 (.bool v8) v9 (.bool aB) aA (.bool aC) (.int aG) (.bool aD) aH (.bool aM) aN (.bool aO) aT aK aU (.int aV) aW aY (.bool aZ) a_ bb be bd bg bh bm bo bp bq bs =
  cond (v3<len v0) (
 cond (v3<0) (
 .row []) (
 cond ((sl (Ar bo bp bq bs bb be bd bg bh bm (cl v0 v3 0) (cl v0 v3 1)) 0).toInt=1) (
 cond ((sl (Ar bo bp bq bs bb be bd bg bh bm (cl v0 v3 0) (cl v0 v3 1)) 3).toInt=0) (
 cond (v2<0) (
 cond ((sl a 0).toInt=1) (
 G9 v0 (.bool v1) (.int v3) (.int v3) (sl a 1) (sl a 2) (.int (len (sl a 1):Int)) (.int 0) v4 v5 (.bool v6) v7 (.bool v8) v9 (.bool aB) aA (.bool aC) (.int aG) (.bool aD) aH (.bool aM) aN (.bool aO) aT aK aU (.int aV) aW aY (.bool aZ) a_ bb be bd bg bh bm bo bp bq bs) (
 .row [])) (
 cond ((sl a 0).toInt=1) (
 G9 v0 (.bool v1) (.int v2) (.int v3) (sl a 1) (sl a 2) (.int (len (sl a 1):Int)) (.int 0) v4 v5 (.bool v6) v7 (.bool v8) v9 (.bool aB) aA (.bool aC) (.int aG) (.bool aD) aH (.bool aM) aN (.bool aO) aT aK aU (.int aV) aW aY (.bool aZ) a_ bb be bd bg bh bm bo bp bq bs) (
 .row []))) (
 cond ((sl a 0).toInt=1) (
 G9 v0 (.bool v1) (.int v2) (.int v3) (sl a 1) (sl a 2) (.int (len (sl a 1):Int)) (.int 0) v4 v5 (.bool v6) v7 (.bool v8) v9 (.bool aB) aA (.bool aC) (.int aG) (.bool aD) aH (.bool aM) aN (.bool aO) aT aK aU (.int aV) aW aY (.bool aZ) a_ bb be bd bg bh bm bo bp bq bs) (
 .row []))) (
 .row []))) (
 cond (2000<(len v0:Int)) (
 .row [.int 1,(.int 7),aT,aK,aU]) (
 cond (v2<0) (
 .row [.int 1,(.int 9),aT,aK,aU]) (
 cond (v2<len v0) (
 .row [.int 2,(cl v0 v2 2),aT,aK,aU]) (
 .row [])))):=by
  subst h0;exact gw rfl rfl (cL (cL rfl (cQ (cQ (cL (cQ rfl rfl) (cQ rfl rfl)) (cQ rfl rfl)) rfl)) (cL rfl rfl))
theorem ga (v0:D) (v1:Bool) (v2 v3:Int) (v4:D) (v5:Bool) (v6 v7:Int) (v8 v9:D) (aB:Bool) (aA:D) (aC:Bool) (aG:D) (aD:Bool) (aH:D) (aM:Bool) (aN:Int) (aO:Bool) (aT:D) (aK:Bool) (aU:D) (aV:Bool) (aW aY aZ:D) (a_:Int) (bb be:D) (bd:Bool) (bg bh bm bo bp bq bs bA bB bC bD:D) {a:D} (h0:L6 bA bB bC bD (cl v0 v3 0) (cl v0 v3 1) (cl v4 v7 0)=a):G9 v0 (.bool v1) (.int v2) (.int v3) v4 (.bool v5) (.int v6) (.int v7) v8 v9 (.bool aB) aA (.bool aC) aG (.bool aD) aH (.bool aM) (.int aN) (.bool aO) aT (.bool aK) aU (.bool aV) aW aY aZ (.int a_) bb be (.bool bd) bg bh bm bo bp bq bs bA bB bC bD =
  cond (v7<v6) (
 cond (v7<0) (
 .row []) (
 cond (v7<len v4) (
 cond (v3<0) (
 .row []) (
 cond (v3<len v0) (
 cond ((sl a 0).toInt=1) (
 cond ((sl (Ws v0 (.bool v1) (sl a 1) (sl a 2)) 0).toInt=1) (
 cond ((sl (Ws v0 (.bool v1) (sl a 1) (sl a 2)) 1).toBool) (
 cond (2000<(len v0:Int)) (
 .row [.int 1,(.int 7),aW,aY,aZ]) (
 G9 v0 (.bool v1) (.int v2) (.int v3) v4 (.bool v5) (.int v6) (.int (IntKind.wrap .i64 (v7+1))) v8 v9 (.bool aB) aA (.bool aC) aG (.bool aD) aH (.bool aM) (.int aN) (.bool aO) aT (.bool aK) aU (.bool aV) aW aY aZ (.int a_) bb be (.bool bd) bg bh bm bo bp bq bs bA bB bC bD)) (
 cond ((cl v0 v3 2).isNil) (
 cond ((len v0:Int)<1073741824) (
 cond (2000<(len (ad v0 (.row [(sl a 1),(sl a 2),(ad Aq (.row [(cl v4 v7 0)]))])):Int)) (
 .row [.int 1,(.int 7),aW,aY,aZ]) (
 G9 (ad v0 (.row [(sl a 1),(sl a 2),(ad Aq (.row [(cl v4 v7 0)]))])) (.bool false) (.int v2) (.int v3) v4 (.bool v5) (.int v6) (.int (IntKind.wrap .i64 (v7+1))) v8 v9 (.bool aB) aA (.bool aC) aG (.bool aD) aH (.bool aM) (.int aN) (.bool aO) aT (.bool aK) aU (.bool aV) aW aY aZ (.int a_) bb be (.bool bd) bg bh bm bo bp bq bs bA bB bC bD)) (
 .row [])) (
 cond ((len (cl v0 v3 2):Int)<1048576) (
 cond ((len (ct Aq (cl v0 v3 2)):Int)<1073741824) (
 cond ((len v0:Int)<1073741824) (
 cond (2000<(len (ad v0 (.row [(sl a 1),(sl a 2),(ni (ad (ct Aq (cl v0 v3 2)) (.row [(cl v4 v7 0)])) (((false&&decide ((len (cl v0 v3 2):Int)=0))&&decide (1=0))))])):Int)) (
 .row [.int 1,(.int 7),aW,aY,aZ]) (
 G9 (ad v0 (.row [(sl a 1),(sl a 2),(ni (ad (ct Aq (cl v0 v3 2)) (.row [(cl v4 v7 0)])) false)])) (.bool false) (.int v2) (.int v3) v4 (.bool v5) (.int v6) (.int (IntKind.wrap .i64 (v7+1))) v8 v9 (.bool aB) aA (.bool aC) aG (.bool aD) aH (.bool aM) (.int aN) (.bool aO) aT (.bool aK) aU (.bool aV) aW aY aZ (.int a_) bb be (.bool bd) bg bh bm bo bp bq bs bA bB bC bD)) (
 .row [])) (
 .row [])) (
 .row [])))) (
 .row [])) (
 .row [])) (
 .row []))) (
 .row []))) (
 Ie v0 (.bool v1) (.int v2) (.int (IntKind.wrap .i64 (v3+1))) v8 v9 (.bool aB) aA (.bool aC) aG (.bool aD) aH (.bool aM) (.int aN) (.bool aO) aT (.bool aK) aU (.bool aV) aW aY aZ (.int a_) bb be (.bool bd) bg bh bm bo bp bq bs bA bB bC bD):=by
  subst h0;exact gw rfl rfl (cL (cL rfl (cL (cL rfl (cL (cQ (cQ (cg rfl (cL rfl rfl) (cg rfl (cL (cL rfl rfl) rfl) (cL (cL (cL (cL rfl rfl) rfl) rfl) rfl))) rfl) rfl) rfl)) rfl)) rfl)
theorem Sx (v0:D) (v1:Bool) (v2 v3:D) (v4:Bool) (v5 v6:D) (v7:Bool) (v8 v9:D) (aB:Bool) (aA aC:D) (aG:Bool) (aD aH:Int) (aM aN aO:D) (aT aK:Bool) (aU:D) (aV:Bool):RE v0 (.bool v1) v2 v3 (.bool v4) v5 v6 (.bool v7) v8 v9 (.bool aB) aA aC (.bool aG) (.int aD) (.int aH) aM aN aO (.bool aT) (.bool aK) aU (.bool aV) =
 .row [.int 1,(.int aH)]:=gw rfl rfl rfl
theorem ve (v0:D) (v1:Bool) (v2:D) (v3 v4 v5 v6 v7:Int):E6 v0 (.bool v1) v2 (.int v3) (.int v4) (.int v5) (.int v6) (.int v7) =
  cond ((mIx [.int .i64,.int .i64,.int .i64,.int .i64,.int .i64] v2 (.row [(.int v3),(.int v4),(.int v5),(.int v6),(.int v7)]))<0) (
 cond ((len v0:Int)<1073741824) (
 .row [.int 1,(ad v0 (.row [(.int v3),(.int v4),(.int v5),(.int v6),(.int v7)])),(.bool false),(ad v2 (.row [(.int v3),(.int v4),(.int v5),(.int v6),(.int v7),(.bool true)]))]) (
 .row [])) (
 cond ((cl v2 (mIx [.int .i64,.int .i64,.int .i64,.int .i64,.int .i64] v2 (.row [(.int v3),(.int v4),(.int v5),(.int v6),(.int v7)])) 5).toBool) (
 .row [.int 1,v0,(.bool v1),v2]) (
 cond ((len v0:Int)<1073741824) (
 .row [.int 1,(ad v0 (.row [(.int v3),(.int v4),(.int v5),(.int v6),(.int v7)])),(.bool false),(upd v2 (mIx [.int .i64,.int .i64,.int .i64,.int .i64,.int .i64] v2 (.row [(.int v3),(.int v4),(.int v5),(.int v6),(.int v7)])) 5 (.bool true))]) (
 .row []))):=gw rfl rfl (cL (cL rfl rfl) (cg rfl rfl (cL rfl rfl)))
theorem pZ (v0 v1 v2 v3 v4:Int) (v5:D) (v6:Bool) (v7 v8 v9 aB aA:D):Ig (.int v0) (.int v1) (.int v2) (.int v3) (.int v4) v5 (.bool v6) v7 v8 v9 aB aA =
  cond ((sl (GW (.int v0) (.int v1) (.int v2) (.int v3) (.int v4) v8 v9 aB aA) 0).toInt=1) (
 KX (sl (GW (.int v0) (.int v1) (.int v2) (.int v3) (.int v4) v8 v9 aB aA) 1) (sl (GW (.int v0) (.int v1) (.int v2) (.int v3) (.int v4) v8 v9 aB aA) 2) (.int (len (sl (GW (.int v0) (.int v1) (.int v2) (.int v3) (.int v4) v8 v9 aB aA) 1):Int)) (.int 0) v5 (.bool v6) v7 v8 v9 aB aA (.int v0) (.int v1) (.int v2) (.int v3) (.int v4)) (
 .row []):=gw rfl rfl (cQ rfl rfl)
theorem hJ (v0:D) (v1:Bool) (v2 v3:Int) (v4:D) (v5:Bool) (v6 v7 v8 v9 aB:D) (aA aC aG aD aH:Int) {a:D} (h0:Hy (.int aA) (.int aC) (.int aG) (.int aD) (.int aH) v7 v8 v9 aB (cl v0 v3 0)=a):KX v0 (.bool v1) (.int v2) (.int v3) v4 (.bool v5) v6 v7 v8 v9 aB (.int aA) (.int aC) (.int aG) (.int aD) (.int aH) =
  cond (v3<v2) (
 cond (v3<0) (
 .row []) (
 cond (v3<len v0) (
 cond ((sl a 0).toInt=1) (
 cond ((sl (E6 v4 (.bool v5) v6 (sl a 1) (sl a 2) (sl a 3) (sl a 4) (sl a 5)) 0).toInt=1) (
 KX v0 (.bool v1) (.int v2) (.int (IntKind.wrap .i64 (v3+1))) (sl (E6 v4 (.bool v5) v6 (sl a 1) (sl a 2) (sl a 3) (sl a 4) (sl a 5)) 1) (sl (E6 v4 (.bool v5) v6 (sl a 1) (sl a 2) (sl a 3) (sl a 4) (sl a 5)) 2) (sl (E6 v4 (.bool v5) v6 (sl a 1) (sl a 2) (sl a 3) (sl a 4) (sl a 5)) 3) v7 v8 v9 aB (.int aA) (.int aC) (.int aG) (.int aD) (.int aH)) (
 .row [])) (
 .row [])) (
 .row []))) (
 .row [.int 1,v4,(.bool v5),v6]):=by
  subst h0;exact gw rfl rfl (cL (cL rfl (cL (cQ (cQ rfl rfl) rfl) rfl)) rfl)
theorem qe (v0:D) (v1:Bool) (v2:Int) (v3 v4 v5 v6:D):Yq v0 (.bool v1) (.int v2) v3 v4 v5 v6 =
 V9 (.int v2) v0 (.bool v1) (.int 0) v3 v4 v5 v6 Aw (.bool true) Aq:=gw rfl rfl rfl
theorem ix (v0:Int) (v1:D) (v2:Bool) (v3:Int) (v4 v5 v6 v7 v8:D) (v9:Bool) (aB:D):V9 (.int v0) v1 (.bool v2) (.int v3) v4 v5 v6 v7 v8 (.bool v9) aB =
  cond (v3<len v1) (
 cond (v3<0) (
 .row []) (
 cond ((sl (E6 v8 (.bool v9) aB (cl v1 v3 0) (cl v1 v3 1) (cl v1 v3 2) (cl v1 v3 3) (cl v1 v3 4)) 0).toInt=1) (
 V9 (.int v0) v1 (.bool v2) (.int (IntKind.wrap .i64 (v3+1))) v4 v5 v6 v7 (sl (E6 v8 (.bool v9) aB (cl v1 v3 0) (cl v1 v3 1) (cl v1 v3 2) (cl v1 v3 3) (cl v1 v3 4)) 1) (sl (E6 v8 (.bool v9) aB (cl v1 v3 0) (cl v1 v3 1) (cl v1 v3 2) (cl v1 v3 3) (cl v1 v3 4)) 2) (sl (E6 v8 (.bool v9) aB (cl v1 v3 0) (cl v1 v3 1) (cl v1 v3 2) (cl v1 v3 3) (cl v1 v3 4)) 3)) (
 .row []))) (
 RX (.int v0) (.int 0) v1 v4 v5 v6 v7 v8 (.bool v9) aB):=gw rfl rfl (cL (cL rfl (cQ rfl rfl)) rfl)
theorem gY (v0 v1:Int) (v2 v3 v4 v5 v6 v7:D) (v8:Bool) (v9:D):RX (.int v0) (.int v1) v2 v3 v4 v5 v6 v7 (.bool v8) v9 =
  cond (v1<len v7) (
 cond (v1<v0) (
 cond (v1<0) (
 .row []) (
 cond ((sl (Ig (cl v7 v1 0) (cl v7 v1 1) (cl v7 v1 2) (cl v7 v1 3) (cl v7 v1 4) v7 (.bool v8) v9 v3 v4 v5 v6) 0).toInt=1) (
 RX (.int v0) (.int (IntKind.wrap .i64 (v1+1))) v2 v3 v4 v5 v6 (sl (Ig (cl v7 v1 0) (cl v7 v1 1) (cl v7 v1 2) (cl v7 v1 3) (cl v7 v1 4) v7 (.bool v8) v9 v3 v4 v5 v6) 1) (sl (Ig (cl v7 v1 0) (cl v7 v1 1) (cl v7 v1 2) (cl v7 v1 3) (cl v7 v1 4) v7 (.bool v8) v9 v3 v4 v5 v6) 2) (sl (Ig (cl v7 v1 0) (cl v7 v1 1) (cl v7 v1 2) (cl v7 v1 3) (cl v7 v1 4) v7 (.bool v8) v9 v3 v4 v5 v6) 3)) (
 .row []))) (
 .row [.int 1,v7,(.bool v8),(.bool (decide (v0<(len v7:Int))))])) (
 .row [.int 1,v7,(.bool v8),(.bool (decide (v0<(len v7:Int))))]):=gw rfl rfl (cL (cL (cL rfl (cQ rfl rfl)) rfl) rfl)
theorem yw (v0:D) (v1:Bool) (v2:D) (v3 v4 v5 v6 v7 v8 v9 aB aA aC:Int):Jd v0 (.bool v1) v2 (.int v3) (.int v4) (.int v5) (.int v6) (.int v7) (.int v8) (.int v9) (.int aB) (.int aA) (.int aC) =
  cond ((mIx [.int .i64,.int .i64,.int .i64,.int .i64,.int .i64,.int .i64,.int .i64,.int .i64,.int .i64,.int .i64] v2 (.row [(.int v3),(.int v4),(.int v5),(.int v6),(.int v7),(.int v8),(.int v9),(.int aB),(.int aA),(.int aC)]))<0) (
 cond ((len v0:Int)<1073741824) (
 .row [.int 1,(ad v0 (.row [(.int v3),(.int v4),(.int v5),(.int v6),(.int v7),(.int v8),(.int v9),(.int aB),(.int aA),(.int aC)])),(.bool false),(ad v2 (.row [(.int v3),(.int v4),(.int v5),(.int v6),(.int v7),(.int v8),(.int v9),(.int aB),(.int aA),(.int aC),(.bool true)]))]) (
 .row [])) (
 cond ((cl v2 (mIx [.int .i64,.int .i64,.int .i64,.int .i64,.int .i64,.int .i64,.int .i64,.int .i64,.int .i64,.int .i64] v2 (.row [(.int v3),(.int v4),(.int v5),(.int v6),(.int v7),(.int v8),(.int v9),(.int aB),(.int aA),(.int aC)])) 10).toBool) (
 .row [.int 1,v0,(.bool v1),v2]) (
 cond ((len v0:Int)<1073741824) (
 .row [.int 1,(ad v0 (.row [(.int v3),(.int v4),(.int v5),(.int v6),(.int v7),(.int v8),(.int v9),(.int aB),(.int aA),(.int aC)])),(.bool false),(upd v2 (mIx [.int .i64,.int .i64,.int .i64,.int .i64,.int .i64,.int .i64,.int .i64,.int .i64,.int .i64,.int .i64] v2 (.row [(.int v3),(.int v4),(.int v5),(.int v6),(.int v7),(.int v8),(.int v9),(.int aB),(.int aA),(.int aC)])) 10 (.bool true))]) (
 .row []))):=gw rfl rfl (cL (cL rfl rfl) (cg rfl rfl (cL rfl rfl)))
theorem nK (v0:D) (v1:Bool) (v2 v3 v4 v5:D) (v6:Bool):Of v0 (.bool v1) v2 v3 v4 v5 (.bool v6) =
 Np v0 (.bool v1) (.int 0) v2 v3 v4 v5 (.bool v6):=gw rfl rfl rfl
theorem gk (v0:D) (v1:Bool) (v2:Int) (v3 v4 v5 v6:D) (v7:Bool):Np v0 (.bool v1) (.int v2) v3 v4 v5 v6 (.bool v7) =
  cond (v2<len v0) (
 cond (v2<0) (
 .row []) (
 cond ((cl v0 v2 0).toInt<0) (
 .row []) (
 cond ((cl v0 v2 0).toInt<len v6) (
 cond ((cl v6 (cl v0 v2 0).toInt 2).toInt=2) (
 cond (v7) (
 Np v0 (.bool v1) (.int (IntKind.wrap .i64 (v2+1))) v3 v4 v5 v6 (.bool v7)) (
 .row [.int 1,(.int v2)])) (
 cond (v7) (
 .row [.int 1,(.int v2)]) (
 Np v0 (.bool v1) (.int (IntKind.wrap .i64 (v2+1))) v3 v4 v5 v6 (.bool v7)))) (
 .row [])))) (
 .row [.int 1,(.int (-1))]):=gw rfl rfl (cL (cL rfl (cL rfl (cL (cQ rfl rfl) rfl))) rfl)
theorem rp (v0:D) (v1:Bool) (v2 v3 v4 v5:D) (v6:Bool):Le v0 (.bool v1) v2 v3 v4 v5 (.bool v6) =
  cond ((sl (Of v0 (.bool v1) v2 v3 v4 v5 (.bool v6)) 0).toInt=1) (
 cond ((sl (Of v0 (.bool v1) v2 v3 v4 v5 (.bool v6)) 1).toInt=(-1)) (
 .row [.int 1,v0,(.bool v1)]) (
 IS v0 (.bool v1) (sl (Of v0 (.bool v1) v2 v3 v4 v5 (.bool v6)) 1) (.int (IntKind.wrap .i64 ((sl (Of v0 (.bool v1) v2 v3 v4 v5 (.bool v6)) 1).toInt+1))) v2 v3 v4 v5 (.bool v6))) (
 .row []):=gw rfl rfl (cQ (cQ rfl rfl) rfl)
theorem gz (v0:D) (v1:Bool) (v2 v3:Int) (v4 v5 v6 v7:D) (v8:Bool):IS v0 (.bool v1) (.int v2) (.int v3) v4 v5 v6 v7 (.bool v8) =
  cond (v3<len v0) (
 cond (v3<0) (
 .row []) (
 cond ((cl v0 v3 0).toInt<0) (
 .row []) (
 cond ((cl v0 v3 0).toInt<len v7) (
 cond ((cl v7 (cl v0 v3 0).toInt 2).toInt=2) (
 cond (v8) (
 cond (v2<0) (
 .row []) (
 cond (v2<len v0) (
 IS (upd v0 v2 0 (cl v0 v3 0)) (.bool v1) (.int (IntKind.wrap .i64 (v2+1))) (.int (IntKind.wrap .i64 (v3+1))) v4 v5 v6 v7 (.bool v8)) (
 .row []))) (
 IS v0 (.bool v1) (.int v2) (.int (IntKind.wrap .i64 (v3+1))) v4 v5 v6 v7 (.bool v8))) (
 cond (v8) (
 IS v0 (.bool v1) (.int v2) (.int (IntKind.wrap .i64 (v3+1))) v4 v5 v6 v7 (.bool v8)) (
 cond (v2<0) (
 .row []) (
 cond (v2<len v0) (
 IS (upd v0 v2 0 (cl v0 v3 0)) (.bool v1) (.int (IntKind.wrap .i64 (v2+1))) (.int (IntKind.wrap .i64 (v3+1))) v4 v5 v6 v7 (.bool v8)) (
 .row []))))) (
 .row [])))) (
 cond (v2<0) (
 .row []) (
 cond (len v0<v2) (
 .row []) (
 cond ((len v0:Int)<(len v0:Int)) (
 .row []) (
 cond ((len v0:Int)=(len (sb v0 0 v2):Int)) (
 cond (len (sb v0 0 v2)<v2) (
 .row []) (
 .row [.int 1,(sb (sb v0 0 v2) 0 v2),(.bool v1)])) (
 cond (len (sb v0 0 v2)<v2) (
 .row []) (
 .row [.int 1,(sb (sb v0 0 v2) 0 v2),(.bool v1)])))))):=gw rfl rfl (cL (cL rfl (cL rfl (cL (cQ rfl rfl) rfl))) (cL rfl (cL rfl (cL rfl (cQ rfl rfl)))))
theorem yu (v0:D) (v1:Bool) (v2 v3 v4 v5 v6 v7 v8 v9:D) (aB:Int):U4 v0 (.bool v1) v2 v3 v4 v5 v6 v7 v8 v9 (.int aB) =
 OE v0 (.bool v1) (.int 0) v2 v3 v4 v5 v6 v7 v8 v9 (.int aB):=gw rfl rfl rfl
theorem gC (v0:D) (v1:Bool) (v2:Int) (v3 v4 v5 v6 v7 v8 v9 aB:D) (aA:Int):OE v0 (.bool v1) (.int v2) v3 v4 v5 v6 v7 v8 v9 aB (.int aA) =
  cond (v2<len v0) (
 cond (v2<0) (
 .row []) (
 cond ((cl v0 v2 0).toInt<0) (
 .row []) (
 cond ((cl v0 v2 0).toInt<len v6) (
 cond (aA<0) (
 .row []) (
 cond (aA<len aB) (
 cond ((decide ((cl v6 (cl v0 v2 0).toInt 2).toInt=(cl aB aA 2).toInt)&&(D.strEq (cl v6 (cl v0 v2 0).toInt 3) (cl aB aA 3)&&D.strEq (cl v6 (cl v0 v2 0).toInt 4) (cl aB aA 4)))) (
 .row [.int 1,(.int v2)]) (
 OE v0 (.bool v1) (.int (IntKind.wrap .i64 (v2+1))) v3 v4 v5 v6 v7 v8 v9 aB (.int aA))) (
 .row []))) (
 .row [])))) (
 .row [.int 1,(.int (-1))]):=gw rfl rfl (cL (cL rfl (cL rfl (cL (cL rfl (cL (cg (aE (qE rfl rfl) (aE rfl rfl)) rfl rfl) rfl)) rfl))) rfl)
theorem tN (v0 v1 v2 v3 v4:D) (v5:Bool) (v6 v7 v8 v9 aB:D) (aA:Bool):KD v0 v1 v2 v3 v4 (.bool v5) v6 v7 v8 v9 aB (.bool aA) =
 V4 aB (.bool aA) v4 (.bool v5) (.int 0) v0 v1 v2 v3 v6 v7 v8 v9:=gw rfl rfl rfl
theorem gM (v0:D) (v1:Bool) (v2:D) (v3:Bool) (v4:Int) (v5 v6 v7 v8 v9 aB aA aC:D):V4 v0 (.bool v1) v2 (.bool v3) (.int v4) v5 v6 v7 v8 v9 aB aA aC =
  cond (v4<len v2) (
 cond (v4<0) (
 .row []) (
 cond ((sl (U4 v0 (.bool v1) v9 aB aA aC v5 v6 v7 v8 (cl v2 v4 0)) 0).toInt=1) (
 cond ((sl (U4 v0 (.bool v1) v9 aB aA aC v5 v6 v7 v8 (cl v2 v4 0)) 1).toInt<0) (
 .row [.int 1,(cl v2 v4 0),(.bool true)]) (
 V4 v0 (.bool v1) v2 (.bool v3) (.int (IntKind.wrap .i64 (v4+1))) v5 v6 v7 v8 v9 aB aA aC)) (
 .row []))) (
 .row [.int 1,(.int 0),(.bool false)]):=gw rfl rfl (cL (cL rfl (cQ rfl rfl)) rfl)
theorem ua (v0 v1 v2 v3 v4 v5 v6 v7 v8 v9 aB aA:D) (aC aG aD aH aM aN aO aT aK aU aV aW:Int) (aY:Bool) {a b:D} (h0:GW (.int aT) (.int aK) (.int aU) (.int aV) (.int aW) v4 v5 v6 v7=a) (h1:GW (.int aD) (.int aH) (.int aM) (.int aN) (.int aO) v0 v1 v2 v3=b):OP v0 v1 v2 v3 v4 v5 v6 v7 v8 v9 aB aA (.int aC) (.int aG) (.int aD) (.int aH) (.int aM) (.int aN) (.int aO) (.int aT) (.int aK) (.int aU) (.int aV) (.int aW) (.bool aY) =
  cond ((sl b 0).toInt=1) (
 cond ((sl (Le (sl b 1) (sl b 2) v0 v1 v2 v3 (.bool aY)) 0).toInt=1) (
 cond ((sl a 0).toInt=1) (
 cond ((sl (Le (sl a 1) (sl a 2) v4 v5 v6 v7 (.bool aY)) 0).toInt=1) (
 .row [.int 1,(sl (Le (sl b 1) (sl b 2) v0 v1 v2 v3 (.bool aY)) 1),(sl (Le (sl b 1) (sl b 2) v0 v1 v2 v3 (.bool aY)) 2),(sl (Le (sl a 1) (sl a 2) v4 v5 v6 v7 (.bool aY)) 1),(sl (Le (sl a 1) (sl a 2) v4 v5 v6 v7 (.bool aY)) 2)]) (
 .row [])) (
 .row [])) (
 .row [])) (
 .row []):=by
  subst h0;subst h1;exact gw rfl rfl (cQ (cQ (cQ (cQ rfl rfl) rfl) rfl) rfl)
theorem nu (v0 v1 v2 v3 v4 v5 v6 v7 v8 v9 aB aA:D) (aC aG aD aH aM aN aO aT aK aU aV aW:Int) {a b:D} (h0:OP v0 v1 v2 v3 v4 v5 v6 v7 v8 v9 aB aA (.int aC) (.int aG) (.int aD) (.int aH) (.int aM) (.int aN) (.int aO) (.int aT) (.int aK) (.int aU) (.int aV) (.int aW) (.bool false)=a) (h1:OP v0 v1 v2 v3 v4 v5 v6 v7 v8 v9 aB aA (.int aC) (.int aG) (.int aD) (.int aH) (.int aM) (.int aN) (.int aO) (.int aT) (.int aK) (.int aU) (.int aV) (.int aW) (.bool true)=b):YY v0 v1 v2 v3 v4 v5 v6 v7 v8 v9 aB aA (.int aC) (.int aG) (.int aD) (.int aH) (.int aM) (.int aN) (.int aO) (.int aT) (.int aK) (.int aU) (.int aV) (.int aW) =
  cond ((sl b 0).toInt=1) (
 cond ((sl (KD v0 v1 v2 v3 (sl b 1) (sl b 2) v4 v5 v6 v7 (sl b 3) (sl b 4)) 0).toInt=1) (
 cond ((sl (KD v0 v1 v2 v3 (sl b 1) (sl b 2) v4 v5 v6 v7 (sl b 3) (sl b 4)) 2).toBool) (
 .row [.int 1,(.int 1),(sl (KD v0 v1 v2 v3 (sl b 1) (sl b 2) v4 v5 v6 v7 (sl b 3) (sl b 4)) 1)]) (
 cond ((sl a 0).toInt=1) (
 cond ((sl (KD v4 v5 v6 v7 (sl a 3) (sl a 4) v0 v1 v2 v3 (sl a 1) (sl a 2)) 0).toInt=1) (
 cond ((sl (KD v4 v5 v6 v7 (sl a 3) (sl a 4) v0 v1 v2 v3 (sl a 1) (sl a 2)) 2).toBool) (
 .row [.int 1,(.int 2),(sl (KD v4 v5 v6 v7 (sl a 3) (sl a 4) v0 v1 v2 v3 (sl a 1) (sl a 2)) 1)]) (
 cond (0<(len (sl a 1):Int)) (
 cond ((len (sl a 3):Int)=0) (
 .row [.int 1,(.int 3),(.int 0)]) (
 cond (aD<0) (
 .row []) (
 cond (aD<len v1) (
 cond (aT<0) (
 .row []) (
 cond (aT<len v5) (
 cond ((cl v1 aD 1).toBool) (
 cond ((cl v5 aT 1).toBool) (
 .row [.int 1,(.int 0),(.int 0)]) (
 .row [.int 1,(.int 4),(.int 0)])) (
 cond ((cl v5 aT 1).toBool) (
 .row [.int 1,(.int 4),(.int 0)]) (
 .row [.int 1,(.int 0),(.int 0)]))) (
 .row []))) (
 .row [])))) (
 cond (aD<0) (
 .row []) (
 cond (aD<len v1) (
 cond (aT<0) (
 .row []) (
 cond (aT<len v5) (
 cond ((cl v1 aD 1).toBool) (
 cond ((cl v5 aT 1).toBool) (
 .row [.int 1,(.int 0),(.int 0)]) (
 .row [.int 1,(.int 4),(.int 0)])) (
 cond ((cl v5 aT 1).toBool) (
 .row [.int 1,(.int 4),(.int 0)]) (
 .row [.int 1,(.int 0),(.int 0)]))) (
 .row []))) (
 .row []))))) (
 .row [])) (
 .row []))) (
 .row [])) (
 .row []):=by
  subst h0;subst h1;exact gw rfl rfl (cQ (cQ (cg rfl rfl (cQ (cQ (cg rfl rfl (cL (cQ rfl rfl) rfl)) rfl) rfl)) rfl) rfl)
theorem gp (v0 v1 v2 v3 v4 v5 v6 v7 v8 v9 aB aA:D) (aC aG aD aH aM aN aO aT aK aU aV aW:Int) (aY:D) (aZ:Bool) (a_:D) {a b:D} (h0:OP v0 v1 v2 v3 v4 v5 v6 v7 v8 v9 aB aA (.int aC) (.int aG) (.int aD) (.int aH) (.int aM) (.int aN) (.int aO) (.int aT) (.int aK) (.int aU) (.int aV) (.int aW) (.bool true)=a) (h1:YY v0 v1 v2 v3 v4 v5 v6 v7 v8 v9 aB aA (.int aC) (.int aG) (.int aD) (.int aH) (.int aM) (.int aN) (.int aO) (.int aT) (.int aK) (.int aU) (.int aV) (.int aW)=b):Og v0 v1 v2 v3 v4 v5 v6 v7 v8 v9 aB aA (.int aC) (.int aG) (.int aD) (.int aH) (.int aM) (.int aN) (.int aO) (.int aT) (.int aK) (.int aU) (.int aV) (.int aW) aY (.bool aZ) a_ =
  cond ((sl b 0).toInt=1) (
 cond ((sl b 1).toInt=0) (
 cond ((sl a 0).toInt=1) (
 O2 (sl a 3) (sl a 4) (sl a 1) (sl a 2) (.int (len (sl a 1):Int)) (.int 0) v0 v1 v2 v3 v4 v5 v6 v7 v8 v9 aB aA (.int aC) (.int aG) aY (.bool aZ) a_ (.int aD) (.int aH) (.int aM) (.int aN) (.int aO) (.int aT) (.int aK) (.int aU) (.int aV) (.int aW)) (
 .row [])) (
 cond ((sl (EO (.int aD) (.int aH) (.int aM) (.int aN) (.int aO) v0 v1 v2 v3) 0).toInt=1) (
 cond ((sl (EO (.int aT) (.int aK) (.int aU) (.int aV) (.int aW) v4 v5 v6 v7) 0).toInt=1) (
 .row [.int 1,(.bool true),(sl (EO (.int aD) (.int aH) (.int aM) (.int aN) (.int aO) v0 v1 v2 v3) 1),(sl (EO (.int aD) (.int aH) (.int aM) (.int aN) (.int aO) v0 v1 v2 v3) 2),(sl (EO (.int aT) (.int aK) (.int aU) (.int aV) (.int aW) v4 v5 v6 v7) 1),(sl (EO (.int aT) (.int aK) (.int aU) (.int aV) (.int aW) v4 v5 v6 v7) 2),(sl b 1),(sl b 2),aY,(.bool aZ),a_]) (
 .row [])) (
 .row []))) (
 .row []):=by
  subst h0;subst h1;exact gw rfl rfl (cQ (cQ (cQ rfl rfl) (cQ (cQ rfl rfl) rfl)) rfl)
theorem gW (v0:D) (v1:Bool) (v2:D) (v3:Bool) (v4 v5:Int) (v6 v7 v8 v9 aB aA aC aG aD aH aM aN:D) (aO aT:Int) (aK:D) (aU:Bool) (aV:D) (aW aY aZ a_ bb be bd bg bh bm:Int) {a:D} (h0:OP v6 v7 v8 v9 aB aA aC aG aD aH aM aN (.int aO) (.int aT) (.int aW) (.int aY) (.int aZ) (.int a_) (.int bb) (.int be) (.int bd) (.int bg) (.int bh) (.int bm) (.bool false)=a):O2 v0 (.bool v1) v2 (.bool v3) (.int v4) (.int v5) v6 v7 v8 v9 aB aA aC aG aD aH aM aN (.int aO) (.int aT) aK (.bool aU) aV (.int aW) (.int aY) (.int aZ) (.int a_) (.int bb) (.int be) (.int bd) (.int bg) (.int bh) (.int bm) =
  cond (v5<v4) (
 cond (v5<0) (
 .row []) (
 cond (v5<len v2) (
 Q9 v0 (.bool v1) (cl v2 v5 0) v2 (.bool v3) (.int v4) (.int v5) (.int 0) v6 v7 v8 v9 aB aA aC aG aD aH aM aN (.int aO) (.int aT) aK (.bool aU) aV (.int aW) (.int aY) (.int aZ) (.int a_) (.int bb) (.int be) (.int bd) (.int bg) (.int bh) (.int bm)) (
 .row []))) (
 cond ((sl a 0).toInt=1) (
 Sg (sl a 1) (sl a 2) (sl a 3) (sl a 4) (.int (len (sl a 3):Int)) (.int 0) v6 v7 v8 v9 aB aA aC aG aD aH aM aN (.int aO) (.int aT) aK (.bool aU) aV (.int aW) (.int aY) (.int aZ) (.int a_) (.int bb) (.int be) (.int bd) (.int bg) (.int bh) (.int bm)) (
 .row [])):=by
  subst h0;exact gw rfl rfl (cL rfl (cQ rfl rfl))
theorem gt (v0:D) (v1:Bool) (v2:Int) (v3:D) (v4:Bool) (v5 v6 v7:Int) (v8 v9 aB aA aC aG aD aH aM aN aO aT:D) (aK aU:Int) (aV:D) (aW:Bool) (aY:D) (aZ a_ bb be bd bg bh bm bo bp:Int) {a b c:D} (h0:Hy (.int bg) (.int bh) (.int bm) (.int bo) (.int bp) aC aG aD aH (cl v0 v7 0)=a) (h1:Hy (.int aZ) (.int a_) (.int bb) (.int be) (.int bd) v8 v9 aB aA (.int v2)=b) (h2:Jd aV (.bool aW) aY (sl b 1) (sl b 2) (sl b 3) (sl b 4) (sl b 5) (sl a 1) (sl a 2) (sl a 3) (sl a 4) (sl a 5)=c):Q9 v0 (.bool v1) (.int v2) v3 (.bool v4) (.int v5) (.int v6) (.int v7) v8 v9 aB aA aC aG aD aH aM aN aO aT (.int aK) (.int aU) aV (.bool aW) aY (.int aZ) (.int a_) (.int bb) (.int be) (.int bd) (.int bg) (.int bh) (.int bm) (.int bo) (.int bp) =
  cond (v7<len v0) (
 cond (v7<0) (
 .row []) (
 cond (v2<0) (
 .row []) (
 cond (v2<len aA) (
 cond ((cl v0 v7 0).toInt<0) (
 .row []) (
 cond ((cl v0 v7 0).toInt<len aH) (
 cond ((decide ((cl aA v2 2).toInt=(cl aH (cl v0 v7 0).toInt 2).toInt)&&(D.strEq (cl aA v2 3) (cl aH (cl v0 v7 0).toInt 3)&&D.strEq (cl aA v2 4) (cl aH (cl v0 v7 0).toInt 4)))) (
 cond ((sl b 0).toInt=1) (
 cond ((sl a 0).toInt=1) (
 cond ((sl c 0).toInt=1) (
 Q9 v0 (.bool v1) (.int v2) v3 (.bool v4) (.int v5) (.int v6) (.int (IntKind.wrap .i64 (v7+1))) v8 v9 aB aA aC aG aD aH aM aN aO aT (.int aK) (.int aU) (sl c 1) (sl c 2) (sl c 3) (.int aZ) (.int a_) (.int bb) (.int be) (.int bd) (.int bg) (.int bh) (.int bm) (.int bo) (.int bp)) (
 .row [])) (
 .row [])) (
 .row [])) (
 Q9 v0 (.bool v1) (.int v2) v3 (.bool v4) (.int v5) (.int v6) (.int (IntKind.wrap .i64 (v7+1))) v8 v9 aB aA aC aG aD aH aM aN aO aT (.int aK) (.int aU) aV (.bool aW) aY (.int aZ) (.int a_) (.int bb) (.int be) (.int bd) (.int bg) (.int bh) (.int bm) (.int bo) (.int bp))) (
 .row []))) (
 .row [])))) (
 O2 v0 (.bool v1) v3 (.bool v4) (.int v5) (.int (IntKind.wrap .i64 (v6+1))) v8 v9 aB aA aC aG aD aH aM aN aO aT (.int aK) (.int aU) aV (.bool aW) aY (.int aZ) (.int a_) (.int bb) (.int be) (.int bd) (.int bg) (.int bh) (.int bm) (.int bo) (.int bp)):=by
  subst h0;subst h1;subst h2;exact gw rfl rfl (cL (cL rfl (cL rfl (cL (cL rfl (cL (cg (aE (qE rfl rfl) (aE rfl rfl)) (cQ (cQ (cQ rfl rfl) rfl) rfl) rfl) rfl)) rfl))) rfl)
theorem ir (v0:D) (v1:Bool) (v2:D) (v3:Bool) (v4 v5:Int) (v6 v7 v8 v9 aB aA aC aG aD aH aM aN:D) (aO aT:Int) (aK:D) (aU:Bool) (aV:D) (aW aY aZ a_ bb be bd bg bh bm:Int):Sg v0 (.bool v1) v2 (.bool v3) (.int v4) (.int v5) v6 v7 v8 v9 aB aA aC aG aD aH aM aN (.int aO) (.int aT) aK (.bool aU) aV (.int aW) (.int aY) (.int aZ) (.int a_) (.int bb) (.int be) (.int bd) (.int bg) (.int bh) (.int bm) =
  cond (v5<v4) (
 cond (v5<0) (
 .row []) (
 cond (v5<len v2) (
 SN v0 (.bool v1) (cl v2 v5 0) v2 (.bool v3) (.int v4) (.int v5) (.int 0) v6 v7 v8 v9 aB aA aC aG aD aH aM aN (.int aO) (.int aT) aK (.bool aU) aV (.int aW) (.int aY) (.int aZ) (.int a_) (.int bb) (.int be) (.int bd) (.int bg) (.int bh) (.int bm)) (
 .row []))) (
 .row [.int 1,(.bool false),aD,aH,aM,aN,(.int aO),(.int aT),aK,(.bool aU),aV]):=gw rfl rfl rfl
theorem gl (v0:D) (v1:Bool) (v2:Int) (v3:D) (v4:Bool) (v5 v6 v7:Int) (v8 v9 aB aA aC aG aD aH aM aN aO aT:D) (aK aU:Int) (aV:D) (aW:Bool) (aY:D) (aZ a_ bb be bd bg bh bm bo bp:Int) {a b c:D} (h0:Hy (.int aZ) (.int a_) (.int bb) (.int be) (.int bd) v8 v9 aB aA (cl v0 v7 0)=a) (h1:Hy (.int bg) (.int bh) (.int bm) (.int bo) (.int bp) aC aG aD aH (.int v2)=b) (h2:Jd aV (.bool aW) aY (sl a 1) (sl a 2) (sl a 3) (sl a 4) (sl a 5) (sl b 1) (sl b 2) (sl b 3) (sl b 4) (sl b 5)=c):SN v0 (.bool v1) (.int v2) v3 (.bool v4) (.int v5) (.int v6) (.int v7) v8 v9 aB aA aC aG aD aH aM aN aO aT (.int aK) (.int aU) aV (.bool aW) aY (.int aZ) (.int a_) (.int bb) (.int be) (.int bd) (.int bg) (.int bh) (.int bm) (.int bo) (.int bp) =
  cond (v7<len v0) (
 cond (v7<0) (
 .row []) (
 cond ((cl v0 v7 0).toInt<0) (
 .row []) (
 cond ((cl v0 v7 0).toInt<len aA) (
 cond (v2<0) (
 .row []) (
 cond (v2<len aH) (
 cond ((decide ((cl aA (cl v0 v7 0).toInt 2).toInt=(cl aH v2 2).toInt)&&(D.strEq (cl aA (cl v0 v7 0).toInt 3) (cl aH v2 3)&&D.strEq (cl aA (cl v0 v7 0).toInt 4) (cl aH v2 4)))) (
 cond ((sl a 0).toInt=1) (
 cond ((sl b 0).toInt=1) (
 cond ((sl c 0).toInt=1) (
 SN v0 (.bool v1) (.int v2) v3 (.bool v4) (.int v5) (.int v6) (.int (IntKind.wrap .i64 (v7+1))) v8 v9 aB aA aC aG aD aH aM aN aO aT (.int aK) (.int aU) (sl c 1) (sl c 2) (sl c 3) (.int aZ) (.int a_) (.int bb) (.int be) (.int bd) (.int bg) (.int bh) (.int bm) (.int bo) (.int bp)) (
 .row [])) (
 .row [])) (
 .row [])) (
 SN v0 (.bool v1) (.int v2) v3 (.bool v4) (.int v5) (.int v6) (.int (IntKind.wrap .i64 (v7+1))) v8 v9 aB aA aC aG aD aH aM aN aO aT (.int aK) (.int aU) aV (.bool aW) aY (.int aZ) (.int a_) (.int bb) (.int be) (.int bd) (.int bg) (.int bh) (.int bm) (.int bo) (.int bp))) (
 .row []))) (
 .row [])))) (
 Sg v0 (.bool v1) v3 (.bool v4) (.int v5) (.int (IntKind.wrap .i64 (v6+1))) v8 v9 aB aA aC aG aD aH aM aN aO aT (.int aK) (.int aU) aV (.bool aW) aY (.int aZ) (.int a_) (.int bb) (.int be) (.int bd) (.int bg) (.int bh) (.int bm) (.int bo) (.int bp)):=by
  subst h0;subst h1;subst h2;exact gw rfl rfl (cL (cL rfl (cL rfl (cL (cL rfl (cL (cg (aE (qE rfl rfl) (aE rfl rfl)) (cQ (cQ (cQ rfl rfl) rfl) rfl) rfl) rfl)) rfl))) rfl)
theorem xF (v0:D) (v1:Bool) (v2:Int) (v3 v4 v5 v6 v7 v8 v9 aB aA aC:D) (aG:Bool) (aD aH:D) (aM:Bool) (aN aO:Int):Y8 v0 (.bool v1) (.int v2) v3 v4 v5 v6 v7 v8 v9 aB aA aC (.bool aG) aD aH (.bool aM) (.int aN) (.int aO) =
 Sy (.int v2) v0 (.bool v1) (.int 0) v3 v4 v5 v6 v7 v8 v9 aB aA aC (.bool aG) aD aH (.bool aM) (.int aN) (.int aO) Aw (.bool true) Aq:=gw rfl rfl rfl
theorem gu (v0:Int) (v1:D) (v2:Bool) (v3:Int) (v4 v5 v6 v7 v8 v9 aB aA aC aG:D) (aD:Bool) (aH aM:D) (aN:Bool) (aO aT:Int) (aK:D) (aU:Bool) (aV:D):Sy (.int v0) v1 (.bool v2) (.int v3) v4 v5 v6 v7 v8 v9 aB aA aC aG (.bool aD) aH aM (.bool aN) (.int aO) (.int aT) aK (.bool aU) aV =
  cond (v3<len v1) (
 cond (v3<0) (
 .row []) (
 cond ((sl (Jd aK (.bool aU) aV (cl v1 v3 0) (cl v1 v3 1) (cl v1 v3 2) (cl v1 v3 3) (cl v1 v3 4) (cl v1 v3 5) (cl v1 v3 6) (cl v1 v3 7) (cl v1 v3 8) (cl v1 v3 9)) 0).toInt=1) (
 Sy (.int v0) v1 (.bool v2) (.int (IntKind.wrap .i64 (v3+1))) v4 v5 v6 v7 v8 v9 aB aA aC aG (.bool aD) aH aM (.bool aN) (.int aO) (.int aT) (sl (Jd aK (.bool aU) aV (cl v1 v3 0) (cl v1 v3 1) (cl v1 v3 2) (cl v1 v3 3) (cl v1 v3 4) (cl v1 v3 5) (cl v1 v3 6) (cl v1 v3 7) (cl v1 v3 8) (cl v1 v3 9)) 1) (sl (Jd aK (.bool aU) aV (cl v1 v3 0) (cl v1 v3 1) (cl v1 v3 2) (cl v1 v3 3) (cl v1 v3 4) (cl v1 v3 5) (cl v1 v3 6) (cl v1 v3 7) (cl v1 v3 8) (cl v1 v3 9)) 2) (sl (Jd aK (.bool aU) aV (cl v1 v3 0) (cl v1 v3 1) (cl v1 v3 2) (cl v1 v3 3) (cl v1 v3 4) (cl v1 v3 5) (cl v1 v3 6) (cl v1 v3 7) (cl v1 v3 8) (cl v1 v3 9)) 3)) (
 .row []))) (
 QR (.int v0) (.int 0) v1 v4 v5 v6 v7 v8 v9 aB aA aC (ni aG aD) aH (ni aM aN) (.int aO) (.int aT) aK (.bool aU) aV):=gw rfl rfl (cL (cL rfl (cQ rfl rfl)) rfl)
theorem U0 (v0 v1:Int) (v2 v3 v4 v5 v6 v7 v8 v9 aB aA aC aG aD:D) (aH aM:Int) (aN:D) (aO:Bool) (aT:D) {a:D} (h0:Og v3 v4 v5 v6 v7 v8 v9 aB aA aC aG aD (.int aH) (.int aM) (cl aN v1 0) (cl aN v1 1) (cl aN v1 2) (cl aN v1 3) (cl aN v1 4) (cl aN v1 5) (cl aN v1 6) (cl aN v1 7) (cl aN v1 8) (cl aN v1 9) aN (.bool aO) aT=a):QR (.int v0) (.int v1) v2 v3 v4 v5 v6 v7 v8 v9 aB aA aC aG aD (.int aH) (.int aM) aN (.bool aO) aT =
  cond (v1<len aN) (
 cond (v1<v0) (
 cond (v1<0) (
 .row []) (
 cond ((sl a 0).toInt=1) (
 cond ((sl a 1).toBool) (
 .row [.int 1,(sl a 8),(sl a 9),(.bool false),(sl a 2),(sl a 3),(sl a 4),(sl a 5),(sl a 6),(sl a 7)]) (
 QR (.int v0) (.int (IntKind.wrap .i64 (v1+1))) v2 v3 v4 v5 v6 v7 v8 v9 aB (sl a 2) (sl a 3) (sl a 4) (sl a 5) (sl a 6) (sl a 7) (sl a 8) (sl a 9) (sl a 10))) (
 .row []))) (
 .row [.int 1,aN,(.bool aO),(.bool (decide (v0<(len aN:Int)))),aA,aC,aG,aD,(.int aH),(.int aM)])) (
 .row [.int 1,aN,(.bool aO),(.bool (decide (v0<(len aN:Int)))),aA,aC,aG,aD,(.int aH),(.int aM)]):=by
  subst h0;exact gw rfl rfl (cL (cL (cL rfl (cQ rfl rfl)) rfl) rfl)
theorem sO (v0 v1 v2 v3 v4 v5 v6 v7 v8 v9:D) {a:D} (h0:Yq (ad Aq (.row [(.int 0),(.int 0),(.int 0),(.int 0),(.int 0)])) (.bool false) (.int 2000) v0 v1 v2 v3=a):Ey v0 v1 v2 v3 v4 v5 v6 v7 v8 v9 =
  cond ((sl (Cq v0 v1 v2 v3 v4 v5 v6 v7 v8 v9) 0).toInt=1) (
 cond ((sl (Cq v0 v1 v2 v3 v4 v5 v6 v7 v8 v9) 2).toInt=0) (
 cond ((sl a 0).toInt=1) (
 cond ((sl a 3).toBool) (
 .row [.int 1,(CX 0 0),Aw,(CX 0 0),Aw,(.int 0),(.int 0),(.bool false),(.int 7)]) (
 L5 Aw (.bool true) (sl a 1) (sl a 2) (.int (len (sl a 1):Int)) (.int 0) v0 v1 v2 v3 v4 v5 v6 v7 v8 v9)) (
 .row [])) (
 .row [.int 1,(CX 0 0),Aw,(CX 0 0),Aw,(.int 0),(.int 0),(.bool false),(sl (Cq v0 v1 v2 v3 v4 v5 v6 v7 v8 v9) 2)])) (
 .row []):=by
  subst h0;exact gw rfl rfl (cQ (cQ (cQ (cg rfl rfl rfl) rfl) rfl) rfl)
theorem bP (v0:D) (v1:Bool) (v2:D) (v3:Bool) (v4 v5:Int) (v6 v7 v8 v9 aB aA aC aG aD aH:D) {a b:D} (h0:Y8 v0 (.bool v1) (.int 4000) v6 v7 v8 v9 aB aA aC aG (CX 0 0) Aw (.bool true) (CX 0 0) Aw (.bool true) (.int 0) (.int 0)=a) (h1:Ox v6 v7 v8 v9 aB aA aC aG aD aH (cl v2 v5 0) (cl v2 v5 1) (cl v2 v5 2) (cl v2 v5 3) (cl v2 v5 4)=b):L5 v0 (.bool v1) v2 (.bool v3) (.int v4) (.int v5) v6 v7 v8 v9 aB aA aC aG aD aH =
  cond (v5<v4) (
 cond (v5<0) (
 .row []) (
 cond (v5<len v2) (
 cond ((sl b 0).toInt=1) (
 cond ((sl b 6).toInt=0) (
 cond ((len v0:Int)<1073741824) (
 L5 (ad v0 (.row [(cl v2 v5 0),(cl v2 v5 1),(cl v2 v5 2),(cl v2 v5 3),(cl v2 v5 4),(sl b 1),(sl b 2),(sl b 3),(sl b 4),(sl b 5)])) (.bool false) v2 (.bool v3) (.int v4) (.int (IntKind.wrap .i64 (v5+1))) v6 v7 v8 v9 aB aA aC aG aD aH) (
 .row [])) (
 L5 v0 (.bool v1) v2 (.bool v3) (.int v4) (.int (IntKind.wrap .i64 (v5+1))) v6 v7 v8 v9 aB aA aC aG aD aH)) (
 .row [])) (
 .row []))) (
 cond ((sl a 0).toInt=1) (
 cond ((sl a 3).toBool) (
 .row [.int 1,(CX 0 0),Aw,(CX 0 0),Aw,(.int 0),(.int 0),(.bool false),(.int 7)]) (
 .row [.int 1,(sl a 4),(sl a 5),(sl a 6),(sl a 7),(sl a 8),(sl a 9),(.bool (decide ((sl a 8).toInt=0))),(.int 0)])) (
 .row [])):=by
  subst h0;subst h1;exact gw rfl rfl (cL (cL rfl (cL (cQ (cQ (cL rfl rfl) rfl) rfl) rfl)) (cQ (cg rfl rfl rfl) rfl))
theorem ow (v0 v1 v2 v3 v4 v5:D):Wq v0 v1 v2 v3 v4 v5 =
  cond ((sl (BM v1) 0).toInt=1) (
 cond ((sl (BK v2) 0).toInt=1) (
 cond ((sl (BL v3) 0).toInt=1) (
 cond (v4.isNil) (
 cond (v5.isNil) (
 .row [.int 1,v0,(ni (sl (BM v1) 1) ((sl (BM v1) 2).toBool)),(ni (sl (BK v2) 1) ((sl (BK v2) 2).toBool)),(ni (sl (BL v3) 1) ((sl (BL v3) 2).toBool)),Aw,Aw]) (
 cond ((len v5:Int)<1048576) (
 .row [.int 1,v0,(ni (sl (BM v1) 1) ((sl (BM v1) 2).toBool)),(ni (sl (BK v2) 1) ((sl (BK v2) 2).toBool)),(ni (sl (BL v3) 1) ((sl (BL v3) 2).toBool)),Aw,(ni (ct Aq v5) false)]) (
 .row []))) (
 cond ((len v4:Int)<1048576) (
 cond (v5.isNil) (
 .row [.int 1,v0,(ni (sl (BM v1) 1) ((sl (BM v1) 2).toBool)),(ni (sl (BK v2) 1) ((sl (BK v2) 2).toBool)),(ni (sl (BL v3) 1) ((sl (BL v3) 2).toBool)),(ni (ct Aq v4) false),Aw]) (
 cond ((len v5:Int)<1048576) (
 .row [.int 1,v0,(ni (sl (BM v1) 1) ((sl (BM v1) 2).toBool)),(ni (sl (BK v2) 1) ((sl (BK v2) 2).toBool)),(ni (sl (BL v3) 1) ((sl (BL v3) 2).toBool)),(ni (ct Aq v4) false),(ni (ct Aq v5) false)]) (
 .row []))) (
 .row []))) (
 .row [])) (
 .row [])) (
 .row []):=gw rfl rfl (cQ (cQ (cQ (cg rfl (cg rfl rfl (cL rfl rfl)) (cL (cg rfl rfl (cL rfl rfl)) rfl)) rfl) rfl) rfl)
theorem mR (v0 v1 v2:D):OF v0 v1 v2 =
 VN v0 (.int 0) v1 v2:=gw rfl rfl rfl
theorem sQ (v0:D) (v1:Int) (v2 v3:D):VN v0 (.int v1) v2 v3 =
  cond (v1<len v0) (
 cond (v1<0) (
 .row []) (
 cond (D.strEq (cl v0 v1 0) v2) (
 .row [.int 1,(.int v1)]) (
 VN v0 (.int (IntKind.wrap .i64 (v1+1))) v2 v3))) (
 .row [.int 1,(.int (-1))]):=gw rfl rfl rfl
theorem wE (v0 v1 v2 v3 v4 v5:D) (v6:Int) {a c d b:D} (h0:Ci v0 v1 v2 v3=a) (h1:KH (.int 0) (sl a 17) (sl a 14) (sl a 15) (sl a 16) (.int v6)=c) (h2:DZ (sl a 12) (sl a 13) v5=d) (h3:GQ (sl d 2) (sl a 13) (sl a 1) (sl a 2) (sl a 3) (sl a 4) (sl a 5) (sl a 6) (sl a 7) (sl a 8) (sl a 9) (sl a 10) (sl c 4) (sl c 7) (sl a 14) (sl c 5) (sl c 6) (.bool false) (sl a 11) (.bool true) v4=b):AG v0 v1 v2 v3 v4 v5 (.int v6) =
  cond ((sl a 0).toInt=1) (
 cond ((sl (OF v1 v4 v5) 0).toInt=1) (
 cond ((sl (OF v1 v4 v5) 1).toInt<0) (
 .row [.int 1]) (
 cond ((sl d 0).toInt=1) (
 cond ((sl d 1).toInt=0) (
 cond (v6<0) (
 .row [.int 1]) (
 cond (1099511627776<v6) (
 .row [.int 1]) (
 cond ((sl c 0).toInt=1) (
 cond ((len (sl d 2):Int)=(len (sl a 12):Int)) (
 cond ((sl b 0).toInt=1) (
 .row [.int 2,(sl a 1),(sl a 2),(sl a 3),(sl a 4),(sl a 5),(sl a 6),(sl a 7),(sl b 1),(sl b 2),(sl b 3),(sl a 11),(sl d 2),(sl a 13),(sl c 4),(sl b 4),(sl b 5),(sl b 6),(sl b 7)]) (
 .row [])) (
 .row [])) (
 .row [])))) (
 .row [.int 1])) (
 .row []))) (
 .row [])) (
 cond ((sl a 0).toInt=2) (
 cond ((sl (OF v1 v4 v5) 0).toInt=1) (
 cond ((sl a 1).toInt=0) (
 cond ((sl (OF v1 v4 v5) 1).toInt<0) (
 .row [.int 1]) (
 .row [])) (
 .row [.int 1])) (
 .row [])) (
 .row [])):=by
  subst h0;subst h1;subst h2;subst h3;exact gw rfl rfl (cQ (cQ (cL rfl (cQ (cQ (cL rfl (cL rfl (cQ (cQ (cQ rfl rfl) rfl) rfl))) rfl) rfl)) rfl) (cQ (cQ (cQ rfl rfl) rfl) rfl))
theorem oh (v0:D) (v1:Bool) (v2 v3:D) (v4:Bool) (v5:D) (v6:Bool) (v7:D) (v8:Bool) (v9:D) (aB:Bool) (aA aC:Int) (aG aD aH:D) (aM aN:Bool) (aO:D) (aT aK:Bool) (aU aV:D) (aW:Int) (aY aZ a_:D) (bb be bd:Int):VE v0 (.bool v1) v2 v3 (.bool v4) v5 (.bool v6) v7 (.bool v8) v9 (.bool aB) (.int aA) (.int aC) aG aD aH (.bool aM) (.bool aN) aO (.bool aT) (.bool aK) aU aV (.int aW) aY aZ a_ (.int bb) (.int be) (.int bd) =
 MU (.int 0) v2 v3 (.bool v4) v5 (.bool v6) v7 (.bool v8) v9 (.bool aB) (.int aA) (.bool aN) aO (.bool aT) v0 (.bool v1) (.int aC) aD aH (.bool aM) aG aU aV (.int aW) aY aZ a_ (.int bb) (.int be) (.int bd) (.bool aK):=gw rfl rfl rfl
theorem Vr (v0:Int) (v1 v2:D) (v3:Bool) (v4:D) (v5:Bool) (v6:D) (v7:Bool) (v8:D) (v9:Bool) (aB:Int) (aA:Bool) (aC:D) (aG:Bool) (aD:D) (aH:Bool) (aM:Int) (aN aO:D) (aT:Bool) (aK aU aV:D) (aW:Int) (aY aZ a_:D) (bb be bd:Int) (bg:Bool):MU (.int v0) v1 v2 (.bool v3) v4 (.bool v5) v6 (.bool v7) v8 (.bool v9) (.int aB) (.bool aA) aC (.bool aG) aD (.bool aH) (.int aM) aN aO (.bool aT) aK aU aV (.int aW) aY aZ a_ (.int bb) (.int be) (.int bd) (.bool bg) =
  cond (v0<3) (
 cond (v0=0) (
 cond (D.strEq aU v8) (
 MU (.int (IntKind.wrap .i64 (v0+1))) v1 v2 (.bool v3) v4 (.bool v5) v6 (.bool v7) v8 (.bool v9) (.int aB) (.bool aA) aC (.bool aG) aD (.bool aH) (.int aM) aN aO (.bool aT) aK aU aV (.int aW) aY aZ a_ (.int bb) (.int be) (.int bd) (.bool bg)) (
 .row [.int 1,(.bool false)])) (
 cond (v0=1) (
 cond ((sl (GR aD (.bool aH) aU aV (.int aW) aY aZ a_ (.int bb) (.int be) (.int bd)) 0).toInt=1) (
 cond ((sl (GR aD (.bool aH) aU aV (.int aW) aY aZ a_ (.int bb) (.int be) (.int bd)) 1).toBool) (
 MU (.int (IntKind.wrap .i64 (v0+1))) v1 v2 (.bool v3) v4 (.bool v5) v6 (.bool v7) v8 (.bool v9) (.int aB) (.bool aA) aC (.bool aG) aD (.bool aH) (.int aM) aN aO (.bool aT) aK aU aV (.int aW) aY aZ a_ (.int bb) (.int be) (.int bd) (.bool bg)) (
 .row [.int 1,(.bool false)])) (
 .row [])) (
 cond (v0=2) (
 cond (aW=3) (
 cond (bg) (
 MU (.int (IntKind.wrap .i64 (v0+1))) v1 v2 (.bool v3) v4 (.bool v5) v6 (.bool v7) v8 (.bool v9) (.int aB) (.bool aA) aC (.bool aG) aD (.bool aH) (.int aM) aN aO (.bool aT) aK aU aV (.int aW) aY aZ a_ (.int bb) (.int be) (.int bd) (.bool bg)) (
 .row [.int 1,(.bool false)])) (
 MU (.int (IntKind.wrap .i64 (v0+1))) v1 v2 (.bool v3) v4 (.bool v5) v6 (.bool v7) v8 (.bool v9) (.int aB) (.bool aA) aC (.bool aG) aD (.bool aH) (.int aM) aN aO (.bool aT) aK aU aV (.int aW) aY aZ a_ (.int bb) (.int be) (.int bd) (.bool bg))) (
 .row [])))) (
 .row [.int 1,(.bool true)]):=gw rfl rfl (cL (cQ rfl (cQ (cQ rfl rfl) (cQ (cQ rfl rfl) rfl))) rfl)
theorem mY (v0:D) (v1:Bool) (v2:D) (v3:Bool) (v4 v5:D) (v6:Bool) (v7:D) (v8:Bool) (v9:D) (aB:Bool) (aA:D) (aC:Bool) (aG aD:Int) (aH aM aN:D) (aO aT:Bool) (aK:D) (aU aV:Bool) (aW:D) (aY:Bool) (aZ:D):YT v0 (.bool v1) v2 (.bool v3) v4 v5 (.bool v6) v7 (.bool v8) v9 (.bool aB) aA (.bool aC) (.int aG) (.int aD) aH aM aN (.bool aO) (.bool aT) aK (.bool aU) (.bool aV) aW (.bool aY) aZ =
 Pv aW (.bool aY) (.int 0) v0 (.bool v1) (.bool aV) v4 v5 (.bool v6) v7 (.bool v8) v9 (.bool aB) aA (.bool aC) (.int aG) (.bool aT) aK (.bool aU) v2 (.bool v3) (.int aD) aM aN (.bool aO) aH aZ:=gw rfl rfl rfl
theorem gI (v0:D) (v1:Bool) (v2:Int) (v3:D) (v4 v5:Bool) (v6 v7:D) (v8:Bool) (v9:D) (aB:Bool) (aA:D) (aC:Bool) (aG:D) (aD:Bool) (aH:Int) (aM:Bool) (aN:D) (aO:Bool) (aT:D) (aK:Bool) (aU:Int) (aV aW:D) (aY:Bool) (aZ a_:D):Pv v0 (.bool v1) (.int v2) v3 (.bool v4) (.bool v5) v6 v7 (.bool v8) v9 (.bool aB) aA (.bool aC) aG (.bool aD) (.int aH) (.bool aM) aN (.bool aO) aT (.bool aK) (.int aU) aV aW (.bool aY) aZ a_ =
  cond (v2<len v0) (
 cond (v2<0) (
 .row []) (
 cond (D.strEq (cl v0 v2 0) a_) (
 cond ((sl (VE aT (.bool aK) v6 v7 (.bool v8) v9 (.bool aB) aA (.bool aC) aG (.bool aD) (.int aH) (.int aU) aZ aV aW (.bool aY) (.bool aM) aN (.bool aO) (.bool v5) (cl v0 v2 0) (cl v0 v2 1) (cl v0 v2 2) (cl v0 v2 3) (cl v0 v2 4) (cl v0 v2 5) (cl v0 v2 6) (cl v0 v2 7) (cl v0 v2 8)) 0).toInt=1) (
 cond ((sl (VE aT (.bool aK) v6 v7 (.bool v8) v9 (.bool aB) aA (.bool aC) aG (.bool aD) (.int aH) (.int aU) aZ aV aW (.bool aY) (.bool aM) aN (.bool aO) (.bool v5) (cl v0 v2 0) (cl v0 v2 1) (cl v0 v2 2) (cl v0 v2 3) (cl v0 v2 4) (cl v0 v2 5) (cl v0 v2 6) (cl v0 v2 7) (cl v0 v2 8)) 1).toBool) (
 cond ((len v3:Int)<1073741824) (
 Pv v0 (.bool v1) (.int (IntKind.wrap .i64 (v2+1))) (ad v3 (.row [(.int v2)])) (.bool false) (.bool v5) v6 v7 (.bool v8) v9 (.bool aB) aA (.bool aC) aG (.bool aD) (.int aH) (.bool aM) aN (.bool aO) aT (.bool aK) (.int aU) aV aW (.bool aY) aZ a_) (
 .row [])) (
 Pv v0 (.bool v1) (.int (IntKind.wrap .i64 (v2+1))) v3 (.bool v4) (.bool v5) v6 v7 (.bool v8) v9 (.bool aB) aA (.bool aC) aG (.bool aD) (.int aH) (.bool aM) aN (.bool aO) aT (.bool aK) (.int aU) aV aW (.bool aY) aZ a_)) (
 .row [])) (
 Pv v0 (.bool v1) (.int (IntKind.wrap .i64 (v2+1))) v3 (.bool v4) (.bool v5) v6 v7 (.bool v8) v9 (.bool aB) aA (.bool aC) aG (.bool aD) (.int aH) (.bool aM) aN (.bool aO) aT (.bool aK) (.int aU) aV aW (.bool aY) aZ a_))) (
 .row [.int 1,v3,(.bool v4)]):=gw rfl rfl (cL (cL rfl (cg rfl (cQ (cg rfl (cL rfl rfl) rfl) rfl) rfl)) rfl)
theorem YO (v0:D) (v1:Bool) (v2 v3:D) (v4:Bool) (v5:D) (v6:Bool) (v7:D) (v8:Bool) (v9:D) (aB:Bool) (aA aC:Int) (aG aD aH:D) (aM aN:Bool) (aO:D) (aT:Bool) (aK:Int) {b a c d e:D} (h0:F9 (.int aC) aG aD aH (.bool aM)=b) (h1:KH (sl b 1) (sl b 5) (sl b 2) (sl b 3) (sl b 4) (.int aK)=a) (h2:KL v7 (.bool v8) (.int (len v7:Int))=c) (h3:YT Aw (.bool true) v0 (.bool v1) v2 v3 (.bool v4) v5 (.bool v6) v7 (.bool v8) v9 (.bool aB) (.int aA) (sl a 4) (sl a 7) (sl b 2) (sl a 5) (sl a 6) (.bool (decide (0<(len (sl a 1):Int)))) aO (.bool aT) (.bool (decide (0<(len (sl a 1):Int)))) (sl c 1) (sl c 2) v9=d) (h4:YT Aw (.bool true) v0 (.bool v1) v2 v3 (.bool v4) v5 (.bool v6) v7 (.bool v8) v9 (.bool aB) (.int aA) (sl a 4) (sl a 7) (sl b 2) (sl a 5) (sl a 6) (.bool true) aO (.bool aT) (.bool true) (sl c 1) (sl c 2) v9=e):Vc v0 (.bool v1) v2 v3 (.bool v4) v5 (.bool v6) v7 (.bool v8) v9 (.bool aB) (.int aA) (.int aC) aG aD aH (.bool aM) (.bool aN) aO (.bool aT) (.int aK) =
  cond (aK<aC) (
 .row [.int 1,Aw,(.bool true),(.int 3),(.bool aN),aG,aH,(.int aC),aD,(.bool aM)]) (
 cond (1099511627776<aK) (
 .row [.int 1,Aw,(.bool true),(.int 3),(.bool aN),aG,aH,(.int aC),aD,(.bool aM)]) (
 cond ((sl b 0).toInt=1) (
 cond ((sl a 0).toInt=1) (
 cond (aN) (
 cond ((sl c 0).toInt=1) (
 cond ((sl e 0).toInt=1) (
 .row [.int 1,(sl e 1),(sl e 2),(.int 0),(.bool true),(sl a 7),(sl a 5),(sl a 4),(sl b 2),(sl a 6)]) (
 .row [])) (
 .row [])) (
 cond ((sl c 0).toInt=1) (
 cond ((sl d 0).toInt=1) (
 .row [.int 1,(sl d 1),(sl d 2),(.int 0),(.bool (decide (0<(len (sl a 1):Int)))),(sl a 7),(sl a 5),(sl a 4),(sl b 2),(sl a 6)]) (
 .row [])) (
 .row []))) (
 .row [])) (
 .row []))):=by
  subst h0;subst h1;subst h2;subst h3;subst h4;exact gw rfl rfl (cL rfl (cL rfl (cQ (cQ (cg rfl (cQ (cQ rfl rfl) rfl) (cQ (cQ rfl rfl) rfl)) rfl) rfl)))
theorem U3 (v0 v1:D) (v2:Int) (v3:D) (v4:Bool) (v5 v6:D) (v7:Bool) (v8:D) (v9:Bool) (aB:D) (aA:Bool) (aC:D) (aG:Bool) (aD aH:Int) (aM aN aO:D) (aT aK:Bool) (aU:D) (aV:Bool) (aW:Int) (aY aZ a_:D) (bb be:Bool) (bd:D) (bg:Bool) (bh:D):MP v0 v1 (.int v2) v3 (.bool v4) v5 v6 (.bool v7) v8 (.bool v9) aB (.bool aA) aC (.bool aG) (.int aD) (.int aH) aM aN aO (.bool aT) (.bool aK) aU (.bool aV) (.int aW) aY aZ a_ (.bool bb) (.bool be) bd (.bool bg) bh =
 IZ bd (.bool bg) (.int 0) v0 v1 (.int v2) (.bool be) v5 v6 (.bool v7) v8 (.bool v9) aB (.bool aA) aC (.bool aG) (.int aD) (.bool aK) aU (.bool aV) v3 (.bool v4) (.int aH) aN aO (.bool aT) aM (.int aW) aZ a_ (.bool bb) aY bh:=gw rfl rfl rfl
theorem g9 (v0:D) (v1:Bool) (v2:Int) (v3 v4:D) (v5:Int) (v6:Bool) (v7 v8:D) (v9:Bool) (aB:D) (aA:Bool) (aC:D) (aG:Bool) (aD:D) (aH:Bool) (aM:Int) (aN:Bool) (aO:D) (aT:Bool) (aK:D) (aU:Bool) (aV:Int) (aW aY:D) (aZ:Bool) (a_:D) (bb:Int) (be bd:D) (bg:Bool) (bh bm:D) {a:D} (h0:Oe aK (.bool aU) v7 v8 (.bool v9) aB (.bool aA) aC (.bool aG) aD (.bool aH) (.int aM) (.int aV) a_ aW aY (.bool aZ) (.bool aN) aO (.bool aT) (.int bb) bh be bd (.bool bg) (.bool v6) (cl v0 v2 0) (cl v0 v2 1) (cl v0 v2 2) (cl v0 v2 3) (cl v0 v2 4) (cl v0 v2 5) (cl v0 v2 6) (cl v0 v2 7) (cl v0 v2 8)=a):IZ v0 (.bool v1) (.int v2) v3 v4 (.int v5) (.bool v6) v7 v8 (.bool v9) aB (.bool aA) aC (.bool aG) aD (.bool aH) (.int aM) (.bool aN) aO (.bool aT) aK (.bool aU) (.int aV) aW aY (.bool aZ) a_ (.int bb) be bd (.bool bg) bh bm =
  cond (v2<len v0) (
 cond (v2<0) (
 .row []) (
 cond (D.strEq (cl v0 v2 0) bm) (
 cond ((cl v0 v2 2).toInt=2) (
 cond (D.strEq (cl v0 v2 3) v3) (
 cond (D.strEq (cl v0 v2 4) v4) (
 cond ((sl a 0).toInt=1) (
 cond ((sl a 1).toBool) (
 .row [.int 1,(.int v2)]) (
 IZ v0 (.bool v1) (.int (IntKind.wrap .i64 (v2+1))) v3 v4 (.int v5) (.bool v6) v7 v8 (.bool v9) aB (.bool aA) aC (.bool aG) aD (.bool aH) (.int aM) (.bool aN) aO (.bool aT) aK (.bool aU) (.int aV) aW aY (.bool aZ) a_ (.int bb) be bd (.bool bg) bh bm)) (
 .row [])) (
 IZ v0 (.bool v1) (.int (IntKind.wrap .i64 (v2+1))) v3 v4 (.int v5) (.bool v6) v7 v8 (.bool v9) aB (.bool aA) aC (.bool aG) aD (.bool aH) (.int aM) (.bool aN) aO (.bool aT) aK (.bool aU) (.int aV) aW aY (.bool aZ) a_ (.int bb) be bd (.bool bg) bh bm)) (
 IZ v0 (.bool v1) (.int (IntKind.wrap .i64 (v2+1))) v3 v4 (.int v5) (.bool v6) v7 v8 (.bool v9) aB (.bool aA) aC (.bool aG) aD (.bool aH) (.int aM) (.bool aN) aO (.bool aT) aK (.bool aU) (.int aV) aW aY (.bool aZ) a_ (.int bb) be bd (.bool bg) bh bm)) (
 IZ v0 (.bool v1) (.int (IntKind.wrap .i64 (v2+1))) v3 v4 (.int v5) (.bool v6) v7 v8 (.bool v9) aB (.bool aA) aC (.bool aG) aD (.bool aH) (.int aM) (.bool aN) aO (.bool aT) aK (.bool aU) (.int aV) aW aY (.bool aZ) a_ (.int bb) be bd (.bool bg) bh bm)) (
 IZ v0 (.bool v1) (.int (IntKind.wrap .i64 (v2+1))) v3 v4 (.int v5) (.bool v6) v7 v8 (.bool v9) aB (.bool aA) aC (.bool aG) aD (.bool aH) (.int aM) (.bool aN) aO (.bool aT) aK (.bool aU) (.int aV) aW aY (.bool aZ) a_ (.int bb) be bd (.bool bg) bh bm))) (
 .row [.int 2]):=by
  subst h0;exact gw rfl rfl (cL (cL rfl (cg rfl (cQ (cg rfl (cg rfl (cQ rfl rfl) rfl) rfl) rfl) rfl)) rfl)
theorem OZ (v0:D) (v1:Bool) (v2 v3:D) (v4:Bool) (v5:D) (v6:Bool) (v7:D) (v8:Bool) (v9:D) (aB:Bool) (aA aC:Int) (aG aD aH:D) (aM aN:Bool) (aO:D) (aT:Bool) (aK:Int) (aU aV:D) {d a e f g b c:D} (h0:F9 (.int aC) aG aD aH (.bool aM)=d) (h1:KH (sl d 1) (sl d 5) (sl d 2) (sl d 3) (sl d 4) (.int aK)=a) (h2:KL v7 (.bool v8) (.int (len v7:Int))=e) (h3:MP aU aV (.int (-1)) v0 (.bool v1) v2 v3 (.bool v4) v5 (.bool v6) v7 (.bool v8) v9 (.bool aB) (.int aA) (.int aC) aG aD aH (.bool aM) (.bool aN) aO (.bool aT) (sl a 4) (sl a 7) (sl d 2) (sl a 5) (sl a 6) (.bool (decide (0<(len (sl a 1):Int)))) (sl e 1) (sl e 2) v9=f) (h4:MP aU aV (.int (-1)) v0 (.bool v1) v2 v3 (.bool v4) v5 (.bool v6) v7 (.bool v8) v9 (.bool aB) (.int aA) (.int aC) aG aD aH (.bool aM) (.bool aN) aO (.bool aT) (sl a 4) (sl a 7) (sl d 2) (sl a 5) (sl a 6) (.bool true) (sl e 1) (sl e 2) v9=g) (h5:Pl v0 (.bool v1) v2 v3 (.bool v4) v5 (.bool v6) v7 (.bool v8) v9 (.bool aB) (.int aA) (.int aC) aG aD aH (.bool aM) (.bool false) aO (.bool aT) (sl a 4) (sl a 7) (sl d 2) (sl a 5) (sl a 6) (.bool (decide (0<(len (sl a 1):Int)))) (.int aK) (sl f 1)=b) (h6:Pl v0 (.bool v1) v2 v3 (.bool v4) v5 (.bool v6) v7 (.bool v8) v9 (.bool aB) (.int aA) (.int aC) aG aD aH (.bool aM) (.bool true) aO (.bool aT) (sl a 4) (sl a 7) (sl d 2) (sl a 5) (sl a 6) (.bool true) (.int aK) (sl g 1)=c):OX v0 (.bool v1) v2 v3 (.bool v4) v5 (.bool v6) v7 (.bool v8) v9 (.bool aB) (.int aA) (.int aC) aG aD aH (.bool aM) (.bool aN) aO (.bool aT) (.int aK) aU aV =
  cond (aK<aC) (
 .row [.int 1,(.int 0),(.int 3),v9,(.bool aB),(.int aA),(.bool aN),aO,(.bool aT),v0,(.bool v1),aG,aH,(.int aC),aD,(.bool aM)]) (
 cond (1099511627776<aK) (
 .row [.int 1,(.int 0),(.int 3),v9,(.bool aB),(.int aA),(.bool aN),aO,(.bool aT),v0,(.bool v1),aG,aH,(.int aC),aD,(.bool aM)]) (
 cond ((sl d 0).toInt=1) (
 cond ((sl a 0).toInt=1) (
 cond (aN) (
 cond ((sl e 0).toInt=1) (
 cond ((sl g 0).toInt=1) (
 cond ((sl g 1).toInt<0) (
 .row [.int 1,(.int 0),(.int 9),v9,(.bool aB),(.int aA),(.bool true),aO,(.bool aT),v0,(.bool v1),aG,aH,(.int aC),aD,(.bool aM)]) (
 cond ((sl c 0).toInt=1) (
 .row [.int 1,(sl g 1),(.int 0),(sl c 1),(sl c 2),(sl c 3),(.bool false),(sl c 4),(sl c 5),(sl c 6),(sl c 7),(sl c 17),(sl c 15),(sl c 13),(sl c 14),(sl c 16)]) (
 .row []))) (
 cond ((sl g 0).toInt=2) (
 .row [.int 1,(.int 0),(.int 9),v9,(.bool aB),(.int aA),(.bool true),aO,(.bool aT),v0,(.bool v1),aG,aH,(.int aC),aD,(.bool aM)]) (
 .row []))) (
 .row [])) (
 cond ((sl e 0).toInt=1) (
 cond ((sl f 0).toInt=1) (
 cond ((sl f 1).toInt<0) (
 .row [.int 1,(.int 0),(.int 9),v9,(.bool aB),(.int aA),(.bool false),aO,(.bool aT),v0,(.bool v1),aG,aH,(.int aC),aD,(.bool aM)]) (
 cond ((sl b 0).toInt=1) (
 .row [.int 1,(sl f 1),(.int 0),(sl b 1),(sl b 2),(sl b 3),(.bool false),(sl b 4),(sl b 5),(sl b 6),(sl b 7),(sl b 17),(sl b 15),(sl b 13),(sl b 14),(sl b 16)]) (
 .row []))) (
 cond ((sl f 0).toInt=2) (
 .row [.int 1,(.int 0),(.int 9),v9,(.bool aB),(.int aA),(.bool false),aO,(.bool aT),v0,(.bool v1),aG,aH,(.int aC),aD,(.bool aM)]) (
 .row []))) (
 .row []))) (
 .row [])) (
 .row []))):=by
  subst h0;subst h1;subst h2;subst h3;subst h4;subst h5;subst h6;exact gw rfl rfl (cL rfl (cL rfl (cQ (cQ (cg rfl (cQ (cQ (cL rfl (cQ rfl rfl)) (cQ rfl rfl)) rfl) (cQ (cQ (cL rfl (cQ rfl rfl)) (cQ rfl rfl)) rfl)) rfl) rfl)))
theorem il (v0:D) (v1:Bool) (v2 v3:D) (v4:Bool) (v5:D) (v6:Bool) (v7:D) (v8:Bool) (v9:D) (aB:Bool) (aA aC:Int) (aG aD aH:D) (aM aN:Bool) (aO:D) (aT:Bool):ZT v0 (.bool v1) v2 v3 (.bool v4) v5 (.bool v6) v7 (.bool v8) v9 (.bool aB) (.int aA) (.int aC) aG aD aH (.bool aM) (.bool aN) aO (.bool aT) =
 .row [.int 1,v9]:=gw rfl rfl rfl
theorem xS (v0 v1 v2 v3:D):U7 v0 v1 v2 v3 =
  cond (D.strEq v0 v2) (
 cond ((len v1:Int)=(len v3:Int)) (
 Kz (.int 0) v0 v1 v2 v3) (
 .row [.int 1,(.bool false)])) (
 .row [.int 1,(.bool false)]):=gw rfl rfl (cg rfl (cQ rfl rfl) rfl)
theorem gX (v0:Int) (v1 v2 v3 v4:D):Kz (.int v0) v1 v2 v3 v4 =
  cond (v0<len v2) (
 cond (v0<0) (
 .row []) (
 cond (v0<len v4) (
 cond ((cl v2 v0 0).toInt=(cl v4 v0 0).toInt) (
 Kz (.int (IntKind.wrap .i64 (v0+1))) v1 v2 v3 v4) (
 .row [.int 1,(.bool false)])) (
 .row []))) (
 .row [.int 1,(.bool true)]):=gw rfl rfl (cL (cL rfl (cL (cQ rfl rfl) rfl)) rfl)
theorem yr (v0 v1 v2 v3 v4 v5 v6 v7 v8 v9 aB aA:D):iy v0 v1 v2 v3 v4 v5 v6 v7 v8 v9 aB aA =
  cond ((sl (St v0 v1 v2 v3) 0).toInt=1) (
 cond ((sl (St v0 v1 v2 v3) 1).toBool) (
 cond ((sl (St v4 v5 v6 v7) 0).toInt=1) (
 cond ((sl (St v4 v5 v6 v7) 1).toBool) (
 cond ((sl (Xk v8 v9) 0).toInt=1) (
 cond ((sl (Xk v8 v9) 1).toBool) (
 cond (10<(len aB:Int)) (
 cond ((sl (LW) 0).toInt=1) (
 .row [.int 1,(.bool true)]) (
 .row [])) (
 cond ((sl (dE Aw (.bool true) aA (.int 0) (.int 20)) 0).toInt=1) (
 cond ((sl (dE Aw (.bool true) aA (.int 0) (.int 20)) 1).toBool) (
 cond ((sl (C9 v0 v1 v2 v3) 0).toInt=1) (
 RA aB aA (.int 0) v0 v1 v2 v3 v4 v5 v6 v7 v8 v9 (sl (C9 v0 v1 v2 v3) 1) (sl (C9 v0 v1 v2 v3) 2) (sl (C9 v0 v1 v2 v3) 3) (sl (C9 v0 v1 v2 v3) 4) (sl (C9 v0 v1 v2 v3) 5) (sl (C9 v0 v1 v2 v3) 6) (sl (C9 v0 v1 v2 v3) 7) (sl (C9 v0 v1 v2 v3) 8) (sl (C9 v0 v1 v2 v3) 9) (sl (C9 v0 v1 v2 v3) 10) (.bool false) (sl (C9 v0 v1 v2 v3) 11) (.bool true) (sl (C9 v0 v1 v2 v3) 12) (sl (C9 v0 v1 v2 v3) 13) (.int 0) (sl (C9 v0 v1 v2 v3) 14) (sl (C9 v0 v1 v2 v3) 15) (sl (C9 v0 v1 v2 v3) 16) (sl (C9 v0 v1 v2 v3) 17)) (
 cond ((sl (C9 v0 v1 v2 v3) 0).toInt=2) (
 cond ((sl (C9 v0 v1 v2 v3) 1).toInt=0) (
 .row []) (
 cond ((sl (LW) 0).toInt=1) (
 .row [.int 1,(.bool true)]) (
 .row []))) (
 .row []))) (
 cond ((sl (LW) 0).toInt=1) (
 .row [.int 1,(.bool true)]) (
 .row []))) (
 .row []))) (
 cond ((sl (LW) 0).toInt=1) (
 .row [.int 1,(.bool true)]) (
 .row []))) (
 .row [])) (
 cond ((sl (LW) 0).toInt=1) (
 .row [.int 1,(.bool true)]) (
 .row []))) (
 .row [])) (
 cond ((sl (LW) 0).toInt=1) (
 .row [.int 1,(.bool true)]) (
 .row []))) (
 .row []):=gw rfl rfl (cQ (cg rfl (cQ (cg rfl (cQ (cg rfl (cL (cQ rfl rfl) (cQ (cg rfl (cQ rfl (cQ (cQ rfl (cQ rfl rfl)) rfl)) (cQ rfl rfl)) rfl)) (cQ rfl rfl)) rfl) (cQ rfl rfl)) rfl) (cQ rfl rfl)) rfl)
theorem Vj (v0 v1:D) (v2:Int) (v3 v4 v5 v6 v7 v8 v9 aB aA aC aG aD:D) (aH:Bool) (aM:D) (aN:Bool) (aO:D) (aT:Bool) (aK:D) (aU:Bool) (aV:Int) (aW:Bool) (aY:D) (aZ:Bool) (a_:D) (bb:Bool) (be:Int) (bd bg:D) (bh:Bool) (bm:D) {a b c:D} (h0:Lh a_ (.bool bb) aG aD (.bool aH) aM (.bool aN) aO (.bool aT) aK (.bool aU) (.int aV) (.int be) bm bd bg (.bool bh) (.bool aW) aY (.bool aZ)=a) (h1:Nw a_ (.bool bb) aG aD (.bool aH) aM (.bool aN) aO (.bool aT) aK (.bool aU) (.int aV) (.int be) bm bd bg (.bool bh) (.bool aW) aY (.bool aZ) (.int 0) (cl v0 v2 0)=b) (h2:bJ (sl a 14) (sl a 15) (sl a 4) (sl a 1) (sl a 5) (sl a 2) (sl a 6) (sl a 3) (sl a 7) (sl a 8) (sl a 9) (sl a 10) (sl a 16) (sl a 20) (sl a 17) (sl a 18) (sl a 19) (sl a 11) (sl a 12) (sl a 13) v7 v8 v9 aB aA aC=c):RA v0 v1 (.int v2) v3 v4 v5 v6 v7 v8 v9 aB aA aC aG aD (.bool aH) aM (.bool aN) aO (.bool aT) aK (.bool aU) (.int aV) (.bool aW) aY (.bool aZ) a_ (.bool bb) (.int be) bd bg (.bool bh) bm =
  cond (v2<len v0) (
 cond (v2<0) (
 .row []) (
 cond ((sl b 0).toInt=1) (
 cond ((sl b 1).toInt=0) (
 RA v0 v1 (.int (IntKind.wrap .i64 (v2+1))) v3 v4 v5 v6 v7 v8 v9 aB aA aC aG aD (.bool aH) aM (.bool aN) aO (.bool aT) (sl b 2) (sl b 3) (sl b 4) (sl b 5) (sl b 6) (sl b 7) (sl b 8) (sl b 9) (sl b 12) (sl b 13) (sl b 11) (sl b 14) (sl b 10)) (
 RA v0 v1 (.int (IntKind.wrap .i64 (v2+1))) v3 v4 v5 v6 v7 v8 v9 aB aA aC aG aD (.bool aH) aM (.bool aN) aO (.bool aT) (sl b 2) (sl b 3) (sl b 4) (sl b 5) (sl b 6) (sl b 7) (sl b 8) (sl b 9) (sl b 12) (sl b 13) (sl b 11) (sl b 14) (sl b 10))) (
 .row []))) (
 cond ((sl a 0).toInt=1) (
 cond ((sl c 0).toInt=1) (
 Q2 v1 Aw (sl c 1) v3 v4 v5 v6 v7 v8 v9 aB aA aC (sl a 4) (.int (len (sl a 1):Int)) (sl a 5) (.int (len (sl a 2):Int)) (sl a 6) (.int (len (sl a 3):Int)) (sl a 7) (sl a 8) (sl a 9) (sl a 10) (sl a 11) (sl a 12) (sl a 13) aG (.int (len aD:Int)) (.bool aH) (.int (len aM:Int)) (.bool aN) (.int (len aO:Int)) (.bool aT) aK (.bool aU) (.int aV) (.bool aW) aY (.bool aZ) (sl a 14) (sl a 15) (sl c 2) (sl c 3) (sl c 4) (sl a 16) (sl a 17) (sl a 18) (sl a 19) a_ (.bool bb) (.int be) bd bg (.bool bh) (sl a 20) bm) (
 cond ((sl c 0).toInt=2) (
 Q2 v1 (sl c 1) (.int 0) v3 v4 v5 v6 v7 v8 v9 aB aA aC (sl a 4) (.int (len (sl a 1):Int)) (sl a 5) (.int (len (sl a 2):Int)) (sl a 6) (.int (len (sl a 3):Int)) (sl a 7) (sl a 8) (sl a 9) (sl a 10) (sl a 11) (sl a 12) (sl a 13) aG (.int (len aD:Int)) (.bool aH) (.int (len aM:Int)) (.bool aN) (.int (len aO:Int)) (.bool aT) aK (.bool aU) (.int aV) (.bool aW) aY (.bool aZ) (sl a 14) (sl a 15) (sl c 2) (sl c 3) (sl c 4) (sl a 16) (sl a 17) (sl a 18) (sl a 19) a_ (.bool bb) (.int be) bd bg (.bool bh) (sl a 20) bm) (
 .row []))) (
 .row [])):=by
  subst h0;subst h1;subst h2;exact gw rfl rfl (cL (cL rfl (cQ (cQ rfl rfl) rfl)) (cQ (cQ rfl (cQ rfl rfl)) rfl))
theorem gm (v0 v1:D) (v2:Int) (v3 v4 v5 v6 v7 v8 v9 aB aA aC aG aD:D) (aH:Bool) (aM:D) (aN:Bool) (aO:D) (aT:Bool) (aK:D) (aU:Bool) (aV:Int) (aW:Bool) (aY:D) (aZ:Bool) (a_ bb:D) (be:Bool) (bd:D) (bg:Bool) (bh:D) (bm:Bool) (bo:D) (bp:Bool) (bq:Int) (bs:Bool) (bA:D) (bB:Bool) (bC:D) (bD:Bool) (bu bw bx:D) (bK:Int) (bM bR:D) (bS:Bool) (bE:D) (bG:Bool) (b0:Int) (bU bV:D) (bW:Bool) (b7 bX:D) {a f c e d b g:D} (h0:SD bE (.bool bG) a_ bu (.bool be) bb bw (.bool bg) bd bx (.bool bm) bh bo (.bool bp) (.int bq) (.int b0) bX bU bV (.bool bW) (.bool bs) bA (.bool bB)=a) (h1:JB bE (.bool bG) a_ bu (.bool be) bb bw (.bool bg) bd bx (.bool bm) bh bo (.bool bp) (.int bq) (.int b0) bX bU bV (.bool bW) (.bool bs) bA (.bool bB)=f) (h2:Wq v7 v8 v9 aB aA aC=c) (h3:Ar (sl a 1) (sl a 2) (sl a 3) (sl a 4) (sl c 1) (sl c 2) (sl c 3) (sl c 4) (sl c 5) (sl c 6) (sl f 1) (sl f 2)=e) (h4:JB bC (.bool bD) aG bu (.bool aH) aD bw (.bool aN) aM bx (.bool aT) aO aK (.bool aU) (.int aV) (.int bK) b7 bM bR (.bool bS) (.bool aW) aY (.bool aZ)=d) (h5:AG (sl c 1) (sl c 2) (sl c 3) (sl c 4) (sl e 1) (sl e 2) (.int 7)=b) (h6:RE bE (.bool bG) a_ bu (.bool be) bb bw (.bool bg) bd bx (.bool bm) bh bo (.bool bp) (.int bq) (.int b0) bX bU bV (.bool bW) (.bool bs) bA (.bool bB)=g):Q2 v0 v1 (.int v2) v3 v4 v5 v6 v7 v8 v9 aB aA aC aG aD (.bool aH) aM (.bool aN) aO (.bool aT) aK (.bool aU) (.int aV) (.bool aW) aY (.bool aZ) a_ bb (.bool be) bd (.bool bg) bh (.bool bm) bo (.bool bp) (.int bq) (.bool bs) bA (.bool bB) bC (.bool bD) bu bw bx (.int bK) bM bR (.bool bS) bE (.bool bG) (.int b0) bU bV (.bool bW) b7 bX =
  cond (v2=0) (
 cond ((sl d 0).toInt=1) (
 O9 v0 v1 (.int v2) (.int 0) v3 v4 v5 v6 v7 v8 v9 aB aA aC (sl d 1) (sl d 2) aG aD (.bool aH) aM (.bool aN) aO (.bool aT) aK (.bool aU) (.int aV) (.bool aW) aY (.bool aZ) a_ bb (.bool be) bd (.bool bg) bh (.bool bm) bo (.bool bp) (.int bq) (.bool bs) bA (.bool bB) bC (.bool bD) bu bw bx (.int bK) bM bR (.bool bS) bE (.bool bG) (.int b0) bU bV (.bool bW) b7 bX) (
 .row [])) (
 cond ((sl d 0).toInt=1) (
 cond ((sl (Ar v3 v4 v5 v6 v7 v8 v9 aB aA aC (sl d 1) (sl d 2)) 0).toInt=1) (
 cond ((sl a 0).toInt=1) (
 cond ((sl (Cq (sl a 1) (sl a 2) (sl a 3) (sl a 4) v7 v8 v9 aB aA aC) 0).toInt=1) (
 cond ((sl (Cq (sl a 1) (sl a 2) (sl a 3) (sl a 4) v7 v8 v9 aB aA aC) 2).toInt=0) (
 cond ((sl g 0).toInt=1) (
 cond (7<(sl g 1).toInt) (
 Dy) (
 cond ((sl (Ey (sl a 1) (sl a 2) (sl a 3) (sl a 4) v7 v8 v9 aB aA aC) 0).toInt=1) (
 cond ((sl (Ey (sl a 1) (sl a 2) (sl a 3) (sl a 4) v7 v8 v9 aB aA aC) 8).toInt=0) (
 cond ((sl (Ey (sl a 1) (sl a 2) (sl a 3) (sl a 4) v7 v8 v9 aB aA aC) 7).toBool) (
 cond ((sl c 0).toInt=1) (
 cond ((sl f 0).toInt=1) (
 cond ((sl e 0).toInt=1) (
 cond ((sl e 3).toInt=0) (
 cond ((sl b 0).toInt=1) (
 Dy) (
 cond ((sl b 0).toInt=2) (
 ON v0 v1 (.int v2) (sl (Ar v3 v4 v5 v6 v7 v8 v9 aB aA aC (sl d 1) (sl d 2)) 3) v7 v8 v9 aB aA aC (sl (Ar v3 v4 v5 v6 v7 v8 v9 aB aA aC (sl d 1) (sl d 2)) 1) (sl (Ar v3 v4 v5 v6 v7 v8 v9 aB aA aC (sl d 1) (sl d 2)) 2) (sl f 1) (sl f 2) (sl e 1) (sl e 2) (sl c 1) (sl b 1) (sl b 2) (sl b 3) (sl b 4) (sl b 5) (sl b 6) (sl b 7) (sl b 8) (sl b 9) (sl b 10) (sl b 11) (sl b 12) (sl b 13) (sl b 14) (sl b 15) (sl b 16) (sl b 17) (sl b 18)) (
 .row []))) (
 Dy)) (
 .row [])) (
 .row [])) (
 .row [])) (
 Dy)) (
 Dy)) (
 .row []))) (
 .row [])) (
 Dy)) (
 .row [])) (
 .row [])) (
 .row [])) (
 .row [])):=by
  subst h0;subst h1;subst h2;subst h3;subst h4;subst h5;subst h6;exact gw rfl rfl (cQ (cQ rfl rfl) (cQ (cQ (cQ (cQ (cQ (cQ (cL rfl (cQ (cQ (cg rfl (cQ (cQ (cQ (cQ (cQ rfl (cQ rfl rfl)) rfl) rfl) rfl) rfl) rfl) rfl) rfl)) rfl) rfl) rfl) rfl) rfl) rfl))
theorem gH (v0 v1:D) (v2 v3:Int) (v4 v5 v6 v7 v8 v9 aB aA aC aG aD aH aM aN:D) (aO:Bool) (aT:D) (aK:Bool) (aU:D) (aV:Bool) (aW:D) (aY:Bool) (aZ:Int) (a_:Bool) (bb:D) (be:Bool) (bd bg:D) (bh:Bool) (bm:D) (bo:Bool) (bp:D) (bq:Bool) (bs:D) (bA:Bool) (bB:Int) (bC:Bool) (bD:D) (bu:Bool) (bw:D) (bx:Bool) (bK bM bR:D) (bS:Int) (bE bG:D) (b0:Bool) (bU:D) (bV:Bool) (bW:Int) (b7 bX:D) (b8:Bool) (b_ b9:D) {a f c e d b g:D} (h0:SD bU (.bool bV) bd bK (.bool bh) bg bM (.bool bo) bm bR (.bool bq) bp bs (.bool bA) (.int bB) (.int bW) b9 b7 bX (.bool b8) (.bool bC) bD (.bool bu)=a) (h1:JB bU (.bool bV) bd bK (.bool bh) bg bM (.bool bo) bm bR (.bool bq) bp bs (.bool bA) (.int bB) (.int bW) b9 b7 bX (.bool b8) (.bool bC) bD (.bool bu)=f) (h2:Wq v8 v9 aB aA aC aG=c) (h3:Ar (sl a 1) (sl a 2) (sl a 3) (sl a 4) (sl c 1) (sl c 2) (sl c 3) (sl c 4) (sl c 5) (sl c 6) (sl f 1) (sl f 2)=e) (h4:JB bw (.bool bx) aM bK (.bool aO) aN bM (.bool aK) aT bR (.bool aV) aU aW (.bool aY) (.int aZ) (.int bS) b_ bE bG (.bool b0) (.bool a_) bb (.bool be)=d) (h5:AG (sl c 1) (sl c 2) (sl c 3) (sl c 4) (sl e 1) (sl e 2) (.int 7)=b) (h6:RE bU (.bool bV) bd bK (.bool bh) bg bM (.bool bo) bm bR (.bool bq) bp bs (.bool bA) (.int bB) (.int bW) b9 b7 bX (.bool b8) (.bool bC) bD (.bool bu)=g):O9 v0 v1 (.int v2) (.int v3) v4 v5 v6 v7 v8 v9 aB aA aC aG aD aH aM aN (.bool aO) aT (.bool aK) aU (.bool aV) aW (.bool aY) (.int aZ) (.bool a_) bb (.bool be) bd bg (.bool bh) bm (.bool bo) bp (.bool bq) bs (.bool bA) (.int bB) (.bool bC) bD (.bool bu) bw (.bool bx) bK bM bR (.int bS) bE bG (.bool b0) bU (.bool bV) (.int bW) b7 bX (.bool b8) b_ b9 =
  cond (v3<len v1) (
 cond (v3<0) (
 .row []) (
 cond ((sl (L6 v4 v5 v6 v7 aD aH (cl v1 v3 0)) 0).toInt=1) (
 cond ((sl (L6 v4 v5 v6 v7 aD aH (cl v1 v3 0)) 3).toInt=0) (
 O9 v0 v1 (.int v2) (.int (IntKind.wrap .i64 (v3+1))) v4 v5 v6 v7 v8 v9 aB aA aC aG (sl (L6 v4 v5 v6 v7 aD aH (cl v1 v3 0)) 1) (sl (L6 v4 v5 v6 v7 aD aH (cl v1 v3 0)) 2) aM aN (.bool aO) aT (.bool aK) aU (.bool aV) aW (.bool aY) (.int aZ) (.bool a_) bb (.bool be) bd bg (.bool bh) bm (.bool bo) bp (.bool bq) bs (.bool bA) (.int bB) (.bool bC) bD (.bool bu) bw (.bool bx) bK bM bR (.int bS) bE bG (.bool b0) bU (.bool bV) (.int bW) b7 bX (.bool b8) b_ b9) (
 .row [.int 1,(.bool false)])) (
 .row []))) (
 cond ((sl (Ar v4 v5 v6 v7 v8 v9 aB aA aC aG aD aH) 0).toInt=1) (
 cond ((sl (Ar v4 v5 v6 v7 v8 v9 aB aA aC aG aD aH) 3).toInt=0) (
 cond ((sl d 0).toInt=1) (
 cond ((sl (Ar v4 v5 v6 v7 v8 v9 aB aA aC aG (sl d 1) (sl d 2)) 0).toInt=1) (
 cond ((sl a 0).toInt=1) (
 cond ((sl (Cq (sl a 1) (sl a 2) (sl a 3) (sl a 4) v8 v9 aB aA aC aG) 0).toInt=1) (
 cond ((sl (Cq (sl a 1) (sl a 2) (sl a 3) (sl a 4) v8 v9 aB aA aC aG) 2).toInt=0) (
 cond ((sl g 0).toInt=1) (
 cond (7<(sl g 1).toInt) (
 Dy) (
 cond ((sl (Ey (sl a 1) (sl a 2) (sl a 3) (sl a 4) v8 v9 aB aA aC aG) 0).toInt=1) (
 cond ((sl (Ey (sl a 1) (sl a 2) (sl a 3) (sl a 4) v8 v9 aB aA aC aG) 8).toInt=0) (
 cond ((sl (Ey (sl a 1) (sl a 2) (sl a 3) (sl a 4) v8 v9 aB aA aC aG) 7).toBool) (
 cond ((sl c 0).toInt=1) (
 cond ((sl f 0).toInt=1) (
 cond ((sl e 0).toInt=1) (
 cond ((sl e 3).toInt=0) (
 cond ((sl b 0).toInt=1) (
 Dy) (
 cond ((sl b 0).toInt=2) (
 ON v0 v1 (.int v2) (sl (Ar v4 v5 v6 v7 v8 v9 aB aA aC aG (sl d 1) (sl d 2)) 3) v8 v9 aB aA aC aG (sl (Ar v4 v5 v6 v7 v8 v9 aB aA aC aG (sl d 1) (sl d 2)) 1) (sl (Ar v4 v5 v6 v7 v8 v9 aB aA aC aG (sl d 1) (sl d 2)) 2) (sl f 1) (sl f 2) (sl e 1) (sl e 2) (sl c 1) (sl b 1) (sl b 2) (sl b 3) (sl b 4) (sl b 5) (sl b 6) (sl b 7) (sl b 8) (sl b 9) (sl b 10) (sl b 11) (sl b 12) (sl b 13) (sl b 14) (sl b 15) (sl b 16) (sl b 17) (sl b 18)) (
 .row []))) (
 Dy)) (
 .row [])) (
 .row [])) (
 .row [])) (
 Dy)) (
 Dy)) (
 .row []))) (
 .row [])) (
 Dy)) (
 .row [])) (
 .row [])) (
 .row [])) (
 .row [])) (
 .row [.int 1,(.bool false)])) (
 .row [])):=by
  subst h0;subst h1;subst h2;subst h3;subst h4;subst h5;subst h6;exact gw rfl rfl (cL (cL rfl (cQ (cQ rfl rfl) rfl)) (cQ (cQ (cQ (cQ (cQ (cQ (cQ (cQ (cL rfl (cQ (cQ (cg rfl (cQ (cQ (cQ (cQ (cQ rfl (cQ rfl rfl)) rfl) rfl) rfl) rfl) rfl) rfl) rfl)) rfl) rfl) rfl) rfl) rfl) rfl) rfl) rfl))
theorem pd:Dy =
  cond ((sl (LW) 0).toInt=1) (
 .row [.int 1,(.bool true)]) (
 .row []):=gw rfl rfl (cQ rfl rfl)
theorem nJ (v0 v1:D) (v2 v3:Int) (v4 v5 v6 v7 v8 v9 aB aA aC aG aD aH aM aN aO:D) (aT:Bool) (aK:D) (aU:Bool) (aV:D) (aW:Bool) (aY:D) (aZ:Bool) (a_:Int) (bb be:D) (bd:Bool) (bg:Int) (bh bm:D) (bo:Bool) (bp:D):ON v0 v1 (.int v2) (.int v3) v4 v5 v6 v7 v8 v9 aB aA aC aG aD aH aM aN aO (.bool aT) aK (.bool aU) aV (.bool aW) aY (.bool aZ) (.int a_) bb be (.bool bd) (.int bg) bh bm (.bool bo) bp =
  cond ((sl (AG v4 v5 v6 v7 aB aA (.int 7)) 0).toInt=1) (
 cond (v3=0) (
 .row [.int 1,(.bool false)]) (
 .row [.int 1,(.bool false)])) (
 cond ((sl (AG v4 v5 v6 v7 aB aA (.int 7)) 0).toInt=2) (
 cond (v3=0) (
 cond (v2=0) (
 cond ((len v1:Int)=0) (
 Sa v0 (.int 0) aC aG aD aH aM (sl (AG v4 v5 v6 v7 aB aA (.int 7)) 1) (sl (AG v4 v5 v6 v7 aB aA (.int 7)) 2) (sl (AG v4 v5 v6 v7 aB aA (.int 7)) 3) (sl (AG v4 v5 v6 v7 aB aA (.int 7)) 4) (sl (AG v4 v5 v6 v7 aB aA (.int 7)) 5) (sl (AG v4 v5 v6 v7 aB aA (.int 7)) 6) (sl (AG v4 v5 v6 v7 aB aA (.int 7)) 7) (sl (AG v4 v5 v6 v7 aB aA (.int 7)) 8) (sl (AG v4 v5 v6 v7 aB aA (.int 7)) 9) (sl (AG v4 v5 v6 v7 aB aA (.int 7)) 10) (.bool false) (sl (AG v4 v5 v6 v7 aB aA (.int 7)) 11) (.bool true) aN (.int (len aO:Int)) (.bool aT) (.int (len aK:Int)) (.bool aU) (.int (len aV:Int)) (.bool aW) aY (.bool aZ) (.int a_) (.bool false) bb (.bool true) (sl (AG v4 v5 v6 v7 aB aA (.int 7)) 12) (sl (AG v4 v5 v6 v7 aB aA (.int 7)) 13) (sl (AG v4 v5 v6 v7 aB aA (.int 7)) 14) (sl (AG v4 v5 v6 v7 aB aA (.int 7)) 15) (sl (AG v4 v5 v6 v7 aB aA (.int 7)) 16) (sl (AG v4 v5 v6 v7 aB aA (.int 7)) 17) be (.bool bd) aO aK aV (.int bg) bh bm (.bool bo) (sl (AG v4 v5 v6 v7 aB aA (.int 7)) 18) bp) (
 .row [.int 1,(.bool false)])) (
 .row [.int 1,(.bool false)])) (
 .row [.int 1,(.bool false)])) (
 .row [])):=gw rfl rfl (cQ (cQ rfl rfl) (cQ (cQ (cQ (cQ rfl rfl) rfl) rfl) rfl))
theorem g8 (v0:D) (v1:Int) (v2 v3 v4 v5 v6 v7 v8:D) (v9:Bool) (aB:D) (aA:Bool) (aC:D) (aG:Bool) (aD:D) (aH:Bool) (aM:Int) (aN:Bool) (aO:D) (aT:Bool) (aK aU:D) (aV:Bool) (aW:D) (aY:Bool) (aZ:D) (a_:Bool) (bb:D) (be:Bool) (bd:Int) (bg:Bool) (bh:D) (bm:Bool) (bo:D) (bp:Bool) (bq:Int) (bs bA:D) (bB:Bool) (bC:D) (bD:Bool) (bu bw bx:D) (bK:Int) (bM bR:D) (bS:Bool) (bE bG:D) {a b h c d e f g i:D} (h0:OX bC (.bool bD) aK bu (.bool aV) bw (.bool aY) bx (.bool a_) bb (.bool be) (.int bd) (.int bK) bG bM bR (.bool bS) (.bool bg) bh (.bool bm) (cl v0 v1 1) (cl v0 v1 3) (cl v0 v1 4)=a) (h1:Nw bC (.bool bD) aK bu (.bool aV) bw (.bool aY) bx (.bool a_) bb (.bool be) (.int bd) (.int bK) bG bM bR (.bool bS) (.bool bg) bh (.bool bm) (cl v0 v1 1) (cl v0 v1 2)=b) (h2:Vc bC (.bool bD) aK bu (.bool aV) bw (.bool aY) bx (.bool a_) bb (.bool be) (.int bd) (.int bK) bG bM bR (.bool bS) (.bool bg) bh (.bool bm) (cl v0 v1 1)=h) (h3:Lh (sl a 9) (sl a 10) aK bu (.bool aV) bw (.bool aY) bx (.bool a_) (sl a 3) (sl a 4) (sl a 5) (sl a 13) (sl a 11) (sl a 14) (sl a 12) (sl a 15) (sl a 6) (sl a 7) (sl a 8)=c) (h4:Lh (sl b 8) (sl b 9) aK bu (.bool aV) bw (.bool aY) bx (.bool a_) (sl b 2) (sl b 3) (sl b 4) (sl b 12) (sl b 10) (sl b 13) (sl b 11) (sl b 14) (sl b 5) (sl b 6) (sl b 7)=d) (h5:OX bo (.bool bp) v7 v8 (.bool v9) aB (.bool aA) aC (.bool aG) aD (.bool aH) (.int aM) (.int bq) bE bs bA (.bool bB) (.bool aN) aO (.bool aT) (cl v0 v1 1) (cl v0 v1 3) (cl v0 v1 4)=e) (h6:Nw bo (.bool bp) v7 v8 (.bool v9) aB (.bool aA) aC (.bool aG) aD (.bool aH) (.int aM) (.int bq) bE bs bA (.bool bB) (.bool aN) aO (.bool aT) (cl v0 v1 1) (cl v0 v1 2)=f) (h7:Lh bC (.bool bD) aK bu (.bool aV) bw (.bool aY) bx (.bool a_) bb (.bool be) (.int bd) (sl h 7) (sl h 5) (sl h 8) (sl h 6) (sl h 9) (sl h 4) bh (.bool bm)=g) (h8:Vc bo (.bool bp) v7 v8 (.bool v9) aB (.bool aA) aC (.bool aG) aD (.bool aH) (.int aM) (.int bq) bE bs bA (.bool bB) (.bool aN) aO (.bool aT) (cl v0 v1 1)=i):Sa v0 (.int v1) v2 v3 v4 v5 v6 v7 v8 (.bool v9) aB (.bool aA) aC (.bool aG) aD (.bool aH) (.int aM) (.bool aN) aO (.bool aT) aK aU (.bool aV) aW (.bool aY) aZ (.bool a_) bb (.bool be) (.int bd) (.bool bg) bh (.bool bm) bo (.bool bp) (.int bq) bs bA (.bool bB) bC (.bool bD) bu bw bx (.int bK) bM bR (.bool bS) bE bG =
  cond (v1<len v0) (
 cond (v1<0) (
 .row []) (
 cond ((cl v0 v1 0).toInt=0) (
 cond (len bw=aW.toInt) (
 cond (len bu=aU.toInt) (
 cond (len bx=aZ.toInt) (
 cond ((sl h 0).toInt=1) (
 cond ((sl i 0).toInt=1) (
 cond ((sl g 0).toInt=1) (
 Nb v0 (.int v1) (sl h 3) (sl i 3) v2 v3 v4 v5 v6 v7 v8 (.bool v9) aB (.bool aA) aC (.bool aG) aD (.bool aH) (.int aM) (sl i 4) aO (.bool aT) (sl g 4) (sl g 1) (sl g 5) (sl g 2) (sl g 6) (sl g 3) (sl g 7) (sl g 8) (sl g 9) (sl g 10) (sl g 11) (sl g 12) (sl g 13) aK (.int (len bu:Int)) (.bool aV) (.int (len bw:Int)) (.bool aY) (.int (len bx:Int)) (.bool a_) bb (.bool be) (.int bd) (sl h 4) bh (.bool bm) bo (.bool bp) (sl i 7) (sl i 8) (sl i 6) (sl i 9) (sl g 14) (sl g 15) (sl g 16) (sl g 17) (sl g 18) (sl g 19) bC (.bool bD) (sl h 7) (sl h 8) (sl h 6) (sl h 9) (sl i 5) (sl g 20) (sl h 5)) (
 .row [])) (
 .row [])) (
 .row [])) (
 .row [])) (
 .row [])) (
 .row [])) (
 cond ((cl v0 v1 0).toInt=4) (
 cond (len bw=aW.toInt) (
 cond (len bu=aU.toInt) (
 cond (len bx=aZ.toInt) (
 cond ((sl a 0).toInt=1) (
 cond ((sl a 2).toInt=0) (
 cond ((sl e 0).toInt=1) (
 cond ((sl a 1).toInt=(sl e 1).toInt) (
 cond ((sl c 0).toInt=1) (
 Nb v0 (.int v1) (.int 0) (sl e 2) v2 v3 v4 v5 v6 v7 v8 (.bool v9) aB (.bool aA) aC (.bool aG) (sl e 3) (sl e 4) (sl e 5) (sl e 6) (sl e 7) (sl e 8) (sl c 4) (sl c 1) (sl c 5) (sl c 2) (sl c 6) (sl c 3) (sl c 7) (sl c 8) (sl c 9) (sl c 10) (sl c 11) (sl c 12) (sl c 13) aK (.int (len bu:Int)) (.bool aV) (.int (len bw:Int)) (.bool aY) (.int (len bx:Int)) (.bool a_) (sl a 3) (sl a 4) (sl a 5) (sl a 6) (sl a 7) (sl a 8) (sl e 9) (sl e 10) (sl e 13) (sl e 14) (sl e 12) (sl e 15) (sl c 14) (sl c 15) (sl c 16) (sl c 17) (sl c 18) (sl c 19) (sl a 9) (sl a 10) (sl a 13) (sl a 14) (sl a 12) (sl a 15) (sl e 11) (sl c 20) (sl a 11)) (
 .row [])) (
 .row [.int 1,(.bool false)])) (
 .row [])) (
 cond ((sl e 0).toInt=1) (
 cond ((sl a 1).toInt=(sl e 1).toInt) (
 cond ((sl c 0).toInt=1) (
 Nb v0 (.int v1) (sl a 2) (sl e 2) v2 v3 v4 v5 v6 v7 v8 (.bool v9) aB (.bool aA) aC (.bool aG) (sl e 3) (sl e 4) (sl e 5) (sl e 6) (sl e 7) (sl e 8) (sl c 4) (sl c 1) (sl c 5) (sl c 2) (sl c 6) (sl c 3) (sl c 7) (sl c 8) (sl c 9) (sl c 10) (sl c 11) (sl c 12) (sl c 13) aK (.int (len bu:Int)) (.bool aV) (.int (len bw:Int)) (.bool aY) (.int (len bx:Int)) (.bool a_) (sl a 3) (sl a 4) (sl a 5) (sl a 6) (sl a 7) (sl a 8) (sl e 9) (sl e 10) (sl e 13) (sl e 14) (sl e 12) (sl e 15) (sl c 14) (sl c 15) (sl c 16) (sl c 17) (sl c 18) (sl c 19) (sl a 9) (sl a 10) (sl a 13) (sl a 14) (sl a 12) (sl a 15) (sl e 11) (sl c 20) (sl a 11)) (
 .row [])) (
 .row [.int 1,(.bool false)])) (
 .row []))) (
 .row [])) (
 .row [])) (
 .row [])) (
 .row [])) (
 cond (len bw=aW.toInt) (
 cond (len bu=aU.toInt) (
 cond (len bx=aZ.toInt) (
 cond ((sl b 0).toInt=1) (
 cond ((sl b 1).toInt=0) (
 cond ((sl f 0).toInt=1) (
 cond ((sl d 0).toInt=1) (
 Nb v0 (.int v1) (.int 0) (sl f 1) v2 v3 v4 v5 v6 v7 v8 (.bool v9) aB (.bool aA) aC (.bool aG) (sl f 2) (sl f 3) (sl f 4) (sl f 5) (sl f 6) (sl f 7) (sl d 4) (sl d 1) (sl d 5) (sl d 2) (sl d 6) (sl d 3) (sl d 7) (sl d 8) (sl d 9) (sl d 10) (sl d 11) (sl d 12) (sl d 13) aK (.int (len bu:Int)) (.bool aV) (.int (len bw:Int)) (.bool aY) (.int (len bx:Int)) (.bool a_) (sl b 2) (sl b 3) (sl b 4) (sl b 5) (sl b 6) (sl b 7) (sl f 8) (sl f 9) (sl f 12) (sl f 13) (sl f 11) (sl f 14) (sl d 14) (sl d 15) (sl d 16) (sl d 17) (sl d 18) (sl d 19) (sl b 8) (sl b 9) (sl b 12) (sl b 13) (sl b 11) (sl b 14) (sl f 10) (sl d 20) (sl b 10)) (
 .row [])) (
 .row [])) (
 cond ((sl f 0).toInt=1) (
 cond ((sl d 0).toInt=1) (
 Nb v0 (.int v1) (sl b 1) (sl f 1) v2 v3 v4 v5 v6 v7 v8 (.bool v9) aB (.bool aA) aC (.bool aG) (sl f 2) (sl f 3) (sl f 4) (sl f 5) (sl f 6) (sl f 7) (sl d 4) (sl d 1) (sl d 5) (sl d 2) (sl d 6) (sl d 3) (sl d 7) (sl d 8) (sl d 9) (sl d 10) (sl d 11) (sl d 12) (sl d 13) aK (.int (len bu:Int)) (.bool aV) (.int (len bw:Int)) (.bool aY) (.int (len bx:Int)) (.bool a_) (sl b 2) (sl b 3) (sl b 4) (sl b 5) (sl b 6) (sl b 7) (sl f 8) (sl f 9) (sl f 12) (sl f 13) (sl f 11) (sl f 14) (sl d 14) (sl d 15) (sl d 16) (sl d 17) (sl d 18) (sl d 19) (sl b 8) (sl b 9) (sl b 12) (sl b 13) (sl b 11) (sl b 14) (sl f 10) (sl d 20) (sl b 10)) (
 .row [])) (
 .row []))) (
 .row [])) (
 .row [])) (
 .row [])) (
 .row []))))) (
 cond ((sl (LW) 0).toInt=1) (
 .row [.int 1,(.bool true)]) (
 .row [])):=by
  subst h0;subst h1;subst h2;subst h3;subst h4;subst h5;subst h6;subst h7;subst h8;exact gw rfl rfl (cL (cL rfl (cQ (cQ (cQ (cQ (cQ (cQ (cQ rfl rfl) rfl) rfl) rfl) rfl) rfl) (cQ (cQ (cQ (cQ (cQ (cQ (cQ (cQ (cQ rfl rfl) rfl) rfl) (cQ (cQ (cQ rfl rfl) rfl) rfl)) rfl) rfl) rfl) rfl) (cQ (cQ (cQ (cQ (cQ (cQ (cQ rfl rfl) rfl) (cQ (cQ rfl rfl) rfl)) rfl) rfl) rfl) rfl)))) (cQ rfl rfl))
theorem rU (v0:D) (v1 v2 v3:Int) (v4 v5 v6 v7 v8 v9 aB:D) (aA:Bool) (aC:D) (aG:Bool) (aD:D) (aH:Bool) (aM:D) (aN:Bool) (aO:Int) (aT:Bool) (aK:D) (aU:Bool) (aV aW:D) (aY:Bool) (aZ:D) (a_:Bool) (bb:D) (be:Bool) (bd:D) (bg:Bool) (bh:Int) (bm:Bool) (bo:D) (bp:Bool) (bq bs:D) (bA:Bool) (bB:D) (bC:Bool) (bD:D) (bu:Bool) (bw:D) (bx:Bool) (bK:Int) (bM:Bool) (bR:D) (bS:Bool) (bE:D) (bG:Bool) (b0:Int) (bU bV:D) (bW:Bool) (b7:D) (bX:Bool) (b8:Int) (b_ b9:D) (cc:Bool) (cf:D) (ch:Bool) (cj:Int) (ck cm:D) (cn:Bool) (ca cd cp:D) {a b c d e f:D} (h0:JB b7 (.bool bX) aV aW (.bool aY) (.int (len aW:Int)) aZ (.bool a_) (.int (len aZ:Int)) bb (.bool be) (.int (len bb:Int)) bd (.bool bg) (.int bh) (.int b8) cd b_ b9 (.bool cc) (.bool bm) bo (.bool bp)=a) (h1:JB bE (.bool bG) v9 aB (.bool aA) (.int (len aB:Int)) aC (.bool aG) (.int (len aC:Int)) aD (.bool aH) (.int (len aD:Int)) aM (.bool aN) (.int aO) (.int b0) ca bU bV (.bool bW) (.bool aT) aK (.bool aU)=b) (h2:RE b7 (.bool bX) aV aW (.bool aY) (.int (len aW:Int)) aZ (.bool a_) (.int (len aZ:Int)) bb (.bool be) (.int (len bb:Int)) bd (.bool bg) (.int bh) (.int b8) cd b_ b9 (.bool cc) (.bool bm) bo (.bool bp)=c) (h3:RE bE (.bool bG) v9 aB (.bool aA) (.int (len aB:Int)) aC (.bool aG) (.int (len aC:Int)) aD (.bool aH) (.int (len aD:Int)) aM (.bool aN) (.int aO) (.int b0) ca bU bV (.bool bW) (.bool aT) aK (.bool aU)=d) (h4:ZT b7 (.bool bX) aV aW (.bool aY) aZ (.bool a_) bb (.bool be) bd (.bool bg) (.int bh) (.int b8) cd b_ b9 (.bool cc) (.bool bm) bo (.bool bp)=e) (h5:ZT bE (.bool bG) v9 aB (.bool aA) aC (.bool aG) aD (.bool aH) aM (.bool aN) (.int aO) (.int b0) ca bU bV (.bool bW) (.bool aT) aK (.bool aU)=f):Nb v0 (.int v1) (.int v2) (.int v3) v4 v5 v6 v7 v8 v9 aB (.bool aA) aC (.bool aG) aD (.bool aH) aM (.bool aN) (.int aO) (.bool aT) aK (.bool aU) aV aW (.bool aY) aZ (.bool a_) bb (.bool be) bd (.bool bg) (.int bh) (.bool bm) bo (.bool bp) bq bs (.bool bA) bB (.bool bC) bD (.bool bu) bw (.bool bx) (.int bK) (.bool bM) bR (.bool bS) bE (.bool bG) (.int b0) bU bV (.bool bW) b7 (.bool bX) (.int b8) b_ b9 (.bool cc) cf (.bool ch) (.int cj) ck cm (.bool cn) ca cd cp =
  cond (v2=v3) (
 cond ((sl e 0).toInt=1) (
 cond ((sl f 0).toInt=1) (
 cond (D.strEq (sl e 1) (sl f 1)) (
 cond ((sl c 0).toInt=1) (
 cond ((sl d 0).toInt=1) (
 cond ((sl c 1).toInt=(sl d 1).toInt) (
 cond ((sl a 0).toInt=1) (
 cond ((sl b 0).toInt=1) (
 cond ((sl (U7 (sl a 1) (sl a 2) (sl b 1) (sl b 2)) 0).toInt=1) (
 cond ((sl (U7 (sl a 1) (sl a 2) (sl b 1) (sl b 2)) 1).toBool) (
 Sa v0 (.int (IntKind.wrap .i64 (v1+1))) v4 v5 v6 v7 v8 v9 aB (.bool aA) aC (.bool aG) aD (.bool aH) aM (.bool aN) (.int aO) (.bool aT) aK (.bool aU) bq bs (.bool bA) bB (.bool bC) bD (.bool bu) bw (.bool bx) (.int bK) (.bool bM) bR (.bool bS) bE (.bool bG) (.int b0) bU bV (.bool bW) cf (.bool ch) aW aZ bb (.int cj) ck cm (.bool cn) ca cp) (
 .row [.int 1,(.bool false)])) (
 .row [])) (
 .row [])) (
 .row [])) (
 .row [.int 1,(.bool false)])) (
 .row [])) (
 .row [])) (
 .row [.int 1,(.bool false)])) (
 .row [])) (
 .row [])) (
 .row [.int 1,(.bool false)]):=by
  subst h0;subst h1;subst h2;subst h3;subst h4;subst h5;exact gw rfl rfl (cQ (cQ (cQ (cg rfl (cQ (cQ (cQ (cQ (cQ (cQ rfl rfl) rfl) rfl) rfl) rfl) rfl) rfl) rfl) rfl) rfl)
end
end Ug
namespace Ug
open Go Go.AE
theorem OJ (v:D) (i:Int):0≤sAt v i∧sAt v i<256:=by
 unfold sAt;have:=((v.toStr.data.toList[i.toNat]?).getD 0).toNat_lt;omega
theorem Mo {v:D}:len (Ri v)=BE v:=by
 show (List.map _ _).length=_;simp [BE]
theorem Wx {v:D} {i:Nat} (h:i<BE v):(cl (Ri v) i 0).toInt=sAt v i:=by
 unfold cl sAt Ri;have h':i<v.toStr.data.toList.length:=h;simp [D.rows,A4,E1 h',D.cells,D.toInt]
theorem Wi {x:Int} (a:0≤x) (b:x<256):IntKind.wrap .u8 x=x:=by
 simp only [IntKind.wrap,IntKind.bits,IntKind.signed];have:=Int.emod_eq_of_lt a b
 simp_all
section
variable [Ai]
theorem O8 {v:D} (hs:BE v≤32):∀(k i:Nat),i+k=BE v→1≤i→∃b,Up (Ri v) (.int (BE v:Nat)) (.int i)=.row [.int 1,.bool b]
 |0,i,hi,e=>by
  exact ⟨true,by rw [li,ifF (by omega)]⟩
 |k+1,i,hi,e=>by
  obtain ⟨b,f⟩:=O8 hs k (i+1) (by omega) (by omega)
  have d:=OJ v i;have g:=Wx (v:=v) (i:=i) (by omega)
  have A:=li (Ri v) (BE v:Nat) (i:Int);rw [g,Wi d.1 d.2,Mo,AU (by omega) (by omega),show (i:Int)+1=((i+1:Nat):Int) by omega,f,ifT (by omega),ifF (by omega),ifT (by omega)] at A
  rw [A];have a:decide ((i:Int)=0)=false:=F1 (by omega)
  rw [a];simp only [E9];generalize sAt v i=c;by_cases c1:c<97
  ·simp only [ifT c1];by_cases c2:c<65
   ·simp only [ifT c2];by_cases c3:c<48
    ·simp only [ifT c3];exact ⟨_,rfl⟩
    ·simp only [ifF c3];by_cases c4:57<c
     ·simp only [ifT c4];exact ⟨_,rfl⟩
     ·simp only [ifF c4];exact ⟨_,rfl⟩
   ·simp only [ifF c2];by_cases c3:90<c
    ·simp only [ifT c3];by_cases c4:c=95
     ·simp only [ifT c4];exact ⟨_,rfl⟩
     ·simp only [ifF c4];exact ⟨_,rfl⟩
    ·simp only [ifF c3];exact ⟨_,rfl⟩
  ·simp only [ifF c1];by_cases c2:122<c
   ·simp only [ifT c2];exact ⟨_,by cases decide ((i:Int)=0)<;>rfl⟩
   ·simp only [ifF c2];exact ⟨_,rfl⟩
theorem fM (v:D):∃b,GY v=.row [.int 1,.bool b]:=by
 rw [va];by_cases c1:(BE v:Int)<1
 ·simp only [ifT c1];exact ⟨_,rfl⟩
 simp only [ifF c1];by_cases c2:32<(BE v:Int)
 ·simp only [ifT c2];exact ⟨_,rfl⟩
 simp only [ifF c2];obtain ⟨b,e⟩:=O8 (v:=v) (by omega) (BE v-1) 1 (by omega) (C1 _)
 have a:=OJ v (0:Nat);have f:=Wx (v:=v) (i:=0) (by omega)
 have A:=li (Ri v) (BE v:Nat) ((0:Nat):Int);rw [f,Wi a.1 a.2,Mo,AU (by omega) (by omega),show ((0:Nat):Int)+1=((1:Nat):Int) by omega,e,ifT (by omega),ifF (by omega),ifT (by omega)] at A
 have z:((0:Nat):Int)=0:=rfl;rw [z] at A a;rw [Mo,A];generalize sAt v 0=c;have d:decide ((0:Int)=0)=true:=rfl;rw [d];simp only [B4];cases decide (c<97)<;>cases decide (c<65)<;>cases decide (90<c)<;>cases decide (122<c)<;>exact ⟨_,rfl⟩
end
end Ug
namespace Ug
open Go Go.AE
def fd (l key:D):Int:=fdG (fun j=>D.strEq (cl l j 0) key) (len l) 0
theorem Da {l key:D}:fd l key<len l:=by
 have:=Eo (p:=fun j=>D.strEq (cl l j 0) key) (k:=len l) (i:=0)
 unfold fd;omega
theorem f9 {l key:D}:fd l key = -1∨0≤fd l key:=by
 have:=Kg (p:=fun j=>D.strEq (cl l j 0) key) (k:=len l) (i:=0)
 unfold fd;omega
theorem VG {l:D} {i:Nat} (h:i<len l):0≤fd l (cl l i 0)∧fd l (cl l i 0)≤i:=Iu (p:=fun j=>D.strEq (cl l j 0) (cl l i 0)) (hP _) (by omega) BS
theorem Oi {l key:D} (h:0≤fd l key):D.strEq (cl l (fd l key) 0) key=true:=by
 have:=IF (p:=fun j=>D.strEq (cl l j 0) key) (k:=len l) (i:=0) h
 have e:((fd l key).toNat:Int)=fd l key:=by omega
 rw [←e];exact this
theorem EK {F:Int→D} {l key:D} (hn:len l<4611686018427387904) (h:∀i:Int,F i=cond (decide (i<(len l:Int))) (cond (decide (i<0)) (.row []) (cond (D.strEq (cl l i 0) key) (.row [.int 1,.int i]) (F (IntKind.wrap .i64 (i+1))))) (.row [.int 1,.int (-1)])):F 0=.row [.int 1,.int (fd l key)]:=by
 refine find (F:=fun i=>F (i:Int)) (n:=len l) (bad:=fun j=>D.strEq (cl l j 0) key) (fun j a=>?_) ?_
 ·show F (j:Int)=_;rw [h,ifT (by omega),ifF (by omega),AR (by omega)]
 ·show F (len l:Int)=_;rw [h,ifF (by omega)]
section
variable [Ai]
variable {v0 v1 v2 v3 v4 v5:D}
theorem gi (hn:len v0<4611686018427387904) (k:D):YF v0 k=.row [.int 1,.int (fd v0 k)]:=(yH ..).trans (EK (F:=fun i=>cz v0 (.int i) k) hn fun i=>yS ..)
theorem gD (hn:len v0<4611686018427387904) (k:D):Ko v0 k=.row [.int 1,.int (fd v0 k)]:=(zp ..).trans (EK (F:=fun i=>eA v0 (.int i) k) hn fun i=>zh ..)
def nm (v:D):Bool:=(sl (GY v) 1).toBool
theorem VF (v:D):GY v=.row [.int 1,.bool (nm v)]:=by
 obtain ⟨b,a⟩:=fM v;unfold nm;rw [a];rfl
def Q3 (v2:D) (i:Nat):Bool:=!nm (cl v2 i 0)||decide (fd v2 (cl v2 i 0)<i)||decide ((cl v2 i 1).toInt<1)||decide (1000<(cl v2 i 1).toInt)
def Rb (v1:D) (i:Nat):Bool:=!nm (cl v1 i 0)||decide (fd v1 (cl v1 i 0)<i)||decide ((cl v1 i 2).toInt<0)||decide (1048576<(cl v1 i 2).toInt)
theorem sH (hn:len v2<1000) (v0 v1 v3:D):au (.int (len v2:Nat)) (.int 0) (.int 4) v0 v1 v2 v3=.row [.int 1,.int (cond (decide (4<(len v2:Int))) 4 (fdG (Q3 v2) (len v2) 0))]:=by
 rw [yP,ifF (by omega)]
 by_cases c:4<(len v2:Int)
 ·rw [ifT c,ifT c]
 rw [ifF c,ifF c];refine find (F:=fun i=>Xu (.int (len v2:Nat)) (.int (i:Nat)) v0 v1 v2 v3) (n:=len v2) (bad:=Q3 v2) (fun j a=>?_) ?_
 ·show Xu _ (.int (j:Nat)) _ _ _ _=_;rw [rL,ifT (by omega),ifF (by omega),ifT (by omega)]
  simp only [VF,gi (v0:=v2) (by omega),Az,Ay,Ao,Ap,B5,B4,AR (i:=j) (by omega)]
  unfold Q3;cases nm (cl v2 j 0)<;>cases decide (fd v2 (cl v2 j 0)<j)<;>cases decide ((cl v2 j 1).toInt<1)<;>cases decide (1000<(cl v2 j 1).toInt)<;>simp only [B4,E9,gg,fg,Bool.or_true,Bool.or_false,X7,R1]
 ·show Xu _ (.int (len v2:Nat)) _ _ _ _=_;rw [rL,ifF (by omega)]
theorem pi (hn:len v1<1000) (v0 v2 v3:D):bj (.int (len v1:Nat)) (.int 1) (.int 24) v0 v1 v2 v3=.row [.int 1,.int (cond (decide ((len v1:Int)<1)) 0 (cond (decide (24<(len v1:Int))) 24 (fdG (Rb v1) (len v1) 0)))]:=by
 rw [yO];by_cases c:(len v1:Int)<1
 ·rw [ifT c,ifT c]
 rw [ifF c,ifF c];by_cases c:24<(len v1:Int)
 ·rw [ifT c,ifT c]
 rw [ifF c,ifF c];refine find (F:=fun i=>WR (.int (len v1:Nat)) (.int (i:Nat)) v0 v1 v2 v3) (n:=len v1) (bad:=Rb v1) (fun j a=>?_) ?_
 ·show WR _ (.int (j:Nat)) _ _ _ _=_;rw [ry,ifT (by omega),ifF (by omega),ifT (by omega)]
  simp only [VF,gD (v0:=v1) (by omega),Az,Ay,Ao,Ap,B5,B4,AR (i:=j) (by omega)]
  unfold Rb;cases nm (cl v1 j 0)<;>cases decide (fd v1 (cl v1 j 0)<j)<;>cases decide ((cl v1 j 2).toInt<0)<;>cases decide (1048576<(cl v1 j 2).toInt)<;>simp only [B4,E9,gg,fg,Bool.or_true,Bool.or_false,X7,R1]
 ·show WR _ (.int (len v1:Nat)) _ _ _ _=_;rw [ry,ifF (by omega)]
end
end Ug
namespace Ug
open Go Go.AE
def HH (v3:D) (i j:Nat):Bool:=D.strEq (cl v3 j 0) (cl v3 i 0)&&(D.strEq (cl v3 j 1) (cl v3 i 1)&&(decide ((cl v3 j 2).toInt=(cl v3 i 2).toInt)&&(D.strEq (cl v3 j 3) (cl v3 i 3)&&(D.strEq (cl v3 j 4) (cl v3 i 4)&&(D.strEq (cl v3 j 5) (cl v3 i 5)&&(decide ((cl v3 j 6).toInt=(cl v3 i 6).toInt)&&(decide ((cl v3 j 7).toInt=(cl v3 i 7).toInt)&&decide ((cl v3 j 8).toInt=(cl v3 i 8).toInt))))))))
def dup (v3:D) (i:Nat):Bool:=!decide (fdG (HH v3 i) i 0<0)
def lQ (v2 v3:D) (i:Nat):Bool:=cond (eqC (cl v3 i 5) 0 0) (cond (decide ((cl v3 i 6).toInt=0)) (cond (decide ((cl v3 i 7).toInt=0)) (cond (decide ((cl v3 i 8).toInt=0)) false true) true) true)
 (cond (decide (fd v2 (cl v3 i 5)<0)) true (cond (decide ((cl v3 i 6).toInt<0)) true (cond (decide ((cl v3 i 7).toInt<(cl v3 i 6).toInt)) true (cond (decide ((cl v3 i 8).toInt<(-1000))) true (cond (decide (1000<(cl v3 i 8).toInt)) true
  (cond (decide ((cl v2 (fd v2 (cl v3 i 5)) 1).toInt<(cl v3 i 7).toInt)) true (cond (decide (IntKind.wrap .i64 ((cl v3 i 6).toInt+(cl v3 i 8).toInt)<0)) true (cond (decide ((cl v2 (fd v2 (cl v3 i 5)) 1).toInt<IntKind.wrap .i64 ((cl v3 i 7).toInt+(cl v3 i 8).toInt))) true false))))))))
def CJ (v3:D):Prop:=∀i:Nat,i<len v3→(∃n,cl v3 i 2=.int n)∧(∃n,cl v3 i 6=.int n)∧(∃n,cl v3 i 7=.int n)∧(∃n,cl v3 i 8=.int n)∧BE (cl v3 i 3)<4611686018427387904∧BE (cl v3 i 4)<4611686018427387904
section
variable [Ai]
def iI (v0 v1 v3:D) (i:Nat):Bool:=cond (decide ((cl v3 i 2).toInt=1)) (cond (nm (cl v3 i 3)) (cond (nm (cl v3 i 4)) (D.strEq (cl v3 i 4) v0) true) true)
 (cond (decide ((cl v3 i 2).toInt=2)) (cond (nm (cl v3 i 3)) (cond (nm (cl v3 i 4)) (D.strEq (cl v3 i 4) v0) true) true)
 (cond (decide ((cl v3 i 2).toInt=3)) (cond (eqC (cl v3 i 3) 0 0) (cond (eqC (cl v3 i 4) 0 0) (!decide (0<(cl v1 (fd v1 (cl v3 i 0)) 2).toInt)) true) true)
 (cond (decide ((cl v3 i 2).toInt=4)) (cond (eqC (cl v3 i 3) 0 0) (cond (eqC (cl v3 i 4) 0 0) false true) true) true)))
def NO (v0 v1 v2 v3:D) (i:Nat):Bool:=decide (fd v1 (cl v3 i 0)<0)||(decide (fd v1 (cl v3 i 1)<0)||(dup v3 i||(iI v0 v1 v3 i||lQ v2 v3 i)))
variable {v0 v1 v2 v3:D}
theorem nT (hs:CJ v3) (hn:len v3<1000) {i:Nat} (hi:i<len v3):∃n:Int,md (sb v3 0 i) (cl v3 i 0) (cl v3 i 1) (cl v3 i 2) (cl v3 i 3) (cl v3 i 4) (cl v3 i 5) (cl v3 i 6) (cl v3 i 7) (cl v3 i 8)=.row [.int 1,.int n]∧decide (n<0) = !dup v3 i:=by
 obtain ⟨⟨n2,h2⟩,⟨b,f⟩,⟨c,g⟩,⟨d,h⟩,_⟩:=hs i hi;refine ⟨fdG (HH v3 i) i 0,?_,by unfold dup;rw [Bool.not_not]⟩
 have hl:len (sb v3 0 i)=i:=by
  have:=QK (a:=v3) (lo:=0) (hi:=(i:Int)) (by omega) (by omega)
  omega
 rw [h2,f,g,h,zb];refine find (F:=fun j=>Xo (sb v3 0 i) (.int (j:Nat)) (cl v3 i 0) (cl v3 i 1) (.int n2) (cl v3 i 3) (cl v3 i 4) (cl v3 i 5) (.int b) (.int c) (.int d)) (n:=i) (bad:=HH v3 i) (fun j k=>?_) ?_
 ·show Xo (sb v3 0 i) (.int (j:Nat)) (cl v3 i 0) (cl v3 i 1) (.int n2) (cl v3 i 3) (cl v3 i 4) (cl v3 i 5) (.int b) (.int c) (.int d)=_;rw [qv,hl,ifT (by omega),ifF (by omega),AR (by omega)]
  simp only [JP (a:=v3) (i:=i) (j:=j) (by omega) k]
  have e:(D.strEq (cl v3 i 0) (cl v3 j 0)&&(D.strEq (cl v3 i 1) (cl v3 j 1)&&(decide (n2=(cl v3 j 2).toInt)&&(D.strEq (cl v3 i 3) (cl v3 j 3)&&(D.strEq (cl v3 i 4) (cl v3 j 4)&&(D.strEq (cl v3 i 5) (cl v3 j 5)&&(decide (b=(cl v3 j 6).toInt)&&(decide (c=(cl v3 j 7).toInt)&&decide (d=(cl v3 j 8).toInt)))))))))=HH v3 i j:=by
   unfold HH;rw [h2,f,g,h];simp only [Ao];rw [AM (a:=cl v3 i 0),AM (a:=cl v3 i 1),AM (a:=cl v3 i 3),AM (a:=cl v3 i 4),AM (a:=cl v3 i 5)];rw [SQ (x:=n2),SQ (x:=b),SQ (x:=c),SQ (x:=d)];rfl
  rw [e]
 ·show Xo (sb v3 0 i) (.int (i:Nat)) (cl v3 i 0) (cl v3 i 1) (.int n2) (cl v3 i 3) (cl v3 i 4) (cl v3 i 5) (.int b) (.int c) (.int d)=_;rw [qv,hl,ifF (by omega)]
theorem ZK (hs:CJ v3) (hn:len v3<1000) (a:len v1<1000) (b:len v2<1000) {i:Nat} (hi:i<len v3):EP (.int (len v3:Nat)) (.int (i:Nat)) v0 v1 v2 v3=cond (NO v0 v1 v2 v3 i) (.row [.int 1,.int (i:Nat)]) (EP (.int (len v3:Nat)) (.int (i+1:Nat)) v0 v1 v2 v3):=by
 obtain ⟨n,c,d⟩:=nT hs hn hi;obtain ⟨_,_,_,_,e,f⟩:=hs i hi;rw [ig (h0:=rfl) (h1:=rfl) (h2:=rfl),ifT (by omega),ifF (by omega),ifT (by omega)]
 have a1:=Da (l:=v1) (key:=cl v3 i 0);have a2:=Da (l:=v2) (key:=cl v3 i 5);have d1:decide ((BE (cl v3 i 3):Int)<4611686018427387904)=true:=F6 (by omega)
 have d2:decide ((BE (cl v3 i 4):Int)<4611686018427387904)=true:=F6 (by omega)
 have d3:decide ((len v3:Int)<i)=false:=F1 (by omega)
 simp only [c,d,VF,gi (v0:=v2) (by omega),gD (v0:=v1) (by omega),Az,Ay,Ao,Ap,B5,B4,E9,AR (i:=i) (by omega),F6 a1,F6 a2,d1,d2,d3,Uj]
 unfold NO iI;generalize EP (.int (len v3:Nat)) (.int (i+1:Nat)) v0 v1 v2 v3=X;generalize g:(D.row [.int 1,.int (i:Nat)])=Y;cases decide (fd v1 (cl v3 i 0)<0)<;>cases decide (fd v1 (cl v3 i 1)<0)<;>cases dup v3 i<;>simp only [B4,E9,X7,R1,gg,fg,Bool.cond_self]
 unfold lQ;by_cases k1:(cl v3 i 2).toInt=1
 ·simp only [ifT k1];cases nm (cl v3 i 3)<;>cases nm (cl v3 i 4)<;>cases D.strEq (cl v3 i 4) v0<;>simp only [B4,E9,X7,R1]
  repeat' (refine PB (fun h=>?_) (fun h=>?_))<;>simp only [*,B4,E9]
 simp only [ifF k1];by_cases k2:(cl v3 i 2).toInt=2
 ·simp only [ifT k2];cases nm (cl v3 i 3)<;>cases nm (cl v3 i 4)<;>cases D.strEq (cl v3 i 4) v0<;>simp only [B4,E9,X7,R1]
  repeat' (refine PB (fun h=>?_) (fun h=>?_))<;>simp only [*,B4,E9]
 simp only [ifF k2];by_cases k3:(cl v3 i 2).toInt=3
 ·simp only [ifT k3];cases eqC (cl v3 i 3) 0 0<;>cases eqC (cl v3 i 4) 0 0<;>cases decide (0<(cl v1 (fd v1 (cl v3 i 0)) 2).toInt)<;>simp only [B4,E9,X7,R1,g6,hX,Bool.and_false,Bool.false_and,gg,fg]
  repeat' (refine PB (fun h=>?_) (fun h=>?_))<;>simp only [*,B4,E9]
 simp only [ifF k3];by_cases k4:(cl v3 i 2).toInt=4
 ·simp only [ifT k4];cases eqC (cl v3 i 3) 0 0<;>cases eqC (cl v3 i 4) 0 0<;>simp only [B4,E9,X7,R1,g6,hX,Bool.and_false,Bool.false_and,gg,fg]
  repeat' (refine PB (fun h=>?_) (fun h=>?_))<;>simp only [*,B4,E9]
 simp only [ifF k4,B4,X7]
theorem lI (hs:CJ v3) (hn:len v3<1000) (a:len v1<1000) (b:len v2<1000) (v0:D):QZ (.int (len v3:Nat)) (.int 0) (.int 80) v0 v1 v2 v3=.row [.int 1,.int (cond (decide (80<(len v3:Int))) 80 (fdG (NO v0 v1 v2 v3) (len v3) 0))]:=by
 rw [oP,ifF (by omega)]
 by_cases c:80<(len v3:Int)
 ·rw [ifT c,ifT c]
 rw [ifF c,ifF c];refine find (F:=fun i=>EP (.int (len v3:Nat)) (.int (i:Nat)) v0 v1 v2 v3) (n:=len v3) (bad:=NO v0 v1 v2 v3) (fun j d=>ZK hs hn a b d) ?_
 show EP _ (.int (len v3:Nat)) _ _ _ _=_;rw [ig (h0:=rfl) (h1:=rfl) (h2:=rfl),ifF (by omega)]
end
end Ug
namespace Ug
open Go Go.AE
section
variable [Ai]
variable {v0 v1 v2 v3:D}
def Rw (v2:D):Int:=cond (decide (4<(len v2:Int))) 4 (fdG (Q3 v2) (len v2) 0)
def Uh (v1:D):Int:=cond (decide ((len v1:Int)<1)) 0 (cond (decide (24<(len v1:Int))) 24 (fdG (Rb v1) (len v1) 0))
def UK (v0 v1 v2 v3:D):Int:=cond (decide (80<(len v3:Int))) 80 (fdG (NO v0 v1 v2 v3) (len v3) 0)
def rok (v0 v1 v2 v3:D):Bool:=nm v0&&(decide (Rw v2<0)&&(decide (Uh v1<0)&&decide (UK v0 v1 v2 v3<0)))
end
end Ug
namespace Ug
open Go Go.AE
section
variable [Ai]
variable {v0 v1 v2 v3:D}
def GU (v0 v1 v2 v3:D):Int:=cond (nm v0) (cond (decide (Rw v2<0)) (cond (decide (Uh v1<0)) (cond (decide (UK v0 v1 v2 v3<0)) 0 293) 292) 291) 290
theorem Hw:decide (GU v0 v1 v2 v3=0)=rok v0 v1 v2 v3:=by
 unfold GU rok;cases nm v0
 ·rfl
 cases decide (Rw v2<0)
 ·rfl
 cases decide (Uh v1<0)
 ·rfl
 cases decide (UK v0 v1 v2 v3<0)<;>rfl
theorem JZ (hs:CJ v3) (hn:len v3<1000) (b:len v1<1000) (c:len v2<1000) (v0:D):∃a,Ej v0 v1 v2 v3=.row [.int 1,.int a,.int (GU v0 v1 v2 v3)]:=by
 rw [tn];simp only [VF,sH c,pi b,lI hs hn b c,Az,Ay,Ao,Ap,B5,B4];unfold GU;cases nm v0
 ·exact ⟨_,rfl⟩
 simp only [B4];by_cases c1:Rw v2<0;rotate_left
 ·have d:=c1;unfold Rw at c1;rw [ifF c1,ifF d];exact ⟨_,rfl⟩
 rw [ifT c1];unfold Rw at c1;rw [ifT c1];by_cases c2:Uh v1<0;rotate_left
 ·have e:=c2;unfold Uh at c2;rw [ifF c2,ifF e];exact ⟨_,rfl⟩
 rw [ifT c2];unfold Uh at c2;rw [ifT c2];by_cases c3:UK v0 v1 v2 v3<0;rotate_left
 ·have f:=c3;unfold UK at c3;rw [ifF c3,ifF f];exact ⟨_,rfl⟩
 rw [ifT c3];unfold UK at c3;rw [ifT c3];exact ⟨_,rfl⟩
theorem YL {v:D} (h:nm v=true):1≤BE v:=by
 rcases F8 0 (BE v) with q|q
 ·exact q
 unfold nm at h;rw [va,ifT (by omega)] at h
 cases h
end
structure Rk (S C T:D):Prop where
 s0:0<len S
 s1:len S<1000
 c1:len C≤4
 t1:len T≤20
 wt:∀i:Nat,i<len S→0≤(cl S i 2).toInt∧(cl S i 2).toInt≤1048576
 tmo:∀i:Nat,i<len T→(cl T i 2).toInt=3→0<(cl S (fd S (cl T i 0)) 2).toInt
 sne:∀i:Nat,i<len S→eqC (cl S i 0) 0 0=false
 sid:∀i:Nat,i<len S→fd S (cl S i 0)=i
 cid:∀i:Nat,i<len C→fd C (cl C i 0)=i
 lim:∀i:Nat,i<len C→1≤(cl C i 1).toInt∧(cl C i 1).toInt≤1000
 cne:∀i:Nat,i<len C→eqC (cl C i 0) 0 0=false
 cI:∀i:Nat,i<len C→∃m,cl C i 1=.int m
 tI:CJ T
 frm:∀i:Nat,i<len T→0≤fd S (cl T i 0)
 to:∀i:Nat,i<len T→0≤fd S (cl T i 1)
 ctr:∀i:Nat,i<len T→(eqC (cl T i 5) 0 0=true∧fd C (cl T i 5) = -1)∨(eqC (cl T i 5) 0 0=false∧0≤fd C (cl T i 5)∧0≤(cl T i 6).toInt∧(cl T i 6).toInt≤(cl T i 7).toInt∧
  (cl T i 7).toInt≤(cl C (fd C (cl T i 5)) 1).toInt∧-1000≤(cl T i 8).toInt∧(cl T i 8).toInt≤1000∧0≤(cl T i 6).toInt+(cl T i 8).toInt∧(cl T i 7).toInt+(cl T i 8).toInt≤(cl C (fd C (cl T i 5)) 1).toInt)
section
variable [Ai]
theorem Zn {v0 S C T:D} (h:rok v0 S C T=true) (t:∀i:Nat,i<len C→∃m,cl C i 1=.int m) (u:CJ T) (x:len S≤8) (v:len T≤20):Rk S C T:=by
 unfold rok at h;simp only [B1] at h;obtain ⟨_,a,c,d⟩:=h;unfold Rw at a;unfold Uh at c;unfold UK at d;by_cases c1:4<(len C:Int)
 ·rw [ifT c1] at a;cases a
 rw [ifF c1] at a;by_cases c2:(len S:Int)<1
 ·rw [ifT c2] at c;cases c
 rw [ifF c2,ifF (by omega)] at c
 rw [ifF (by omega)] at d
 have w:∀i,i<len C→Q3 C i=false:=fun i hi=>Dq (k:=len C) (i:=0) (by omega) (.inr ⟨dT a,by omega⟩)
 have n:∀i,i<len S→Rb S i=false:=fun i hi=>Dq (k:=len S) (i:=0) (by omega) (.inr ⟨dT c,by omega⟩)
 have f:∀i,i<len T→NO v0 S C T i=false:=fun i hi=>Dq (k:=len T) (i:=0) (by omega) (.inr ⟨dT d,by omega⟩)
 have j:∀i,i<len C→nm (cl C i 0)=true∧fd C (cl C i 0)=i∧1≤(cl C i 1).toInt∧(cl C i 1).toInt≤1000:=fun i hi=>by
  have b:=w i hi;unfold Q3 at b;simp only [K1,Bool.not_eq_false'] at b;have s:=VG hi;have b2:=dF b.1.1.2;have b3:=dF b.1.2;have y:=dF b.2;exact ⟨b.1.1.1,by omega,by omega,by omega⟩
 have p:∀i,i<len C→eqC (cl C i 0) 0 0=false:=fun i hi=>by
  rw [ET];have:=YL (j i hi).1;exact F1 (by omega)
 refine ⟨by omega,by omega,by omega,v,fun i hi=>?_,fun i hi d=>?_,fun i hi=>?_,fun i hi=>?_,fun i hi=>(j i hi).2.1,fun i hi=>(j i hi).2.2,p,t,u,fun i hi=>?_,fun i hi=>?_,fun i hi=>?_⟩
 ·have b:=n i hi;unfold Rb at b;simp only [K1] at b;have b2:=dF b.1.2;have b3:=dF b.2;omega
 ·have b:=f i hi;unfold NO at b;simp only [K1] at b;have b:=b.2.2.2.1;unfold iI at b;rw [ifF (by omega),ifF (by omega),ifT d] at b
  cases o:eqC (cl T i 3) 0 0
  ·rw [o] at b;cases b
  cases q:eqC (cl T i 4) 0 0
  ·rw [o,q] at b;cases b
  rw [o,q] at b;simp only [B4,Bool.not_eq_false'] at b;exact dT b
 ·have b:=n i hi;unfold Rb at b;simp only [K1,Bool.not_eq_false'] at b;rw [ET];have:=YL b.1.1.1;exact F1 (by omega)
 ·have b:=n i hi;unfold Rb at b;simp only [K1] at b;have s:=VG hi;have b2:=dF b.1.1.2;omega
 ·have b:=f i hi;unfold NO at b;simp only [K1] at b;exact Int.not_lt.1 (dF b.1)
 ·have b:=f i hi;unfold NO at b;simp only [K1] at b;exact Int.not_lt.1 (dF b.2.1)
 ·have b:=f i hi;unfold NO at b;simp only [K1] at b;have b:=b.2.2.2.2;unfold lQ at b;cases r:eqC (cl T i 5) 0 0
  ·right;rw [r] at b;simp only [E9] at b;by_cases d1:fd C (cl T i 5)<0
   ·rw [ifT d1] at b;cases b
   rw [ifF d1] at b;by_cases d2:(cl T i 6).toInt<0
   ·rw [ifT d2] at b;cases b
   rw [ifF d2] at b;by_cases d3:(cl T i 7).toInt<(cl T i 6).toInt
   ·rw [ifT d3] at b;cases b
   rw [ifF d3] at b;by_cases d4:(cl T i 8).toInt < -1000
   ·rw [ifT d4] at b;cases b
   rw [ifF d4] at b;by_cases d5:1000<(cl T i 8).toInt
   ·rw [ifT d5] at b;cases b
   rw [ifF d5] at b;by_cases d6:(cl C (fd C (cl T i 5)) 1).toInt<(cl T i 7).toInt
   ·rw [ifT d6] at b;cases b
   rw [ifF d6] at b;have lt:=Da (l:=C) (key:=cl T i 5);have l:=j (fd C (cl T i 5)).toNat (by omega)
   rw [show (((fd C (cl T i 5)).toNat:Nat):Int)=fd C (cl T i 5) by omega] at l
   rw [AU (by omega) (by omega),AU (by omega) (by omega)] at b
   by_cases d7:(cl T i 6).toInt+(cl T i 8).toInt<0
   ·rw [ifT d7] at b;cases b
   rw [ifF d7] at b;by_cases d8:(cl C (fd C (cl T i 5)) 1).toInt<(cl T i 7).toInt+(cl T i 8).toInt
   ·rw [ifT d8] at b;cases b
   exact ⟨rfl,by omega,by omega,by omega,by omega,by omega,by omega,by omega,by omega⟩
  ·left;refine ⟨rfl,?_⟩;rcases f9 (l:=C) (key:=cl T i 5) with g|g
   ·exact g
   exfalso
   have lt:=Da (l:=C) (key:=cl T i 5);have s:=Oi g
   have e:eqC (cl C (fd C (cl T i 5)) 0) 0 0=eqC (cl T i 5) 0 0:=by
    rw [ET,ET];unfold BE;rw [Fc.1 s]
   have l:=p (fd C (cl T i 5)).toNat (by omega)
   rw [show (((fd C (cl T i 5)).toNat:Nat):Int)=fd C (cl T i 5) by omega] at l
   rw [e,r] at l;cases l
end
end Ug

