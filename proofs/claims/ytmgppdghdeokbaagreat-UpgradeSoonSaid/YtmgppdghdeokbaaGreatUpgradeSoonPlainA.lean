/- What is proved: what the plain functions over data say, whose trees the text before writes out: the law UpgradeSoon answers true. Conditions: those that each theorem states. -/
import Derived.Test.YtmgppdghdeokbaaGreatUpgradeSoonTree
set_option linter.unusedVariables false
set_option linter.unusedSectionVars false
set_option linter.unusedSimpArgs false
namespace Go.AE
section
variable [Ao]
def atV (Ts:List (List (Tr Plf))) (xs:List D):Val:=CP (Ai Ts) xs
def fin (Ts:List (List (Tr Plf))) (k:Nat) (V:Val):Plf→D
 | .stuck=>.row []
 | .done s cs=>.row (.int (s + 1:Nat) :: cs.map (Ab V))
 | .next j θ=>Ai Ts k (.row (.int j :: θ.map (Ab V)))
def SS (Ts:List (List (Tr Plf))) (k:Nat) (V:Val) (t:Tr Plf):D:=fin Ts k V (t.get V)
theorem uI {Ts:List (List (Tr Plf))} (h:Ec 0 Ts=true) {k p:Nat} {T:List (Tr Plf)} {t:Tr Plf} {xs:List D} (hk:Ts[k]? = some T) (hp:T[p]? = some t) :
  Ai Ts k (.row (.int (p:Nat) :: xs))=SS Ts k (atV Ts xs) t:=by
 have hd:BJ T (Ai Ts) (.row (.int (p:Nat) :: xs))=Cl (atV Ts xs) (t.get (atV Ts xs)):=by
  show (match T[p]? with | some t=>Cl _ (t.get _) | none=>none)=_
  rw [hp];rfl
 unfold SS fin;split
 ·rename_i e;rw [e] at hd;rw [An h hk];rcases Ex (BJ T (Ai Ts)) (.row (.int (p:Nat) :: xs)) with q | ⟨n,q⟩
  ·exact q
  ·cases n with
   | zero=>cases q
   | succ n=>
    simp only [Fz,hd] at q;cases q
 ·rename_i e;rw [e] at hd;rw [An h hk];exact PF hd
 ·rename_i e;rw [e] at hd;rw [An h hk,Qf hd,← An h hk]
theorem RV {Ts:List (List (Tr Plf))} {k:Nat} {V:Val} {e:SB} {a b:Tr Plf}:SS Ts k V (.split e a b)=if Ah V e=true then SS Ts k V a else SS Ts k V b:=by
 unfold SS;rw [show (Tr.split e a b).get V=match Ah V e with | true=>a.get V | false=>b.get V from rfl]
 cases Ah V e<;>rfl
end
theorem AO {a:Int} (h:-9223372036854775808≤a) (h':a < 9223372036854775808):IntKind.wrap .i64 a=a:=by
 show (if (true && decide (a % (2 ^ 64:Int)≥2 ^ 63))=true then a % (2 ^ 64:Int) - 2 ^ 64 else a % (2 ^ 64:Int))=a
 split
 ·rename_i q;simp only [Bool.true_and,decide_eq_true_eq] at q;omega
 ·rename_i q;simp only [Bool.true_and,decide_eq_true_eq] at q;omega
def len (d:D):Nat:=d.rows.length
def BG (d:D):Nat:=d.toStr.data.toList.length
def cl (a:D) (i:Int) (j:Nat):D:=(a.rows.getD i.toNat default).cells.getD j default
def sl (a:D) (j:Nat):D:=a.cells.getD j default
def Aw:D:=.slc true []
def Ar:D:=.slc false []
def ad (a r:D):D:=.slc false (a.rows ++ [r])
def upd (a:D) (i:Int) (j:Nat) (x:D):D:=.slc a.isNil (a.rows.modify i.toNat fun r=>.row (r.cells.set j x))
def rp (n:Int) (r:D):D:=.slc false (List.replicate n.toNat r)
def ct (a b:D):D:=.slc (a.isNil && b.rows.isEmpty) (a.rows ++ b.rows)
def sb (a:D) (lo hi:Int):D:=.slc a.isNil ((a.rows.drop lo.toNat).take (hi.toNat - lo.toNat))
def ni (a:D) (b:Bool):D:=.slc b a.rows
def CN (l b:Nat):D:=.str ⟨(Dt l b).toArray⟩
def Zg (a b:D):D:=.str (a.toStr ++ b.toStr)
def PY (a:D):D:=.slc false (a.toStr.data.toList.map fun b=>.row [.int b.toNat])
def mIx (ks:List Kd) (a k:D):Int:=FT ks k.cells a.rows 0
def KM (a:D) (i:Int):D:=.slc a.isNil (a.rows.eraseIdx i.toNat)
def sAt (a:D) (i:Int):Int:=((a.toStr.data.toList[i.toNat]?).getD 0).toNat
def eqC (a:D) (l b:Nat):Bool:=strEq a.toStr.data.toList.length (AL a.toStr.data.toList) l b
def ari (op:BinOp) (k:IntKind) (x y:Int):Int:=match DF op k x y with
 | some (.int _ n)=>n
 | _=>0
theorem ifT {α:Type} {p:Prop} [Decidable p] {a b:α} (h:p):cond (decide p) a b=a:=by rw [decide_eq_true h];rfl
theorem ifF {α:Type} {p:Prop} [Decidable p] {a b:α} (h:¬p):cond (decide p) a b=b:=by rw [decide_eq_false h];rfl
theorem cT {α:Type} {c:Bool} {a b:α} (h:c=true):cond c a b=a:=by rw [h];rfl
theorem cF {α:Type} {c:Bool} {a b:α} (h:c=false):cond c a b=b:=by rw [h];rfl
section
variable [Ao]
def Ek (Ts:List (List (Tr Plf))) (k:Nat) (V:Val):Tr Plf→D
 | .leaf l=>fin Ts k V l
 | .split e a b=>cond (Ah V e) (Ek Ts k V a) (Ek Ts k V b)
theorem Jw {Ts:List (List (Tr Plf))} {k:Nat} {V:Val}:∀t:Tr Plf,SS Ts k V t=Ek Ts k V t
 | .leaf l=>rfl
 | .split e a b=>by
  rw [RV,Jw a,Jw b,Ek];cases Ah V e<;>rfl
theorem dj {Ts:List (List (Tr Plf))} (h:Ec 0 Ts=true) {k p:Nat} {T:List (Tr Plf)} {t:Tr Plf} {xs:List D} (hk:Ts[k]? = some T) (hp:T[p]? = some t) :
  Ai Ts k (.row (.int (p:Nat) :: xs))=Ek Ts k (atV Ts xs) t:=(uI h hk hp).trans (Jw t)
theorem cg {Ts:List (List (Tr Plf))} {k:Nat} {V:Val} {e:SB} {a b:Tr Plf} {c:Bool} {x y:D} (h:Ah V e=c) (ha:Ek Ts k V a=x) (hb:Ek Ts k V b=y):Ek Ts k V (.split e a b)=cond c x y:=by
 rw [Ek,h,ha,hb]
end
theorem lE {V:Val} {a b:SE} {x y:Int} (h:(Ab V a).toInt=x) (h':(Ab V b).toInt=y):Ah V (.lss a b)=decide (x < y):=by rw [← h,← h'];rfl
theorem qE {V:Val} {a b:SE} {x y:Int} (h:(Ab V a).toInt=x) (h':(Ab V b).toInt=y):Ah V (.eql a b)=decide (x=y):=by rw [← h,← h'];rfl
section
variable [Ao]
theorem cL {Ts:List (List (Tr Plf))} {k:Nat} {V:Val} {e f:SE} {a b:Tr Plf} {m n:Int} {x y:D} (ha:Ek Ts k V a=x) (hb:Ek Ts k V b=y) (h:(Ab V e).toInt=m:=by rfl) (h':(Ab V f).toInt=n:=by rfl):Ek Ts k V (.split (.lss e f) a b)=cond (decide (m < n)) x y:=cg (lE h h') ha hb
theorem cQ {Ts:List (List (Tr Plf))} {k:Nat} {V:Val} {e f:SE} {a b:Tr Plf} {m n:Int} {x y:D} (ha:Ek Ts k V a=x) (hb:Ek Ts k V b=y) (h:(Ab V e).toInt=m:=by rfl) (h':(Ab V f).toInt=n:=by rfl):Ek Ts k V (.split (.eql e f) a b)=cond (decide (m=n)) x y:=cg (qE h h') ha hb
end
theorem aE {V:Val} {a b:SE} {x y:Bool} (h:Ah V a=x) (h':Ah V b=y):Ah V (.and a b)=(x && y):=by rw [← h,← h'];rfl
def Wd (a:D) (n:Nat):Prop:=∀r ∈ a.rows,∃cs,r=.row cs∧cs.length=n
theorem CC {a x:D} {i:Int} {j:Nat}:len (upd a i j x)=len a:=by
 show (a.rows.modify _ _).length=_;simp [len]
theorem AN {a r:D}:len (ad a r)=len a + 1:=by
 show (a.rows ++ [r]).length=_;simp [len]
theorem CO:len Aw=0:=rfl
theorem Bt:len Ar=0:=rfl
theorem Lj {a b:D}:len (ct a b)=len a + len b:=by
 show (a.rows ++ b.rows).length=_;simp [len]
theorem Jv {a:D} {b:Bool}:len (ni a b)=len a:=rfl
theorem Xd {a:D} {lo hi:Int} (h:lo.toNat≤hi.toNat) (h':hi.toNat≤len a):len (sb a lo hi)=hi.toNat - lo.toNat:=by
 show ((a.rows.drop _).take _).length=_;have:hi.toNat≤a.rows.length:=h';simp;omega
theorem AC {x:D} {l:List D}:sl (.row (x :: l)) 0=x:=rfl
theorem AB {x:D} {l:List D} {n:Nat}:sl (.row (x :: l)) (n + 1)=sl (.row l) n:=rfl
theorem Aq {n:Int}:(D.int n).toInt=n:=rfl
theorem Ap {b:Bool}:(D.bool b).toBool=b:=rfl
theorem Gg {n:Nat}:Wd Aw n:=fun r hr=>(by cases hr)
theorem Ey {n:Nat}:Wd Ar n:=fun r hr=>(by cases hr)
theorem EQ {a:D} {cs:List D} {n:Nat} (h:Wd a n) (hc:cs.length=n):Wd (ad a (.row cs)) n:=by
 intro r hr;have hr:r ∈ a.rows ++ [.row cs]:=hr;rcases List.mem_append.1 hr with q | q
 ·exact h r q
 ·exact ⟨cs,List.mem_singleton.1 q,hc⟩
theorem Db {a x:D} {i:Int} {j n:Nat} (h:Wd a n):Wd (upd a i j x) n:=by
 intro r hr;have hr':r ∈ a.rows.modify i.toNat fun r=>.row (r.cells.set j x):=hr
 obtain ⟨k,hk,e⟩:=List.getElem_of_mem hr';rw [List.getElem_modify] at e;have hk':k < a.rows.length:=by simpa using hk
 obtain ⟨cs,hc,hn⟩:=h _ (List.getElem_mem hk');split at e
 ·rw [hc] at e;exact ⟨_,e.symm,by simp [D.cells,hn]⟩
 ·exact ⟨cs,by rw [← e];exact hc,hn⟩
theorem Uu {a:D} {b:Bool} {n:Nat} (h:Wd a n):Wd (ni a b) n:=h
theorem b9 {a b:D} {n:Nat} (h:Wd a n) (h':Wd b n):Wd (ct a b) n:=fun r hr=>(List.mem_append.1 hr).elim (h r) (h' r)
theorem Ct {a x:D} {i k:Int} {j j' n:Nat} (h:Wd a n) (hj:j < n) (hi:0≤i) (hi':i < len a) (hk:0≤k):cl (upd a i j x) k j'=if k=i∧j'=j then x else cl a k j':=by
 have hi2:i.toNat < a.rows.length:=by have:len a=a.rows.length:=rfl;omega
 show ((a.rows.modify i.toNat fun r=>D.row (r.cells.set j x))[k.toNat]?.getD default).cells.getD j' default=_
 rw [List.getElem?_modify];by_cases q:k=i
 ·subst q;obtain ⟨cs,hc,hn⟩:=h _ (List.getElem_mem hi2);rw [List.getElem?_eq_getElem hi2];show ((if k.toNat=k.toNat then D.row ((a.rows[k.toNat]).cells.set j x) else a.rows[k.toNat]).cells[j']?).getD default=_
  rw [if_pos rfl,hc];show ((cs.set j x)[j']?).getD default=_;rw [List.getElem?_set];by_cases q':j=j'
  ·subst q';rw [if_pos rfl,if_pos (by omega),if_pos ⟨rfl,rfl⟩]
   rfl
  ·rw [if_neg q',if_neg (fun c=>q' c.2.symm)]
   show _=(a.rows[k.toNat]?.getD default).cells.getD j' default;rw [List.getElem?_eq_getElem hi2,Option.getD_some,hc];rfl
 ·have q2:¬i.toNat=k.toNat:=by omega
  rw [if_neg (fun c=>q c.1)]
  simp [q2,cl]
theorem Cj {a r:D} {k:Int} {j:Nat} (hk:0≤k):cl (ad a r) k j=if k=len a then sl r j else cl a k j:=by
 have hl:len a=a.rows.length:=rfl;show ((a.rows ++ [r])[k.toNat]?.getD default).cells.getD j default=_;by_cases q:k.toNat < a.rows.length
 ·rw [List.getElem?_append_left q,if_neg (by omega)]
  rfl
 ·by_cases q':k=len a
  ·subst q';rw [if_pos rfl];have:((len a:Int)).toNat=a.rows.length:=by omega
   rw [this];simp [sl]
  ·rw [if_neg q',List.getElem?_eq_none (by simp;omega)]
   show _=(a.rows[k.toNat]?.getD default).cells.getD j default;rw [List.getElem?_eq_none (by omega)]
theorem TU {a:D} {b:Bool} {k:Int} {j:Nat}:cl (ni a b) k j=cl a k j:=rfl
theorem VV {P:Program} {ts:List TypeId} {xs:List D} {ks:List Kd} (h:Jl P ts xs) (hk:AU (Env.of P) ts=some ks):ks.length=xs.length∧Mx (Env.of P).kinds 9 ks xs:=by
 obtain ⟨ks',cs,M,e,hd,_,hc⟩:=h;rw [hk] at e;cases e;exact ⟨hd.len.2,hc⟩
theorem gh {x c:Int} {l:List D} (h:x≠c):¬(sl (.row (.int x :: l)) 0).toInt=c:=h
theorem ES.cell {K:TypeId→Option (List Kd)} {m j:Nat} {e:TypeId} {ks:List Kd} {kd:Kd} {d:D} {i:Int} (h:ES K (m + 1) (.slice e) d) (hk:K e=some ks) (h0:0≤i) (hi:i < len d) (hj:ks[j]? = some kd):ES K m kd (cl d i j):=by
 obtain ⟨nl,rows,rfl,_,q⟩:=h;have hi':i.toNat < rows.length:=by have:len (.slc nl rows)=rows.length:=rfl;omega
 obtain ⟨cs,e1,_,e3⟩:=q ks hk _ (List.getElem_mem hi');show ES K m kd ((rows[i.toNat]?.getD default).cells.getD j default);rw [List.getElem?_eq_getElem hi',Option.getD_some,e1];exact e3 j kd hj
theorem ES.toI {K:TypeId→Option (List Kd)} {m:Nat} {k:IntKind} {d:D} (h:ES K m (.int k) d):∃n,d=.int n:=by cases m<;>exact h
theorem ES.toB {K:TypeId→Option (List Kd)} {m:Nat} {d:D} (h:ES K m .bool d):∃b,d=.bool b:=by cases m<;>exact h
theorem ES.wd {K:TypeId→Option (List Kd)} {m:Nat} {e:TypeId} {ks:List Kd} {d:D} (h:ES K (m + 1) (.slice e) d) (hk:K e=some ks):Wd d ks.length:=by
 obtain ⟨nl,rows,rfl,_,q⟩:=h;intro r hr;obtain ⟨cs,e1,e2,_⟩:=q ks hk r hr;exact ⟨cs,e1,e2⟩
def fdG (p:Nat→Bool):Nat→Nat→Int
 | 0,_=>-1
 | k + 1,i=>cond (p i) (i:Int) (fdG p k (i + 1))
theorem Fe {p:Nat→Bool}:∀{k i:Nat},fdG p k i < i + k
 | 0,i=>by show (-1:Int) < _;omega
 | k + 1,i=>by
  rw [fdG];have:=Fe (p:=p) (k:=k) (i:=i + 1);cases p i
  ·show fdG p k (i + 1) < _;omega
  ·show (i:Int) < _;omega
theorem L4 {p:Nat→Bool}:∀{k i:Nat},fdG p k i = -1∨(i:Int)≤fdG p k i
 | 0,i=>.inl rfl
 | k + 1,i=>by
  rw [fdG];cases p i
  ·show fdG p k (i + 1)=_∨_≤fdG p k (i + 1);rcases L4 (p:=p) (k:=k) (i:=i + 1) with h | h
   ·exact .inl h
   ·exact .inr (by omega)
  ·exact .inr (Int.le_refl _)
theorem Jz {p:Nat→Bool}:∀{k i:Nat},0≤fdG p k i→p (fdG p k i).toNat=true
 | 0,i=>fun h=>by simp [fdG] at h
 | k + 1,i=>by
  rw [fdG];cases q:p i
  ·exact Jz (k:=k)
  ·intro _;show p i=true;exact q
theorem OD {p:Nat→Bool}:∀{k i j:Nat},i≤j→j < i + k→p j=true→0≤fdG p k i∧fdG p k i≤j
 | 0,i,j=>fun h h'=>by omega
 | k + 1,i,j=>by
  intro h h' hp;rw [fdG];cases q:p i
  ·have:i≠j:=fun c=>by rw [c,hp] at q;cases q
   exact OD (k:=k) (by omega) (by omega) hp
  ·show 0≤(i:Int)∧(i:Int)≤j;omega
theorem Co {p:Nat→Bool} {k i j:Nat} (h:i≤j) (h':(j:Int) < fdG p k i∨(fdG p k i < 0∧j < i + k)):p j=false:=by
 cases q:p j
 ·rfl
 ·have:=Fe (p:=p) (k:=k) (i:=i);have:=OD (p:=p) (k:=k) h (by omega) q
  omega
theorem Ja {p:Nat→Bool} {k i:Nat} (h:∀j,i≤j→j < i + k→p j=false):fdG p k i = -1:=by
 rcases L4 (p:=p) (k:=k) (i:=i) with q | q
 ·exact q
 ·have a:=Jz (p:=p) (k:=k) (i:=i) (by omega)
  rw [h _ (by omega) (by have:=Fe (p:=p) (k:=k) (i:=i);omega)] at a
  cases a
theorem DP {p q:Nat→Bool}:∀{k i:Nat},(∀j,i≤j→j < i + k→p j=q j)→fdG p k i=fdG q k i
 | 0,i,h=>rfl
 | k + 1,i,h=>by
  rw [fdG,fdG,h i (Nat.le_refl _) (by omega),DP fun j a b=>h j (by omega) (by omega)]
theorem bW {F:Nat→D} {bad:Nat→Bool} {B:Nat→D} {n:Nat}:∀{k i:Nat},i + k=n→(∀j,i≤j→j < n→F j=cond (bad j) (B j) (F (j + 1)))→F i=cond (decide (fdG bad k i < 0)) (F n) (B (fdG bad k i).toNat)
 | 0,i=>fun h _=>by
  have:i=n:=by omega
  subst this;rfl
 | k + 1,i=>fun h hs=>by
  rw [hs i (Nat.le_refl _) (by omega),fdG]
  cases bad i
  ·exact bW (by omega) fun j a b=>hs j (by omega) b
  ·show B i=cond (decide ((i:Int) < 0)) _ (B (i:Int).toNat);rw [ifF (by omega)]
   rfl
theorem EJ {F:Nat→D} {bad:Nat→Bool} {B:Nat→D} {n:Nat} (hs:∀j,j < n→F j=cond (bad j) (B j) (F (j + 1))):F 0=cond (decide (fdG bad n 0 < 0)) (F n) (B (fdG bad n 0).toNat):=bW (by omega) fun j _ b=>hs j b
theorem find {F:Nat→D} {bad:Nat→Bool} {n:Nat} (hs:∀j,j < n→F j=cond (bad j) (.row [.int 1,.int (j:Nat)]) (F (j + 1))) (hr:F n=.row [.int 1,.int (-1)]):F 0=.row [.int 1,.int (fdG bad n 0)]:=by
 rw [EJ hs,hr];have h:=L4 (p:=bad) (k:=n) (i:=0);by_cases q:fdG bad n 0 < 0
 ·rw [ifT q];rcases h with h | h
  ·rw [h]
  ·omega
 ·rw [ifF q];have:((fdG bad n 0).toNat:Int)=fdG bad n 0:=by omega
  rw [this]
theorem A0 {i:Nat} (h:i < 4611686018427387904):IntKind.wrap .i64 ((i:Int) + 1)=((i + 1:Nat):Int):=by rw [AO (by omega) (by omega)];omega
theorem Mw {α:Type} {c:Bool} {a b x:α} (h1:c=true→a=x) (h2:c=false→b=x):cond c a b=x:=by
 cases c
 ·exact h2 rfl
 ·exact h1 rfl
theorem dT {p:Prop} [Decidable p] (h:decide p=true):p:=of_decide_eq_true h
theorem dF {p:Prop} [Decidable p] (h:decide p=false):¬p:=of_decide_eq_false h
theorem Tk {x y:Int}:decide (x=y)=decide (y=x):=decide_eq_decide.2 eq_comm
theorem Ca {a:D}:D.strEq a a=true:=by
 show (Nat.beq _ _ && Nat.beq _ _)=true;simp
theorem AX {a b:D}:D.strEq a b=D.strEq b a:=NJ (U:=Bh) _ _ _ _
theorem EM {a:D}:eqC a 0 0=decide (BG a=0):=by
 show (Nat.beq _ 0 && Nat.beq _ 0)=_;show _=decide (a.toStr.data.toList.length=0);cases a.toStr.data.toList<;>simp [AL]
theorem XS {a b:D}:BG (Zg a b)=BG a + BG b:=by
 show (a.toStr ++ b.toStr).data.toList.length=_;simp [BG]
theorem RQ {a b:D}:eqC (Zg a b) 0 0=(eqC a 0 0 && eqC b 0 0):=by
 rw [EM,EM,EM,XS,Bool.eq_iff_iff];simp
theorem EU {a b:D}:D.strEq a b=true↔a.toStr=b.toStr:=by
 show AE.strEq _ _ _ _=true↔_;rw [Cx (U:=Bh)];constructor
 ·intro h;rw [ByteArray.toList_eq,ByteArray.toList_eq] at h;have:a.toStr.data.toList=b.toStr.data.toList:=by simpa only [beq_iff_eq] using h
  exact ByteArray.ext (Array.toList_inj.1 this)
 ·intro h;rw [h];simp
theorem IW {a b c:D} (h:D.strEq a b=true) (h':D.strEq b c=true):D.strEq a c=true:=EU.2 ((EU.1 h).trans (EU.1 h'))
theorem CH {a b c:D} (h:D.strEq a b=true):D.strEq a c=D.strEq b c:=by
 show AE.strEq _ _ _ _=AE.strEq _ _ _ _;rw [EU.1 h]
theorem Mv {a:D} {i:Nat} {j c:Nat} (hi:i≤len a) (hj:j < i):cl (sb a 0 i) j c=cl a j c:=by
 have hi':i≤a.rows.length:=hi;show (((a.rows.drop 0).take (i - 0)).getD j default).cells.getD c default=(a.rows.getD j default).cells.getD c default;rw [List.getD_eq_getElem?_getD,List.getD_eq_getElem?_getD,List.getElem?_take];simp [hj]
theorem ZG {a k:D} (hw:∀r ∈ a.rows,∃x l,r=.row (x :: l)):mIx [.str] a (.row [k])=fdG (fun i=>D.strEq (cl a i 0) k) (len a) 0:=by
 have gen:∀(rs l:List D) (nl:Bool),(∀r ∈ rs,∃x l,r=.row (x :: l))→FT [.str] [k] rs l.length=fdG (fun i=>D.strEq (cl (.slc nl (l ++ rs)) i 0) k) rs.length l.length:=by
  intro rs
  induction rs with
  | nil=>intro l nl _;rfl
  | cons r rs ih=>
   intro l nl hr;rw [FT,List.length_cons,fdG]
   have e:cl (.slc nl (l ++ r :: rs)) (l.length:Nat) 0=r.cells.getD 0 default:=by
    show ((l ++ r :: rs).getD l.length default).cells.getD 0 default=_;simp
   have i2:=ih (l ++ [r]) nl fun x hx=>hr x (List.mem_cons_of_mem _ hx)
   rw [List.length_append,List.append_assoc] at i2;have i2:FT [.str] [k] rs (l.length + 1)=fdG (fun i=>D.strEq (cl (.slc nl (l ++ r :: rs)) i 0) k) rs.length (l.length + 1):=i2
   rw [e,i2]
   have h:Et [.str] r.cells [k]=D.strEq (r.cells.getD 0 default) k:=by
    obtain ⟨x,t,e⟩:=hr r (List.mem_cons_self ..);subst e;show (D.strEq x k && true)=D.strEq x k;rw [Bool.and_true]
   rw [h];cases D.strEq (r.cells.getD 0 default) k<;>rfl
 have h:=gen a.rows [] a.isNil hw;exact h
theorem SW {G:Bool→Nat→D} {p:Nat→Bool} {n:Nat}:∀{k i:Nat} {b:Bool},i + k=n→(∀(b:Bool) (j:Nat),j < n→G b j=cond b (G true (j + 1)) (G (p j) (j + 1)))→G b i=G (b || !decide (fdG p k i < 0)) n
 | 0,i,b=>fun h _=>by
  have:i=n:=by omega
  subst this;show G b i=G (b || !decide ((-1:Int) < 0)) i;cases b<;>rfl
 | k + 1,i,b=>fun h hs=>by
  rw [hs b i (by omega),fdG]
  cases b
  ·rw [cond_false,SW (k:=k) (i:=i + 1) (by omega) hs]
   cases q:p i
   ·rfl
   ·show _=G (false || !decide ((i:Int) < 0)) n;rw [decide_eq_false (show ¬(i:Int) < 0 by omega)]
    rfl
  ·rw [cond_true,SW (k:=k) (i:=i + 1) (by omega) hs]
   rfl
theorem cq {G:Bool→Nat→D} {p:Nat→Bool} {n:Nat} {b:Bool} (hs:∀(b:Bool) (j:Nat),j < n→G b j=cond b (G true (j + 1)) (G (p j) (j + 1))):G b 0=G (b || !decide (fdG p n 0 < 0)) n:=SW (by omega) hs
def Dc (f:Nat→D) (i:Nat):D:=.slc false ((List.range i).map fun j=>.row [f j,.bool true])
theorem Ln {f:Nat→D} {i:Nat}:ad (Dc f i) (.row [f i,.bool true])=Dc f (i + 1):=by
 unfold Dc ad;rw [List.range_succ,List.map_append];rfl
theorem P4 {f:Nat→D} {i:Nat} {k:D}:mIx [.str] (Dc f i) (.row [k])=fdG (fun j=>D.strEq (f j) k) i 0:=by
 rw [ZG (by
  intro r hr;obtain ⟨j,_,e⟩:=List.mem_map.1 hr;exact ⟨_,_,e.symm⟩)]
 have hl:len (Dc f i)=i:=by unfold len Dc;simp [D.rows]
 rw [hl];refine DP fun j _ hj=>?_
 have:cl (Dc f i) j 0=f j:=by
  show ((((List.range i).map fun j=>D.row [f j,.bool true])[j]?).getD default).cells.getD 0 default=f j
  rw [List.getElem?_map,List.getElem?_range (by omega)]
  rfl
 rw [this]
theorem Lv {f:Nat→D} {i:Nat} {j:Int} (h0:0≤j) (h:j < i):cl (Dc f i) j 1=.bool true:=by
 show ((((List.range i).map fun j=>D.row [f j,.bool true])[j.toNat]?).getD default).cells.getD 1 default=_
 rw [List.getElem?_map,List.getElem?_range (by omega)]
 rfl
theorem ShK.cell {K:TypeId→Option (List Kd)} {o:Option Nat} {m j:Nat} {e:TypeId} {ks:List Kd} {kd:Kd} {d:D} {i:Nat} (h:ShK K o (m + 1) (.slice e) d) (hk:K e=some ks) (hi:i < len d) (hj:ks[j]? = some kd):ShK K o m kd (cl d i j):=h.2 ks hk i hi j kd hj
theorem ShK.rows {K:TypeId→Option (List Kd)} {b m:Nat} {e:TypeId} {d:D} (h:ShK K (some b) (m + 1) (.slice e) d):len d≤b:=h.1 b rfl
theorem ShK.text {K:TypeId→Option (List Kd)} {b m:Nat} {d:D} (h:ShK K (some b) m .str d):BG d≤b:=by
 have:leB (some b) (BG d):=by cases m<;>exact h
 exact this b rfl
end Go.AE
set_option maxRecDepth 100000
namespace Us
open Go Go.AE
theorem lt:Ec 0 ts=true:=by decide
theorem gw [Ao] {k p:Nat} {T:List (Tr Plf)} {t:Tr Plf} {xs:List D} {x:D} (hk:ts[k]? = some T) (hp:T[p]? = some t) (h:Ek ts k (atV ts xs) t=x):Ai ts k (.row (.int (p:Nat) :: xs))=x:=(dj lt hk hp).trans h
section
variable [Ao]
def U5 (v0 v1 v2 v3:D):D:=Ai ts 0 (.row [.int (0:Nat),v0,v1,v2,v3])
def VK (v0 v1 v2 v3 v4 v5:D):D:=Ai ts 0 (.row [.int (1:Nat),v0,v1,v2,v3,v4,v5])
def Z8 (v0 v1 v2 v3 v4 v5:D):D:=Ai ts 0 (.row [.int (2:Nat),v0,v1,v2,v3,v4,v5])
def ZW (v0 v1 v2 v3 v4 v5:D):D:=Ai ts 0 (.row [.int (3:Nat),v0,v1,v2,v3,v4,v5])
def ag (v0 v1:D):D:=Ai ts 1 (.row [.int (0:Nat),v0,v1])
def Ng:D:=Ai ts 2 (.row [.int (0:Nat)])
def GM (v0:D):D:=Ai ts 3 (.row [.int (0:Nat),v0])
def Sl (v0 v1 v2:D):D:=Ai ts 3 (.row [.int (1:Nat),v0,v1,v2])
def XH (v0 v1:D):D:=Ai ts 4 (.row [.int (0:Nat),v0,v1])
def ZE (v0 v1 v2:D):D:=Ai ts 4 (.row [.int (1:Nat),v0,v1,v2])
def YT (v0 v1 v2 v3 v4 v5 v6:D):D:=Ai ts 5 (.row [.int (0:Nat),v0,v1,v2,v3,v4,v5,v6])
def UL (v0 v1 v2 v3 v4 v5:D):D:=Ai ts 5 (.row [.int (1:Nat),v0,v1,v2,v3,v4,v5])
def Ju (v0 v1:D):D:=Ai ts 6 (.row [.int (0:Nat),v0,v1])
def Zs (v0 v1 v2:D):D:=Ai ts 6 (.row [.int (1:Nat),v0,v1,v2])
def V9 (v0 v1 v2 v3 v4 v5 v6:D):D:=Ai ts 7 (.row [.int (0:Nat),v0,v1,v2,v3,v4,v5,v6])
def UZ (v0 v1 v2 v3 v4 v5:D):D:=Ai ts 7 (.row [.int (1:Nat),v0,v1,v2,v3,v4,v5])
def cP (v0 v1 v2 v3 v4 v5 v6 v7 v8 v9:D):D:=Ai ts 8 (.row [.int (0:Nat),v0,v1,v2,v3,v4,v5,v6,v7,v8,v9])
def Vb (v0 v1 v2 v3 v4 v5 v6 v7 v8 v9 v10:D):D:=Ai ts 8 (.row [.int (1:Nat),v0,v1,v2,v3,v4,v5,v6,v7,v8,v9,v10])
def WJ (v0 v1 v2 v3 v4 v5 v6:D):D:=Ai ts 9 (.row [.int (0:Nat),v0,v1,v2,v3,v4,v5,v6])
def HT (v0 v1 v2 v3 v4 v5:D):D:=Ai ts 9 (.row [.int (1:Nat),v0,v1,v2,v3,v4,v5])
def DZ (v0 v1 v2 v3:D):D:=Ai ts 10 (.row [.int (0:Nat),v0,v1,v2,v3])
def D3 (v0 v1 v2:D):D:=Ai ts 11 (.row [.int (0:Nat),v0,v1,v2])
def T3 (v0 v1 v2 v3:D):D:=Ai ts 11 (.row [.int (1:Nat),v0,v1,v2,v3])
def AT (v0:D):D:=Ai ts 12 (.row [.int (0:Nat),v0])
def Ug (v0 v1 v2 v3:D):D:=Ai ts 12 (.row [.int (1:Nat),v0,v1,v2,v3])
def CR (v0:D):D:=Ai ts 13 (.row [.int (0:Nat),v0])
def CS (v0:D):D:=Ai ts 14 (.row [.int (0:Nat),v0])
def CT (v0:D):D:=Ai ts 15 (.row [.int (0:Nat),v0])
def En (v0 v1 v2:D):D:=Ai ts 16 (.row [.int (0:Nat),v0,v1,v2])
def Qq (v0 v1 v2 v3 v4 v5:D):D:=Ai ts 16 (.row [.int (1:Nat),v0,v1,v2,v3,v4,v5])
def NN (v0 v1 v2 v3 v4 v5:D):D:=Ai ts 17 (.row [.int (0:Nat),v0,v1,v2,v3,v4,v5])
def Iy (v0 v1 v2 v3 v4 v5:D):D:=Ai ts 18 (.row [.int (0:Nat),v0,v1,v2,v3,v4,v5])
def E7 (v0 v1 v2 v3 v4 v5 v6:D):D:=Ai ts 20 (.row [.int (0:Nat),v0,v1,v2,v3,v4,v5,v6])
def Km (v0 v1 v2 v3 v4 v5:D):D:=Ai ts 20 (.row [.int (1:Nat),v0,v1,v2,v3,v4,v5])
def Ly (v0 v1 v2 v3 v4 v5 v6:D):D:=Ai ts 21 (.row [.int (0:Nat),v0,v1,v2,v3,v4,v5,v6])
def DB (v0 v1 v2 v3 v4 v5 v6 v7 v8 v9 v10 v11 v12 v13 v14 v15 v16 v17 v18 v19 v20:D):D:=Ai ts 22 (.row [.int (0:Nat),v0,v1,v2,v3,v4,v5,v6,v7,v8,v9,v10,v11,v12,v13,v14,v15,v16,v17,v18,v19,v20])
def Cs (v0 v1 v2 v3:D):D:=Ai ts 23 (.row [.int (0:Nat),v0,v1,v2,v3])
def DA (v0:D):D:=Ai ts 24 (.row [.int (0:Nat),v0])
def J1 (v0 v1:D):D:=Ai ts 24 (.row [.int (1:Nat),v0,v1])
def Jg (v0 v1 v2 v3 v4:D):D:=Ai ts 25 (.row [.int (0:Nat),v0,v1,v2,v3,v4])
def Tf (v0 v1 v2 v3 v4 v5:D):D:=Ai ts 25 (.row [.int (1:Nat),v0,v1,v2,v3,v4,v5])
def HN (v0 v1 v2 v3 v4:D):D:=Ai ts 26 (.row [.int (0:Nat),v0,v1,v2,v3,v4])
def Un (v0 v1 v2 v3 v4 v5:D):D:=Ai ts 26 (.row [.int (1:Nat),v0,v1,v2,v3,v4,v5])
def Ui (v0 v1 v2 v3 v4:D):D:=Ai ts 27 (.row [.int (0:Nat),v0,v1,v2,v3,v4])
def Gu (v0 v1 v2 v3 v4 v5 v6 v7 v8 v9 v10 v11 v12 v13 v14 v15:D):D:=Ai ts 27 (.row [.int (1:Nat),v0,v1,v2,v3,v4,v5,v6,v7,v8,v9,v10,v11,v12,v13,v14,v15])
def HO (v0 v1 v2 v3:D):D:=Ai ts 28 (.row [.int (0:Nat),v0,v1,v2,v3])
def Kk (v0 v1 v2 v3 v4:D):D:=Ai ts 28 (.row [.int (1:Nat),v0,v1,v2,v3,v4])
def Kf (v0 v1 v2 v3 v4:D):D:=Ai ts 28 (.row [.int (2:Nat),v0,v1,v2,v3,v4])
def Kn (v0 v1 v2 v3 v4:D):D:=Ai ts 28 (.row [.int (3:Nat),v0,v1,v2,v3,v4])
def Qy (v0:D):D:=Ai ts 29 (.row [.int (0:Nat),v0])
def P9 (v0 v1 v2 v3 v4 v5:D):D:=Ai ts 29 (.row [.int (1:Nat),v0,v1,v2,v3,v4,v5])
def TD (v0 v1 v2 v3 v4 v5 v6:D):D:=Ai ts 29 (.row [.int (2:Nat),v0,v1,v2,v3,v4,v5,v6])
def El (v0 v1 v2 v3:D):D:=Ai ts 30 (.row [.int (0:Nat),v0,v1,v2,v3])
def KA (v0 v1:D):D:=Ai ts 32 (.row [.int (0:Nat),v0,v1])
def GN (v0 v1 v2 v3 v4:D):D:=Ai ts 33 (.row [.int (0:Nat),v0,v1,v2,v3,v4])
def G5 (v0 v1 v2 v3 v4:D):D:=Ai ts 34 (.row [.int (0:Nat),v0,v1,v2,v3,v4])
def Ur (v0 v1 v2 v3 v4 v5 v6:D):D:=Ai ts 34 (.row [.int (1:Nat),v0,v1,v2,v3,v4,v5,v6])
def BL (v0 v1 v2 v3 v4 v5 v6 v7 v8 v9 v10:D):D:=Ai ts 34 (.row [.int (2:Nat),v0,v1,v2,v3,v4,v5,v6,v7,v8,v9,v10])
def BD (v0 v1 v2 v3 v4:D):D:=Ai ts 35 (.row [.int (0:Nat),v0,v1,v2,v3,v4])
def Ky (v0 v1 v2 v3 v4:D):D:=Ai ts 35 (.row [.int (1:Nat),v0,v1,v2,v3,v4])
def QL (v0 v1 v2 v3 v4 v5:D):D:=Ai ts 36 (.row [.int (0:Nat),v0,v1,v2,v3,v4,v5])
def LQ (v0 v1 v2 v3 v4 v5 v6 v7 v8 v9:D):D:=Ai ts 36 (.row [.int (1:Nat),v0,v1,v2,v3,v4,v5,v6,v7,v8,v9])
def IH (v0 v1 v2:D):D:=Ai ts 37 (.row [.int (0:Nat),v0,v1,v2])
def HP (v0 v1 v2 v3 v4 v5 v6 v7 v8 v9 v10:D):D:=Ai ts 38 (.row [.int (0:Nat),v0,v1,v2,v3,v4,v5,v6,v7,v8,v9,v10])
def Qn (v0 v1 v2 v3 v4 v5 v6 v7 v8 v9 v10 v11 v12 v13 v14 v15 v16 v17 v18 v19 v20 v21 v22 v23 v24 v25 v26 v27 v28 v29 v30 v31 v32 v33 v34:D):D:=Ai ts 39 (.row [.int (0:Nat),v0,v1,v2,v3,v4,v5,v6,v7,v8,v9,v10,v11,v12,v13,v14,v15,v16,v17,v18,v19,v20,v21,v22,v23,v24,v25,v26,v27,v28,v29,v30,v31,v32,v33,v34])
def Lo (v0 v1 v2 v3 v4 v5 v6 v7 v8 v9 v10 v11 v12 v13 v14 v15 v16 v17 v18 v19 v20 v21 v22 v23 v24 v25 v26 v27 v28 v29 v30 v31 v32 v33 v34 v35:D):D:=Ai ts 39 (.row [.int (1:Nat),v0,v1,v2,v3,v4,v5,v6,v7,v8,v9,v10,v11,v12,v13,v14,v15,v16,v17,v18,v19,v20,v21,v22,v23,v24,v25,v26,v27,v28,v29,v30,v31,v32,v33,v34,v35])
def BB (v0 v1 v2 v3 v4 v5 v6 v7 v8 v9 v10:D):D:=Ai ts 40 (.row [.int (0:Nat),v0,v1,v2,v3,v4,v5,v6,v7,v8,v9,v10])
def Tv (v0 v1 v2 v3 v4 v5 v6 v7 v8 v9 v10 v11 v12 v13 v14 v15 v16 v17 v18 v19 v20 v21 v22 v23 v24 v25 v26 v27:D):D:=Ai ts 41 (.row [.int (0:Nat),v0,v1,v2,v3,v4,v5,v6,v7,v8,v9,v10,v11,v12,v13,v14,v15,v16,v17,v18,v19,v20,v21,v22,v23,v24,v25,v26,v27])
def PC (v0 v1 v2 v3 v4 v5 v6 v7 v8 v9 v10 v11 v12 v13 v14 v15 v16 v17 v18 v19 v20 v21:D):D:=Ai ts 42 (.row [.int (0:Nat),v0,v1,v2,v3,v4,v5,v6,v7,v8,v9,v10,v11,v12,v13,v14,v15,v16,v17,v18,v19,v20,v21])
def Ej (v0 v1 v2:D):D:=Ai ts 43 (.row [.int (0:Nat),v0,v1,v2])
def TA (v0 v1 v2 v3:D):D:=Ai ts 43 (.row [.int (1:Nat),v0,v1,v2,v3])
def KJ (v0 v1 v2 v3 v4 v5 v6 v7 v8 v9 v10:D):D:=Ai ts 44 (.row [.int (0:Nat),v0,v1,v2,v3,v4,v5,v6,v7,v8,v9,v10])
def T7 (v0 v1 v2 v3 v4:D):D:=Ai ts 45 (.row [.int (0:Nat),v0,v1,v2,v3,v4])
def Nm (v0 v1 v2 v3 v4 v5:D):D:=Ai ts 45 (.row [.int (1:Nat),v0,v1,v2,v3,v4,v5])
def Ud (v0 v1 v2 v3 v4 v5 v6 v7 v8 v9 v10 v11:D):D:=Ai ts 46 (.row [.int (0:Nat),v0,v1,v2,v3,v4,v5,v6,v7,v8,v9,v10,v11])
def PQ (v0 v1 v2 v3 v4 v5 v6 v7 v8 v9 v10:D):D:=Ai ts 47 (.row [.int (0:Nat),v0,v1,v2,v3,v4,v5,v6,v7,v8,v9,v10])
def NO (v0 v1 v2 v3 v4 v5 v6 v7 v8 v9 v10 v11:D):D:=Ai ts 48 (.row [.int (0:Nat),v0,v1,v2,v3,v4,v5,v6,v7,v8,v9,v10,v11])
def Gs (v0 v1:D):D:=Ai ts 49 (.row [.int (0:Nat),v0,v1])
def PK (v0 v1:D):D:=Ai ts 50 (.row [.int (0:Nat),v0,v1])
def Pu (v0 v1:D):D:=Ai ts 51 (.row [.int (0:Nat),v0,v1])
def Yf (v0 v1 v2 v3 v4 v5 v6 v7 v8 v9 v10 v11 v12 v13 v14 v15 v16 v17 v18 v19:D):D:=Ai ts 52 (.row [.int (0:Nat),v0,v1,v2,v3,v4,v5,v6,v7,v8,v9,v10,v11,v12,v13,v14,v15,v16,v17,v18,v19])
def Ps (v0 v1 v2:D):D:=Ai ts 53 (.row [.int (0:Nat),v0,v1,v2])
def Qb (v0 v1 v2:D):D:=Ai ts 54 (.row [.int (0:Nat),v0,v1,v2])
def Q2 (v0 v1 v2:D):D:=Ai ts 55 (.row [.int (0:Nat),v0,v1,v2])
def Wk (v0 v1 v2 v3 v4 v5 v6 v7 v8 v9 v10 v11 v12 v13 v14 v15 v16 v17 v18 v19 v20 v21 v22:D):D:=Ai ts 56 (.row [.int (0:Nat),v0,v1,v2,v3,v4,v5,v6,v7,v8,v9,v10,v11,v12,v13,v14,v15,v16,v17,v18,v19,v20,v21,v22])
def Do (v0 v1:D):D:=Ai ts 57 (.row [.int (0:Nat),v0,v1])
def S4 (v0 v1 v2:D):D:=Ai ts 57 (.row [.int (1:Nat),v0,v1,v2])
def FK (v0 v1:D):D:=Ai ts 58 (.row [.int (0:Nat),v0,v1])
def T5 (v0 v1 v2:D):D:=Ai ts 58 (.row [.int (1:Nat),v0,v1,v2])
def G3 (v0 v1 v2 v3 v4 v5 v6 v7 v8 v9:D):D:=Ai ts 59 (.row [.int (0:Nat),v0,v1,v2,v3,v4,v5,v6,v7,v8,v9])
def GT (v0 v1 v2 v3 v4 v5 v6 v7 v8 v9 v10 v11 v12 v13 v14 v15 v16 v17 v18:D):D:=Ai ts 59 (.row [.int (1:Nat),v0,v1,v2,v3,v4,v5,v6,v7,v8,v9,v10,v11,v12,v13,v14,v15,v16,v17,v18])
def ET (v0 v1 v2 v3 v4 v5 v6 v7 v8 v9 v10 v11 v12 v13 v14 v15 v16 v17 v18 v19 v20 v21:D):D:=Ai ts 59 (.row [.int (2:Nat),v0,v1,v2,v3,v4,v5,v6,v7,v8,v9,v10,v11,v12,v13,v14,v15,v16,v17,v18,v19,v20,v21])
def Qt (v0 v1 v2 v3:D):D:=Ai ts 60 (.row [.int (0:Nat),v0,v1,v2,v3])
def Tl (v0 v1 v2 v3 v4:D):D:=Ai ts 60 (.row [.int (1:Nat),v0,v1,v2,v3,v4])
def CY (v0 v1:D):D:=Ai ts 61 (.row [.int (0:Nat),v0,v1])
def Xf (v0 v1 v2 v3 v4 v5 v6 v7 v8 v9 v10 v11 v12 v13 v14 v15 v16 v17 v18 v19 v20 v21 v22:D):D:=Ai ts 62 (.row [.int (0:Nat),v0,v1,v2,v3,v4,v5,v6,v7,v8,v9,v10,v11,v12,v13,v14,v15,v16,v17,v18,v19,v20,v21,v22])
def Ag (v0 v1 v2 v3 v4 v5:D):D:=Ai ts 63 (.row [.int (0:Nat),v0,v1,v2,v3,v4,v5])
def Kc (v0 v1 v2 v3 v4 v5 v6 v7:D):D:=Ai ts 63 (.row [.int (1:Nat),v0,v1,v2,v3,v4,v5,v6,v7])
def Ma (v0 v1 v2 v3 v4 v5 v6 v7 v8 v9:D):D:=Ai ts 64 (.row [.int (0:Nat),v0,v1,v2,v3,v4,v5,v6,v7,v8,v9])
def Nn (v0 v1 v2 v3 v4 v5 v6 v7 v8 v9 v10:D):D:=Ai ts 64 (.row [.int (1:Nat),v0,v1,v2,v3,v4,v5,v6,v7,v8,v9,v10])
def Dl (v0 v1 v2 v3 v4 v5 v6 v7 v8 v9 v10 v11 v12 v13 v14:D):D:=Ai ts 65 (.row [.int (0:Nat),v0,v1,v2,v3,v4,v5,v6,v7,v8,v9,v10,v11,v12,v13,v14])
def BF (v0 v1 v2 v3 v4 v5 v6 v7 v8 v9 v10 v11 v12 v13 v14 v15 v16 v17 v18 v19:D):D:=Ai ts 65 (.row [.int (1:Nat),v0,v1,v2,v3,v4,v5,v6,v7,v8,v9,v10,v11,v12,v13,v14,v15,v16,v17,v18,v19])
def Is (v0 v1 v2 v3 v4 v5 v6 v7 v8:D):D:=Ai ts 66 (.row [.int (0:Nat),v0,v1,v2,v3,v4,v5,v6,v7,v8])
def QP (v0 v1 v2 v3 v4 v5 v6 v7 v8 v9 v10 v11:D):D:=Ai ts 67 (.row [.int (0:Nat),v0,v1,v2,v3,v4,v5,v6,v7,v8,v9,v10,v11])
def D0 (v0 v1 v2:D):D:=Ai ts 68 (.row [.int (0:Nat),v0,v1,v2])
def T8 (v0 v1 v2 v3:D):D:=Ai ts 68 (.row [.int (1:Nat),v0,v1,v2,v3])
def PT (v0 v1 v2 v3 v4:D):D:=Ai ts 68 (.row [.int (2:Nat),v0,v1,v2,v3,v4])
def AK (v0 v1 v2 v3 v4 v5 v6 v7 v8:D):D:=Ai ts 69 (.row [.int (0:Nat),v0,v1,v2,v3,v4,v5,v6,v7,v8])
def Qk (v0 v1 v2 v3 v4 v5 v6 v7 v8:D):D:=Ai ts 70 (.row [.int (0:Nat),v0,v1,v2,v3,v4,v5,v6,v7,v8])
def GA (v0 v1 v2 v3 v4 v5 v6 v7 v8 v9 v10 v11 v12 v13 v14:D):D:=Ai ts 70 (.row [.int (1:Nat),v0,v1,v2,v3,v4,v5,v6,v7,v8,v9,v10,v11,v12,v13,v14])
def CZ (v0 v1 v2 v3 v4 v5:D):D:=Ai ts 71 (.row [.int (0:Nat),v0,v1,v2,v3,v4,v5])
def TL (v0 v1 v2:D):D:=Ai ts 72 (.row [.int (0:Nat),v0,v1,v2])
def TN (v0 v1 v2 v3:D):D:=Ai ts 72 (.row [.int (1:Nat),v0,v1,v2,v3])
def Dy (v0 v1 v2 v3 v4 v5 v6 v7 v8 v9:D):D:=Ai ts 73 (.row [.int (0:Nat),v0,v1,v2,v3,v4,v5,v6,v7,v8,v9])
def EL (v0 v1 v2 v3 v4 v5 v6:D):D:=Ai ts 74 (.row [.int (0:Nat),v0,v1,v2,v3,v4,v5,v6])
def Uy (v0 v1:D):D:=Ai ts 75 (.row [.int (0:Nat),v0,v1])
def Og (v0 v1 v2:D):D:=Ai ts 75 (.row [.int (1:Nat),v0,v1,v2])
def Ym (v0 v1 v2 v3:D):D:=Ai ts 76 (.row [.int (0:Nat),v0,v1,v2,v3])
def Jo (v0 v1 v2 v3 v4:D):D:=Ai ts 76 (.row [.int (1:Nat),v0,v1,v2,v3,v4])
def Um (v0 v1 v2 v3:D):D:=Ai ts 77 (.row [.int (0:Nat),v0,v1,v2,v3])
def N4 (v0 v1 v2 v3 v4 v5 v6 v7 v8 v9 v10 v11 v12 v13 v14 v15 v16 v17 v18 v19 v20 v21 v22 v23 v24 v25:D):D:=Ai ts 78 (.row [.int (0:Nat),v0,v1,v2,v3,v4,v5,v6,v7,v8,v9,v10,v11,v12,v13,v14,v15,v16,v17,v18,v19,v20,v21,v22,v23,v24,v25])
def HF (v0 v1 v2 v3 v4 v5 v6 v7 v8 v9 v10 v11 v12 v13 v14 v15 v16 v17 v18 v19 v20 v21 v22 v23 v24 v25 v26 v27 v28 v29 v30 v31 v32 v33 v34 v35 v36:D):D:=Ai ts 78 (.row [.int (1:Nat),v0,v1,v2,v3,v4,v5,v6,v7,v8,v9,v10,v11,v12,v13,v14,v15,v16,v17,v18,v19,v20,v21,v22,v23,v24,v25,v26,v27,v28,v29,v30,v31,v32,v33,v34,v35,v36])
def G9 (v0 v1 v2 v3 v4 v5 v6 v7 v8 v9 v10 v11 v12 v13 v14 v15 v16 v17 v18 v19 v20 v21 v22 v23 v24 v25 v26 v27 v28 v29 v30 v31 v32 v33 v34 v35 v36 v37 v38 v39 v40:D):D:=Ai ts 78 (.row [.int (2:Nat),v0,v1,v2,v3,v4,v5,v6,v7,v8,v9,v10,v11,v12,v13,v14,v15,v16,v17,v18,v19,v20,v21,v22,v23,v24,v25,v26,v27,v28,v29,v30,v31,v32,v33,v34,v35,v36,v37,v38,v39,v40])
def Ww (v0 v1 v2 v3 v4 v5 v6 v7 v8 v9:D):D:=Ai ts 79 (.row [.int (0:Nat),v0,v1,v2,v3,v4,v5,v6,v7,v8,v9])
def KI (v0 v1 v2 v3 v4:D):D:=Ai ts 80 (.row [.int (0:Nat),v0,v1,v2,v3,v4])
def Uq (v0 v1 v2 v3 v4 v5:D):D:=Ai ts 80 (.row [.int (1:Nat),v0,v1,v2,v3,v4,v5])
def BT (v0 v1 v2 v3 v4:D):D:=Ai ts 81 (.row [.int (0:Nat),v0,v1,v2,v3,v4])
def Up (v0 v1 v2 v3 v4 v5:D):D:=Ai ts 81 (.row [.int (1:Nat),v0,v1,v2,v3,v4,v5])
def Qg (v0 v1 v2 v3 v4 v5 v6 v7 v8 v9:D):D:=Ai ts 82 (.row [.int (0:Nat),v0,v1,v2,v3,v4,v5,v6,v7,v8,v9])
def Iq (v0 v1 v2 v3 v4 v5 v6 v7 v8 v9 v10:D):D:=Ai ts 82 (.row [.int (1:Nat),v0,v1,v2,v3,v4,v5,v6,v7,v8,v9,v10])
def Hi (v0 v1 v2 v3 v4 v5 v6 v7 v8 v9 v10 v11 v12:D):D:=Ai ts 82 (.row [.int (2:Nat),v0,v1,v2,v3,v4,v5,v6,v7,v8,v9,v10,v11,v12])
def HG (v0 v1 v2 v3 v4 v5 v6 v7 v8 v9 v10:D):D:=Ai ts 82 (.row [.int (3:Nat),v0,v1,v2,v3,v4,v5,v6,v7,v8,v9,v10])
def Em (v0 v1 v2 v3 v4 v5 v6 v7 v8 v9 v10 v11 v12 v13 v14 v15:D):D:=Ai ts 82 (.row [.int (4:Nat),v0,v1,v2,v3,v4,v5,v6,v7,v8,v9,v10,v11,v12,v13,v14,v15])
def QS (v0 v1 v2 v3 v4 v5:D):D:=Ai ts 83 (.row [.int (0:Nat),v0,v1,v2,v3,v4,v5])
def FU (v0 v1 v2 v3 v4 v5 v6 v7 v8:D):D:=Ai ts 83 (.row [.int (1:Nat),v0,v1,v2,v3,v4,v5,v6,v7,v8])
def Fr (v0 v1 v2 v3 v4 v5 v6:D):D:=Ai ts 84 (.row [.int (0:Nat),v0,v1,v2,v3,v4,v5,v6])
def S6 (v0 v1 v2 v3:D):D:=Ai ts 85 (.row [.int (0:Nat),v0,v1,v2,v3])
def KF (v0 v1 v2 v3 v4:D):D:=Ai ts 85 (.row [.int (1:Nat),v0,v1,v2,v3,v4])
def Qi (v0 v1 v2 v3:D):D:=Ai ts 86 (.row [.int (0:Nat),v0,v1,v2,v3])
def Ko (v0 v1 v2 v3 v4:D):D:=Ai ts 86 (.row [.int (1:Nat),v0,v1,v2,v3,v4])
def Iu (v0 v1 v2 v3 v4 v5:D):D:=Ai ts 87 (.row [.int (0:Nat),v0,v1,v2,v3,v4,v5])
def J2 (v0 v1 v2 v3 v4 v5 v6 v7 v8:D):D:=Ai ts 87 (.row [.int (1:Nat),v0,v1,v2,v3,v4,v5,v6,v7,v8])
def KG (v0 v1 v2 v3 v4 v5 v6 v7 v8 v9 v10 v11:D):D:=Ai ts 87 (.row [.int (2:Nat),v0,v1,v2,v3,v4,v5,v6,v7,v8,v9,v10,v11])
def TS (v0 v1 v2 v3 v4 v5:D):D:=Ai ts 88 (.row [.int (0:Nat),v0,v1,v2,v3,v4,v5])
def IY (v0 v1 v2 v3 v4 v5 v6:D):D:=Ai ts 88 (.row [.int (1:Nat),v0,v1,v2,v3,v4,v5,v6])
def Qo (v0 v1 v2 v3 v4 v5 v6 v7 v8 v9 v10 v11:D):D:=Ai ts 89 (.row [.int (0:Nat),v0,v1,v2,v3,v4,v5,v6,v7,v8,v9,v10,v11])
def G2 (v0 v1 v2 v3 v4 v5 v6 v7 v8 v9 v10 v11 v12 v13 v14 v15:D):D:=Ai ts 89 (.row [.int (1:Nat),v0,v1,v2,v3,v4,v5,v6,v7,v8,v9,v10,v11,v12,v13,v14,v15])
def GR (v0 v1 v2 v3 v4 v5 v6 v7 v8 v9 v10 v11 v12 v13 v14:D):D:=Ai ts 89 (.row [.int (2:Nat),v0,v1,v2,v3,v4,v5,v6,v7,v8,v9,v10,v11,v12,v13,v14])
def QR (v0 v1 v2 v3 v4 v5 v6 v7 v8 v9 v10 v11:D):D:=Ai ts 90 (.row [.int (0:Nat),v0,v1,v2,v3,v4,v5,v6,v7,v8,v9,v10,v11])
def Kr (v0 v1 v2 v3 v4 v5 v6 v7 v8 v9 v10 v11 v12 v13 v14:D):D:=Ai ts 90 (.row [.int (1:Nat),v0,v1,v2,v3,v4,v5,v6,v7,v8,v9,v10,v11,v12,v13,v14])
def cp (v0 v1 v2 v3 v4 v5 v6 v7 v8 v9 v10:D):D:=Ai ts 91 (.row [.int (0:Nat),v0,v1,v2,v3,v4,v5,v6,v7,v8,v9,v10])
def QZ (v0 v1 v2 v3 v4 v5 v6 v7 v8 v9 v10 v11 v12 v13 v14 v15 v16 v17 v18 v19 v20 v21 v22 v23 v24 v25 v26 v27 v28 v29 v30 v31 v32 v33 v34 v35 v36 v37 v38 v39 v40 v41:D):D:=Ai ts 91 (.row [.int (1:Nat),v0,v1,v2,v3,v4,v5,v6,v7,v8,v9,v10,v11,v12,v13,v14,v15,v16,v17,v18,v19,v20,v21,v22,v23,v24,v25,v26,v27,v28,v29,v30,v31,v32,v33,v34,v35,v36,v37,v38,v39,v40,v41])
def J6 (v0 v1 v2:D):D:=Ai ts 91 (.row [.int (2:Nat),v0,v1,v2])
theorem uh (v0 v1 v2 v3:D):U5 v0 v1 v2 v3 =
  cond (6 < (len v1:Int)) (
 .row [.int 1,(.bool false)]) (
 cond (12 < (len v3:Int)) (
 .row [.int 1,(.bool false)]) (
 cond (5 < (len v2:Int)) (
 .row [.int 1,(.bool false)]) (
 cond (40 < (BG v0:Int)) (
 .row [.int 1,(.bool false)]) (
 VK (.int 0) (.int 0) v0 v1 v2 v3)))):=gw rfl rfl rfl
theorem ro (v0 v1:Int) (v2 v3 v4 v5:D):VK (.int v0) (.int v1) v2 v3 v4 v5 =
  cond (v1 < len v4) (
 cond (v1 < 0) (
 .row []) (
 cond ((cl v4 v1 1).toInt < 0) (
 cond (40 < (BG (cl v4 v1 0):Int)) (
 .row [.int 1,(.bool false)]) (
 VK (.int (IntKind.wrap .i64 (v0 + 0))) (.int (IntKind.wrap .i64 (v1 + 1))) v2 v3 v4 v5)) (
 cond (100 < (cl v4 v1 1).toInt) (
 cond (40 < (BG (cl v4 v1 0):Int)) (
 .row [.int 1,(.bool false)]) (
 VK (.int (IntKind.wrap .i64 (v0 + 100))) (.int (IntKind.wrap .i64 (v1 + 1))) v2 v3 v4 v5)) (
 cond (40 < (BG (cl v4 v1 0):Int)) (
 .row [.int 1,(.bool false)]) (
 VK (.int (IntKind.wrap .i64 (v0 + (cl v4 v1 1).toInt))) (.int (IntKind.wrap .i64 (v1 + 1))) v2 v3 v4 v5))))) (
 Z8 (.int v0) (.int 0) v2 v3 v4 v5):=gw rfl rfl rfl
theorem np (v0 v1:Int) (v2 v3 v4 v5:D):Z8 (.int v0) (.int v1) v2 v3 v4 v5 =
  cond (v1 < len v3) (
 cond (v1 < 0) (
 .row []) (
 cond (40 < (BG (cl v3 v1 0):Int)) (
 .row [.int 1,(.bool false)]) (
 Z8 (.int v0) (.int (IntKind.wrap .i64 (v1 + 1))) v2 v3 v4 v5))) (
 ZW (.int v0) (.int 0) v2 v3 v4 v5):=gw rfl rfl rfl
theorem tR (v0 v1:Int) (v2 v3 v4 v5:D):ZW (.int v0) (.int v1) v2 v3 v4 v5 =
  cond (v1 < len v5) (
 cond (v1 < 0) (
 .row []) (
 cond (40 < (BG (cl v5 v1 0):Int)) (
 .row [.int 1,(.bool false)]) (
 cond (40 < (BG (cl v5 v1 1):Int)) (
 .row [.int 1,(.bool false)]) (
 cond (40 < (BG (cl v5 v1 3):Int)) (
 .row [.int 1,(.bool false)]) (
 cond (40 < (BG (cl v5 v1 4):Int)) (
 .row [.int 1,(.bool false)]) (
 cond (40 < (BG (cl v5 v1 5):Int)) (
 .row [.int 1,(.bool false)]) (
 ZW (.int v0) (.int (IntKind.wrap .i64 (v1 + 1))) v2 v3 v4 v5))))))) (
 .row [.int 1,(.bool (!decide (30 < v0)))]):=gw rfl rfl rfl
theorem uW (v0 v1:D):ag v0 v1 =
  cond (10 < (len v0:Int)) (
 .row [.int 1,(.bool false)]) (
 .row [.int 1,(.bool (!decide (10 < (len v1:Int))))]):=gw rfl rfl rfl
theorem vh:Ng =
 .row [.int 1]:=gw rfl rfl rfl
theorem ui (v0:D):GM v0 =
  cond ((BG v0:Int) < 1) (
 .row [.int 1,(.bool false)]) (
 cond (32 < (BG v0:Int)) (
 .row [.int 1,(.bool false)]) (
 Sl (PY v0) (.int (len (PY v0):Int)) (.int 0))):=gw rfl rfl rfl
theorem fL (v0:D) (v1 v2:Int):Sl v0 (.int v1) (.int v2) =
  cond (v2 < v1) (
 cond (v2 < 0) (
 .row []) (
 cond (v2 < len v0) (
 cond ((IntKind.wrap .u8 (cl v0 v2 0).toInt) < 97) (
 cond ((IntKind.wrap .u8 (cl v0 v2 0).toInt) < 65) (
 cond (v2=0) (
 .row [.int 1,(.bool false)]) (
 cond ((IntKind.wrap .u8 (cl v0 v2 0).toInt) < 48) (
 .row [.int 1,(.bool false)]) (
 cond (57 < (IntKind.wrap .u8 (cl v0 v2 0).toInt)) (
 .row [.int 1,(.bool false)]) (
 Sl v0 (.int v1) (.int (IntKind.wrap .i64 (v2 + 1))))))) (
 cond (90 < (IntKind.wrap .u8 (cl v0 v2 0).toInt)) (
 cond (v2=0) (
 .row [.int 1,(.bool false)]) (
 cond ((IntKind.wrap .u8 (cl v0 v2 0).toInt)=95) (
 Sl v0 (.int v1) (.int (IntKind.wrap .i64 (v2 + 1)))) (
 .row [.int 1,(.bool false)]))) (
 Sl v0 (.int v1) (.int (IntKind.wrap .i64 (v2 + 1)))))) (
 cond (122 < (IntKind.wrap .u8 (cl v0 v2 0).toInt)) (
 cond (v2=0) (
 .row [.int 1,(.bool false)]) (
 .row [.int 1,(.bool false)])) (
 Sl v0 (.int v1) (.int (IntKind.wrap .i64 (v2 + 1)))))) (
 .row []))) (
 .row [.int 1,(.bool true)]):=gw rfl rfl (cL (cL rfl (cL (cL (cL (cQ rfl rfl) (cL (cQ rfl (cQ rfl rfl)) rfl)) (cL (cQ rfl rfl) rfl)) rfl)) rfl)
theorem uL (v0 v1:D):XH v0 v1 =
 ZE v0 (.int 0) v1:=gw rfl rfl rfl
theorem uU (v0:D) (v1:Int) (v2:D):ZE v0 (.int v1) v2 =
  cond (v1 < len v0) (
 cond (v1 < 0) (
 .row []) (
 cond (D.strEq (cl v0 v1 0) v2) (
 .row [.int 1,(.int v1)]) (
 ZE v0 (.int (IntKind.wrap .i64 (v1 + 1))) v2))) (
 .row [.int 1,(.int (-1))]):=gw rfl rfl rfl
theorem vn (v0 v1 v2:Int) (v3 v4 v5 v6:D):YT (.int v0) (.int v1) (.int v2) v3 v4 v5 v6 =
  cond (v0 < v1) (
 .row [.int 1,(.int 0)]) (
 cond (v2 < v0) (
 .row [.int 1,(.int v2)]) (
 UL (.int v0) (.int 0) v3 v4 v5 v6)):=gw rfl rfl rfl
theorem ii (v0 v1:Int) (v2 v3 v4 v5:D):UL (.int v0) (.int v1) v2 v3 v4 v5 =
  cond (v1 < v0) (
 cond (v1 < 0) (
 .row []) (
 cond (v1 < len v4) (
 cond ((sl (GM (cl v4 v1 0)) 0).toInt=1) (
 cond ((sl (GM (cl v4 v1 0)) 1).toBool) (
 cond ((sl (XH v4 (cl v4 v1 0)) 0).toInt=1) (
 cond ((sl (XH v4 (cl v4 v1 0)) 1).toInt < v1) (
 .row [.int 1,(.int v1)]) (
 cond ((cl v4 v1 1).toInt < 1) (
 .row [.int 1,(.int v1)]) (
 cond (1000 < (cl v4 v1 1).toInt) (
 .row [.int 1,(.int v1)]) (
 UL (.int v0) (.int (IntKind.wrap .i64 (v1 + 1))) v2 v3 v4 v5)))) (
 .row [])) (
 .row [.int 1,(.int v1)])) (
 .row [])) (
 .row []))) (
 .row [.int 1,(.int (-1))]):=gw rfl rfl (cL (cL rfl (cL (cQ (cg rfl (cQ (cL rfl (cL rfl (cL rfl rfl))) rfl) rfl) rfl) rfl)) rfl)
theorem uv (v0 v1:D):Ju v0 v1 =
 Zs v0 (.int 0) v1:=gw rfl rfl rfl
theorem uG (v0:D) (v1:Int) (v2:D):Zs v0 (.int v1) v2 =
  cond (v1 < len v0) (
 cond (v1 < 0) (
 .row []) (
 cond (D.strEq (cl v0 v1 0) v2) (
 .row [.int 1,(.int v1)]) (
 Zs v0 (.int (IntKind.wrap .i64 (v1 + 1))) v2))) (
 .row [.int 1,(.int (-1))]):=gw rfl rfl rfl
theorem ux (v0 v1 v2:Int) (v3 v4 v5 v6:D):V9 (.int v0) (.int v1) (.int v2) v3 v4 v5 v6 =
  cond (v0 < v1) (
 .row [.int 1,(.int 0)]) (
 cond (v2 < v0) (
 .row [.int 1,(.int v2)]) (
 UZ (.int v0) (.int 0) v3 v4 v5 v6)):=gw rfl rfl rfl
theorem sM (v0 v1:Int) (v2 v3 v4 v5:D):UZ (.int v0) (.int v1) v2 v3 v4 v5 =
  cond (v1 < v0) (
 cond (v1 < 0) (
 .row []) (
 cond (v1 < len v3) (
 cond ((sl (GM (cl v3 v1 0)) 0).toInt=1) (
 cond ((sl (GM (cl v3 v1 0)) 1).toBool) (
 cond ((sl (Ju v3 (cl v3 v1 0)) 0).toInt=1) (
 cond ((sl (Ju v3 (cl v3 v1 0)) 1).toInt < v1) (
 .row [.int 1,(.int v1)]) (
 cond ((cl v3 v1 2).toInt < 0) (
 .row [.int 1,(.int v1)]) (
 cond (1048576 < (cl v3 v1 2).toInt) (
 .row [.int 1,(.int v1)]) (
 UZ (.int v0) (.int (IntKind.wrap .i64 (v1 + 1))) v2 v3 v4 v5)))) (
 .row [])) (
 .row [.int 1,(.int v1)])) (
 .row [])) (
 .row []))) (
 .row [.int 1,(.int (-1))]):=gw rfl rfl (cL (cL rfl (cL (cQ (cg rfl (cQ (cL rfl (cL rfl (cL rfl rfl))) rfl) rfl) rfl) rfl)) rfl)
theorem tX (v0 v1 v2:D) (v3:Int) (v4 v5 v6:D) (v7 v8 v9:Int):cP v0 v1 v2 (.int v3) v4 v5 v6 (.int v7) (.int v8) (.int v9) =
 Vb v0 (.int 0) v1 v2 (.int v3) v4 v5 v6 (.int v7) (.int v8) (.int v9):=gw rfl rfl rfl
theorem qL (v0:D) (v1:Int) (v2 v3:D) (v4:Int) (v5 v6 v7:D) (v8 v9 v10:Int):Vb v0 (.int v1) v2 v3 (.int v4) v5 v6 v7 (.int v8) (.int v9) (.int v10) =
  cond (v1 < len v0) (
 cond (v1 < 0) (
 .row []) (
 cond ((D.strEq v2 (cl v0 v1 0) && (D.strEq v3 (cl v0 v1 1) && (decide (v4=(cl v0 v1 2).toInt) && (D.strEq v5 (cl v0 v1 3) && (D.strEq v6 (cl v0 v1 4) && (D.strEq v7 (cl v0 v1 5) && (decide (v8=(cl v0 v1 6).toInt) && (decide (v9=(cl v0 v1 7).toInt) && decide (v10=(cl v0 v1 8).toInt)))))))))) (
 .row [.int 1,(.int v1)]) (
 Vb v0 (.int (IntKind.wrap .i64 (v1 + 1))) v2 v3 (.int v4) v5 v6 v7 (.int v8) (.int v9) (.int v10)))) (
 .row [.int 1,(.int (-1))]):=gw rfl rfl (cL (cL rfl (cg (aE rfl (aE rfl (aE (qE rfl rfl) (aE rfl (aE rfl (aE rfl (aE (qE rfl rfl) (aE (qE rfl rfl) (qE rfl rfl))))))))) rfl rfl)) rfl)
theorem uS (v0 v1 v2:Int) (v3 v4 v5 v6:D):WJ (.int v0) (.int v1) (.int v2) v3 v4 v5 v6 =
  cond (v0 < v1) (
 .row [.int 1,(.int 0)]) (
 cond (v2 < v0) (
 .row [.int 1,(.int v2)]) (
 HT (.int v0) (.int 0) v3 v4 v5 v6)):=gw rfl rfl rfl
theorem lD (v0 v1:Int) (v2 v3 v4 v5:D) {F0 F1 F2:D} (h0:cP (sb v5 0 v1) (cl v5 v1 0) (cl v5 v1 1) (cl v5 v1 2) (cl v5 v1 3) (cl v5 v1 4) (cl v5 v1 5) (cl v5 v1 6) (cl v5 v1 7) (cl v5 v1 8)=F0) (h1:XH v4 (cl v5 v1 5)=F1) (h2:Ju v3 (cl v5 v1 0)=F2):HT (.int v0) (.int v1) v2 v3 v4 v5 =
  cond (v1 < v0) (
 cond (v1 < 0) (
 .row []) (
 cond (v1 < len v5) (
 cond ((cl v5 v1 2).toInt=1) (
 cond ((sl F2 0).toInt=1) (
 cond ((sl F1 0).toInt=1) (
 cond ((sl F2 1).toInt < 0) (
 .row [.int 1,(.int v1)]) (
 cond ((sl (Ju v3 (cl v5 v1 1)) 0).toInt=1) (
 cond ((sl (Ju v3 (cl v5 v1 1)) 1).toInt < 0) (
 .row [.int 1,(.int v1)]) (
 cond (len v5 < v1) (
 .row []) (
 cond ((sl F0 0).toInt=1) (
 cond ((sl F0 1).toInt < 0) (
 cond ((sl F2 1).toInt < len v3) (
 cond ((sl (GM (cl v5 v1 3)) 0).toInt=1) (
 cond ((sl (GM (cl v5 v1 3)) 1).toBool) (
 cond ((sl (GM (cl v5 v1 4)) 0).toInt=1) (
 cond ((sl (GM (cl v5 v1 4)) 1).toBool) (
 cond (D.strEq (cl v5 v1 4) v2) (
 .row [.int 1,(.int v1)]) (
 cond (eqC (cl v5 v1 5) 0 0) (
 cond ((cl v5 v1 6).toInt=0) (
 cond ((cl v5 v1 7).toInt=0) (
 cond ((cl v5 v1 8).toInt=0) (
 HT (.int v0) (.int (IntKind.wrap .i64 (v1 + 1))) v2 v3 v4 v5) (
 .row [.int 1,(.int v1)])) (
 .row [.int 1,(.int v1)])) (
 .row [.int 1,(.int v1)])) (
 cond ((sl F1 1).toInt < 0) (
 .row [.int 1,(.int v1)]) (
 cond ((cl v5 v1 6).toInt < 0) (
 .row [.int 1,(.int v1)]) (
 cond ((cl v5 v1 7).toInt < (cl v5 v1 6).toInt) (
 .row [.int 1,(.int v1)]) (
 cond ((cl v5 v1 8).toInt < (-1000)) (
 .row [.int 1,(.int v1)]) (
 cond (1000 < (cl v5 v1 8).toInt) (
 .row [.int 1,(.int v1)]) (
 cond ((sl F1 1).toInt < len v4) (
 cond ((cl v4 (sl F1 1).toInt 1).toInt < (cl v5 v1 7).toInt) (
 .row [.int 1,(.int v1)]) (
 cond ((IntKind.wrap .i64 ((cl v5 v1 6).toInt + (cl v5 v1 8).toInt)) < 0) (
 .row [.int 1,(.int v1)]) (
 cond ((cl v4 (sl F1 1).toInt 1).toInt < (IntKind.wrap .i64 ((cl v5 v1 7).toInt + (cl v5 v1 8).toInt))) (
 .row [.int 1,(.int v1)]) (
 HT (.int v0) (.int (IntKind.wrap .i64 (v1 + 1))) v2 v3 v4 v5)))) (
 .row []))))))))) (
 .row [.int 1,(.int v1)])) (
 .row [])) (
 .row [.int 1,(.int v1)])) (
 .row [])) (
 .row [])) (
 .row [.int 1,(.int v1)])) (
 .row [])))) (
 .row []))) (
 .row [])) (
 .row [])) (
 cond ((cl v5 v1 2).toInt=2) (
 cond ((sl F2 0).toInt=1) (
 cond ((sl F1 0).toInt=1) (
 cond ((sl F2 1).toInt < 0) (
 .row [.int 1,(.int v1)]) (
 cond ((sl (Ju v3 (cl v5 v1 1)) 0).toInt=1) (
 cond ((sl (Ju v3 (cl v5 v1 1)) 1).toInt < 0) (
 .row [.int 1,(.int v1)]) (
 cond (len v5 < v1) (
 .row []) (
 cond ((sl F0 0).toInt=1) (
 cond ((sl F0 1).toInt < 0) (
 cond ((sl F2 1).toInt < len v3) (
 cond ((sl (GM (cl v5 v1 3)) 0).toInt=1) (
 cond ((sl (GM (cl v5 v1 3)) 1).toBool) (
 cond ((sl (GM (cl v5 v1 4)) 0).toInt=1) (
 cond ((sl (GM (cl v5 v1 4)) 1).toBool) (
 cond (D.strEq (cl v5 v1 4) v2) (
 .row [.int 1,(.int v1)]) (
 cond (eqC (cl v5 v1 5) 0 0) (
 cond ((cl v5 v1 6).toInt=0) (
 cond ((cl v5 v1 7).toInt=0) (
 cond ((cl v5 v1 8).toInt=0) (
 HT (.int v0) (.int (IntKind.wrap .i64 (v1 + 1))) v2 v3 v4 v5) (
 .row [.int 1,(.int v1)])) (
 .row [.int 1,(.int v1)])) (
 .row [.int 1,(.int v1)])) (
 cond ((sl F1 1).toInt < 0) (
 .row [.int 1,(.int v1)]) (
 cond ((cl v5 v1 6).toInt < 0) (
 .row [.int 1,(.int v1)]) (
 cond ((cl v5 v1 7).toInt < (cl v5 v1 6).toInt) (
 .row [.int 1,(.int v1)]) (
 cond ((cl v5 v1 8).toInt < (-1000)) (
 .row [.int 1,(.int v1)]) (
 cond (1000 < (cl v5 v1 8).toInt) (
 .row [.int 1,(.int v1)]) (
 cond ((sl F1 1).toInt < len v4) (
 cond ((cl v4 (sl F1 1).toInt 1).toInt < (cl v5 v1 7).toInt) (
 .row [.int 1,(.int v1)]) (
 cond ((IntKind.wrap .i64 ((cl v5 v1 6).toInt + (cl v5 v1 8).toInt)) < 0) (
 .row [.int 1,(.int v1)]) (
 cond ((cl v4 (sl F1 1).toInt 1).toInt < (IntKind.wrap .i64 ((cl v5 v1 7).toInt + (cl v5 v1 8).toInt))) (
 .row [.int 1,(.int v1)]) (
 HT (.int v0) (.int (IntKind.wrap .i64 (v1 + 1))) v2 v3 v4 v5)))) (
 .row []))))))))) (
 .row [.int 1,(.int v1)])) (
 .row [])) (
 .row [.int 1,(.int v1)])) (
 .row [])) (
 .row [])) (
 .row [.int 1,(.int v1)])) (
 .row [])))) (
 .row []))) (
 .row [])) (
 .row [])) (
 cond ((cl v5 v1 2).toInt=3) (
 cond ((sl F2 0).toInt=1) (
 cond ((sl F1 0).toInt=1) (
 cond ((sl F2 1).toInt < 0) (
 .row [.int 1,(.int v1)]) (
 cond ((sl (Ju v3 (cl v5 v1 1)) 0).toInt=1) (
 cond ((sl (Ju v3 (cl v5 v1 1)) 1).toInt < 0) (
 .row [.int 1,(.int v1)]) (
 cond (len v5 < v1) (
 .row []) (
 cond ((sl F0 0).toInt=1) (
 cond ((sl F0 1).toInt < 0) (
 cond ((sl F2 1).toInt < len v3) (
 cond (0 < (cl v3 (sl F2 1).toInt 2).toInt) (
 cond ((BG (cl v5 v1 3):Int) < 4611686018427387904) (
 cond ((BG (cl v5 v1 4):Int) < 4611686018427387904) (
 cond (eqC (Zg (cl v5 v1 3) (cl v5 v1 4)) 0 0) (
 cond (eqC (cl v5 v1 5) 0 0) (
 cond ((cl v5 v1 6).toInt=0) (
 cond ((cl v5 v1 7).toInt=0) (
 cond ((cl v5 v1 8).toInt=0) (
 HT (.int v0) (.int (IntKind.wrap .i64 (v1 + 1))) v2 v3 v4 v5) (
 .row [.int 1,(.int v1)])) (
 .row [.int 1,(.int v1)])) (
 .row [.int 1,(.int v1)])) (
 cond ((sl F1 1).toInt < 0) (
 .row [.int 1,(.int v1)]) (
 cond ((cl v5 v1 6).toInt < 0) (
 .row [.int 1,(.int v1)]) (
 cond ((cl v5 v1 7).toInt < (cl v5 v1 6).toInt) (
 .row [.int 1,(.int v1)]) (
 cond ((cl v5 v1 8).toInt < (-1000)) (
 .row [.int 1,(.int v1)]) (
 cond (1000 < (cl v5 v1 8).toInt) (
 .row [.int 1,(.int v1)]) (
 cond ((sl F1 1).toInt < len v4) (
 cond ((cl v4 (sl F1 1).toInt 1).toInt < (cl v5 v1 7).toInt) (
 .row [.int 1,(.int v1)]) (
 cond ((IntKind.wrap .i64 ((cl v5 v1 6).toInt + (cl v5 v1 8).toInt)) < 0) (
 .row [.int 1,(.int v1)]) (
 cond ((cl v4 (sl F1 1).toInt 1).toInt < (IntKind.wrap .i64 ((cl v5 v1 7).toInt + (cl v5 v1 8).toInt))) (
 .row [.int 1,(.int v1)]) (
 HT (.int v0) (.int (IntKind.wrap .i64 (v1 + 1))) v2 v3 v4 v5)))) (
 .row [])))))))) (
 .row [.int 1,(.int v1)])) (
 .row [])) (
 .row [])) (
 .row [.int 1,(.int v1)])) (
 .row [])) (
 .row [.int 1,(.int v1)])) (
 .row [])))) (
 .row []))) (
 .row [])) (
 .row [])) (
 cond ((cl v5 v1 2).toInt=4) (
 cond ((sl F2 0).toInt=1) (
 cond ((sl F1 0).toInt=1) (
 cond ((sl F2 1).toInt < 0) (
 .row [.int 1,(.int v1)]) (
 cond ((sl (Ju v3 (cl v5 v1 1)) 0).toInt=1) (
 cond ((sl (Ju v3 (cl v5 v1 1)) 1).toInt < 0) (
 .row [.int 1,(.int v1)]) (
 cond (len v5 < v1) (
 .row []) (
 cond ((sl F0 0).toInt=1) (
 cond ((sl F0 1).toInt < 0) (
 cond ((sl F2 1).toInt < len v3) (
 cond ((BG (cl v5 v1 3):Int) < 4611686018427387904) (
 cond ((BG (cl v5 v1 4):Int) < 4611686018427387904) (
 cond (eqC (Zg (cl v5 v1 3) (cl v5 v1 4)) 0 0) (
 cond (eqC (cl v5 v1 5) 0 0) (
 cond ((cl v5 v1 6).toInt=0) (
 cond ((cl v5 v1 7).toInt=0) (
 cond ((cl v5 v1 8).toInt=0) (
 HT (.int v0) (.int (IntKind.wrap .i64 (v1 + 1))) v2 v3 v4 v5) (
 .row [.int 1,(.int v1)])) (
 .row [.int 1,(.int v1)])) (
 .row [.int 1,(.int v1)])) (
 cond ((sl F1 1).toInt < 0) (
 .row [.int 1,(.int v1)]) (
 cond ((cl v5 v1 6).toInt < 0) (
 .row [.int 1,(.int v1)]) (
 cond ((cl v5 v1 7).toInt < (cl v5 v1 6).toInt) (
 .row [.int 1,(.int v1)]) (
 cond ((cl v5 v1 8).toInt < (-1000)) (
 .row [.int 1,(.int v1)]) (
 cond (1000 < (cl v5 v1 8).toInt) (
 .row [.int 1,(.int v1)]) (
 cond ((sl F1 1).toInt < len v4) (
 cond ((cl v4 (sl F1 1).toInt 1).toInt < (cl v5 v1 7).toInt) (
 .row [.int 1,(.int v1)]) (
 cond ((IntKind.wrap .i64 ((cl v5 v1 6).toInt + (cl v5 v1 8).toInt)) < 0) (
 .row [.int 1,(.int v1)]) (
 cond ((cl v4 (sl F1 1).toInt 1).toInt < (IntKind.wrap .i64 ((cl v5 v1 7).toInt + (cl v5 v1 8).toInt))) (
 .row [.int 1,(.int v1)]) (
 HT (.int v0) (.int (IntKind.wrap .i64 (v1 + 1))) v2 v3 v4 v5)))) (
 .row [])))))))) (
 .row [.int 1,(.int v1)])) (
 .row [])) (
 .row [])) (
 .row [])) (
 .row [.int 1,(.int v1)])) (
 .row [])))) (
 .row []))) (
 .row [])) (
 .row [])) (
 cond ((sl F2 0).toInt=1) (
 cond ((sl F1 0).toInt=1) (
 .row [.int 1,(.int v1)]) (
 .row [])) (
 .row [])))))) (
 .row []))) (
 .row [.int 1,(.int (-1))]):=by
  subst h0;subst h1;subst h2;exact gw rfl rfl (cL (cL rfl (cL (cQ (cQ (cQ (cL rfl (cQ (cL rfl (cL rfl (cQ (cL (cL (cQ (cg rfl (cQ (cg rfl (cg rfl rfl (cg rfl (cQ (cQ (cQ rfl rfl) rfl) rfl) (cL rfl (cL rfl (cL rfl (cL rfl (cL rfl rfl))))))) rfl) rfl) rfl) rfl) rfl) rfl) rfl))) rfl)) rfl) rfl) (cQ (cQ (cQ (cL rfl (cQ (cL rfl (cL rfl (cQ (cL (cL (cQ (cg rfl (cQ (cg rfl (cg rfl rfl (cg rfl (cQ (cQ (cQ rfl rfl) rfl) rfl) (cL rfl (cL rfl (cL rfl (cL rfl (cL rfl rfl))))))) rfl) rfl) rfl) rfl) rfl) rfl) rfl))) rfl)) rfl) rfl) (cQ (cQ (cQ (cL rfl (cQ (cL rfl (cL rfl (cQ (cL (cL (cL (cL (cL (cg rfl (cg rfl (cQ (cQ (cQ rfl rfl) rfl) rfl) (cL rfl (cL rfl (cL rfl (cL rfl (cL rfl rfl)))))) rfl) rfl) rfl) rfl) rfl) rfl) rfl))) rfl)) rfl) rfl) (cQ (cQ (cQ (cL rfl (cQ (cL rfl (cL rfl (cQ (cL (cL (cL (cL (cg rfl (cg rfl (cQ (cQ (cQ rfl rfl) rfl) rfl) (cL rfl (cL rfl (cL rfl (cL rfl (cL rfl rfl)))))) rfl) rfl) rfl) rfl) rfl) rfl))) rfl)) rfl) rfl) (cQ (cQ rfl rfl) rfl))))) rfl)) rfl)
theorem pB (v0 v1 v2 v3:D):DZ v0 v1 v2 v3 =
  cond ((sl (GM v0) 0).toInt=1) (
 cond ((sl (GM v0) 1).toBool) (
 cond ((sl (YT (.int (len v2:Int)) (.int 0) (.int 4) v0 v1 v2 v3) 0).toInt=1) (
 cond ((sl (YT (.int (len v2:Int)) (.int 0) (.int 4) v0 v1 v2 v3) 1).toInt < 0) (
 cond ((sl (V9 (.int (len v1:Int)) (.int 1) (.int 24) v0 v1 v2 v3) 0).toInt=1) (
 cond ((sl (V9 (.int (len v1:Int)) (.int 1) (.int 24) v0 v1 v2 v3) 1).toInt < 0) (
 cond ((sl (WJ (.int (len v3:Int)) (.int 0) (.int 80) v0 v1 v2 v3) 0).toInt=1) (
 cond ((sl (WJ (.int (len v3:Int)) (.int 0) (.int 80) v0 v1 v2 v3) 1).toInt < 0) (
 .row [.int 1,(.int 0),(.int 0)]) (
 .row [.int 1,(sl (WJ (.int (len v3:Int)) (.int 0) (.int 80) v0 v1 v2 v3) 1),(.int 293)])) (
 .row [])) (
 .row [.int 1,(sl (V9 (.int (len v1:Int)) (.int 1) (.int 24) v0 v1 v2 v3) 1),(.int 292)])) (
 .row [])) (
 .row [.int 1,(sl (YT (.int (len v2:Int)) (.int 0) (.int 4) v0 v1 v2 v3) 1),(.int 291)])) (
 .row [])) (
 .row [.int 1,(.int 0),(.int 290)])) (
 .row []):=gw rfl rfl (cQ (cg rfl (cQ (cL (cQ (cL (cQ rfl rfl) rfl) rfl) rfl) rfl) rfl) rfl)
theorem lx (v0:D) (v1:Bool) (v2:D):D3 v0 (.bool v1) v2 =
 T3 v0 (.bool v1) (.int 0) v2:=gw rfl rfl rfl
theorem tT (v0:D) (v1:Bool) (v2:Int) (v3:D):T3 v0 (.bool v1) (.int v2) v3 =
  cond (v2 < len v0) (
 cond (v2 < 0) (
 .row []) (
 cond (D.strEq (cl v0 v2 0) v3) (
 .row [.int 1,(.int v2)]) (
 T3 v0 (.bool v1) (.int (IntKind.wrap .i64 (v2 + 1))) v3))) (
 .row [.int 1,(.int (-1))]):=gw rfl rfl rfl
theorem nQ (v0:D):AT v0 =
  cond (4 < (len v0:Int)) (
 .row []) (
 Ug v0 (.int 0) Aw (.bool true)):=gw rfl rfl rfl
theorem bC (v0:D) (v1:Int) (v2:D) (v3:Bool):Ug v0 (.int v1) v2 (.bool v3) =
  cond (v1 < len v0) (
 cond (v1 < 0) (
 .row []) (
 cond (eqC (cl v0 v1 0) 0 0) (
 .row []) (
 cond ((cl v0 v1 1).toInt < 1) (
 .row []) (
 cond (1000 < (cl v0 v1 1).toInt) (
 .row []) (
 cond ((sl (D3 v2 (.bool v3) (cl v0 v1 0)) 0).toInt=1) (
 cond ((sl (D3 v2 (.bool v3) (cl v0 v1 0)) 1).toInt < 0) (
 cond ((len v2:Int) < 1073741824) (
 Ug v0 (.int (IntKind.wrap .i64 (v1 + 1))) (ad v2 (.row [(cl v0 v1 0),(cl v0 v1 1),(.int 0)])) (.bool false)) (
 .row [])) (
 .row [])) (
 .row [])))))) (
 .row [.int 1,v2,(.bool v3)]):=gw rfl rfl (cL (cL rfl (cg rfl rfl (cL rfl (cL rfl (cQ (cL (cL rfl rfl) rfl) rfl))))) rfl)
theorem mR (v0:D):CR v0 =
  cond (v0.isNil) (
 .row [.int 1,Aw,(.bool true)]) (
 cond ((len v0:Int) < 1048576) (
 .row [.int 1,(ct Ar v0),(.bool false)]) (
 .row [])):=gw rfl rfl (cg rfl rfl (cL rfl rfl))
theorem jj (v0:D):CS v0 =
  cond (v0.isNil) (
 .row [.int 1,Aw,(.bool true)]) (
 cond ((len v0:Int) < 1048576) (
 .row [.int 1,(ct Ar v0),(.bool false)]) (
 .row [])):=gw rfl rfl (cg rfl rfl (cL rfl rfl))
theorem oO (v0:D):CT v0 =
  cond (v0.isNil) (
 .row [.int 1,Aw,(.bool true)]) (
 cond ((len v0:Int) < 1048576) (
 .row [.int 1,(ct Ar v0),(.bool false)]) (
 .row [])):=gw rfl rfl (cg rfl rfl (cL rfl rfl))
theorem lu (v0:D) (v1:Bool) (v2:D):En v0 (.bool v1) v2 =
 Qq Aw (.bool true) v0 (.bool v1) (.int 0) v2:=gw rfl rfl rfl
theorem bH (v0:D) (v1:Bool) (v2:D) (v3:Bool) (v4:Int) (v5:D):Qq v0 (.bool v1) v2 (.bool v3) (.int v4) v5 =
  cond (v4 < len v2) (
 cond (v4 < 0) (
 .row []) (
 cond (D.strEq (cl v2 v4 0) v5) (
 cond ((len v0:Int) < 1073741824) (
 Qq (ad v0 (.row [(cl v2 v4 0),(cl v2 v4 1),(cl v2 v4 2)])) (.bool false) v2 (.bool v3) (.int (IntKind.wrap .i64 (v4 + 1))) v5) (
 .row [])) (
 Qq v0 (.bool v1) v2 (.bool v3) (.int (IntKind.wrap .i64 (v4 + 1))) v5))) (
 .row [.int 1,v0,(.bool v1)]):=gw rfl rfl (cL (cL rfl (cg rfl (cL rfl rfl) rfl)) rfl)
theorem bp (v0:Int) (v1 v2 v3:D) (v4:Bool) (v5:Int):NN (.int v0) v1 v2 v3 (.bool v4) (.int v5) =
  cond (v5 < 0) (
 .row [.int 1,(.int 0),(.int 2)]) (
 cond (v5 < 256) (
 cond (v2.toBool) (
 .row [.int 1,(.int 0),(.int 9)]) (
 cond ((mIx [.int .i64] v1 (.row [(.int v5)])) < 0) (
 .row [.int 1,(.int 0),(.int 9)]) (
 .row [.int 1,(.int (IntKind.wrap .i64 ((cl v1 (mIx [.int .i64] v1 (.row [(.int v5)])) 1).toInt - v0))),(.int 0)]))) (
 .row [.int 1,(.int 0),(.int 2)])):=gw rfl rfl rfl
theorem bK (v0:Int) (v1 v2 v3:D) (v4:Bool) (v5:Int):Iy (.int v0) v1 v2 v3 (.bool v4) (.int v5) =
  cond ((sl (NN (.int v0) v1 v2 v3 (.bool v4) (.int v5)) 0).toInt=1) (
 cond ((sl (NN (.int v0) v1 v2 v3 (.bool v4) (.int v5)) 2).toInt=0) (
 cond (v2.toBool) (
 .row [.int 1,(.int 0),v1]) (
 cond ((mIx [.int .i64] v1 (.row [(.int v5)])) < 0) (
 .row [.int 1,(.int 0),v1]) (
 .row [.int 1,(.int 0),(KM v1 (mIx [.int .i64] v1 (.row [(.int v5)])))]))) (
 .row [.int 1,(sl (NN (.int v0) v1 v2 v3 (.bool v4) (.int v5)) 2),v1])) (
 .row []):=gw rfl rfl (cQ (cQ rfl rfl) rfl)
theorem oU (v0:Int) (v1 v2 v3:D) (v4:Bool) (v5 v6:Int):E7 (.int v0) v1 v2 v3 (.bool v4) (.int v5) (.int v6) =
  cond ((len v3:Int) < 1073741824) (
 Km (.int (IntKind.wrap .i64 ((len (ad v3 (.row [(.int v5),(.int v6)])):Int) - 1))) (.int v0) v2 (ad v3 (.row [(.int v5),(.int v6)])) (.bool false) v1) (
 .row []):=gw rfl rfl (cL rfl rfl)
theorem bi (v0 v1:Int) (v2 v3:D) (v4:Bool) (v5:D):Km (.int v0) (.int v1) v2 v3 (.bool v4) v5 =
  cond (0 < v0) (
 cond ((ari .quo .i64 (IntKind.wrap .i64 (v0 - 1)) 2) < 0) (
 .row []) (
 cond ((ari .quo .i64 (IntKind.wrap .i64 (v0 - 1)) 2) < (len v3:Int)) (
 cond (v0 < len v3) (
 cond ((cl v3 (ari .quo .i64 (IntKind.wrap .i64 (v0 - 1)) 2) 0).toInt < (cl v3 v0 0).toInt) (
 cond ((cl v3 (ari .quo .i64 (IntKind.wrap .i64 (v0 - 1)) 2) 1).toInt < (cl v3 v0 1).toInt) (
 .row [.int 1,v3,(.bool v4)]) (
 cond ((cl v3 v0 1).toInt < (cl v3 (ari .quo .i64 (IntKind.wrap .i64 (v0 - 1)) 2) 1).toInt) (
 .row [.int 1,v3,(.bool v4)]) (
 .row [.int 1,v3,(.bool v4)]))) (
 cond ((cl v3 v0 0).toInt < (cl v3 (ari .quo .i64 (IntKind.wrap .i64 (v0 - 1)) 2) 0).toInt) (
 cond ((cl v3 (ari .quo .i64 (IntKind.wrap .i64 (v0 - 1)) 2) 1).toInt < (cl v3 v0 1).toInt) (
 Km (.int (ari .quo .i64 (IntKind.wrap .i64 (v0 - 1)) 2)) (.int v1) v2 (upd (upd (upd (upd v3 (ari .quo .i64 (IntKind.wrap .i64 (v0 - 1)) 2) 0 (cl v3 v0 0)) (ari .quo .i64 (IntKind.wrap .i64 (v0 - 1)) 2) 1 (cl v3 v0 1)) v0 0 (cl v3 (ari .quo .i64 (IntKind.wrap .i64 (v0 - 1)) 2) 0)) v0 1 (cl v3 (ari .quo .i64 (IntKind.wrap .i64 (v0 - 1)) 2) 1)) (.bool v4) v5) (
 cond ((cl v3 v0 1).toInt < (cl v3 (ari .quo .i64 (IntKind.wrap .i64 (v0 - 1)) 2) 1).toInt) (
 Km (.int (ari .quo .i64 (IntKind.wrap .i64 (v0 - 1)) 2)) (.int v1) v2 (upd (upd (upd (upd v3 (ari .quo .i64 (IntKind.wrap .i64 (v0 - 1)) 2) 0 (cl v3 v0 0)) (ari .quo .i64 (IntKind.wrap .i64 (v0 - 1)) 2) 1 (cl v3 v0 1)) v0 0 (cl v3 (ari .quo .i64 (IntKind.wrap .i64 (v0 - 1)) 2) 0)) v0 1 (cl v3 (ari .quo .i64 (IntKind.wrap .i64 (v0 - 1)) 2) 1)) (.bool v4) v5) (
 Km (.int (ari .quo .i64 (IntKind.wrap .i64 (v0 - 1)) 2)) (.int v1) v2 (upd (upd (upd (upd v3 (ari .quo .i64 (IntKind.wrap .i64 (v0 - 1)) 2) 0 (cl v3 v0 0)) (ari .quo .i64 (IntKind.wrap .i64 (v0 - 1)) 2) 1 (cl v3 v0 1)) v0 0 (cl v3 (ari .quo .i64 (IntKind.wrap .i64 (v0 - 1)) 2) 0)) v0 1 (cl v3 (ari .quo .i64 (IntKind.wrap .i64 (v0 - 1)) 2) 1)) (.bool v4) v5))) (
 cond ((cl v3 (ari .quo .i64 (IntKind.wrap .i64 (v0 - 1)) 2) 1).toInt < (cl v3 v0 1).toInt) (
 .row [.int 1,v3,(.bool v4)]) (
 cond ((cl v3 v0 1).toInt < (cl v3 (ari .quo .i64 (IntKind.wrap .i64 (v0 - 1)) 2) 1).toInt) (
 Km (.int (ari .quo .i64 (IntKind.wrap .i64 (v0 - 1)) 2)) (.int v1) v2 (upd (upd (upd (upd v3 (ari .quo .i64 (IntKind.wrap .i64 (v0 - 1)) 2) 0 (cl v3 v0 0)) (ari .quo .i64 (IntKind.wrap .i64 (v0 - 1)) 2) 1 (cl v3 v0 1)) v0 0 (cl v3 (ari .quo .i64 (IntKind.wrap .i64 (v0 - 1)) 2) 0)) v0 1 (cl v3 (ari .quo .i64 (IntKind.wrap .i64 (v0 - 1)) 2) 1)) (.bool v4) v5) (
 .row [.int 1,v3,(.bool v4)]))))) (
 .row [])) (
 .row []))) (
 .row [.int 1,v3,(.bool v4)]):=gw rfl rfl rfl
theorem ml (v0:Int) (v1 v2 v3:D) (v4:Bool) (v5 v6:Int):Ly (.int v0) v1 v2 v3 (.bool v4) (.int v5) (.int v6) =
  cond (v5 < 0) (
 .row [.int 1,(.int 2),v2,v3,(.bool v4),v1]) (
 cond (v5 < 256) (
 cond (v6 < 0) (
 .row [.int 1,(.int 3),v2,v3,(.bool v4),v1]) (
 cond ((IntKind.wrap .i64 (1099511627776 - v0)) < v6) (
 .row [.int 1,(.int 3),v2,v3,(.bool v4),v1]) (
 cond (v2.toBool) (
 cond ((sl (E7 (.int v0) (ad Ar (.row [(.int v5),(.int (IntKind.wrap .i64 (v0 + v6)))])) (.bool false) v3 (.bool v4) (.int (IntKind.wrap .i64 (v0 + v6))) (.int v5)) 0).toInt=1) (
 .row [.int 1,(.int 0),(.bool false),(sl (E7 (.int v0) (ad Ar (.row [(.int v5),(.int (IntKind.wrap .i64 (v0 + v6)))])) (.bool false) v3 (.bool v4) (.int (IntKind.wrap .i64 (v0 + v6))) (.int v5)) 1),(sl (E7 (.int v0) (ad Ar (.row [(.int v5),(.int (IntKind.wrap .i64 (v0 + v6)))])) (.bool false) v3 (.bool v4) (.int (IntKind.wrap .i64 (v0 + v6))) (.int v5)) 2),(ad Ar (.row [(.int v5),(.int (IntKind.wrap .i64 (v0 + v6)))]))]) (
 .row [])) (
 cond ((mIx [.int .i64] v1 (.row [(.int v5)])) < 0) (
 cond ((sl (E7 (.int v0) (ad v1 (.row [(.int v5),(.int (IntKind.wrap .i64 (v0 + v6)))])) v2 v3 (.bool v4) (.int (IntKind.wrap .i64 (v0 + v6))) (.int v5)) 0).toInt=1) (
 .row [.int 1,(.int 0),v2,(sl (E7 (.int v0) (ad v1 (.row [(.int v5),(.int (IntKind.wrap .i64 (v0 + v6)))])) v2 v3 (.bool v4) (.int (IntKind.wrap .i64 (v0 + v6))) (.int v5)) 1),(sl (E7 (.int v0) (ad v1 (.row [(.int v5),(.int (IntKind.wrap .i64 (v0 + v6)))])) v2 v3 (.bool v4) (.int (IntKind.wrap .i64 (v0 + v6))) (.int v5)) 2),(ad v1 (.row [(.int v5),(.int (IntKind.wrap .i64 (v0 + v6)))]))]) (
 .row [])) (
 cond ((sl (E7 (.int v0) (upd v1 (mIx [.int .i64] v1 (.row [(.int v5)])) 1 (.int (IntKind.wrap .i64 (v0 + v6)))) v2 v3 (.bool v4) (.int (IntKind.wrap .i64 (v0 + v6))) (.int v5)) 0).toInt=1) (
 .row [.int 1,(.int 0),v2,(sl (E7 (.int v0) (upd v1 (mIx [.int .i64] v1 (.row [(.int v5)])) 1 (.int (IntKind.wrap .i64 (v0 + v6)))) v2 v3 (.bool v4) (.int (IntKind.wrap .i64 (v0 + v6))) (.int v5)) 1),(sl (E7 (.int v0) (upd v1 (mIx [.int .i64] v1 (.row [(.int v5)])) 1 (.int (IntKind.wrap .i64 (v0 + v6)))) v2 v3 (.bool v4) (.int (IntKind.wrap .i64 (v0 + v6))) (.int v5)) 2),(upd v1 (mIx [.int .i64] v1 (.row [(.int v5)])) 1 (.int (IntKind.wrap .i64 (v0 + v6))))]) (
 .row [])))))) (
 .row [.int 1,(.int 2),v2,v3,(.bool v4),v1])):=gw rfl rfl (cL rfl (cL (cL rfl (cL rfl (cg rfl (cQ rfl rfl) (cL (cQ rfl rfl) (cQ rfl rfl))))) rfl))
theorem b8 (v0:D) (v1:Bool) (v2 v3:D) (v4:Bool) (v5:D) (v6:Bool) (v7:D) (v8:Bool) (v9:D) (v10:Bool) (v11 v12:Int) (v13 v14 v15:D) (v16 v17:Bool) (v18:D) (v19:Bool) (v20:D):DB v0 (.bool v1) v2 v3 (.bool v4) v5 (.bool v6) v7 (.bool v8) v9 (.bool v10) (.int v11) (.int v12) v13 v14 v15 (.bool v16) (.bool v17) v18 (.bool v19) v20 =
  cond ((sl (En v3 (.bool v4) v20) 0).toInt=1) (
 cond (0 < (len (sl (En v3 (.bool v4) v20) 1):Int)) (
 cond ((sl (Iy (.int v12) v13 v14 v15 (.bool v16) (.int 0)) 0).toInt=1) (
 cond (0 < (cl (sl (En v3 (.bool v4) v20) 1) 0 2).toInt) (
 cond ((sl (Ly (.int v12) (sl (Iy (.int v12) v13 v14 v15 (.bool v16) (.int 0)) 2) v14 v15 (.bool v16) (.int 0) (cl (sl (En v3 (.bool v4) v20) 1) 0 2)) 0).toInt=1) (
 .row [.int 1,(cl (sl (En v3 (.bool v4) v20) 1) 0 0),(cl (sl (En v3 (.bool v4) v20) 1) 0 1),(cl (sl (En v3 (.bool v4) v20) 1) 0 2),(sl (Ly (.int v12) (sl (Iy (.int v12) v13 v14 v15 (.bool v16) (.int 0)) 2) v14 v15 (.bool v16) (.int 0) (cl (sl (En v3 (.bool v4) v20) 1) 0 2)) 2),(sl (Ly (.int v12) (sl (Iy (.int v12) v13 v14 v15 (.bool v16) (.int 0)) 2) v14 v15 (.bool v16) (.int 0) (cl (sl (En v3 (.bool v4) v20) 1) 0 2)) 3),(sl (Ly (.int v12) (sl (Iy (.int v12) v13 v14 v15 (.bool v16) (.int 0)) 2) v14 v15 (.bool v16) (.int 0) (cl (sl (En v3 (.bool v4) v20) 1) 0 2)) 4),(sl (Ly (.int v12) (sl (Iy (.int v12) v13 v14 v15 (.bool v16) (.int 0)) 2) v14 v15 (.bool v16) (.int 0) (cl (sl (En v3 (.bool v4) v20) 1) 0 2)) 5)]) (
 .row [])) (
 .row [.int 1,(cl (sl (En v3 (.bool v4) v20) 1) 0 0),(cl (sl (En v3 (.bool v4) v20) 1) 0 1),(cl (sl (En v3 (.bool v4) v20) 1) 0 2),v14,v15,(.bool v16),(sl (Iy (.int v12) v13 v14 v15 (.bool v16) (.int 0)) 2)])) (
 .row [])) (
 .row [])) (
 .row []):=gw rfl rfl (cQ (cL (cQ (cL (cQ rfl rfl) rfl) rfl) rfl) rfl)
theorem bu (v0 v1 v2 v3:D):Cs v0 v1 v2 v3 =
  cond ((sl (DZ v0 v1 v2 v3) 0).toInt=1) (
 cond ((sl (DZ v0 v1 v2 v3) 2).toInt=0) (
 cond ((sl (AT v2) 0).toInt=1) (
 cond ((sl (CR v1) 0).toInt=1) (
 cond ((sl (CS v2) 0).toInt=1) (
 cond ((sl (CT v3) 0).toInt=1) (
 cond (0 < (len v1:Int)) (
 cond ((sl (DB (sl (AT v2) 1) (sl (AT v2) 2) v0 (sl (CR v1) 1) (sl (CR v1) 2) (sl (CS v2) 1) (sl (CS v2) 2) (sl (CT v3) 1) (sl (CT v3) 2) (CN 0 0) (.bool false) (.int 0) (.int 0) Ar (.bool true) Aw (.bool true) (.bool false) Aw (.bool true) (cl v1 0 0)) 0).toInt=1) (
 .row [.int 1,v0,(sl (CR v1) 1),(sl (CR v1) 2),(sl (CS v2) 1),(sl (CS v2) 2),(sl (CT v3) 1),(sl (CT v3) 2),(sl (DB (sl (AT v2) 1) (sl (AT v2) 2) v0 (sl (CR v1) 1) (sl (CR v1) 2) (sl (CS v2) 1) (sl (CS v2) 2) (sl (CT v3) 1) (sl (CT v3) 2) (CN 0 0) (.bool false) (.int 0) (.int 0) Ar (.bool true) Aw (.bool true) (.bool false) Aw (.bool true) (cl v1 0 0)) 1),(sl (DB (sl (AT v2) 1) (sl (AT v2) 2) v0 (sl (CR v1) 1) (sl (CR v1) 2) (sl (CS v2) 1) (sl (CS v2) 2) (sl (CT v3) 1) (sl (CT v3) 2) (CN 0 0) (.bool false) (.int 0) (.int 0) Ar (.bool true) Aw (.bool true) (.bool false) Aw (.bool true) (cl v1 0 0)) 2),(sl (DB (sl (AT v2) 1) (sl (AT v2) 2) v0 (sl (CR v1) 1) (sl (CR v1) 2) (sl (CS v2) 1) (sl (CS v2) 2) (sl (CT v3) 1) (sl (CT v3) 2) (CN 0 0) (.bool false) (.int 0) (.int 0) Ar (.bool true) Aw (.bool true) (.bool false) Aw (.bool true) (cl v1 0 0)) 3),Aw,(sl (AT v2) 1),(sl (AT v2) 2),(sl (DB (sl (AT v2) 1) (sl (AT v2) 2) v0 (sl (CR v1) 1) (sl (CR v1) 2) (sl (CS v2) 1) (sl (CS v2) 2) (sl (CT v3) 1) (sl (CT v3) 2) (CN 0 0) (.bool false) (.int 0) (.int 0) Ar (.bool true) Aw (.bool true) (.bool false) Aw (.bool true) (cl v1 0 0)) 4),(sl (DB (sl (AT v2) 1) (sl (AT v2) 2) v0 (sl (CR v1) 1) (sl (CR v1) 2) (sl (CS v2) 1) (sl (CS v2) 2) (sl (CT v3) 1) (sl (CT v3) 2) (CN 0 0) (.bool false) (.int 0) (.int 0) Ar (.bool true) Aw (.bool true) (.bool false) Aw (.bool true) (cl v1 0 0)) 5),(sl (DB (sl (AT v2) 1) (sl (AT v2) 2) v0 (sl (CR v1) 1) (sl (CR v1) 2) (sl (CS v2) 1) (sl (CS v2) 2) (sl (CT v3) 1) (sl (CT v3) 2) (CN 0 0) (.bool false) (.int 0) (.int 0) Ar (.bool true) Aw (.bool true) (.bool false) Aw (.bool true) (cl v1 0 0)) 6),(sl (DB (sl (AT v2) 1) (sl (AT v2) 2) v0 (sl (CR v1) 1) (sl (CR v1) 2) (sl (CS v2) 1) (sl (CS v2) 2) (sl (CT v3) 1) (sl (CT v3) 2) (CN 0 0) (.bool false) (.int 0) (.int 0) Ar (.bool true) Aw (.bool true) (.bool false) Aw (.bool true) (cl v1 0 0)) 7)]) (
 .row [])) (
 .row [])) (
 .row [])) (
 .row [])) (
 .row [])) (
 .row [])) (
 .row [.int 2,(sl (DZ v0 v1 v2 v3) 2)])) (
 .row []):=gw rfl rfl (cQ (cQ (cQ (cQ (cQ (cQ (cL (cQ rfl rfl) rfl) rfl) rfl) rfl) rfl) rfl) rfl)
theorem bA (v0:D):DA v0 =
  cond ((BG v0:Int) < 1) (
 .row [.int 1,(.bool false)]) (
 cond (32 < (BG v0:Int)) (
 .row [.int 1,(.bool false)]) (
 cond ((sAt v0 0)=95) (
 .row [.int 1,(.bool false)]) (
 cond ((sAt v0 0) < 48) (
 J1 v0 (.int 0)) (
 cond (57 < (sAt v0 0)) (
 J1 v0 (.int 0)) (
 .row [.int 1,(.bool false)]))))):=gw rfl rfl (cL rfl (cL rfl (cQ rfl rfl)))
theorem WP (v0:D) (v1:Int):J1 v0 (.int v1) =
  cond (v1 < (BG v0:Int)) (
 cond (v1 < 0) (
 .row []) (
 cond ((sAt v0 v1) < 97) (
 cond ((sAt v0 v1) < 65) (
 cond ((sAt v0 v1) < 48) (
 .row [.int 1,(.bool false)]) (
 cond (57 < (sAt v0 v1)) (
 .row [.int 1,(.bool false)]) (
 J1 v0 (.int (IntKind.wrap .i64 (v1 + 1)))))) (
 cond (90 < (sAt v0 v1)) (
 cond ((sAt v0 v1)=95) (
 J1 v0 (.int (IntKind.wrap .i64 (v1 + 1)))) (
 .row [.int 1,(.bool false)])) (
 J1 v0 (.int (IntKind.wrap .i64 (v1 + 1)))))) (
 cond (122 < (sAt v0 v1)) (
 .row [.int 1,(.bool false)]) (
 J1 v0 (.int (IntKind.wrap .i64 (v1 + 1))))))) (
 .row [.int 1,(.bool true)]):=gw rfl rfl (cL (cL rfl (cL (cL rfl (cL (cQ rfl rfl) rfl)) rfl)) rfl)
theorem kf (v0 v1 v2 v3 v4:D):Jg v0 v1 v2 v3 v4 =
 Tf v4 (.int 0) v0 v1 v2 v3:=gw rfl rfl rfl
theorem iK (v0:D) (v1:Int) (v2 v3 v4 v5:D):Tf v0 (.int v1) v2 v3 v4 v5 =
  cond (v1 < len v4) (
 cond (v1 < 0) (
 .row []) (
 cond (D.strEq (cl v4 v1 0) v0) (
 .row [.int 1,(.int v1)]) (
 Tf v0 (.int (IntKind.wrap .i64 (v1 + 1))) v2 v3 v4 v5))) (
 .row [.int 1,(.int (-1))]):=gw rfl rfl rfl
theorem kh (v0 v1 v2 v3 v4:D):HN v0 v1 v2 v3 v4 =
 Un v4 (.int 0) v0 v1 v2 v3:=gw rfl rfl rfl
theorem gL (v0:D) (v1:Int) (v2 v3 v4 v5:D):Un v0 (.int v1) v2 v3 v4 v5 =
  cond (v1 < len v3) (
 cond (v1 < 0) (
 .row []) (
 cond (D.strEq (cl v3 v1 0) v0) (
 .row [.int 1,(.int v1)]) (
 Un v0 (.int (IntKind.wrap .i64 (v1 + 1))) v2 v3 v4 v5))) (
 .row [.int 1,(.int (-1))]):=gw rfl rfl rfl
theorem jO (v0 v1 v2 v3:D) (v4:Int):Ui v0 v1 v2 v3 (.int v4) =
  cond (v4 < 0) (
 .row []) (
 cond (v4 < len v3) (
 cond ((sl (HN v0 v1 v2 v3 (cl v3 v4 0)) 0).toInt=1) (
 cond ((sl (HN v0 v1 v2 v3 (cl v3 v4 0)) 1).toInt < 0) (
 .row [.int 1,(.bool false)]) (
 cond ((sl (HN v0 v1 v2 v3 (cl v3 v4 1)) 0).toInt=1) (
 cond ((sl (HN v0 v1 v2 v3 (cl v3 v4 1)) 1).toInt < 0) (
 .row [.int 1,(.bool false)]) (
 cond (eqC (cl v3 v4 5) 0 0) (
 cond ((cl v3 v4 6).toInt=0) (
 cond ((cl v3 v4 7).toInt=0) (
 cond ((cl v3 v4 8).toInt=0) (
 Gu (.int v4) (sl (HN v0 v1 v2 v3 (cl v3 v4 0)) 1) (.int 0) v0 v1 v2 v3 (cl v3 v4 0) (cl v3 v4 1) (cl v3 v4 2) (cl v3 v4 3) (cl v3 v4 4) (cl v3 v4 5) (cl v3 v4 6) (cl v3 v4 7) (cl v3 v4 8)) (
 .row [.int 1,(.bool false)])) (
 .row [.int 1,(.bool false)])) (
 .row [.int 1,(.bool false)])) (
 cond ((sl (Jg v0 v1 v2 v3 (cl v3 v4 5)) 0).toInt=1) (
 cond ((sl (Jg v0 v1 v2 v3 (cl v3 v4 5)) 1).toInt < 0) (
 .row [.int 1,(.bool false)]) (
 cond ((cl v3 v4 6).toInt < 0) (
 .row [.int 1,(.bool false)]) (
 cond ((cl v3 v4 7).toInt < (cl v3 v4 6).toInt) (
 .row [.int 1,(.bool false)]) (
 cond ((sl (Jg v0 v1 v2 v3 (cl v3 v4 5)) 1).toInt < len v2) (
 cond ((cl v2 (sl (Jg v0 v1 v2 v3 (cl v3 v4 5)) 1).toInt 1).toInt < (cl v3 v4 7).toInt) (
 .row [.int 1,(.bool false)]) (
 cond ((cl v3 v4 8).toInt < (-1000)) (
 .row [.int 1,(.bool false)]) (
 cond (1000 < (cl v3 v4 8).toInt) (
 .row [.int 1,(.bool false)]) (
 cond ((IntKind.wrap .i64 ((cl v3 v4 6).toInt + (cl v3 v4 8).toInt)) < 0) (
 .row [.int 1,(.bool false)]) (
 cond ((cl v2 (sl (Jg v0 v1 v2 v3 (cl v3 v4 5)) 1).toInt 1).toInt < (IntKind.wrap .i64 ((cl v3 v4 7).toInt + (cl v3 v4 8).toInt))) (
 .row [.int 1,(.bool false)]) (
 Gu (.int v4) (sl (HN v0 v1 v2 v3 (cl v3 v4 0)) 1) (.int 0) v0 v1 v2 v3 (cl v3 v4 0) (cl v3 v4 1) (cl v3 v4 2) (cl v3 v4 3) (cl v3 v4 4) (cl v3 v4 5) (cl v3 v4 6) (cl v3 v4 7) (cl v3 v4 8))))))) (
 .row []))))) (
 .row [])))) (
 .row []))) (
 .row [])) (
 .row [])):=gw rfl rfl (cL rfl (cL (cQ (cL rfl (cQ (cL rfl (cg rfl (cQ (cQ (cQ rfl rfl) rfl) rfl) (cQ (cL rfl (cL rfl (cL rfl (cL (cL rfl (cL rfl (cL rfl rfl))) rfl)))) rfl))) rfl)) rfl) rfl))
theorem cw (v0 v1 v2:Int) (v3 v4 v5 v6 v7 v8:D) (v9:Int) (v10 v11 v12:D) (v13 v14 v15:Int):Gu (.int v0) (.int v1) (.int v2) v3 v4 v5 v6 v7 v8 (.int v9) v10 v11 v12 (.int v13) (.int v14) (.int v15) =
  cond (v2 < v0) (
 cond (v2 < 0) (
 .row []) (
 cond (v2 < len v6) (
 cond ((D.strEq (cl v6 v2 0) v7 && (D.strEq (cl v6 v2 1) v8 && (decide ((cl v6 v2 2).toInt=v9) && (D.strEq (cl v6 v2 3) v10 && (D.strEq (cl v6 v2 4) v11 && (D.strEq (cl v6 v2 5) v12 && (decide ((cl v6 v2 6).toInt=v13) && (decide ((cl v6 v2 7).toInt=v14) && decide ((cl v6 v2 8).toInt=v15)))))))))) (
 .row [.int 1,(.bool false)]) (
 Gu (.int v0) (.int v1) (.int (IntKind.wrap .i64 (v2 + 1))) v3 v4 v5 v6 v7 v8 (.int v9) v10 v11 v12 (.int v13) (.int v14) (.int v15))) (
 .row []))) (
 cond (v9=1) (
 cond ((sl (DA v10) 0).toInt=1) (
 cond ((sl (DA v10) 1).toBool) (
 cond ((sl (DA v11) 0).toInt=1) (
 cond ((sl (DA v11) 1).toBool) (
 .row [.int 1,(.bool (!D.strEq v11 v3))]) (
 .row [.int 1,(.bool false)])) (
 .row [])) (
 .row [.int 1,(.bool false)])) (
 .row [])) (
 cond (v9=2) (
 cond ((sl (DA v10) 0).toInt=1) (
 cond ((sl (DA v10) 1).toBool) (
 cond ((sl (DA v11) 0).toInt=1) (
 cond ((sl (DA v11) 1).toBool) (
 .row [.int 1,(.bool (!D.strEq v11 v3))]) (
 .row [.int 1,(.bool false)])) (
 .row [])) (
 .row [.int 1,(.bool false)])) (
 .row [])) (
 cond (v9=3) (
 cond (eqC v10 0 0) (
 cond (eqC v11 0 0) (
 cond (v1 < 0) (
 .row []) (
 cond (v1 < len v4) (
 .row [.int 1,(.bool (decide (0 < (cl v4 v1 2).toInt)))]) (
 .row []))) (
 .row [.int 1,(.bool false)])) (
 .row [.int 1,(.bool false)])) (
 cond (v9=4) (
 cond (eqC v10 0 0) (
 .row [.int 1,(.bool (eqC v11 0 0))]) (
 .row [.int 1,(.bool false)])) (
 .row [.int 1,(.bool false)]))))):=gw rfl rfl (cL (cL rfl (cL (cg (aE rfl (aE rfl (aE (qE rfl rfl) (aE rfl (aE rfl (aE rfl (aE (qE rfl rfl) (aE (qE rfl rfl) (qE rfl rfl))))))))) rfl rfl) rfl)) (cQ (cQ (cg rfl (cQ rfl rfl) rfl) rfl) (cQ (cQ (cg rfl (cQ rfl rfl) rfl) rfl) (cQ rfl (cQ rfl rfl)))))
theorem be (v0 v1 v2 v3:D):HO v0 v1 v2 v3 =
  cond ((sl (DA v0) 0).toInt=1) (
 cond ((sl (DA v0) 1).toBool) (
 cond (4 < (len v2:Int)) (
 .row [.int 1,(.int 4),(.int 291)]) (
 Kk (.int 0) v0 v1 v2 v3)) (
 .row [.int 1,(.int 0),(.int 290)])) (
 .row []):=gw rfl rfl (cQ rfl rfl)
theorem Wb (v0:Int) (v1 v2 v3 v4:D):Kk (.int v0) v1 v2 v3 v4 =
  cond (v0 < len v3) (
 cond (v0 < 0) (
 .row []) (
 cond ((sl (DA (cl v3 v0 0)) 0).toInt=1) (
 cond ((sl (DA (cl v3 v0 0)) 1).toBool) (
 cond ((sl (Jg v1 v2 v3 v4 (cl v3 v0 0)) 0).toInt=1) (
 cond ((sl (Jg v1 v2 v3 v4 (cl v3 v0 0)) 1).toInt=v0) (
 cond ((cl v3 v0 1).toInt < 1) (
 .row [.int 1,(.int v0),(.int 291)]) (
 cond (1000 < (cl v3 v0 1).toInt) (
 .row [.int 1,(.int v0),(.int 291)]) (
 Kk (.int (IntKind.wrap .i64 (v0 + 1))) v1 v2 v3 v4))) (
 .row [.int 1,(.int v0),(.int 291)])) (
 .row [])) (
 .row [.int 1,(.int v0),(.int 291)])) (
 .row []))) (
 cond ((len v2:Int)=0) (
 .row [.int 1,(.int 0),(.int 292)]) (
 cond (24 < (len v2:Int)) (
 .row [.int 1,(.int 24),(.int 292)]) (
 Kf (.int 0) v1 v2 v3 v4))):=gw rfl rfl (cL (cL rfl (cQ (cg rfl (cQ (cQ (cL rfl (cL rfl rfl)) rfl) rfl) rfl) rfl)) (cQ rfl rfl))
theorem Yl (v0:Int) (v1 v2 v3 v4:D):Kf (.int v0) v1 v2 v3 v4 =
  cond (v0 < len v2) (
 cond (v0 < 0) (
 .row []) (
 cond ((sl (DA (cl v2 v0 0)) 0).toInt=1) (
 cond ((sl (DA (cl v2 v0 0)) 1).toBool) (
 cond ((sl (HN v1 v2 v3 v4 (cl v2 v0 0)) 0).toInt=1) (
 cond ((sl (HN v1 v2 v3 v4 (cl v2 v0 0)) 1).toInt=v0) (
 cond ((cl v2 v0 2).toInt < 0) (
 .row [.int 1,(.int v0),(.int 292)]) (
 cond (1048576 < (cl v2 v0 2).toInt) (
 .row [.int 1,(.int v0),(.int 292)]) (
 Kf (.int (IntKind.wrap .i64 (v0 + 1))) v1 v2 v3 v4))) (
 .row [.int 1,(.int v0),(.int 292)])) (
 .row [])) (
 .row [.int 1,(.int v0),(.int 292)])) (
 .row []))) (
 cond (80 < (len v4:Int)) (
 .row [.int 1,(.int 80),(.int 293)]) (
 Kn (.int 0) v1 v2 v3 v4)):=gw rfl rfl (cL (cL rfl (cQ (cg rfl (cQ (cQ (cL rfl (cL rfl rfl)) rfl) rfl) rfl) rfl)) rfl)
theorem XK (v0:Int) (v1 v2 v3 v4:D):Kn (.int v0) v1 v2 v3 v4 =
  cond (v0 < len v4) (
 cond ((sl (Ui v1 v2 v3 v4 (.int v0)) 0).toInt=1) (
 cond ((sl (Ui v1 v2 v3 v4 (.int v0)) 1).toBool) (
 Kn (.int (IntKind.wrap .i64 (v0 + 1))) v1 v2 v3 v4) (
 .row [.int 1,(.int v0),(.int 293)])) (
 .row [])) (
 .row [.int 1,(.int 0),(.int 0)]):=gw rfl rfl (cL (cQ rfl rfl) rfl)
theorem sR (v0:D):Qy v0 =
  cond (4 < (len v0:Int)) (
 .row [.int 1,Aw,Aw,(.int 2)]) (
 P9 v0 (.int 0) Aw (.bool true) Aw (.bool true)):=gw rfl rfl rfl
theorem ci (v0:D) (v1:Int) (v2:D) (v3:Bool) (v4:D) (v5:Bool):P9 v0 (.int v1) v2 (.bool v3) v4 (.bool v5) =
  cond (v1 < len v0) (
 cond (v1 < 0) (
 .row []) (
 cond (eqC (cl v0 v1 0) 0 0) (
 .row [.int 1,Aw,Aw,(.int 2)]) (
 cond ((cl v0 v1 1).toInt < 1) (
 .row [.int 1,Aw,Aw,(.int 2)]) (
 cond (1000 < (cl v0 v1 1).toInt) (
 .row [.int 1,Aw,Aw,(.int 2)]) (
 TD v0 (.int v1) (.int 0) v2 (.bool v3) v4 (.bool v5)))))) (
 .row [.int 1,(ni v2 v3),(ni v4 v5),(.int 0)]):=gw rfl rfl (cL (cL rfl (cg rfl rfl (cL rfl (cL rfl rfl)))) rfl)
theorem cr (v0:D) (v1 v2:Int) (v3:D) (v4:Bool) (v5:D) (v6:Bool):TD v0 (.int v1) (.int v2) v3 (.bool v4) v5 (.bool v6) =
  cond (v2 < v1) (
 cond (v2 < 0) (
 .row []) (
 cond (v2 < len v0) (
 cond (v1 < 0) (
 .row []) (
 cond (v1 < len v0) (
 cond (D.strEq (cl v0 v2 0) (cl v0 v1 0)) (
 .row [.int 1,Aw,Aw,(.int 2)]) (
 TD v0 (.int v1) (.int (IntKind.wrap .i64 (v2 + 1))) v3 (.bool v4) v5 (.bool v6))) (
 .row []))) (
 .row []))) (
 cond (v1 < 0) (
 .row []) (
 cond (v1 < len v0) (
 cond ((len v3:Int) < 1073741824) (
 cond ((len v5:Int) < 1073741824) (
 P9 v0 (.int (IntKind.wrap .i64 (v1 + 1))) (ad v3 (.row [(cl v0 v1 0),(cl v0 v1 1)])) (.bool false) (ad v5 (.row [(.int 0)])) (.bool false)) (
 .row [])) (
 .row [])) (
 .row []))):=gw rfl rfl (cL rfl (cL rfl (cL (cL (cL rfl rfl) rfl) rfl)))
theorem bD (v0 v1 v2 v3:D):El v0 v1 v2 v3 =
  cond ((sl (HO v0 v1 v2 v3) 0).toInt=1) (
 cond ((sl (HO v0 v1 v2 v3) 2).toInt=0) (
 cond ((sl (Qy v2) 0).toInt=1) (
 cond (0 < (len v1:Int)) (
 .row [.int 1,v0,v1,v2,v3,(cl v1 0 0),(sl (Qy v2) 1),(sl (Qy v2) 2),(.int 0)]) (
 .row [])) (
 .row [])) (
 .row [.int 1,(CN 0 0),Aw,Aw,Aw,(CN 0 0),Aw,Aw,(sl (HO v0 v1 v2 v3) 2)])) (
 .row []):=gw rfl rfl (cQ (cQ (cQ rfl rfl) rfl) rfl)
theorem bg (v0:D) (v1:Bool):KA v0 (.bool v1) =
  cond (v1) (
 .row [.int 1,Aw,(.bool true)]) (
 cond ((len v0:Int) < 1048576) (
 .row [.int 1,(ct Ar v0),(.bool false)]) (
 .row [])):=gw rfl rfl (cg rfl rfl (cL rfl rfl))
theorem br (v0:Int) (v1 v2 v3:D) (v4:Bool):GN (.int v0) v1 v2 v3 (.bool v4) =
  cond (v2.toBool) (
 cond ((sl (KA v3 (.bool v4)) 0).toInt=1) (
 .row [.int 1,(.int v0),(.bool true),(sl (KA v3 (.bool v4)) 1),(sl (KA v3 (.bool v4)) 2),Ar]) (
 .row [])) (
 cond ((sl (KA v3 (.bool v4)) 0).toInt=1) (
 .row [.int 1,(.int v0),(.bool false),(sl (KA v3 (.bool v4)) 1),(sl (KA v3 (.bool v4)) 2),v1]) (
 .row [])):=gw rfl rfl (cg rfl (cQ rfl rfl) (cQ rfl rfl))
theorem qv (v0:Int) (v1 v2 v3:D) (v4:Bool):G5 (.int v0) v1 v2 v3 (.bool v4) =
  cond ((IntKind.wrap .i64 ((len v3:Int) - 1)) < 0) (
 .row []) (
 cond ((IntKind.wrap .i64 ((len v3:Int) - 1)) < (len v3:Int)) (
 cond (0 < (len v3:Int)) (
 cond ((len (upd (upd v3 0 0 (cl v3 (IntKind.wrap .i64 ((len v3:Int) - 1)) 0)) 0 1 (cl v3 (IntKind.wrap .i64 ((len v3:Int) - 1)) 1)):Int) < (IntKind.wrap .i64 ((len v3:Int) - 1))) (
 .row []) (
 Ur (.int (IntKind.wrap .i64 ((len v3:Int) - 1))) (.int 0) (.int v0) v2 (sb (upd (upd v3 0 0 (cl v3 (IntKind.wrap .i64 ((len v3:Int) - 1)) 0)) 0 1 (cl v3 (IntKind.wrap .i64 ((len v3:Int) - 1)) 1)) 0 (IntKind.wrap .i64 ((len v3:Int) - 1))) (.bool v4) v1)) (
 .row [])) (
 .row [])):=gw rfl rfl rfl
theorem bM (v0 v1 v2:Int) (v3 v4:D) (v5:Bool) (v6:D):Ur (.int v0) (.int v1) (.int v2) v3 v4 (.bool v5) v6 =
 BL (.int v0) (.int v1) (.int v1) (.int 0) (.int v2) v3 v4 (.bool v5) v6 (.int (IntKind.wrap .i64 ((IntKind.wrap .i64 (2 * v1)) + 1))) (.int (IntKind.wrap .i64 ((IntKind.wrap .i64 (2 * v1)) + 2))):=gw rfl rfl rfl
theorem Te (v0 v1 v2 v3 v4:Int) (v5 v6:D) (v7:Bool) (v8:D) (v9 v10:Int):BL (.int v0) (.int v1) (.int v2) (.int v3) (.int v4) v5 v6 (.bool v7) v8 (.int v9) (.int v10) =
  cond (v3 < 2) (
 cond (v3=0) (
 cond (v9 < v0) (
 cond (v9 < 0) (
 .row []) (
 cond (v9 < len v6) (
 cond (v2 < 0) (
 .row []) (
 cond (v2 < len v6) (
 cond ((cl v6 v9 0).toInt < (cl v6 v2 0).toInt) (
 cond ((cl v6 v9 1).toInt < (cl v6 v2 1).toInt) (
 BL (.int v0) (.int v1) (.int v9) (.int (IntKind.wrap .i64 (v3 + 1))) (.int v4) v5 v6 (.bool v7) v8 (.int v9) (.int v10)) (
 cond ((cl v6 v2 1).toInt < (cl v6 v9 1).toInt) (
 BL (.int v0) (.int v1) (.int v9) (.int (IntKind.wrap .i64 (v3 + 1))) (.int v4) v5 v6 (.bool v7) v8 (.int v9) (.int v10)) (
 BL (.int v0) (.int v1) (.int v9) (.int (IntKind.wrap .i64 (v3 + 1))) (.int v4) v5 v6 (.bool v7) v8 (.int v9) (.int v10)))) (
 cond ((cl v6 v2 0).toInt < (cl v6 v9 0).toInt) (
 cond ((cl v6 v9 1).toInt < (cl v6 v2 1).toInt) (
 BL (.int v0) (.int v1) (.int v2) (.int (IntKind.wrap .i64 (v3 + 1))) (.int v4) v5 v6 (.bool v7) v8 (.int v9) (.int v10)) (
 cond ((cl v6 v2 1).toInt < (cl v6 v9 1).toInt) (
 BL (.int v0) (.int v1) (.int v2) (.int (IntKind.wrap .i64 (v3 + 1))) (.int v4) v5 v6 (.bool v7) v8 (.int v9) (.int v10)) (
 BL (.int v0) (.int v1) (.int v2) (.int (IntKind.wrap .i64 (v3 + 1))) (.int v4) v5 v6 (.bool v7) v8 (.int v9) (.int v10)))) (
 cond ((cl v6 v9 1).toInt < (cl v6 v2 1).toInt) (
 BL (.int v0) (.int v1) (.int v9) (.int (IntKind.wrap .i64 (v3 + 1))) (.int v4) v5 v6 (.bool v7) v8 (.int v9) (.int v10)) (
 cond ((cl v6 v2 1).toInt < (cl v6 v9 1).toInt) (
 BL (.int v0) (.int v1) (.int v2) (.int (IntKind.wrap .i64 (v3 + 1))) (.int v4) v5 v6 (.bool v7) v8 (.int v9) (.int v10)) (
 BL (.int v0) (.int v1) (.int v2) (.int (IntKind.wrap .i64 (v3 + 1))) (.int v4) v5 v6 (.bool v7) v8 (.int v9) (.int v10)))))) (
 .row []))) (
 .row []))) (
 BL (.int v0) (.int v1) (.int v2) (.int (IntKind.wrap .i64 (v3 + 1))) (.int v4) v5 v6 (.bool v7) v8 (.int v9) (.int v10))) (
 cond (v3=1) (
 cond (v10 < v0) (
 cond (v10 < 0) (
 .row []) (
 cond (v10 < len v6) (
 cond (v2 < 0) (
 .row []) (
 cond (v2 < len v6) (
 cond ((cl v6 v10 0).toInt < (cl v6 v2 0).toInt) (
 cond ((cl v6 v10 1).toInt < (cl v6 v2 1).toInt) (
 BL (.int v0) (.int v1) (.int v10) (.int (IntKind.wrap .i64 (v3 + 1))) (.int v4) v5 v6 (.bool v7) v8 (.int v9) (.int v10)) (
 cond ((cl v6 v2 1).toInt < (cl v6 v10 1).toInt) (
 BL (.int v0) (.int v1) (.int v10) (.int (IntKind.wrap .i64 (v3 + 1))) (.int v4) v5 v6 (.bool v7) v8 (.int v9) (.int v10)) (
 BL (.int v0) (.int v1) (.int v10) (.int (IntKind.wrap .i64 (v3 + 1))) (.int v4) v5 v6 (.bool v7) v8 (.int v9) (.int v10)))) (
 cond ((cl v6 v2 0).toInt < (cl v6 v10 0).toInt) (
 cond ((cl v6 v10 1).toInt < (cl v6 v2 1).toInt) (
 BL (.int v0) (.int v1) (.int v2) (.int (IntKind.wrap .i64 (v3 + 1))) (.int v4) v5 v6 (.bool v7) v8 (.int v9) (.int v10)) (
 cond ((cl v6 v2 1).toInt < (cl v6 v10 1).toInt) (
 BL (.int v0) (.int v1) (.int v2) (.int (IntKind.wrap .i64 (v3 + 1))) (.int v4) v5 v6 (.bool v7) v8 (.int v9) (.int v10)) (
 BL (.int v0) (.int v1) (.int v2) (.int (IntKind.wrap .i64 (v3 + 1))) (.int v4) v5 v6 (.bool v7) v8 (.int v9) (.int v10)))) (
 cond ((cl v6 v10 1).toInt < (cl v6 v2 1).toInt) (
 BL (.int v0) (.int v1) (.int v10) (.int (IntKind.wrap .i64 (v3 + 1))) (.int v4) v5 v6 (.bool v7) v8 (.int v9) (.int v10)) (
 cond ((cl v6 v2 1).toInt < (cl v6 v10 1).toInt) (
 BL (.int v0) (.int v1) (.int v2) (.int (IntKind.wrap .i64 (v3 + 1))) (.int v4) v5 v6 (.bool v7) v8 (.int v9) (.int v10)) (
 BL (.int v0) (.int v1) (.int v2) (.int (IntKind.wrap .i64 (v3 + 1))) (.int v4) v5 v6 (.bool v7) v8 (.int v9) (.int v10)))))) (
 .row []))) (
 .row []))) (
 BL (.int v0) (.int v1) (.int v2) (.int (IntKind.wrap .i64 (v3 + 1))) (.int v4) v5 v6 (.bool v7) v8 (.int v9) (.int v10))) (
 .row []))) (
 cond (v2=v1) (
 .row [.int 1,v6,(.bool v7)]) (
 cond (v2 < 0) (
 .row []) (
 cond (v2 < len v6) (
 cond (v1 < 0) (
 .row []) (
 cond (v1 < len v6) (
 Ur (.int v0) (.int v2) (.int v4) v5 (upd (upd (upd (upd v6 v1 0 (cl v6 v2 0)) v1 1 (cl v6 v2 1)) v2 0 (cl v6 v1 0)) v2 1 (cl v6 v1 1)) (.bool v7) v8) (
 .row []))) (
 .row [])))):=gw rfl rfl (cL (cQ rfl (cQ rfl rfl)) (cQ rfl rfl))
theorem S9 (v0:Int) (v1 v2 v3:D) (v4:Bool):BD (.int v0) v1 v2 v3 (.bool v4) =
 Ky (.int v0) v2 v3 (.bool v4) v1:=gw rfl rfl rfl
theorem Wh (v0:Int) (v1 v2:D) (v3:Bool) (v4:D):Ky (.int v0) v1 v2 (.bool v3) v4 =
  cond (0 < (len v2:Int)) (
 cond (v1.toBool) (
 cond ((sl (G5 (.int v0) v4 v1 v2 (.bool v3)) 0).toInt=1) (
 Ky (.int v0) v1 (sl (G5 (.int v0) v4 v1 v2 (.bool v3)) 1) (sl (G5 (.int v0) v4 v1 v2 (.bool v3)) 2) v4) (
 .row [])) (
 cond ((mIx [.int .i64] v4 (.row [(cl v2 0 1)])) < 0) (
 cond ((sl (G5 (.int v0) v4 v1 v2 (.bool v3)) 0).toInt=1) (
 Ky (.int v0) v1 (sl (G5 (.int v0) v4 v1 v2 (.bool v3)) 1) (sl (G5 (.int v0) v4 v1 v2 (.bool v3)) 2) v4) (
 .row [])) (
 cond ((cl v4 (mIx [.int .i64] v4 (.row [(cl v2 0 1)])) 1).toInt=(cl v2 0 0).toInt) (
 .row [.int 1,(cl v2 0 0),(cl v2 0 1),(.bool true),v2,(.bool v3)]) (
 cond ((sl (G5 (.int v0) v4 v1 v2 (.bool v3)) 0).toInt=1) (
 Ky (.int v0) v1 (sl (G5 (.int v0) v4 v1 v2 (.bool v3)) 1) (sl (G5 (.int v0) v4 v1 v2 (.bool v3)) 2) v4) (
 .row []))))) (
 .row [.int 1,(.int 0),(.int 0),(.bool false),v2,(.bool v3)]):=gw rfl rfl (cL (cg rfl (cQ rfl rfl) (cL (cQ rfl rfl) (cQ rfl (cQ rfl rfl)))) rfl)
theorem iw (v0:Int) (v1 v2 v3:D) (v4:Bool) (v5:Int):QL (.int v0) v1 v2 v3 (.bool v4) (.int v5) =
  cond (1099511627776 < v5) (
 .row [.int 1,Aw,(.bool true),(.int 3),(.int v0),v3,(.bool v4),v1]) (
 cond (v0 < v5) (
 cond ((sl (BD (.int v5) v1 v2 v3 (.bool v4)) 0).toInt=1) (
 LQ Aw (.bool true) (sl (BD (.int v5) v1 v2 v3 (.bool v4)) 3) (.int v5) v2 (sl (BD (.int v5) v1 v2 v3 (.bool v4)) 4) (sl (BD (.int v5) v1 v2 v3 (.bool v4)) 5) v1 (sl (BD (.int v5) v1 v2 v3 (.bool v4)) 1) (sl (BD (.int v5) v1 v2 v3 (.bool v4)) 2)) (
 .row [])) (
 cond ((sl (BD (.int v0) v1 v2 v3 (.bool v4)) 0).toInt=1) (
 LQ Aw (.bool true) (sl (BD (.int v0) v1 v2 v3 (.bool v4)) 3) (.int v0) v2 (sl (BD (.int v0) v1 v2 v3 (.bool v4)) 4) (sl (BD (.int v0) v1 v2 v3 (.bool v4)) 5) v1 (sl (BD (.int v0) v1 v2 v3 (.bool v4)) 1) (sl (BD (.int v0) v1 v2 v3 (.bool v4)) 2)) (
 .row []))):=gw rfl rfl (cL rfl (cL (cQ rfl rfl) (cQ rfl rfl)))
theorem TM (v0:D) (v1 v2:Bool) (v3:Int) (v4 v5:D) (v6:Bool) (v7:D) (v8 v9:Int):LQ v0 (.bool v1) (.bool v2) (.int v3) v4 v5 (.bool v6) v7 (.int v8) (.int v9) =
  cond (v2) (
 cond (v3 < v8) (
 .row [.int 1,v0,(.bool v1),(.int 0),(.int v3),v5,(.bool v6),v7]) (
 cond ((len v0:Int) < 1073741824) (
 cond (v4.toBool) (
 cond ((sl (BD (.int v3) v7 v4 v5 (.bool v6)) 0).toInt=1) (
 LQ (ad v0 (.row [(.int v9)])) (.bool false) (sl (BD (.int v3) v7 v4 v5 (.bool v6)) 3) (.int v3) v4 (sl (BD (.int v3) v7 v4 v5 (.bool v6)) 4) (sl (BD (.int v3) v7 v4 v5 (.bool v6)) 5) v7 (sl (BD (.int v3) v7 v4 v5 (.bool v6)) 1) (sl (BD (.int v3) v7 v4 v5 (.bool v6)) 2)) (
 .row [])) (
 cond ((mIx [.int .i64] v7 (.row [(.int v9)])) < 0) (
 cond ((sl (BD (.int v3) v7 v4 v5 (.bool v6)) 0).toInt=1) (
 LQ (ad v0 (.row [(.int v9)])) (.bool false) (sl (BD (.int v3) v7 v4 v5 (.bool v6)) 3) (.int v3) v4 (sl (BD (.int v3) v7 v4 v5 (.bool v6)) 4) (sl (BD (.int v3) v7 v4 v5 (.bool v6)) 5) v7 (sl (BD (.int v3) v7 v4 v5 (.bool v6)) 1) (sl (BD (.int v3) v7 v4 v5 (.bool v6)) 2)) (
 .row [])) (
 cond ((sl (BD (.int v3) (KM v7 (mIx [.int .i64] v7 (.row [(.int v9)]))) v4 v5 (.bool v6)) 0).toInt=1) (
 LQ (ad v0 (.row [(.int v9)])) (.bool false) (sl (BD (.int v3) (KM v7 (mIx [.int .i64] v7 (.row [(.int v9)]))) v4 v5 (.bool v6)) 3) (.int v3) v4 (sl (BD (.int v3) (KM v7 (mIx [.int .i64] v7 (.row [(.int v9)]))) v4 v5 (.bool v6)) 4) (sl (BD (.int v3) (KM v7 (mIx [.int .i64] v7 (.row [(.int v9)]))) v4 v5 (.bool v6)) 5) (KM v7 (mIx [.int .i64] v7 (.row [(.int v9)]))) (sl (BD (.int v3) (KM v7 (mIx [.int .i64] v7 (.row [(.int v9)]))) v4 v5 (.bool v6)) 1) (sl (BD (.int v3) (KM v7 (mIx [.int .i64] v7 (.row [(.int v9)]))) v4 v5 (.bool v6)) 2)) (
 .row [])))) (
 .row []))) (
 .row [.int 1,v0,(.bool v1),(.int 0),(.int v3),v5,(.bool v6),v7]):=gw rfl rfl (cg rfl (cL rfl (cL (cg rfl (cQ rfl rfl) (cL (cQ rfl rfl) (cQ rfl rfl))) rfl)) rfl)
theorem oz (v0:D) (v1:Bool) (v2:D):IH v0 (.bool v1) v2 =
  cond ((sl (D3 v0 (.bool v1) v2) 0).toInt=1) (
 cond ((sl (D3 v0 (.bool v1) v2) 1).toInt < 0) (
 .row [.int 1,(.int 0),(.int 9)]) (
 cond ((sl (D3 v0 (.bool v1) v2) 1).toInt < len v0) (
 .row [.int 1,(cl v0 (sl (D3 v0 (.bool v1) v2) 1).toInt 2),(.int 0)]) (
 .row []))) (
 .row []):=gw rfl rfl (cQ rfl rfl)
theorem mD (v0:D) (v1:Bool) (v2 v3:D) (v4:Int) (v5 v6 v7:D) (v8 v9 v10:Int):HP v0 (.bool v1) v2 v3 (.int v4) v5 v6 v7 (.int v8) (.int v9) (.int v10) =
  cond (eqC v7 0 0) (
 .row [.int 1,(.bool true),(.int 0)]) (
 cond ((sl (IH v0 (.bool v1) v7) 0).toInt=1) (
 cond ((sl (IH v0 (.bool v1) v7) 2).toInt=0) (
 cond ((sl (D3 v0 (.bool v1) v7) 0).toInt=1) (
 cond ((sl (D3 v0 (.bool v1) v7) 1).toInt < 0) (
 .row []) (
 cond ((sl (D3 v0 (.bool v1) v7) 1).toInt < len v0) (
 cond ((sl (IH v0 (.bool v1) v7) 1).toInt < v8) (
 .row [.int 1,(.bool false),(.int 0)]) (
 cond (v9 < (sl (IH v0 (.bool v1) v7) 1).toInt) (
 .row [.int 1,(.bool false),(.int 0)]) (
 cond (v10 < (IntKind.wrap .i64 (0 - (sl (IH v0 (.bool v1) v7) 1).toInt))) (
 .row [.int 1,(.bool false),(.int 0)]) (
 .row [.int 1,(.bool (!decide ((IntKind.wrap .i64 ((cl v0 (sl (D3 v0 (.bool v1) v7) 1).toInt 1).toInt - (sl (IH v0 (.bool v1) v7) 1).toInt)) < v10))),(.int 0)])))) (
 .row []))) (
 .row [])) (
 .row [.int 1,(.bool false),(sl (IH v0 (.bool v1) v7) 2)])) (
 .row [])):=gw rfl rfl (cg rfl rfl (cQ (cQ (cQ rfl rfl) rfl) rfl))
theorem gQ (v0:D) (v1:Bool) (v2 v3:D) (v4:Bool) (v5:D) (v6:Bool) (v7:D) (v8:Bool) (v9:D) (v10:Bool) (v11 v12:Int) (v13 v14 v15:D) (v16 v17:Bool) (v18:D) (v19:Bool) (v20:Int) (v21 v22 v23:D) (v24 v25:Bool) (v26 v27:D) (v28:Int) (v29 v30 v31:D) (v32 v33 v34:Int):Qn v0 (.bool v1) v2 v3 (.bool v4) v5 (.bool v6) v7 (.bool v8) v9 (.bool v10) (.int v11) (.int v12) v13 v14 v15 (.bool v16) (.bool v17) v18 (.bool v19) (.int v20) v21 v22 v23 (.bool v24) (.bool v25) v26 v27 (.int v28) v29 v30 v31 (.int v32) (.int v33) (.int v34) =
 Lo (.int 0) v2 v3 (.bool v4) v5 (.bool v6) v7 (.bool v8) v9 (.bool v10) (.int v11) (.bool v17) v18 (.bool v19) v0 (.bool v1) (.int v12) v14 v15 (.bool v16) v13 (.int v20) v22 v23 (.bool v24) v21 v26 v27 (.int v28) v29 v30 v31 (.int v32) (.int v33) (.int v34) (.bool v25):=gw rfl rfl rfl
theorem SY (v0:Int) (v1 v2:D) (v3:Bool) (v4:D) (v5:Bool) (v6:D) (v7:Bool) (v8:D) (v9:Bool) (v10:Int) (v11:Bool) (v12:D) (v13:Bool) (v14:D) (v15:Bool) (v16:Int) (v17 v18:D) (v19:Bool) (v20:D) (v21:Int) (v22 v23:D) (v24:Bool) (v25 v26 v27:D) (v28:Int) (v29 v30 v31:D) (v32 v33 v34:Int) (v35:Bool):Lo (.int v0) v1 v2 (.bool v3) v4 (.bool v5) v6 (.bool v7) v8 (.bool v9) (.int v10) (.bool v11) v12 (.bool v13) v14 (.bool v15) (.int v16) v17 v18 (.bool v19) v20 (.int v21) v22 v23 (.bool v24) v25 v26 v27 (.int v28) v29 v30 v31 (.int v32) (.int v33) (.int v34) (.bool v35) =
  cond (v0 < 3) (
 cond (v0=0) (
 cond (D.strEq v26 v8) (
 Lo (.int (IntKind.wrap .i64 (v0 + 1))) v1 v2 (.bool v3) v4 (.bool v5) v6 (.bool v7) v8 (.bool v9) (.int v10) (.bool v11) v12 (.bool v13) v14 (.bool v15) (.int v16) v17 v18 (.bool v19) v20 (.int v21) v22 v23 (.bool v24) v25 v26 v27 (.int v28) v29 v30 v31 (.int v32) (.int v33) (.int v34) (.bool v35)) (
 .row [.int 1,(.bool false)])) (
 cond (v0=1) (
 cond ((sl (HP v14 (.bool v15) v26 v27 (.int v28) v29 v30 v31 (.int v32) (.int v33) (.int v34)) 0).toInt=1) (
 cond ((sl (HP v14 (.bool v15) v26 v27 (.int v28) v29 v30 v31 (.int v32) (.int v33) (.int v34)) 1).toBool) (
 Lo (.int (IntKind.wrap .i64 (v0 + 1))) v1 v2 (.bool v3) v4 (.bool v5) v6 (.bool v7) v8 (.bool v9) (.int v10) (.bool v11) v12 (.bool v13) v14 (.bool v15) (.int v16) v17 v18 (.bool v19) v20 (.int v21) v22 v23 (.bool v24) v25 v26 v27 (.int v28) v29 v30 v31 (.int v32) (.int v33) (.int v34) (.bool v35)) (
 .row [.int 1,(.bool false)])) (
 .row [])) (
 cond (v0=2) (
 cond (v28=3) (
 cond (v35) (
 Lo (.int (IntKind.wrap .i64 (v0 + 1))) v1 v2 (.bool v3) v4 (.bool v5) v6 (.bool v7) v8 (.bool v9) (.int v10) (.bool v11) v12 (.bool v13) v14 (.bool v15) (.int v16) v17 v18 (.bool v19) v20 (.int v21) v22 v23 (.bool v24) v25 v26 v27 (.int v28) v29 v30 v31 (.int v32) (.int v33) (.int v34) (.bool v35)) (
 .row [.int 1,(.bool false)])) (
 Lo (.int (IntKind.wrap .i64 (v0 + 1))) v1 v2 (.bool v3) v4 (.bool v5) v6 (.bool v7) v8 (.bool v9) (.int v10) (.bool v11) v12 (.bool v13) v14 (.bool v15) (.int v16) v17 v18 (.bool v19) v20 (.int v21) v22 v23 (.bool v24) v25 v26 v27 (.int v28) v29 v30 v31 (.int v32) (.int v33) (.int v34) (.bool v35))) (
 .row [])))) (
 .row [.int 1,(.bool true)]):=gw rfl rfl (cL (cQ rfl (cQ (cQ rfl rfl) (cQ (cQ rfl rfl) rfl))) rfl)
theorem UB (v0:D) (v1:Bool) (v2 v3:D) (v4:Int) (v5 v6 v7:D) (v8 v9 v10:Int):BB v0 (.bool v1) v2 v3 (.int v4) v5 v6 v7 (.int v8) (.int v9) (.int v10) =
  cond ((sl (HP v0 (.bool v1) v2 v3 (.int v4) v5 v6 v7 (.int v8) (.int v9) (.int v10)) 0).toInt=1) (
 cond ((sl (HP v0 (.bool v1) v2 v3 (.int v4) v5 v6 v7 (.int v8) (.int v9) (.int v10)) 2).toInt=0) (
 cond ((sl (HP v0 (.bool v1) v2 v3 (.int v4) v5 v6 v7 (.int v8) (.int v9) (.int v10)) 1).toBool) (
 cond (eqC v7 0 0) (
 .row [.int 1,(.int 0),v0]) (
 cond ((sl (D3 v0 (.bool v1) v7) 0).toInt=1) (
 cond ((sl (D3 v0 (.bool v1) v7) 1).toInt < 0) (
 .row []) (
 cond ((sl (D3 v0 (.bool v1) v7) 1).toInt < len v0) (
 .row [.int 1,(.int 0),(upd v0 (sl (D3 v0 (.bool v1) v7) 1).toInt 2 (.int (IntKind.wrap .i64 ((cl v0 (sl (D3 v0 (.bool v1) v7) 1).toInt 2).toInt + v10))))]) (
 .row []))) (
 .row []))) (
 .row [.int 1,(.int 8),v0])) (
 .row [.int 1,(sl (HP v0 (.bool v1) v2 v3 (.int v4) v5 v6 v7 (.int v8) (.int v9) (.int v10)) 2),v0])) (
 .row []):=gw rfl rfl (cQ (cQ (cg rfl (cg rfl rfl (cQ rfl rfl)) rfl) rfl) rfl)
theorem lI (v0:D) (v1:Bool) (v2 v3:D) (v4:Bool) (v5:D) (v6:Bool) (v7:D) (v8:Bool) (v9:D) (v10:Bool) (v11 v12:Int) (v13 v14 v15:D) (v16 v17:Bool) (v18:D) (v19:Bool) (v20:Int) (v21 v22 v23:D) (v24 v25:Bool) (v26 v27:Int):Tv v0 (.bool v1) v2 v3 (.bool v4) v5 (.bool v6) v7 (.bool v8) v9 (.bool v10) (.int v11) (.int v12) v13 v14 v15 (.bool v16) (.bool v17) v18 (.bool v19) (.int v20) v21 v22 v23 (.bool v24) (.bool v25) (.int v26) (.int v27) =
  cond ((len v18:Int) < 100000) (
 cond (v27 < 0) (
 .row []) (
 cond (v27 < len v7) (
 cond ((sl (BB v0 (.bool v1) (cl v7 v27 0) (cl v7 v27 1) (cl v7 v27 2) (cl v7 v27 3) (cl v7 v27 4) (cl v7 v27 5) (cl v7 v27 6) (cl v7 v27 7) (cl v7 v27 8)) 0).toInt=1) (
 cond ((len (sl (BB v0 (.bool v1) (cl v7 v27 0) (cl v7 v27 1) (cl v7 v27 2) (cl v7 v27 3) (cl v7 v27 4) (cl v7 v27 5) (cl v7 v27 6) (cl v7 v27 7) (cl v7 v27 8)) 2):Int)=(len v0:Int)) (
 cond ((sl (DB (sl (BB v0 (.bool v1) (cl v7 v27 0) (cl v7 v27 1) (cl v7 v27 2) (cl v7 v27 3) (cl v7 v27 4) (cl v7 v27 5) (cl v7 v27 6) (cl v7 v27 7) (cl v7 v27 8)) 2) (.bool v1) v2 v3 (.bool v4) v5 (.bool v6) v7 (.bool v8) v9 (.bool v10) (.int v11) (.int v20) v21 v22 v23 (.bool v24) (.bool v25) v18 (.bool v19) (cl v7 v27 1)) 0).toInt=1) (
 .row [.int 1,(sl (DB (sl (BB v0 (.bool v1) (cl v7 v27 0) (cl v7 v27 1) (cl v7 v27 2) (cl v7 v27 3) (cl v7 v27 4) (cl v7 v27 5) (cl v7 v27 6) (cl v7 v27 7) (cl v7 v27 8)) 2) (.bool v1) v2 v3 (.bool v4) v5 (.bool v6) v7 (.bool v8) v9 (.bool v10) (.int v11) (.int v20) v21 v22 v23 (.bool v24) (.bool v25) v18 (.bool v19) (cl v7 v27 1)) 1),(sl (DB (sl (BB v0 (.bool v1) (cl v7 v27 0) (cl v7 v27 1) (cl v7 v27 2) (cl v7 v27 3) (cl v7 v27 4) (cl v7 v27 5) (cl v7 v27 6) (cl v7 v27 7) (cl v7 v27 8)) 2) (.bool v1) v2 v3 (.bool v4) v5 (.bool v6) v7 (.bool v8) v9 (.bool v10) (.int v11) (.int v20) v21 v22 v23 (.bool v24) (.bool v25) v18 (.bool v19) (cl v7 v27 1)) 2),(sl (DB (sl (BB v0 (.bool v1) (cl v7 v27 0) (cl v7 v27 1) (cl v7 v27 2) (cl v7 v27 3) (cl v7 v27 4) (cl v7 v27 5) (cl v7 v27 6) (cl v7 v27 7) (cl v7 v27 8)) 2) (.bool v1) v2 v3 (.bool v4) v5 (.bool v6) v7 (.bool v8) v9 (.bool v10) (.int v11) (.int v20) v21 v22 v23 (.bool v24) (.bool v25) v18 (.bool v19) (cl v7 v27 1)) 3),(ad v18 (.row [(.int v27),(.int v26)])),(.bool false),(sl (BB v0 (.bool v1) (cl v7 v27 0) (cl v7 v27 1) (cl v7 v27 2) (cl v7 v27 3) (cl v7 v27 4) (cl v7 v27 5) (cl v7 v27 6) (cl v7 v27 7) (cl v7 v27 8)) 2),(.bool v1),(.int v12),v14,v15,(.bool v16),v13,(.int v20),(sl (DB (sl (BB v0 (.bool v1) (cl v7 v27 0) (cl v7 v27 1) (cl v7 v27 2) (cl v7 v27 3) (cl v7 v27 4) (cl v7 v27 5) (cl v7 v27 6) (cl v7 v27 7) (cl v7 v27 8)) 2) (.bool v1) v2 v3 (.bool v4) v5 (.bool v6) v7 (.bool v8) v9 (.bool v10) (.int v11) (.int v20) v21 v22 v23 (.bool v24) (.bool v25) v18 (.bool v19) (cl v7 v27 1)) 4),(sl (DB (sl (BB v0 (.bool v1) (cl v7 v27 0) (cl v7 v27 1) (cl v7 v27 2) (cl v7 v27 3) (cl v7 v27 4) (cl v7 v27 5) (cl v7 v27 6) (cl v7 v27 7) (cl v7 v27 8)) 2) (.bool v1) v2 v3 (.bool v4) v5 (.bool v6) v7 (.bool v8) v9 (.bool v10) (.int v11) (.int v20) v21 v22 v23 (.bool v24) (.bool v25) v18 (.bool v19) (cl v7 v27 1)) 5),(sl (DB (sl (BB v0 (.bool v1) (cl v7 v27 0) (cl v7 v27 1) (cl v7 v27 2) (cl v7 v27 3) (cl v7 v27 4) (cl v7 v27 5) (cl v7 v27 6) (cl v7 v27 7) (cl v7 v27 8)) 2) (.bool v1) v2 v3 (.bool v4) v5 (.bool v6) v7 (.bool v8) v9 (.bool v10) (.int v11) (.int v20) v21 v22 v23 (.bool v24) (.bool v25) v18 (.bool v19) (cl v7 v27 1)) 6),(sl (DB (sl (BB v0 (.bool v1) (cl v7 v27 0) (cl v7 v27 1) (cl v7 v27 2) (cl v7 v27 3) (cl v7 v27 4) (cl v7 v27 5) (cl v7 v27 6) (cl v7 v27 7) (cl v7 v27 8)) 2) (.bool v1) v2 v3 (.bool v4) v5 (.bool v6) v7 (.bool v8) v9 (.bool v10) (.int v11) (.int v20) v21 v22 v23 (.bool v24) (.bool v25) v18 (.bool v19) (cl v7 v27 1)) 7)]) (
 .row [])) (
 .row [])) (
 .row [])) (
 .row []))) (
 .row []):=gw rfl rfl (cL (cL rfl (cL (cQ (cQ (cQ rfl rfl) rfl) rfl) rfl)) rfl)
theorem Ks (v0:D) (v1:Bool) (v2 v3:D) (v4:Bool) (v5:D) (v6:Bool) (v7:D) (v8:Bool) (v9:D) (v10:Bool) (v11 v12:Int) (v13 v14 v15:D) (v16 v17:Bool) (v18:D) (v19:Bool) (v20 v21:Int) {F0 F1 F2 F3 F4 F5:D} (h0:GN (.int v12) v13 v14 v15 (.bool v16)=F0) (h1:QL (sl F0 1) (sl F0 5) (sl F0 2) (sl F0 3) (sl F0 4) (.int v20)=F1) (h2:Tv v0 (.bool v1) v2 v3 (.bool v4) v5 (.bool v6) v7 (.bool v8) v9 (.bool v10) (.int v11) (.int v12) v13 v14 v15 (.bool v16) (.bool false) v18 (.bool v19) (sl F1 4) (sl F1 7) (sl F0 2) (sl F1 5) (sl F1 6) (.bool (decide (0 < (len (sl F1 1):Int)))) (.int v20) (.int v21)=F2) (h3:Tv v0 (.bool v1) v2 v3 (.bool v4) v5 (.bool v6) v7 (.bool v8) v9 (.bool v10) (.int v11) (.int v12) v13 v14 v15 (.bool v16) (.bool true) v18 (.bool v19) (sl F1 4) (sl F1 7) (sl F0 2) (sl F1 5) (sl F1 6) (.bool true) (.int v20) (.int v21)=F3) (h4:Qn v0 (.bool v1) v2 v3 (.bool v4) v5 (.bool v6) v7 (.bool v8) v9 (.bool v10) (.int v11) (.int v12) v13 v14 v15 (.bool v16) (.bool v17) v18 (.bool v19) (sl F1 4) (sl F1 7) (sl F0 2) (sl F1 5) (sl F1 6) (.bool (decide (0 < (len (sl F1 1):Int)))) (cl v7 v21 0) (cl v7 v21 1) (cl v7 v21 2) (cl v7 v21 3) (cl v7 v21 4) (cl v7 v21 5) (cl v7 v21 6) (cl v7 v21 7) (cl v7 v21 8)=F4) (h5:Qn v0 (.bool v1) v2 v3 (.bool v4) v5 (.bool v6) v7 (.bool v8) v9 (.bool v10) (.int v11) (.int v12) v13 v14 v15 (.bool v16) (.bool v17) v18 (.bool v19) (sl F1 4) (sl F1 7) (sl F0 2) (sl F1 5) (sl F1 6) (.bool true) (cl v7 v21 0) (cl v7 v21 1) (cl v7 v21 2) (cl v7 v21 3) (cl v7 v21 4) (cl v7 v21 5) (cl v7 v21 6) (cl v7 v21 7) (cl v7 v21 8)=F5):PC v0 (.bool v1) v2 v3 (.bool v4) v5 (.bool v6) v7 (.bool v8) v9 (.bool v10) (.int v11) (.int v12) v13 v14 v15 (.bool v16) (.bool v17) v18 (.bool v19) (.int v20) (.int v21) =
  cond (v21 < 0) (
 .row [.int 1,(.int 2),v9,(.bool v10),(.int v11),(.bool v17),v18,(.bool v19),v0,(.bool v1),v13,v15,(.int v12),v14,(.bool v16)]) (
 cond (v21 < len v7) (
 cond (v20 < v12) (
 .row [.int 1,(.int 3),v9,(.bool v10),(.int v11),(.bool v17),v18,(.bool v19),v0,(.bool v1),v13,v15,(.int v12),v14,(.bool v16)]) (
 cond (1099511627776 < v20) (
 .row [.int 1,(.int 3),v9,(.bool v10),(.int v11),(.bool v17),v18,(.bool v19),v0,(.bool v1),v13,v15,(.int v12),v14,(.bool v16)]) (
 cond ((sl F0 0).toInt=1) (
 cond ((sl F1 0).toInt=1) (
 cond (v17) (
 cond ((sl F5 0).toInt=1) (
 cond ((sl F5 1).toBool) (
 cond ((sl F3 0).toInt=1) (
 .row [.int 1,(.int 0),(sl F3 1),(sl F3 2),(sl F3 3),(.bool false),(sl F3 4),(sl F3 5),(sl F3 6),(sl F3 7),(sl F3 17),(sl F3 15),(sl F3 13),(sl F3 14),(sl F3 16)]) (
 .row [])) (
 .row [.int 1,(.int 8),v9,(.bool v10),(.int v11),(.bool true),v18,(.bool v19),v0,(.bool v1),v13,v15,(.int v12),v14,(.bool v16)])) (
 .row [])) (
 cond ((sl F4 0).toInt=1) (
 cond ((sl F4 1).toBool) (
 cond ((sl F2 0).toInt=1) (
 .row [.int 1,(.int 0),(sl F2 1),(sl F2 2),(sl F2 3),(.bool false),(sl F2 4),(sl F2 5),(sl F2 6),(sl F2 7),(sl F2 17),(sl F2 15),(sl F2 13),(sl F2 14),(sl F2 16)]) (
 .row [])) (
 .row [.int 1,(.int 8),v9,(.bool v10),(.int v11),(.bool false),v18,(.bool v19),v0,(.bool v1),v13,v15,(.int v12),v14,(.bool v16)])) (
 .row []))) (
 .row [])) (
 .row [])))) (
 .row [.int 1,(.int 2),v9,(.bool v10),(.int v11),(.bool v17),v18,(.bool v19),v0,(.bool v1),v13,v15,(.int v12),v14,(.bool v16)])):=by
  subst h0;subst h1;subst h2;subst h3;subst h4;subst h5;exact gw rfl rfl (cL rfl (cL (cL rfl (cL rfl (cQ (cQ (cg rfl (cQ (cg rfl (cQ rfl rfl) rfl) rfl) (cQ (cg rfl (cQ rfl rfl) rfl) rfl)) rfl) rfl))) rfl))
theorem g8 (v0 v1 v2:D):Ej v0 v1 v2 =
 TA v2 (.int 0) v0 v1:=gw rfl rfl rfl
theorem sa (v0:D) (v1:Int) (v2 v3:D):TA v0 (.int v1) v2 v3 =
  cond (v1 < len v2) (
 cond (v1 < 0) (
 .row []) (
 cond (D.strEq (cl v2 v1 0) v0) (
 .row [.int 1,(.int v1)]) (
 TA v0 (.int (IntKind.wrap .i64 (v1 + 1))) v2 v3))) (
 .row [.int 1,(.int (-1))]):=gw rfl rfl rfl
theorem g7 (v0 v1 v2 v3:D) (v4:Int) (v5 v6 v7:D) (v8 v9 v10:Int):KJ v0 v1 v2 v3 (.int v4) v5 v6 v7 (.int v8) (.int v9) (.int v10) =
  cond (eqC v7 0 0) (
 .row [.int 1,(.bool true),(.int 0)]) (
 cond ((sl (Ej v0 v1 v7) 0).toInt=1) (
 cond ((sl (Ej v0 v1 v7) 1).toInt < 0) (
 .row [.int 1,(.bool false),(.int 9)]) (
 cond ((sl (Ej v0 v1 v7) 1).toInt < len v0) (
 cond ((sl (Ej v0 v1 v7) 1).toInt < len v1) (
 cond ((cl v1 (sl (Ej v0 v1 v7) 1).toInt 0).toInt < v8) (
 .row [.int 1,(.bool false),(.int 0)]) (
 cond (v9 < (cl v1 (sl (Ej v0 v1 v7) 1).toInt 0).toInt) (
 .row [.int 1,(.bool false),(.int 0)]) (
 cond (v10 < (-1000)) (
 .row [.int 1,(.bool false),(.int 0)]) (
 cond (1000 < v10) (
 .row [.int 1,(.bool false),(.int 0)]) (
 cond ((IntKind.wrap .i64 ((cl v1 (sl (Ej v0 v1 v7) 1).toInt 0).toInt + v10)) < 0) (
 .row [.int 1,(.bool false),(.int 0)]) (
 cond ((cl v0 (sl (Ej v0 v1 v7) 1).toInt 1).toInt < (IntKind.wrap .i64 ((cl v1 (sl (Ej v0 v1 v7) 1).toInt 0).toInt + v10))) (
 .row [.int 1,(.bool false),(.int 0)]) (
 .row [.int 1,(.bool true),(.int 0)]))))))) (
 .row [])) (
 .row []))) (
 .row [])):=gw rfl rfl (cg rfl rfl (cQ (cL rfl (cL (cL (cL rfl (cL rfl (cL rfl (cL rfl rfl)))) rfl) rfl)) rfl))
theorem qD (v0 v1 v2 v3 v4:D):T7 v0 v1 v2 v3 v4 =
 Nm v4 (.int 0) v0 v1 v2 v3:=gw rfl rfl rfl
theorem jU (v0:D) (v1:Int) (v2 v3 v4 v5:D):Nm v0 (.int v1) v2 v3 v4 v5 =
  cond (v1 < len v3) (
 cond (v1 < 0) (
 .row []) (
 cond (D.strEq (cl v3 v1 0) v0) (
 .row [.int 1,(cl v3 v1 0),(cl v3 v1 1),(cl v3 v1 2)]) (
 Nm v0 (.int (IntKind.wrap .i64 (v1 + 1))) v2 v3 v4 v5))) (
 .row [.int 1,(CN 0 0),(.bool false),(.int 0)]):=gw rfl rfl rfl
theorem jD (v0 v1 v2 v3 v4:D) (v5:Int) (v6 v7:D) (v8:Int) (v9:D) (v10 v11:Int):Ud v0 v1 v2 v3 v4 (.int v5) v6 v7 (.int v8) v9 (.int v10) (.int v11) =
  cond (v11 < 0) (
 .row []) (
 cond (v11 < len v3) (
 cond ((sl (KJ v6 v7 (cl v3 v11 0) (cl v3 v11 1) (cl v3 v11 2) (cl v3 v11 3) (cl v3 v11 4) (cl v3 v11 5) (cl v3 v11 6) (cl v3 v11 7) (cl v3 v11 8)) 0).toInt=1) (
 cond (D.strEq (cl v3 v11 0) v4) (
 cond ((sl (KJ v6 v7 (cl v3 v11 0) (cl v3 v11 1) (cl v3 v11 2) (cl v3 v11 3) (cl v3 v11 4) (cl v3 v11 5) (cl v3 v11 6) (cl v3 v11 7) (cl v3 v11 8)) 1).toBool) (
 cond ((cl v3 v11 2).toInt=3) (
 cond ((sl (T7 v0 v1 v2 v3 v4) 0).toInt=1) (
 .row [.int 1,(.bool (!decide ((IntKind.wrap .i64 (v10 - v5)) < (sl (T7 v0 v1 v2 v3 v4) 3).toInt)))]) (
 .row [])) (
 .row [.int 1,(.bool true)])) (
 .row [.int 1,(.bool false)])) (
 .row [.int 1,(.bool false)])) (
 .row [])) (
 .row [])):=gw rfl rfl (cL rfl (cL (cQ (cg rfl (cg rfl (cQ (cQ rfl rfl) rfl) rfl) rfl) rfl) rfl))
theorem bQ (v0 v1 v2 v3:D) (v4:Int) (v5 v6 v7:D) (v8 v9 v10:Int):PQ v0 v1 v2 v3 (.int v4) v5 v6 v7 (.int v8) (.int v9) (.int v10) =
  cond ((sl (KJ v0 v1 v2 v3 (.int v4) v5 v6 v7 (.int v8) (.int v9) (.int v10)) 0).toInt=1) (
 cond ((sl (KJ v0 v1 v2 v3 (.int v4) v5 v6 v7 (.int v8) (.int v9) (.int v10)) 2).toInt=0) (
 cond ((sl (KJ v0 v1 v2 v3 (.int v4) v5 v6 v7 (.int v8) (.int v9) (.int v10)) 1).toBool) (
 cond (eqC v7 0 0) (
 .row [.int 1,v0,v1,(.int 0)]) (
 cond ((sl (Ej v0 v1 v7) 0).toInt=1) (
 cond ((len v1:Int) < 1048576) (
 cond ((sl (Ej v0 v1 v7) 1).toInt < 0) (
 .row []) (
 cond ((sl (Ej v0 v1 v7) 1).toInt < len (ct Ar v1)) (
 .row [.int 1,v0,(ni (upd (ct Ar v1) (sl (Ej v0 v1 v7) 1).toInt 0 (.int (IntKind.wrap .i64 ((cl (ct Ar v1) (sl (Ej v0 v1 v7) 1).toInt 0).toInt + v10)))) false),(.int 0)]) (
 .row []))) (
 .row [])) (
 .row []))) (
 .row [.int 1,v0,v1,(.int 8)])) (
 .row [.int 1,v0,v1,(sl (KJ v0 v1 v2 v3 (.int v4) v5 v6 v7 (.int v8) (.int v9) (.int v10)) 2)])) (
 .row []):=gw rfl rfl (cQ (cQ (cg rfl (cg rfl rfl (cQ (cL rfl rfl) rfl)) rfl) rfl) rfl)
theorem Nv (v0 v1 v2 v3 v4:D) (v5:Int) (v6 v7:D) (v8:Int) (v9:D) (v10 v11:Int):NO v0 v1 v2 v3 v4 (.int v5) v6 v7 (.int v8) v9 (.int v10) (.int v11) =
  cond (v11 < 0) (
 .row [.int 1,v0,v1,v2,v3,v4,(.int v5),v6,v7,(.int v8),v9,(.int 2)]) (
 cond (v11 < len v3) (
 cond (v10 < v8) (
 .row [.int 1,v0,v1,v2,v3,v4,(.int v5),v6,v7,(.int v8),v9,(.int 3)]) (
 cond (1099511627776 < v10) (
 .row [.int 1,v0,v1,v2,v3,v4,(.int v5),v6,v7,(.int v8),v9,(.int 3)]) (
 cond ((sl (Ud v0 v1 v2 v3 v4 (.int v5) v6 v7 (.int v8) v9 (.int v10) (.int v11)) 0).toInt=1) (
 cond ((sl (Ud v0 v1 v2 v3 v4 (.int v5) v6 v7 (.int v8) v9 (.int v10) (.int v11)) 1).toBool) (
 cond ((sl (PQ v6 v7 (cl v3 v11 0) (cl v3 v11 1) (cl v3 v11 2) (cl v3 v11 3) (cl v3 v11 4) (cl v3 v11 5) (cl v3 v11 6) (cl v3 v11 7) (cl v3 v11 8)) 0).toInt=1) (
 cond ((len v9:Int) < 1048576) (
 cond ((len (ct Ar v9):Int) < 1073741824) (
 .row [.int 1,v0,v1,v2,v3,(cl v3 v11 1),(.int v10),(sl (PQ v6 v7 (cl v3 v11 0) (cl v3 v11 1) (cl v3 v11 2) (cl v3 v11 3) (cl v3 v11 4) (cl v3 v11 5) (cl v3 v11 6) (cl v3 v11 7) (cl v3 v11 8)) 1),(sl (PQ v6 v7 (cl v3 v11 0) (cl v3 v11 1) (cl v3 v11 2) (cl v3 v11 3) (cl v3 v11 4) (cl v3 v11 5) (cl v3 v11 6) (cl v3 v11 7) (cl v3 v11 8)) 2),(.int v10),(ni (ad (ct Ar v9) (.row [(.int v11),(.int v10)])) false),(.int 0)]) (
 .row [])) (
 .row [])) (
 .row [])) (
 .row [.int 1,v0,v1,v2,v3,v4,(.int v5),v6,v7,(.int v8),v9,(.int 8)])) (
 .row [])))) (
 .row [.int 1,v0,v1,v2,v3,v4,(.int v5),v6,v7,(.int v8),v9,(.int 2)])):=gw rfl rfl (cL rfl (cL (cL rfl (cL rfl (cQ (cg rfl (cQ (cL (cL rfl rfl) rfl) rfl) rfl) rfl))) rfl))
theorem ce (v0:D) (v1:Bool):Gs v0 (.bool v1) =
  cond (v1) (
 .row [.int 1,Aw,(.bool true)]) (
 cond ((len v0:Int) < 1048576) (
 .row [.int 1,(ct Ar v0),(.bool false)]) (
 .row [])):=gw rfl rfl (cg rfl rfl (cL rfl rfl))
theorem sA (v0:D) (v1:Bool):PK v0 (.bool v1) =
  cond ((sl (Gs v0 (.bool v1)) 0).toInt=1) (
 .row [.int 1,(sl (Gs v0 (.bool v1)) 1),(sl (Gs v0 (.bool v1)) 2)]) (
 .row []):=gw rfl rfl (cQ rfl rfl)
theorem rO (v0:D) (v1:Bool):Pu v0 (.bool v1) =
  cond (v1) (
 .row [.int 1,Aw,(.bool true)]) (
 cond ((len v0:Int) < 1048576) (
 .row [.int 1,(ct Ar v0),(.bool false)]) (
 .row [])):=gw rfl rfl (cg rfl rfl (cL rfl rfl))
theorem kJ (v0:D) (v1:Bool) (v2 v3:D) (v4:Bool) (v5:D) (v6:Bool) (v7:D) (v8:Bool) (v9:D) (v10:Bool) (v11 v12:Int) (v13 v14 v15:D) (v16 v17:Bool) (v18:D) (v19:Bool):Yf v0 (.bool v1) v2 v3 (.bool v4) v5 (.bool v6) v7 (.bool v8) v9 (.bool v10) (.int v11) (.int v12) v13 v14 v15 (.bool v16) (.bool v17) v18 (.bool v19) =
  cond ((sl (PK v0 (.bool v1)) 0).toInt=1) (
 cond ((sl (GN (.int v12) v13 v14 v15 (.bool v16)) 0).toInt=1) (
 cond ((sl (Pu v18 (.bool v19)) 0).toInt=1) (
 .row [.int 1,v3,v5,v7,v2,(.bool v4),(.bool v6),(.bool v8),v9,(.bool v10),(.int v11),(.bool v17),(sl (Pu v18 (.bool v19)) 1),(sl (Pu v18 (.bool v19)) 2),(sl (PK v0 (.bool v1)) 1),(sl (PK v0 (.bool v1)) 2),(sl (GN (.int v12) v13 v14 v15 (.bool v16)) 1),(sl (GN (.int v12) v13 v14 v15 (.bool v16)) 2),(sl (GN (.int v12) v13 v14 v15 (.bool v16)) 3),(sl (GN (.int v12) v13 v14 v15 (.bool v16)) 4),(sl (GN (.int v12) v13 v14 v15 (.bool v16)) 5)]) (
 .row [])) (
 .row [])) (
 .row []):=gw rfl rfl (cQ (cQ (cQ rfl rfl) rfl) rfl)
theorem mn (v0:D) (v1:Bool) (v2:D):Ps v0 (.bool v1) v2 =
  cond (v1) (
 .row [.int 1,Aw,(.bool true)]) (
 cond (v2.toInt=len v0) (
 cond ((len v0:Int) < 1048576) (
 .row [.int 1,(ct Ar v0),(.bool false)]) (
 .row [])) (
 .row [])):=gw rfl rfl (cg rfl rfl (cQ (cL rfl rfl) rfl))
theorem iD (v0:D) (v1:Bool) (v2:D):Qb v0 (.bool v1) v2 =
  cond (v1) (
 .row [.int 1,Aw,(.bool true)]) (
 cond (v2.toInt=len v0) (
 cond ((len v0:Int) < 1048576) (
 .row [.int 1,(ct Ar v0),(.bool false)]) (
 .row [])) (
 .row [])):=gw rfl rfl (cg rfl rfl (cQ (cL rfl rfl) rfl))
theorem jX (v0:D) (v1:Bool) (v2:D):Q2 v0 (.bool v1) v2 =
  cond (v1) (
 .row [.int 1,Aw,(.bool true)]) (
 cond (v2.toInt=len v0) (
 cond ((len v0:Int) < 1048576) (
 .row [.int 1,(ct Ar v0),(.bool false)]) (
 .row [])) (
 .row [])):=gw rfl rfl (cg rfl rfl (cQ (cL rfl rfl) rfl))
theorem jg (v0:D) (v1:Bool) (v2 v3:D) (v4:Bool) (v5 v6:D) (v7:Bool) (v8 v9:D) (v10:Bool) (v11 v12:D) (v13:Bool) (v14 v15:Int) (v16 v17 v18:D) (v19 v20:Bool) (v21:D) (v22:Bool):Wk v0 (.bool v1) v2 v3 (.bool v4) v5 v6 (.bool v7) v8 v9 (.bool v10) v11 v12 (.bool v13) (.int v14) (.int v15) v16 v17 v18 (.bool v19) (.bool v20) v21 (.bool v22) =
  cond ((sl (Ps v3 (.bool v4) v5) 0).toInt=1) (
 cond ((sl (Qb v6 (.bool v7) v8) 0).toInt=1) (
 cond ((sl (Q2 v9 (.bool v10) v11) 0).toInt=1) (
 .row [.int 1,v2,(ni (sl (Ps v3 (.bool v4) v5) 1) ((sl (Ps v3 (.bool v4) v5) 2).toBool)),(ni (sl (Qb v6 (.bool v7) v8) 1) ((sl (Qb v6 (.bool v7) v8) 2).toBool)),(ni (sl (Q2 v9 (.bool v10) v11) 1) ((sl (Q2 v9 (.bool v10) v11) 2).toBool))]) (
 .row [])) (
 .row [])) (
 .row []):=gw rfl rfl (cQ (cQ (cQ rfl rfl) rfl) rfl)
theorem oH (v0 v1:D):Do v0 v1 =
 S4 v0 (.int 0) v1:=gw rfl rfl rfl
theorem nX (v0:D) (v1:Int) (v2:D):S4 v0 (.int v1) v2 =
  cond (v1 < len v0) (
 cond (v1 < 0) (
 .row []) (
 cond (D.strEq (cl v0 v1 0) v2) (
 .row [.int 1,(.int v1)]) (
 S4 v0 (.int (IntKind.wrap .i64 (v1 + 1))) v2))) (
 .row [.int 1,(.int (-1))]):=gw rfl rfl rfl
theorem pZ (v0 v1:D):FK v0 v1 =
 T5 v0 (.int 0) v1:=gw rfl rfl rfl
theorem jT (v0:D) (v1:Int) (v2:D):T5 v0 (.int v1) v2 =
  cond (v1 < len v0) (
 cond (v1 < 0) (
 .row []) (
 cond (D.strEq (cl v0 v1 0) v2) (
 .row [.int 1,(.int v1)]) (
 T5 v0 (.int (IntKind.wrap .i64 (v1 + 1))) v2))) (
 .row [.int 1,(.int (-1))]):=gw rfl rfl rfl
theorem rT (v0 v1 v2 v3 v4 v5 v6 v7 v8 v9:D):G3 v0 v1 v2 v3 v4 v5 v6 v7 v8 v9 =
  cond ((sl (DZ v0 v1 v2 v3) 0).toInt=1) (
 cond ((sl (DZ v0 v1 v2 v3) 2).toInt=0) (
 cond ((sl (DZ v4 v5 v6 v7) 0).toInt=1) (
 cond ((sl (DZ v4 v5 v6 v7) 2).toInt=0) (
 cond (24 < (len v8:Int)) (
 .row [.int 1,(.int 24),(.int 490)]) (
 GT v0 v1 v2 v3 v4 v5 v6 v7 v8 v9 (.bool (decide ((sl (DZ v0 v1 v2 v3) 2).toInt=0))) (.bool (!decide ((sl (DZ v0 v1 v2 v3) 2).toInt=0))) (.bool (!decide ((sl (DZ v0 v1 v2 v3) 2).toInt=0))) (.bool (decide ((sl (DZ v4 v5 v6 v7) 2).toInt=0))) (.bool (!decide ((sl (DZ v4 v5 v6 v7) 2).toInt=0))) (.bool (!decide ((sl (DZ v4 v5 v6 v7) 2).toInt=0))) (.bool (decide (24 < (len v8:Int)))) (.int 0) Ar)) (
 .row [.int 1,(.int 0),(.int 2)])) (
 .row [])) (
 .row [.int 1,(.int 0),(.int 2)])) (
 .row []):=gw rfl rfl (cQ (cQ (cQ (cQ (cL rfl rfl) rfl) rfl) rfl) rfl)
theorem cz (v0 v1 v2 v3 v4 v5 v6 v7 v8 v9:D) (v10 v11 v12 v13 v14 v15 v16:Bool) (v17:Int) (v18:D):GT v0 v1 v2 v3 v4 v5 v6 v7 v8 v9 (.bool v10) (.bool v11) (.bool v12) (.bool v13) (.bool v14) (.bool v15) (.bool v16) (.int v17) v18 =
  cond (v17 < len v8) (
 cond (v17 < 0) (
 .row []) (
 cond ((sl (Do v1 (cl v8 v17 0)) 0).toInt=1) (
 cond ((sl (Do v1 (cl v8 v17 0)) 1).toInt < 0) (
 .row [.int 1,(.int v17),(.int 490)]) (
 cond ((sl (Do v5 (cl v8 v17 1)) 0).toInt=1) (
 cond ((sl (Do v5 (cl v8 v17 1)) 1).toInt < 0) (
 .row [.int 1,(.int v17),(.int 490)]) (
 cond ((mIx [.str] v18 (.row [(cl v8 v17 0)])) < 0) (
 GT v0 v1 v2 v3 v4 v5 v6 v7 v8 v9 (.bool v10) (.bool v11) (.bool v12) (.bool v13) (.bool v14) (.bool v15) (.bool v16) (.int (IntKind.wrap .i64 (v17 + 1))) (ad v18 (.row [(cl v8 v17 0),(.bool true)]))) (
 cond ((cl v18 (mIx [.str] v18 (.row [(cl v8 v17 0)])) 1).toBool) (
 .row [.int 1,(.int v17),(.int 490)]) (
 GT v0 v1 v2 v3 v4 v5 v6 v7 v8 v9 (.bool v10) (.bool v11) (.bool v12) (.bool v13) (.bool v14) (.bool v15) (.bool v16) (.int (IntKind.wrap .i64 (v17 + 1))) (upd v18 (mIx [.str] v18 (.row [(cl v8 v17 0)])) 1 (.bool true)))))) (
 .row []))) (
 .row []))) (
 cond (4 < (len v9:Int)) (
 .row [.int 1,(.int 4),(.int 491)]) (
 ET v0 v1 v2 v3 v4 v5 v6 v7 v8 v9 (.bool v10) (.bool v11) (.bool v12) (.bool v13) (.bool v14) (.bool v15) (.bool v16) (.int v17) (.bool (decide (v17 < (len v8:Int)))) (.bool (decide (4 < (len v9:Int)))) (.int 0) Ar)):=gw rfl rfl (cL (cL rfl (cQ (cL rfl (cQ rfl rfl)) rfl)) rfl)
theorem bE (v0 v1 v2 v3 v4 v5 v6 v7 v8 v9:D) (v10 v11 v12 v13 v14 v15 v16:Bool) (v17:Int) (v18 v19:Bool) (v20:Int) (v21:D):ET v0 v1 v2 v3 v4 v5 v6 v7 v8 v9 (.bool v10) (.bool v11) (.bool v12) (.bool v13) (.bool v14) (.bool v15) (.bool v16) (.int v17) (.bool v18) (.bool v19) (.int v20) v21 =
  cond (v20 < len v9) (
 cond (v20 < 0) (
 .row []) (
 cond ((sl (FK v6 (cl v9 v20 0)) 0).toInt=1) (
 cond ((sl (FK v6 (cl v9 v20 0)) 1).toInt < 0) (
 .row [.int 1,(.int v20),(.int 491)]) (
 cond (eqC (cl v9 v20 1) 0 0) (
 cond ((mIx [.str] v21 (.row [(cl v9 v20 0)])) < 0) (
 cond ((cl v9 v20 2).toInt < (IntKind.wrap .i64 (0 - (cl v9 v20 2).toInt))) (
 cond (1000 < (IntKind.wrap .i64 (0 - (cl v9 v20 2).toInt))) (
 .row [.int 1,(.int v20),(.int 491)]) (
 cond ((cl v9 v20 2).toInt < (-1000)) (
 .row [.int 1,(.int v20),(.int 491)]) (
 ET v0 v1 v2 v3 v4 v5 v6 v7 v8 v9 (.bool v10) (.bool v11) (.bool v12) (.bool v13) (.bool v14) (.bool v15) (.bool v16) (.int v17) (.bool v18) (.bool v19) (.int (IntKind.wrap .i64 (v20 + 1))) (ad v21 (.row [(cl v9 v20 0),(.bool true)]))))) (
 cond (1000 < (cl v9 v20 2).toInt) (
 .row [.int 1,(.int v20),(.int 491)]) (
 cond ((cl v9 v20 2).toInt < (-1000)) (
 .row [.int 1,(.int v20),(.int 491)]) (
 ET v0 v1 v2 v3 v4 v5 v6 v7 v8 v9 (.bool v10) (.bool v11) (.bool v12) (.bool v13) (.bool v14) (.bool v15) (.bool v16) (.int v17) (.bool v18) (.bool v19) (.int (IntKind.wrap .i64 (v20 + 1))) (ad v21 (.row [(cl v9 v20 0),(.bool true)])))))) (
 cond ((cl v21 (mIx [.str] v21 (.row [(cl v9 v20 0)])) 1).toBool) (
 .row [.int 1,(.int v20),(.int 491)]) (
 cond ((cl v9 v20 2).toInt < (IntKind.wrap .i64 (0 - (cl v9 v20 2).toInt))) (
 cond (1000 < (IntKind.wrap .i64 (0 - (cl v9 v20 2).toInt))) (
 .row [.int 1,(.int v20),(.int 491)]) (
 cond ((cl v9 v20 2).toInt < (-1000)) (
 .row [.int 1,(.int v20),(.int 491)]) (
 ET v0 v1 v2 v3 v4 v5 v6 v7 v8 v9 (.bool v10) (.bool v11) (.bool v12) (.bool v13) (.bool v14) (.bool v15) (.bool v16) (.int v17) (.bool v18) (.bool v19) (.int (IntKind.wrap .i64 (v20 + 1))) (upd v21 (mIx [.str] v21 (.row [(cl v9 v20 0)])) 1 (.bool true))))) (
 cond (1000 < (cl v9 v20 2).toInt) (
 .row [.int 1,(.int v20),(.int 491)]) (
 cond ((cl v9 v20 2).toInt < (-1000)) (
 .row [.int 1,(.int v20),(.int 491)]) (
 ET v0 v1 v2 v3 v4 v5 v6 v7 v8 v9 (.bool v10) (.bool v11) (.bool v12) (.bool v13) (.bool v14) (.bool v15) (.bool v16) (.int v17) (.bool v18) (.bool v19) (.int (IntKind.wrap .i64 (v20 + 1))) (upd v21 (mIx [.str] v21 (.row [(cl v9 v20 0)])) 1 (.bool true)))))))) (
 cond ((sl (FK v2 (cl v9 v20 1)) 0).toInt=1) (
 cond ((sl (FK v2 (cl v9 v20 1)) 1).toInt < 0) (
 .row [.int 1,(.int v20),(.int 491)]) (
 cond ((mIx [.str] v21 (.row [(cl v9 v20 0)])) < 0) (
 cond ((cl v9 v20 2).toInt < (IntKind.wrap .i64 (0 - (cl v9 v20 2).toInt))) (
 cond (1000 < (IntKind.wrap .i64 (0 - (cl v9 v20 2).toInt))) (
 .row [.int 1,(.int v20),(.int 491)]) (
 cond ((cl v9 v20 2).toInt < (-1000)) (
 .row [.int 1,(.int v20),(.int 491)]) (
 ET v0 v1 v2 v3 v4 v5 v6 v7 v8 v9 (.bool v10) (.bool v11) (.bool v12) (.bool v13) (.bool v14) (.bool v15) (.bool v16) (.int v17) (.bool v18) (.bool v19) (.int (IntKind.wrap .i64 (v20 + 1))) (ad v21 (.row [(cl v9 v20 0),(.bool true)]))))) (
 cond (1000 < (cl v9 v20 2).toInt) (
 .row [.int 1,(.int v20),(.int 491)]) (
 cond ((cl v9 v20 2).toInt < (-1000)) (
 .row [.int 1,(.int v20),(.int 491)]) (
 ET v0 v1 v2 v3 v4 v5 v6 v7 v8 v9 (.bool v10) (.bool v11) (.bool v12) (.bool v13) (.bool v14) (.bool v15) (.bool v16) (.int v17) (.bool v18) (.bool v19) (.int (IntKind.wrap .i64 (v20 + 1))) (ad v21 (.row [(cl v9 v20 0),(.bool true)])))))) (
 cond ((cl v21 (mIx [.str] v21 (.row [(cl v9 v20 0)])) 1).toBool) (
 .row [.int 1,(.int v20),(.int 491)]) (
 cond ((cl v9 v20 2).toInt < (IntKind.wrap .i64 (0 - (cl v9 v20 2).toInt))) (
 cond (1000 < (IntKind.wrap .i64 (0 - (cl v9 v20 2).toInt))) (
 .row [.int 1,(.int v20),(.int 491)]) (
 cond ((cl v9 v20 2).toInt < (-1000)) (
 .row [.int 1,(.int v20),(.int 491)]) (
 ET v0 v1 v2 v3 v4 v5 v6 v7 v8 v9 (.bool v10) (.bool v11) (.bool v12) (.bool v13) (.bool v14) (.bool v15) (.bool v16) (.int v17) (.bool v18) (.bool v19) (.int (IntKind.wrap .i64 (v20 + 1))) (upd v21 (mIx [.str] v21 (.row [(cl v9 v20 0)])) 1 (.bool true))))) (
 cond (1000 < (cl v9 v20 2).toInt) (
 .row [.int 1,(.int v20),(.int 491)]) (
 cond ((cl v9 v20 2).toInt < (-1000)) (
 .row [.int 1,(.int v20),(.int 491)]) (
 ET v0 v1 v2 v3 v4 v5 v6 v7 v8 v9 (.bool v10) (.bool v11) (.bool v12) (.bool v13) (.bool v14) (.bool v15) (.bool v16) (.int v17) (.bool v18) (.bool v19) (.int (IntKind.wrap .i64 (v20 + 1))) (upd v21 (mIx [.str] v21 (.row [(cl v9 v20 0)])) 1 (.bool true))))))))) (
 .row [])))) (
 .row []))) (
 .row [.int 1,(.int 0),(.int 0)]):=gw rfl rfl (cL (cL rfl (cQ (cL rfl (cg rfl (cL (cL (cL rfl (cL rfl rfl)) (cL rfl (cL rfl rfl))) (cg rfl rfl (cL (cL rfl (cL rfl rfl)) (cL rfl (cL rfl rfl))))) (cQ (cL rfl (cL (cL (cL rfl (cL rfl rfl)) (cL rfl (cL rfl rfl))) (cg rfl rfl (cL (cL rfl (cL rfl rfl)) (cL rfl (cL rfl rfl)))))) rfl))) rfl)) rfl)
theorem rH (v0:D) (v1:Bool) (v2:D) (v3:Bool):Qt v0 (.bool v1) v2 (.bool v3) =
 Tl v2 (.bool v3) (.int 0) v0 (.bool v1):=gw rfl rfl rfl
theorem bB (v0:D) (v1:Bool) (v2:Int) (v3:D) (v4:Bool):Tl v0 (.bool v1) (.int v2) v3 (.bool v4) =
  cond (v2 < len v0) (
 cond (v2 < 0) (
 .row []) (
 cond ((len v3:Int) < 1073741824) (
 Tl v0 (.bool v1) (.int (IntKind.wrap .i64 (v2 + 1))) (ad v3 (.row [(cl v0 v2 2)])) (.bool false)) (
 .row []))) (
 .row [.int 1,v3,(.bool v4)]):=gw rfl rfl (cL (cL rfl (cL rfl rfl)) rfl)
theorem my (v0:D) (v1:Bool):CY v0 (.bool v1) =
  cond ((sl (Gs v0 (.bool v1)) 0).toInt=1) (
 cond ((sl (Qt Aw (.bool true) (sl (Gs v0 (.bool v1)) 1) (sl (Gs v0 (.bool v1)) 2)) 0).toInt=1) (
 .row [.int 1,(sl (Qt Aw (.bool true) (sl (Gs v0 (.bool v1)) 1) (sl (Gs v0 (.bool v1)) 2)) 1),(sl (Qt Aw (.bool true) (sl (Gs v0 (.bool v1)) 1) (sl (Gs v0 (.bool v1)) 2)) 2)]) (
 .row [])) (
 .row []):=gw rfl rfl (cQ (cQ rfl rfl) rfl)
theorem mI (v0:D) (v1:Bool) (v2 v3:D) (v4:Bool) (v5 v6:D) (v7:Bool) (v8 v9:D) (v10:Bool) (v11 v12:D) (v13:Bool) (v14 v15:Int) (v16 v17 v18:D) (v19 v20:Bool) (v21:D) (v22:Bool):Xf v0 (.bool v1) v2 v3 (.bool v4) v5 v6 (.bool v7) v8 v9 (.bool v10) v11 v12 (.bool v13) (.int v14) (.int v15) v16 v17 v18 (.bool v19) (.bool v20) v21 (.bool v22) =
  cond ((sl (CY v0 (.bool v1)) 0).toInt=1) (
 .row [.int 1,v12,(ni (sl (CY v0 (.bool v1)) 1) ((sl (CY v0 (.bool v1)) 2).toBool))]) (
 .row []):=gw rfl rfl (cQ rfl rfl)
theorem nH (v0 v1 v2 v3 v4 v5:D):Ag v0 v1 v2 v3 v4 v5 =
  cond ((sl (Do v1 v4) 0).toInt=1) (
 cond ((sl (Do v1 v4) 1).toInt < 0) (
 .row [.int 1,(sl (Do v1 v4) 1),(.int 0),(.int 0),(.int 0),(.int 0),(.bool false)]) (
 cond ((len v5:Int)=(len v2:Int)) (
 Kc v5 (.int 0) v0 v1 v2 v3 v4 (sl (Do v1 v4) 1)) (
 .row [.int 1,(sl (Do v1 v4) 1),(.int 0),(.int 0),(.int 0),(.int 0),(.bool false)]))) (
 .row []):=gw rfl rfl (cQ (cL rfl (cQ rfl rfl)) rfl)
theorem bU (v0:D) (v1:Int) (v2 v3 v4 v5 v6:D) (v7:Int):Kc v0 (.int v1) v2 v3 v4 v5 v6 (.int v7) =
  cond (v1 < len v0) (
 cond (v1 < 0) (
 .row []) (
 cond ((cl v0 v1 0).toInt < 0) (
 .row [.int 1,(.int v7),(.int 0),(.int 0),(.int 0),(.int 0),(.bool false)]) (
 cond (v1 < len v4) (
 cond ((cl v4 v1 1).toInt < (cl v0 v1 0).toInt) (
 .row [.int 1,(.int v7),(.int 0),(.int 0),(.int 0),(.int 0),(.bool false)]) (
 Kc v0 (.int (IntKind.wrap .i64 (v1 + 1))) v2 v3 v4 v5 v6 (.int v7))) (
 .row [])))) (
 cond ((len v0:Int) < 4) (
 cond ((len v0:Int)=0) (
 .row [.int 1,(.int v7),(.int 0),(.int 0),(.int 0),(.int 0),(.bool true)]) (
 cond ((len v0:Int)=1) (
 .row [.int 1,(.int v7),(cl v0 0 0),(.int 0),(.int 0),(.int 0),(.bool true)]) (
 cond ((len v0:Int)=2) (
 .row [.int 1,(.int v7),(cl v0 0 0),(cl v0 1 0),(.int 0),(.int 0),(.bool true)]) (
 cond ((len v0:Int)=3) (
 .row [.int 1,(.int v7),(cl v0 0 0),(cl v0 1 0),(cl v0 2 0),(.int 0),(.bool true)]) (
 .row []))))) (
 .row [.int 1,(.int v7),(cl v0 0 0),(cl v0 1 0),(cl v0 2 0),(cl v0 3 0),(.bool true)])):=gw rfl rfl (cL rfl (cL (cQ rfl (cQ rfl (cQ rfl (cQ rfl rfl)))) rfl))
theorem kw (v0 v1 v2 v3 v4:D) (v5 v6 v7 v8 v9:Int):Ma v0 v1 v2 v3 v4 (.int v5) (.int v6) (.int v7) (.int v8) (.int v9) =
 Nn v0 (.int 0) v1 v2 v3 v4 (.int v5) (.int v6) (.int v7) (.int v8) (.int v9):=gw rfl rfl rfl
theorem bh (v0:D) (v1:Int) (v2 v3 v4 v5:D) (v6 v7 v8 v9 v10:Int):Nn v0 (.int v1) v2 v3 v4 v5 (.int v6) (.int v7) (.int v8) (.int v9) (.int v10) =
  cond (v1 < len v0) (
 cond (v1 < 0) (
 .row []) (
 cond (v6 < 0) (
 .row []) (
 cond (v6 < len v3) (
 cond (D.strEq (cl v0 v1 0) (cl v3 v6 0)) (
 .row [.int 1,(.int v1)]) (
 Nn v0 (.int (IntKind.wrap .i64 (v1 + 1))) v2 v3 v4 v5 (.int v6) (.int v7) (.int v8) (.int v9) (.int v10))) (
 .row [])))) (
 .row [.int 1,(.int (-1))]):=gw rfl rfl rfl
theorem ik (v0 v1 v2 v3 v4 v5 v6 v7 v8 v9:D) (v10 v11 v12 v13 v14:Int):Dl v0 v1 v2 v3 v4 v5 v6 v7 v8 v9 (.int v10) (.int v11) (.int v12) (.int v13) (.int v14) =
  cond ((sl (Ma v8 v0 v1 v2 v3 (.int v10) (.int v11) (.int v12) (.int v13) (.int v14)) 0).toInt=1) (
 cond ((sl (Ma v8 v0 v1 v2 v3 (.int v10) (.int v11) (.int v12) (.int v13) (.int v14)) 1).toInt < 0) (
 .row [.int 1,(.int 0),(.int 0),(.int 0),(.int 0),(.int 0),(.int 9)]) (
 cond ((sl (Ma v8 v0 v1 v2 v3 (.int v10) (.int v11) (.int v12) (.int v13) (.int v14)) 1).toInt < len v8) (
 cond ((sl (Do v5 (cl v8 (sl (Ma v8 v0 v1 v2 v3 (.int v10) (.int v11) (.int v12) (.int v13) (.int v14)) 1).toInt 1)) 0).toInt=1) (
 BF v9 (.int 0) v0 v1 v2 v3 v4 v5 v6 v7 (.int v10) (.int v11) (.int v12) (.int v13) (.int v14) (sl (Do v5 (cl v8 (sl (Ma v8 v0 v1 v2 v3 (.int v10) (.int v11) (.int v12) (.int v13) (.int v14)) 1).toInt 1)) 1) (.int 0) (.int 0) (.int 0) (.int 0)) (
 .row [])) (
 .row []))) (
 .row []):=gw rfl rfl (cQ (cL rfl (cL (cQ rfl rfl) rfl)) rfl)
theorem cy (v0:D) (v1:Int) (v2 v3 v4 v5 v6 v7 v8 v9:D) (v10 v11 v12 v13 v14 v15 v16 v17 v18 v19:Int) {F0:D} (h0:FK v8 (cl v0 v1 0)=F0):BF v0 (.int v1) v2 v3 v4 v5 v6 v7 v8 v9 (.int v10) (.int v11) (.int v12) (.int v13) (.int v14) (.int v15) (.int v16) (.int v17) (.int v18) (.int v19) =
  cond (v1 < len v0) (
 cond (v1 < 0) (
 .row []) (
 cond ((sl F0 0).toInt=1) (
 cond ((sl (FK v4 (cl v0 v1 1)) 0).toInt=1) (
 cond ((sl (FK v4 (cl v0 v1 1)) 1).toInt < 0) (
 cond ((cl v0 v1 2).toInt < 0) (
 .row [.int 1,(.int 0),(.int 0),(.int 0),(.int 0),(.int 0),(.int 3)]) (
 cond ((sl F0 1).toInt < 0) (
 .row []) (
 cond ((sl F0 1).toInt < len v8) (
 cond ((cl v8 (sl F0 1).toInt 1).toInt < (cl v0 v1 2).toInt) (
 .row [.int 1,(.int 0),(.int 0),(.int 0),(.int 0),(.int 0),(.int 3)]) (
 cond ((sl F0 1).toInt=0) (
 BF v0 (.int (IntKind.wrap .i64 (v1 + 1))) v2 v3 v4 v5 v6 v7 v8 v9 (.int v10) (.int v11) (.int v12) (.int v13) (.int v14) (.int v15) (cl v0 v1 2) (.int v17) (.int v18) (.int v19)) (
 cond ((sl F0 1).toInt=1) (
 BF v0 (.int (IntKind.wrap .i64 (v1 + 1))) v2 v3 v4 v5 v6 v7 v8 v9 (.int v10) (.int v11) (.int v12) (.int v13) (.int v14) (.int v15) (.int v16) (cl v0 v1 2) (.int v18) (.int v19)) (
 cond ((sl F0 1).toInt=2) (
 BF v0 (.int (IntKind.wrap .i64 (v1 + 1))) v2 v3 v4 v5 v6 v7 v8 v9 (.int v10) (.int v11) (.int v12) (.int v13) (.int v14) (.int v15) (.int v16) (.int v17) (cl v0 v1 2) (.int v19)) (
 cond ((sl F0 1).toInt=3) (
 BF v0 (.int (IntKind.wrap .i64 (v1 + 1))) v2 v3 v4 v5 v6 v7 v8 v9 (.int v10) (.int v11) (.int v12) (.int v13) (.int v14) (.int v15) (.int v16) (.int v17) (.int v18) (cl v0 v1 2)) (
 .row [])))))) (
 .row [])))) (
 cond ((sl (FK v4 (cl v0 v1 1)) 1).toInt=0) (
 cond ((IntKind.wrap .i64 ((cl v0 v1 2).toInt + v11)) < 0) (
 .row [.int 1,(.int 0),(.int 0),(.int 0),(.int 0),(.int 0),(.int 3)]) (
 cond ((sl F0 1).toInt < 0) (
 .row []) (
 cond ((sl F0 1).toInt < len v8) (
 cond ((cl v8 (sl F0 1).toInt 1).toInt < (IntKind.wrap .i64 ((cl v0 v1 2).toInt + v11))) (
 .row [.int 1,(.int 0),(.int 0),(.int 0),(.int 0),(.int 0),(.int 3)]) (
 cond ((sl F0 1).toInt=0) (
 BF v0 (.int (IntKind.wrap .i64 (v1 + 1))) v2 v3 v4 v5 v6 v7 v8 v9 (.int v10) (.int v11) (.int v12) (.int v13) (.int v14) (.int v15) (.int (IntKind.wrap .i64 ((cl v0 v1 2).toInt + v11))) (.int v17) (.int v18) (.int v19)) (
 cond ((sl F0 1).toInt=1) (
 BF v0 (.int (IntKind.wrap .i64 (v1 + 1))) v2 v3 v4 v5 v6 v7 v8 v9 (.int v10) (.int v11) (.int v12) (.int v13) (.int v14) (.int v15) (.int v16) (.int (IntKind.wrap .i64 ((cl v0 v1 2).toInt + v11))) (.int v18) (.int v19)) (
 cond ((sl F0 1).toInt=2) (
 BF v0 (.int (IntKind.wrap .i64 (v1 + 1))) v2 v3 v4 v5 v6 v7 v8 v9 (.int v10) (.int v11) (.int v12) (.int v13) (.int v14) (.int v15) (.int v16) (.int v17) (.int (IntKind.wrap .i64 ((cl v0 v1 2).toInt + v11))) (.int v19)) (
 cond ((sl F0 1).toInt=3) (
 BF v0 (.int (IntKind.wrap .i64 (v1 + 1))) v2 v3 v4 v5 v6 v7 v8 v9 (.int v10) (.int v11) (.int v12) (.int v13) (.int v14) (.int v15) (.int v16) (.int v17) (.int v18) (.int (IntKind.wrap .i64 ((cl v0 v1 2).toInt + v11)))) (
 .row [])))))) (
 .row [])))) (
 cond ((sl (FK v4 (cl v0 v1 1)) 1).toInt=1) (
 cond ((IntKind.wrap .i64 ((cl v0 v1 2).toInt + v12)) < 0) (
 .row [.int 1,(.int 0),(.int 0),(.int 0),(.int 0),(.int 0),(.int 3)]) (
 cond ((sl F0 1).toInt < 0) (
 .row []) (
 cond ((sl F0 1).toInt < len v8) (
 cond ((cl v8 (sl F0 1).toInt 1).toInt < (IntKind.wrap .i64 ((cl v0 v1 2).toInt + v12))) (
 .row [.int 1,(.int 0),(.int 0),(.int 0),(.int 0),(.int 0),(.int 3)]) (
 cond ((sl F0 1).toInt=0) (
 BF v0 (.int (IntKind.wrap .i64 (v1 + 1))) v2 v3 v4 v5 v6 v7 v8 v9 (.int v10) (.int v11) (.int v12) (.int v13) (.int v14) (.int v15) (.int (IntKind.wrap .i64 ((cl v0 v1 2).toInt + v12))) (.int v17) (.int v18) (.int v19)) (
 cond ((sl F0 1).toInt=1) (
 BF v0 (.int (IntKind.wrap .i64 (v1 + 1))) v2 v3 v4 v5 v6 v7 v8 v9 (.int v10) (.int v11) (.int v12) (.int v13) (.int v14) (.int v15) (.int v16) (.int (IntKind.wrap .i64 ((cl v0 v1 2).toInt + v12))) (.int v18) (.int v19)) (
 cond ((sl F0 1).toInt=2) (
 BF v0 (.int (IntKind.wrap .i64 (v1 + 1))) v2 v3 v4 v5 v6 v7 v8 v9 (.int v10) (.int v11) (.int v12) (.int v13) (.int v14) (.int v15) (.int v16) (.int v17) (.int (IntKind.wrap .i64 ((cl v0 v1 2).toInt + v12))) (.int v19)) (
 cond ((sl F0 1).toInt=3) (
 BF v0 (.int (IntKind.wrap .i64 (v1 + 1))) v2 v3 v4 v5 v6 v7 v8 v9 (.int v10) (.int v11) (.int v12) (.int v13) (.int v14) (.int v15) (.int v16) (.int v17) (.int v18) (.int (IntKind.wrap .i64 ((cl v0 v1 2).toInt + v12)))) (
 .row [])))))) (
 .row [])))) (
 cond ((sl (FK v4 (cl v0 v1 1)) 1).toInt=2) (
 cond ((IntKind.wrap .i64 ((cl v0 v1 2).toInt + v13)) < 0) (
 .row [.int 1,(.int 0),(.int 0),(.int 0),(.int 0),(.int 0),(.int 3)]) (
 cond ((sl F0 1).toInt < 0) (
 .row []) (
 cond ((sl F0 1).toInt < len v8) (
 cond ((cl v8 (sl F0 1).toInt 1).toInt < (IntKind.wrap .i64 ((cl v0 v1 2).toInt + v13))) (
 .row [.int 1,(.int 0),(.int 0),(.int 0),(.int 0),(.int 0),(.int 3)]) (
 cond ((sl F0 1).toInt=0) (
 BF v0 (.int (IntKind.wrap .i64 (v1 + 1))) v2 v3 v4 v5 v6 v7 v8 v9 (.int v10) (.int v11) (.int v12) (.int v13) (.int v14) (.int v15) (.int (IntKind.wrap .i64 ((cl v0 v1 2).toInt + v13))) (.int v17) (.int v18) (.int v19)) (
 cond ((sl F0 1).toInt=1) (
 BF v0 (.int (IntKind.wrap .i64 (v1 + 1))) v2 v3 v4 v5 v6 v7 v8 v9 (.int v10) (.int v11) (.int v12) (.int v13) (.int v14) (.int v15) (.int v16) (.int (IntKind.wrap .i64 ((cl v0 v1 2).toInt + v13))) (.int v18) (.int v19)) (
 cond ((sl F0 1).toInt=2) (
 BF v0 (.int (IntKind.wrap .i64 (v1 + 1))) v2 v3 v4 v5 v6 v7 v8 v9 (.int v10) (.int v11) (.int v12) (.int v13) (.int v14) (.int v15) (.int v16) (.int v17) (.int (IntKind.wrap .i64 ((cl v0 v1 2).toInt + v13))) (.int v19)) (
 cond ((sl F0 1).toInt=3) (
 BF v0 (.int (IntKind.wrap .i64 (v1 + 1))) v2 v3 v4 v5 v6 v7 v8 v9 (.int v10) (.int v11) (.int v12) (.int v13) (.int v14) (.int v15) (.int v16) (.int v17) (.int v18) (.int (IntKind.wrap .i64 ((cl v0 v1 2).toInt + v13)))) (
 .row [])))))) (
 .row [])))) (
 cond ((sl (FK v4 (cl v0 v1 1)) 1).toInt=3) (
 cond ((IntKind.wrap .i64 ((cl v0 v1 2).toInt + v14)) < 0) (
 .row [.int 1,(.int 0),(.int 0),(.int 0),(.int 0),(.int 0),(.int 3)]) (
 cond ((sl F0 1).toInt < 0) (
 .row []) (
 cond ((sl F0 1).toInt < len v8) (
 cond ((cl v8 (sl F0 1).toInt 1).toInt < (IntKind.wrap .i64 ((cl v0 v1 2).toInt + v14))) (
 .row [.int 1,(.int 0),(.int 0),(.int 0),(.int 0),(.int 0),(.int 3)]) (
 cond ((sl F0 1).toInt=0) (
 BF v0 (.int (IntKind.wrap .i64 (v1 + 1))) v2 v3 v4 v5 v6 v7 v8 v9 (.int v10) (.int v11) (.int v12) (.int v13) (.int v14) (.int v15) (.int (IntKind.wrap .i64 ((cl v0 v1 2).toInt + v14))) (.int v17) (.int v18) (.int v19)) (
 cond ((sl F0 1).toInt=1) (
 BF v0 (.int (IntKind.wrap .i64 (v1 + 1))) v2 v3 v4 v5 v6 v7 v8 v9 (.int v10) (.int v11) (.int v12) (.int v13) (.int v14) (.int v15) (.int v16) (.int (IntKind.wrap .i64 ((cl v0 v1 2).toInt + v14))) (.int v18) (.int v19)) (
 cond ((sl F0 1).toInt=2) (
 BF v0 (.int (IntKind.wrap .i64 (v1 + 1))) v2 v3 v4 v5 v6 v7 v8 v9 (.int v10) (.int v11) (.int v12) (.int v13) (.int v14) (.int v15) (.int v16) (.int v17) (.int (IntKind.wrap .i64 ((cl v0 v1 2).toInt + v14))) (.int v19)) (
 cond ((sl F0 1).toInt=3) (
 BF v0 (.int (IntKind.wrap .i64 (v1 + 1))) v2 v3 v4 v5 v6 v7 v8 v9 (.int v10) (.int v11) (.int v12) (.int v13) (.int v14) (.int v15) (.int v16) (.int v17) (.int v18) (.int (IntKind.wrap .i64 ((cl v0 v1 2).toInt + v14)))) (
 .row [])))))) (
 .row [])))) (
 .row [])))))) (
 .row [])) (
 .row []))) (
 .row [.int 1,(.int v15),(.int v16),(.int v17),(.int v18),(.int v19),(.int 0)]):=by
  subst h0;exact gw rfl rfl (cL (cL rfl (cQ (cQ (cL (cL rfl (cL rfl (cL (cL rfl (cQ rfl (cQ rfl (cQ rfl (cQ rfl rfl))))) rfl))) (cQ (cL rfl (cL rfl (cL (cL rfl (cQ rfl (cQ rfl (cQ rfl (cQ rfl rfl))))) rfl))) (cQ (cL rfl (cL rfl (cL (cL rfl (cQ rfl (cQ rfl (cQ rfl (cQ rfl rfl))))) rfl))) (cQ (cL rfl (cL rfl (cL (cL rfl (cQ rfl (cQ rfl (cQ rfl (cQ rfl rfl))))) rfl))) (cQ (cL rfl (cL rfl (cL (cL rfl (cQ rfl (cQ rfl (cQ rfl (cQ rfl rfl))))) rfl))) rfl))))) rfl) rfl)) rfl)
theorem bl (v0 v1 v2 v3 v4:Int) (v5 v6 v7 v8:D):Is (.int v0) (.int v1) (.int v2) (.int v3) (.int v4) v5 v6 v7 v8 =
  cond (v0 < 0) (
 .row []) (
 cond (v0 < len v6) (
 cond ((len v7:Int)=0) (
 .row [.int 1,(cl v6 v0 0),Ar]) (
 cond ((len v7:Int)=1) (
 .row [.int 1,(cl v6 v0 0),(ad Ar (.row [(.int v1)]))]) (
 cond ((len v7:Int)=2) (
 .row [.int 1,(cl v6 v0 0),(ad (ad Ar (.row [(.int v1)])) (.row [(.int v2)]))]) (
 cond ((len v7:Int)=3) (
 .row [.int 1,(cl v6 v0 0),(ad (ad (ad Ar (.row [(.int v1)])) (.row [(.int v2)])) (.row [(.int v3)]))]) (
 cond ((len v7:Int)=4) (
 .row [.int 1,(cl v6 v0 0),(ad (ad (ad (ad Ar (.row [(.int v1)])) (.row [(.int v2)])) (.row [(.int v3)])) (.row [(.int v4)]))]) (
 .row [])))))) (
 .row [])):=gw rfl rfl (cL rfl (cL (cQ rfl (cQ rfl (cQ rfl (cQ rfl (cQ rfl rfl))))) rfl))
theorem iL (v0 v1 v2 v3 v4 v5 v6 v7 v8 v9 v10 v11:D):QP v0 v1 v2 v3 v4 v5 v6 v7 v8 v9 v10 v11 =
  cond ((sl (G3 v0 v1 v2 v3 v4 v5 v6 v7 v8 v9) 0).toInt=1) (
 cond ((sl (G3 v0 v1 v2 v3 v4 v5 v6 v7 v8 v9) 2).toInt=0) (
 cond ((sl (Ag v0 v1 v2 v3 v10 v11) 0).toInt=1) (
 cond ((sl (Ag v0 v1 v2 v3 v10 v11) 6).toBool) (
 cond ((sl (Dl v0 v1 v2 v3 v4 v5 v6 v7 v8 v9 (sl (Ag v0 v1 v2 v3 v10 v11) 1) (sl (Ag v0 v1 v2 v3 v10 v11) 2) (sl (Ag v0 v1 v2 v3 v10 v11) 3) (sl (Ag v0 v1 v2 v3 v10 v11) 4) (sl (Ag v0 v1 v2 v3 v10 v11) 5)) 0).toInt=1) (
 cond ((sl (Dl v0 v1 v2 v3 v4 v5 v6 v7 v8 v9 (sl (Ag v0 v1 v2 v3 v10 v11) 1) (sl (Ag v0 v1 v2 v3 v10 v11) 2) (sl (Ag v0 v1 v2 v3 v10 v11) 3) (sl (Ag v0 v1 v2 v3 v10 v11) 4) (sl (Ag v0 v1 v2 v3 v10 v11) 5)) 6).toInt=0) (
 cond ((sl (Is (sl (Dl v0 v1 v2 v3 v4 v5 v6 v7 v8 v9 (sl (Ag v0 v1 v2 v3 v10 v11) 1) (sl (Ag v0 v1 v2 v3 v10 v11) 2) (sl (Ag v0 v1 v2 v3 v10 v11) 3) (sl (Ag v0 v1 v2 v3 v10 v11) 4) (sl (Ag v0 v1 v2 v3 v10 v11) 5)) 1) (sl (Dl v0 v1 v2 v3 v4 v5 v6 v7 v8 v9 (sl (Ag v0 v1 v2 v3 v10 v11) 1) (sl (Ag v0 v1 v2 v3 v10 v11) 2) (sl (Ag v0 v1 v2 v3 v10 v11) 3) (sl (Ag v0 v1 v2 v3 v10 v11) 4) (sl (Ag v0 v1 v2 v3 v10 v11) 5)) 2) (sl (Dl v0 v1 v2 v3 v4 v5 v6 v7 v8 v9 (sl (Ag v0 v1 v2 v3 v10 v11) 1) (sl (Ag v0 v1 v2 v3 v10 v11) 2) (sl (Ag v0 v1 v2 v3 v10 v11) 3) (sl (Ag v0 v1 v2 v3 v10 v11) 4) (sl (Ag v0 v1 v2 v3 v10 v11) 5)) 3) (sl (Dl v0 v1 v2 v3 v4 v5 v6 v7 v8 v9 (sl (Ag v0 v1 v2 v3 v10 v11) 1) (sl (Ag v0 v1 v2 v3 v10 v11) 2) (sl (Ag v0 v1 v2 v3 v10 v11) 3) (sl (Ag v0 v1 v2 v3 v10 v11) 4) (sl (Ag v0 v1 v2 v3 v10 v11) 5)) 4) (sl (Dl v0 v1 v2 v3 v4 v5 v6 v7 v8 v9 (sl (Ag v0 v1 v2 v3 v10 v11) 1) (sl (Ag v0 v1 v2 v3 v10 v11) 2) (sl (Ag v0 v1 v2 v3 v10 v11) 3) (sl (Ag v0 v1 v2 v3 v10 v11) 4) (sl (Ag v0 v1 v2 v3 v10 v11) 5)) 5) v4 v5 v6 v7) 0).toInt=1) (
 .row [.int 1,(sl (Is (sl (Dl v0 v1 v2 v3 v4 v5 v6 v7 v8 v9 (sl (Ag v0 v1 v2 v3 v10 v11) 1) (sl (Ag v0 v1 v2 v3 v10 v11) 2) (sl (Ag v0 v1 v2 v3 v10 v11) 3) (sl (Ag v0 v1 v2 v3 v10 v11) 4) (sl (Ag v0 v1 v2 v3 v10 v11) 5)) 1) (sl (Dl v0 v1 v2 v3 v4 v5 v6 v7 v8 v9 (sl (Ag v0 v1 v2 v3 v10 v11) 1) (sl (Ag v0 v1 v2 v3 v10 v11) 2) (sl (Ag v0 v1 v2 v3 v10 v11) 3) (sl (Ag v0 v1 v2 v3 v10 v11) 4) (sl (Ag v0 v1 v2 v3 v10 v11) 5)) 2) (sl (Dl v0 v1 v2 v3 v4 v5 v6 v7 v8 v9 (sl (Ag v0 v1 v2 v3 v10 v11) 1) (sl (Ag v0 v1 v2 v3 v10 v11) 2) (sl (Ag v0 v1 v2 v3 v10 v11) 3) (sl (Ag v0 v1 v2 v3 v10 v11) 4) (sl (Ag v0 v1 v2 v3 v10 v11) 5)) 3) (sl (Dl v0 v1 v2 v3 v4 v5 v6 v7 v8 v9 (sl (Ag v0 v1 v2 v3 v10 v11) 1) (sl (Ag v0 v1 v2 v3 v10 v11) 2) (sl (Ag v0 v1 v2 v3 v10 v11) 3) (sl (Ag v0 v1 v2 v3 v10 v11) 4) (sl (Ag v0 v1 v2 v3 v10 v11) 5)) 4) (sl (Dl v0 v1 v2 v3 v4 v5 v6 v7 v8 v9 (sl (Ag v0 v1 v2 v3 v10 v11) 1) (sl (Ag v0 v1 v2 v3 v10 v11) 2) (sl (Ag v0 v1 v2 v3 v10 v11) 3) (sl (Ag v0 v1 v2 v3 v10 v11) 4) (sl (Ag v0 v1 v2 v3 v10 v11) 5)) 5) v4 v5 v6 v7) 1),(sl (Is (sl (Dl v0 v1 v2 v3 v4 v5 v6 v7 v8 v9 (sl (Ag v0 v1 v2 v3 v10 v11) 1) (sl (Ag v0 v1 v2 v3 v10 v11) 2) (sl (Ag v0 v1 v2 v3 v10 v11) 3) (sl (Ag v0 v1 v2 v3 v10 v11) 4) (sl (Ag v0 v1 v2 v3 v10 v11) 5)) 1) (sl (Dl v0 v1 v2 v3 v4 v5 v6 v7 v8 v9 (sl (Ag v0 v1 v2 v3 v10 v11) 1) (sl (Ag v0 v1 v2 v3 v10 v11) 2) (sl (Ag v0 v1 v2 v3 v10 v11) 3) (sl (Ag v0 v1 v2 v3 v10 v11) 4) (sl (Ag v0 v1 v2 v3 v10 v11) 5)) 2) (sl (Dl v0 v1 v2 v3 v4 v5 v6 v7 v8 v9 (sl (Ag v0 v1 v2 v3 v10 v11) 1) (sl (Ag v0 v1 v2 v3 v10 v11) 2) (sl (Ag v0 v1 v2 v3 v10 v11) 3) (sl (Ag v0 v1 v2 v3 v10 v11) 4) (sl (Ag v0 v1 v2 v3 v10 v11) 5)) 3) (sl (Dl v0 v1 v2 v3 v4 v5 v6 v7 v8 v9 (sl (Ag v0 v1 v2 v3 v10 v11) 1) (sl (Ag v0 v1 v2 v3 v10 v11) 2) (sl (Ag v0 v1 v2 v3 v10 v11) 3) (sl (Ag v0 v1 v2 v3 v10 v11) 4) (sl (Ag v0 v1 v2 v3 v10 v11) 5)) 4) (sl (Dl v0 v1 v2 v3 v4 v5 v6 v7 v8 v9 (sl (Ag v0 v1 v2 v3 v10 v11) 1) (sl (Ag v0 v1 v2 v3 v10 v11) 2) (sl (Ag v0 v1 v2 v3 v10 v11) 3) (sl (Ag v0 v1 v2 v3 v10 v11) 4) (sl (Ag v0 v1 v2 v3 v10 v11) 5)) 5) v4 v5 v6 v7) 2),(.int 0)]) (
 .row [])) (
 .row [.int 1,(CN 0 0),Aw,(sl (Dl v0 v1 v2 v3 v4 v5 v6 v7 v8 v9 (sl (Ag v0 v1 v2 v3 v10 v11) 1) (sl (Ag v0 v1 v2 v3 v10 v11) 2) (sl (Ag v0 v1 v2 v3 v10 v11) 3) (sl (Ag v0 v1 v2 v3 v10 v11) 4) (sl (Ag v0 v1 v2 v3 v10 v11) 5)) 6)])) (
 .row [])) (
 .row [.int 1,(CN 0 0),Aw,(.int 492)])) (
 .row [])) (
 .row [.int 1,(CN 0 0),Aw,(sl (G3 v0 v1 v2 v3 v4 v5 v6 v7 v8 v9) 2)])) (
 .row []):=gw rfl rfl (cQ (cQ (cQ (cg rfl (cQ (cQ (cQ rfl rfl) rfl) rfl) rfl) rfl) rfl) rfl)
theorem mq (v0:D) (v1:Bool) (v2:D):D0 v0 (.bool v1) v2 =
  cond ((len v2:Int)=(len v0:Int)) (
 T8 v2 (.int 0) v0 (.bool v1)) (
 .row [.int 1,(.int 2),v0]):=gw rfl rfl (cQ rfl rfl)
theorem bo (v0:D) (v1:Int) (v2:D) (v3:Bool):T8 v0 (.int v1) v2 (.bool v3) =
  cond (v1 < len v0) (
 cond (v1 < 0) (
 .row []) (
 cond ((cl v0 v1 0).toInt < 0) (
 .row [.int 1,(.int 3),v2]) (
 cond (v1 < len v2) (
 cond ((cl v2 v1 1).toInt < (cl v0 v1 0).toInt) (
 .row [.int 1,(.int 3),v2]) (
 T8 v0 (.int (IntKind.wrap .i64 (v1 + 1))) v2 (.bool v3))) (
 .row [])))) (
 PT v0 (.int (len v0:Int)) (.int 0) v2 (.bool v3)):=gw rfl rfl rfl
theorem bG (v0:D) (v1 v2:Int) (v3:D) (v4:Bool):PT v0 (.int v1) (.int v2) v3 (.bool v4) =
  cond (v2 < v1) (
 cond (v2 < 0) (
 .row []) (
 cond (v2 < len v0) (
 cond (v2 < len v3) (
 PT v0 (.int v1) (.int (IntKind.wrap .i64 (v2 + 1))) (upd v3 v2 2 (cl v0 v2 0)) (.bool v4)) (
 .row [])) (
 .row []))) (
 .row [.int 1,(.int 0),v3]):=gw rfl rfl rfl
theorem mb (v0 v1 v2 v3 v4:Int) (v5 v6 v7 v8:D):AK (.int v0) (.int v1) (.int v2) (.int v3) (.int v4) v5 v6 v7 v8 =
  cond ((sl (AT v7) 0).toInt=1) (
 cond ((len v7:Int)=0) (
 cond ((sl (D0 (sl (AT v7) 1) (sl (AT v7) 2) Ar) 0).toInt=1) (
 .row [.int 1,(.int (len (sl (AT v7) 1):Int)),(sl (AT v7) 2),(sl (D0 (sl (AT v7) 1) (sl (AT v7) 2) Ar) 2)]) (
 .row [])) (
 cond ((len v7:Int)=1) (
 cond ((sl (D0 (sl (AT v7) 1) (sl (AT v7) 2) (ad Ar (.row [(.int v1)]))) 0).toInt=1) (
 .row [.int 1,(.int (len (sl (AT v7) 1):Int)),(sl (AT v7) 2),(sl (D0 (sl (AT v7) 1) (sl (AT v7) 2) (ad Ar (.row [(.int v1)]))) 2)]) (
 .row [])) (
 cond ((len v7:Int)=2) (
 cond ((sl (D0 (sl (AT v7) 1) (sl (AT v7) 2) (ad (ad Ar (.row [(.int v1)])) (.row [(.int v2)]))) 0).toInt=1) (
 .row [.int 1,(.int (len (sl (AT v7) 1):Int)),(sl (AT v7) 2),(sl (D0 (sl (AT v7) 1) (sl (AT v7) 2) (ad (ad Ar (.row [(.int v1)])) (.row [(.int v2)]))) 2)]) (
 .row [])) (
 cond ((len v7:Int)=3) (
 cond ((sl (D0 (sl (AT v7) 1) (sl (AT v7) 2) (ad (ad (ad Ar (.row [(.int v1)])) (.row [(.int v2)])) (.row [(.int v3)]))) 0).toInt=1) (
 .row [.int 1,(.int (len (sl (AT v7) 1):Int)),(sl (AT v7) 2),(sl (D0 (sl (AT v7) 1) (sl (AT v7) 2) (ad (ad (ad Ar (.row [(.int v1)])) (.row [(.int v2)])) (.row [(.int v3)]))) 2)]) (
 .row [])) (
 cond ((len v7:Int)=4) (
 cond ((sl (D0 (sl (AT v7) 1) (sl (AT v7) 2) (ad (ad (ad (ad Ar (.row [(.int v1)])) (.row [(.int v2)])) (.row [(.int v3)])) (.row [(.int v4)]))) 0).toInt=1) (
 .row [.int 1,(.int (len (sl (AT v7) 1):Int)),(sl (AT v7) 2),(sl (D0 (sl (AT v7) 1) (sl (AT v7) 2) (ad (ad (ad (ad Ar (.row [(.int v1)])) (.row [(.int v2)])) (.row [(.int v3)])) (.row [(.int v4)]))) 2)]) (
 .row [])) (
 .row [])))))) (
 .row []):=gw rfl rfl (cQ (cQ (cQ rfl rfl) (cQ (cQ rfl rfl) (cQ (cQ rfl rfl) (cQ (cQ rfl rfl) (cQ (cQ rfl rfl) rfl))))) rfl)
theorem hQ (v0 v1 v2 v3 v4:Int) (v5 v6 v7 v8:D):Qk (.int v0) (.int v1) (.int v2) (.int v3) (.int v4) v5 v6 v7 v8 =
  cond ((sl (AK (.int v0) (.int v1) (.int v2) (.int v3) (.int v4) v5 v6 v7 v8) 0).toInt=1) (
 GA Aw (.bool true) v8 (.int 0) (.int v0) (.int v1) (.int v2) (.int v3) (.int v4) v5 v6 v7 (sl (AK (.int v0) (.int v1) (.int v2) (.int v3) (.int v4) v5 v6 v7 v8) 1) (sl (AK (.int v0) (.int v1) (.int v2) (.int v3) (.int v4) v5 v6 v7 v8) 2) (sl (AK (.int v0) (.int v1) (.int v2) (.int v3) (.int v4) v5 v6 v7 v8) 3)) (
 .row []):=gw rfl rfl (cQ rfl rfl)
theorem bq (v0:D) (v1:Bool) (v2:D) (v3 v4 v5 v6 v7 v8:Int) (v9 v10 v11 v12:D) (v13:Bool) (v14:D):GA v0 (.bool v1) v2 (.int v3) (.int v4) (.int v5) (.int v6) (.int v7) (.int v8) v9 v10 v11 v12 (.bool v13) v14 =
  cond (v3 < len v2) (
 cond (v3 < 0) (
 .row []) (
 cond (len v14=v12.toInt) (
 cond ((sl (HP v14 (.bool v13) (cl v2 v3 0) (cl v2 v3 1) (cl v2 v3 2) (cl v2 v3 3) (cl v2 v3 4) (cl v2 v3 5) (cl v2 v3 6) (cl v2 v3 7) (cl v2 v3 8)) 0).toInt=1) (
 cond ((sl (HP v14 (.bool v13) (cl v2 v3 0) (cl v2 v3 1) (cl v2 v3 2) (cl v2 v3 3) (cl v2 v3 4) (cl v2 v3 5) (cl v2 v3 6) (cl v2 v3 7) (cl v2 v3 8)) 1).toBool) (
 cond (v4 < 0) (
 .row []) (
 cond (v4 < len v10) (
 cond (D.strEq (cl v2 v3 0) (cl v10 v4 0)) (
 cond ((len v0:Int) < 1073741824) (
 GA (ad v0 (.row [(.int v3)])) (.bool false) v2 (.int (IntKind.wrap .i64 (v3 + 1))) (.int v4) (.int v5) (.int v6) (.int v7) (.int v8) v9 v10 v11 (.int (len v14:Int)) (.bool v13) v14) (
 .row [])) (
 GA v0 (.bool v1) v2 (.int (IntKind.wrap .i64 (v3 + 1))) (.int v4) (.int v5) (.int v6) (.int v7) (.int v8) v9 v10 v11 (.int (len v14:Int)) (.bool v13) v14)) (
 .row []))) (
 GA v0 (.bool v1) v2 (.int (IntKind.wrap .i64 (v3 + 1))) (.int v4) (.int v5) (.int v6) (.int v7) (.int v8) v9 v10 v11 (.int (len v14:Int)) (.bool v13) v14)) (
 .row [])) (
 .row []))) (
 .row [.int 1,v0,(.bool v1)]):=gw rfl rfl (cL (cL rfl (cQ (cQ (cg rfl (cL rfl (cL (cg rfl (cL rfl rfl) rfl) rfl)) rfl) rfl) rfl)) rfl)
theorem jW (v0 v1 v2 v3 v4 v5:D):CZ v0 v1 v2 v3 v4 v5 =
  cond ((sl (DZ v0 v1 v2 v3) 0).toInt=1) (
 cond ((sl (DZ v0 v1 v2 v3) 2).toInt=0) (
 cond ((sl (Ag v0 v1 v2 v3 v4 v5) 0).toInt=1) (
 cond ((sl (Ag v0 v1 v2 v3 v4 v5) 6).toBool) (
 cond ((sl (Qk (sl (Ag v0 v1 v2 v3 v4 v5) 1) (sl (Ag v0 v1 v2 v3 v4 v5) 2) (sl (Ag v0 v1 v2 v3 v4 v5) 3) (sl (Ag v0 v1 v2 v3 v4 v5) 4) (sl (Ag v0 v1 v2 v3 v4 v5) 5) v0 v1 v2 v3) 0).toInt=1) (
 .row [.int 1,(sl (Qk (sl (Ag v0 v1 v2 v3 v4 v5) 1) (sl (Ag v0 v1 v2 v3 v4 v5) 2) (sl (Ag v0 v1 v2 v3 v4 v5) 3) (sl (Ag v0 v1 v2 v3 v4 v5) 4) (sl (Ag v0 v1 v2 v3 v4 v5) 5) v0 v1 v2 v3) 1),(sl (Qk (sl (Ag v0 v1 v2 v3 v4 v5) 1) (sl (Ag v0 v1 v2 v3 v4 v5) 2) (sl (Ag v0 v1 v2 v3 v4 v5) 3) (sl (Ag v0 v1 v2 v3 v4 v5) 4) (sl (Ag v0 v1 v2 v3 v4 v5) 5) v0 v1 v2 v3) 2),(.int 0)]) (
 .row [])) (
 .row [.int 1,Aw,(.bool true),(.int 492)])) (
 .row [])) (
 .row [.int 1,Aw,(.bool true),(.int 2)])) (
 .row []):=gw rfl rfl (cQ (cQ (cQ (cg rfl (cQ rfl rfl) rfl) rfl) rfl) rfl)
theorem oq (v0:D) (v1:Bool) (v2:Int):TL v0 (.bool v1) (.int v2) =
 TN v0 (.bool v1) (.int v2) (.int 0):=gw rfl rfl rfl
theorem mC (v0:D) (v1:Bool) (v2 v3:Int):TN v0 (.bool v1) (.int v2) (.int v3) =
  cond (v3 < len v0) (
 cond (v3 < 0) (
 .row []) (
 cond (v2=(cl v0 v3 0).toInt) (
 .row [.int 1,(.int v3)]) (
 TN v0 (.bool v1) (.int v2) (.int (IntKind.wrap .i64 (v3 + 1)))))) (
 .row [.int 1,(.int (-1))]):=gw rfl rfl (cL (cL rfl (cQ rfl rfl)) rfl)
theorem nS (v0 v1 v2 v3 v4:Int) (v5 v6 v7 v8:D) (v9:Int):Dy (.int v0) (.int v1) (.int v2) (.int v3) (.int v4) v5 v6 v7 v8 (.int v9) =
  cond ((sl (AK (.int v0) (.int v1) (.int v2) (.int v3) (.int v4) v5 v6 v7 v8) 0).toInt=1) (
 cond (v9 < 0) (
 .row []) (
 cond (v9 < len v8) (
 cond (len (sl (AK (.int v0) (.int v1) (.int v2) (.int v3) (.int v4) v5 v6 v7 v8) 3)=(sl (AK (.int v0) (.int v1) (.int v2) (.int v3) (.int v4) v5 v6 v7 v8) 1).toInt) (
 cond ((sl (BB (sl (AK (.int v0) (.int v1) (.int v2) (.int v3) (.int v4) v5 v6 v7 v8) 3) (sl (AK (.int v0) (.int v1) (.int v2) (.int v3) (.int v4) v5 v6 v7 v8) 2) (cl v8 v9 0) (cl v8 v9 1) (cl v8 v9 2) (cl v8 v9 3) (cl v8 v9 4) (cl v8 v9 5) (cl v8 v9 6) (cl v8 v9 7) (cl v8 v9 8)) 0).toInt=1) (
 cond ((sl (Do v6 (cl v8 v9 1)) 0).toInt=1) (
 cond ((len (sl (BB (sl (AK (.int v0) (.int v1) (.int v2) (.int v3) (.int v4) v5 v6 v7 v8) 3) (sl (AK (.int v0) (.int v1) (.int v2) (.int v3) (.int v4) v5 v6 v7 v8) 2) (cl v8 v9 0) (cl v8 v9 1) (cl v8 v9 2) (cl v8 v9 3) (cl v8 v9 4) (cl v8 v9 5) (cl v8 v9 6) (cl v8 v9 7) (cl v8 v9 8)) 2):Int)=(len (sl (AK (.int v0) (.int v1) (.int v2) (.int v3) (.int v4) v5 v6 v7 v8) 3):Int)) (
 cond ((sl (CY (sl (BB (sl (AK (.int v0) (.int v1) (.int v2) (.int v3) (.int v4) v5 v6 v7 v8) 3) (sl (AK (.int v0) (.int v1) (.int v2) (.int v3) (.int v4) v5 v6 v7 v8) 2) (cl v8 v9 0) (cl v8 v9 1) (cl v8 v9 2) (cl v8 v9 3) (cl v8 v9 4) (cl v8 v9 5) (cl v8 v9 6) (cl v8 v9 7) (cl v8 v9 8)) 2) (sl (AK (.int v0) (.int v1) (.int v2) (.int v3) (.int v4) v5 v6 v7 v8) 2)) 0).toInt=1) (
 cond ((len (sl (CY (sl (BB (sl (AK (.int v0) (.int v1) (.int v2) (.int v3) (.int v4) v5 v6 v7 v8) 3) (sl (AK (.int v0) (.int v1) (.int v2) (.int v3) (.int v4) v5 v6 v7 v8) 2) (cl v8 v9 0) (cl v8 v9 1) (cl v8 v9 2) (cl v8 v9 3) (cl v8 v9 4) (cl v8 v9 5) (cl v8 v9 6) (cl v8 v9 7) (cl v8 v9 8)) 2) (sl (AK (.int v0) (.int v1) (.int v2) (.int v3) (.int v4) v5 v6 v7 v8) 2)) 1):Int) < 4) (
 cond ((len (sl (CY (sl (BB (sl (AK (.int v0) (.int v1) (.int v2) (.int v3) (.int v4) v5 v6 v7 v8) 3) (sl (AK (.int v0) (.int v1) (.int v2) (.int v3) (.int v4) v5 v6 v7 v8) 2) (cl v8 v9 0) (cl v8 v9 1) (cl v8 v9 2) (cl v8 v9 3) (cl v8 v9 4) (cl v8 v9 5) (cl v8 v9 6) (cl v8 v9 7) (cl v8 v9 8)) 2) (sl (AK (.int v0) (.int v1) (.int v2) (.int v3) (.int v4) v5 v6 v7 v8) 2)) 1):Int)=0) (
 .row [.int 1,(sl (Do v6 (cl v8 v9 1)) 1),(.int 0),(.int 0),(.int 0),(.int 0)]) (
 cond ((len (sl (CY (sl (BB (sl (AK (.int v0) (.int v1) (.int v2) (.int v3) (.int v4) v5 v6 v7 v8) 3) (sl (AK (.int v0) (.int v1) (.int v2) (.int v3) (.int v4) v5 v6 v7 v8) 2) (cl v8 v9 0) (cl v8 v9 1) (cl v8 v9 2) (cl v8 v9 3) (cl v8 v9 4) (cl v8 v9 5) (cl v8 v9 6) (cl v8 v9 7) (cl v8 v9 8)) 2) (sl (AK (.int v0) (.int v1) (.int v2) (.int v3) (.int v4) v5 v6 v7 v8) 2)) 1):Int)=1) (
 .row [.int 1,(sl (Do v6 (cl v8 v9 1)) 1),(cl (sl (CY (sl (BB (sl (AK (.int v0) (.int v1) (.int v2) (.int v3) (.int v4) v5 v6 v7 v8) 3) (sl (AK (.int v0) (.int v1) (.int v2) (.int v3) (.int v4) v5 v6 v7 v8) 2) (cl v8 v9 0) (cl v8 v9 1) (cl v8 v9 2) (cl v8 v9 3) (cl v8 v9 4) (cl v8 v9 5) (cl v8 v9 6) (cl v8 v9 7) (cl v8 v9 8)) 2) (sl (AK (.int v0) (.int v1) (.int v2) (.int v3) (.int v4) v5 v6 v7 v8) 2)) 1) 0 0),(.int 0),(.int 0),(.int 0)]) (
 cond ((len (sl (CY (sl (BB (sl (AK (.int v0) (.int v1) (.int v2) (.int v3) (.int v4) v5 v6 v7 v8) 3) (sl (AK (.int v0) (.int v1) (.int v2) (.int v3) (.int v4) v5 v6 v7 v8) 2) (cl v8 v9 0) (cl v8 v9 1) (cl v8 v9 2) (cl v8 v9 3) (cl v8 v9 4) (cl v8 v9 5) (cl v8 v9 6) (cl v8 v9 7) (cl v8 v9 8)) 2) (sl (AK (.int v0) (.int v1) (.int v2) (.int v3) (.int v4) v5 v6 v7 v8) 2)) 1):Int)=2) (
 .row [.int 1,(sl (Do v6 (cl v8 v9 1)) 1),(cl (sl (CY (sl (BB (sl (AK (.int v0) (.int v1) (.int v2) (.int v3) (.int v4) v5 v6 v7 v8) 3) (sl (AK (.int v0) (.int v1) (.int v2) (.int v3) (.int v4) v5 v6 v7 v8) 2) (cl v8 v9 0) (cl v8 v9 1) (cl v8 v9 2) (cl v8 v9 3) (cl v8 v9 4) (cl v8 v9 5) (cl v8 v9 6) (cl v8 v9 7) (cl v8 v9 8)) 2) (sl (AK (.int v0) (.int v1) (.int v2) (.int v3) (.int v4) v5 v6 v7 v8) 2)) 1) 0 0),(cl (sl (CY (sl (BB (sl (AK (.int v0) (.int v1) (.int v2) (.int v3) (.int v4) v5 v6 v7 v8) 3) (sl (AK (.int v0) (.int v1) (.int v2) (.int v3) (.int v4) v5 v6 v7 v8) 2) (cl v8 v9 0) (cl v8 v9 1) (cl v8 v9 2) (cl v8 v9 3) (cl v8 v9 4) (cl v8 v9 5) (cl v8 v9 6) (cl v8 v9 7) (cl v8 v9 8)) 2) (sl (AK (.int v0) (.int v1) (.int v2) (.int v3) (.int v4) v5 v6 v7 v8) 2)) 1) 1 0),(.int 0),(.int 0)]) (
 cond ((len (sl (CY (sl (BB (sl (AK (.int v0) (.int v1) (.int v2) (.int v3) (.int v4) v5 v6 v7 v8) 3) (sl (AK (.int v0) (.int v1) (.int v2) (.int v3) (.int v4) v5 v6 v7 v8) 2) (cl v8 v9 0) (cl v8 v9 1) (cl v8 v9 2) (cl v8 v9 3) (cl v8 v9 4) (cl v8 v9 5) (cl v8 v9 6) (cl v8 v9 7) (cl v8 v9 8)) 2) (sl (AK (.int v0) (.int v1) (.int v2) (.int v3) (.int v4) v5 v6 v7 v8) 2)) 1):Int)=3) (
 .row [.int 1,(sl (Do v6 (cl v8 v9 1)) 1),(cl (sl (CY (sl (BB (sl (AK (.int v0) (.int v1) (.int v2) (.int v3) (.int v4) v5 v6 v7 v8) 3) (sl (AK (.int v0) (.int v1) (.int v2) (.int v3) (.int v4) v5 v6 v7 v8) 2) (cl v8 v9 0) (cl v8 v9 1) (cl v8 v9 2) (cl v8 v9 3) (cl v8 v9 4) (cl v8 v9 5) (cl v8 v9 6) (cl v8 v9 7) (cl v8 v9 8)) 2) (sl (AK (.int v0) (.int v1) (.int v2) (.int v3) (.int v4) v5 v6 v7 v8) 2)) 1) 0 0),(cl (sl (CY (sl (BB (sl (AK (.int v0) (.int v1) (.int v2) (.int v3) (.int v4) v5 v6 v7 v8) 3) (sl (AK (.int v0) (.int v1) (.int v2) (.int v3) (.int v4) v5 v6 v7 v8) 2) (cl v8 v9 0) (cl v8 v9 1) (cl v8 v9 2) (cl v8 v9 3) (cl v8 v9 4) (cl v8 v9 5) (cl v8 v9 6) (cl v8 v9 7) (cl v8 v9 8)) 2) (sl (AK (.int v0) (.int v1) (.int v2) (.int v3) (.int v4) v5 v6 v7 v8) 2)) 1) 1 0),(cl (sl (CY (sl (BB (sl (AK (.int v0) (.int v1) (.int v2) (.int v3) (.int v4) v5 v6 v7 v8) 3) (sl (AK (.int v0) (.int v1) (.int v2) (.int v3) (.int v4) v5 v6 v7 v8) 2) (cl v8 v9 0) (cl v8 v9 1) (cl v8 v9 2) (cl v8 v9 3) (cl v8 v9 4) (cl v8 v9 5) (cl v8 v9 6) (cl v8 v9 7) (cl v8 v9 8)) 2) (sl (AK (.int v0) (.int v1) (.int v2) (.int v3) (.int v4) v5 v6 v7 v8) 2)) 1) 2 0),(.int 0)]) (
 .row []))))) (
 .row [.int 1,(sl (Do v6 (cl v8 v9 1)) 1),(cl (sl (CY (sl (BB (sl (AK (.int v0) (.int v1) (.int v2) (.int v3) (.int v4) v5 v6 v7 v8) 3) (sl (AK (.int v0) (.int v1) (.int v2) (.int v3) (.int v4) v5 v6 v7 v8) 2) (cl v8 v9 0) (cl v8 v9 1) (cl v8 v9 2) (cl v8 v9 3) (cl v8 v9 4) (cl v8 v9 5) (cl v8 v9 6) (cl v8 v9 7) (cl v8 v9 8)) 2) (sl (AK (.int v0) (.int v1) (.int v2) (.int v3) (.int v4) v5 v6 v7 v8) 2)) 1) 0 0),(cl (sl (CY (sl (BB (sl (AK (.int v0) (.int v1) (.int v2) (.int v3) (.int v4) v5 v6 v7 v8) 3) (sl (AK (.int v0) (.int v1) (.int v2) (.int v3) (.int v4) v5 v6 v7 v8) 2) (cl v8 v9 0) (cl v8 v9 1) (cl v8 v9 2) (cl v8 v9 3) (cl v8 v9 4) (cl v8 v9 5) (cl v8 v9 6) (cl v8 v9 7) (cl v8 v9 8)) 2) (sl (AK (.int v0) (.int v1) (.int v2) (.int v3) (.int v4) v5 v6 v7 v8) 2)) 1) 1 0),(cl (sl (CY (sl (BB (sl (AK (.int v0) (.int v1) (.int v2) (.int v3) (.int v4) v5 v6 v7 v8) 3) (sl (AK (.int v0) (.int v1) (.int v2) (.int v3) (.int v4) v5 v6 v7 v8) 2) (cl v8 v9 0) (cl v8 v9 1) (cl v8 v9 2) (cl v8 v9 3) (cl v8 v9 4) (cl v8 v9 5) (cl v8 v9 6) (cl v8 v9 7) (cl v8 v9 8)) 2) (sl (AK (.int v0) (.int v1) (.int v2) (.int v3) (.int v4) v5 v6 v7 v8) 2)) 1) 2 0),(cl (sl (CY (sl (BB (sl (AK (.int v0) (.int v1) (.int v2) (.int v3) (.int v4) v5 v6 v7 v8) 3) (sl (AK (.int v0) (.int v1) (.int v2) (.int v3) (.int v4) v5 v6 v7 v8) 2) (cl v8 v9 0) (cl v8 v9 1) (cl v8 v9 2) (cl v8 v9 3) (cl v8 v9 4) (cl v8 v9 5) (cl v8 v9 6) (cl v8 v9 7) (cl v8 v9 8)) 2) (sl (AK (.int v0) (.int v1) (.int v2) (.int v3) (.int v4) v5 v6 v7 v8) 2)) 1) 3 0)])) (
 .row [])) (
 .row [])) (
 .row [])) (
 .row [])) (
 .row [])) (
 .row []))) (
 .row []):=gw rfl rfl (cQ (cL rfl (cL (cQ (cQ (cQ (cQ (cQ (cL (cQ rfl (cQ rfl (cQ rfl (cQ rfl rfl)))) rfl) rfl) rfl) rfl) rfl) rfl) rfl)) rfl)
theorem ou (v0 v1 v2 v3 v4 v5:D) (v6:Int):EL v0 v1 v2 v3 v4 v5 (.int v6) =
  cond ((sl (CZ v0 v1 v2 v3 v4 v5) 0).toInt=1) (
 cond ((sl (CZ v0 v1 v2 v3 v4 v5) 3).toInt=0) (
 cond ((sl (TL (sl (CZ v0 v1 v2 v3 v4 v5) 1) (sl (CZ v0 v1 v2 v3 v4 v5) 2) (.int v6)) 0).toInt=1) (
 cond ((sl (TL (sl (CZ v0 v1 v2 v3 v4 v5) 1) (sl (CZ v0 v1 v2 v3 v4 v5) 2) (.int v6)) 1).toInt < 0) (
 .row [.int 1,(CN 0 0),Aw,(.int 8)]) (
 cond ((sl (Ag v0 v1 v2 v3 v4 v5) 0).toInt=1) (
 cond ((sl (Dy (sl (Ag v0 v1 v2 v3 v4 v5) 1) (sl (Ag v0 v1 v2 v3 v4 v5) 2) (sl (Ag v0 v1 v2 v3 v4 v5) 3) (sl (Ag v0 v1 v2 v3 v4 v5) 4) (sl (Ag v0 v1 v2 v3 v4 v5) 5) v0 v1 v2 v3 (.int v6)) 0).toInt=1) (
 cond ((sl (Is (sl (Dy (sl (Ag v0 v1 v2 v3 v4 v5) 1) (sl (Ag v0 v1 v2 v3 v4 v5) 2) (sl (Ag v0 v1 v2 v3 v4 v5) 3) (sl (Ag v0 v1 v2 v3 v4 v5) 4) (sl (Ag v0 v1 v2 v3 v4 v5) 5) v0 v1 v2 v3 (.int v6)) 1) (sl (Dy (sl (Ag v0 v1 v2 v3 v4 v5) 1) (sl (Ag v0 v1 v2 v3 v4 v5) 2) (sl (Ag v0 v1 v2 v3 v4 v5) 3) (sl (Ag v0 v1 v2 v3 v4 v5) 4) (sl (Ag v0 v1 v2 v3 v4 v5) 5) v0 v1 v2 v3 (.int v6)) 2) (sl (Dy (sl (Ag v0 v1 v2 v3 v4 v5) 1) (sl (Ag v0 v1 v2 v3 v4 v5) 2) (sl (Ag v0 v1 v2 v3 v4 v5) 3) (sl (Ag v0 v1 v2 v3 v4 v5) 4) (sl (Ag v0 v1 v2 v3 v4 v5) 5) v0 v1 v2 v3 (.int v6)) 3) (sl (Dy (sl (Ag v0 v1 v2 v3 v4 v5) 1) (sl (Ag v0 v1 v2 v3 v4 v5) 2) (sl (Ag v0 v1 v2 v3 v4 v5) 3) (sl (Ag v0 v1 v2 v3 v4 v5) 4) (sl (Ag v0 v1 v2 v3 v4 v5) 5) v0 v1 v2 v3 (.int v6)) 4) (sl (Dy (sl (Ag v0 v1 v2 v3 v4 v5) 1) (sl (Ag v0 v1 v2 v3 v4 v5) 2) (sl (Ag v0 v1 v2 v3 v4 v5) 3) (sl (Ag v0 v1 v2 v3 v4 v5) 4) (sl (Ag v0 v1 v2 v3 v4 v5) 5) v0 v1 v2 v3 (.int v6)) 5) v0 v1 v2 v3) 0).toInt=1) (
 .row [.int 1,(sl (Is (sl (Dy (sl (Ag v0 v1 v2 v3 v4 v5) 1) (sl (Ag v0 v1 v2 v3 v4 v5) 2) (sl (Ag v0 v1 v2 v3 v4 v5) 3) (sl (Ag v0 v1 v2 v3 v4 v5) 4) (sl (Ag v0 v1 v2 v3 v4 v5) 5) v0 v1 v2 v3 (.int v6)) 1) (sl (Dy (sl (Ag v0 v1 v2 v3 v4 v5) 1) (sl (Ag v0 v1 v2 v3 v4 v5) 2) (sl (Ag v0 v1 v2 v3 v4 v5) 3) (sl (Ag v0 v1 v2 v3 v4 v5) 4) (sl (Ag v0 v1 v2 v3 v4 v5) 5) v0 v1 v2 v3 (.int v6)) 2) (sl (Dy (sl (Ag v0 v1 v2 v3 v4 v5) 1) (sl (Ag v0 v1 v2 v3 v4 v5) 2) (sl (Ag v0 v1 v2 v3 v4 v5) 3) (sl (Ag v0 v1 v2 v3 v4 v5) 4) (sl (Ag v0 v1 v2 v3 v4 v5) 5) v0 v1 v2 v3 (.int v6)) 3) (sl (Dy (sl (Ag v0 v1 v2 v3 v4 v5) 1) (sl (Ag v0 v1 v2 v3 v4 v5) 2) (sl (Ag v0 v1 v2 v3 v4 v5) 3) (sl (Ag v0 v1 v2 v3 v4 v5) 4) (sl (Ag v0 v1 v2 v3 v4 v5) 5) v0 v1 v2 v3 (.int v6)) 4) (sl (Dy (sl (Ag v0 v1 v2 v3 v4 v5) 1) (sl (Ag v0 v1 v2 v3 v4 v5) 2) (sl (Ag v0 v1 v2 v3 v4 v5) 3) (sl (Ag v0 v1 v2 v3 v4 v5) 4) (sl (Ag v0 v1 v2 v3 v4 v5) 5) v0 v1 v2 v3 (.int v6)) 5) v0 v1 v2 v3) 1),(sl (Is (sl (Dy (sl (Ag v0 v1 v2 v3 v4 v5) 1) (sl (Ag v0 v1 v2 v3 v4 v5) 2) (sl (Ag v0 v1 v2 v3 v4 v5) 3) (sl (Ag v0 v1 v2 v3 v4 v5) 4) (sl (Ag v0 v1 v2 v3 v4 v5) 5) v0 v1 v2 v3 (.int v6)) 1) (sl (Dy (sl (Ag v0 v1 v2 v3 v4 v5) 1) (sl (Ag v0 v1 v2 v3 v4 v5) 2) (sl (Ag v0 v1 v2 v3 v4 v5) 3) (sl (Ag v0 v1 v2 v3 v4 v5) 4) (sl (Ag v0 v1 v2 v3 v4 v5) 5) v0 v1 v2 v3 (.int v6)) 2) (sl (Dy (sl (Ag v0 v1 v2 v3 v4 v5) 1) (sl (Ag v0 v1 v2 v3 v4 v5) 2) (sl (Ag v0 v1 v2 v3 v4 v5) 3) (sl (Ag v0 v1 v2 v3 v4 v5) 4) (sl (Ag v0 v1 v2 v3 v4 v5) 5) v0 v1 v2 v3 (.int v6)) 3) (sl (Dy (sl (Ag v0 v1 v2 v3 v4 v5) 1) (sl (Ag v0 v1 v2 v3 v4 v5) 2) (sl (Ag v0 v1 v2 v3 v4 v5) 3) (sl (Ag v0 v1 v2 v3 v4 v5) 4) (sl (Ag v0 v1 v2 v3 v4 v5) 5) v0 v1 v2 v3 (.int v6)) 4) (sl (Dy (sl (Ag v0 v1 v2 v3 v4 v5) 1) (sl (Ag v0 v1 v2 v3 v4 v5) 2) (sl (Ag v0 v1 v2 v3 v4 v5) 3) (sl (Ag v0 v1 v2 v3 v4 v5) 4) (sl (Ag v0 v1 v2 v3 v4 v5) 5) v0 v1 v2 v3 (.int v6)) 5) v0 v1 v2 v3) 2),(.int 0)]) (
 .row [])) (
 .row [])) (
 .row []))) (
 .row [])) (
 .row [.int 1,(CN 0 0),Aw,(sl (CZ v0 v1 v2 v3 v4 v5) 3)])) (
 .row []):=gw rfl rfl (cQ (cQ (cQ (cL rfl (cQ (cQ (cQ rfl rfl) rfl) rfl)) rfl) rfl) rfl)
theorem iR (v0 v1:D):Uy v0 v1 =
  cond ((len v0:Int)=(len v1:Int)) (
 Og v0 v1 (.int 0)) (
 .row [.int 1,(.bool false)]):=gw rfl rfl (cQ rfl rfl)
theorem bS (v0 v1:D) (v2:Int):Og v0 v1 (.int v2) =
  cond (v2 < len v0) (
 cond (v2 < 0) (
 .row []) (
 cond (v2 < len v1) (
 cond ((cl v0 v2 0).toInt=(cl v1 v2 0).toInt) (
 Og v0 v1 (.int (IntKind.wrap .i64 (v2 + 1)))) (
 .row [.int 1,(.bool false)])) (
 .row []))) (
 .row [.int 1,(.bool true)]):=gw rfl rfl (cL (cL rfl (cL (cQ rfl rfl) rfl)) rfl)
theorem gR (v0:D) (v1:Bool) (v2 v3:D):Ym v0 (.bool v1) v2 v3 =
 Jo v0 (.bool v1) (.int 0) v2 v3:=gw rfl rfl rfl
theorem cJ (v0:D) (v1:Bool) (v2:Int) (v3 v4:D):Jo v0 (.bool v1) (.int v2) v3 v4 =
  cond (v2 < len v0) (
 cond (v2 < 0) (
 .row []) (
 cond (D.strEq (cl v0 v2 0) v3) (
 cond ((sl (Uy (cl v0 v2 1) v4) 0).toInt=1) (
 cond ((sl (Uy (cl v0 v2 1) v4) 1).toBool) (
 .row [.int 1,(.int v2)]) (
 Jo v0 (.bool v1) (.int (IntKind.wrap .i64 (v2 + 1))) v3 v4)) (
 .row [])) (
 Jo v0 (.bool v1) (.int (IntKind.wrap .i64 (v2 + 1))) v3 v4))) (
 .row [.int 1,(.int (-1))]):=gw rfl rfl (cL (cL rfl (cg rfl (cQ rfl rfl) rfl)) rfl)
theorem tV (v0:D) (v1:Bool) (v2 v3:D):Um v0 (.bool v1) v2 v3 =
  cond ((sl (Ym v0 (.bool v1) v2 v3) 0).toInt=1) (
 .row [.int 1,(.bool (!decide ((sl (Ym v0 (.bool v1) v2 v3) 1).toInt < 0)))]) (
 .row []):=gw rfl rfl (cQ rfl rfl)
theorem nA (v0:D) (v1:Bool) (v2 v3:D) (v4:Bool) (v5:D) (v6:Bool) (v7:D) (v8:Bool) (v9:D) (v10:Bool) (v11 v12:Int) (v13 v14 v15:D) (v16 v17:Bool) (v18:D) (v19:Bool) (v20 v21 v22 v23 v24 v25:D) {F0 F1 F2:D} (h0:Yf v0 (.bool v1) v2 v3 (.bool v4) v5 (.bool v6) v7 (.bool v8) v9 (.bool v10) (.int v11) (.int v12) v13 v14 v15 (.bool v16) (.bool v17) v18 (.bool v19)=F0) (h1:Wk v0 (.bool v1) v2 (sl F0 1) (.bool v4) (.int (len v3:Int)) (sl F0 2) (.bool v6) (.int (len v5:Int)) (sl F0 3) (.bool v8) (.int (len v7:Int)) v9 (.bool v10) (.int v11) (.int v12) v13 v14 v15 (.bool v16) (.bool v17) v18 (.bool v19)=F1) (h2:Xf v0 (.bool v1) v2 (sl F0 1) (.bool v4) (.int (len v3:Int)) (sl F0 2) (.bool v6) (.int (len v5:Int)) (sl F0 3) (.bool v8) (.int (len v7:Int)) v9 (.bool v10) (.int v11) (.int v12) v13 v14 v15 (.bool v16) (.bool v17) v18 (.bool v19)=F2):N4 v0 (.bool v1) v2 v3 (.bool v4) v5 (.bool v6) v7 (.bool v8) v9 (.bool v10) (.int v11) (.int v12) v13 v14 v15 (.bool v16) (.bool v17) v18 (.bool v19) v20 v21 v22 v23 v24 v25 =
  cond ((sl F0 0).toInt=1) (
 cond ((sl F1 0).toInt=1) (
 cond ((sl (G3 (sl F1 1) (sl F1 2) (sl F1 3) (sl F1 4) v20 v21 v22 v23 v24 v25) 0).toInt=1) (
 cond ((sl (G3 (sl F1 1) (sl F1 2) (sl F1 3) (sl F1 4) v20 v21 v22 v23 v24 v25) 2).toInt=0) (
 cond ((sl F2 0).toInt=1) (
 HF (ad Ar (.row [(sl F2 1),(sl F2 2),Aw])) (.bool false) (.int (-1)) (.int 0) v2 (.int (len v3:Int)) (.bool v4) (.int (len v5:Int)) (.bool v6) (.int (len v7:Int)) (.bool v8) v9 (.bool v10) (.int v11) (.bool v17) v18 (.bool v19) v0 (.bool v1) (sl F0 1) (sl F0 2) (sl F0 3) (.int v12) v14 v15 (.bool v16) v13 v20 v21 v22 v23 v24 v25 (sl F1 1) (sl F1 2) (sl F1 3) (sl F1 4)) (
 .row [])) (
 .row [.int 1,(sl (G3 (sl F1 1) (sl F1 2) (sl F1 3) (sl F1 4) v20 v21 v22 v23 v24 v25) 2),(sl F0 1),(sl F0 2),(sl F0 3)])) (
 .row [])) (
 .row [])) (
 .row []):=by
  subst h0;subst h1;subst h2;exact gw rfl rfl (cQ (cQ (cQ (cQ (cQ rfl rfl) rfl) rfl) rfl) rfl)
theorem cA (v0:D) (v1:Bool) (v2 v3:Int) (v4 v5:D) (v6:Bool) (v7:D) (v8:Bool) (v9:D) (v10:Bool) (v11:D) (v12:Bool) (v13:Int) (v14:Bool) (v15:D) (v16:Bool) (v17:D) (v18:Bool) (v19 v20 v21:D) (v22:Int) (v23 v24:D) (v25:Bool) (v26 v27 v28 v29 v30 v31 v32 v33 v34 v35 v36:D):HF v0 (.bool v1) (.int v2) (.int v3) v4 v5 (.bool v6) v7 (.bool v8) v9 (.bool v10) v11 (.bool v12) (.int v13) (.bool v14) v15 (.bool v16) v17 (.bool v18) v19 v20 v21 (.int v22) v23 v24 (.bool v25) v26 v27 v28 v29 v30 v31 v32 v33 v34 v35 v36 =
  cond (v3 < len v0) (
 cond (v3 < 0) (
 .row []) (
 cond ((sl (QP v33 v34 v35 v36 v27 v28 v29 v30 v31 v32 (cl v0 v3 0) (cl v0 v3 1)) 0).toInt=1) (
 cond ((sl (QP v33 v34 v35 v36 v27 v28 v29 v30 v31 v32 (cl v0 v3 0) (cl v0 v3 1)) 3).toInt=0) (
 cond (v2 < 0) (
 cond ((sl (CZ v33 v34 v35 v36 (cl v0 v3 0) (cl v0 v3 1)) 0).toInt=1) (
 G9 v0 (.bool v1) (.int v3) (.int v3) (sl (CZ v33 v34 v35 v36 (cl v0 v3 0) (cl v0 v3 1)) 1) (sl (CZ v33 v34 v35 v36 (cl v0 v3 0) (cl v0 v3 1)) 2) (.int (len (sl (CZ v33 v34 v35 v36 (cl v0 v3 0) (cl v0 v3 1)) 1):Int)) (.int 0) v4 v5 (.bool v6) v7 (.bool v8) v9 (.bool v10) v11 (.bool v12) (.int v13) (.bool v14) v15 (.bool v16) v17 (.bool v18) v19 v20 v21 (.int v22) v23 v24 (.bool v25) v26 v27 v28 v29 v30 v31 v32 v33 v34 v35 v36) (
 .row [])) (
 cond ((sl (CZ v33 v34 v35 v36 (cl v0 v3 0) (cl v0 v3 1)) 0).toInt=1) (
 G9 v0 (.bool v1) (.int v2) (.int v3) (sl (CZ v33 v34 v35 v36 (cl v0 v3 0) (cl v0 v3 1)) 1) (sl (CZ v33 v34 v35 v36 (cl v0 v3 0) (cl v0 v3 1)) 2) (.int (len (sl (CZ v33 v34 v35 v36 (cl v0 v3 0) (cl v0 v3 1)) 1):Int)) (.int 0) v4 v5 (.bool v6) v7 (.bool v8) v9 (.bool v10) v11 (.bool v12) (.int v13) (.bool v14) v15 (.bool v16) v17 (.bool v18) v19 v20 v21 (.int v22) v23 v24 (.bool v25) v26 v27 v28 v29 v30 v31 v32 v33 v34 v35 v36) (
 .row []))) (
 cond ((sl (CZ v33 v34 v35 v36 (cl v0 v3 0) (cl v0 v3 1)) 0).toInt=1) (
 G9 v0 (.bool v1) (.int v2) (.int v3) (sl (CZ v33 v34 v35 v36 (cl v0 v3 0) (cl v0 v3 1)) 1) (sl (CZ v33 v34 v35 v36 (cl v0 v3 0) (cl v0 v3 1)) 2) (.int (len (sl (CZ v33 v34 v35 v36 (cl v0 v3 0) (cl v0 v3 1)) 1):Int)) (.int 0) v4 v5 (.bool v6) v7 (.bool v8) v9 (.bool v10) v11 (.bool v12) (.int v13) (.bool v14) v15 (.bool v16) v17 (.bool v18) v19 v20 v21 (.int v22) v23 v24 (.bool v25) v26 v27 v28 v29 v30 v31 v32 v33 v34 v35 v36) (
 .row []))) (
 .row []))) (
 cond (2000 < (len v0:Int)) (
 .row [.int 1,(.int 7),v19,v20,v21]) (
 cond (v2 < 0) (
 .row [.int 1,(.int 9),v19,v20,v21]) (
 cond (v2 < len v0) (
 .row [.int 2,(cl v0 v2 2),v19,v20,v21]) (
 .row [])))):=gw rfl rfl (cL (cL rfl (cQ (cQ (cL (cQ rfl rfl) (cQ rfl rfl)) (cQ rfl rfl)) rfl)) (cL rfl rfl))
theorem bI (v0:D) (v1:Bool) (v2 v3:Int) (v4:D) (v5:Bool) (v6 v7:Int) (v8 v9:D) (v10:Bool) (v11:D) (v12:Bool) (v13:D) (v14:Bool) (v15:D) (v16:Bool) (v17:Int) (v18:Bool) (v19:D) (v20:Bool) (v21:D) (v22:Bool) (v23 v24 v25:D) (v26:Int) (v27 v28:D) (v29:Bool) (v30 v31 v32 v33 v34 v35 v36 v37 v38 v39 v40:D):G9 v0 (.bool v1) (.int v2) (.int v3) v4 (.bool v5) (.int v6) (.int v7) v8 v9 (.bool v10) v11 (.bool v12) v13 (.bool v14) v15 (.bool v16) (.int v17) (.bool v18) v19 (.bool v20) v21 (.bool v22) v23 v24 v25 (.int v26) v27 v28 (.bool v29) v30 v31 v32 v33 v34 v35 v36 v37 v38 v39 v40 =
  cond (v7 < v6) (
 cond (v7 < 0) (
 .row []) (
 cond (v7 < len v4) (
 cond (v3 < 0) (
 .row []) (
 cond (v3 < len v0) (
 cond ((sl (EL v37 v38 v39 v40 (cl v0 v3 0) (cl v0 v3 1) (cl v4 v7 0)) 0).toInt=1) (
 cond ((sl (Um v0 (.bool v1) (sl (EL v37 v38 v39 v40 (cl v0 v3 0) (cl v0 v3 1) (cl v4 v7 0)) 1) (sl (EL v37 v38 v39 v40 (cl v0 v3 0) (cl v0 v3 1) (cl v4 v7 0)) 2)) 0).toInt=1) (
 cond ((sl (Um v0 (.bool v1) (sl (EL v37 v38 v39 v40 (cl v0 v3 0) (cl v0 v3 1) (cl v4 v7 0)) 1) (sl (EL v37 v38 v39 v40 (cl v0 v3 0) (cl v0 v3 1) (cl v4 v7 0)) 2)) 1).toBool) (
 cond (2000 < (len v0:Int)) (
 .row [.int 1,(.int 7),v23,v24,v25]) (
 G9 v0 (.bool v1) (.int v2) (.int v3) v4 (.bool v5) (.int v6) (.int (IntKind.wrap .i64 (v7 + 1))) v8 v9 (.bool v10) v11 (.bool v12) v13 (.bool v14) v15 (.bool v16) (.int v17) (.bool v18) v19 (.bool v20) v21 (.bool v22) v23 v24 v25 (.int v26) v27 v28 (.bool v29) v30 v31 v32 v33 v34 v35 v36 v37 v38 v39 v40)) (
 cond ((cl v0 v3 2).isNil) (
 cond ((len v0:Int) < 1073741824) (
 cond (2000 < (len (ad v0 (.row [(sl (EL v37 v38 v39 v40 (cl v0 v3 0) (cl v0 v3 1) (cl v4 v7 0)) 1),(sl (EL v37 v38 v39 v40 (cl v0 v3 0) (cl v0 v3 1) (cl v4 v7 0)) 2),(ad Ar (.row [(cl v4 v7 0)]))])):Int)) (
 .row [.int 1,(.int 7),v23,v24,v25]) (
 G9 (ad v0 (.row [(sl (EL v37 v38 v39 v40 (cl v0 v3 0) (cl v0 v3 1) (cl v4 v7 0)) 1),(sl (EL v37 v38 v39 v40 (cl v0 v3 0) (cl v0 v3 1) (cl v4 v7 0)) 2),(ad Ar (.row [(cl v4 v7 0)]))])) (.bool false) (.int v2) (.int v3) v4 (.bool v5) (.int v6) (.int (IntKind.wrap .i64 (v7 + 1))) v8 v9 (.bool v10) v11 (.bool v12) v13 (.bool v14) v15 (.bool v16) (.int v17) (.bool v18) v19 (.bool v20) v21 (.bool v22) v23 v24 v25 (.int v26) v27 v28 (.bool v29) v30 v31 v32 v33 v34 v35 v36 v37 v38 v39 v40)) (
 .row [])) (
 cond ((len (cl v0 v3 2):Int) < 1048576) (
 cond ((len (ct Ar (cl v0 v3 2)):Int) < 1073741824) (
 cond ((len v0:Int) < 1073741824) (
 cond (2000 < (len (ad v0 (.row [(sl (EL v37 v38 v39 v40 (cl v0 v3 0) (cl v0 v3 1) (cl v4 v7 0)) 1),(sl (EL v37 v38 v39 v40 (cl v0 v3 0) (cl v0 v3 1) (cl v4 v7 0)) 2),(ni (ad (ct Ar (cl v0 v3 2)) (.row [(cl v4 v7 0)])) (((false && decide ((len (cl v0 v3 2):Int)=0)) && decide (1=0))))])):Int)) (
 .row [.int 1,(.int 7),v23,v24,v25]) (
 G9 (ad v0 (.row [(sl (EL v37 v38 v39 v40 (cl v0 v3 0) (cl v0 v3 1) (cl v4 v7 0)) 1),(sl (EL v37 v38 v39 v40 (cl v0 v3 0) (cl v0 v3 1) (cl v4 v7 0)) 2),(ni (ad (ct Ar (cl v0 v3 2)) (.row [(cl v4 v7 0)])) false)])) (.bool false) (.int v2) (.int v3) v4 (.bool v5) (.int v6) (.int (IntKind.wrap .i64 (v7 + 1))) v8 v9 (.bool v10) v11 (.bool v12) v13 (.bool v14) v15 (.bool v16) (.int v17) (.bool v18) v19 (.bool v20) v21 (.bool v22) v23 v24 v25 (.int v26) v27 v28 (.bool v29) v30 v31 v32 v33 v34 v35 v36 v37 v38 v39 v40)) (
 .row [])) (
 .row [])) (
 .row [])))) (
 .row [])) (
 .row [])) (
 .row []))) (
 .row []))) (
 HF v0 (.bool v1) (.int v2) (.int (IntKind.wrap .i64 (v3 + 1))) v8 v9 (.bool v10) v11 (.bool v12) v13 (.bool v14) v15 (.bool v16) (.int v17) (.bool v18) v19 (.bool v20) v21 (.bool v22) v23 v24 v25 (.int v26) v27 v28 (.bool v29) v30 v31 v32 v33 v34 v35 v36 v37 v38 v39 v40):=gw rfl rfl (cL (cL rfl (cL (cL rfl (cL (cQ (cQ (cg rfl (cL rfl rfl) (cg rfl (cL (cL rfl rfl) rfl) (cL (cL (cL (cL rfl rfl) rfl) rfl) rfl))) rfl) rfl) rfl)) rfl)) rfl)
theorem qP (v0 v1 v2 v3 v4:D) (v5:Int) (v6 v7:D) (v8:Int) (v9:D):Ww v0 v1 v2 v3 v4 (.int v5) v6 v7 (.int v8) v9 =
  cond ((len v7:Int) < 1048576) (
 .row [.int 1,v4,(ni (ct Aw v7) (decide ((len v7:Int)=0)))]) (
 .row []):=gw rfl rfl (cL rfl rfl)
theorem gI (v0 v1 v2 v3 v4:D):KI v0 v1 v2 v3 v4 =
 Uq v4 (.int 0) v0 v1 v2 v3:=gw rfl rfl rfl
theorem lY (v0:D) (v1:Int) (v2 v3 v4 v5:D):Uq v0 (.int v1) v2 v3 v4 v5 =
  cond (v1 < len v3) (
 cond (v1 < 0) (
 .row []) (
 cond (D.strEq (cl v3 v1 0) v0) (
 .row [.int 1,(.int v1)]) (
 Uq v0 (.int (IntKind.wrap .i64 (v1 + 1))) v2 v3 v4 v5))) (
 .row [.int 1,(.int (-1))]):=gw rfl rfl rfl
theorem sP (v0 v1 v2 v3 v4:D):BT v0 v1 v2 v3 v4 =
 Up v4 (.int 0) v0 v1 v2 v3:=gw rfl rfl rfl
theorem km (v0:D) (v1:Int) (v2 v3 v4 v5:D):Up v0 (.int v1) v2 v3 v4 v5 =
  cond (v1 < len v4) (
 cond (v1 < 0) (
 .row []) (
 cond (D.strEq (cl v4 v1 0) v0) (
 .row [.int 1,(.int v1)]) (
 Up v0 (.int (IntKind.wrap .i64 (v1 + 1))) v2 v3 v4 v5))) (
 .row [.int 1,(.int (-1))]):=gw rfl rfl rfl
theorem tj (v0 v1 v2 v3 v4 v5 v6 v7 v8 v9:D):Qg v0 v1 v2 v3 v4 v5 v6 v7 v8 v9 =
  cond ((sl (HO v0 v1 v2 v3) 0).toInt=1) (
 cond ((sl (HO v0 v1 v2 v3) 2).toInt=0) (
 cond ((sl (HO v4 v5 v6 v7) 0).toInt=1) (
 cond ((sl (HO v4 v5 v6 v7) 2).toInt=0) (
 cond (24 < (len v8:Int)) (
 .row [.int 1,(.int 24),(.int 490)]) (
 Iq (.int 0) v0 v1 v2 v3 v4 v5 v6 v7 v8 v9)) (
 .row [.int 1,(.int 0),(.int 2)])) (
 .row [])) (
 .row [.int 1,(.int 0),(.int 2)])) (
 .row []):=gw rfl rfl (cQ (cQ (cQ (cQ rfl rfl) rfl) rfl) rfl)
theorem bj (v0:Int) (v1 v2 v3 v4 v5 v6 v7 v8 v9 v10:D):Iq (.int v0) v1 v2 v3 v4 v5 v6 v7 v8 v9 v10 =
  cond (v0 < len v9) (
 cond (v0 < 0) (
 .row []) (
 cond ((sl (KI v1 v2 v3 v4 (cl v9 v0 0)) 0).toInt=1) (
 cond ((sl (KI v1 v2 v3 v4 (cl v9 v0 0)) 1).toInt < 0) (
 Hi (.int v0) (.bool true) (.int 0) v1 v2 v3 v4 v5 v6 v7 v8 v9 v10) (
 cond ((sl (KI v5 v6 v7 v8 (cl v9 v0 1)) 0).toInt=1) (
 Hi (.int v0) (.bool (decide ((sl (KI v5 v6 v7 v8 (cl v9 v0 1)) 1).toInt < 0))) (.int 0) v1 v2 v3 v4 v5 v6 v7 v8 v9 v10) (
 .row []))) (
 .row []))) (
 cond (4 < (len v10:Int)) (
 .row [.int 1,(.int 4),(.int 491)]) (
 HG (.int 0) v1 v2 v3 v4 v5 v6 v7 v8 v9 v10)):=gw rfl rfl (cL (cL rfl (cQ (cL rfl (cQ rfl rfl)) rfl)) rfl)
theorem bJ (v0:Int) (v1:Bool) (v2:Int) (v3 v4 v5 v6 v7 v8 v9 v10 v11 v12:D):Hi (.int v0) (.bool v1) (.int v2) v3 v4 v5 v6 v7 v8 v9 v10 v11 v12 =
  cond (v2 < v0) (
 cond (v1) (
 Hi (.int v0) (.bool true) (.int (IntKind.wrap .i64 (v2 + 1))) v3 v4 v5 v6 v7 v8 v9 v10 v11 v12) (
 cond (v2 < 0) (
 .row []) (
 cond (v2 < len v11) (
 cond (v0 < 0) (
 .row []) (
 cond (v0 < len v11) (
 Hi (.int v0) (.bool (D.strEq (cl v11 v2 0) (cl v11 v0 0))) (.int (IntKind.wrap .i64 (v2 + 1))) v3 v4 v5 v6 v7 v8 v9 v10 v11 v12) (
 .row []))) (
 .row [])))) (
 cond (v1) (
 .row [.int 1,(.int v0),(.int 490)]) (
 Iq (.int (IntKind.wrap .i64 (v0 + 1))) v3 v4 v5 v6 v7 v8 v9 v10 v11 v12)):=gw rfl rfl rfl
theorem cM (v0:Int) (v1 v2 v3 v4 v5 v6 v7 v8 v9 v10:D):HG (.int v0) v1 v2 v3 v4 v5 v6 v7 v8 v9 v10 =
  cond (v0 < len v10) (
 cond (v0 < 0) (
 .row []) (
 cond ((sl (BT v5 v6 v7 v8 (cl v10 v0 0)) 0).toInt=1) (
 cond ((sl (BT v5 v6 v7 v8 (cl v10 v0 0)) 1).toInt < 0) (
 Em (.int v0) (.bool true) (.int 0) v1 v2 v3 v4 v5 v6 v7 v8 v9 v10 (cl v10 v0 0) (cl v10 v0 1) (cl v10 v0 2)) (
 cond (eqC (cl v10 v0 1) 0 0) (
 cond (1000 < (cl v10 v0 2).toInt) (
 Em (.int v0) (.bool true) (.int 0) v1 v2 v3 v4 v5 v6 v7 v8 v9 v10 (cl v10 v0 0) (cl v10 v0 1) (cl v10 v0 2)) (
 Em (.int v0) (.bool (decide ((cl v10 v0 2).toInt < (-1000)))) (.int 0) v1 v2 v3 v4 v5 v6 v7 v8 v9 v10 (cl v10 v0 0) (cl v10 v0 1) (cl v10 v0 2))) (
 cond ((sl (BT v1 v2 v3 v4 (cl v10 v0 1)) 0).toInt=1) (
 cond ((sl (BT v1 v2 v3 v4 (cl v10 v0 1)) 1).toInt < 0) (
 Em (.int v0) (.bool true) (.int 0) v1 v2 v3 v4 v5 v6 v7 v8 v9 v10 (cl v10 v0 0) (cl v10 v0 1) (cl v10 v0 2)) (
 cond (1000 < (cl v10 v0 2).toInt) (
 Em (.int v0) (.bool true) (.int 0) v1 v2 v3 v4 v5 v6 v7 v8 v9 v10 (cl v10 v0 0) (cl v10 v0 1) (cl v10 v0 2)) (
 Em (.int v0) (.bool (decide ((cl v10 v0 2).toInt < (-1000)))) (.int 0) v1 v2 v3 v4 v5 v6 v7 v8 v9 v10 (cl v10 v0 0) (cl v10 v0 1) (cl v10 v0 2)))) (
 .row [])))) (
 .row []))) (
 .row [.int 1,(.int 0),(.int 0)]):=gw rfl rfl (cL (cL rfl (cQ (cL rfl (cg rfl (cL rfl rfl) (cQ (cL rfl (cL rfl rfl)) rfl))) rfl)) rfl)
theorem cB (v0:Int) (v1:Bool) (v2:Int) (v3 v4 v5 v6 v7 v8 v9 v10 v11 v12 v13 v14:D) (v15:Int):Em (.int v0) (.bool v1) (.int v2) v3 v4 v5 v6 v7 v8 v9 v10 v11 v12 v13 v14 (.int v15) =
  cond (v2 < v0) (
 cond (v1) (
 Em (.int v0) (.bool true) (.int (IntKind.wrap .i64 (v2 + 1))) v3 v4 v5 v6 v7 v8 v9 v10 v11 v12 v13 v14 (.int v15)) (
 cond (v2 < 0) (
 .row []) (
 cond (v2 < len v12) (
 Em (.int v0) (.bool (D.strEq (cl v12 v2 0) v13)) (.int (IntKind.wrap .i64 (v2 + 1))) v3 v4 v5 v6 v7 v8 v9 v10 v11 v12 v13 v14 (.int v15)) (
 .row [])))) (
 cond (v1) (
 .row [.int 1,(.int v0),(.int 491)]) (
 HG (.int (IntKind.wrap .i64 (v0 + 1))) v3 v4 v5 v6 v7 v8 v9 v10 v11 v12)):=gw rfl rfl rfl
theorem pa (v0 v1 v2 v3 v4 v5:D):QS v0 v1 v2 v3 v4 v5 =
 FU Aw (.bool true) (.int 0) v0 v1 v2 v3 v4 v5:=gw rfl rfl rfl
theorem bT (v0:D) (v1:Bool) (v2:Int) (v3 v4 v5 v6 v7 v8:D):FU v0 (.bool v1) (.int v2) v3 v4 v5 v6 v7 v8 =
  cond (v2 < len v6) (
 cond (v2 < 0) (
 .row []) (
 cond ((sl (BT v3 v4 v5 v6 (cl v6 v2 5)) 0).toInt=1) (
 cond (D.strEq (cl v6 v2 0) v7) (
 cond ((sl (BT v3 v4 v5 v6 (cl v6 v2 5)) 1).toInt < 0) (
 cond ((len v0:Int) < 1073741824) (
 FU (ad v0 (.row [(.int v2)])) (.bool false) (.int (IntKind.wrap .i64 (v2 + 1))) v3 v4 v5 v6 v7 v8) (
 .row [])) (
 cond ((sl (BT v3 v4 v5 v6 (cl v6 v2 5)) 1).toInt < len v8) (
 cond ((cl v8 (sl (BT v3 v4 v5 v6 (cl v6 v2 5)) 1).toInt 0).toInt < (cl v6 v2 6).toInt) (
 FU v0 (.bool v1) (.int (IntKind.wrap .i64 (v2 + 1))) v3 v4 v5 v6 v7 v8) (
 cond ((cl v6 v2 7).toInt < (cl v8 (sl (BT v3 v4 v5 v6 (cl v6 v2 5)) 1).toInt 0).toInt) (
 FU v0 (.bool v1) (.int (IntKind.wrap .i64 (v2 + 1))) v3 v4 v5 v6 v7 v8) (
 cond ((len v0:Int) < 1073741824) (
 FU (ad v0 (.row [(.int v2)])) (.bool false) (.int (IntKind.wrap .i64 (v2 + 1))) v3 v4 v5 v6 v7 v8) (
 .row [])))) (
 .row []))) (
 FU v0 (.bool v1) (.int (IntKind.wrap .i64 (v2 + 1))) v3 v4 v5 v6 v7 v8)) (
 .row []))) (
 .row [.int 1,v0,(.bool v1)]):=gw rfl rfl (cL (cL rfl (cQ (cg rfl (cL (cL rfl rfl) (cL (cL rfl (cL rfl (cL rfl rfl))) rfl)) rfl) rfl)) rfl)
theorem kN (v0 v1 v2 v3 v4 v5:D) (v6:Int):Fr v0 v1 v2 v3 v4 v5 (.int v6) =
  cond (v6 < 0) (
 .row []) (
 cond (v6 < len v3) (
 cond ((len v5:Int) < 1048576) (
 cond ((sl (BT v0 v1 v2 v3 (cl v3 v6 5)) 0).toInt=1) (
 cond ((sl (BT v0 v1 v2 v3 (cl v3 v6 5)) 1).toInt < 0) (
 .row [.int 1,(cl v3 v6 1),(ni (ct Aw v5) (decide ((len v5:Int)=0)))]) (
 cond ((sl (BT v0 v1 v2 v3 (cl v3 v6 5)) 1).toInt < len (ct Aw v5)) (
 .row [.int 1,(cl v3 v6 1),(ni (upd (ct Aw v5) (sl (BT v0 v1 v2 v3 (cl v3 v6 5)) 1).toInt 0 (.int (IntKind.wrap .i64 ((cl (ct Aw v5) (sl (BT v0 v1 v2 v3 (cl v3 v6 5)) 1).toInt 0).toInt + (cl v3 v6 8).toInt)))) (decide ((len v5:Int)=0)))]) (
 .row []))) (
 .row [])) (
 .row [])) (
 .row [])):=gw rfl rfl (cL rfl (cL (cL (cQ (cL rfl (cL rfl rfl)) rfl) rfl) rfl))
theorem jm (v0 v1 v2 v3:D):S6 v0 v1 v2 v3 =
  cond (D.strEq v0 v2) (
 cond ((len v1:Int)=(len v3:Int)) (
 KF (.int 0) v0 v1 v2 v3) (
 .row [.int 1,(.bool false)])) (
 .row [.int 1,(.bool false)]):=gw rfl rfl (cg rfl (cQ rfl rfl) rfl)
theorem bX (v0:Int) (v1 v2 v3 v4:D):KF (.int v0) v1 v2 v3 v4 =
  cond (v0 < len v2) (
 cond (v0 < 0) (
 .row []) (
 cond (v0 < len v4) (
 cond ((cl v2 v0 0).toInt=(cl v4 v0 0).toInt) (
 KF (.int (IntKind.wrap .i64 (v0 + 1))) v1 v2 v3 v4) (
 .row [.int 1,(.bool false)])) (
 .row []))) (
 .row [.int 1,(.bool true)]):=gw rfl rfl (cL (cL rfl (cL (cQ rfl rfl) rfl)) rfl)
theorem i8 (v0:D) (v1:Bool) (v2 v3:D):Qi v0 (.bool v1) v2 v3 =
 Ko v0 (.bool v1) (.int 0) v2 v3:=gw rfl rfl rfl
theorem bb (v0:D) (v1:Bool) (v2:Int) (v3 v4:D):Ko v0 (.bool v1) (.int v2) v3 v4 =
  cond (v2 < len v0) (
 cond (v2 < 0) (
 .row []) (
 cond ((sl (S6 (cl v0 v2 0) (cl v0 v2 1) v3 v4) 0).toInt=1) (
 cond ((sl (S6 (cl v0 v2 0) (cl v0 v2 1) v3 v4) 1).toBool) (
 .row [.int 1,(.bool true)]) (
 Ko v0 (.bool v1) (.int (IntKind.wrap .i64 (v2 + 1))) v3 v4)) (
 .row []))) (
 .row [.int 1,(.bool false)]):=gw rfl rfl (cL (cL rfl (cQ rfl rfl)) rfl)
theorem gE (v0 v1 v2 v3 v4 v5:D):Iu v0 v1 v2 v3 v4 v5 =
 J2 (ad Ar (.row [v4,v5])) (.bool false) (ad Ar (.row [Aw])) (.bool false) (.int 0) v0 v1 v2 v3:=gw rfl rfl rfl
theorem cH (v0:D) (v1:Bool) (v2:D) (v3:Bool) (v4:Int) (v5 v6 v7 v8:D):J2 v0 (.bool v1) v2 (.bool v3) (.int v4) v5 v6 v7 v8 =
  cond (v4 < len v0) (
 cond (v4 < 0) (
 .row []) (
 cond ((sl (QS v5 v6 v7 v8 (cl v0 v4 0) (cl v0 v4 1)) 0).toInt=1) (
 KG v0 (.bool v1) v2 (.bool v3) (.int v4) (sl (QS v5 v6 v7 v8 (cl v0 v4 0) (cl v0 v4 1)) 1) (sl (QS v5 v6 v7 v8 (cl v0 v4 0) (cl v0 v4 1)) 2) (.int 0) v5 v6 v7 v8) (
 .row []))) (
 .row [.int 1,v0,(.bool v1),v2,(.bool v3),(.bool true)]):=gw rfl rfl (cL (cL rfl (cQ rfl rfl)) rfl)
theorem bO (v0:D) (v1:Bool) (v2:D) (v3:Bool) (v4:Int) (v5:D) (v6:Bool) (v7:Int) (v8 v9 v10 v11:D):KG v0 (.bool v1) v2 (.bool v3) (.int v4) v5 (.bool v6) (.int v7) v8 v9 v10 v11 =
  cond (v7 < len v5) (
 cond (v4 < 0) (
 .row []) (
 cond (v4 < len v0) (
 cond (v7 < 0) (
 .row []) (
 cond ((sl (Fr v8 v9 v10 v11 (cl v0 v4 0) (cl v0 v4 1) (cl v5 v7 0)) 0).toInt=1) (
 cond ((sl (Qi v0 (.bool v1) (sl (Fr v8 v9 v10 v11 (cl v0 v4 0) (cl v0 v4 1) (cl v5 v7 0)) 1) (sl (Fr v8 v9 v10 v11 (cl v0 v4 0) (cl v0 v4 1) (cl v5 v7 0)) 2)) 0).toInt=1) (
 cond ((sl (Qi v0 (.bool v1) (sl (Fr v8 v9 v10 v11 (cl v0 v4 0) (cl v0 v4 1) (cl v5 v7 0)) 1) (sl (Fr v8 v9 v10 v11 (cl v0 v4 0) (cl v0 v4 1) (cl v5 v7 0)) 2)) 1).toBool) (
 cond (2000 < (len v0:Int)) (
 .row [.int 1,Aw,(.bool true),Aw,(.bool true),(.bool false)]) (
 KG v0 (.bool v1) v2 (.bool v3) (.int v4) v5 (.bool v6) (.int (IntKind.wrap .i64 (v7 + 1))) v8 v9 v10 v11)) (
 cond ((len v0:Int) < 1073741824) (
 cond (v4 < len v2) (
 cond ((len (cl v2 v4 0):Int) < 1048576) (
 cond ((len (ct Aw (cl v2 v4 0)):Int) < 1073741824) (
 cond ((len v2:Int) < 1073741824) (
 cond (2000 < (len (ad v0 (.row [(sl (Fr v8 v9 v10 v11 (cl v0 v4 0) (cl v0 v4 1) (cl v5 v7 0)) 1),(sl (Fr v8 v9 v10 v11 (cl v0 v4 0) (cl v0 v4 1) (cl v5 v7 0)) 2)])):Int)) (
 .row [.int 1,Aw,(.bool true),Aw,(.bool true),(.bool false)]) (
 KG (ad v0 (.row [(sl (Fr v8 v9 v10 v11 (cl v0 v4 0) (cl v0 v4 1) (cl v5 v7 0)) 1),(sl (Fr v8 v9 v10 v11 (cl v0 v4 0) (cl v0 v4 1) (cl v5 v7 0)) 2)])) (.bool false) (ad v2 (.row [(ni (ad (ct Aw (cl v2 v4 0)) (.row [(cl v5 v7 0)])) false)])) (.bool false) (.int v4) v5 (.bool v6) (.int (IntKind.wrap .i64 (v7 + 1))) v8 v9 v10 v11)) (
 .row [])) (
 .row [])) (
 .row [])) (
 .row [])) (
 .row []))) (
 .row [])) (
 .row []))) (
 .row []))) (
 J2 v0 (.bool v1) v2 (.bool v3) (.int (IntKind.wrap .i64 (v4 + 1))) v8 v9 v10 v11):=gw rfl rfl (cL (cL rfl (cL (cL rfl (cQ (cQ (cg rfl (cL rfl rfl) (cL (cL (cL (cL (cL (cL rfl rfl) rfl) rfl) rfl) rfl) rfl)) rfl) rfl)) rfl)) rfl)
theorem ph (v0 v1 v2 v3 v4 v5:D):TS v0 v1 v2 v3 v4 v5 =
  cond ((sl (KI v0 v1 v2 v3 v4) 0).toInt=1) (
 cond ((sl (KI v0 v1 v2 v3 v4) 1).toInt < 0) (
 .row [.int 1,(.bool false)]) (
 cond ((len v5:Int)=(len v2:Int)) (
 IY (.int 0) v0 v1 v2 v3 v4 v5) (
 .row [.int 1,(.bool false)]))) (
 .row []):=gw rfl rfl (cQ (cL rfl (cQ rfl rfl)) rfl)
theorem cx (v0:Int) (v1 v2 v3 v4 v5 v6:D):IY (.int v0) v1 v2 v3 v4 v5 v6 =
  cond (v0 < len v6) (
 cond (v0 < 0) (
 .row []) (
 cond ((cl v6 v0 0).toInt < 0) (
 .row [.int 1,(.bool false)]) (
 cond (v0 < len v3) (
 cond ((cl v3 v0 1).toInt < (cl v6 v0 0).toInt) (
 .row [.int 1,(.bool false)]) (
 IY (.int (IntKind.wrap .i64 (v0 + 1))) v1 v2 v3 v4 v5 v6)) (
 .row [])))) (
 .row [.int 1,(.bool true)]):=gw rfl rfl rfl
theorem sU (v0 v1 v2 v3 v4 v5 v6 v7 v8 v9 v10 v11:D):Qo v0 v1 v2 v3 v4 v5 v6 v7 v8 v9 v10 v11 =
  cond ((len v2:Int) < 1048577) (
 G2 (.bool false) (.int 0) v0 v1 v2 v3 v4 v5 v6 v7 v8 v9 v10 v11 (CN 0 0) (rp (len v2:Int) (.row [(.int 0)]))) (
 .row []):=gw rfl rfl (cL rfl rfl)
theorem bf (v0:Bool) (v1:Int) (v2 v3 v4 v5 v6 v7 v8 v9 v10 v11 v12 v13 v14 v15:D):G2 (.bool v0) (.int v1) v2 v3 v4 v5 v6 v7 v8 v9 v10 v11 v12 v13 v14 v15 =
  cond (v1 < len v10) (
 cond (v1 < 0) (
 .row []) (
 cond (D.strEq (cl v10 v1 0) v12) (
 G2 (.bool true) (.int (IntKind.wrap .i64 (v1 + 1))) v2 v3 v4 v5 v6 v7 v8 v9 v10 v11 v12 v13 (cl v10 v1 1) v15) (
 G2 (.bool v0) (.int (IntKind.wrap .i64 (v1 + 1))) v2 v3 v4 v5 v6 v7 v8 v9 v10 v11 v12 v13 v14 v15))) (
 cond (v0) (
 GR (.int 0) v2 v3 v4 v5 v6 v7 v8 v9 v10 v11 v12 v13 v14 v15) (
 .row [.int 1,(CN 0 0),Aw,(.int 9)])):=gw rfl rfl rfl
theorem cD (v0:Int) (v1 v2 v3 v4 v5 v6 v7 v8 v9 v10 v11 v12 v13 v14:D):GR (.int v0) v1 v2 v3 v4 v5 v6 v7 v8 v9 v10 v11 v12 v13 v14 =
  cond (v0 < len v10) (
 cond (v0 < 0) (
 .row []) (
 cond ((sl (BT v5 v6 v7 v8 (cl v10 v0 1)) 0).toInt=1) (
 cond ((sl (BT v5 v6 v7 v8 (cl v10 v0 1)) 1).toInt < 0) (
 cond ((sl (BT v1 v2 v3 v4 (cl v10 v0 0)) 0).toInt=1) (
 cond ((sl (BT v1 v2 v3 v4 (cl v10 v0 0)) 1).toInt < 0) (
 .row []) (
 cond ((sl (BT v1 v2 v3 v4 (cl v10 v0 0)) 1).toInt < len v14) (
 GR (.int (IntKind.wrap .i64 (v0 + 1))) v1 v2 v3 v4 v5 v6 v7 v8 v9 v10 v11 v12 v13 (upd v14 (sl (BT v1 v2 v3 v4 (cl v10 v0 0)) 1).toInt 0 (cl v10 v0 2))) (
 .row []))) (
 .row [])) (
 cond ((sl (BT v5 v6 v7 v8 (cl v10 v0 1)) 1).toInt < len v12) (
 cond ((sl (BT v1 v2 v3 v4 (cl v10 v0 0)) 0).toInt=1) (
 cond ((sl (BT v1 v2 v3 v4 (cl v10 v0 0)) 1).toInt < 0) (
 .row []) (
 cond ((sl (BT v1 v2 v3 v4 (cl v10 v0 0)) 1).toInt < len v14) (
 GR (.int (IntKind.wrap .i64 (v0 + 1))) v1 v2 v3 v4 v5 v6 v7 v8 v9 v10 v11 v12 v13 (upd v14 (sl (BT v1 v2 v3 v4 (cl v10 v0 0)) 1).toInt 0 (.int (IntKind.wrap .i64 ((cl v10 v0 2).toInt + (cl v12 (sl (BT v5 v6 v7 v8 (cl v10 v0 1)) 1).toInt 0).toInt))))) (
 .row []))) (
 .row [])) (
 .row []))) (
 .row []))) (
 cond ((sl (TS v1 v2 v3 v4 v13 (ni v14 false)) 0).toInt=1) (
 cond ((sl (TS v1 v2 v3 v4 v13 (ni v14 false)) 1).toBool) (
 .row [.int 1,v13,(ni v14 false),(.int 0)]) (
 .row [.int 1,(CN 0 0),Aw,(.int 3)])) (
 .row [])):=gw rfl rfl (cL (cL rfl (cQ (cL (cQ rfl rfl) (cL (cQ rfl rfl) rfl)) rfl)) (cQ rfl rfl))
theorem bz (v0 v1 v2 v3 v4 v5 v6 v7 v8 v9 v10 v11:D):QR v0 v1 v2 v3 v4 v5 v6 v7 v8 v9 v10 v11 =
  cond ((sl (Qg v0 v1 v2 v3 v6 v7 v8 v9 v10 v11) 0).toInt=1) (
 cond ((sl (Qg v0 v1 v2 v3 v6 v7 v8 v9 v10 v11) 2).toInt=0) (
 cond ((sl (Iu v0 v1 v2 v3 v4 v5) 0).toInt=1) (
 cond ((sl (Iu v0 v1 v2 v3 v4 v5) 5).toBool) (
 Kr (sl (Iu v0 v1 v2 v3 v4 v5) 1) (sl (Iu v0 v1 v2 v3 v4 v5) 2) (sl (Iu v0 v1 v2 v3 v4 v5) 3) (sl (Iu v0 v1 v2 v3 v4 v5) 4) (.int 0) v0 v1 v2 v3 v6 v7 v8 v9 v10 v11) (
 .row [.int 1,(.int 7)])) (
 .row [])) (
 .row [.int 1,(sl (Qg v0 v1 v2 v3 v6 v7 v8 v9 v10 v11) 2)])) (
 .row []):=gw rfl rfl (cQ (cQ (cQ rfl rfl) rfl) rfl)
theorem cj (v0:D) (v1:Bool) (v2:D) (v3:Bool) (v4:Int) (v5 v6 v7 v8 v9 v10 v11 v12 v13 v14:D):Kr v0 (.bool v1) v2 (.bool v3) (.int v4) v5 v6 v7 v8 v9 v10 v11 v12 v13 v14 =
  cond (v4 < len v0) (
 cond (v4 < 0) (
 .row []) (
 cond ((sl (Qo v9 v10 v11 v12 v5 v6 v7 v8 v13 v14 (cl v0 v4 0) (cl v0 v4 1)) 0).toInt=1) (
 cond ((sl (Qo v9 v10 v11 v12 v5 v6 v7 v8 v13 v14 (cl v0 v4 0) (cl v0 v4 1)) 3).toInt=0) (
 cond (v4 < len v2) (
 .row [.int 2,(cl v2 v4 0)]) (
 .row [])) (
 Kr v0 (.bool v1) v2 (.bool v3) (.int (IntKind.wrap .i64 (v4 + 1))) v5 v6 v7 v8 v9 v10 v11 v12 v13 v14)) (
 .row []))) (
 .row [.int 1,(.int 9)]):=gw rfl rfl (cL (cL rfl (cQ (cQ rfl rfl) rfl)) rfl)
theorem sH (v0 v1 v2 v3 v4 v5 v6 v7 v8 v9 v10:D):cp v0 v1 v2 v3 v4 v5 v6 v7 v8 v9 v10 =
  cond ((sl (U5 v0 v1 v2 v3) 0).toInt=1) (
 cond ((sl (U5 v0 v1 v2 v3) 1).toBool) (
 cond ((sl (U5 v4 v5 v6 v7) 0).toInt=1) (
 cond ((sl (U5 v4 v5 v6 v7) 1).toBool) (
 cond ((sl (ag v8 v9) 0).toInt=1) (
 cond ((sl (ag v8 v9) 1).toBool) (
 cond (8 < (len v10:Int)) (
 cond ((sl (Ng) 0).toInt=1) (
 .row [.int 1,(.bool true)]) (
 .row [])) (
 cond ((sl (Cs v0 v1 v2 v3) 0).toInt=1) (
 cond ((sl (El v0 v1 v2 v3) 0).toInt=1) (
 cond (0=(sl (El v0 v1 v2 v3) 8).toInt) (
 cond ((sl (El v0 v1 v2 v3) 8).toInt=0) (
 QZ v10 (.int 0) v0 v1 v2 v3 v4 v5 v6 v7 v8 v9 (sl (El v0 v1 v2 v3) 1) (sl (El v0 v1 v2 v3) 2) (sl (El v0 v1 v2 v3) 3) (sl (El v0 v1 v2 v3) 4) (sl (El v0 v1 v2 v3) 5) (.int 0) (sl (El v0 v1 v2 v3) 6) (sl (El v0 v1 v2 v3) 7) (.int 0) Aw (sl (Cs v0 v1 v2 v3) 1) (sl (Cs v0 v1 v2 v3) 2) (sl (Cs v0 v1 v2 v3) 3) (sl (Cs v0 v1 v2 v3) 4) (sl (Cs v0 v1 v2 v3) 5) (sl (Cs v0 v1 v2 v3) 6) (sl (Cs v0 v1 v2 v3) 7) (sl (Cs v0 v1 v2 v3) 8) (sl (Cs v0 v1 v2 v3) 9) (sl (Cs v0 v1 v2 v3) 10) (.bool false) (sl (Cs v0 v1 v2 v3) 11) (.bool true) (sl (Cs v0 v1 v2 v3) 12) (sl (Cs v0 v1 v2 v3) 13) (.int 0) (sl (Cs v0 v1 v2 v3) 14) (sl (Cs v0 v1 v2 v3) 15) (sl (Cs v0 v1 v2 v3) 16) (sl (Cs v0 v1 v2 v3) 17)) (
 cond ((sl (Ng) 0).toInt=1) (
 .row [.int 1,(.bool true)]) (
 .row []))) (
 .row [.int 1,(.bool false)])) (
 .row [])) (
 cond ((sl (Cs v0 v1 v2 v3) 0).toInt=2) (
 cond ((sl (El v0 v1 v2 v3) 0).toInt=1) (
 cond ((sl (Cs v0 v1 v2 v3) 1).toInt=(sl (El v0 v1 v2 v3) 8).toInt) (
 cond ((sl (El v0 v1 v2 v3) 8).toInt=0) (
 .row []) (
 cond ((sl (Ng) 0).toInt=1) (
 .row [.int 1,(.bool true)]) (
 .row []))) (
 .row [.int 1,(.bool false)])) (
 .row [])) (
 .row [])))) (
 cond ((sl (Ng) 0).toInt=1) (
 .row [.int 1,(.bool true)]) (
 .row []))) (
 .row [])) (
 cond ((sl (Ng) 0).toInt=1) (
 .row [.int 1,(.bool true)]) (
 .row []))) (
 .row [])) (
 cond ((sl (Ng) 0).toInt=1) (
 .row [.int 1,(.bool true)]) (
 .row []))) (
 .row []):=gw rfl rfl (cQ (cg rfl (cQ (cg rfl (cQ (cg rfl (cL (cQ rfl rfl) (cQ (cQ (cQ (cQ rfl (cQ rfl rfl)) rfl) rfl) (cQ (cQ (cQ (cQ rfl (cQ rfl rfl)) rfl) rfl) rfl))) (cQ rfl rfl)) rfl) (cQ rfl rfl)) rfl) (cQ rfl rfl)) rfl)
theorem PX (v0:D) (v1:Int) (v2 v3 v4 v5 v6 v7 v8 v9 v10 v11 v12 v13 v14 v15 v16:D) (v17:Int) (v18 v19:D) (v20:Int) (v21 v22 v23:D) (v24:Bool) (v25:D) (v26:Bool) (v27:D) (v28:Bool) (v29:D) (v30:Bool) (v31:Int) (v32:Bool) (v33:D) (v34:Bool) (v35:D) (v36:Bool) (v37:Int) (v38 v39:D) (v40:Bool) (v41:D) {F0 F1 F2 F3 F4:D} (h0:PC v35 (.bool v36) v22 v23 (.bool v24) v25 (.bool v26) v27 (.bool v28) v29 (.bool v30) (.int v31) (.int v37) v41 v38 v39 (.bool v40) (.bool v32) v33 (.bool v34) (.int 0) (cl v0 v1 0)=F0) (h1:N4 v35 (.bool v36) v22 v23 (.bool v24) v25 (.bool v26) v27 (.bool v28) v29 (.bool v30) (.int v31) (.int v37) v41 v38 v39 (.bool v40) (.bool v32) v33 (.bool v34) v6 v7 v8 v9 v10 v11=F1) (h2:Ww v12 v13 v14 v15 v16 (.int v17) v18 v19 (.int v20) v21=F2) (h3:NO v12 v13 v14 v15 v16 (.int v17) v18 v19 (.int v20) v21 (.int 0) (cl v0 v1 0)=F3) (h4:QR v2 v3 v4 v5 (sl F2 1) (sl F2 2) v6 v7 v8 v9 v10 v11=F4):QZ v0 (.int v1) v2 v3 v4 v5 v6 v7 v8 v9 v10 v11 v12 v13 v14 v15 v16 (.int v17) v18 v19 (.int v20) v21 v22 v23 (.bool v24) v25 (.bool v26) v27 (.bool v28) v29 (.bool v30) (.int v31) (.bool v32) v33 (.bool v34) v35 (.bool v36) (.int v37) v38 v39 (.bool v40) v41 =
  cond (v1 < len v0) (
 cond (v1 < 0) (
 .row []) (
 cond ((sl F0 0).toInt=1) (
 cond ((sl F3 0).toInt=1) (
 QZ v0 (.int (IntKind.wrap .i64 (v1 + 1))) v2 v3 v4 v5 v6 v7 v8 v9 v10 v11 (sl F3 1) (sl F3 2) (sl F3 3) (sl F3 4) (sl F3 5) (sl F3 6) (sl F3 7) (sl F3 8) (sl F3 9) (sl F3 10) v22 v23 (.bool v24) v25 (.bool v26) v27 (.bool v28) (sl F0 2) (sl F0 3) (sl F0 4) (sl F0 5) (sl F0 6) (sl F0 7) (sl F0 8) (sl F0 9) (sl F0 12) (sl F0 13) (sl F0 11) (sl F0 14) (sl F0 10)) (
 .row [])) (
 .row []))) (
 cond ((sl F1 0).toInt=1) (
 cond ((sl F2 0).toInt=1) (
 cond ((sl F4 0).toInt=1) (
 cond ((sl F1 1).toInt=(sl F4 1).toInt) (
 J6 Aw Aw (.int 0)) (
 .row [.int 1,(.bool false)])) (
 cond ((sl F4 0).toInt=2) (
 cond ((sl F1 1).toInt=0) (
 cond (0=(len (sl F4 1):Int)) (
 J6 Aw (sl F4 1) (.int 0)) (
 .row [.int 1,(.bool false)])) (
 .row [.int 1,(.bool false)])) (
 .row []))) (
 .row [])) (
 cond ((sl F1 0).toInt=2) (
 cond ((sl F2 0).toInt=1) (
 cond ((sl F4 0).toInt=1) (
 cond (0=(sl F4 1).toInt) (
 cond ((len (sl F1 1):Int)=0) (
 J6 (sl F1 1) Aw (.int 0)) (
 .row [.int 1,(.bool false)])) (
 .row [.int 1,(.bool false)])) (
 cond ((sl F4 0).toInt=2) (
 cond ((len (sl F1 1):Int)=(len (sl F4 1):Int)) (
 J6 (sl F1 1) (sl F4 1) (.int 0)) (
 .row [.int 1,(.bool false)])) (
 .row []))) (
 .row [])) (
 .row []))):=by
  subst h0;subst h1;subst h2;subst h3;subst h4;exact gw rfl rfl (cL (cL rfl (cQ (cQ rfl rfl) rfl)) (cQ (cQ (cQ (cQ rfl rfl) (cQ (cQ (cQ rfl rfl) rfl) rfl)) rfl) (cQ (cQ (cQ (cQ (cQ rfl rfl) rfl) (cQ (cQ rfl rfl) rfl)) rfl) rfl)))
theorem bP (v0 v1:D) (v2:Int):J6 v0 v1 (.int v2) =
  cond (v2 < len v0) (
 cond (v2 < 0) (
 .row []) (
 cond (v2 < len v1) (
 cond ((cl v0 v2 0).toInt=(cl v1 v2 0).toInt) (
 J6 v0 v1 (.int (IntKind.wrap .i64 (v2 + 1)))) (
 .row [.int 1,(.bool false)])) (
 .row []))) (
 cond ((sl (Ng) 0).toInt=1) (
 .row [.int 1,(.bool true)]) (
 .row [])):=gw rfl rfl (cL (cL rfl (cL (cQ rfl rfl) rfl)) (cQ rfl rfl))
end
end Us
namespace Us
open Go Go.AE
theorem Ny (v:D) (i:Int):0≤sAt v i∧sAt v i < 256:=by
 unfold sAt;have:=((v.toStr.data.toList[i.toNat]?).getD 0).toNat_lt;omega
theorem Mk {v:D}:len (PY v)=BG v:=by
 show (List.map _ _).length=_;simp [BG]
theorem Ub {v:D} {i:Nat} (h:i < BG v):(cl (PY v) i 0).toInt=sAt v i:=by
 unfold cl sAt PY;have h':i < v.toStr.data.toList.length:=h;simp [D.rows,List.getD_eq_getElem?_getD,List.getElem?_eq_getElem h',D.cells,D.toInt]
theorem S5 {x:Int} (h0:0≤x) (h1:x < 256):IntKind.wrap .u8 x=x:=by
 simp only [IntKind.wrap,IntKind.bits,IntKind.signed];have:=Int.emod_eq_of_lt h0 h1
 simp_all
section
variable [Ao]
theorem NK {v:D} (hs:BG v≤32):∀(k i:Nat),i + k=BG v→1≤i→∃b,Sl (PY v) (.int (BG v:Nat)) (.int i)=.row [.int 1,.bool b]∧J1 v (.int i)=.row [.int 1,.bool b]
 | 0,i,hi,h1=>by
  refine ⟨true,?_,?_⟩
  ·rw [fL,ifF (by omega)]
  ·rw [WP,ifF (by omega)]
 | k + 1,i,hi,h1=>by
  obtain ⟨b,q1,q2⟩:=NK hs k (i + 1) (by omega) (by omega)
  have hr:=Ny v i;have hc:=Ub (v:=v) (i:=i) (by omega)
  have A:=fL (PY v) (BG v:Nat) (i:Int);have B:=WP v (i:Int);rw [hc,S5 hr.1 hr.2,Mk,AO (by omega) (by omega),show (i:Int) + 1=((i + 1:Nat):Int) by omega,q1,ifT (by omega),ifF (by omega),ifT (by omega)] at A
  rw [AO (by omega) (by omega),show (i:Int) + 1=((i + 1:Nat):Int) by omega,q2,ifT (by omega),ifF (by omega)] at B
  rw [A,B];have hi0:decide ((i:Int)=0)=false:=decide_eq_false (by omega)
  rw [hi0];simp only [cond_false];generalize sAt v i=c;by_cases c1:c < 97
  ·simp only [ifT c1];by_cases c2:c < 65
   ·simp only [ifT c2];by_cases c3:c < 48
    ·simp only [ifT c3];exact ⟨_,rfl,rfl⟩
    ·simp only [ifF c3];by_cases c4:57 < c
     ·simp only [ifT c4];exact ⟨_,rfl,rfl⟩
     ·simp only [ifF c4];exact ⟨_,rfl,rfl⟩
   ·simp only [ifF c2];by_cases c3:90 < c
    ·simp only [ifT c3];by_cases c4:c=95
     ·simp only [ifT c4];exact ⟨_,rfl,rfl⟩
     ·simp only [ifF c4];exact ⟨_,rfl,rfl⟩
    ·simp only [ifF c3];exact ⟨_,rfl,rfl⟩
  ·simp only [ifF c1];by_cases c2:122 < c
   ·simp only [ifT c2];exact ⟨_,by cases decide ((i:Int)=0)<;>rfl,rfl⟩
   ·simp only [ifF c2];exact ⟨_,rfl,rfl⟩
theorem TG (v:D):∃b,GM v=.row [.int 1,.bool b]∧DA v=.row [.int 1,.bool b]:=by
 rw [ui,bA];by_cases c1:(BG v:Int) < 1
 ·simp only [ifT c1];exact ⟨_,rfl,rfl⟩
 simp only [ifF c1];by_cases c2:32 < (BG v:Int)
 ·simp only [ifT c2];exact ⟨_,rfl,rfl⟩
 simp only [ifF c2];obtain ⟨b,q1,q2⟩:=NK (v:=v) (by omega) (BG v - 1) 1 (by omega) (Nat.le_refl _)
 have hr:=Ny v (0:Nat);have hc:=Ub (v:=v) (i:=0) (by omega)
 have A:=fL (PY v) (BG v:Nat) ((0:Nat):Int);have B:=WP v ((0:Nat):Int);rw [hc,S5 hr.1 hr.2,Mk,AO (by omega) (by omega),show ((0:Nat):Int) + 1=((1:Nat):Int) by omega,q1,ifT (by omega),ifF (by omega),ifT (by omega)] at A
 rw [AO (by omega) (by omega),show ((0:Nat):Int) + 1=((1:Nat):Int) by omega,q2,ifT (by omega),ifF (by omega)] at B
 have z:((0:Nat):Int)=0:=rfl;rw [z] at A B hr;rw [Mk,A,B];generalize sAt v 0=c;have hi0:decide ((0:Int)=0)=true:=rfl;rw [hi0];simp only [cond_true];by_cases c3:c=95
 ·subst c3;exact ⟨false,rfl,rfl⟩
 simp only [ifF c3];by_cases c4:c < 97
 ·simp only [ifT c4];by_cases c5:c < 65
  ·simp only [ifT c5];by_cases c6:c < 48
   ·simp only [ifT c6];exact ⟨_,rfl,rfl⟩
   ·simp only [ifF c6];by_cases c7:57 < c
    ·simp only [ifT c7];exact ⟨_,rfl,rfl⟩
    ·simp only [ifF c7];exact ⟨_,rfl,rfl⟩
  ·have c6:¬c < 48:=by omega
   have c7:57 < c:=by omega
   simp only [ifF c5,ifF c6,ifT c7];by_cases c8:90 < c
   ·simp only [ifT c8];exact ⟨_,rfl,rfl⟩
   ·simp only [ifF c8];exact ⟨_,rfl,rfl⟩
 ·have c6:¬c < 48:=by omega
  have c7:57 < c:=by omega
  simp only [ifF c4,ifF c6,ifT c7];by_cases c5:122 < c
  ·simp only [ifT c5];exact ⟨_,rfl,rfl⟩
  ·simp only [ifF c5];exact ⟨_,rfl,rfl⟩
end
end Us
namespace Us
open Go Go.AE
def fd (l key:D):Int:=fdG (fun j=>D.strEq (cl l j 0) key) (len l) 0
theorem B0 {l key:D}:fd l key < len l:=by
 have:=Fe (p:=fun j=>D.strEq (cl l j 0) key) (k:=len l) (i:=0)
 unfold fd;omega
theorem Ty {l key:D}:fd l key = -1∨0≤fd l key:=by
 have:=L4 (p:=fun j=>D.strEq (cl l j 0) key) (k:=len l) (i:=0)
 unfold fd;omega
theorem K8 {l:D} {i:Nat} (h:i < len l):0≤fd l (cl l i 0)∧fd l (cl l i 0)≤i:=OD (p:=fun j=>D.strEq (cl l j 0) (cl l i 0)) (Nat.zero_le _) (by omega) Ca
theorem Jr {l key:D} (h:0≤fd l key):D.strEq (cl l (fd l key) 0) key=true:=by
 have:=Jz (p:=fun j=>D.strEq (cl l j 0) key) (k:=len l) (i:=0) h
 have e:((fd l key).toNat:Int)=fd l key:=by omega
 rw [← e];exact this
theorem Ch {F:Int→D} {l key:D} (hn:len l < 4611686018427387904) (h:∀i:Int,F i=cond (decide (i < (len l:Int))) (cond (decide (i < 0)) (.row []) (cond (D.strEq (cl l i 0) key) (.row [.int 1,.int i]) (F (IntKind.wrap .i64 (i + 1))))) (.row [.int 1,.int (-1)])):F 0=.row [.int 1,.int (fd l key)]:=by
 refine find (F:=fun i=>F (i:Int)) (n:=len l) (bad:=fun j=>D.strEq (cl l j 0) key) (fun j hj=>?_) ?_
 ·show F (j:Int)=_;rw [h,ifT (by omega),ifF (by omega),A0 (by omega)]
 ·show F (len l:Int)=_;rw [h,ifF (by omega)]
section
variable [Ao]
variable {v0 v1 v2 v3 v4 v5:D}
theorem bx (hn:len v0 < 4611686018427387904) (k:D):XH v0 k=.row [.int 1,.int (fd v0 k)]:=(uL ..).trans (Ch (F:=fun i=>ZE v0 (.int i) k) hn fun i=>uU ..)
theorem bR (hn:len v0 < 4611686018427387904) (k:D):Ju v0 k=.row [.int 1,.int (fd v0 k)]:=(uv ..).trans (Ch (F:=fun i=>Zs v0 (.int i) k) hn fun i=>uG ..)
theorem YQ (hn:len v2 < 4611686018427387904) (k:D):Jg v0 v1 v2 v3 k=.row [.int 1,.int (fd v2 k)]:=(kf ..).trans (Ch (F:=fun i=>Tf k (.int i) v0 v1 v2 v3) hn fun i=>iK ..)
theorem YU (hn:len v1 < 4611686018427387904) (k:D):HN v0 v1 v2 v3 k=.row [.int 1,.int (fd v1 k)]:=(kh ..).trans (Ch (F:=fun i=>Un k (.int i) v0 v1 v2 v3) hn fun i=>gL ..)
def nm (v:D):Bool:=(sl (DA v) 1).toBool
theorem Tq (v:D):GM v=.row [.int 1,.bool (nm v)]:=by
 obtain ⟨b,q1,q2⟩:=TG v;rw [q1];unfold nm;rw [q2];rfl
theorem LO (v:D):DA v=.row [.int 1,.bool (nm v)]:=by
 obtain ⟨b,q1,q2⟩:=TG v;unfold nm;rw [q2];rfl
def IE (v2:D) (i:Nat):Bool:=!nm (cl v2 i 0) || decide (fd v2 (cl v2 i 0) < i) || decide ((cl v2 i 1).toInt < 1) || decide (1000 < (cl v2 i 1).toInt)
def IX (v1:D) (i:Nat):Bool:=!nm (cl v1 i 0) || decide (fd v1 (cl v1 i 0) < i) || decide ((cl v1 i 2).toInt < 0) || decide (1048576 < (cl v1 i 2).toInt)
theorem nc (hn:len v2 < 1000) (v0 v1 v3:D):YT (.int (len v2:Nat)) (.int 0) (.int 4) v0 v1 v2 v3=.row [.int 1,.int (cond (decide (4 < (len v2:Int))) 4 (fdG (IE v2) (len v2) 0))]:=by
 rw [vn,ifF (by omega)]
 by_cases c:4 < (len v2:Int)
 ·rw [ifT c,ifT c]
 rw [ifF c,ifF c];refine find (F:=fun i=>UL (.int (len v2:Nat)) (.int (i:Nat)) v0 v1 v2 v3) (n:=len v2) (bad:=IE v2) (fun j hj=>?_) ?_
 ·show UL _ (.int (j:Nat)) _ _ _ _=_;rw [ii,ifT (by omega),ifF (by omega),ifT (by omega)]
  simp only [Tq,bx (v0:=v2) (by omega),AC,AB,Aq,Ap,decide_true,cond_true,A0 (i:=j) (by omega)]
  unfold IE;cases nm (cl v2 j 0)<;>cases decide (fd v2 (cl v2 j 0) < j)<;>cases decide ((cl v2 j 1).toInt < 1)<;>cases decide (1000 < (cl v2 j 1).toInt)<;>simp only [cond_true,cond_false,Bool.not_true,Bool.not_false,Bool.or_true,Bool.or_false,Bool.true_or,Bool.false_or]
 ·show UL _ (.int (len v2:Nat)) _ _ _ _=_;rw [ii,ifF (by omega)]
theorem jo (hn:len v1 < 1000) (v0 v2 v3:D):V9 (.int (len v1:Nat)) (.int 1) (.int 24) v0 v1 v2 v3=.row [.int 1,.int (cond (decide ((len v1:Int) < 1)) 0 (cond (decide (24 < (len v1:Int))) 24 (fdG (IX v1) (len v1) 0)))]:=by
 rw [ux];by_cases c:(len v1:Int) < 1
 ·rw [ifT c,ifT c]
 rw [ifF c,ifF c];by_cases c:24 < (len v1:Int)
 ·rw [ifT c,ifT c]
 rw [ifF c,ifF c];refine find (F:=fun i=>UZ (.int (len v1:Nat)) (.int (i:Nat)) v0 v1 v2 v3) (n:=len v1) (bad:=IX v1) (fun j hj=>?_) ?_
 ·show UZ _ (.int (j:Nat)) _ _ _ _=_;rw [sM,ifT (by omega),ifF (by omega),ifT (by omega)]
  simp only [Tq,bR (v0:=v1) (by omega),AC,AB,Aq,Ap,decide_true,cond_true,A0 (i:=j) (by omega)]
  unfold IX;cases nm (cl v1 j 0)<;>cases decide (fd v1 (cl v1 j 0) < j)<;>cases decide ((cl v1 j 2).toInt < 0)<;>cases decide (1048576 < (cl v1 j 2).toInt)<;>simp only [cond_true,cond_false,Bool.not_true,Bool.not_false,Bool.or_true,Bool.or_false,Bool.true_or,Bool.false_or]
 ·show UZ _ (.int (len v1:Nat)) _ _ _ _=_;rw [sM,ifF (by omega)]
end
end Us
namespace Us
open Go Go.AE
def Eh (v3:D) (i j:Nat):Bool:=D.strEq (cl v3 j 0) (cl v3 i 0) && (D.strEq (cl v3 j 1) (cl v3 i 1) && (decide ((cl v3 j 2).toInt=(cl v3 i 2).toInt) && (D.strEq (cl v3 j 3) (cl v3 i 3) && (D.strEq (cl v3 j 4) (cl v3 i 4) && (D.strEq (cl v3 j 5) (cl v3 i 5) && (decide ((cl v3 j 6).toInt=(cl v3 i 6).toInt) && (decide ((cl v3 j 7).toInt=(cl v3 i 7).toInt) && decide ((cl v3 j 8).toInt=(cl v3 i 8).toInt))))))))
def dup (v3:D) (i:Nat):Bool:=!decide (fdG (Eh v3 i) i 0 < 0)
def ak (v2 v3:D) (i:Nat):Bool:=cond (eqC (cl v3 i 5) 0 0) (cond (decide ((cl v3 i 6).toInt=0)) (cond (decide ((cl v3 i 7).toInt=0)) (cond (decide ((cl v3 i 8).toInt=0)) false true) true) true)
 (cond (decide (fd v2 (cl v3 i 5) < 0)) true (cond (decide ((cl v3 i 6).toInt < 0)) true (cond (decide ((cl v3 i 7).toInt < (cl v3 i 6).toInt)) true (cond (decide ((cl v3 i 8).toInt < (-1000))) true (cond (decide (1000 < (cl v3 i 8).toInt)) true
  (cond (decide ((cl v2 (fd v2 (cl v3 i 5)) 1).toInt < (cl v3 i 7).toInt)) true (cond (decide (IntKind.wrap .i64 ((cl v3 i 6).toInt + (cl v3 i 8).toInt) < 0)) true (cond (decide ((cl v2 (fd v2 (cl v3 i 5)) 1).toInt < IntKind.wrap .i64 ((cl v3 i 7).toInt + (cl v3 i 8).toInt))) true false))))))))
def Bq (v3:D):Prop:=∀i:Nat,i < len v3→(∃n,cl v3 i 2=.int n)∧(∃n,cl v3 i 6=.int n)∧(∃n,cl v3 i 7=.int n)∧(∃n,cl v3 i 8=.int n)∧BG (cl v3 i 3) < 4611686018427387904∧BG (cl v3 i 4) < 4611686018427387904
section
variable [Ao]
def Q4 (v0 v1 v3:D) (i:Nat):Bool:=cond (decide ((cl v3 i 2).toInt=1)) (cond (nm (cl v3 i 3)) (cond (nm (cl v3 i 4)) (D.strEq (cl v3 i 4) v0) true) true)
 (cond (decide ((cl v3 i 2).toInt=2)) (cond (nm (cl v3 i 3)) (cond (nm (cl v3 i 4)) (D.strEq (cl v3 i 4) v0) true) true)
 (cond (decide ((cl v3 i 2).toInt=3)) (cond (eqC (cl v3 i 3) 0 0) (cond (eqC (cl v3 i 4) 0 0) (!decide (0 < (cl v1 (fd v1 (cl v3 i 0)) 2).toInt)) true) true)
 (cond (decide ((cl v3 i 2).toInt=4)) (cond (eqC (cl v3 i 3) 0 0) (cond (eqC (cl v3 i 4) 0 0) false true) true) true)))
def Gx (v0 v1 v2 v3:D) (i:Nat):Bool:=decide (fd v1 (cl v3 i 0) < 0) || (decide (fd v1 (cl v3 i 1) < 0) || (dup v3 i || (Q4 v0 v1 v3 i || ak v2 v3 i)))
variable {v0 v1 v2 v3:D}
theorem jb (hs:Bq v3) (hn:len v3 < 1000) {i:Nat} (hi:i < len v3):∃n:Int,cP (sb v3 0 i) (cl v3 i 0) (cl v3 i 1) (cl v3 i 2) (cl v3 i 3) (cl v3 i 4) (cl v3 i 5) (cl v3 i 6) (cl v3 i 7) (cl v3 i 8)=.row [.int 1,.int n]∧decide (n < 0) = !dup v3 i:=by
 obtain ⟨⟨n2,h2⟩,⟨n6,h6⟩,⟨n7,h7⟩,⟨n8,h8⟩,_⟩:=hs i hi;refine ⟨fdG (Eh v3 i) i 0,?_,by unfold dup;rw [Bool.not_not]⟩
 have hl:len (sb v3 0 i)=i:=by
  have:=Xd (a:=v3) (lo:=0) (hi:=(i:Int)) (by omega) (by omega)
  omega
 rw [h2,h6,h7,h8,tX];refine find (F:=fun j=>Vb (sb v3 0 i) (.int (j:Nat)) (cl v3 i 0) (cl v3 i 1) (.int n2) (cl v3 i 3) (cl v3 i 4) (cl v3 i 5) (.int n6) (.int n7) (.int n8)) (n:=i) (bad:=Eh v3 i) (fun j hj=>?_) ?_
 ·show Vb (sb v3 0 i) (.int (j:Nat)) (cl v3 i 0) (cl v3 i 1) (.int n2) (cl v3 i 3) (cl v3 i 4) (cl v3 i 5) (.int n6) (.int n7) (.int n8)=_;rw [qL,hl,ifT (by omega),ifF (by omega),A0 (by omega)]
  simp only [Mv (a:=v3) (i:=i) (j:=j) (by omega) hj]
  have e:(D.strEq (cl v3 i 0) (cl v3 j 0) && (D.strEq (cl v3 i 1) (cl v3 j 1) && (decide (n2=(cl v3 j 2).toInt) && (D.strEq (cl v3 i 3) (cl v3 j 3) && (D.strEq (cl v3 i 4) (cl v3 j 4) && (D.strEq (cl v3 i 5) (cl v3 j 5) && (decide (n6=(cl v3 j 6).toInt) && (decide (n7=(cl v3 j 7).toInt) && decide (n8=(cl v3 j 8).toInt)))))))))=Eh v3 i j:=by
   unfold Eh;rw [h2,h6,h7,h8];simp only [Aq];rw [AX (a:=cl v3 i 0),AX (a:=cl v3 i 1),AX (a:=cl v3 i 3),AX (a:=cl v3 i 4),AX (a:=cl v3 i 5)];rw [Tk (x:=n2),Tk (x:=n6),Tk (x:=n7),Tk (x:=n8)];rfl
  rw [e]
 ·show Vb (sb v3 0 i) (.int (i:Nat)) (cl v3 i 0) (cl v3 i 1) (.int n2) (cl v3 i 3) (cl v3 i 4) (cl v3 i 5) (.int n6) (.int n7) (.int n8)=_;rw [qL,hl,ifF (by omega)]
theorem YX (hs:Bq v3) (hn:len v3 < 1000) (hn1:len v1 < 1000) (hn2:len v2 < 1000) {i:Nat} (hi:i < len v3):HT (.int (len v3:Nat)) (.int (i:Nat)) v0 v1 v2 v3=cond (Gx v0 v1 v2 v3 i) (.row [.int 1,.int (i:Nat)]) (HT (.int (len v3:Nat)) (.int (i + 1:Nat)) v0 v1 v2 v3):=by
 obtain ⟨n,h6,hd⟩:=jb hs hn hi;obtain ⟨_,_,_,_,h3,h4⟩:=hs i hi;rw [lD (h0:=rfl) (h1:=rfl) (h2:=rfl),ifT (by omega),ifF (by omega),ifT (by omega)]
 have a1:=B0 (l:=v1) (key:=cl v3 i 0);have a2:=B0 (l:=v2) (key:=cl v3 i 5);have d1:decide ((BG (cl v3 i 3):Int) < 4611686018427387904)=true:=decide_eq_true (by omega)
 have d2:decide ((BG (cl v3 i 4):Int) < 4611686018427387904)=true:=decide_eq_true (by omega)
 have d3:decide ((len v3:Int) < i)=false:=decide_eq_false (by omega)
 simp only [h6,hd,Tq,bx (v0:=v2) (by omega),bR (v0:=v1) (by omega),AC,AB,Aq,Ap,decide_true,cond_true,cond_false,A0 (i:=i) (by omega),decide_eq_true a1,decide_eq_true a2,d1,d2,d3,RQ]
 unfold Gx Q4;generalize HT (.int (len v3:Nat)) (.int (i + 1:Nat)) v0 v1 v2 v3=X;generalize hY:(D.row [.int 1,.int (i:Nat)])=Y;cases decide (fd v1 (cl v3 i 0) < 0)<;>cases decide (fd v1 (cl v3 i 1) < 0)<;>cases dup v3 i<;>simp only [cond_true,cond_false,Bool.true_or,Bool.false_or,Bool.not_true,Bool.not_false,Bool.cond_self]
 unfold ak;by_cases k1:(cl v3 i 2).toInt=1
 ·simp only [ifT k1];cases nm (cl v3 i 3)<;>cases nm (cl v3 i 4)<;>cases D.strEq (cl v3 i 4) v0<;>simp only [cond_true,cond_false,Bool.true_or,Bool.false_or]
  repeat' (refine Mw (fun h=>?_) (fun h=>?_))<;>simp only [*,cond_true,cond_false]
 simp only [ifF k1];by_cases k2:(cl v3 i 2).toInt=2
 ·simp only [ifT k2];cases nm (cl v3 i 3)<;>cases nm (cl v3 i 4)<;>cases D.strEq (cl v3 i 4) v0<;>simp only [cond_true,cond_false,Bool.true_or,Bool.false_or]
  repeat' (refine Mw (fun h=>?_) (fun h=>?_))<;>simp only [*,cond_true,cond_false]
 simp only [ifF k2];by_cases k3:(cl v3 i 2).toInt=3
 ·simp only [ifT k3];cases eqC (cl v3 i 3) 0 0<;>cases eqC (cl v3 i 4) 0 0<;>cases decide (0 < (cl v1 (fd v1 (cl v3 i 0)) 2).toInt)<;>simp only [cond_true,cond_false,Bool.true_or,Bool.false_or,Bool.and_true,Bool.true_and,Bool.and_false,Bool.false_and,Bool.not_true,Bool.not_false]
  repeat' (refine Mw (fun h=>?_) (fun h=>?_))<;>simp only [*,cond_true,cond_false]
 simp only [ifF k3];by_cases k4:(cl v3 i 2).toInt=4
 ·simp only [ifT k4];cases eqC (cl v3 i 3) 0 0<;>cases eqC (cl v3 i 4) 0 0<;>simp only [cond_true,cond_false,Bool.true_or,Bool.false_or,Bool.and_true,Bool.true_and,Bool.and_false,Bool.false_and,Bool.not_true,Bool.not_false]
  repeat' (refine Mw (fun h=>?_) (fun h=>?_))<;>simp only [*,cond_true,cond_false]
 simp only [ifF k4,cond_true,Bool.true_or]
theorem qt (hs:Bq v3) (hn:len v3 < 1000) (hn1:len v1 < 1000) (hn2:len v2 < 1000) (v0:D):WJ (.int (len v3:Nat)) (.int 0) (.int 80) v0 v1 v2 v3=.row [.int 1,.int (cond (decide (80 < (len v3:Int))) 80 (fdG (Gx v0 v1 v2 v3) (len v3) 0))]:=by
 rw [uS,ifF (by omega)]
 by_cases c:80 < (len v3:Int)
 ·rw [ifT c,ifT c]
 rw [ifF c,ifF c];refine find (F:=fun i=>HT (.int (len v3:Nat)) (.int (i:Nat)) v0 v1 v2 v3) (n:=len v3) (bad:=Gx v0 v1 v2 v3) (fun j hj=>YX hs hn hn1 hn2 hj) ?_
 show HT _ (.int (len v3:Nat)) _ _ _ _=_;rw [lD (h0:=rfl) (h1:=rfl) (h2:=rfl),ifF (by omega)]
theorem Wq (hs:Bq v3) (hn:len v3 < 1000) (hn1:len v1 < 1000) (hn2:len v2 < 1000) {i:Nat} (hi:i < len v3) (hf:0≤fd v1 (cl v3 i 0)):Gu (.int (i:Nat)) (.int (fd v1 (cl v3 i 0))) (.int 0) v0 v1 v2 v3 (cl v3 i 0) (cl v3 i 1) (cl v3 i 2) (cl v3 i 3) (cl v3 i 4) (cl v3 i 5) (cl v3 i 6) (cl v3 i 7) (cl v3 i 8)=.row [.int 1,.bool (!(dup v3 i || Q4 v0 v1 v3 i))]:=by
 obtain ⟨⟨n2,h2⟩,⟨n6,h6⟩,⟨n7,h7⟩,⟨n8,h8⟩,h3,h4⟩:=hs i hi
 have L:=EJ (F:=fun j=>Gu (.int (i:Nat)) (.int (fd v1 (cl v3 i 0))) (.int (j:Nat)) v0 v1 v2 v3 (cl v3 i 0) (cl v3 i 1) (cl v3 i 2) (cl v3 i 3) (cl v3 i 4) (cl v3 i 5) (cl v3 i 6) (cl v3 i 7) (cl v3 i 8)) (n:=i) (bad:=Eh v3 i) (B:=fun _=>.row [.int 1,.bool false]) (fun j hj=>by
  show Gu (.int (i:Nat)) (.int (fd v1 (cl v3 i 0))) (.int (j:Nat)) v0 v1 v2 v3 (cl v3 i 0) (cl v3 i 1) (cl v3 i 2) (cl v3 i 3) (cl v3 i 4) (cl v3 i 5) (cl v3 i 6) (cl v3 i 7) (cl v3 i 8)=cond _ _ (Gu (.int (i:Nat)) (.int (fd v1 (cl v3 i 0))) (.int (j + 1:Nat)) v0 v1 v2 v3 (cl v3 i 0) (cl v3 i 1) (cl v3 i 2) (cl v3 i 3) (cl v3 i 4) (cl v3 i 5) (cl v3 i 6) (cl v3 i 7) (cl v3 i 8))
  have e:(D.strEq (cl v3 j 0) (cl v3 i 0) && (D.strEq (cl v3 j 1) (cl v3 i 1) && (decide ((cl v3 j 2).toInt=n2) && (D.strEq (cl v3 j 3) (cl v3 i 3) && (D.strEq (cl v3 j 4) (cl v3 i 4) && (D.strEq (cl v3 j 5) (cl v3 i 5) && (decide ((cl v3 j 6).toInt=n6) && (decide ((cl v3 j 7).toInt=n7) && decide ((cl v3 j 8).toInt=n8)))))))))=Eh v3 i j:=by
   unfold Eh;rw [h2,h6,h7,h8];rfl
  rw [← e,h2,h6,h7,h8,cw,ifT (by omega),ifF (by omega),ifT (by omega),A0 (by omega)])
 have L:Gu (.int (i:Nat)) (.int (fd v1 (cl v3 i 0))) (.int 0) v0 v1 v2 v3 (cl v3 i 0) (cl v3 i 1) (cl v3 i 2) (cl v3 i 3) (cl v3 i 4) (cl v3 i 5) (cl v3 i 6) (cl v3 i 7) (cl v3 i 8)=cond (decide (fdG (Eh v3 i) i 0 < 0)) (Gu (.int (i:Nat)) (.int (fd v1 (cl v3 i 0))) (.int (i:Nat)) v0 v1 v2 v3 (cl v3 i 0) (cl v3 i 1) (cl v3 i 2) (cl v3 i 3) (cl v3 i 4) (cl v3 i 5) (cl v3 i 6) (cl v3 i 7) (cl v3 i 8)) (.row [.int 1,.bool false]):=L;rw [L];have e:decide (fdG (Eh v3 i) i 0 < 0) = !dup v3 i:=by unfold dup;rw [Bool.not_not]
 rw [e];cases dup v3 i
 ·show Gu (.int (i:Nat)) (.int (fd v1 (cl v3 i 0))) (.int (i:Nat)) v0 v1 v2 v3 (cl v3 i 0) (cl v3 i 1) (cl v3 i 2) (cl v3 i 3) (cl v3 i 4) (cl v3 i 5) (cl v3 i 6) (cl v3 i 7) (cl v3 i 8)=.row [.int 1,.bool (!Q4 v0 v1 v3 i)];have a1:=B0 (l:=v1) (key:=cl v3 i 0);have t2:(cl v3 i 2).toInt=n2:=by rw [h2];rfl
  have R:Gu (.int (i:Nat)) (.int (fd v1 (cl v3 i 0))) (.int (i:Nat)) v0 v1 v2 v3 (cl v3 i 0) (cl v3 i 1) (.int n2) (cl v3 i 3) (cl v3 i 4) (cl v3 i 5) (.int n6) (.int n7) (.int n8)=.row [.int 1,.bool (!Q4 v0 v1 v3 i)]:=by
   rw [cw,ifF (by omega)]
   simp only [LO,AC,AB,Aq,Ap,decide_true,cond_true,decide_eq_true a1,decide_eq_false (show ¬fd v1 (cl v3 i 0) < 0 by omega),cond_false]
   unfold Q4;by_cases k1:n2=1
   ·rw [ifT k1,ifT (t2.trans k1)];cases nm (cl v3 i 3)<;>cases nm (cl v3 i 4)<;>rfl
   rw [ifF k1,ifF (p:=(cl v3 i 2).toInt=1) (by omega)]
   by_cases k2:n2=2
   ·rw [ifT k2,ifT (t2.trans k2)];cases nm (cl v3 i 3)<;>cases nm (cl v3 i 4)<;>rfl
   rw [ifF k2,ifF (p:=(cl v3 i 2).toInt=2) (by omega)]
   by_cases k3:n2=3
   ·rw [ifT k3,ifT (t2.trans k3)];cases eqC (cl v3 i 3) 0 0<;>cases eqC (cl v3 i 4) 0 0<;>simp only [cond_true,cond_false,Bool.not_true,Bool.not_false,Bool.not_not]
   rw [ifF k3,ifF (p:=(cl v3 i 2).toInt=3) (by omega)]
   by_cases k4:n2=4
   ·rw [ifT k4,ifT (t2.trans k4)];cases eqC (cl v3 i 3) 0 0<;>cases eqC (cl v3 i 4) 0 0<;>rfl
   rw [ifF k4,ifF (p:=(cl v3 i 2).toInt=4) (by omega)]
   rfl
  rw [h2,h6,h7,h8];exact R
 ·rfl
theorem eO (hs:Bq v3) (hn:len v3 < 1000) (hn1:len v1 < 1000) (hn2:len v2 < 1000) {i:Nat} (hi:i < len v3):Ui v0 v1 v2 v3 (.int (i:Nat))=.row [.int 1,.bool (!Gx v0 v1 v2 v3 i)]:=by
 rw [jO,ifF (by omega),ifT (by omega)]
 have a1:=B0 (l:=v1) (key:=cl v3 i 0);have a2:=B0 (l:=v2) (key:=cl v3 i 5);simp only [YQ (v0:=v0) (v1:=v1) (v2:=v2) (v3:=v3) (by omega),YU (v0:=v0) (v1:=v1) (v2:=v2) (v3:=v3) (by omega),AC,AB,Aq,Ap,decide_true,cond_true,decide_eq_true a2]
 unfold Gx;by_cases c:fd v1 (cl v3 i 0) < 0
 ·rw [ifT c,decide_eq_true c];rfl
 rw [ifF c,decide_eq_false c,Wq hs hn hn1 hn2 hi (by omega)]
 unfold ak;cases decide (fd v1 (cl v3 i 1) < 0)<;>cases dup v3 i<;>cases Q4 v0 v1 v3 i<;>simp only [cond_true,cond_false,Bool.true_or,Bool.false_or,Bool.not_true,Bool.not_false]
 all_goals (repeat' (refine Mw (fun h=>?_) (fun h=>?_)))<;>simp only [*,cond_true,cond_false,Bool.not_true,Bool.not_false,Bool.cond_self]
end
end Us
namespace Us
open Go Go.AE
section
variable [Ao]
variable {v0 v1 v2 v3:D}
def Gw (v2:D):Int:=cond (decide (4 < (len v2:Int))) 4 (fdG (IE v2) (len v2) 0)
def Fu (v1:D):Int:=cond (decide ((len v1:Int) < 1)) 0 (cond (decide (24 < (len v1:Int))) 24 (fdG (IX v1) (len v1) 0))
def HC (v0 v1 v2 v3:D):Int:=cond (decide (80 < (len v3:Int))) 80 (fdG (Gx v0 v1 v2 v3) (len v3) 0)
def rok (v0 v1 v2 v3:D):Bool:=nm v0 && (decide (Gw v2 < 0) && (decide (Fu v1 < 0) && decide (HC v0 v1 v2 v3 < 0)))
theorem lz (hn:len v2 < 1000):Kk (.int 0) v0 v1 v2 v3=cond (decide (fdG (IE v2) (len v2) 0 < 0)) (Kk (.int (len v2:Nat)) v0 v1 v2 v3) (.row [.int 1,.int (fdG (IE v2) (len v2) 0).toNat,.int 291]):=
 EJ (F:=fun j=>Kk (.int (j:Nat)) v0 v1 v2 v3) (n:=len v2) (bad:=IE v2) (B:=fun j=>.row [.int 1,.int (j:Nat),.int 291]) fun j hj=>by
  show Kk (.int (j:Nat)) v0 v1 v2 v3=cond _ _ (Kk (.int (j + 1:Nat)) v0 v1 v2 v3);have a:=K8 hj;rw [Wb,ifT (by omega),ifF (by omega),A0 (by omega)]
  simp only [LO,YQ (v0:=v0) (v1:=v1) (v2:=v2) (v3:=v3) (by omega),AC,AB,Aq,Ap,decide_true,cond_true]
  unfold IE;by_cases q:fd v2 (cl v2 j 0) < j
  ·rw [ifF (by omega),decide_eq_true q]
   cases nm (cl v2 j 0)<;>rfl
  ·rw [ifT (by omega),decide_eq_false q]
   cases nm (cl v2 j 0)<;>cases decide ((cl v2 j 1).toInt < 1)<;>cases decide (1000 < (cl v2 j 1).toInt)<;>rfl
theorem jJ (hn:len v1 < 1000):Kf (.int 0) v0 v1 v2 v3=cond (decide (fdG (IX v1) (len v1) 0 < 0)) (Kf (.int (len v1:Nat)) v0 v1 v2 v3) (.row [.int 1,.int (fdG (IX v1) (len v1) 0).toNat,.int 292]):=
 EJ (F:=fun j=>Kf (.int (j:Nat)) v0 v1 v2 v3) (n:=len v1) (bad:=IX v1) (B:=fun j=>.row [.int 1,.int (j:Nat),.int 292]) fun j hj=>by
  show Kf (.int (j:Nat)) v0 v1 v2 v3=cond _ _ (Kf (.int (j + 1:Nat)) v0 v1 v2 v3);have a:=K8 hj;rw [Yl,ifT (by omega),ifF (by omega),A0 (by omega)]
  simp only [LO,YU (v0:=v0) (v1:=v1) (v2:=v2) (v3:=v3) (by omega),AC,AB,Aq,Ap,decide_true,cond_true]
  unfold IX;by_cases q:fd v1 (cl v1 j 0) < j
  ·rw [ifF (by omega),decide_eq_true q]
   cases nm (cl v1 j 0)<;>rfl
  ·rw [ifT (by omega),decide_eq_false q]
   cases nm (cl v1 j 0)<;>cases decide ((cl v1 j 2).toInt < 0)<;>cases decide (1048576 < (cl v1 j 2).toInt)<;>rfl
theorem ja (hs:Bq v3) (hn:len v3 < 1000) (hn1:len v1 < 1000) (hn2:len v2 < 1000):Kn (.int 0) v0 v1 v2 v3=cond (decide (fdG (Gx v0 v1 v2 v3) (len v3) 0 < 0)) (Kn (.int (len v3:Nat)) v0 v1 v2 v3) (.row [.int 1,.int (fdG (Gx v0 v1 v2 v3) (len v3) 0).toNat,.int 293]):=
 EJ (F:=fun j=>Kn (.int (j:Nat)) v0 v1 v2 v3) (n:=len v3) (bad:=Gx v0 v1 v2 v3) (B:=fun j=>.row [.int 1,.int (j:Nat),.int 293]) fun j hj=>by
  show Kn (.int (j:Nat)) v0 v1 v2 v3=cond _ _ (Kn (.int (j + 1:Nat)) v0 v1 v2 v3);rw [XK,ifT (by omega),A0 (by omega)]
  simp only [eO hs hn hn1 hn2 hj,AC,AB,Aq,Ap,decide_true,cond_true];cases Gx v0 v1 v2 v3 j<;>rfl
theorem WI (hs:Bq v3) (hn:len v3 < 1000) (hn1:len v1 < 1000) (hn2:len v2 < 1000) (v0:D):∃a e,HO v0 v1 v2 v3=.row [.int 1,.int a,.int e]∧decide (e=0)=rok v0 v1 v2 v3:=by
 have E:∀a e:Int,e≠0→rok v0 v1 v2 v3=false→∃a' e',D.row [.int 1,.int a,.int e]=.row [.int 1,.int a',.int e']∧decide (e'=0)=rok v0 v1 v2 v3:=fun a e h q=>⟨a,e,rfl,by rw [q];exact decide_eq_false h⟩
 rw [be];simp only [LO,AC,AB,Aq,Ap,decide_true,cond_true];cases c0:nm v0
 ·exact E _ _ (by omega) (by unfold rok;rw [c0];rfl)
 by_cases c1:4 < (len v2:Int)
 ·rw [ifT c1];exact E _ _ (by omega) (by unfold rok Gw;rw [c0,ifT c1];rfl)
 rw [ifF c1,lz hn2];by_cases c2:fdG (IE v2) (len v2) 0 < 0;rotate_left
 ·rw [ifF c2];exact E _ _ (by omega) (by unfold rok Gw;rw [c0,ifF c1,decide_eq_false c2];rfl)
 rw [ifT c2,Wb,ifF (by omega)]
 have k1:decide (Gw v2 < 0)=true:=by unfold Gw;rw [ifF c1];exact decide_eq_true c2
 by_cases c3:(len v1:Int)=0
 ·rw [ifT c3];exact E _ _ (by omega) (by unfold rok;rw [c0,k1];unfold Fu;rw [ifT (by omega)];rfl)
 rw [ifF c3];by_cases c4:24 < (len v1:Int)
 ·rw [ifT c4];exact E _ _ (by omega) (by unfold rok;rw [c0,k1];unfold Fu;rw [ifF (by omega),ifT c4];rfl)
 rw [ifF c4,jJ hn1];by_cases c5:fdG (IX v1) (len v1) 0 < 0;rotate_left
 ·rw [ifF c5];exact E _ _ (by omega) (by unfold rok;rw [c0,k1];unfold Fu;rw [ifF (by omega),ifF c4,decide_eq_false c5];rfl)
 rw [ifT c5,Yl,ifF (by omega)]
 have k2:decide (Fu v1 < 0)=true:=by unfold Fu;rw [ifF (by omega),ifF c4];exact decide_eq_true c5
 by_cases c6:80 < (len v3:Int)
 ·rw [ifT c6];exact E _ _ (by omega) (by unfold rok;rw [c0,k1,k2];unfold HC;rw [ifT c6];rfl)
 rw [ifF c6,ja hs hn hn1 hn2];by_cases c7:fdG (Gx v0 v1 v2 v3) (len v3) 0 < 0;rotate_left
 ·rw [ifF c7];exact E _ _ (by omega) (by unfold rok;rw [c0,k1,k2];unfold HC;rw [ifF c6,decide_eq_false c7];rfl)
 rw [ifT c7,XK,ifF (by omega)]
 exact ⟨0,0,rfl,by unfold rok;rw [c0,k1,k2];unfold HC;rw [ifF c6,decide_eq_true c7];rfl⟩
end
end Us
namespace Us
open Go Go.AE
section
variable [Ao]
variable {v0 v1 v2 v3:D}
def Gt (v0 v1 v2 v3:D):Int:=cond (nm v0) (cond (decide (Gw v2 < 0)) (cond (decide (Fu v1 < 0)) (cond (decide (HC v0 v1 v2 v3 < 0)) 0 293) 292) 291) 290
theorem I3:decide (Gt v0 v1 v2 v3=0)=rok v0 v1 v2 v3:=by
 unfold Gt rok;cases nm v0
 ·rfl
 cases decide (Gw v2 < 0)
 ·rfl
 cases decide (Fu v1 < 0)
 ·rfl
 cases decide (HC v0 v1 v2 v3 < 0)<;>rfl
theorem LI (hs:Bq v3) (hn:len v3 < 1000) (hn1:len v1 < 1000) (hn2:len v2 < 1000) (v0:D):∃a,DZ v0 v1 v2 v3=.row [.int 1,.int a,.int (Gt v0 v1 v2 v3)]:=by
 rw [pB];simp only [Tq,nc hn2,jo hn1,qt hs hn hn1 hn2,AC,AB,Aq,Ap,decide_true,cond_true];unfold Gt;cases nm v0
 ·exact ⟨_,rfl⟩
 simp only [cond_true];by_cases c1:Gw v2 < 0;rotate_left
 ·have c1':=c1;unfold Gw at c1;rw [ifF c1,ifF c1'];exact ⟨_,rfl⟩
 rw [ifT c1];unfold Gw at c1;rw [ifT c1];by_cases c2:Fu v1 < 0;rotate_left
 ·have c2':=c2;unfold Fu at c2;rw [ifF c2,ifF c2'];exact ⟨_,rfl⟩
 rw [ifT c2];unfold Fu at c2;rw [ifT c2];by_cases c3:HC v0 v1 v2 v3 < 0;rotate_left
 ·have c3':=c3;unfold HC at c3;rw [ifF c3,ifF c3'];exact ⟨_,rfl⟩
 rw [ifT c3];unfold HC at c3;rw [ifT c3];exact ⟨_,rfl⟩
theorem PJ (hs:Bq v3) (hn:len v3 < 1000) (hn1:len v1 < 1000) (hn2:len v2 < 1000) (v0:D):∃a,HO v0 v1 v2 v3=.row [.int 1,.int a,.int (Gt v0 v1 v2 v3)]:=by
 rw [be];simp only [LO,AC,AB,Aq,Ap,decide_true,cond_true];unfold Gt;cases c0:nm v0
 ·exact ⟨_,rfl⟩
 simp only [cond_true];by_cases c1:4 < (len v2:Int)
 ·rw [ifT c1,ifF (show ¬Gw v2 < 0 by unfold Gw;rw [ifT c1];omega)]
  exact ⟨_,rfl⟩
 rw [ifF c1,lz hn2];by_cases c2:fdG (IE v2) (len v2) 0 < 0;rotate_left
 ·rw [ifF c2,ifF (show ¬Gw v2 < 0 by unfold Gw;rw [ifF c1];exact c2)]
  exact ⟨_,rfl⟩
 rw [ifT c2,Wb,ifF (by omega),ifT (show Gw v2 < 0 by unfold Gw;rw [ifF c1];exact c2)]
 by_cases c3:(len v1:Int)=0
 ·rw [ifT c3,ifF (show ¬Fu v1 < 0 by unfold Fu;rw [ifT (by omega)];omega)]
  exact ⟨_,rfl⟩
 rw [ifF c3];by_cases c4:24 < (len v1:Int)
 ·rw [ifT c4,ifF (show ¬Fu v1 < 0 by unfold Fu;rw [ifF (by omega),ifT c4];omega)]
  exact ⟨_,rfl⟩
 rw [ifF c4,jJ hn1];by_cases c5:fdG (IX v1) (len v1) 0 < 0;rotate_left
 ·rw [ifF c5,ifF (show ¬Fu v1 < 0 by unfold Fu;rw [ifF (by omega),ifF c4];exact c5)]
  exact ⟨_,rfl⟩
 rw [ifT c5,Yl,ifF (by omega),ifT (show Fu v1 < 0 by unfold Fu;rw [ifF (by omega),ifF c4];exact c5)]
 by_cases c6:80 < (len v3:Int)
 ·rw [ifT c6,ifF (show ¬HC v0 v1 v2 v3 < 0 by unfold HC;rw [ifT c6];omega)]
  exact ⟨_,rfl⟩
 rw [ifF c6,ja hs hn hn1 hn2];by_cases c7:fdG (Gx v0 v1 v2 v3) (len v3) 0 < 0;rotate_left
 ·rw [ifF c7,ifF (show ¬HC v0 v1 v2 v3 < 0 by unfold HC;rw [ifF c6];exact c7)]
  exact ⟨_,rfl⟩
 rw [ifT c7,XK,ifF (by omega),ifT (show HC v0 v1 v2 v3 < 0 by unfold HC;rw [ifF c6];exact c7)]
 exact ⟨_,rfl⟩
theorem W0 {v:D} (h:nm v=true):1≤BG v:=by
 rcases Nat.lt_or_ge 0 (BG v) with q | q
 ·exact q
 unfold nm at h;rw [bA,ifT (by omega)] at h
 cases h
end
structure Rk (S C T:D):Prop where
 s0:0 < len S
 s1:len S < 1000
 c1:len C≤4
 t1:len T≤20
 wt:∀i:Nat,i < len S→0≤(cl S i 2).toInt∧(cl S i 2).toInt≤1048576
 tmo:∀i:Nat,i < len T→(cl T i 2).toInt=3→0 < (cl S (fd S (cl T i 0)) 2).toInt
 sne:∀i:Nat,i < len S→eqC (cl S i 0) 0 0=false
 sid:∀i:Nat,i < len S→fd S (cl S i 0)=i
 cid:∀i:Nat,i < len C→fd C (cl C i 0)=i
 lim:∀i:Nat,i < len C→1≤(cl C i 1).toInt∧(cl C i 1).toInt≤1000
 cne:∀i:Nat,i < len C→eqC (cl C i 0) 0 0=false
 cI:∀i:Nat,i < len C→∃m,cl C i 1=.int m
 tI:Bq T
 frm:∀i:Nat,i < len T→0≤fd S (cl T i 0)
 to:∀i:Nat,i < len T→0≤fd S (cl T i 1)
 ctr:∀i:Nat,i < len T→(eqC (cl T i 5) 0 0=true∧fd C (cl T i 5) = -1)∨(eqC (cl T i 5) 0 0=false∧0≤fd C (cl T i 5)∧0≤(cl T i 6).toInt∧(cl T i 6).toInt≤(cl T i 7).toInt∧
  (cl T i 7).toInt≤(cl C (fd C (cl T i 5)) 1).toInt∧-1000≤(cl T i 8).toInt∧(cl T i 8).toInt≤1000∧0≤(cl T i 6).toInt + (cl T i 8).toInt∧(cl T i 7).toInt + (cl T i 8).toInt≤(cl C (fd C (cl T i 5)) 1).toInt)
section
variable [Ao]
theorem dM {v0 S C T:D} (h:rok v0 S C T=true) (hc:∀i:Nat,i < len C→∃m,cl C i 1=.int m) (ht:Bq T) (hS:len S≤8) (hT:len T≤20):Rk S C T:=by
 unfold rok at h;simp only [Bool.and_eq_true] at h;obtain ⟨_,h1,h2,h3⟩:=h;unfold Gw at h1;unfold Fu at h2;unfold HC at h3;by_cases c1:4 < (len C:Int)
 ·rw [ifT c1] at h1;cases h1
 rw [ifF c1] at h1;by_cases c2:(len S:Int) < 1
 ·rw [ifT c2] at h2;cases h2
 rw [ifF c2,ifF (by omega)] at h2
 rw [ifF (by omega)] at h3
 have B1:∀i,i < len C→IE C i=false:=fun i hi=>Co (k:=len C) (i:=0) (by omega) (.inr ⟨dT h1,by omega⟩)
 have B2:∀i,i < len S→IX S i=false:=fun i hi=>Co (k:=len S) (i:=0) (by omega) (.inr ⟨dT h2,by omega⟩)
 have B3:∀i,i < len T→Gx v0 S C T i=false:=fun i hi=>Co (k:=len T) (i:=0) (by omega) (.inr ⟨dT h3,by omega⟩)
 have E1:∀i,i < len C→nm (cl C i 0)=true∧fd C (cl C i 0)=i∧1≤(cl C i 1).toInt∧(cl C i 1).toInt≤1000:=fun i hi=>by
  have b:=B1 i hi;unfold IE at b;simp only [Bool.or_eq_false_iff,Bool.not_eq_false'] at b;have s:=K8 hi;have b2:=dF b.1.1.2;have b3:=dF b.1.2;have b4:=dF b.2;exact ⟨b.1.1.1,by omega,by omega,by omega⟩
 have ne:∀i,i < len C→eqC (cl C i 0) 0 0=false:=fun i hi=>by
  rw [EM];have:=W0 (E1 i hi).1;exact decide_eq_false (by omega)
 refine ⟨by omega,by omega,by omega,hT,fun i hi=>?_,fun i hi h3=>?_,fun i hi=>?_,fun i hi=>?_,fun i hi=>(E1 i hi).2.1,fun i hi=>(E1 i hi).2.2,ne,hc,ht,fun i hi=>?_,fun i hi=>?_,fun i hi=>?_⟩
 ·have b:=B2 i hi;unfold IX at b;simp only [Bool.or_eq_false_iff] at b;have b2:=dF b.1.2;have b3:=dF b.2;omega
 ·have b:=B3 i hi;unfold Gx at b;simp only [Bool.or_eq_false_iff] at b;have b:=b.2.2.2.1;unfold Q4 at b;rw [ifF (by omega),ifF (by omega),ifT h3] at b
  cases q1:eqC (cl T i 3) 0 0
  ·rw [q1] at b;cases b
  cases q2:eqC (cl T i 4) 0 0
  ·rw [q1,q2] at b;cases b
  rw [q1,q2] at b;simp only [cond_true,Bool.not_eq_false'] at b;exact dT b
 ·have b:=B2 i hi;unfold IX at b;simp only [Bool.or_eq_false_iff,Bool.not_eq_false'] at b;rw [EM];have:=W0 b.1.1.1;exact decide_eq_false (by omega)
 ·have b:=B2 i hi;unfold IX at b;simp only [Bool.or_eq_false_iff] at b;have s:=K8 hi;have b2:=dF b.1.1.2;omega
 ·have b:=B3 i hi;unfold Gx at b;simp only [Bool.or_eq_false_iff] at b;exact Int.not_lt.1 (dF b.1)
 ·have b:=B3 i hi;unfold Gx at b;simp only [Bool.or_eq_false_iff] at b;exact Int.not_lt.1 (dF b.2.1)
 ·have b:=B3 i hi;unfold Gx at b;simp only [Bool.or_eq_false_iff] at b;have b:=b.2.2.2.2;unfold ak at b;cases hz:eqC (cl T i 5) 0 0
  ·right;rw [hz] at b;simp only [cond_false] at b;by_cases d1:fd C (cl T i 5) < 0
   ·rw [ifT d1] at b;cases b
   rw [ifF d1] at b;by_cases d2:(cl T i 6).toInt < 0
   ·rw [ifT d2] at b;cases b
   rw [ifF d2] at b;by_cases d3:(cl T i 7).toInt < (cl T i 6).toInt
   ·rw [ifT d3] at b;cases b
   rw [ifF d3] at b;by_cases d4:(cl T i 8).toInt < -1000
   ·rw [ifT d4] at b;cases b
   rw [ifF d4] at b;by_cases d5:1000 < (cl T i 8).toInt
   ·rw [ifT d5] at b;cases b
   rw [ifF d5] at b;by_cases d6:(cl C (fd C (cl T i 5)) 1).toInt < (cl T i 7).toInt
   ·rw [ifT d6] at b;cases b
   rw [ifF d6] at b;have lt:=B0 (l:=C) (key:=cl T i 5);have l:=E1 (fd C (cl T i 5)).toNat (by omega)
   rw [show (((fd C (cl T i 5)).toNat:Nat):Int)=fd C (cl T i 5) by omega] at l
   rw [AO (by omega) (by omega),AO (by omega) (by omega)] at b
   by_cases d7:(cl T i 6).toInt + (cl T i 8).toInt < 0
   ·rw [ifT d7] at b;cases b
   rw [ifF d7] at b;by_cases d8:(cl C (fd C (cl T i 5)) 1).toInt < (cl T i 7).toInt + (cl T i 8).toInt
   ·rw [ifT d8] at b;cases b
   exact ⟨rfl,by omega,by omega,by omega,by omega,by omega,by omega,by omega,by omega⟩
  ·left;refine ⟨rfl,?_⟩;rcases Ty (l:=C) (key:=cl T i 5) with g | g
   ·exact g
   exfalso
   have lt:=B0 (l:=C) (key:=cl T i 5);have s:=Jr g
   have e:eqC (cl C (fd C (cl T i 5)) 0) 0 0=eqC (cl T i 5) 0 0:=by
    rw [EM,EM];unfold BG;rw [EU.1 s]
   have l:=ne (fd C (cl T i 5)).toNat (by omega)
   rw [show (((fd C (cl T i 5)).toNat:Nat):Int)=fd C (cl T i 5) by omega] at l
   rw [e,hz] at l;cases l
end
end Us

