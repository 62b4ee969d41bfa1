/- What is proved: what the plain functions over data say, whose trees the text before writes out: the law UpgradeSoon answers true. Conditions: those that each theorem states. -/
import Derived.Test.YtmgppdghdeokbaaGreatUpgradeSoonPlainA
set_option linter.unusedVariables false
set_option linter.unusedSectionVars false
set_option linter.unusedSimpArgs false
namespace Us
open Go Go.AE
def In2 (h:D) (x y:Int):Prop:=∃j:Nat,j < len h∧(cl h j 0).toInt=x∧(cl h j 1).toInt=y
def swp (h:D) (a b:Int):D:=upd (upd (upd (upd h a 0 (cl h b 0)) a 1 (cl h b 1)) b 0 (cl h a 0)) b 1 (cl h a 1)
theorem Hx {h:D} {a b:Int}:len (swp h a b)=len h:=by unfold swp;simp only [CC]
theorem Xq {h:D} {a b:Int} (w:Wd h 2):Wd (swp h a b) 2:=by unfold swp;exact Db (Db (Db (Db w)))
theorem W1 {h:D} {a b k:Int} {c:Nat} (w:Wd h 2) (a0:0≤a) (a1:a < len h) (b0:0≤b) (b1:b < len h) (k0:0≤k) (hc:c < 2):cl (swp h a b) k c=if k=b then cl h a c else if k=a then cl h b c else cl h k c:=by
 have w1:Wd (upd h a 0 (cl h b 0)) 2:=Db w;have w2:Wd (upd (upd h a 0 (cl h b 0)) a 1 (cl h b 1)) 2:=Db w1;have w3:Wd (upd (upd (upd h a 0 (cl h b 0)) a 1 (cl h b 1)) b 0 (cl h a 0)) 2:=Db w2;unfold swp;rw [Ct w3 (by omega) b0 (by simp only [CC];exact b1) k0,Ct w2 (by omega) b0 (by simp only [CC];exact b1) k0,Ct w1 (by omega) a0 (by simp only [CC];exact a1) k0,Ct w (by omega) a0 a1 k0]
 match c,hc with
 | 0,_=>
  by_cases q:k=b
  ·rw [if_neg (by omega),if_pos ⟨q,rfl⟩,if_pos q]
  ·rw [if_neg (by omega),if_neg (fun c=>q c.1),if_neg (by omega),if_neg q]
   by_cases r:k=a
   ·rw [if_pos ⟨r,rfl⟩,if_pos r]
   ·rw [if_neg (fun c=>r c.1),if_neg r]
 | 1,_=>
  by_cases q:k=b
  ·rw [if_pos ⟨q,rfl⟩,if_pos q]
  ·rw [if_neg (fun c=>q c.1),if_neg (by omega),if_neg q]
   by_cases r:k=a
   ·rw [if_pos ⟨r,rfl⟩,if_pos r]
   ·rw [if_neg (fun c=>r c.1),if_neg (by omega),if_neg r]
theorem Yz {h:D} {a b:Nat} {x y:Int} (w:Wd h 2) (a1:a < len h) (b1:b < len h) (hi:In2 h x y):In2 (swp h a b) x y:=by
 obtain ⟨j,j1,e0,e1⟩:=hi;have C:∀(k:Nat) (c:Nat),c < 2→cl (swp h a b) k c=if (k:Int)=b then cl h a c else if (k:Int)=a then cl h b c else cl h k c:=fun k c hc=>W1 w (by omega) (by omega) (by omega) (by omega) (by omega) hc
 by_cases q:j=a
 ·subst q;exact ⟨b,by rw [Hx];exact b1,by rw [C b 0 (by omega),if_pos rfl];exact e0,by rw [C b 1 (by omega),if_pos rfl];exact e1⟩
 by_cases r:j=b
 ·subst r;refine ⟨a,by rw [Hx];exact a1,?_,?_⟩
  ·rw [C a 0 (by omega),if_neg (by omega),if_pos rfl];exact e0
  ·rw [C a 1 (by omega),if_neg (by omega),if_pos rfl];exact e1
 refine ⟨j,by rw [Hx];exact j1,?_,?_⟩
 ·rw [C j 0 (by omega),if_neg (by omega),if_neg (by omega)];exact e0
 ·rw [C j 1 (by omega),if_neg (by omega),if_neg (by omega)];exact e1
def EI (h:D):Prop:=∀j:Nat,j < len h→∃x y,cl h j 0=.int x∧cl h j 1=.int y
theorem TY {h:D} {a b:Nat} (w:Wd h 2) (a1:a < len h) (b1:b < len h) (hi:EI h):EI (swp h a b):=by
 have C:∀(k:Nat) (c:Nat),c < 2→cl (swp h a b) k c=if (k:Int)=b then cl h a c else if (k:Int)=a then cl h b c else cl h k c:=fun k c hc=>W1 w (by omega) (by omega) (by omega) (by omega) (by omega) hc
 intro j j1;rw [Hx] at j1;rw [C j 0 (by omega),C j 1 (by omega)]
 by_cases q:(j:Int)=b
 ·simp only [if_pos q];exact hi a a1
 ·simp only [if_neg q];by_cases r:(j:Int)=a
  ·simp only [if_pos r];exact hi b b1
  ·simp only [if_neg r];exact hi j j1
theorem fG {h:D} {x y:Int} (hi:EI h):EI (ad h (.row [.int x,.int y])):=by
 intro j j1;rw [AN] at j1;rw [Cj (by omega),Cj (by omega)]
 by_cases q:(j:Int)=len h
 ·simp only [if_pos q];exact ⟨x,y,rfl,rfl⟩
 ·simp only [if_neg q];exact hi j (by omega)
theorem qY {a:D} {lo hi:Int} {n:Nat} (h:Wd a n):Wd (sb a lo hi) n:=fun r hr=>h r (List.mem_of_mem_drop (List.mem_of_mem_take hr))
theorem w1:IntKind.wrap .i64 (0 + 1)=1:=rfl
theorem w2:IntKind.wrap .i64 (1 + 1)=2:=rfl
theorem Zt {x:Int} (h0:0≤x) (h1:x < 4611686018427387904):ari .quo .i64 x 2=x / 2:=by
 have e:ari .quo .i64 x 2=IntKind.wrap .i64 (x.tdiv 2):=by unfold ari;rfl
 rw [e,Int.tdiv_eq_ediv_of_nonneg h0,AO (by omega) (by omega)]
section
variable [Ao]
theorem ca {n i l c1 c2:Nat} {v4:Int} {v5 h v8:D} {b:Bool} (hn:len h=n) (hl:l < n∨c2≥n):∃l':Nat,(l'=l∨l'=c2∧c2 < n)∧BL (.int n) (.int i) (.int l) (.int 1) (.int v4) v5 h (.bool b) v8 (.int c1) (.int c2)=BL (.int n) (.int i) (.int l') (.int 2) (.int v4) v5 h (.bool b) v8 (.int c1) (.int c2):=by
 rw [Te,ifT (by omega),ifF (by omega),ifT rfl]
 by_cases q:c2 < n
 ·rw [ifT (by omega),ifF (by omega),ifT (by omega),ifF (by omega),ifT (by omega),w2]
  cases decide ((cl h c2 0).toInt < (cl h l 0).toInt)<;>cases decide ((cl h c2 1).toInt < (cl h l 1).toInt)<;>cases decide ((cl h l 1).toInt < (cl h c2 1).toInt)<;>cases decide ((cl h l 0).toInt < (cl h c2 0).toInt)<;>
   first | exact ⟨l,.inl rfl,rfl⟩ | exact ⟨c2,.inr ⟨rfl,q⟩,rfl⟩
 ·rw [ifF (by omega),w2]
  exact ⟨l,.inl rfl,rfl⟩
theorem bY {n i l c1 c2:Nat} {v4:Int} {v5 h v8:D} {b:Bool} (hn:len h=n) (hl:l < n∨c1≥n):∃l':Nat,(l'=l∨l'=c1∧c1 < n)∧BL (.int n) (.int i) (.int l) (.int 0) (.int v4) v5 h (.bool b) v8 (.int c1) (.int c2)=BL (.int n) (.int i) (.int l') (.int 1) (.int v4) v5 h (.bool b) v8 (.int c1) (.int c2):=by
 rw [Te,ifT (by omega),ifT rfl]
 by_cases q:c1 < n
 ·rw [ifT (by omega),ifF (by omega),ifT (by omega),ifF (by omega),ifT (by omega),w1]
  cases decide ((cl h c1 0).toInt < (cl h l 0).toInt)<;>cases decide ((cl h c1 1).toInt < (cl h l 1).toInt)<;>cases decide ((cl h l 1).toInt < (cl h c1 1).toInt)<;>cases decide ((cl h l 0).toInt < (cl h c1 0).toInt)<;>
   first | exact ⟨l,.inl rfl,rfl⟩ | exact ⟨c1,.inr ⟨rfl,q⟩,rfl⟩
 ·rw [ifF (by omega),w1]
  exact ⟨l,.inl rfl,rfl⟩
theorem WY {n:Nat} (hn:n < 1000000) {v2:Int} {v3 v6:D} {b:Bool}:∀(k i:Nat) (h:D),n≤i + k→i≤n→len h=n→Wd h 2→∃h',Ur (.int n) (.int i) (.int v2) v3 h (.bool b) v6=.row [.int 1,h',.bool b]∧Wd h' 2∧len h'=n∧(EI h→EI h')∧∀x y,In2 h x y→In2 h' x y:=by
 intro k
 induction k with
 | zero=>
  intro i h hk hi hl w;have:i=n:=by omega
  subst this;rw [bM,AO (a:=2 * (i:Int)) (by omega) (by omega),AO (by omega) (by omega),AO (by omega) (by omega)]
  obtain ⟨l1,c1,q1⟩:=bY (n:=i) (i:=i) (l:=i) (c1:=2 * i + 1) (c2:=2 * i + 2) (v4:=v2) (v5:=v3) (h:=h) (v8:=v6) (b:=b) hl (.inr (by omega))
  have c1:l1=i:=by omega
  subst c1;obtain ⟨l2,c2,q2⟩:=ca (n:=l1) (i:=l1) (l:=l1) (c1:=2 * l1 + 1) (c2:=2 * l1 + 2) (v4:=v2) (v5:=v3) (h:=h) (v8:=v6) (b:=b) hl (.inr (by omega))
  have c2:l2=l1:=by omega
  subst c2;have E:=q1.trans q2;refine ⟨h,?_,w,hl,id,fun _ _ q=>q⟩
  show BL (.int (l2:Nat)) (.int (l2:Nat)) (.int (l2:Nat)) (.int 0) (.int v2) v3 h (.bool b) v6 (.int ((2 * l2 + 1:Nat):Int)) (.int ((2 * l2 + 2:Nat):Int))=_;rw [E,Te,ifF (by omega),ifT rfl]
 | succ k ih=>
  intro i h hk hi hl w;rw [bM,AO (a:=2 * (i:Int)) (by omega) (by omega),AO (by omega) (by omega),AO (by omega) (by omega)]
  obtain ⟨l1,c1,q1⟩:=bY (n:=n) (i:=i) (l:=i) (c1:=2 * i + 1) (c2:=2 * i + 2) (v4:=v2) (v5:=v3) (h:=h) (v8:=v6) (b:=b) hl (by omega)
  obtain ⟨l2,c2,q2⟩:=ca (n:=n) (i:=i) (l:=l1) (c1:=2 * i + 1) (c2:=2 * i + 2) (v4:=v2) (v5:=v3) (h:=h) (v8:=v6) (b:=b) hl (by omega)
  have E:=q1.trans q2;have E':BL (.int (n:Nat)) (.int (i:Nat)) (.int (i:Nat)) (.int 0) (.int v2) v3 h (.bool b) v6 (.int (2 * (i:Int) + 1)) (.int (2 * (i:Int) + 2))=BL (.int (n:Nat)) (.int (i:Nat)) (.int (l2:Nat)) (.int 2) (.int v2) v3 h (.bool b) v6 (.int (2 * i + 1:Nat)) (.int (2 * i + 2:Nat)):=E;rw [E',Te,ifF (by omega)]
  by_cases q:l2=i
  ·rw [ifT (by omega)]
   exact ⟨h,rfl,w,hl,id,fun _ _ q=>q⟩
  ·rw [ifF (by omega),ifF (by omega),ifT (by omega),ifF (by omega),ifT (by omega)]
   obtain ⟨h',r1,r2,r3,r5,r4⟩:=ih l2 (swp h i l2) (by omega) (by omega) (by rw [Hx];exact hl) (Xq w)
   exact ⟨h',r1,r2,r3,fun hi=>r5 (TY w (by omega) (by omega) hi),fun x y hi=>r4 x y (Yz w (by omega) (by omega) hi)⟩
theorem Xn {v0:Int} {v1 v2 h:D} {b:Bool} (w:Wd h 2) (h0:0 < len h) (h1:len h < 1000000):∃h',G5 (.int v0) v1 v2 h (.bool b)=.row [.int 1,h',.bool b]∧Wd h' 2∧len h'=len h - 1∧(EI h→EI h')∧∀x y,In2 h x y→¬((cl h 0 0).toInt=x∧(cl h 0 1).toInt=y)→In2 h' x y:=by
 have e:IntKind.wrap .i64 ((len h:Int) - 1)=((len h - 1:Nat):Int):=by rw [AO (by omega) (by omega)];omega
 generalize hm:len h - 1=m at e;rw [qv,e,ifF (by omega),ifT (by omega),ifT (by omega),ifF (by simp only [CC];omega)]
 have wa:Wd (upd h 0 0 (cl h m 0)) 2:=Db w;have wb:Wd (upd (upd h 0 0 (cl h m 0)) 0 1 (cl h m 1)) 2:=Db wa
 have C:∀(k c:Nat),c < 2→cl (upd (upd h 0 0 (cl h m 0)) 0 1 (cl h m 1)) k c=if k=0 then cl h m c else cl h k c:=by
  intro k c hc;rw [Ct wa (by omega) (by omega) (by simp only [CC];omega) (by omega),Ct w (by omega) (by omega) (by omega) (by omega)]
  match c,hc with
  | 0,_=>
   by_cases q:k=0
   ·rw [if_neg (by omega),if_pos (by omega),if_pos q]
   ·rw [if_neg (by omega),if_neg (by omega),if_neg q]
  | 1,_=>
   by_cases q:k=0
   ·rw [if_pos (by omega),if_pos q]
   ·rw [if_neg (by omega),if_neg (by omega),if_neg q]
 have lg:len (upd (upd h 0 0 (cl h m 0)) 0 1 (cl h m 1))=len h:=by simp only [CC]
 generalize upd (upd h 0 0 (cl h m 0)) 0 1 (cl h m 1)=g at wb C lg
 have ls:len (sb g 0 m)=m:=by
  have:=Xd (a:=g) (lo:=0) (hi:=(m:Int)) (by omega) (by omega)
  omega
 obtain ⟨h',r1,r2,r3,r5,r4⟩:=WY (n:=m) (by omega) (v2:=v0) (v3:=v2) (v6:=v1) (b:=b) m 0 (sb g 0 m) (by omega) (by omega) ls (qY wb)
 refine ⟨h',r1,r2,by omega,fun hi=>r5 (fun j j1=>?_),fun x y hi hne=>r4 x y ?_⟩
 ·rw [Mv (by omega) (by omega),Mv (by omega) (by omega),C j 0 (by omega),C j 1 (by omega)]
  by_cases q:j=0
  ·simp only [if_pos q];exact hi m (by omega)
  ·simp only [if_neg q];exact hi j (by omega)
 obtain ⟨j,j1,e0,e1⟩:=hi
 have j0:j≠0:=fun c=>by
  subst c;exact hne ⟨e0,e1⟩
 by_cases q:j=m
 ·subst q;refine ⟨0,by omega,?_,?_⟩
  ·rw [Mv (by omega) (by omega),C 0 0 (by omega),if_pos rfl];exact e0
  ·rw [Mv (by omega) (by omega),C 0 1 (by omega),if_pos rfl];exact e1
 ·refine ⟨j,by omega,?_,?_⟩
  ·rw [Mv (by omega) (by omega),C j 0 (by omega),if_neg j0];exact e0
  ·rw [Mv (by omega) (by omega),C j 1 (by omega),if_neg j0];exact e1
theorem cu {h:D} {x y:Int}:(∀a b,In2 h a b→In2 (ad h (.row [.int x,.int y])) a b)∧In2 (ad h (.row [.int x,.int y])) x y:=by
 refine ⟨fun a b hi=>?_,len h,by rw [AN];omega,?_,?_⟩
 ·obtain ⟨j,j1,e0,e1⟩:=hi;refine ⟨j,by rw [AN];omega,?_,?_⟩
  ·rw [Cj (by omega),if_neg (by omega)];exact e0
  ·rw [Cj (by omega),if_neg (by omega)];exact e1
 ·rw [Cj (by omega),if_pos rfl];rfl
 ·rw [Cj (by omega),if_pos rfl];rfl
theorem VQ {n:Nat} (hn:n < 1000000) {t:Int} {v2 v4:D} {b:Bool}:∀(k i:Nat) (h:D),i≤k→i < n→len h=n→Wd h 2→∃h',Km (.int i) (.int t) v2 h (.bool b) v4=.row [.int 1,h',.bool b]∧Wd h' 2∧len h'=n∧(EI h→EI h')∧∀x y,In2 h x y→In2 h' x y:=by
 intro k
 induction k with
 | zero=>
  intro i h hk hi hl w;have:i=0:=by omega
  subst this;rw [bi,ifF (by omega)]
  exact ⟨h,rfl,w,hl,id,fun _ _ q=>q⟩
 | succ k ih=>
  intro i h hk hi hl w;rw [bi];by_cases q:0 < (i:Int)
  ·have e:ari .quo .i64 (IntKind.wrap .i64 ((i:Int) - 1)) 2=(((i - 1) / 2:Nat):Int):=by
    rw [AO (by omega) (by omega),Zt (by omega) (by omega)];omega
   rw [e];generalize hu:(i - 1) / 2=u
   have R:∃h',Km (.int u) (.int t) v2 (swp h u i) (.bool b) v4=.row [.int 1,h',.bool b]∧Wd h' 2∧len h'=n∧(EI h→EI h')∧∀x y,In2 h x y→In2 h' x y:=by
    obtain ⟨h',r1,r2,r3,r5,r4⟩:=ih u (swp h u i) (by omega) (by omega) (by rw [Hx];exact hl) (Xq w)
    exact ⟨h',r1,r2,r3,fun hi=>r5 (TY w (by omega) (by omega) hi),fun x y hi=>r4 x y (Yz w (by omega) (by omega) hi)⟩
   have S:∃h',D.row [.int 1,h,.bool b]=.row [.int 1,h',.bool b]∧Wd h' 2∧len h'=n∧(EI h→EI h')∧∀x y,In2 h x y→In2 h' x y:=⟨h,rfl,w,hl,id,fun _ _ q=>q⟩
   rw [ifT q,ifF (by omega),ifT (by omega),ifT (by omega)]
   cases decide ((cl h u 0).toInt < (cl h i 0).toInt)<;>cases decide ((cl h u 1).toInt < (cl h i 1).toInt)<;>cases decide ((cl h i 1).toInt < (cl h u 1).toInt)<;>cases decide ((cl h i 0).toInt < (cl h u 0).toInt)<;>first | exact S | exact R
  ·rw [ifF q];exact ⟨h,rfl,w,hl,id,fun _ _ q=>q⟩
theorem fM {t x y:Int} {v1 v2:D} {h:D} {b:Bool} (w:Wd h 2) (h1:len h < 1000):∃h',E7 (.int t) v1 v2 h (.bool b) (.int x) (.int y)=.row [.int 1,h',.bool false]∧Wd h' 2∧len h'=len h + 1∧(EI h→EI h')∧(∀a b,In2 h a b→In2 h' a b)∧In2 h' x y:=by
 have e:IntKind.wrap .i64 ((len (ad h (.row [.int x,.int y])):Int) - 1)=((len h:Nat):Int):=by rw [AN,AO (by omega) (by omega)];omega
 rw [oU,ifT (by omega),e]
 have hw:Wd (ad h (.row [.int x,.int y])) 2:=EQ w rfl;obtain ⟨h',r1,r2,r3,r5,r4⟩:=VQ (n:=len h + 1) (by omega) (t:=t) (v2:=v2) (v4:=v1) (b:=false) (len h) (len h) (ad h (.row [.int x,.int y])) (by omega) (by omega) (by rw [AN]) hw
 exact ⟨h',r1,r2,by omega,fun hi=>r5 (fG hi),fun a b hi=>r4 a b (cu.1 a b hi),r4 x y cu.2⟩
end
end Us
namespace Us
open Go Go.AE
def Dm (due dn:D):Option Int→Prop
 | none=>due.rows=[]
 | some d=>due.rows=[.row [.int 0,.int d]]∧dn.toBool=false
structure CK (due dn hp:D) (b:Bool) (o:Option Int):Prop where
 dm:Dm due dn o
 wd:Wd hp 2
 al:EI hp
 nl:b=true→len hp=0
 inn:∀d,o=some d→In2 hp d 0
theorem Lt {a k:D} (h:a.rows=[]):mIx [.int .i64] a k = -1:=by unfold mIx;rw [h];rfl
theorem P0 {a k:D} {d:Int} (h:a.rows=[.row [.int 0,.int d]]):mIx [.int .i64] a (.row [k])=if k.toInt=0 then 0 else -1:=by
 unfold mIx;rw [h]
 show (match ((0:Int) == k.toInt) && true with
  | true=>((0:Nat):Int)
  | false=>-1)=_
 by_cases q:k.toInt=0
 ·rw [if_pos q,q];rfl
 ·rw [if_neg q]
  have:((0:Int) == k.toInt)=false:=by
   cases e:((0:Int) == k.toInt) with
   | false=>rfl
   | true=>exact absurd (eq_of_beq e).symm q
  rw [this];rfl
theorem K1 {a:D} {d:Int} (h:a.rows=[.row [.int 0,.int d]]):mIx [.int .i64] a (.row [.int 0])=0:=(P0 h).trans (if_pos rfl)
theorem XV {a:D} {d t:Int} (h:a.rows=[.row [.int 0,.int d]]) (ht:t≠0):mIx [.int .i64] a (.row [.int t]) = -1:=(P0 h).trans (if_neg ht)
theorem UD {a:D} {d:Int} (h:a.rows=[.row [.int 0,.int d]]):cl a 0 1=.int d:=by
 unfold cl;rw [h];rfl
theorem MW {a:D} {d:Int} (h:a.rows=[.row [.int 0,.int d]]):(KM a 0).rows=[]:=by
 show a.rows.eraseIdx 0=[];rw [h];rfl
section
variable [Ao]
variable {due dn:D}
theorem Ls {v0:Int} (hd:due.rows=[]):∀(k:Nat) (hp:D) (b:Bool),len hp=k→k < 100000→Wd hp 2→EI hp→(b=true→len hp=0)→∃hp',Ky (.int v0) dn hp (.bool b) due=.row [.int 1,.int 0,.int 0,.bool false,hp',.bool b]∧Wd hp' 2∧EI hp'∧(b=true→len hp'=0)∧len hp'≤k:=by
 intro k
 induction k with
 | zero=>
  intro hp b hl hk w a n;rw [Wh,ifF (by omega)]
  exact ⟨hp,rfl,w,a,n,by omega⟩
 | succ k ih=>
  intro hp b hl hk w a n;obtain ⟨h',q1,q2,q3,q4,_⟩:=Xn (v0:=v0) (v1:=due) (v2:=dn) (b:=b) w (by omega) (by omega)
  have hb:b=false:=by
   cases b with
   | false=>rfl
   | true=>have:=n rfl;omega
  obtain ⟨h2,r1,r2,r3,r4,r5⟩:=ih h' b (by omega) (by omega) q2 (q4 a) (fun c=>by rw [hb] at c;cases c)
  rw [Wh,ifT (by omega)]
  simp only [q1,Lt hd,AC,AB,Aq,Ap,decide_true,cond_true,r1];refine ⟨h2,?_,r2,r3,r4,by omega⟩
  cases dn.toBool<;>rfl
theorem Sy {v0 d:Int} (hd:due.rows=[.row [.int 0,.int d]]) (hn:dn.toBool=false):∀(k:Nat) (hp:D) (b:Bool),len hp=k→k < 100000→Wd hp 2→EI hp→(b=true→len hp=0)→In2 hp d 0→∃hp',Ky (.int v0) dn hp (.bool b) due=.row [.int 1,.int d,.int 0,.bool true,hp',.bool b]∧Wd hp' 2∧EI hp'∧(b=true→len hp'=0)∧len hp'≤k∧In2 hp' d 0:=by
 intro k
 induction k with
 | zero=>
  intro hp b hl hk w a n i;obtain ⟨j,j1,_⟩:=i;omega
 | succ k ih=>
  intro hp b hl hk w a n i;obtain ⟨h',q1,q2,q3,q4,q5⟩:=Xn (v0:=v0) (v1:=due) (v2:=dn) (b:=b) w (by omega) (by omega)
  have hb:b=false:=by
   cases b with
   | false=>rfl
   | true=>have:=n rfl;omega
  obtain ⟨x,t,ex,et⟩:=a 0 (by omega)
  have ex:cl hp 0 0=.int x:=ex;have et:cl hp 0 1=.int t:=et
  have step:¬(x=d∧t=0)→∃hp',Ky (.int v0) dn h' (.bool b) due=.row [.int 1,.int d,.int 0,.bool true,hp',.bool b]∧Wd hp' 2∧EI hp'∧(b=true→len hp'=0)∧len hp'≤k + 1∧In2 hp' d 0:=fun hne=>by
   obtain ⟨h2,r1,r2,r3,r4,r5,r6⟩:=ih h' b (by omega) (by omega) q2 (q4 a) (fun c=>by rw [hb] at c;cases c) (q5 d 0 i (fun c=>by
    rw [ex,et] at c;exact hne c))
   exact ⟨h2,r1,r2,r3,r4,by omega,r6⟩
  rw [Wh,ifT (by omega),hn]
  simp only [q1,et,ex,AC,AB,Aq,Ap,decide_true,cond_true,cond_false];by_cases c:t=0
  ·subst c;rw [K1 hd,ifF (by omega),UD hd]
   simp only [Aq];by_cases e:d=x
   ·subst e;simp only [eq_self,decide_true,cond_true];exact ⟨hp,rfl,w,a,n,by omega,i⟩
   ·simp only [e,decide_false,cond_false];exact step (fun c=>e c.1.symm)
  ·rw [XV hd c,ifT (by omega)]
   exact step (fun e=>c e.2)
theorem CK.none_of {hp:D} {b:Bool} {o:Option Int} (h:CK due dn hp b o) {due':D} (hd:due'.rows=[]) (dn':D):CK due' dn' hp b none:=⟨hd,h.wd,h.al,h.nl,fun d c=>by cases c⟩
theorem gz {hp:D} {b:Bool} {o:Option Int} {now t:Int} (h:CK due dn hp b o) (hl:len hp < 100000) (h0:now≤t) (h1:t≤1099511627776) :
  ∃(out:D) (on:Bool) (hp' due':D),QL (.int now) due dn hp (.bool b) (.int t)=.row [.int 1,out,.bool on,.int 0,.int t,hp',.bool b,due']∧len hp'≤len hp∧
   ((∃d,o=some d∧d≤t∧decide (0 < (len out:Int))=true∧CK due' dn hp' b none)∨((∀d,o=some d→t < d)∧decide (0 < (len out:Int))=false∧CK due' dn hp' b o)):=by
 have F:∀{x:D},(∃r,BD (.int t) due dn hp (.bool b)=r∧cond (decide ((sl r 0).toInt=1)) (LQ Aw (.bool true) (sl r 3) (.int t) dn (sl r 4) (sl r 5) due (sl r 1) (sl r 2)) (.row [])=x)→QL (.int now) due dn hp (.bool b) (.int t)=x:=by
  intro x hx;obtain ⟨r,r1,r2⟩:=hx;rw [iw,ifF (by omega)]
  by_cases c:now < t
  ·rw [ifT c,r1];exact r2
  ·have:now=t:=by omega
   subst this;rw [ifF c,r1];exact r2
 cases o with
 | none=>
  obtain ⟨h2,r1,r2,r3,r4,r5⟩:=Ls (dn:=dn) (v0:=t) h.dm (len hp) hp b rfl hl h.wd h.al h.nl;refine ⟨Aw,true,h2,due,F ⟨_,(S9 ..).trans r1,?_⟩,r5,.inr ⟨(fun d c=>nomatch c),rfl,h.dm,r2,r3,r4,(fun d c=>nomatch c)⟩⟩
  simp only [AC,AB,Aq,decide_true,cond_true];rw [TM];rfl
 | some d=>
  obtain ⟨h2,r1,r2,r3,r4,r5,r6⟩:=Sy (v0:=t) h.dm.1 h.dm.2 (len hp) hp b rfl hl h.wd h.al h.nl (h.inn d rfl);by_cases c:t < d
  ·refine ⟨Aw,true,h2,due,F ⟨_,(S9 ..).trans r1,?_⟩,r5,.inr ⟨(fun d' c'=>(by cases c';exact c)),rfl,h.dm,r2,r3,r4,(fun d' c'=>(by cases c';exact r6))⟩⟩
   simp only [AC,AB,Aq,decide_true,cond_true];rw [TM,cT rfl,ifT c]
  ·obtain ⟨h3,s1,s2,s3,s4,s5⟩:=Ls (due:=KM due 0) (dn:=dn) (v0:=t) (MW h.dm.1) (len h2) h2 b rfl (by omega) r2 r3 r4
   refine ⟨ad Aw (.row [.int 0]),false,h3,KM due 0,F ⟨_,(S9 ..).trans r1,?_⟩,by omega,.inl ⟨d,rfl,by omega,by rw [AN];exact decide_eq_true (by omega),MW h.dm.1,s2,s3,s4,(fun d' c'=>nomatch c')⟩⟩
   simp only [AC,AB,Aq,decide_true,cond_true];rw [TM,cT rfl,ifF c,ifT (by rw [CO];omega),h.dm.2]
   simp only [K1 h.dm.1,cond_false];rw [ifF (by omega),S9,s1]
   simp only [AC,AB,Aq,decide_true,cond_true];rw [TM];rfl
theorem Zi {hp:D} {b:Bool} {o:Option Int} {now:Int} (h:CK due dn hp b o):∃(e:Int) (due':D),Iy (.int now) due dn hp (.bool b) (.int 0)=.row [.int 1,.int e,due']∧CK due' dn hp b none:=by
 cases o with
 | none=>
  have hz:due.rows=[]:=h.dm
  have g:NN (.int now) due dn hp (.bool b) (.int 0)=.row [.int 1,.int 0,.int 9]:=by
   rw [bp,ifF (by omega),ifT (by omega),Lt hz]
   cases dn.toBool
   ·rw [cF rfl,ifT (by omega)]
   ·rfl
  refine ⟨9,due,?_,h.none_of hz dn⟩;rw [bK,g];rfl
 | some d=>
  have hd:=h.dm.1
  have g:NN (.int now) due dn hp (.bool b) (.int 0)=.row [.int 1,.int (IntKind.wrap .i64 (d - now)),.int 0]:=by
   rw [bp,ifF (by omega),ifT (by omega),h.dm.2,cF rfl]
   simp only [K1 hd];rw [UD hd];rfl
  refine ⟨0,KM due 0,?_,h.none_of (MW hd) dn⟩;rw [bK,g,h.dm.2,K1 hd];rfl
theorem V4 {hp:D} {b:Bool} {now w:Int} (h:CK due dn hp b none) (hl:len hp < 1000) (n0:0≤now) (n1:now≤1099511627776) (w0:0≤w) (w1:w≤1048576) :
  ∃(e:Int) (dn' hp' due':D) (b':Bool),Ly (.int now) due dn hp (.bool b) (.int 0) (.int w)=.row [.int 1,.int e,dn',hp',.bool b',due']∧len hp'≤len hp + 1∧
   CK due' dn' hp' b' (if now + w≤1099511627776 then some (now + w) else none):=by
 rw [ml,ifF (by omega),ifT (by omega),ifF (by omega),AO (by omega) (by omega)]
 by_cases c:1099511627776 - now < w
 ·rw [ifT c,if_neg (by omega)]
  exact ⟨3,dn,hp,due,b,rfl,by omega,h⟩
 rw [ifF c,if_pos (by omega),AO (by omega) (by omega),Lt (show due.rows=[] from h.dm)]
 have R:∀(due0 dn0 dn1:D),due0.rows=[]→dn1.toBool=false→∃(e:Int) (dn' hp' due':D) (b':Bool),cond (decide ((sl (E7 (.int now) (ad due0 (.row [.int 0,.int (now + w)])) dn0 hp (.bool b) (.int (now + w)) (.int 0)) 0).toInt=1))
   (D.row [.int 1,.int 0,dn1,sl (E7 (.int now) (ad due0 (.row [.int 0,.int (now + w)])) dn0 hp (.bool b) (.int (now + w)) (.int 0)) 1,sl (E7 (.int now) (ad due0 (.row [.int 0,.int (now + w)])) dn0 hp (.bool b) (.int (now + w)) (.int 0)) 2,ad due0 (D.row [.int 0,.int (now + w)])]) (D.row [])=D.row [.int 1,.int e,dn',hp',.bool b',due']∧len hp'≤len hp + 1∧CK due' dn' hp' b' (some (now + w)):=by
  intro due0 dn0 dn1 h0 h1;obtain ⟨h',r1,r2,r3,r4,r5,r6⟩:=fM (t:=now) (x:=now + w) (y:=0) (v1:=ad due0 (.row [.int 0,.int (now + w)])) (v2:=dn0) (b:=b) h.wd hl;simp only [r1,AC,AB,Aq,decide_true,cond_true];refine ⟨0,dn1,h',_,false,rfl,by omega,⟨?_,h1⟩,r2,r4 h.al,fun c=>(by cases c),fun d c=>by cases c;exact r6⟩
  show due0.rows ++ [_]=_;rw [h0];rfl
 cases hd:dn.toBool
 ·rw [cF rfl,ifT (by omega)]
  exact R due dn dn h.dm hd
 ·rw [cT rfl];exact R Ar (.bool false) (.bool false) rfl rfl
theorem Zh {hp:D} {b:Bool} {o:Option Int} {now:Int} (h:CK due dn hp b o) (hl:len hp < 1000) :
  ∃(dn' hp' due':D) (b':Bool),GN (.int now) due dn hp (.bool b)=.row [.int 1,.int now,dn',hp',.bool b',due']∧len hp'=len hp∧CK due' dn' hp' b' o:=by
 have g:∃(hp':D) (b':Bool),KA hp (.bool b)=.row [.int 1,hp',.bool b']∧len hp'=len hp∧Wd hp' 2∧EI hp'∧(b'=true→len hp'=0)∧∀x y,In2 hp x y→In2 hp' x y:=by
  rw [bg];cases b with
  | true=>
   have n:=h.nl rfl;exact ⟨Aw,true,rfl,by rw [n];rfl,Gg,fun j hj=>by rw [CO] at hj;omega,fun _=>rfl,fun x y ⟨j,hj,_⟩=>by omega⟩
  | false=>
   rw [cF rfl,ifT (by omega)]
   exact ⟨ct Ar hp,false,rfl,rfl,h.wd,h.al,(fun c=>nomatch c),fun x y q=>q⟩
 obtain ⟨hp',b',g1,g2,g3,g4,g5,g6⟩:=g;rw [br];simp only [g1,AC,AB,Aq,decide_true,cond_true];cases hd:dn.toBool
 ·exact ⟨.bool false,hp',due,b',rfl,g2,by
   cases o with
   | none=>exact h.dm
   | some d=>exact ⟨h.dm.1,rfl⟩,g3,g4,g5,fun d c=>g6 _ _ (h.inn d c)⟩
 ·refine ⟨.bool true,hp',Ar,b',rfl,g2,?_,g3,g4,g5,fun d c=>g6 _ _ (h.inn d c)⟩
  cases o with
  | none=>rfl
  | some d=>have:=h.dm.2;rw [hd] at this;cases this
end
end Us
namespace Us
open Go Go.AE
structure MS where
 b:D
 bn:Bool
 nm:D
 st:D
 stn:Bool
 ct:D
 ctn:Bool
 sp:D
 spn:Bool
 an:D
 af:Bool
 aw:Int
 now:Int
 due:D
 dn:D
 hp:D
 hn:Bool
 ov:Bool
 ev:D
 en:Bool
structure RS where
 at':D
 ent:Int
 defs:D
 vals:D
 time:Int
 evs:D
structure Bk (b C V:D):Prop where
 lb:len b=len C
 lv:len V=len C
 wb:Wd b 3
 wv:Wd V 1
 nm:∀j:Nat,j < len C→cl b j 0=cl C j 0
 lm:∀j:Nat,j < len C→cl b j 1=cl C j 1
 vl:∀j:Nat,j < len C→∃n,cl b j 2=.int n∧cl V j 0=.int n∧0≤n∧n≤(cl C j 1).toInt
structure Df (d C:D):Prop where
 ld:len d=len C
 nm:∀j:Nat,j < len C→cl d j 0=cl C j 0
 lm:∀j:Nat,j < len C→cl d j 1=cl C j 1
theorem Jc {a c:D} (hl:len a=len c) (h:∀j:Nat,j < len c→cl a j 0=cl c j 0) (key:D):fd a key=fd c key:=by
 unfold fd;rw [hl];exact DP fun j _ hj=>by rw [h j (by omega)]
theorem de {a x y:D} (h:D.strEq x y=true):fd a x=fd a y:=by
 unfold fd
 exact DP fun j _ _=>by
  rw [AX (a:=cl a j 0) (b:=x),AX (a:=cl a j 0) (b:=y)];exact CH h
theorem GE {a key:D} (h:0≤fd a key):(((fd a key).toNat:Nat):Int)=fd a key∧(fd a key).toNat < len a:=by
 have:=B0 (l:=a) (key:=key);omega
def alw (C V T:D) (k:Nat):Bool:=eqC (cl T k 5) 0 0 || (!decide ((cl V (fd C (cl T k 5)) 0).toInt < (cl T k 6).toInt) && !decide ((cl T k 7).toInt < (cl V (fd C (cl T k 5)) 0).toInt))
def MC (C V T an:D) (late:Bool) (k:Nat):Bool:=D.strEq (cl T k 0) an && (alw C V T k && (!decide ((cl T k 2).toInt=3) || late))
section
variable [Ao]
variable {S C T V b d:D} {bn:Bool}
theorem MJ (hn:len b < 1000) (key:D):D3 b (.bool bn) key=.row [.int 1,.int (fd b key)]:=(lx ..).trans (Ch (F:=fun i=>T3 b (.bool bn) (.int i) key) (by omega) fun i=>tT ..)
theorem Wr (hn:len d < 1000) (V key:D):Ej d V key=.row [.int 1,.int (fd d key)]:=(g8 ..).trans (Ch (F:=fun i=>TA key (.int i) d V) (by omega) fun i=>sa ..)
theorem gl (hn:len b < 1000) {key:D} (h:0≤fd b key):IH b (.bool bn) key=.row [.int 1,cl b (fd b key) 2,.int 0]:=by
 have:=B0 (l:=b) (key:=key);rw [oz];simp only [MJ hn,AC,AB,Aq,decide_true,cond_true];rw [ifF (by omega),ifT this]
theorem fH (hn:len S < 1000) (N C T:D) {key:D} (h:0≤fd S key):T7 N S C T key=.row [.int 1,cl S (fd S key) 0,cl S (fd S key) 1,cl S (fd S key) 2]:=by
 rw [qD]
 have L:=EJ (F:=fun j=>Nm key (.int (j:Nat)) N S C T) (n:=len S) (bad:=fun j=>D.strEq (cl S j 0) key) (B:=fun j=>.row [.int 1,cl S j 0,cl S j 1,cl S j 2]) fun j hj=>by
  show Nm key (.int (j:Nat)) N S C T=cond _ _ (Nm key (.int (j + 1:Nat)) N S C T);rw [jU,ifT (by omega),ifF (by omega),A0 (by omega)]
 have h':¬fdG (fun j=>D.strEq (cl S j 0) key) (len S) 0 < 0:=by unfold fd at h;omega
 rw [ifF h'] at L;have e:(((fdG (fun j=>D.strEq (cl S j 0) key) (len S) 0).toNat:Nat):Int)=fd S key:=by unfold fd;omega
 rw [e] at L;exact L
theorem O0 (rk:Rk S C T) (hb:Bk b C V) {k:Nat} (hk:k < len T):HP b (.bool bn) (cl T k 0) (cl T k 1) (cl T k 2) (cl T k 3) (cl T k 4) (cl T k 5) (cl T k 6) (cl T k 7) (cl T k 8)=.row [.int 1,.bool (alw C V T k),.int 0]:=by
 obtain ⟨⟨n2,h2⟩,⟨n6,h6⟩,⟨n7,h7⟩,⟨n8,h8⟩,_⟩:=rk.tI k hk;have c1:=rk.c1;have lb:=hb.lb;have ef:=Jc hb.lb hb.nm (cl T k 5);unfold alw;rw [h2,h6,h7,h8,mD];rcases rk.ctr k hk with ⟨q,_⟩ | ⟨q,q0,q1,q2,q3,q4,q5,q6,q7⟩
 ·rw [cT q,q];rfl
 rw [cF q,q];rw [h6,h7,h8] at *;simp only [Aq] at *;obtain ⟨g1,g2⟩:=GE q0;obtain ⟨n,v1,v2,v3,v4⟩:=hb.vl _ g2;have lim:=rk.lim _ g2;have lm:=hb.lm _ g2;rw [g1] at v1 v2 v4 lim lm;simp only [gl (b:=b) (by omega) (by omega:0≤fd b (cl T k 5)),MJ (b:=b) (by omega),ef,v1,v2,lm,AC,AB,Aq,Ap,decide_true,cond_true,Bool.false_or]
 rw [ifF (by omega),ifT (by omega)]
 by_cases a1:n < n6
 ·rw [ifT a1,decide_eq_true a1];rfl
 rw [ifF a1,decide_eq_false a1];by_cases a2:n7 < n
 ·rw [ifT a2,decide_eq_true a2];rfl
 rw [ifF a2,decide_eq_false a2,AO (by omega) (by omega),ifF (by omega),AO (by omega) (by omega),decide_eq_false (by omega)]
 rfl
theorem Xt (rk:Rk S C T) (hb:Bk b C V) (hd:Df d C) {k:Nat} (hk:k < len T):KJ d V (cl T k 0) (cl T k 1) (cl T k 2) (cl T k 3) (cl T k 4) (cl T k 5) (cl T k 6) (cl T k 7) (cl T k 8)=.row [.int 1,.bool (alw C V T k),.int 0]:=by
 obtain ⟨⟨n2,h2⟩,⟨n6,h6⟩,⟨n7,h7⟩,⟨n8,h8⟩,_⟩:=rk.tI k hk;have c1:=rk.c1;have ld:=hd.ld;have lv:=hb.lv;have ef:=Jc hd.ld hd.nm (cl T k 5);unfold alw;rw [h2,h6,h7,h8,g7];rcases rk.ctr k hk with ⟨q,_⟩ | ⟨q,q0,q1,q2,q3,q4,q5,q6,q7⟩
 ·rw [cT q,q];rfl
 rw [cF q,q];rw [h6,h7,h8] at *;simp only [Aq] at *;obtain ⟨g1,g2⟩:=GE q0;obtain ⟨n,v1,v2,v3,v4⟩:=hb.vl _ g2;have lim:=rk.lim _ g2;have lm:=hd.lm _ g2;rw [g1] at v1 v2 v4 lim lm;simp only [Wr (d:=d) (by omega),ef,v2,lm,AC,AB,Aq,Ap,decide_true,cond_true,Bool.false_or]
 rw [ifF (by omega),ifT (by omega),ifT (by omega)]
 by_cases a1:n < n6
 ·rw [ifT a1,decide_eq_true a1];rfl
 rw [ifF a1,decide_eq_false a1];by_cases a2:n7 < n
 ·rw [ifT a2,decide_eq_true a2];rfl
 rw [ifF a2,decide_eq_false a2,ifF (by omega),ifF (by omega),AO (by omega) (by omega),ifF (by omega),ifF (by omega)]
 rfl
theorem dk (rk:Rk S C T) (hb:Bk b C V) {k:Nat} (hk:k < len T) (nm st ct sp an due dn hp ev due2 dn2 hp2:D) (stn ctn spn af hn ov en hn2 late:Bool) (aw now now2:Int):Qn b (.bool bn) nm st (.bool stn) ct (.bool ctn) sp (.bool spn) an (.bool af) (.int aw) (.int now) due dn hp (.bool hn) (.bool ov) ev (.bool en) (.int now2) due2 dn2 hp2 (.bool hn2) (.bool late) (cl T k 0) (cl T k 1) (cl T k 2) (cl T k 3) (cl T k 4) (cl T k 5) (cl T k 6) (cl T k 7) (cl T k 8)=.row [.int 1,.bool (MC C V T an late k)]:=by
 obtain ⟨⟨n2,h2⟩,⟨n6,h6⟩,⟨n7,h7⟩,⟨n8,h8⟩,_⟩:=rk.tI k hk;have A:=O0 (bn:=bn) rk hb hk;unfold MC;rw [h2,h6,h7,h8] at *;rw [gQ,SY,ifT (by omega),ifT rfl]
 cases D.strEq (cl T k 0) an
 ·rfl
 rw [cT rfl,w1,SY,ifT (by omega),ifF (by omega),ifT rfl,A]
 simp only [AC,AB,Aq,Ap,decide_true,cond_true,Bool.true_and];cases alw C V T k
 ·rfl
 rw [cT rfl,w2,SY,ifT (by omega),ifF (by omega),ifF (by omega),ifT rfl]
 have fin:∀x:Int,x=3→Lo (.int x) nm st (.bool stn) ct (.bool ctn) sp (.bool spn) an (.bool af) (.int aw) (.bool ov) ev (.bool en) b (.bool bn) (.int now) dn hp (.bool hn) due (.int now2) dn2 hp2 (.bool hn2) due2 (cl T k 0) (cl T k 1) (.int n2) (cl T k 3) (cl T k 4) (cl T k 5) (.int n6) (.int n7) (.int n8) (.bool late)=.row [.int 1,.bool true]:=fun x hx=>by subst hx;rw [SY,ifF (by omega)]
 by_cases q:n2=3
 ·subst q;rw [ifT rfl];cases late
  ·rfl
  ·rw [cT rfl];exact fin _ rfl
 ·rw [ifF q];simp only [q,decide_false,Bool.not_false,Bool.true_or,Bool.and_true];exact fin _ rfl
end
end Us
namespace Us
open Go Go.AE
structure TI (ov:Bool) (o:Option Int) (ent w time:Int):Prop where
 w0:0≤w
 w1:w≤1048576
 e0:0≤ent
 e1:ent≤time
 t1:time≤1099511627776
 on:ov=true→0 < w∧ent + w≤time∧o=none
 off:ov=false→0 < w→(ent + w≤1099511627776∧o=some (ent + w)∧time < ent + w)∨(1099511627776 < ent + w∧o=none)
 z:w=0→ov=false∧o=none
def Zp (S:D):Prop:=∀i:Nat,i < len S→∃b w,cl S i 1=.bool b∧cl S i 2=.int w
structure Inv (S C T:D) (n:Nat) (m:MS) (r:RS):Prop where
 rk:Rk S C T
 so:Zp S
 st:m.st.rows=S.rows
 ct:m.ct.rows=C.rows
 sp:m.sp.rows=T.rows
 spn:m.spn=true→T.rows=[]
 bk:Bk m.b C r.vals
 bn:m.bn=true→len C=0
 df:Df r.defs C
 at0:0≤fd S r.at'
 an:D.strEq m.an r.at'=true
 af:cl S (fd S r.at') 1=.bool m.af
 aw:cl S (fd S r.at') 2=.int m.aw
 nt:m.now=r.time
 o:∃o,CK m.due m.dn m.hp m.hn o∧TI m.ov o r.ent m.aw r.time
 hl:len m.hp≤n
 el:len m.ev=len r.evs
 ee:∀j:Nat,j < len r.evs→(cl m.ev j 0).toInt=(cl r.evs j 0).toInt∧(cl m.ev j 1).toInt=(cl r.evs j 1).toInt
 en:m.en=true→len m.ev=0
 el':len r.evs≤n
theorem Be {x:D} {l:List D}:sl (.row (x :: l)) 0=x:=by cases l<;>exact AC
theorem A9 {x:D} {l:List D} {n:Nat}:sl (.row (x :: l)) (n + 1)=sl (.row l) n:=by cases l<;>exact AB
theorem tI {n:Int}:(D.int n).toInt=n:=by cases n<;>exact Aq
theorem tB {b:Bool}:(D.bool b).toBool=b:=by cases b<;>exact Ap
theorem iT {α:Type} {p:Prop} {i:Decidable p} {a b:α} (h:p):cond (@decide p i) a b=a:=by rw [decide_eq_true h];rfl
theorem iF {α:Type} {p:Prop} {i:Decidable p} {a b:α} (h:¬p):cond (@decide p i) a b=b:=by rw [decide_eq_false h];rfl
theorem B5 {a b:D} (h:a.rows=b.rows):len a=len b:=congrArg List.length h
theorem OJ {a b:D} (h:a.rows=b.rows) (i:Int) (j:Nat):cl a i j=cl b i j:=by unfold cl;rw [h]
section
variable [Ao]
variable {S C T N:D} {n:Nat} {m:MS} {r:RS}
theorem Wf (h:Inv S C T n m r) (N:D) (tm:Int) (ev:D) {now:Int} (n0:0≤now) (n1:now≤1099511627776) {k:Nat} (hk:k < len T):Ud N S C T r.at' (.int r.ent) r.defs r.vals (.int tm) ev (.int now) (.int k)=.row [.int 1,.bool (MC C r.vals T r.at' (!decide (now - r.ent < m.aw)) k)]:=by
 obtain ⟨o,ck,ti⟩:=h.o;have:=ti.e0;have:=ti.e1;have:=ti.t1;have A:=Xt h.rk h.bk h.df hk;have B:=fH (by have:=h.rk.s1;omega) N C T h.at0
 unfold MC;rw [jD,ifF (by omega),ifT (by omega),A,B,h.aw,AO (by omega) (by omega)]
 simp only [Be,A9,tI,tB,decide_true,cond_true];cases D.strEq (cl T k 0) r.at'
 ·rfl
 cases alw C r.vals T k
 ·rfl
 cases decide ((cl T k 2).toInt=3)<;>rfl
theorem WL (h:Inv S C T n m r) {late:Bool} {t:Int} (hl:0 < m.aw→late = !decide (t - r.ent < m.aw)) {k:Nat} (hk:k < len T):MC C r.vals T m.an late k=MC C r.vals T r.at' (!decide (t - r.ent < m.aw)) k:=by
 unfold MC
 have e:D.strEq (cl T k 0) m.an=D.strEq (cl T k 0) r.at':=by
  rw [AX (a:=cl T k 0) (b:=m.an),AX (a:=cl T k 0) (b:=r.at')];exact CH h.an
 rw [e];cases q:D.strEq (cl T k 0) r.at'
 ·rfl
 by_cases c:(cl T k 2).toInt=3
 ·have w:=h.rk.tmo k hk c;rw [de q,h.aw] at w;rw [hl w]
 ·simp only [c,decide_false,Bool.not_false,Bool.true_or]
end
end Us
namespace Us
open Go Go.AE
section
variable [Ao]
variable {S C T N:D} {n:Nat} {m:MS} {r:RS}
theorem aS (h:Inv S C T n m r) (hn:n < 900) {t:Int} (h0:r.time≤t) (h1:t≤1099511627776) :
  ∃(dn1 hp1 due1 out hp2 due2:D) (b1 on:Bool),GN (.int m.now) m.due m.dn m.hp (.bool m.hn)=.row [.int 1,.int m.now,dn1,hp1,.bool b1,due1]∧
   QL (.int m.now) due1 dn1 hp1 (.bool b1) (.int t)=.row [.int 1,out,.bool on,.int 0,.int t,hp2,.bool b1,due2]∧len hp2≤n∧
   (∃o',CK due2 dn1 hp2 b1 o'∧TI (m.ov || decide (0 < (len out:Int))) o' r.ent m.aw t)∧(0 < m.aw→(m.ov || decide (0 < (len out:Int))) = !decide (t - r.ent < m.aw)):=by
 obtain ⟨o,ck,ti⟩:=h.o;have hl:=h.hl;have nt:=h.nt;obtain ⟨dn1,hp1,due1,b1,c1,c2,c3⟩:=Zh (now:=m.now) ck (by omega)
 obtain ⟨out,on,hp2,due2,a1,a2,a3⟩:=gz (now:=m.now) (t:=t) c3 (by omega) (by omega) h1
 refine ⟨dn1,hp1,due1,out,hp2,due2,b1,on,c1,a1,by omega,?_,?_⟩
 ·rcases a3 with ⟨d,e1,e2,e3,e4⟩ | ⟨e1,e2,e3⟩
  ·rw [e3,Bool.or_true]
   have wp:0 < m.aw:=by
    rcases Int.lt_or_le 0 m.aw with q | q
    ·exact q
    ·have:=ti.z (by have:=ti.w0;omega)
     rw [this.2] at e1;cases e1
   have eov:m.ov=false:=by
    cases hov:m.ov with
    | false=>rfl
    | true=>have:=(ti.on hov).2.2;rw [this] at e1;cases e1
   refine ⟨none,e4,ti.w0,ti.w1,ti.e0,by have:=ti.e1;omega,h1,fun _=>⟨wp,?_,rfl⟩,(fun c=>nomatch c),fun z=>by omega⟩
   rcases ti.off eov wp with ⟨q1,q2,q3⟩ | ⟨q1,q2⟩
   ·rw [q2] at e1;cases e1;omega
   ·rw [q2] at e1;cases e1
  ·rw [e2,Bool.or_false];refine ⟨o,e3,ti.w0,ti.w1,ti.e0,by have:=ti.e1;omega,h1,fun c=>?_,fun c wp=>?_,ti.z⟩
   ·obtain ⟨q1,q2,q3⟩:=ti.on c;exact ⟨q1,by omega,q3⟩
   ·rcases ti.off c wp with ⟨q1,q2,q3⟩ | ⟨q1,q2⟩
    ·exact .inl ⟨q1,q2,e1 _ q2⟩
    ·exact .inr ⟨q1,q2⟩
 ·intro wp;rcases a3 with ⟨d,e1,e2,e3,e4⟩ | ⟨e1,e2,e3⟩
  ·rw [e3,Bool.or_true]
   have eov:m.ov=false:=by
    cases hov:m.ov with
    | false=>rfl
    | true=>have:=(ti.on hov).2.2;rw [this] at e1;cases e1
   rcases ti.off eov wp with ⟨q1,q2,q3⟩ | ⟨q1,q2⟩
   ·rw [q2] at e1;cases e1;rw [decide_eq_false (by omega)];rfl
   ·rw [q2] at e1;cases e1
  ·rw [e2,Bool.or_false];cases hov:m.ov with
   | true=>
    obtain ⟨q1,q2,q3⟩:=ti.on hov;rw [decide_eq_false (by omega)];rfl
   | false=>
    rcases ti.off hov wp with ⟨q1,q2,q3⟩ | ⟨q1,q2⟩
    ·have:=e1 _ q2;rw [decide_eq_true (by omega)];rfl
    ·rw [decide_eq_true (by omega)];rfl
end
end Us
namespace Us
open Go Go.AE
section
variable [Ao]
variable {S C T N:D} {n:Nat} {m:MS} {r:RS}
theorem Y4 {st:D} {stn:Bool} (hst:st.rows=S.rows) (hs:len S < 1000) {key:D} (hk:0≤fd S key):∃(out:D) (b:Bool),En st (.bool stn) key=.row [.int 1,out,.bool b]∧0 < len out∧∀c,c < 3→cl out 0 c=cl S (fd S key) c:=by
 have E:∀(k j:Nat) (out:D) (b:Bool),j + k=len S→len out≤j→((len out=0∧fdG (fun i=>D.strEq (cl S i 0) key) k j=fd S key)∨(0 < len out∧∀c,c < 3→cl out 0 c=cl S (fd S key) c))→
   ∃(out':D) (b':Bool),Qq out (.bool b) st (.bool stn) (.int j) key=.row [.int 1,out',.bool b']∧0 < len out'∧∀c,c < 3→cl out' 0 c=cl S (fd S key) c:=by
  intro k
  induction k with
  | zero=>
   intro j out b hj hl hc;rw [bH,ifF (by rw [B5 hst];omega)]
   rcases hc with ⟨_,q⟩ | q
   ·have:fdG (fun i=>D.strEq (cl S i 0) key) 0 j = -1:=rfl
    omega
   ·exact ⟨out,b,rfl,q⟩
  | succ k ih=>
   intro j out b hj hl hc;have F:fdG (fun i=>D.strEq (cl S i 0) key) (k + 1) j=cond (D.strEq (cl S j 0) key) (j:Int) (fdG (fun i=>D.strEq (cl S i 0) key) k (j + 1)):=rfl
   rw [bH,ifT (by rw [B5 hst];omega),ifF (by omega)]
   simp only [OJ hst];rw [A0 (i:=j) (by omega)]
   cases q:D.strEq (cl S j 0) key
   ·rw [q] at F;refine ih (j + 1) out b (by omega) (by omega) ?_
    rcases hc with ⟨z,p⟩ | p
    ·exact .inl ⟨z,F.symm.trans p⟩
    ·exact .inr p
   ·rw [q] at F;rw [cT rfl,ifT (by omega)]
    refine ih (j + 1) _ false (by omega) (by rw [AN];omega) (.inr ⟨by rw [AN];omega,fun c hc'=>?_⟩)
    rcases hc with ⟨z,p⟩ | ⟨p0,p⟩
    ·have p':(j:Int)=fd S key:=F.symm.trans p;rw [Cj (by omega),if_pos (by omega),p']
     match c,hc' with
     | 0,_=>rfl
     | 1,_=>rfl
     | 2,_=>rfl
    ·rw [Cj (by omega),if_neg (by omega)]
     exact p c hc'
 obtain ⟨out,b,q1,q2⟩:=E (len S) 0 Aw true (by omega) (Nat.le_refl _) (.inl ⟨rfl,rfl⟩)
 exact ⟨out,b,(lu ..).trans q1,q2⟩
theorem Qe (so:Zp S) (hs:len S < 1000) (wt:∀i:Nat,i < len S→0≤(cl S i 2).toInt∧(cl S i 2).toInt≤1048576) {st:D} {stn:Bool} (hst:st.rows=S.rows) {due dn hp:D} {hn:Bool} {o:Option Int} (ck:CK due dn hp hn o) {now:Int} (hl:len hp < 1000) (n0:0≤now) (n1:now≤1099511627776) {key:D} (hk:0≤fd S key)
  (b nm ct sp an ev:D) (bn ctn spn af ov en:Bool) (aw:Int):∃(af':Bool) (aw':Int) (dn' hp' due':D) (hn':Bool),cl S (fd S key) 1=.bool af'∧cl S (fd S key) 2=.int aw'∧
   DB b (.bool bn) nm st (.bool stn) ct (.bool ctn) sp (.bool spn) an (.bool af) (.int aw) (.int now) due dn hp (.bool hn) (.bool ov) ev (.bool en) key=.row [.int 1,cl S (fd S key) 0,.bool af',.int aw',dn',hp',.bool hn',due']∧
   len hp'≤len hp + 1∧∃o',CK due' dn' hp' hn' o'∧TI false o' now aw' now:=by
 obtain ⟨g1,g2⟩:=GE hk;obtain ⟨af',aw',a1,a2⟩:=so _ g2;have w:=wt _ g2;rw [g1] at a1 a2 w;rw [a2] at w;obtain ⟨out,ob,k1,k2,k3⟩:=Y4 (stn:=stn) hst hs hk;obtain ⟨e,due1,s1,s2⟩:=Zi (now:=now) ck;have c0:=k3 0 (by omega)
 have c1:=k3 1 (by omega)
 have c2:=k3 2 (by omega)
 rw [a1] at c1;rw [a2] at c2;have w:0≤aw'∧aw'≤1048576:=w;by_cases q:0 < aw'
 ·obtain ⟨e2,dn',hp',due',hn',p1,p2,p3⟩:=V4 (now:=now) (w:=aw') s2 hl n0 n1 w.1 w.2;refine ⟨af',aw',dn',hp',due',hn',a1,a2,?_,p2,_,p3,w.1,w.2,n0,Int.le_refl _,n1,(fun c=>nomatch c),fun _ _=>?_,fun z=>by omega⟩
  ·rw [b8,k1,s1];simp only [Be,A9,tI,tB,decide_true,cond_true,c0,c1,c2,p1];rw [iT (by omega),iT q]
  ·by_cases z:now + aw'≤1099511627776
   ·rw [if_pos z];exact .inl ⟨z,rfl,by omega⟩
   ·rw [if_neg z];exact .inr ⟨by omega,rfl⟩
 ·have z:aw'=0:=by omega
  subst z;refine ⟨af',0,dn,hp,due1,hn,a1,a2,?_,by omega,none,s2,w.1,w.2,n0,Int.le_refl _,n1,(fun c=>nomatch c),fun _ c=>absurd c (Int.lt_irrefl 0),fun _=>⟨rfl,rfl⟩⟩
  ·rw [b8,k1,s1];simp only [Be,A9,tI,tB,decide_true,cond_true,c0,c1,c2];rw [iT (by omega),iF (by omega)]
theorem Xw {V b d:D} {bn:Bool} (rk:Rk S C T) (hb:Bk b C V) (hd:Df d C) {k:Nat} (hk:k < len T) (ha:alw C V T k=true):∃b' V',BB b (.bool bn) (cl T k 0) (cl T k 1) (cl T k 2) (cl T k 3) (cl T k 4) (cl T k 5) (cl T k 6) (cl T k 7) (cl T k 8)=.row [.int 1,.int 0,b']∧PQ d V (cl T k 0) (cl T k 1) (cl T k 2) (cl T k 3) (cl T k 4) (cl T k 5) (cl T k 6) (cl T k 7) (cl T k 8)=.row [.int 1,d,V',.int 0]∧Bk b' C V':=by
 have A:=O0 (bn:=bn) rk hb hk;have A2:=Xt rk hb hd hk;obtain ⟨⟨n2,h2⟩,⟨n6,h6⟩,⟨n7,h7⟩,⟨n8,h8⟩,_⟩:=rk.tI k hk;have c1:=rk.c1;have lb:=hb.lb;have lv:=hb.lv;have ef:=Jc hb.lb hb.nm (cl T k 5);have ef2:=Jc hd.ld hd.nm (cl T k 5);have ld:=hd.ld;rw [ha] at A A2;have ha':=ha;unfold alw at ha';rw [h2,h6,h7,h8] at A A2 ⊢;rcases rk.ctr k hk with ⟨q,_⟩ | ⟨q,q0,q1,q2,q3,q4,q5,q6,q7⟩
 ·refine ⟨b,V,?_,?_,hb⟩
  ·rw [UB,A];simp only [Be,A9,tI,tB,decide_true,cond_true,q]
  ·rw [bQ,A2];simp only [Be,A9,tI,tB,decide_true,cond_true,q]
 rw [q,h6,h7] at ha';rw [h6,h7,h8] at *;simp only [Aq] at *;obtain ⟨g1,g2⟩:=GE q0;obtain ⟨x,v1,v2,v3,v4⟩:=hb.vl _ g2;have lim:=rk.lim _ g2;rw [g1] at v1 v2 v4 lim;rw [v2] at ha';simp only [Aq,Bool.false_or,Bool.and_eq_true,Bool.not_eq_true'] at ha';have i1:=dF ha'.1;have i2:=dF ha'.2;generalize hi:(fd C (cl T k 5)).toNat=i at g1 g2;have F10:=MJ (b:=b) (bn:=bn) (by omega) (cl T k 5)
 have F45:=Wr (d:=d) (by omega) V (cl T k 5)
 rw [ef,← g1] at F10;rw [ef2,← g1] at F45;rw [← g1] at v1 v2 v4 lim q3 q7;have wc:Wd (ct Ar V) 1:=hb.wv;have lc:len (ct Ar V)=len V:=rfl;have vc:cl (ct Ar V) i 0=cl V i 0:=rfl;refine ⟨upd b i 2 (.int (x + n8)),ni (upd (ct Ar V) i 0 (.int (x + n8))) false,?_,?_,?_⟩
 ·rw [UB,A,F10];simp only [Be,A9,tI,tB,decide_true,cond_true,q,cond_false,v1];rw [iF (by omega),iT (by omega),AO (by omega) (by omega)]
 ·rw [bQ,A2,F45,ifT (p:=(len V:Int) < 1048576) (by omega)]
  simp only [Be,A9,tI,tB,decide_true,cond_true,q,cond_false,vc,v2];rw [iF (by omega),iT (by omega),AO (by omega) (by omega)]
 ·refine ⟨by rw [CC];exact lb,by rw [Jv,CC];exact lv,Db hb.wb,Db wc,fun j hj=>?_,fun j hj=>?_,fun j hj=>?_⟩
  ·rw [Ct hb.wb (by omega) (by omega) (by omega) (by omega),if_neg (by omega)]
   exact hb.nm j hj
  ·rw [Ct hb.wb (by omega) (by omega) (by omega) (by omega),if_neg (by omega)]
   exact hb.lm j hj
  ·rw [Ct hb.wb (by omega) (by omega) (by omega) (by omega),TU,Ct wc (by omega) (by omega) (by omega) (by omega)]
   by_cases z:(j:Int)=i
   ·rw [if_pos ⟨z,rfl⟩,if_pos ⟨z,rfl⟩];have:j=i:=by omega
    subst this;exact ⟨_,rfl,rfl,by omega,by omega⟩
   ·rw [if_neg (fun c=>z c.1),if_neg (fun c=>z c.1)]
    exact hb.vl j hj
end
end Us
namespace Us
open Go Go.AE
theorem GW {V:D} {i:Int} {c:Nat}:cl (ct Ar V) i c=cl V i c:=by unfold cl;rfl
section
variable [Ao]
variable {S C T N:D} {n:Nat} {m:MS} {r:RS}
theorem LU (h:Inv S C T n m r) (hn:n < 900) (N:D) {t:Int} (t0:r.time≤t) (t1:t≤1099511627776) {late:Bool} (hl:0 < m.aw→late = !decide (t - r.ent < m.aw)) {due2 dn1 hp2:D} {b1:Bool} (w3:len hp2≤n) (w4:∃o',CK due2 dn1 hp2 b1 o'∧TI late o' r.ent m.aw t) {k:Nat} (hk:k < len T) (hc:MC C r.vals T m.an late k=true) (ov:Bool) :
  ∃(an':D) (af':Bool) (aw':Int) (b' dn' hp' due':D) (hn':Bool) (r':RS),
   Tv m.b (.bool m.bn) m.nm m.st (.bool m.stn) m.ct (.bool m.ctn) m.sp (.bool m.spn) m.an (.bool m.af) (.int m.aw) (.int m.now) m.due m.dn m.hp (.bool m.hn) (.bool ov) m.ev (.bool m.en) (.int t) due2 dn1 hp2 (.bool b1) (.bool late) (.int t) (.int k)
    = .row [.int 1,an',.bool af',.int aw',ad m.ev (.row [.int k,.int t]),.bool false,b',.bool m.bn,.int m.now,m.dn,m.hp,.bool m.hn,m.due,.int t,dn',hp',.bool hn',due']∧
   NO N S C T r.at' (.int r.ent) r.defs r.vals (.int r.time) r.evs (.int t) (.int k)=.row [.int 1,N,S,C,T,r'.at',.int r'.ent,r'.defs,r'.vals,.int r'.time,r'.evs,.int 0]∧
   Inv S C T (n + 1) {m with an:=an',af:=af',aw:=aw',ov:=false,ev:=ad m.ev (.row [.int k,.int t]),en:=false,b:=b',now:=t,dn:=dn',hp:=hp',due:=due',hn:=hn'} r':=by
 obtain ⟨o',ck,ti⟩:=w4;have e0:=ti.e0;have e1:=ti.e1;have tl:=h.rk.t1;have hc':=hc;unfold MC at hc';simp only [Bool.and_eq_true] at hc';obtain ⟨b',V',p1,p2,p3⟩:=Xw (bn:=m.bn) h.rk h.bk h.df hk hc'.2.1;have to:=h.rk.to k hk;have E:=Qe h.so h.rk.s1 h.rk.wt (stn:=m.stn) h.st ck (now:=t) (by omega) (by omega) t1 to b' m.nm m.ct m.sp m.an m.ev m.bn m.ctn m.spn m.af late m.en m.aw
 obtain ⟨af',aw',dn',hp',due',hn',a1,a2,q1,q3,q4⟩:=E;have Q:=Wf h N r.time r.evs (now:=t) (by omega) t1 hk
 rw [← WL h hl hk,hc] at Q;have el:=h.el;have el':=h.el';have le:len (ct Ar r.evs)=len r.evs:=by unfold len;rfl
 refine ⟨cl S (fd S (cl T k 1)) 0,af',aw',b',dn',hp',due',hn',⟨cl T k 1,t,r.defs,V',t,ni (ad (ct Ar r.evs) (.row [.int k,.int t])) false⟩,?_,?_,?_⟩
 ·have L1:len b'=len m.b:=by rw [p3.lb,h.bk.lb]
  rw [lI,ifT (by omega),ifF (by omega),ifT (by rw [B5 h.sp];omega)]
  simp only [OJ h.sp];rw [p1];simp only [Be,A9,tI,decide_true,cond_true,L1];rw [q1];rfl
 ·rw [Nv,ifF (by omega),ifT (by omega),ifF (by omega),ifF (by omega),Q,p2,ifT (p:=(len r.evs:Int) < 1048576) (by omega),ifT (p:=(len (ct Ar r.evs):Int) < 1073741824) (by omega)]
  rfl
 ·obtain ⟨g1,g2⟩:=GE to;refine ⟨h.rk,h.so,h.st,h.ct,h.sp,h.spn,p3,h.bn,h.df,to,Jr to,a1,a2,rfl,q4,by show len hp'≤n + 1;omega,?_,fun j hj=>?_,(fun c=>nomatch c),?_⟩
  ·show len (ad m.ev _)=len (ni (ad (ct Ar r.evs) _) false);rw [Jv,AN,AN,le,el]
  ·have hj:j < len (ni (ad (ct Ar r.evs) (.row [.int k,.int t])) false):=hj;rw [Jv,AN,le] at hj;show (cl (ad m.ev _) j 0).toInt=(cl (ni (ad (ct Ar r.evs) _) false) j 0).toInt∧(cl (ad m.ev _) j 1).toInt=(cl (ni (ad (ct Ar r.evs) _) false) j 1).toInt;rw [TU,TU,Cj (by omega),Cj (by omega),Cj (by omega),Cj (by omega),le,el,GW,GW]
   by_cases z:(j:Int)=len r.evs
   ·refine ⟨?_,?_⟩<;>simp only [if_pos z]
   ·simp only [if_neg z];exact h.ee j (by omega)
  ·show len (ni (ad (ct Ar r.evs) _) false)≤n + 1;rw [Jv,AN,le];omega
theorem Inv.mono (h:Inv S C T n m r) {n':Nat} (hn:n≤n'):Inv S C T n' m r:={h with hl:=Nat.le_trans h.hl hn,el':=Nat.le_trans h.el' hn}
theorem nM (h:Inv S C T n m r) (hn:n < 900) (N:D) (t k:Int):∃(an':D) (af':Bool) (aw':Int) (ov':Bool) (ev':D) (en':Bool) (b':D) (now':Int) (dn' hp' due':D) (hn':Bool) (r':RS) (e:Int),
  PC m.b (.bool m.bn) m.nm m.st (.bool m.stn) m.ct (.bool m.ctn) m.sp (.bool m.spn) m.an (.bool m.af) (.int m.aw) (.int m.now) m.due m.dn m.hp (.bool m.hn) (.bool m.ov) m.ev (.bool m.en) (.int t) (.int k)=.row [.int 1,.int e,an',.bool af',.int aw',.bool ov',ev',.bool en',b',.bool m.bn,due',hp',.int now',dn',.bool hn']∧
  NO N S C T r.at' (.int r.ent) r.defs r.vals (.int r.time) r.evs (.int t) (.int k)=.row [.int 1,N,S,C,T,r'.at',.int r'.ent,r'.defs,r'.vals,.int r'.time,r'.evs,.int e]∧
  Inv S C T (n + 1) {m with an:=an',af:=af',aw:=aw',ov:=ov',ev:=ev',en:=en',b:=b',now:=now',dn:=dn',hp:=hp',due:=due',hn:=hn'} r':=by
 have nt:=h.nt;have tm0:0≤r.time:=by obtain ⟨o,_,ti⟩:=h.o;have:=ti.e0;have:=ti.e1;omega
 have same:∀e:Int,PC m.b (.bool m.bn) m.nm m.st (.bool m.stn) m.ct (.bool m.ctn) m.sp (.bool m.spn) m.an (.bool m.af) (.int m.aw) (.int m.now) m.due m.dn m.hp (.bool m.hn) (.bool m.ov) m.ev (.bool m.en) (.int t) (.int k)=.row [.int 1,.int e,m.an,.bool m.af,.int m.aw,.bool m.ov,m.ev,.bool m.en,m.b,.bool m.bn,m.due,m.hp,.int m.now,m.dn,.bool m.hn]→NO N S C T r.at' (.int r.ent) r.defs r.vals (.int r.time) r.evs (.int t) (.int k)=.row [.int 1,N,S,C,T,r.at',.int r.ent,r.defs,r.vals,.int r.time,r.evs,.int e]→
  ∃(an':D) (af':Bool) (aw':Int) (ov':Bool) (ev':D) (en':Bool) (b':D) (now':Int) (dn' hp' due':D) (hn':Bool) (r':RS) (e:Int),
  PC m.b (.bool m.bn) m.nm m.st (.bool m.stn) m.ct (.bool m.ctn) m.sp (.bool m.spn) m.an (.bool m.af) (.int m.aw) (.int m.now) m.due m.dn m.hp (.bool m.hn) (.bool m.ov) m.ev (.bool m.en) (.int t) (.int k)=.row [.int 1,.int e,an',.bool af',.int aw',.bool ov',ev',.bool en',b',.bool m.bn,due',hp',.int now',dn',.bool hn']∧
  NO N S C T r.at' (.int r.ent) r.defs r.vals (.int r.time) r.evs (.int t) (.int k)=.row [.int 1,N,S,C,T,r'.at',.int r'.ent,r'.defs,r'.vals,.int r'.time,r'.evs,.int e]∧
  Inv S C T (n + 1) {m with an:=an',af:=af',aw:=aw',ov:=ov',ev:=ev',en:=en',b:=b',now:=now',dn:=dn',hp:=hp',due:=due',hn:=hn'} r':=
  fun e h1 h2=>⟨m.an,m.af,m.aw,m.ov,m.ev,m.en,m.b,m.now,m.dn,m.hp,m.due,m.hn,r,e,h1,h2,h.mono (by omega)⟩
 by_cases k0:k < 0
 ·exact same 2 (by rw [Ks (h0:=rfl) (h1:=rfl) (h2:=rfl) (h3:=rfl) (h4:=rfl) (h5:=rfl),ifT k0]) (by rw [Nv,ifT k0])
 by_cases k1:k < len T;rotate_left
 ·exact same 2 (by rw [Ks (h0:=rfl) (h1:=rfl) (h2:=rfl) (h3:=rfl) (h4:=rfl) (h5:=rfl),ifF k0,ifF (by rw [B5 h.sp];exact k1)]) (by rw [Nv,ifF k0,ifF k1])
 by_cases c0:t < r.time
 ·exact same 3 (by rw [Ks (h0:=rfl) (h1:=rfl) (h2:=rfl) (h3:=rfl) (h4:=rfl) (h5:=rfl),ifF k0,ifT (by rw [B5 h.sp];exact k1),ifT (by omega)]) (by rw [Nv,ifF k0,ifT k1,ifT c0])
 by_cases c1:1099511627776 < t
 ·exact same 3 (by rw [Ks (h0:=rfl) (h1:=rfl) (h2:=rfl) (h3:=rfl) (h4:=rfl) (h5:=rfl),ifF k0,ifT (by rw [B5 h.sp];exact k1),ifF (by omega),ifT c1]) (by rw [Nv,ifF k0,ifT k1,ifF c0,ifT c1])
 obtain ⟨dn1,hp1,due1,out,hp2,due2,b1,on,w1,w2,w3,w4,w5⟩:=aS h hn (t:=t) (by omega) (by omega)
 obtain ⟨i,rfl⟩:∃i:Nat,k=i:=⟨k.toNat,by omega⟩
 have it:i < len T:=by omega
 have X:∀late ov,Qn m.b (.bool m.bn) m.nm m.st (.bool m.stn) m.ct (.bool m.ctn) m.sp (.bool m.spn) m.an (.bool m.af) (.int m.aw) (.int m.now) m.due m.dn m.hp (.bool m.hn) (.bool ov) m.ev (.bool m.en) (.int t) due2 dn1 hp2 (.bool b1) (.bool late) (cl m.sp i 0) (cl m.sp i 1) (cl m.sp i 2) (cl m.sp i 3) (cl m.sp i 4) (cl m.sp i 5) (cl m.sp i 6) (cl m.sp i 7) (cl m.sp i 8)=.row [.int 1,.bool (MC C r.vals T m.an late i)]:=fun late ov=>by
  simp only [OJ h.sp];exact dk (bn:=m.bn) h.rk h.bk it m.nm m.st m.ct m.sp m.an m.due m.dn m.hp m.ev due2 dn1 hp2 m.stn m.ctn m.spn m.af m.hn ov m.en b1 late m.aw m.now t
 have Q:=Wf h N r.time r.evs (now:=t) (by omega) (by omega) it
 rw [← WL h w5 it] at Q;cases hc:MC C r.vals T m.an (m.ov || decide (0 < (len out:Int))) i with
 | false=>
  rw [hc] at Q;refine same 8 ?_ (by rw [Nv,ifF k0,ifT k1,ifF c0,ifF c1,Q];rfl)
  cases hov:m.ov with
  | true=>
   rw [hov,Bool.true_or] at hc;rw [Ks (h0:=w1) (h1:=w2) (h2:=rfl) (h3:=rfl) (h4:=rfl) (h5:=X true true),ifF k0,ifT (by rw [B5 h.sp];exact k1),ifF (by omega),ifF c1,hc]
   rfl
  | false=>
   rw [hov,Bool.false_or] at hc;rw [Ks (h0:=w1) (h1:=w2) (h2:=rfl) (h3:=rfl) (h4:=X (decide (0 < (len out:Int))) false) (h5:=rfl),ifF k0,ifT (by rw [B5 h.sp];exact k1),ifF (by omega),ifF c1,hc]
   rfl
 | true=>
  cases hov:m.ov with
  | true=>
   rw [hov,Bool.true_or] at hc w4 w5;obtain ⟨an',af',aw',b',dn',hp',due',hn',r',p1,p2,p3⟩:=LU h hn N (t:=t) (by omega) (by omega) w5 w3 w4 it hc true
   refine ⟨an',af',aw',false,ad m.ev (.row [.int i,.int t]),false,b',t,dn',hp',due',hn',r',0,?_,p2,p3⟩;rw [Ks (h0:=w1) (h1:=w2) (h2:=rfl) (h3:=p1) (h4:=rfl) (h5:=X true true),ifF k0,ifT (by rw [B5 h.sp];exact k1),ifF (by omega),ifF c1,hc]
   rfl
  | false=>
   rw [hov,Bool.false_or] at hc w4 w5;obtain ⟨an',af',aw',b',dn',hp',due',hn',r',p1,p2,p3⟩:=LU h hn N (t:=t) (by omega) (by omega) w5 w3 w4 it hc false
   refine ⟨an',af',aw',false,ad m.ev (.row [.int i,.int t]),false,b',t,dn',hp',due',hn',r',0,?_,p2,p3⟩;rw [Ks (h0:=w1) (h1:=w2) (h2:=p1) (h3:=rfl) (h4:=X (decide (0 < (len out:Int))) false) (h5:=rfl),ifF k0,ifT (by rw [B5 h.sp];exact k1),ifF (by omega),ifF c1,hc]
   rfl
end
end Us
namespace Us
open Go Go.AE
section
variable [Ao]
variable {S C T N:D}
def bL (C:D):Nat→D
 | 0=>Aw
 | i + 1=>ad (bL C i) (.row [cl C i 0,cl C i 1,.int 0])
def dL (C:D):Nat→D
 | 0=>Aw
 | i + 1=>ad (dL C i) (.row [cl C i 0,cl C i 1])
def zL:Nat→D
 | 0=>Aw
 | i + 1=>ad (zL i) (.row [.int 0])
theorem JG:∀i,len (bL C i)=i
 | 0=>rfl
 | i + 1=>by rw [bL,AN,JG]
theorem OL:∀i,len (dL C i)=i
 | 0=>rfl
 | i + 1=>by rw [dL,AN,OL]
theorem Mg:∀i,len (zL i)=i
 | 0=>rfl
 | i + 1=>by rw [zL,AN,Mg]
theorem XP:∀i,Wd (bL C i) 3
 | 0=>Gg
 | i + 1=>EQ (XP i) rfl
theorem V5:∀i,Wd (zL i) 1
 | 0=>Gg
 | i + 1=>EQ (V5 i) rfl
theorem Kx:∀i j:Nat,j < i→cl (bL C i) j 0=cl C j 0∧cl (bL C i) j 1=cl C j 1∧cl (bL C i) j 2=.int 0
 | 0,j,h=>by omega
 | i + 1,j,h=>by
  rw [bL,Cj (by omega),Cj (by omega),Cj (by omega),JG]
  by_cases q:(j:Int)=i
  ·rw [if_pos q,if_pos q,if_pos q,q];exact ⟨rfl,rfl,rfl⟩
  ·rw [if_neg q,if_neg q,if_neg q];exact Kx i j (by omega)
theorem YO:∀i j:Nat,j < i→cl (dL C i) j 0=cl C j 0∧cl (dL C i) j 1=cl C j 1
 | 0,j,h=>by omega
 | i + 1,j,h=>by
  rw [dL,Cj (by omega),Cj (by omega),OL]
  by_cases q:(j:Int)=i
  ·rw [if_pos q,if_pos q,q];exact ⟨rfl,rfl⟩
  ·rw [if_neg q,if_neg q];exact YO i j (by omega)
theorem Xb:∀i j:Nat,j < i→cl (zL i) j 0=.int 0
 | 0,j,h=>by omega
 | i + 1,j,h=>by
  rw [zL,Cj (by omega),Mg]
  by_cases q:(j:Int)=i
  ·rw [if_pos q];rfl
  ·rw [if_neg q];exact Xb i j (by omega)
theorem XT (rk:Rk S C T) {i j:Nat} (hi:i < len C) (hj:j < i):D.strEq (cl C j 0) (cl C i 0)=false:=by
 have e:=rk.cid i hi;unfold fd at e;exact Co (p:=fun j=>D.strEq (cl C j 0) (cl C i 0)) (k:=len C) (i:=0) (j:=j) (Nat.zero_le _) (.inl (by rw [e];omega))
theorem YL (rk:Rk S C T):AT C=.row [.int 1,bL C (len C),.bool (decide (len C=0))]:=by
 have c1:=rk.c1
 have E:∀k i,i + k=len C→Ug C (.int (i:Nat)) (bL C i) (.bool (decide (i=0)))=.row [.int 1,bL C (len C),.bool (decide (len C=0))]:=by
  intro k
  induction k with
  | zero=>
   intro i hi;have:i=len C:=by omega
   subst this;rw [bC,ifF (by omega)]
  | succ k ih=>
   intro i hi;have l:=rk.lim i (by omega)
   have b:=JG (C:=C) i
   have z:fd (bL C i) (cl C i 0) = -1:=by
    unfold fd;rw [b];exact Ja fun j _ hj=>by rw [(Kx i j (by omega)).1];exact XT rk (by omega) (by omega)
   have F:=MJ (b:=bL C i) (bn:=decide (i=0)) (by omega) (cl C i 0)
   rw [z] at F;have nx:=ih (i + 1) (by omega)
   rw [decide_eq_false (show ¬i + 1=0 by omega)] at nx
   rw [bC,ifT (by omega),ifF (by omega),cF (rk.cne i (by omega)),ifF (by omega),ifF (by omega),F,ifT (p:=(len (bL C i):Int) < 1073741824) (by omega)]
   simp only [Be,A9,tI,decide_true,cond_true];rw [iT (by omega),A0 (i:=i) (by omega)]
   exact nx
 rw [nQ,ifF (by omega)]
 exact E (len C) 0 (by omega)
theorem fh (rk:Rk S C T):Qy C=.row [.int 1,ni (dL C (len C)) (decide (len C=0)),ni (zL (len C)) (decide (len C=0)),.int 0]:=by
 have c1:=rk.c1
 have E2:∀(i:Nat) (a b:D) (x y:Bool),i < len C→len a=i→len b=i→∀k j,j + k=i→TD C (.int (i:Nat)) (.int (j:Nat)) a (.bool x) b (.bool y)=P9 C (.int (i + 1:Nat)) (ad a (.row [cl C i 0,cl C i 1])) (.bool false) (ad b (.row [.int 0])) (.bool false):=by
  intro i a b x y hi ha hb k
  induction k with
  | zero=>
   intro j hj;rw [cr,ifF (by omega),ifF (by omega),ifT (by omega),ifT (by omega),ifT (by omega),A0 (i:=i) (by omega)]
  | succ k ih=>
   intro j hj;rw [cr,ifT (by omega),ifF (by omega),ifT (by omega),ifF (by omega),ifT (by omega),cF (XT rk hi (by omega)),A0 (i:=j) (by omega)]
   exact ih (j + 1) (by omega)
 have E:∀k i,i + k=len C→P9 C (.int (i:Nat)) (dL C i) (.bool (decide (i=0))) (zL i) (.bool (decide (i=0)))=.row [.int 1,ni (dL C (len C)) (decide (len C=0)),ni (zL (len C)) (decide (len C=0)),.int 0]:=by
  intro k
  induction k with
  | zero=>
   intro i hi;have:i=len C:=by omega
   subst this;rw [ci,ifF (by omega)]
  | succ k ih=>
   intro i hi;have l:=rk.lim i (by omega)
   have nx:=ih (i + 1) (by omega)
   rw [decide_eq_false (show ¬i + 1=0 by omega)] at nx
   rw [ci,ifT (by omega),ifF (by omega),cF (rk.cne i (by omega)),ifF (by omega),ifF (by omega)]
   exact (E2 i _ _ _ _ (by omega) (OL i) (Mg i) i 0 (by omega)).trans nx
 rw [sR,ifF (by omega)]
 exact E (len C) 0 (by omega)
def D5 (a:D):Prop:=a.isNil=true→a.rows=[]
theorem Za (h:D5 S) (hs:len S < 1000):∃(l:D) (b:Bool),CR S=.row [.int 1,l,.bool b]∧l.rows=S.rows∧(b=true→S.rows=[])∧b=S.isNil:=by
 rw [mR];cases q:S.isNil
 ·rw [cF rfl,ifT (by omega)];exact ⟨ct Ar S,false,rfl,rfl,(fun c=>nomatch c),rfl⟩
 ·exact ⟨Aw,true,rfl,(h q).symm,fun _=>h q,rfl⟩
theorem ZR (h:D5 S) (hs:len S < 1000):∃(l:D) (b:Bool),CS S=.row [.int 1,l,.bool b]∧l.rows=S.rows∧(b=true→S.rows=[])∧b=S.isNil:=by
 rw [jj];cases q:S.isNil
 ·rw [cF rfl,ifT (by omega)];exact ⟨ct Ar S,false,rfl,rfl,(fun c=>nomatch c),rfl⟩
 ·exact ⟨Aw,true,rfl,(h q).symm,fun _=>h q,rfl⟩
theorem Zd (h:D5 S) (hs:len S < 1000):∃(l:D) (b:Bool),CT S=.row [.int 1,l,.bool b]∧l.rows=S.rows∧(b=true→S.rows=[])∧b=S.isNil:=by
 rw [oO];cases q:S.isNil
 ·rw [cF rfl,ifT (by omega)];exact ⟨ct Ar S,false,rfl,rfl,(fun c=>nomatch c),rfl⟩
 ·exact ⟨Aw,true,rfl,(h q).symm,fun _=>h q,rfl⟩
theorem eZ (rk:Rk S C T) (so:Zp S) (n1:D5 S) (n2:D5 C) (n3:D5 T) (hs:Gt N S C T=0):∃(m:MS) (r:RS),
  Cs N S C T=.row [.int 1,N,m.st,.bool m.stn,m.ct,.bool m.ctn,m.sp,.bool m.spn,m.an,.bool m.af,.int m.aw,Aw,m.b,.bool m.bn,m.dn,m.hp,.bool m.hn,m.due]∧
  El N S C T=.row [.int 1,N,S,C,T,r.at',r.defs,r.vals,.int 0]∧Inv S C T 1 m r∧
  m.nm=N∧m.now=0∧m.ov=false∧m.ev=Aw∧m.en=true∧r.ent=0∧r.time=0∧r.evs=Aw∧m.stn=S.isNil∧m.ctn=C.isNil∧m.spn=T.isNil:=by
 have s0:=rk.s0;have s1:=rk.s1;have c1:=rk.c1;have t1:=rk.t1;obtain ⟨i9,q9⟩:=LI (v1:=S) (v2:=C) rk.tI (by omega) s1 (by omega) N
 obtain ⟨i28,q28⟩:=PJ (v1:=S) (v2:=C) rk.tI (by omega) s1 (by omega) N
 rw [hs] at q9 q28;obtain ⟨a12,b12,q12,r12,z12,i12⟩:=Za n1 (by omega)
 obtain ⟨a13,b13,q13,r13,z13,i13⟩:=ZR n2 (by omega)
 obtain ⟨a14,b14,q14,r14,z14,i14⟩:=Zd n3 (by omega)
 have q11:=YL rk;have q29:=fh rk;have k0:fd S (cl S (0:Nat) 0)=(0:Nat):=rk.sid 0 s0;have k0:fd S (cl S 0 0)=0:=k0;have ck:CK Ar (.bool true) Aw true none:=⟨rfl,Gg,fun j hj=>by rw [CO] at hj;omega,fun _=>rfl,fun d c=>nomatch c⟩
 obtain ⟨af',aw',dn',hp',due',hn',e1,e2,e3,e4,e5⟩:=Qe so s1 rk.wt (st:=a12) (stn:=b12) r12 ck (now:=0) (by rw [CO];omega) (by omega) (by omega) (key:=cl S 0 0) (by omega) (bL C (len C)) N a13 a14 (CN 0 0) Aw (decide (len C=0)) b13 b14 false false true 0
 rw [k0] at e1 e2 e3;rw [CO] at e4;have bk:Bk (bL C (len C)) C (ni (zL (len C)) (decide (len C=0))):=⟨JG _,Mg _,XP _,V5 _,fun j hj=>(Kx _ j hj).1,fun j hj=>(Kx _ j hj).2.1,fun j hj=>⟨0,(Kx _ j hj).2.2,Xb _ j hj,by omega,by have:=rk.lim j hj;omega⟩⟩
 have df:Df (ni (dL C (len C)) (decide (len C=0))) C:=⟨OL _,fun j hj=>(YO _ j hj).1,fun j hj=>(YO _ j hj).2⟩
 refine ⟨⟨bL C (len C),decide (len C=0),N,a12,b12,a13,b13,a14,b14,cl S 0 0,af',aw',0,due',dn',hp',hn',false,Aw,true⟩,⟨cl S 0 0,0,ni (dL C (len C)) (decide (len C=0)),ni (zL (len C)) (decide (len C=0)),0,Aw⟩,?_,?_,?_,rfl,rfl,rfl,rfl,rfl,rfl,rfl,rfl,i12,i13,i14⟩
 ·rw [bu,q9,q11,q12,q13,q14];simp only [Be,A9,tI,tB,decide_true,cond_true];rw [iT (by omega)]
  rw [e3];rfl
 ·rw [bD,q28,q29];simp only [Be,A9,tI,tB,decide_true,cond_true];rw [iT (by omega)]
 ·exact ⟨rk,so,r12,r13,r14,z14,bk,fun c=>dT c,df,by show 0≤fd S (cl S 0 0);omega,Ca,by show cl S (fd S (cl S 0 0)) 1=_;rw [k0];exact e1,by show cl S (fd S (cl S 0 0)) 2=_;rw [k0];exact e2,rfl,e5,by show len hp'≤1;omega,rfl,fun j hj=>(by have hj:j < len Aw:=hj;rw [CO] at hj;omega),fun _=>rfl,by show len Aw≤1;rw [CO];omega⟩
end
end Us
namespace Us
open Go Go.AE
abbrev Key:=Int × Int × Int × Int × Int
def kc (k:Key):Nat→Int
 | 0=>k.2.1
 | 1=>k.2.2.1
 | 2=>k.2.2.2.1
 | 3=>k.2.2.2.2
 | _=>0
structure KOk (S C:D) (k:Key):Prop where
 s0:0≤k.1
 s1:k.1 < len S
 v0:∀j:Nat,j < len C→0≤kc k j∧kc k j≤(cl C j 1).toInt
 v1:∀j:Nat,len C≤j→kc k j=0
def en (S C T:D) (k:Key) (s:Nat):Bool:=D.strEq (cl T s 0) (cl S k.1 0) && (decide (fd C (cl T s 5) < 0) || (!decide (kc k (fd C (cl T s 5)).toNat < (cl T s 6).toInt) && !decide ((cl T s 7).toInt < kc k (fd C (cl T s 5)).toNat)))
def nv (C T:D) (k:Key) (s j:Nat):Int:=if fd C (cl T s 5)=j then kc k j + (cl T s 8).toInt else kc k j
def nx (S C T:D) (k:Key) (s:Nat):Key:=(fd S (cl T s 1),nv C T k s 0,nv C T k s 1,nv C T k s 2,nv C T k s 3)
theorem Td {S C T:D} {k:Key} {s j:Nat} (h:j < 4):kc (nx S C T k s) j=nv C T k s j:=by
 match j,h with
 | 0,_=>rfl
 | 1,_=>rfl
 | 2,_=>rfl
 | 3,_=>rfl
theorem Yd {k:Key} {j:Nat} (h:4≤j):kc k j=0:=by
 match j,h with
 | j + 4,_=>rfl
theorem Z9 {k k':Key} (h:k.1=k'.1) (hv:∀j,j < 4→kc k j=kc k' j):k=k':=by
 obtain ⟨a,b,c,d,e⟩:=k;obtain ⟨a',b',c',d',e'⟩:=k';have h0:=hv 0 (by omega)
 have h1:=hv 1 (by omega)
 have h2:=hv 2 (by omega)
 have h3:=hv 3 (by omega)
 simp only [kc] at h0 h1 h2 h3;simp only at h;subst h h0 h1 h2 h3;rfl
theorem TQ {S C T:D} (hR:Rk S C T) {k:Key} (hk:KOk S C k) {s:Nat} (hs:s < len T) (he:en S C T k s=true):KOk S C (nx S C T k s):=by
 have hc1:=hR.c1;have lt:=B0 (l:=S) (key:=cl T s 1);have ltc:=B0 (l:=C) (key:=cl T s 5);refine ⟨hR.to s hs,lt,fun j hj=>?_,fun j hj=>?_⟩
 ·rw [Td (by omega)]
  unfold nv;have b:=hk.v0 j hj;by_cases c:fd C (cl T s 5)=j
  ·rw [if_pos c];unfold en at he;simp only [Bool.and_eq_true,Bool.or_eq_true,Bool.not_eq_true',decide_eq_true_eq] at he;obtain ⟨_,he⟩:=he;rcases he with he | ⟨h1,h2⟩
   ·omega
   ·have h1:=dF h1;have h2:=dF h2;rw [c] at h1 h2;rcases hR.ctr s hs with ⟨_,q⟩ | ⟨_,q1,q2,q3,q4,q5,q6,q7,q8⟩
    ·omega
    ·rw [c] at q4 q8;have e:(j:Int).toNat=j:=by omega
     rw [e] at h1 h2;omega
  ·rw [if_neg c];exact b
 ·by_cases c:j < 4
  ·rw [Td c];unfold nv;rw [if_neg (by omega)]
   exact hk.v1 j hj
  ·exact Yd (by omega)
def bkR (C:D) (g:Nat→Int) (i:Nat):List D:=(List.range i).map fun (j:Nat)=>.row [cl C j 0,cl C j 1,.int (g j)]
def bk (C:D) (g:Nat→Int) (i:Nat):D:=.slc (decide (i=0)) (bkR C g i)
end Us
namespace Us
open Go Go.AE
section
variable [Ao]
variable {S C T N X V b d:D} {bn:Bool}
def CP (k:Key):Nat→D
 | 0=>Ar
 | i + 1=>ad (CP k i) (.row [.int (kc k i)])
theorem GF {k:Key}:∀i,len (CP k i)=i
 | 0=>rfl
 | i + 1=>by rw [CP,AN,GF]
theorem Pm {k:Key}:∀i,Wd (CP k i) 1
 | 0=>Ey
 | i + 1=>EQ (Pm i) rfl
theorem F7 {k:Key}:∀i j:Nat,j < i→cl (CP k i) j 0=.int (kc k j)
 | 0,j,h=>by omega
 | i + 1,j,h=>by
  rw [CP,Cj (by omega),GF]
  by_cases q:(j:Int)=i
  ·rw [if_pos q];have:j=i:=by omega
   subst this;rfl
  ·rw [if_neg q];exact F7 i j (by omega)
theorem eH (rk:Rk S C T) (hb:Bk b C V) (hX:Wd X 1) (hl:len X=len C) (hI:∀i:Nat,i < len C→∃n,cl X i 0=.int n∧0≤n∧n≤(cl C i 1).toInt) :
  ∃b':D,D0 b (.bool bn) X=.row [.int 1,.int 0,b']∧Bk b' C X:=by
 have c1:=rk.c1;have lb:=hb.lb
 have W:∀k j (b':D),j + k=len X→len b'=len C→Wd b' 3→(∀i:Nat,i < len C→cl b' i 0=cl C i 0∧cl b' i 1=cl C i 1)→(∀i:Nat,i < j→cl b' i 2=cl X i 0)→
   ∃b2,PT X (.int (len X:Int)) (.int (j:Nat)) b' (.bool bn)=.row [.int 1,.int 0,b2]∧len b2=len C∧Wd b2 3∧(∀i:Nat,i < len C→cl b2 i 0=cl C i 0∧cl b2 i 1=cl C i 1)∧(∀i:Nat,i < len X→cl b2 i 2=cl X i 0):=by
  intro k
  induction k with
  | zero=>
   intro j b' hj h1 h2 h3 h4;exact ⟨b',by rw [bG,ifF (by omega)],h1,h2,h3,fun i hi=>h4 i (by omega)⟩
  | succ k ih=>
   intro j b' hj h1 h2 h3 h4;have CU:∀(i:Nat) (c:Nat),cl (upd b' j 2 (cl X j 0)) i c=if (i:Int)=j∧c=2 then cl X j 0 else cl b' i c:=fun i c=>Ct h2 (by omega) (by omega) (by omega) (by omega)
   rw [bG,ifT (by omega),ifF (by omega),ifT (by omega),ifT (by omega),A0 (i:=j) (by omega)]
   refine ih (j + 1) _ (by omega) (by rw [CC];exact h1) (Db h2) (fun i hi=>?_) (fun i hi=>?_)
   ·rw [CU i 0,CU i 1,if_neg (by omega),if_neg (by omega)]
    exact h3 i hi
   ·rw [CU i 2];by_cases z:i=j
    ·subst z;rw [if_pos ⟨rfl,rfl⟩]
    ·rw [if_neg (by omega)];exact h4 i (by omega)
 have L:∀k j,j + k=len X→T8 X (.int (j:Nat)) b (.bool bn)=PT X (.int (len X:Int)) (.int (0:Nat)) b (.bool bn):=by
  intro k
  induction k with
  | zero=>
   intro j hj;rw [bo,ifF (by omega)];rfl
  | succ k ih=>
   intro j hj;obtain ⟨n,n1,n2,n3⟩:=hI j (by omega)
   rw [bo,ifT (by omega),ifF (by omega),n1]
   simp only [tI];rw [iF (by omega),iT (by omega),hb.lm j (by omega),iF (by omega),A0 (i:=j) (by omega)]
   exact ih (j + 1) (by omega)
 obtain ⟨b2,w1,w2,w3,w4,w5⟩:=W (len X) 0 b (by omega) lb hb.wb (fun i hi=>⟨hb.nm i hi,hb.lm i hi⟩) (fun i hi=>by omega)
 refine ⟨b2,?_,w2,hl,w3,hX,fun j hj=>(w4 j hj).1,fun j hj=>(w4 j hj).2,fun j hj=>?_⟩
 ·rw [mq,ifT (by omega)]
  exact (L (len X) 0 (by omega)).trans w1
 ·obtain ⟨n,n1,n2,n3⟩:=hI j hj;exact ⟨n,by rw [w5 j (by omega)];exact n1,n1,n2,n3⟩
theorem Z1 {k:Key} (hk:KOk S C k):∀i:Nat,i < len C→∃n,cl (CP k (len C)) i 0=.int n∧0≤n∧n≤(cl C i 1).toInt:=fun i hi=>⟨kc k i,F7 _ _ hi,(hk.v0 i hi).1,(hk.v0 i hi).2⟩
theorem Uh (rk:Rk S C T) {k:Key} (hk:KOk S C k) (N:D):∃b':D,AK (.int k.1) (.int k.2.1) (.int k.2.2.1) (.int k.2.2.2.1) (.int k.2.2.2.2) N S C T=.row [.int 1,.int (len C:Nat),.bool (decide (len C=0)),b']∧Bk b' C (CP k (len C)):=by
 have c1:=rk.c1;have q11:=YL rk;have b0:Bk (bL C (len C)) C (zL (len C)):=⟨JG _,Mg _,XP _,V5 _,fun j hj=>(Kx _ j hj).1,fun j hj=>(Kx _ j hj).2.1,fun j hj=>⟨0,(Kx _ j hj).2.2,Xb _ j hj,by omega,by have:=rk.lim j hj;omega⟩⟩
 obtain ⟨b',p1,p2⟩:=eH (bn:=decide (len C=0)) rk b0 (Pm (k:=k) (len C)) (GF _) (Z1 hk);refine ⟨b',?_,p2⟩;rw [mb,q11];simp only [Be,A9,tI,tB,decide_true,cond_true,JG];by_cases c0:len C=0
 ·rw [c0] at p1 ⊢;rw [iT (by omega),show D0 (bL C 0) (.bool (decide (0=0))) Ar=_ from p1]
  rfl
 rw [iF (by omega)]
 by_cases c2:len C=1
 ·rw [c2] at p1 ⊢;rw [iT (by omega),show D0 (bL C 1) (.bool (decide (1=0))) (ad Ar (.row [.int k.2.1]))=_ from p1]
  rfl
 rw [iF (by omega)]
 by_cases c3:len C=2
 ·rw [c3] at p1 ⊢;rw [iT (by omega),show D0 (bL C 2) (.bool (decide (2=0))) (ad (ad Ar (.row [.int k.2.1])) (.row [.int k.2.2.1]))=_ from p1]
  rfl
 rw [iF (by omega)]
 by_cases c4:len C=3
 ·rw [c4] at p1 ⊢;rw [iT (by omega),show D0 (bL C 3) (.bool (decide (3=0))) (ad (ad (ad Ar (.row [.int k.2.1])) (.row [.int k.2.2.1])) (.row [.int k.2.2.2.1]))=_ from p1]
  rfl
 rw [iF (by omega)]
 have c5:len C=4:=by omega
 rw [c5] at p1 ⊢;rw [iT (by omega),show D0 (bL C 4) (.bool (decide (4=0))) (ad (ad (ad (ad Ar (.row [.int k.2.1])) (.row [.int k.2.2.1])) (.row [.int k.2.2.2.1])) (.row [.int k.2.2.2.2]))=_ from p1]
 rfl
end
end Us
namespace Us
open Go Go.AE
def Dv (l:List Nat):D:=.slc l.isEmpty (l.map fun s=>.row [.int (s:Nat)])
theorem EC {l:List Nat}:len (Dv l)=l.length:=by unfold Dv len;simp [D.rows]
theorem TH {l:List Nat} {s:Nat}:ad (Dv l) (.row [.int s])=Dv (l ++ [s]):=by
 unfold Dv ad;simp [D.rows]
theorem Pp {l:List Nat} {j s:Nat} (h:l[j]? = some s):cl (Dv l) j 0=.int s:=by
 show (((l.map fun (s:Nat)=>D.row [.int s])[j]?).getD default).cells.getD 0 default=_
 rw [List.getElem?_map,h];rfl
theorem Ok {F:List Nat→Nat→D} {p:Nat→Bool} {n:Nat}:∀{k i:Nat} {acc:List Nat},i + k=n→acc.length≤i→(∀(acc:List Nat) (j:Nat),j < n→acc.length≤j→F acc j=cond (p j) (F (acc ++ [j]) (j + 1)) (F acc (j + 1)))→F acc i=F (acc ++ (List.range' i k).filter p) n
 | 0,i,acc=>fun h _ _=>by
  have:i=n:=by omega
  subst this;simp
 | k + 1,i,acc=>fun h ha hs=>by
  rw [hs acc i (by omega) ha,List.range'_succ]
  cases q:p i
  ·rw [cond_false,Ok (k:=k) (i:=i + 1) (by omega) (by omega) hs,List.filter_cons_of_neg (by simp [q])]
  ·rw [cond_true,Ok (k:=k) (i:=i + 1) (by omega) (by simp;omega) hs,List.filter_cons_of_pos (by simp [q]),List.append_assoc]
   rfl
def enl (S C T:D) (k:Key):List Nat:=(List.range' 0 (len T)).filter (en S C T k)
theorem Ld {S C T:D} {k:Key} {s:Nat} (h:s ∈ enl S C T k):s < len T∧en S C T k s=true:=by
 have:=List.mem_filter.1 h;have m:=List.mem_range'.1 this.1;exact ⟨by omega,this.2⟩
theorem O8 {S C T:D} {k:Key}:(enl S C T k).length≤len T:=by
 have:=List.length_filter_le (en S C T k) (List.range' 0 (len T));unfold enl;simpa using this
section
variable [Ao]
variable {S C T N X V b d:D} {bn:Bool}
theorem XQ (rk:Rk S C T) {k:Key} {s:Nat} (hs:s < len T):en S C T k s=(D.strEq (cl T s 0) (cl S k.1 0) && alw C (CP k (len C)) T s):=by
 unfold en alw;rcases rk.ctr s hs with ⟨q,q2⟩ | ⟨q,q0,_⟩
 ·rw [q,q2,decide_eq_true (show (-1:Int) < 0 by omega)]
  rfl
 ·obtain ⟨g1,g2⟩:=GE q0;have e:cl (CP k (len C)) (fd C (cl T s 5)) 0=.int (kc k (fd C (cl T s 5)).toNat):=by rw [← g1];exact F7 _ _ g2
  rw [q,decide_eq_false (show ¬fd C (cl T s 5) < 0 by omega),e]
  rfl
theorem SA (rk:Rk S C T) {k:Key} (hk:KOk S C k) (N:D):Qk (.int k.1) (.int k.2.1) (.int k.2.2.1) (.int k.2.2.2.1) (.int k.2.2.2.2) N S C T=.row [.int 1,Dv (enl S C T k),.bool (enl S C T k).isEmpty]:=by
 have hc:=rk.c1;have ht:=rk.t1;have h0:=hk.s0;have h1:=hk.s1;obtain ⟨b,p1,p2⟩:=Uh rk hk N;have lb:=p2.lb;rw [hQ,p1];simp only [Be,A9,tI,decide_true,cond_true]
 have G:=Ok (F:=fun acc i=>GA (Dv acc) (.bool acc.isEmpty) T (.int (i:Nat)) (.int k.1) (.int k.2.1) (.int k.2.2.1) (.int k.2.2.2.1) (.int k.2.2.2.2) N S C (.int (len C:Nat)) (.bool (decide (len C=0))) b) (p:=en S C T k) (n:=len T) (k:=len T) (i:=0) (acc:=[]) (by omega) (Nat.le_refl _) (fun acc j hj ha=>by
  show GA (Dv acc) (.bool acc.isEmpty) T (.int (j:Nat)) (.int k.1) (.int k.2.1) (.int k.2.2.1) (.int k.2.2.2.1) (.int k.2.2.2.2) N S C (.int (len C:Nat)) (.bool (decide (len C=0))) b =
   cond (en S C T k j) (GA (Dv (acc ++ [j])) (.bool (acc ++ [j]).isEmpty) T (.int (j + 1:Nat)) (.int k.1) (.int k.2.1) (.int k.2.2.1) (.int k.2.2.2.1) (.int k.2.2.2.2) N S C (.int (len C:Nat)) (.bool (decide (len C=0))) b)
    (GA (Dv acc) (.bool acc.isEmpty) T (.int (j + 1:Nat)) (.int k.1) (.int k.2.1) (.int k.2.2.1) (.int k.2.2.2.1) (.int k.2.2.2.2) N S C (.int (len C:Nat)) (.bool (decide (len C=0))) b)
  rw [bq,ifT (by omega),ifF (by omega)]
  simp only [tI];rw [iT (by omega),O0 (bn:=decide (len C=0)) rk p2 hj]
  simp only [Be,A9,tI,tB,decide_true,cond_true];rw [iF (by omega),iT (by omega),A0 (by omega),EC,iT (by omega),TH,lb]
  have e2:(acc ++ [j]).isEmpty=false:=by simp
  rw [XQ rk hj,e2];cases alw C (CP k (len C)) T j<;>cases D.strEq (cl T j 0) (cl S k.1 0)<;>simp only [cond_true,cond_false,Bool.and_true,Bool.and_false,Bool.true_and,Bool.false_and])
 have G:GA Aw (.bool true) T (.int 0) (.int k.1) (.int k.2.1) (.int k.2.2.1) (.int k.2.2.2.1) (.int k.2.2.2.2) N S C (.int (len C:Nat)) (.bool (decide (len C=0))) b=GA (Dv (enl S C T k)) (.bool (enl S C T k).isEmpty) T (.int (len T:Nat)) (.int k.1) (.int k.2.1) (.int k.2.2.1) (.int k.2.2.2.1) (.int k.2.2.2.2) N S C (.int (len C:Nat)) (.bool (decide (len C=0))) b:=G;rw [G,bq,ifF (by omega)]
end
end Us
namespace Us
open Go Go.AE
def dh (k:Key):List D:=[.int k.1,.int k.2.1,.int k.2.2.1,.int k.2.2.2.1,.int k.2.2.2.2]
section
variable [Ao]
variable {S C T N X V b d:D} {bn:Bool}
def S0 (C T V:D) (k:Nat):D:=cond (eqC (cl T k 5) 0 0) V (upd V (fd C (cl T k 5)) 0 (.int ((cl V (fd C (cl T k 5)) 0).toInt + (cl T k 8).toInt)))
theorem Vu {V b:D} {bn:Bool} (rk:Rk S C T) (hb:Bk b C V) {k:Nat} (hk:k < len T) (ha:alw C V T k=true):∃b',BB b (.bool bn) (cl T k 0) (cl T k 1) (cl T k 2) (cl T k 3) (cl T k 4) (cl T k 5) (cl T k 6) (cl T k 7) (cl T k 8)=.row [.int 1,.int 0,b']∧Bk b' C (S0 C T V k):=by
 have A:=O0 (bn:=bn) rk hb hk;obtain ⟨⟨n2,h2⟩,⟨n6,h6⟩,⟨n7,h7⟩,⟨n8,h8⟩,_⟩:=rk.tI k hk;have c1:=rk.c1;have lb:=hb.lb;have lv:=hb.lv;have ef:=Jc hb.lb hb.nm (cl T k 5);rw [ha] at A;have ha':=ha;unfold alw at ha';unfold S0;rw [h2,h6,h7,h8] at A ⊢;rcases rk.ctr k hk with ⟨q,_⟩ | ⟨q,q0,q1,q2,q3,q4,q5,q6,q7⟩
 ·refine ⟨b,?_,by rw [q];exact hb⟩
  rw [UB,A];simp only [Be,A9,tI,tB,decide_true,cond_true,q]
 rw [q,h6,h7] at ha';rw [h6,h7,h8] at *;simp only [Aq] at *;obtain ⟨g1,g2⟩:=GE q0;obtain ⟨x,v1,v2,v3,v4⟩:=hb.vl _ g2;have lim:=rk.lim _ g2;rw [g1] at v1 v2 v4 lim;rw [v2] at ha' ⊢;simp only [Aq,Bool.false_or,Bool.and_eq_true,Bool.not_eq_true'] at ha';have i1:=dF ha'.1;have i2:=dF ha'.2;generalize hi:(fd C (cl T k 5)).toNat=i at g1 g2;have F10:=MJ (b:=b) (bn:=bn) (by omega) (cl T k 5)
 rw [ef,← g1] at F10;rw [← g1] at v1 v2 v4 lim q3 q7;have wc:Wd V 1:=hb.wv;rw [← g1,q];simp only [cond_false,tI];refine ⟨upd b i 2 (.int (x + n8)),?_,?_⟩
 ·rw [UB,A,F10];simp only [Be,A9,tI,tB,decide_true,cond_true,q,cond_false,v1];rw [iF (by omega),iT (by omega),AO (by omega) (by omega)]
 ·refine ⟨by rw [CC];exact lb,by rw [CC];exact lv,Db hb.wb,Db wc,fun j hj=>?_,fun j hj=>?_,fun j hj=>?_⟩
  ·rw [Ct hb.wb (by omega) (by omega) (by omega) (by omega),if_neg (by omega)]
   exact hb.nm j hj
  ·rw [Ct hb.wb (by omega) (by omega) (by omega) (by omega),if_neg (by omega)]
   exact hb.lm j hj
  ·rw [Ct hb.wb (by omega) (by omega) (by omega) (by omega),Ct wc (by omega) (by omega) (by omega) (by omega)]
   by_cases z:(j:Int)=i
   ·rw [if_pos ⟨z,rfl⟩,if_pos ⟨z,rfl⟩];have:j=i:=by omega
    subst this;exact ⟨_,rfl,rfl,by omega,by omega⟩
   ·rw [if_neg (fun c=>z c.1),if_neg (fun c=>z c.1)]
    exact hb.vl j hj
theorem Lu {v0:D} (hn:len v0 < 4611686018427387904) (k:D):Do v0 k=.row [.int 1,.int (fd v0 k)]:=(oH ..).trans (Ch (F:=fun i=>S4 v0 (.int i) k) hn fun i=>nX ..)
theorem ON {v0:D} (hn:len v0 < 4611686018427387904) (k:D):FK v0 k=.row [.int 1,.int (fd v0 k)]:=(pZ ..).trans (Ch (F:=fun i=>T5 v0 (.int i) k) hn fun i=>jT ..)
theorem XR (rk:Rk S C T) (hb:Bk b C V) (hn:bn=true→len C=0):∃(l:D) (lb:Bool),CY b (.bool bn)=.row [.int 1,l,.bool lb]∧len l=len C∧(∀i:Nat,i < len C→cl l i 0=cl V i 0)∧Wd l 1:=by
 have c1:=rk.c1;have lb:=hb.lb;have lv:=hb.lv
 have cn:∃(a:D) (ab:Bool),Gs b (.bool bn)=.row [.int 1,a,.bool ab]∧len a=len C∧∀j:Nat,j < len C→cl a j 2=cl b j 2:=by
  rw [ce];cases hq:bn
  ·exact ⟨ct Ar b,false,by rw [cF rfl,ifT (by omega)],lb,fun j hj=>GW⟩
  ·have z:=hn hq;exact ⟨Aw,true,rfl,by rw [z];rfl,fun j hj=>by omega⟩
 obtain ⟨a,ab,a1,a2,a3⟩:=cn
 have L:∀k j (l:D) (lb:Bool),j + k=len C→len l=j→(∀i:Nat,i < j→cl l i 0=cl V i 0)→Wd l 1→∃(l2:D) (b2:Bool),Tl a (.bool ab) (.int (j:Nat)) l (.bool lb)=.row [.int 1,l2,.bool b2]∧len l2=len C∧(∀i:Nat,i < len C→cl l2 i 0=cl V i 0)∧Wd l2 1:=by
  intro k
  induction k with
  | zero=>
   intro j l lb hj hl hc hw;exact ⟨l,lb,by rw [bB,ifF (by omega)],by omega,fun i hi=>hc i (by omega),hw⟩
  | succ k ih=>
   intro j l lb hj hl hc hw;obtain ⟨x,v1,v2,_⟩:=hb.vl j (by omega)
   rw [bB,ifT (by omega),ifF (by omega),ifT (p:=(len l:Int) < 1073741824) (by omega),A0 (i:=j) (by omega),a3 j (by omega)]
   refine ih (j + 1) _ false (by omega) (by rw [AN];omega) (fun i hi=>?_) (EQ hw rfl)
   rw [Cj (by omega)]
   by_cases z:(i:Int)=len l
   ·rw [if_pos z,v1];have:i=j:=by omega
    subst this;exact v2.symm
   ·rw [if_neg z];exact hc i (by omega)
 obtain ⟨l,lb',l1,l2,l3⟩:=L (len C) 0 Aw true (by omega) rfl (fun i hi=>by omega) Gg
 have q2:Qt Aw (.bool true) a (.bool ab)=.row [.int 1,l,.bool lb']:=(rH ..).trans l1;refine ⟨l,lb',?_,l2,l3⟩;rw [my,a1];simp only [Be,A9,tI,decide_true,cond_true,q2]
theorem Wm (rk:Rk S C T) {k:Key} {s:Nat} (hs:s < len T) {j:Nat} (hj:j < len C):cl (S0 C T (CP k (len C)) s) j 0=.int (nv C T k s j):=by
 unfold S0 nv;rcases rk.ctr s hs with ⟨q,q2⟩ | ⟨q,q0,_⟩
 ·rw [q,q2,if_neg (by omega)]
  exact F7 _ _ hj
 ·obtain ⟨g1,g2⟩:=GE q0;have e:cl (CP k (len C)) (fd C (cl T s 5)) 0=.int (kc k (fd C (cl T s 5)).toNat):=by rw [← g1];exact F7 _ _ g2
  have lv:len (CP k (len C))=len C:=GF _;rw [q,e];simp only [cond_false,tI];rw [Ct (Pm _) (by omega) q0 (by omega) (by omega)]
  by_cases z:(j:Int)=fd C (cl T s 5)
  ·rw [if_pos ⟨z,rfl⟩,if_pos z.symm,← z];rfl
  ·rw [if_neg (fun c=>z c.1),if_neg (fun c=>z c.symm)]
   exact F7 _ _ hj
theorem dw (rk:Rk S C T) {k:Key} (hk:KOk S C k) {s j:Nat} (hj:len C≤j):nv C T k s j=0:=by
 unfold nv;have:=B0 (l:=C) (key:=cl T s 5);rw [if_neg (by omega)]
 exact hk.v1 j hj
theorem Zq (rk:Rk S C T) {k:Key} (hk:KOk S C k) {s:Nat} (hs:s < len T) (he:en S C T k s=true) (N:D):Dy (.int k.1) (.int k.2.1) (.int k.2.2.1) (.int k.2.2.2.1) (.int k.2.2.2.2) N S C T (.int (s:Nat))=.row (.int 1 :: dh (nx S C T k s)):=by
 have hc:=rk.c1;have ht:=rk.t1;have s1:=rk.s1;obtain ⟨b,p1,p2⟩:=Uh rk hk N;rw [XQ rk hs,Bool.and_eq_true] at he;obtain ⟨b',a1,a2⟩:=Vu (bn:=decide (len C=0)) rk p2 hs he.2;obtain ⟨l,lb,l1,l2,l3,_⟩:=XR (bn:=decide (len C=0)) rk a2 (fun q=>dT q)
 have F:=Lu (v0:=S) (by omega) (cl T s 1)
 have L1:len b'=len b:=by rw [a2.lb,p2.lb]
 have lb0:=p2.lb;have V:∀j:Nat,j < len C→cl l j 0=.int (nv C T k s j):=fun j hj=>by rw [l3 j hj,Wm rk hs hj]
 have Z:∀j:Nat,len C≤j→nv C T k s j=0:=fun j hj=>dw rk hk hj
 rw [nS,p1];simp only [Be,A9,tI,tB,decide_true,cond_true,a1,F,l1,L1,l2];rw [iF (by omega),iT (by omega),iT (by omega)]
 unfold dh nx;by_cases c4:len C=4
 ·rw [iF (by omega),show cl l 0 0=_ from V 0 (by omega),show cl l 1 0=_ from V 1 (by omega),show cl l 2 0=_ from V 2 (by omega),show cl l 3 0=_ from V 3 (by omega)]
 rw [iT (by omega)]
 by_cases c0:len C=0
 ·rw [iT (by omega),Z 0 (by omega),Z 1 (by omega),Z 2 (by omega),Z 3 (by omega)]
 rw [iF (by omega)]
 by_cases c2:len C=1
 ·rw [iT (by omega),show cl l 0 0=_ from V 0 (by omega),Z 1 (by omega),Z 2 (by omega),Z 3 (by omega)]
 rw [iF (by omega)]
 by_cases c3:len C=2
 ·rw [iT (by omega),show cl l 0 0=_ from V 0 (by omega),show cl l 1 0=_ from V 1 (by omega),Z 2 (by omega),Z 3 (by omega)]
 rw [iF (by omega),iT (by omega),show cl l 0 0=_ from V 0 (by omega),show cl l 1 0=_ from V 1 (by omega),show cl l 2 0=_ from V 2 (by omega),Z 3 (by omega)]
end
end Us
namespace Us
open Go Go.AE
def DD (l:D) (i:Nat):Bool:=!decide (fdG (fun j=>D.strEq (cl l j 0) (cl l i 0)) i 0 < 0)
def Gj (v1 v5 v8:D) (i:Nat):Bool:=decide (fd v1 (cl v8 i 0) < 0) || (decide (fd v5 (cl v8 i 1) < 0) || DD v8 i)
def F8 (v2 v6 v9:D) (i:Nat):Bool:=decide (fd v6 (cl v9 i 0) < 0) || ((!eqC (cl v9 i 1) 0 0 && decide (fd v2 (cl v9 i 1) < 0)) || (DD v9 i || (decide (1000 < (cl v9 i 2).toInt) || decide ((cl v9 i 2).toInt < (-1000)))))
section
variable [Ao]
variable {v0 v1 v2 v3 v4 v5 v6 v7 v8 v9:D}
def chk (v0 v1 v2 v3 v4 v5 v6 v7 v8 v9:D):D:=cond (rok v0 v1 v2 v3) (cond (rok v4 v5 v6 v7) (cond (decide (24 < (len v8:Int))) (.row [.int 1,.int 24,.int 490])
 (cond (decide (fdG (Gj v1 v5 v8) (len v8) 0 < 0)) (cond (decide (4 < (len v9:Int))) (.row [.int 1,.int 4,.int 491])
  (cond (decide (fdG (F8 v2 v6 v9) (len v9) 0 < 0)) (.row [.int 1,.int 0,.int 0]) (.row [.int 1,.int (fdG (F8 v2 v6 v9) (len v9) 0).toNat,.int 491])))
  (.row [.int 1,.int (fdG (Gj v1 v5 v8) (len v8) 0).toNat,.int 490]))) (.row [.int 1,.int 0,.int 2])) (.row [.int 1,.int 0,.int 2])
theorem Ry (hn:len v1 < 4611686018427387904) (k:D):KI v0 v1 v2 v3 k=.row [.int 1,.int (fd v1 k)]:=(gI ..).trans (Ch (F:=fun i=>Uq k (.int i) v0 v1 v2 v3) hn fun i=>lY ..)
theorem JN (hn:len v2 < 4611686018427387904) (k:D):BT v0 v1 v2 v3 k=.row [.int 1,.int (fd v2 k)]:=(sP ..).trans (Ch (F:=fun i=>Up k (.int i) v0 v1 v2 v3) hn fun i=>km ..)
theorem ve (hn1:len v1 < 1000) (hn5:len v5 < 1000) (hn:len v8 < 1000) {b b1 b2 b3 b4 b5 b6:Bool}:GT v0 v1 v2 v3 v4 v5 v6 v7 v8 v9 (.bool b1) (.bool b2) (.bool b3) (.bool b4) (.bool b5) (.bool b6) (.bool b) (.int 0) Ar=cond (decide (fdG (Gj v1 v5 v8) (len v8) 0 < 0)) (GT v0 v1 v2 v3 v4 v5 v6 v7 v8 v9 (.bool b1) (.bool b2) (.bool b3) (.bool b4) (.bool b5) (.bool b6) (.bool b) (.int (len v8:Nat)) (Dc (fun j=>cl v8 j 0) (len v8))) (.row [.int 1,.int (fdG (Gj v1 v5 v8) (len v8) 0).toNat,.int 490]):=
 EJ (F:=fun j=>GT v0 v1 v2 v3 v4 v5 v6 v7 v8 v9 (.bool b1) (.bool b2) (.bool b3) (.bool b4) (.bool b5) (.bool b6) (.bool b) (.int (j:Nat)) (Dc (fun j=>cl v8 j 0) j)) (n:=len v8) (bad:=Gj v1 v5 v8) (B:=fun j=>.row [.int 1,.int (j:Nat),.int 490]) fun i hi=>by
  show GT v0 v1 v2 v3 v4 v5 v6 v7 v8 v9 (.bool b1) (.bool b2) (.bool b3) (.bool b4) (.bool b5) (.bool b6) (.bool b) (.int (i:Nat)) (Dc (fun j=>cl v8 j 0) i)=cond _ _ (GT v0 v1 v2 v3 v4 v5 v6 v7 v8 v9 (.bool b1) (.bool b2) (.bool b3) (.bool b4) (.bool b5) (.bool b6) (.bool b) (.int (i + 1:Nat)) (Dc (fun j=>cl v8 j 0) (i + 1)))
  rw [cz,ifT (by omega),ifF (by omega),A0 (by omega)]
  simp only [Lu (v0:=v1) (by omega),Lu (v0:=v5) (by omega),AC,AB,Aq,Ap,decide_true,cond_true,P4]
  unfold Gj DD;cases decide (fd v1 (cl v8 i 0) < 0)<;>cases decide (fd v5 (cl v8 i 1) < 0)<;>simp only [cond_true,cond_false,Bool.true_or,Bool.false_or]
  by_cases q:fdG (fun j=>D.strEq (cl v8 j 0) (cl v8 i 0)) i 0 < 0
  ·rw [ifT q,decide_eq_true q];show GT v0 v1 v2 v3 v4 v5 v6 v7 v8 v9 (.bool b1) (.bool b2) (.bool b3) (.bool b4) (.bool b5) (.bool b6) (.bool b) (.int (i + 1:Nat)) (ad (Dc (fun j=>cl v8 j 0) i) (.row [(fun j:Nat=>cl v8 j 0) i,.bool true]))=GT v0 v1 v2 v3 v4 v5 v6 v7 v8 v9 (.bool b1) (.bool b2) (.bool b3) (.bool b4) (.bool b5) (.bool b6) (.bool b) (.int (i + 1:Nat)) (Dc (fun j=>cl v8 j 0) (i + 1))
   rw [Ln]
  ·have a:=Fe (p:=fun j=>D.strEq (cl v8 j 0) (cl v8 i 0)) (k:=i) (i:=0)
   rw [ifF q,decide_eq_false q,Lv (by omega) (by omega)]
   rfl
theorem ac {n:Int} {α:Type} {x y z:α} (hz:z=cond (decide (1000 < n) || decide (n < (-1000))) x y):cond (decide (n < IntKind.wrap .i64 (0 - n))) (cond (decide (1000 < IntKind.wrap .i64 (0 - n))) x (cond (decide (n < (-1000))) x y)) (cond (decide (1000 < n)) x (cond (decide (n < (-1000))) x y))=z:=by
 subst hz;by_cases c:1000 < n
 ·rw [decide_eq_true c,Bool.true_or,cond_true];by_cases q:n < IntKind.wrap .i64 (0 - n)
  ·rw [ifT q,ifT (by omega)];rfl
  ·rw [ifF q];rfl
 rw [decide_eq_false c,Bool.false_or,cond_false];by_cases d:n < -1000
 ·rw [ifT d,Bool.cond_self,Bool.cond_self]
 ·rw [ifF d,AO (by omega) (by omega),ifF (p:=1000 < 0 - n) (by omega),Bool.cond_self]
theorem vo (hn2:len v2 < 1000) (hn6:len v6 < 1000) (hn:len v9 < 1000) {b b1 b2 b3 b4 b5 b6 c d:Bool} {m:Int}:ET v0 v1 v2 v3 v4 v5 v6 v7 v8 v9 (.bool b1) (.bool b2) (.bool b3) (.bool b4) (.bool b5) (.bool b6) (.bool b) (.int m) (.bool c) (.bool d) (.int 0) Ar=cond (decide (fdG (F8 v2 v6 v9) (len v9) 0 < 0)) (ET v0 v1 v2 v3 v4 v5 v6 v7 v8 v9 (.bool b1) (.bool b2) (.bool b3) (.bool b4) (.bool b5) (.bool b6) (.bool b) (.int m) (.bool c) (.bool d) (.int (len v9:Nat)) (Dc (fun j=>cl v9 j 0) (len v9))) (.row [.int 1,.int (fdG (F8 v2 v6 v9) (len v9) 0).toNat,.int 491]):=
 EJ (F:=fun j=>ET v0 v1 v2 v3 v4 v5 v6 v7 v8 v9 (.bool b1) (.bool b2) (.bool b3) (.bool b4) (.bool b5) (.bool b6) (.bool b) (.int m) (.bool c) (.bool d) (.int (j:Nat)) (Dc (fun j=>cl v9 j 0) j)) (n:=len v9) (bad:=F8 v2 v6 v9) (B:=fun j=>.row [.int 1,.int (j:Nat),.int 491]) fun i hi=>by
  show ET v0 v1 v2 v3 v4 v5 v6 v7 v8 v9 (.bool b1) (.bool b2) (.bool b3) (.bool b4) (.bool b5) (.bool b6) (.bool b) (.int m) (.bool c) (.bool d) (.int (i:Nat)) (Dc (fun j=>cl v9 j 0) i)=cond _ _ (ET v0 v1 v2 v3 v4 v5 v6 v7 v8 v9 (.bool b1) (.bool b2) (.bool b3) (.bool b4) (.bool b5) (.bool b6) (.bool b) (.int m) (.bool c) (.bool d) (.int (i + 1:Nat)) (Dc (fun j=>cl v9 j 0) (i + 1)))
  have hs:ad (Dc (fun j=>cl v9 j 0) i) (.row [cl v9 i 0,.bool true])=Dc (fun j=>cl v9 j 0) (i + 1):=Ln (f:=fun j=>cl v9 j 0)
  rw [bE,ifT (by omega),ifF (by omega),A0 (by omega)]
  simp only [ON (v0:=v2) (by omega),ON (v0:=v6) (by omega),AC,AB,Aq,Ap,decide_true,cond_true,P4,hs]
  unfold F8 DD;by_cases q:fdG (fun j=>D.strEq (cl v9 j 0) (cl v9 i 0)) i 0 < 0
  ·simp only [ifT q,decide_eq_true q];cases decide (fd v6 (cl v9 i 0) < 0)<;>cases eqC (cl v9 i 1) 0 0<;>cases decide (fd v2 (cl v9 i 1) < 0)<;>first | rfl | (simp only [cond_true,cond_false,Bool.true_or,Bool.false_or,Bool.not_true,Bool.not_false,Bool.true_and,Bool.false_and];exact ac rfl)
  ·have a:=Fe (p:=fun j=>D.strEq (cl v9 j 0) (cl v9 i 0)) (k:=i) (i:=0)
   simp only [ifF q,decide_eq_false q,Lv (f:=fun j:Nat=>cl v9 j 0) (i:=i) (j:=fdG (fun j=>D.strEq (cl v9 j 0) (cl v9 i 0)) i 0) (by omega) (by omega)]
   cases decide (fd v6 (cl v9 i 0) < 0)<;>cases eqC (cl v9 i 1) 0 0<;>cases decide (fd v2 (cl v9 i 1) < 0)<;>rfl
theorem Rn (hs:Bq v3) (hs7:Bq v7) (hn1:len v1 < 1000) (hn2:len v2 < 1000) (hn3:len v3 < 1000) (hn5:len v5 < 1000) (hn6:len v6 < 1000) (hn7:len v7 < 1000) (hn8:len v8 < 1000) (hn9:len v9 < 1000):G3 v0 v1 v2 v3 v4 v5 v6 v7 v8 v9=chk v0 v1 v2 v3 v4 v5 v6 v7 v8 v9:=by
 obtain ⟨a1,q1⟩:=LI (v1:=v1) (v2:=v2) (v3:=v3) hs hn3 hn1 hn2 v0;obtain ⟨a2,q2⟩:=LI (v1:=v5) (v2:=v6) (v3:=v7) hs7 hn7 hn5 hn6 v4;unfold chk;rw [rT,q1,q2,← I3,← I3];simp only [Be,A9,tI,decide_true,cond_true];by_cases r1:Gt v0 v1 v2 v3=0;rotate_left
 ·rw [iF r1,iF r1]
 rw [iT r1,iT r1];by_cases r2:Gt v4 v5 v6 v7=0;rotate_left
 ·rw [iF r2,iF r2]
 rw [iT r2,iT r2];by_cases l8:24 < (len v8:Int)
 ·rw [iT l8,iT l8]
 rw [iF l8,iF l8,ve hn1 hn5 hn8]
 congr 2
 rw [cz,ifF (by omega),vo hn2 hn6 hn9]
 congr 2
 rw [bE,ifF (by omega)]
theorem uC {v0 v1 v2 v3 v4 v5 v6 v7 v8 v9:D} (hn:len v8 < 1000) {i:Nat} (hi:i < len v8) {b:Bool}:Hi (.int (i:Nat)) (.bool b) (.int 0) v0 v1 v2 v3 v4 v5 v6 v7 v8 v9=cond (b || DD v8 i) (.row [.int 1,.int (i:Nat),.int 490]) (Iq (.int (i + 1:Nat)) v0 v1 v2 v3 v4 v5 v6 v7 v8 v9):=by
 have A:=cq (G:=fun b j=>Hi (.int (i:Nat)) (.bool b) (.int (j:Nat)) v0 v1 v2 v3 v4 v5 v6 v7 v8 v9) (b:=b) (n:=i) (p:=fun j=>D.strEq (cl v8 j 0) (cl v8 i 0)) (fun b j hj=>by
  show Hi (.int (i:Nat)) (.bool b) (.int (j:Nat)) v0 v1 v2 v3 v4 v5 v6 v7 v8 v9=cond b (Hi (.int (i:Nat)) (.bool true) (.int (j + 1:Nat)) v0 v1 v2 v3 v4 v5 v6 v7 v8 v9) (Hi (.int (i:Nat)) (.bool (D.strEq (cl v8 j 0) (cl v8 i 0))) (.int (j + 1:Nat)) v0 v1 v2 v3 v4 v5 v6 v7 v8 v9);rw [bJ,ifT (by omega),A0 (by omega),ifF (by omega),ifT (by omega),ifF (by omega),ifT (by omega)])
 refine A.trans ?_;show Hi (.int (i:Nat)) (.bool (b || DD v8 i)) (.int (i:Nat)) v0 v1 v2 v3 v4 v5 v6 v7 v8 v9=_;rw [bJ,ifF (by omega),A0 (by omega)]
theorem vm {v0 v1 v2 v3 v4 v5 v6 v7 v8 v9:D} (hn1:len v1 < 1000) (hn5:len v5 < 1000) (hn:len v8 < 1000):Iq (.int 0) v0 v1 v2 v3 v4 v5 v6 v7 v8 v9=cond (decide (fdG (Gj v1 v5 v8) (len v8) 0 < 0)) (Iq (.int (len v8:Nat)) v0 v1 v2 v3 v4 v5 v6 v7 v8 v9) (.row [.int 1,.int (fdG (Gj v1 v5 v8) (len v8) 0).toNat,.int 490]):=
 EJ (F:=fun j=>Iq (.int (j:Nat)) v0 v1 v2 v3 v4 v5 v6 v7 v8 v9) (n:=len v8) (bad:=Gj v1 v5 v8) (B:=fun j=>.row [.int 1,.int (j:Nat),.int 490]) fun i hi=>by
  show Iq (.int (i:Nat)) v0 v1 v2 v3 v4 v5 v6 v7 v8 v9=cond _ _ (Iq (.int (i + 1:Nat)) v0 v1 v2 v3 v4 v5 v6 v7 v8 v9);rw [bj,ifT (by omega),ifF (by omega)]
  simp only [Ry (v0:=v0) (v1:=v1) (v2:=v2) (v3:=v3) (by omega),Ry (v0:=v4) (v1:=v5) (v2:=v6) (v3:=v7) (by omega),AC,AB,Aq,Ap,decide_true,cond_true,uC hn hi]
  unfold Gj;cases decide (fd v1 (cl v8 i 0) < 0)<;>cases decide (fd v5 (cl v8 i 1) < 0)<;>rfl
theorem vb {v0 v1 v2 v3 v4 v5 v6 v7 v8 v9 x:D} {n:Int} (hn:len v9 < 1000) {i:Nat} (hi:i < len v9) {b:Bool}:Em (.int (i:Nat)) (.bool b) (.int 0) v0 v1 v2 v3 v4 v5 v6 v7 v8 v9 (cl v9 i 0) x (.int n)=cond (b || DD v9 i) (.row [.int 1,.int (i:Nat),.int 491]) (HG (.int (i + 1:Nat)) v0 v1 v2 v3 v4 v5 v6 v7 v8 v9):=by
 have A:=cq (G:=fun b j=>Em (.int (i:Nat)) (.bool b) (.int (j:Nat)) v0 v1 v2 v3 v4 v5 v6 v7 v8 v9 (cl v9 i 0) x (.int n)) (b:=b) (n:=i) (p:=fun j=>D.strEq (cl v9 j 0) (cl v9 i 0)) (fun b j hj=>by
  show Em (.int (i:Nat)) (.bool b) (.int (j:Nat)) v0 v1 v2 v3 v4 v5 v6 v7 v8 v9 (cl v9 i 0) x (.int n)=cond b (Em (.int (i:Nat)) (.bool true) (.int (j + 1:Nat)) v0 v1 v2 v3 v4 v5 v6 v7 v8 v9 (cl v9 i 0) x (.int n)) (Em (.int (i:Nat)) (.bool (D.strEq (cl v9 j 0) (cl v9 i 0))) (.int (j + 1:Nat)) v0 v1 v2 v3 v4 v5 v6 v7 v8 v9 (cl v9 i 0) x (.int n));rw [cB,ifT (by omega),A0 (by omega),ifF (by omega),ifT (by omega)])
 refine A.trans ?_;show Em (.int (i:Nat)) (.bool (b || DD v9 i)) (.int (i:Nat)) v0 v1 v2 v3 v4 v5 v6 v7 v8 v9 (cl v9 i 0) x (.int n)=_;rw [cB,ifF (by omega),A0 (by omega)]
def D9 (v9:D):Prop:=∀i:Nat,i < len v9→∃n,cl v9 i 2=.int n
theorem mi {v0 v1 v2 v3 v4 v5 v6 v7 v8 v9 x:D} (hp:D9 v9) (hn:len v9 < 1000) {i:Nat} (hi:i < len v9) {b:Bool}:Em (.int (i:Nat)) (.bool b) (.int 0) v0 v1 v2 v3 v4 v5 v6 v7 v8 v9 (cl v9 i 0) x (cl v9 i 2)=cond (b || DD v9 i) (.row [.int 1,.int (i:Nat),.int 491]) (HG (.int (i + 1:Nat)) v0 v1 v2 v3 v4 v5 v6 v7 v8 v9):=by
 obtain ⟨n,h2⟩:=hp i hi;rw [h2];exact vb hn hi
theorem vg {v0 v1 v2 v3 v4 v5 v6 v7 v8 v9:D} (hp:D9 v9) (hn2:len v2 < 1000) (hn6:len v6 < 1000) (hn:len v9 < 1000):HG (.int 0) v0 v1 v2 v3 v4 v5 v6 v7 v8 v9=cond (decide (fdG (F8 v2 v6 v9) (len v9) 0 < 0)) (HG (.int (len v9:Nat)) v0 v1 v2 v3 v4 v5 v6 v7 v8 v9) (.row [.int 1,.int (fdG (F8 v2 v6 v9) (len v9) 0).toNat,.int 491]):=
 EJ (F:=fun j=>HG (.int (j:Nat)) v0 v1 v2 v3 v4 v5 v6 v7 v8 v9) (n:=len v9) (bad:=F8 v2 v6 v9) (B:=fun j=>.row [.int 1,.int (j:Nat),.int 491]) fun i hi=>by
  show HG (.int (i:Nat)) v0 v1 v2 v3 v4 v5 v6 v7 v8 v9=cond _ _ (HG (.int (i + 1:Nat)) v0 v1 v2 v3 v4 v5 v6 v7 v8 v9);rw [cM,ifT (by omega),ifF (by omega)]
  unfold F8;simp only [JN (v0:=v0) (v1:=v1) (v2:=v2) (v3:=v3) (by omega),JN (v0:=v4) (v1:=v5) (v2:=v6) (v3:=v7) (by omega),AC,AB,Aq,Ap,decide_true,cond_true,mi hp hn hi]
  cases decide (fd v6 (cl v9 i 0) < 0)<;>cases eqC (cl v9 i 1) 0 0<;>cases decide (fd v2 (cl v9 i 1) < 0)<;>cases DD v9 i<;>cases decide (1000 < (cl v9 i 2).toInt)<;>simp only [cond_true,cond_false,Bool.true_or,Bool.false_or,Bool.or_true,Bool.or_false,Bool.not_true,Bool.not_false,Bool.true_and,Bool.false_and]
theorem WS (hs:Bq v3) (hs7:Bq v7) (hp:D9 v9) (hn1:len v1 < 1000) (hn2:len v2 < 1000) (hn3:len v3 < 1000) (hn5:len v5 < 1000) (hn6:len v6 < 1000) (hn7:len v7 < 1000) (hn8:len v8 < 1000) (hn9:len v9 < 1000):Qg v0 v1 v2 v3 v4 v5 v6 v7 v8 v9=chk v0 v1 v2 v3 v4 v5 v6 v7 v8 v9:=by
 obtain ⟨a,e,h1,h2⟩:=WI hs hn3 hn1 hn2 v0;obtain ⟨a',e',h1',h2'⟩:=WI hs7 hn7 hn5 hn6 v4;rw [tj];simp only [h1,h1',AC,AB,Aq,Ap,decide_true,cond_true,vm hn1 hn5 hn8];unfold chk;by_cases c:e=0;rotate_left
 ·rw [ifF c,← h2,ifF c]
 rw [ifT c,← h2,ifT c];by_cases c':e'=0;rotate_left
 ·rw [ifF c',← h2',ifF c']
 rw [ifT c',← h2',ifT c']
 congr 2
 rw [bj,ifF (by omega),vg hp hn2 hn6 hn9]
 congr 2
 rw [cM,ifF (by omega)]
end
end Us
namespace Us
open Go Go.AE
section
variable [Ao]
variable {v0 v1 v2 v3 v4 v5 v10 v11:D}
def Gy (v2 v11:D) (i:Nat):Bool:=decide ((cl v11 i 0).toInt < 0) || decide ((cl v2 i 1).toInt < (cl v11 i 0).toInt)
def isC (v1 v2 v10 v11:D):Bool:=!decide (fd v1 v10 < 0) && (decide ((len v11:Int)=(len v2:Int)) && decide (fdG (Gy v2 v11) (len v11) 0 < 0))
def LE (v11:D):Prop:=∀i:Nat,i < len v11→∃n,cl v11 i 0=.int n
def kv (v11:D) (j:Nat):Int:=if j < len v11 then (cl v11 j 0).toInt else 0
theorem LE.at {v11:D} (h:LE v11) {j:Nat} (hj:j < len v11):cl v11 j 0=.int (kv v11 j):=by
 obtain ⟨n,e⟩:=h j hj;unfold kv;rw [if_pos hj,e];rfl
theorem He {v11:D} {j:Nat} (hj:len v11≤j):kv v11 j=0:=if_neg (by omega)
theorem Wi (hx:LE v11) (hn1:len v1 < 1000) (hn2:len v2 < 1000):Ag v0 v1 v2 v3 v10 v11=cond (isC v1 v2 v10 v11) (.row [.int 1,.int (fd v1 v10),.int (kv v11 0),.int (kv v11 1),.int (kv v11 2),.int (kv v11 3),.bool true]) (.row [.int 1,.int (fd v1 v10),.int 0,.int 0,.int 0,.int 0,.bool false]):=by
 rw [nH];simp only [Lu (v0:=v1) (by omega),AC,AB,Aq,Ap,decide_true,cond_true]
 unfold isC;by_cases c1:fd v1 v10 < 0
 ·rw [ifT c1,decide_eq_true c1];rfl
 rw [ifF c1,decide_eq_false c1];by_cases c2:(len v11:Int)=(len v2:Int);rotate_left
 ·rw [ifF c2,decide_eq_false c2];rfl
 rw [ifT c2,decide_eq_true c2]
 have L:=EJ (F:=fun j=>Kc v11 (.int (j:Nat)) v0 v1 v2 v3 v10 (.int (fd v1 v10))) (n:=len v11) (bad:=Gy v2 v11) (B:=fun _=>.row [.int 1,.int (fd v1 v10),.int 0,.int 0,.int 0,.int 0,.bool false]) (fun j hj=>by
  show Kc v11 (.int (j:Nat)) v0 v1 v2 v3 v10 (.int (fd v1 v10))=cond _ _ (Kc v11 (.int (j + 1:Nat)) v0 v1 v2 v3 v10 (.int (fd v1 v10)));rw [bU,ifT (by omega),ifF (by omega),A0 (by omega),ifT (p:=(j:Int) < (len v2:Int)) (by omega)]
  unfold Gy;cases decide ((cl v11 j 0).toInt < 0)<;>cases decide ((cl v2 j 1).toInt < (cl v11 j 0).toInt)<;>rfl)
 refine (show Kc v11 (.int 0) v0 v1 v2 v3 v10 (.int (fd v1 v10))=_ from L).trans ?_
 show cond (decide (fdG (Gy v2 v11) (len v11) 0 < 0)) (Kc v11 (.int (len v11:Nat)) v0 v1 v2 v3 v10 (.int (fd v1 v10))) _=cond (decide (fdG (Gy v2 v11) (len v11) 0 < 0)) _ _
 congr 1
 rw [bU,ifF (by omega)]
 have h0:=hx.at (j:=0);have h1:=hx.at (j:=1);have h2:=hx.at (j:=2);have h3:=hx.at (j:=3);by_cases k:(len v11:Int) < 4;rotate_left
 ·rw [ifF k,show cl v11 0 0=.int (kv v11 0) from h0 (by omega),show cl v11 1 0=.int (kv v11 1) from h1 (by omega),show cl v11 2 0=.int (kv v11 2) from h2 (by omega),show cl v11 3 0=.int (kv v11 3) from h3 (by omega)]
 rw [ifT k];by_cases k0:(len v11:Int)=0
 ·rw [ifT k0,He (j:=0) (by omega),He (j:=1) (by omega),He (j:=2) (by omega),He (j:=3) (by omega)]
 rw [ifF k0];by_cases k1:(len v11:Int)=1
 ·rw [ifT k1,show cl v11 0 0=.int (kv v11 0) from h0 (by omega),He (j:=1) (by omega),He (j:=2) (by omega),He (j:=3) (by omega)]
 rw [ifF k1];by_cases k2:(len v11:Int)=2
 ·rw [ifT k2,show cl v11 0 0=.int (kv v11 0) from h0 (by omega),show cl v11 1 0=.int (kv v11 1) from h1 (by omega),He (j:=2) (by omega),He (j:=3) (by omega)]
 rw [ifF k2];have k3:(len v11:Int)=3:=by omega
 rw [ifT k3,show cl v11 0 0=.int (kv v11 0) from h0 (by omega),show cl v11 1 0=.int (kv v11 1) from h1 (by omega),show cl v11 2 0=.int (kv v11 2) from h2 (by omega),He (j:=3) (by omega)]
theorem fc (hn1:len v1 < 1000) (hn2:len v2 < 1000):TS v0 v1 v2 v3 v10 v11=.row [.int 1,.bool (isC v1 v2 v10 v11)]:=by
 rw [ph];simp only [Ry (v0:=v0) (v1:=v1) (v2:=v2) (v3:=v3) (by omega),AC,AB,Aq,Ap,decide_true,cond_true]
 unfold isC;by_cases c1:fd v1 v10 < 0
 ·rw [ifT c1,decide_eq_true c1];rfl
 rw [ifF c1,decide_eq_false c1];by_cases c2:(len v11:Int)=(len v2:Int);rotate_left
 ·rw [ifF c2,decide_eq_false c2];rfl
 rw [ifT c2,decide_eq_true c2]
 have L:=EJ (F:=fun j=>IY (.int (j:Nat)) v0 v1 v2 v3 v10 v11) (n:=len v11) (bad:=Gy v2 v11) (B:=fun _=>.row [.int 1,.bool false]) (fun j hj=>by
  show IY (.int (j:Nat)) v0 v1 v2 v3 v10 v11=cond _ _ (IY (.int (j + 1:Nat)) v0 v1 v2 v3 v10 v11);rw [cx,ifT (by omega),ifF (by omega),A0 (by omega),ifT (p:=(j:Int) < (len v2:Int)) (by omega)]
  unfold Gy;cases decide ((cl v11 j 0).toInt < 0)<;>cases decide ((cl v2 j 1).toInt < (cl v11 j 0).toInt)<;>rfl)
 refine (show IY (.int 0) v0 v1 v2 v3 v10 v11=_ from L).trans ?_
 show cond (decide (fdG (Gy v2 v11) (len v11) 0 < 0)) (IY (.int (len v11:Nat)) v0 v1 v2 v3 v10 v11) (.row [.int 1,.bool false])=_;rw [show IY (.int (len v11:Nat)) v0 v1 v2 v3 v10 v11=.row [.int 1,.bool true] from by rw [cx,ifF (by omega)]]
 cases decide (fdG (Gy v2 v11) (len v11) 0 < 0)<;>rfl
end
end Us
namespace Us
open Go Go.AE
def pl (v6 v9:D) (i:Nat):Int:=fd v6 (cl v9 i 0)
def pv (v2 v9 v11:D) (i:Nat):Int:=cond (decide (fd v2 (cl v9 i 1) < 0)) (cl v9 i 2).toInt (IntKind.wrap .i64 ((cl v9 i 2).toInt + kv v11 (fd v2 (cl v9 i 1)).toNat))
def vs (v2 v6 v9 v11:D) (j:Nat):Nat→Int
 | 0=>0
 | i + 1=>if pl v6 v9 i=j then pv v2 v9 v11 i else vs v2 v6 v9 v11 j i
theorem II {v2 v6 v9 v11:D} {j i:Nat}:vs v2 v6 v9 v11 j (i + 1)=if pl v6 v9 i=j then pv v2 v9 v11 i else vs v2 v6 v9 v11 j i:=rfl
def F6 (v2 v6 v9 v11:D) (i:Nat):Bool:=decide (pv v2 v9 v11 i < 0) || decide ((cl v6 (pl v6 v9 i) 1).toInt < pv v2 v9 v11 i)
section
variable [Ao]
variable {v0 v1 v2 v3 v4 v5 v6 v7 v8 v9 v10 v11:D}
theorem f4 {a b c d:Int} {st:Nat} (hn:len v8 < 1000) (h:st < len v1):Ma v8 v0 v1 v2 v3 (.int (st:Nat)) (.int a) (.int b) (.int c) (.int d)=.row [.int 1,.int (fd v8 (cl v1 st 0))]:=by
 rw [kw];refine find (F:=fun j=>Nn v8 (.int (j:Nat)) v0 v1 v2 v3 (.int (st:Nat)) (.int a) (.int b) (.int c) (.int d)) (n:=len v8) (bad:=fun j=>D.strEq (cl v8 j 0) (cl v1 st 0)) (fun j hj=>?_) ?_
 ·show Nn v8 (.int (j:Nat)) v0 v1 v2 v3 (.int (st:Nat)) (.int a) (.int b) (.int c) (.int d)=_;rw [bh,ifT (by omega),ifF (by omega),A0 (by omega),ifF (by omega),ifT (by omega)]
 ·show Nn v8 (.int (len v8:Nat)) v0 v1 v2 v3 (.int (st:Nat)) (.int a) (.int b) (.int c) (.int d)=_;rw [bh,ifF (by omega)]
theorem Ws {st st':Int} (hp:D9 v9) (hn:len v9 < 1000) (h2:len v2≤4) (h6:len v6≤4) {i:Nat} (hi:i < len v9) (h0:0≤pl v6 v9 i) :
  BF v9 (.int (i:Nat)) v0 v1 v2 v3 v4 v5 v6 v7 (.int st) (.int (kv v11 0)) (.int (kv v11 1)) (.int (kv v11 2)) (.int (kv v11 3)) (.int st') (.int (vs v2 v6 v9 v11 0 i)) (.int (vs v2 v6 v9 v11 1 i)) (.int (vs v2 v6 v9 v11 2 i)) (.int (vs v2 v6 v9 v11 3 i)) =
   cond (F6 v2 v6 v9 v11 i) (.row [.int 1,.int 0,.int 0,.int 0,.int 0,.int 0,.int 3]) (BF v9 (.int (i + 1:Nat)) v0 v1 v2 v3 v4 v5 v6 v7 (.int st) (.int (kv v11 0)) (.int (kv v11 1)) (.int (kv v11 2)) (.int (kv v11 3)) (.int st') (.int (vs v2 v6 v9 v11 0 (i + 1))) (.int (vs v2 v6 v9 v11 1 (i + 1))) (.int (vs v2 v6 v9 v11 2 (i + 1))) (.int (vs v2 v6 v9 v11 3 (i + 1)))):=by
 obtain ⟨n,hv⟩:=hp i hi;have hv':cl v9 i 2=.int (cl v9 i 2).toInt:=by rw [hv];rfl
 have l1:pl v6 v9 i < len v6:=B0;have l2:=B0 (l:=v2) (key:=cl v9 i 1);have g2:=Ty (l:=v2) (key:=cl v9 i 1);have hpl:fd v6 (cl v9 i 0)=pl v6 v9 i:=rfl;rw [cy (h0:=rfl),ifT (by omega),ifF (by omega),A0 (by omega)]
 simp only [ON (v0:=v6) (by omega),ON (v0:=v2) (by omega),AC,AB,Aq,decide_true,cond_true,hpl,decide_eq_true l1,decide_eq_false (show ¬pl v6 v9 i < 0 by omega),cond_false]
 have key:∀w:Int,pv v2 v9 v11 i=w→cond (decide (w < 0)) (D.row [.int 1,.int 0,.int 0,.int 0,.int 0,.int 0,.int 3]) (cond (decide ((cl v6 (pl v6 v9 i) 1).toInt < w)) (D.row [.int 1,.int 0,.int 0,.int 0,.int 0,.int 0,.int 3])
   (cond (decide (pl v6 v9 i=0)) (BF v9 (.int (i + 1:Nat)) v0 v1 v2 v3 v4 v5 v6 v7 (.int st) (.int (kv v11 0)) (.int (kv v11 1)) (.int (kv v11 2)) (.int (kv v11 3)) (.int st') (.int w) (.int (vs v2 v6 v9 v11 1 i)) (.int (vs v2 v6 v9 v11 2 i)) (.int (vs v2 v6 v9 v11 3 i)))
   (cond (decide (pl v6 v9 i=1)) (BF v9 (.int (i + 1:Nat)) v0 v1 v2 v3 v4 v5 v6 v7 (.int st) (.int (kv v11 0)) (.int (kv v11 1)) (.int (kv v11 2)) (.int (kv v11 3)) (.int st') (.int (vs v2 v6 v9 v11 0 i)) (.int w) (.int (vs v2 v6 v9 v11 2 i)) (.int (vs v2 v6 v9 v11 3 i)))
   (cond (decide (pl v6 v9 i=2)) (BF v9 (.int (i + 1:Nat)) v0 v1 v2 v3 v4 v5 v6 v7 (.int st) (.int (kv v11 0)) (.int (kv v11 1)) (.int (kv v11 2)) (.int (kv v11 3)) (.int st') (.int (vs v2 v6 v9 v11 0 i)) (.int (vs v2 v6 v9 v11 1 i)) (.int w) (.int (vs v2 v6 v9 v11 3 i)))
   (cond (decide (pl v6 v9 i=3)) (BF v9 (.int (i + 1:Nat)) v0 v1 v2 v3 v4 v5 v6 v7 (.int st) (.int (kv v11 0)) (.int (kv v11 1)) (.int (kv v11 2)) (.int (kv v11 3)) (.int st') (.int (vs v2 v6 v9 v11 0 i)) (.int (vs v2 v6 v9 v11 1 i)) (.int (vs v2 v6 v9 v11 2 i)) (.int w)) (D.row [])))))) =
   cond (F6 v2 v6 v9 v11 i) (.row [.int 1,.int 0,.int 0,.int 0,.int 0,.int 0,.int 3]) (BF v9 (.int (i + 1:Nat)) v0 v1 v2 v3 v4 v5 v6 v7 (.int st) (.int (kv v11 0)) (.int (kv v11 1)) (.int (kv v11 2)) (.int (kv v11 3)) (.int st') (.int (vs v2 v6 v9 v11 0 (i + 1))) (.int (vs v2 v6 v9 v11 1 (i + 1))) (.int (vs v2 v6 v9 v11 2 (i + 1))) (.int (vs v2 v6 v9 v11 3 (i + 1)))):=by
  intro w hw;unfold F6;simp only [II,hw];cases decide (w < 0);rotate_left
  ·rfl
  cases decide ((cl v6 (pl v6 v9 i) 1).toInt < w);rotate_left
  ·rfl
  simp only [cond_false,Bool.false_or];by_cases k0:pl v6 v9 i=0
  ·rw [ifT k0,if_pos (by omega),if_neg (by omega),if_neg (by omega),if_neg (by omega)]
  rw [ifF k0];by_cases k1:pl v6 v9 i=1
  ·rw [ifT k1,if_neg (by omega),if_pos (by omega),if_neg (by omega),if_neg (by omega)]
  rw [ifF k1];by_cases k2:pl v6 v9 i=2
  ·rw [ifT k2,if_neg (by omega),if_neg (by omega),if_pos (by omega),if_neg (by omega)]
  rw [ifF k2];have k3:pl v6 v9 i=3:=by omega
  rw [ifT k3,if_neg (by omega),if_neg (by omega),if_neg (by omega),if_pos (by omega)]
 have pvT:fd v2 (cl v9 i 1) < 0→pv v2 v9 v11 i=(cl v9 i 2).toInt:=fun h=>ifT h
 have pvF:∀m:Nat,fd v2 (cl v9 i 1)=m→pv v2 v9 v11 i=IntKind.wrap .i64 ((cl v9 i 2).toInt + kv v11 m):=fun m h=>by
  unfold pv;rw [ifF (by omega),h]
  rfl
 rcases g2 with g | g
 ·rw [ifT (by omega)]
  refine Eq.trans ?_ (key _ (pvT (by omega)))
  rw [← hv']
 rw [ifF (by omega)]
 by_cases k0:fd v2 (cl v9 i 1)=0
 ·rw [ifT k0];exact key _ (pvF 0 k0)
 rw [ifF k0];by_cases k1:fd v2 (cl v9 i 1)=1
 ·rw [ifT k1];exact key _ (pvF 1 k1)
 rw [ifF k1];by_cases k2:fd v2 (cl v9 i 1)=2
 ·rw [ifT k2];exact key _ (pvF 2 k2)
 rw [ifF k2];have k3:fd v2 (cl v9 i 1)=3:=by omega
 rw [ifT k3];exact key _ (pvF 3 k3)
theorem ep {st:Nat} (hp:D9 v9) (hn5:len v5 < 1000) (hn8:len v8 < 1000) (hn:len v9 < 1000) (h2:len v2≤4) (h6:len v6≤4) (hst:st < len v1) (h0:∀i,i < len v9→0≤pl v6 v9 i) :
  Dl v0 v1 v2 v3 v4 v5 v6 v7 v8 v9 (.int (st:Nat)) (.int (kv v11 0)) (.int (kv v11 1)) (.int (kv v11 2)) (.int (kv v11 3))=cond (decide (fd v8 (cl v1 st 0) < 0)) (.row [.int 1,.int 0,.int 0,.int 0,.int 0,.int 0,.int 9])
   (cond (decide (fdG (F6 v2 v6 v9 v11) (len v9) 0 < 0)) (.row [.int 1,.int (fd v5 (cl v8 (fd v8 (cl v1 st 0)) 1)),.int (vs v2 v6 v9 v11 0 (len v9)),.int (vs v2 v6 v9 v11 1 (len v9)),.int (vs v2 v6 v9 v11 2 (len v9)),.int (vs v2 v6 v9 v11 3 (len v9)),.int 0]) (.row [.int 1,.int 0,.int 0,.int 0,.int 0,.int 0,.int 3])):=by
 rw [ik];have l:=B0 (l:=v8) (key:=cl v1 st 0);simp only [f4 hn8 hst,Lu (v0:=v5) (by omega),AC,AB,Aq,decide_true,cond_true,decide_eq_true l]
 congr 1
 have L:=EJ (F:=fun j=>BF v9 (.int (j:Nat)) v0 v1 v2 v3 v4 v5 v6 v7 (.int (st:Nat)) (.int (kv v11 0)) (.int (kv v11 1)) (.int (kv v11 2)) (.int (kv v11 3)) (.int (fd v5 (cl v8 (fd v8 (cl v1 st 0)) 1))) (.int (vs v2 v6 v9 v11 0 j)) (.int (vs v2 v6 v9 v11 1 j)) (.int (vs v2 v6 v9 v11 2 j)) (.int (vs v2 v6 v9 v11 3 j))) (n:=len v9) (bad:=F6 v2 v6 v9 v11) (B:=fun _=>.row [.int 1,.int 0,.int 0,.int 0,.int 0,.int 0,.int 3]) (fun j hj=>Ws hp hn h2 h6 hj (h0 j hj))
 refine L.trans ?_
 congr 1
 show BF v9 (.int (len v9:Nat)) v0 v1 v2 v3 v4 v5 v6 v7 (.int (st:Nat)) (.int (kv v11 0)) (.int (kv v11 1)) (.int (kv v11 2)) (.int (kv v11 3)) (.int (fd v5 (cl v8 (fd v8 (cl v1 st 0)) 1))) (.int (vs v2 v6 v9 v11 0 (len v9))) (.int (vs v2 v6 v9 v11 1 (len v9))) (.int (vs v2 v6 v9 v11 2 (len v9))) (.int (vs v2 v6 v9 v11 3 (len v9)))=_;rw [cy (h0:=rfl),ifF (by omega)]
theorem GI {F:Nat→D} {n:Nat} (hs:∀j,j < n→F j=F (j + 1)):F 0=F n:=by
 have:=EJ (F:=F) (n:=n) (bad:=fun _=>false) (B:=fun _=>.row []) (fun j hj=>(hs j hj).trans rfl)
 rw [Ja (fun _ _ _=>rfl)] at this
 exact this
theorem ut {L:D} (hn:len v8 < 1000) (hd:∀i,i < len v8→DD v8 i=false):G2 (.bool false) (.int 0) v4 v5 v6 v7 v0 v1 v2 v3 v8 v9 v10 v11 (CN 0 0) L=cond (decide (fd v8 v10 < 0)) (.row [.int 1,CN 0 0,Aw,.int 9]) (GR (.int 0) v4 v5 v6 v7 v0 v1 v2 v3 v8 v9 v10 v11 (cl v8 (fd v8 v10) 1) L):=by
 have g:=Ty (l:=v8) (key:=v10)
 have C:=GI (F:=fun i:Nat=>G2 (.bool (decide (0≤fd v8 v10∧fd v8 v10 < i))) (.int (i:Nat)) v4 v5 v6 v7 v0 v1 v2 v3 v8 v9 v10 v11 (if 0≤fd v8 v10∧fd v8 v10 < i then cl v8 (fd v8 v10) 1 else CN 0 0) L) (n:=len v8) (fun i hi=>by
  show G2 (.bool (decide (0≤fd v8 v10∧fd v8 v10 < i))) (.int (i:Nat)) v4 v5 v6 v7 v0 v1 v2 v3 v8 v9 v10 v11 (if 0≤fd v8 v10∧fd v8 v10 < i then cl v8 (fd v8 v10) 1 else CN 0 0) L=G2 (.bool (decide (0≤fd v8 v10∧fd v8 v10 < (i + 1:Nat)))) (.int (i + 1:Nat)) v4 v5 v6 v7 v0 v1 v2 v3 v8 v9 v10 v11 (if 0≤fd v8 v10∧fd v8 v10 < (i + 1:Nat) then cl v8 (fd v8 v10) 1 else CN 0 0) L
  rw [bf,ifT (by omega),ifF (by omega),A0 (by omega)]
  cases q:D.strEq (cl v8 i 0) v10
  ·have:fd v8 v10≠i:=fun c=>by
    have a:=Jr (l:=v8) (key:=v10) (by omega)
    rw [c,q] at a;cases a
   rw [cond_false,decide_eq_decide.2 (show (0≤fd v8 v10∧fd v8 v10 < i)↔(0≤fd v8 v10∧fd v8 v10 < (i + 1:Nat)) by omega)]
   congr 1
   by_cases c:0≤fd v8 v10∧fd v8 v10 < i
   ·rw [if_pos c,if_pos (by omega)]
   ·rw [if_neg c,if_neg (by omega)]
  ·have a:=OD (p:=fun j=>D.strEq (cl v8 j 0) v10) (k:=len v8) (i:=0) (j:=i) (by omega) (by omega) q
   have a:0≤fd v8 v10∧fd v8 v10≤i:=a
   have e:fd v8 v10=i:=by
    refine Int.le_antisymm a.2 (Int.not_lt.1 fun c=>?_)
    have b:=Jr a.1;have t:=hd i hi;unfold DD at t;have t:decide (fdG (fun j=>D.strEq (cl v8 j 0) (cl v8 i 0)) i 0 < 0)=true:=by simpa using t
    have n:=Co (p:=fun j=>D.strEq (cl v8 j 0) (cl v8 i 0)) (k:=i) (i:=0) (j:=(fd v8 v10).toNat) (by omega) (.inr ⟨dT t,by omega⟩)
    have n:D.strEq (cl v8 ((fd v8 v10).toNat:Int) 0) (cl v8 i 0)=false:=n;rw [show ((fd v8 v10).toNat:Int)=fd v8 v10 by omega,CH b,AX,q] at n
    cases n
   rw [cond_true,decide_eq_true (show 0≤fd v8 v10∧fd v8 v10 < (i + 1:Nat) by omega),if_pos (by omega),e])
 have z:¬(0≤fd v8 v10∧fd v8 v10 < (0:Nat)):=by omega
 have C:G2 (.bool (decide (0≤fd v8 v10∧fd v8 v10 < (0:Nat)))) (.int (0:Nat)) v4 v5 v6 v7 v0 v1 v2 v3 v8 v9 v10 v11 (if 0≤fd v8 v10∧fd v8 v10 < (0:Nat) then cl v8 (fd v8 v10) 1 else CN 0 0) L=G2 (.bool (decide (0≤fd v8 v10∧fd v8 v10 < len v8))) (.int (len v8:Nat)) v4 v5 v6 v7 v0 v1 v2 v3 v8 v9 v10 v11 (if 0≤fd v8 v10∧fd v8 v10 < len v8 then cl v8 (fd v8 v10) 1 else CN 0 0) L:=C
 rw [decide_eq_false z,if_neg z] at C;refine (show G2 (.bool false) (.int 0) v4 v5 v6 v7 v0 v1 v2 v3 v8 v9 v10 v11 (CN 0 0) L=_ from C).trans ?_
 have l:=B0 (l:=v8) (key:=v10);rw [bf,ifF (by omega)]
 by_cases c:fd v8 v10 < 0
 ·rw [ifT c,decide_eq_false (by omega)]
  rfl
 ·rw [ifF c,decide_eq_true (by omega),if_pos (by omega)]
  rfl
end
end Us
namespace Us
open Go Go.AE
def LV (v2 v6 v9 v11:D) (i:Nat):D:=.slc false ((List.range (len v6)).map fun j=>.row [.int (vs v2 v6 v9 v11 j i)])
theorem YS {v2 v6 v9 v11:D} {i:Nat}:len (LV v2 v6 v9 v11 i)=len v6:=by unfold LV len;simp [D.rows]
theorem cK {v2 v6 v9 v11:D} {i j:Nat} (h:j < len v6):cl (LV v2 v6 v9 v11 i) j 0=.int (vs v2 v6 v9 v11 j i):=by
 show ((((List.range (len v6)).map fun j=>D.row [.int (vs v2 v6 v9 v11 j i)])[j]?).getD default).cells.getD 0 default=_
 rw [List.getElem?_map,List.getElem?_range h];rfl
theorem Z0 {v2 v6 v9 v11:D}:rp (len v6:Nat) (.row [.int 0])=LV v2 v6 v9 v11 0:=by
 show D.slc false (List.replicate _ _)=.slc false _
 congr 1
 refine List.ext_getElem (by simp) fun j h1 h2=>?_
 rw [List.getElem_replicate,List.getElem_map];rfl
theorem eS {v2 v6 v9 v11:D} {i:Nat} (h0:0≤pl v6 v9 i):upd (LV v2 v6 v9 v11 i) (pl v6 v9 i) 0 (.int (pv v2 v9 v11 i))=LV v2 v6 v9 v11 (i + 1):=by
 show D.slc false (List.modify _ _ _)=.slc false _
 congr 1
 refine List.ext_getElem (by simp [LV,D.rows]) fun j h1 h2=>?_
 have hj:j < len v6:=by simpa using h2
 rw [List.getElem_modify];show (if (pl v6 v9 i).toNat=j then D.row ((((List.range (len v6)).map fun j=>D.row [.int (vs v2 v6 v9 v11 j i)])[j]'(by simpa using hj)).cells.set 0 (.int (pv v2 v9 v11 i))) else (((List.range (len v6)).map fun j=>D.row [.int (vs v2 v6 v9 v11 j i)])[j]'(by simpa using hj)))=_
 simp only [List.getElem_map,List.getElem_range,II];by_cases q:pl v6 v9 i=j
 ·rw [if_pos (by omega),if_pos q]
  rfl
 ·rw [if_neg (by omega),if_neg q]
section
variable [Ao]
variable {v0 v1 v2 v3 v4 v5 v6 v7 v8 v9 v10 v11 v13:D}
theorem uy (hx:LE v11) (hp:D9 v9) (hn2:len v2 < 1000) (hn5:len v5 < 1000) (hn6:len v6 < 1000) (hn:len v9 < 1000) (hl:len v11=len v2) (h0:∀i,i < len v9→0≤pl v6 v9 i) :
  GR (.int 0) v4 v5 v6 v7 v0 v1 v2 v3 v8 v9 v10 v11 v13 (LV v2 v6 v9 v11 0)=cond (isC v5 v6 v13 (LV v2 v6 v9 v11 (len v9))) (.row [.int 1,v13,ni (LV v2 v6 v9 v11 (len v9)) false,.int 0]) (.row [.int 1,CN 0 0,Aw,.int 3]):=by
 have C:=GI (F:=fun i:Nat=>GR (.int (i:Nat)) v4 v5 v6 v7 v0 v1 v2 v3 v8 v9 v10 v11 v13 (LV v2 v6 v9 v11 i)) (n:=len v9) (fun i hi=>by
  show GR (.int (i:Nat)) v4 v5 v6 v7 v0 v1 v2 v3 v8 v9 v10 v11 v13 (LV v2 v6 v9 v11 i)=GR (.int (i + 1:Nat)) v4 v5 v6 v7 v0 v1 v2 v3 v8 v9 v10 v11 v13 (LV v2 v6 v9 v11 (i + 1));have l1:pl v6 v9 i < len v6:=B0;have l2:=B0 (l:=v2) (key:=cl v9 i 1);have g2:=Ty (l:=v2) (key:=cl v9 i 1);have hpl:fd v6 (cl v9 i 0)=pl v6 v9 i:=rfl;have z:=h0 i hi;obtain ⟨n,hv⟩:=hp i hi;rw [cD,ifT (by omega),ifF (by omega),A0 (by omega)]
  simp only [JN (v0:=v0) (v1:=v1) (v2:=v2) (v3:=v3) (by omega),JN (v0:=v4) (v1:=v5) (v2:=v6) (v3:=v7) (by omega),AC,AB,Aq,decide_true,cond_true,hpl,YS,decide_eq_true l1,decide_eq_false (show ¬pl v6 v9 i < 0 by omega),cond_false]
  rw [← eS z];unfold pv;by_cases c:fd v2 (cl v9 i 1) < 0
  ·rw [ifT c,ifT c,hv];rfl
  ·rw [ifF c,ifF c,ifT (by omega)]
   have k:(cl v11 (fd v2 (cl v9 i 1)) 0).toInt=kv v11 (fd v2 (cl v9 i 1)).toNat:=by
    unfold kv;rw [if_pos (by omega),show (((fd v2 (cl v9 i 1)).toNat:Nat):Int)=fd v2 (cl v9 i 1) by omega]
   rw [k])
 refine (show GR (.int 0) v4 v5 v6 v7 v0 v1 v2 v3 v8 v9 v10 v11 v13 (LV v2 v6 v9 v11 0)=GR (.int (len v9:Nat)) v4 v5 v6 v7 v0 v1 v2 v3 v8 v9 v10 v11 v13 (LV v2 v6 v9 v11 (len v9)) from C).trans ?_
 rw [cD,ifF (by omega)]
 simp only [fc (v0:=v4) (v1:=v5) (v2:=v6) (v3:=v7) hn5 hn6,AC,AB,Aq,Ap,decide_true,cond_true];rfl
theorem gj (hx:LE v11) (hp:D9 v9) (hn2:len v2 < 1000) (hn5:len v5 < 1000) (hn6:len v6 < 1000) (hn8:len v8 < 1000) (hn:len v9 < 1000) (hl:len v11=len v2) (hd:∀i,i < len v8→DD v8 i=false) (h0:∀i,i < len v9→0≤pl v6 v9 i) :
  Qo v4 v5 v6 v7 v0 v1 v2 v3 v8 v9 v10 v11=cond (decide (fd v8 v10 < 0)) (.row [.int 1,CN 0 0,Aw,.int 9]) (cond (isC v5 v6 (cl v8 (fd v8 v10) 1) (LV v2 v6 v9 v11 (len v9))) (.row [.int 1,cl v8 (fd v8 v10) 1,ni (LV v2 v6 v9 v11 (len v9)) false,.int 0]) (.row [.int 1,CN 0 0,Aw,.int 3])):=by
 rw [sU,ifT (by omega),ut hn8 hd,Z0 (v2:=v2) (v6:=v6) (v9:=v9) (v11:=v11),uy hx hp hn2 hn5 hn6 hn hl h0]
theorem sy {j i:Nat}:vs v2 v6 v9 v11 j i=0∨∃k,k < i∧pl v6 v9 k=j∧vs v2 v6 v9 v11 j i=pv v2 v9 v11 k:=by
 induction i with
 | zero=>exact .inl rfl
 | succ i ih=>
  rw [II];by_cases c:pl v6 v9 i=j
  ·rw [if_pos c];exact .inr ⟨i,by omega,c,rfl⟩
  ·rw [if_neg c];rcases ih with h | ⟨k,h1,h2,h3⟩
   ·exact .inl h
   ·exact .inr ⟨k,by omega,h2,h3⟩
theorem T2 {j i:Nat}:∀{n:Nat},i + 1 + n≤len v9→pl v6 v9 i=j→(∀k,i < k→k < len v9→pl v6 v9 k≠j)→vs v2 v6 v9 v11 j (i + 1 + n)=pv v2 v9 v11 i
 | 0,_,h,_=>by
  show vs v2 v6 v9 v11 j (i + 1)=_;rw [II,if_pos h]
 | n + 1,hn,h,hk=>by
  show vs v2 v6 v9 v11 j (i + 1 + n + 1)=_;rw [II,if_neg (hk _ (by omega) (by omega))]
  exact T2 (by omega) h hk
theorem rD {i k:Nat} (hd:∀i,i < len v9→DD v9 i=false) (h0:∀i,i < len v9→0≤pl v6 v9 i) (h:i < k) (hk:k < len v9):pl v6 v9 k≠pl v6 v9 i:=by
 intro e;have a:=Jr (h0 i (by omega))
 have b:=Jr (h0 k hk);have e:fd v6 (cl v9 k 0)=fd v6 (cl v9 i 0):=e;rw [e,CH a] at b;have t:=hd k hk;unfold DD at t;have t:decide (fdG (fun j=>D.strEq (cl v9 j 0) (cl v9 k 0)) k 0 < 0)=true:=by simpa using t
 have n:=Co (p:=fun j=>D.strEq (cl v9 j 0) (cl v9 k 0)) (k:=k) (i:=0) (j:=i) (by omega) (.inr ⟨dT t,by omega⟩)
 have n:D.strEq (cl v9 i 0) (cl v9 k 0)=false:=n;rw [b] at n;cases n
theorem RN (hd:∀i,i < len v9→DD v9 i=false) (h0:∀i,i < len v9→0≤pl v6 v9 i) (hlim:∀j:Nat,j < len v6→0≤(cl v6 j 1).toInt) (hst:0≤fd v5 v13) :
  isC v5 v6 v13 (LV v2 v6 v9 v11 (len v9))=decide (fdG (F6 v2 v6 v9 v11) (len v9) 0 < 0):=by
 unfold isC;rw [decide_eq_false (show ¬fd v5 v13 < 0 by omega),YS,decide_eq_true rfl]
 show (true && (true && decide (fdG (Gy v6 (LV v2 v6 v9 v11 (len v9))) (len v6) 0 < 0)))=_;rw [Bool.true_and,Bool.true_and];refine decide_eq_decide.2 ⟨fun h=>?_,fun h=>?_⟩
 ·have:∀i,0≤i→i < 0 + len v9→F6 v2 v6 v9 v11 i=false:=fun i _ hi=>by
   have l1:pl v6 v9 i < len v6:=B0;have z:=h0 i (by omega)
   have n:=Co (p:=Gy v6 (LV v2 v6 v9 v11 (len v9))) (k:=len v6) (i:=0) (j:=(pl v6 v9 i).toNat) (by omega) (.inr ⟨h,by omega⟩)
   have k:=T2 (v2:=v2) (v6:=v6) (v9:=v9) (v11:=v11) (j:=(pl v6 v9 i).toNat) (i:=i) (n:=len v9 - (i + 1)) (by omega) (by omega) (fun k hk hk' c=>rD hd h0 hk hk' (by omega))
   rw [show i + 1 + (len v9 - (i + 1))=len v9 by omega] at k
   unfold Gy at n;rw [cK (by omega),Aq,k,show (((pl v6 v9 i).toNat:Nat):Int)=pl v6 v9 i by omega] at n
   exact n
  rw [Ja this];omega
 ·have:∀j,0≤j→j < 0 + len v6→Gy v6 (LV v2 v6 v9 v11 (len v9)) j=false:=fun j _ hj=>by
   unfold Gy;rw [cK (by omega),Aq]
   rcases sy (v2:=v2) (v6:=v6) (v9:=v9) (v11:=v11) (j:=j) (i:=len v9) with e | ⟨k,h1,h2,h3⟩
   ·rw [e,decide_eq_false (by omega),decide_eq_false (by have:=hlim j (by omega);omega)]
    rfl
   ·have n:=Co (p:=F6 v2 v6 v9 v11) (k:=len v9) (i:=0) (j:=k) (by omega) (.inr ⟨h,by omega⟩)
    unfold F6 at n;rw [h3,← h2];exact n
  rw [Ja this];omega
end
end Us
namespace Us
open Go Go.AE
section
variable [Ao]
variable {v0 v1 v2 v3 v4 v5 v6 v7 v8 v9 v10 v11 v12 v13 v14 v15 v16 v17:D}
theorem RZ (r1:rok v0 v1 v2 v3=true) (r2:rok v4 v5 v6 v7=true) (l8:len v8≤24) (p:fdG (Gj v1 v5 v8) (len v8) 0 < 0) (l9:len v9≤4) (q:fdG (F8 v2 v6 v9) (len v9) 0 < 0):chk v0 v1 v2 v3 v4 v5 v6 v7 v8 v9=.row [.int 1,.int 0,.int 0]:=by
 unfold chk;rw [cT r1,cT r2,ifF (by omega),ifT p,ifF (by omega),ifT q]
theorem N3 (v0 v1 v2 v3 v4 v5 v6 v7 v8 v9:D):∃a e,chk v0 v1 v2 v3 v4 v5 v6 v7 v8 v9=.row [.int 1,.int a,.int e]∧(e=0→rok v0 v1 v2 v3=true∧rok v4 v5 v6 v7=true∧len v8≤24∧(fdG (Gj v1 v5 v8) (len v8) 0 < 0)∧len v9≤4∧(fdG (F8 v2 v6 v9) (len v9) 0 < 0)):=by
 unfold chk;cases rok v0 v1 v2 v3
 ·exact ⟨_,_,rfl,fun h=>by cases h⟩
 cases rok v4 v5 v6 v7
 ·exact ⟨_,_,rfl,fun h=>by cases h⟩
 simp only [cond_true];by_cases c1:24 < (len v8:Int)
 ·rw [ifT c1];exact ⟨_,_,rfl,fun h=>by cases h⟩
 rw [ifF c1];by_cases c2:fdG (Gj v1 v5 v8) (len v8) 0 < 0;rotate_left
 ·rw [ifF c2];exact ⟨_,_,rfl,fun h=>by cases h⟩
 rw [ifT c2];by_cases c3:4 < (len v9:Int)
 ·rw [ifT c3];exact ⟨_,_,rfl,fun h=>by cases h⟩
 rw [ifF c3];by_cases c4:fdG (F8 v2 v6 v9) (len v9) 0 < 0;rotate_left
 ·rw [ifF c4];exact ⟨_,_,rfl,fun h=>by cases h⟩
 rw [ifT c4];exact ⟨_,_,rfl,fun _=>⟨by simp,by simp,by omega,c2,by omega,c4⟩⟩
theorem Pj (h:rok v0 v1 v2 v3=true):len v2≤4∧∀j:Nat,j < len v2→nm (cl v2 j 0)=true∧1≤(cl v2 j 1).toInt∧(cl v2 j 1).toInt≤1000:=by
 unfold rok at h;simp only [Bool.and_eq_true] at h;obtain ⟨_,h,_,_⟩:=h;unfold Gw at h;by_cases c:4 < (len v2:Int)
 ·rw [ifT c] at h;cases h
 rw [ifF c] at h;refine ⟨by omega,fun j hj=>?_⟩
 have n:=Co (p:=IE v2) (k:=len v2) (i:=0) (j:=j) (by omega) (.inr ⟨dT h,by omega⟩)
 unfold IE at n;simp only [Bool.or_eq_false_iff,Bool.not_eq_false'] at n;have a:=dF n.1.2;have b:=dF n.2;exact ⟨n.1.1.1,by omega,by omega⟩
structure OkA (v0 v1 v2 v3 v4 v5 v6 v7 v8 v9 v10 v11:D):Prop where
 r1:rok v0 v1 v2 v3=true
 r2:rok v4 v5 v6 v7=true
 l8:len v8≤24
 p:fdG (Gj v1 v5 v8) (len v8) 0 < 0
 l9:len v9≤4
 q:fdG (F8 v2 v6 v9) (len v9) 0 < 0
 is:isC v1 v2 v10 v11=true
 st:0≤fd v8 v10
 rg:fdG (F6 v2 v6 v9 v11) (len v9) 0 < 0
theorem f6 (h:isC v1 v2 v10 v11=true):0≤fd v1 v10∧len v11=len v2∧∀j:Nat,j < len v2→0≤kv v11 j∧kv v11 j≤(cl v2 j 1).toInt:=by
 unfold isC at h;simp only [Bool.and_eq_true,Bool.not_eq_true'] at h;obtain ⟨i1,i2,i3⟩:=h;have i1:=dF i1;have i2:=dT i2;have i3:=dT i3;refine ⟨by omega,by omega,fun j hj=>?_⟩
 have n:=Co (p:=Gy v2 v11) (k:=len v11) (i:=0) (j:=j) (by omega) (.inr ⟨i3,by omega⟩)
 unfold Gy at n;simp only [Bool.or_eq_false_iff] at n;have a:=dF n.1;have b:=dF n.2;unfold kv;rw [if_pos (by omega)]
 exact ⟨by omega,by omega⟩
theorem Ir {l a b:D} (h:D.strEq a b=true):fd l a=fd l b:=by
 unfold fd;refine DP fun j _ _=>?_
 show D.strEq (cl l j 0) a=D.strEq (cl l j 0) b;rw [AX,CH h,AX]
theorem US {n a b c d:Int} {v5 v6 v7 v8:D} (h0:0≤n) (hn:n < len v6) (h4:len v7≤4):∃L,Is (.int n) (.int a) (.int b) (.int c) (.int d) v5 v6 v7 v8=.row [.int 1,cl v6 n 0,L]∧len L=len v7∧∀j:Nat,j < len v7→cl L j 0=.int (if j=0 then a else if j=1 then b else if j=2 then c else d):=by
 have E:=bl n a b c d v5 v6 v7 v8;rw [ifF (show ¬n < 0 by omega),ifT hn] at E
 by_cases n0:(len v7:Int)=0
 ·rw [ifT n0] at E;exact ⟨_,E,by rw [Bt];omega,fun j hj=>by omega⟩
 rw [ifF n0] at E;by_cases n1:(len v7:Int)=1
 ·rw [ifT n1] at E
  exact ⟨_,E,by rw [AN,Bt];omega,fun j hj=>by
   match j with
   | 0=>rfl
   | j + 1=>omega⟩
 rw [ifF n1] at E;by_cases n2:(len v7:Int)=2
 ·rw [ifT n2] at E
  exact ⟨_,E,by rw [AN,AN,Bt];omega,fun j hj=>by
   match j with
   | 0=>rfl
   | 1=>rfl
   | j + 2=>omega⟩
 rw [ifF n2] at E;by_cases n3:(len v7:Int)=3
 ·rw [ifT n3] at E
  exact ⟨_,E,by rw [AN,AN,AN,Bt];omega,fun j hj=>by
   match j with
   | 0=>rfl
   | 1=>rfl
   | 2=>rfl
   | j + 3=>omega⟩
 rw [ifF n3,ifT (by omega)] at E
 exact ⟨_,E,by rw [AN,AN,AN,AN,Bt];omega,fun j hj=>by
   match j with
   | 0=>rfl
   | 1=>rfl
   | 2=>rfl
   | 3=>rfl
   | j + 4=>omega⟩
theorem Yr (hs:Bq v3) (hs7:Bq v7) (hp:D9 v9) (hx:LE v11) (hn1:len v1 < 1000) (hn2:len v2 < 1000) (hn3:len v3 < 1000) (hn5:len v5 < 1000) (hn6:len v6 < 1000) (hn7:len v7 < 1000) (hn8:len v8 < 1000) (hn9:len v9 < 1000) :
  ∃S L e,QP v0 v1 v2 v3 v4 v5 v6 v7 v8 v9 v10 v11=.row [.int 1,S,L,.int e]∧(e=0→OkA v0 v1 v2 v3 v4 v5 v6 v7 v8 v9 v10 v11)∧
   (OkA v0 v1 v2 v3 v4 v5 v6 v7 v8 v9 v10 v11→e=0∧S=cl v5 (fd v5 (cl v8 (fd v8 v10) 1)) 0∧len L=len v6∧∀j:Nat,j < len v6→cl L j 0=.int (vs v2 v6 v9 v11 j (len v9))):=by
 have E:=iL v0 v1 v2 v3 v4 v5 v6 v7 v8 v9 v10 v11;obtain ⟨a,e,hc,he⟩:=N3 v0 v1 v2 v3 v4 v5 v6 v7 v8 v9;have H10:=(Rn (v0:=v0) (v1:=v1) (v2:=v2) (v3:=v3) (v4:=v4) (v5:=v5) (v6:=v6) (v7:=v7) (v8:=v8) (v9:=v9) hs hs7 hn1 hn2 hn3 hn5 hn6 hn7 hn8 hn9).trans hc;have H19:=Wi (v0:=v0) (v1:=v1) (v2:=v2) (v3:=v3) (v10:=v10) (v11:=v11) hx hn1 hn2;by_cases c:e=0;rotate_left
 ·simp only [H10,AC,AB,Aq,Ap,decide_true,cond_true,c,decide_false,cond_false] at E;refine ⟨_,_,_,E,fun h=>absurd h c,fun h=>?_⟩
  rw [RZ h.r1 h.r2 h.l8 h.p h.l9 h.q] at hc;injection hc with hc
  injection hc with _ hc
  injection hc with _ hc
  injection hc with hc
  injection hc with hc
  exact absurd hc.symm c
 obtain ⟨r1,r2,l8,p,l9,q⟩:=he c;subst c;cases hi:isC v1 v2 v10 v11
 ·rw [hi] at H19;simp only [cond_false] at H19;simp only [H10,H19,AC,AB,Aq,Ap,decide_true,cond_true,cond_false] at E;refine ⟨_,_,_,E,fun h=>(by cases h),fun h=>?_⟩
  rw [h.is] at hi;cases hi
 rw [hi] at H19;simp only [cond_true] at H19;obtain ⟨q2,_⟩:=Pj r1;obtain ⟨q6,lim⟩:=Pj r2;obtain ⟨i1,i2,i3⟩:=f6 hi
 have Q:∀i,i < len v9→0≤pl v6 v9 i:=fun i h=>by
  have n:=Co (p:=F8 v2 v6 v9) (k:=len v9) (i:=0) (j:=i) (by omega) (.inr ⟨q,by omega⟩)
  unfold F8 at n;simp only [Bool.or_eq_false_iff] at n;exact Int.not_lt.1 (dF n.1)
 have lst:=B0 (l:=v1) (key:=v10);have est:((fd v1 v10).toNat:Int)=fd v1 v10:=by omega
 have H21:=ep (v0:=v0) (v1:=v1) (v2:=v2) (v3:=v3) (v4:=v4) (v5:=v5) (v6:=v6) (v7:=v7) (v8:=v8) (v9:=v9) (v11:=v11) (st:=(fd v1 v10).toNat) hp (by omega) (by omega) (by omega) q2 q6 (by omega) Q
 rw [est,Ir (Jr i1)] at H21;by_cases d1:fd v8 v10 < 0
 ·rw [ifT d1] at H21;simp only [H10,H19,H21,AC,AB,Aq,Ap,decide_true,cond_true,cond_false,Int.reduceEq,decide_false] at E;exact ⟨_,_,_,E,fun h=>(by cases h),fun h=>absurd h.st (by omega)⟩
 rw [ifF d1] at H21;by_cases d2:fdG (F6 v2 v6 v9 v11) (len v9) 0 < 0;rotate_left
 ·rw [ifF d2] at H21;simp only [H10,H19,H21,AC,AB,Aq,Ap,decide_true,cond_true,cond_false,Int.reduceEq,decide_false] at E;exact ⟨_,_,_,E,fun h=>(by cases h),fun h=>absurd h.rg d2⟩
 rw [ifT d2] at H21
 have P8:0≤fd v5 (cl v8 (fd v8 v10) 1):=by
  have l8':=B0 (l:=v8) (key:=v10);have e8:(((fd v8 v10).toNat:Nat):Int)=fd v8 v10:=by omega
  have n:=Co (p:=Gj v1 v5 v8) (k:=len v8) (i:=0) (j:=(fd v8 v10).toNat) (by omega) (.inr ⟨p,by omega⟩)
  unfold Gj at n;simp only [Bool.or_eq_false_iff] at n;have n:=dF n.2.1;rw [e8] at n;omega
 have l5:=B0 (l:=v5) (key:=cl v8 (fd v8 v10) 1);simp only [H10,H19,H21,AC,AB,Aq,Ap,decide_true,cond_true,cond_false,Int.reduceEq,decide_false] at E;have ok:OkA v0 v1 v2 v3 v4 v5 v6 v7 v8 v9 v10 v11:=⟨r1,r2,l8,p,l9,q,hi,by omega,d2⟩
 obtain ⟨L,q,ql,qc⟩:=US (v5:=v4) (v6:=v5) (v7:=v6) (v8:=v7) (a:=vs v2 v6 v9 v11 0 (len v9)) (b:=vs v2 v6 v9 v11 1 (len v9)) (c:=vs v2 v6 v9 v11 2 (len v9)) (d:=vs v2 v6 v9 v11 3 (len v9)) P8 l5 q6;simp only [q,AC,AB,Aq,decide_true,cond_true] at E;refine ⟨_,_,_,E,fun _=>ok,fun _=>⟨rfl,rfl,ql,fun j hj=>?_⟩⟩
 rw [qc j hj]
 match j with
 | 0=>rfl
 | 1=>rfl
 | 2=>rfl
 | 3=>rfl
 | j + 4=>omega
end
end Us
namespace Us
open Go Go.AE
structure Cf (S C:D) (k:Key) (t x:D):Prop where
 t:D.strEq (cl S k.1 0) t=true
 l:len x=len C
 v:∀j:Nat,j < len C→cl x j 0=.int (kc k j)
 w:Wd x 1
section
variable [Ao]
variable {S C T v0:D}
theorem Cf.num {k:Key} {t x:D} (h:Cf S C k t x):LE x:=fun i hi=>⟨_,h.v i (by rw [← h.l];exact hi)⟩
theorem Cf.fd (hR:Rk S C T) {k:Key} (hk:KOk S C k) {t x:D} (h:Cf S C k t x):fd S t=k.1:=by
 have s0:=hk.s0;have s1:=hk.s1;have i1:=hR.sid k.1.toNat (by omega)
 rw [show ((k.1.toNat:Nat):Int)=k.1 by omega] at i1
 rw [← Ir h.t,i1]
theorem Cf.kv {k:Key} (hk:KOk S C k) {t x:D} (h:Cf S C k t x) (j:Nat):Us.kv x j=kc k j:=by
 by_cases c:j < len C
 ·unfold Us.kv;rw [if_pos (by rw [h.l];exact c),h.v j c]
  rfl
 ·rw [He (by rw [h.l];omega),hk.v1 j (by omega)]
theorem Cf.is (hR:Rk S C T) {k:Key} (hk:KOk S C k) {t x:D} (h:Cf S C k t x):isC S C t x=true:=by
 unfold isC;have s0:=hk.s0
 have A:fdG (Gy C x) (len x) 0 < 0:=by
  rw [Ja (fun j _ hj=>by
   have v:=hk.v0 j (by rw [← h.l];omega)
   unfold Gy;rw [h.v j (by rw [← h.l];omega),Aq,decide_eq_false (by omega),decide_eq_false (by omega)]
   rfl)]
  omega
 rw [h.fd hR hk,decide_eq_false (by omega),h.l,decide_eq_true rfl]
 rw [h.l] at A;rw [decide_eq_true A];rfl
theorem Qr (hR:Rk S C T) {k:Key} (hk:KOk S C k) {t x:D} (h:Cf S C k t x):Ag v0 S C T t x=.row [.int 1,.int k.1,.int k.2.1,.int k.2.2.1,.int k.2.2.2.1,.int k.2.2.2.2,.bool true]:=by
 have hc:=hR.c1;have s1:=hR.s1;rw [Wi h.num (by omega) (by omega),h.is hR hk,cond_true,h.fd hR hk,h.kv hk 0,h.kv hk 1,h.kv hk 2,h.kv hk 3]
 rfl
theorem Kg (hR:Rk S C T) (ok:rok v0 S C T=true) {k:Key} (hk:KOk S C k) {t x:D} (h:Cf S C k t x):CZ v0 S C T t x=.row [.int 1,Dv (enl S C T k),.bool (enl S C T k).isEmpty,.int 0]:=by
 have hc:=hR.c1;have s1:=hR.s1;have t1:=hR.t1;obtain ⟨a,q⟩:=LI (v1:=S) (v2:=C) (v3:=T) hR.tI (by omega) (by omega) (by omega) v0
 rw [← I3] at ok;rw [jW,q,Qr hR hk h];simp only [Be,A9,tI,Ap,decide_true,cond_true];rw [ok,SA hR hk v0];simp only [Be,A9,tI,Ap,decide_true,cond_true]
end
end Us
namespace Us
open Go Go.AE
section
variable [Ao]
variable {S C T v0:D}
theorem cW {L:List Nat} {s:Nat} {b:Bool} (hl:L.length < 100000) (hs:s ∈ L):∃i:Nat,TL (Dv L) (.bool b) (.int (s:Nat))=.row [.int 1,.int (i:Nat)]:=by
 rw [oq]
 have H:∀(rem pre:List Nat),L=pre ++ rem→s ∈ rem→∃i:Nat,TN (Dv L) (.bool b) (.int (s:Nat)) (.int (pre.length:Nat))=.row [.int 1,.int (i:Nat)]:=by
  intro rem
  induction rem with
  | nil=>intro pre _ h;cases h
  | cons a rem ih=>
   intro pre e h;have hg:L[pre.length]? = some a:=by rw [e];simp
   have hpl:pre.length < L.length:=by rw [e];simp
   rw [mC,EC,ifT (by omega),ifF (by omega),Pp hg,Aq]
   by_cases c:s=a
   ·rw [ifT (by omega)]
    exact ⟨_,rfl⟩
   ·rw [ifF (by omega),A0 (by omega)]
    have:=ih (pre ++ [a]) (by rw [e];simp) (by
     rcases List.mem_cons.1 h with q | q
     ·exact absurd q c
     ·exact q)
    rw [show (pre ++ [a]).length=pre.length + 1 by simp] at this
    exact this
 exact H L [] rfl hs
theorem R8 (hR:Rk S C T) {k:Key} (hk:KOk S C k):∃x,Is (.int k.1) (.int k.2.1) (.int k.2.2.1) (.int k.2.2.2.1) (.int k.2.2.2.2) v0 S C T=.row [.int 1,cl S k.1 0,x]∧Cf S C k (cl S k.1 0) x:=by
 have hc:=hR.c1;have s0:=hk.s0;have s1:=hk.s1;rw [bl,ifF (by omega),ifT (by omega)]
 by_cases n0:(len C:Int)=0
 ·rw [ifT n0];exact ⟨_,rfl,Ca,by rw [Bt];omega,fun j hj=>by omega,Ey⟩
 rw [ifF n0];by_cases n1:(len C:Int)=1
 ·rw [ifT n1];refine ⟨_,rfl,Ca,by rw [AN,Bt];omega,fun j hj=>?_,EQ Ey rfl⟩
  match j with
  | 0=>rfl
  | j + 1=>omega
 rw [ifF n1];by_cases n2:(len C:Int)=2
 ·rw [ifT n2];refine ⟨_,rfl,Ca,by rw [AN,AN,Bt];omega,fun j hj=>?_,EQ (EQ Ey rfl) rfl⟩
  match j with
  | 0=>rfl
  | 1=>rfl
  | j + 2=>omega
 rw [ifF n2];by_cases n3:(len C:Int)=3
 ·rw [ifT n3];refine ⟨_,rfl,Ca,by rw [AN,AN,AN,Bt];omega,fun j hj=>?_,EQ (EQ (EQ Ey rfl) rfl) rfl⟩
  match j with
  | 0=>rfl
  | 1=>rfl
  | 2=>rfl
  | j + 3=>omega
 rw [ifF n3];have n4:(len C:Int)=4:=by omega
 rw [ifT n4];refine ⟨_,rfl,Ca,by rw [AN,AN,AN,AN,Bt];omega,fun j hj=>?_,EQ (EQ (EQ (EQ Ey rfl) rfl) rfl) rfl⟩
 match j with
 | 0=>rfl
 | 1=>rfl
 | 2=>rfl
 | 3=>rfl
 | j + 4=>omega
theorem cO (hR:Rk S C T) (ok:rok v0 S C T=true) {k:Key} (hk:KOk S C k) {t x:D} (h:Cf S C k t x) {s:Nat} (hs:s ∈ enl S C T k):∃t' x',EL v0 S C T t x (.int (s:Nat))=.row [.int 1,t',x',.int 0]∧Cf S C (nx S C T k s) t' x':=by
 have hm:=Ld hs;have t1:=hR.t1;have el:=O8 (S:=S) (C:=C) (T:=T) (k:=k);obtain ⟨i,q⟩:=cW (b:=(enl S C T k).isEmpty) (by omega) hs
 obtain ⟨x',q1,q2⟩:=R8 (v0:=v0) hR (TQ hR hk hm.1 hm.2);refine ⟨_,_,?_,q2⟩;rw [ou,Kg hR ok hk h,Qr hR hk h];simp only [Be,A9,tI,Ap,decide_true,cond_true];rw [q,Zq hR hk hm.1 hm.2 v0];unfold dh;simp only [Be,A9,tI,Ap,decide_true,cond_true];rw [ifF (by omega),q1]
 simp only [Be,A9,tI,Ap,decide_true,cond_true]
end
end Us
namespace Us
open Go Go.AE
structure Tr (w:List Nat) (d:D):Prop where
 l:len d=w.length
 c:∀(i s:Nat),w[i]? = some s→cl d i 0=.int (s:Nat)
 n:d.isNil=true→w=[]
abbrev Q:=Key × List Nat
def FA (qs:List Q):List Key:=qs.map (·.1)
theorem It {qs:List Q}:(FA qs).length=qs.length:=by simp [FA]
theorem Qz {qs:List Q} {i:Nat} {q:Q} (h:qs[i]? = some q):(FA qs)[i]? = some q.1:=by simp [FA,h]
def DC (S C:D) (qs:List Q):Prop:=∀q ∈ qs,KOk S C q.1
theorem Cf.key [Ao] {S C T:D} (hR:Rk S C T) {k k':Key} {t x t' x':D} (hk:KOk S C k) (hk':KOk S C k') (h:Cf S C k t x) (h':Cf S C k' t' x'):(D.strEq t t'=true∧∀j:Nat,j < len C→(cl x j 0).toInt=(cl x' j 0).toInt)↔k=k':=by
 have hc:=hR.c1;constructor
 ·rintro ⟨e,v⟩
  refine Z9 ?_ fun j hj=>?_
  ·rw [← h.fd hR hk,← h'.fd hR hk',Ir e]
  ·by_cases c:j < len C
   ·have:=v j c;rw [h.v j c,h'.v j c] at this;exact this
   ·rw [hk.v1 j (by omega),hk'.v1 j (by omega)]
 ·rintro rfl
  refine ⟨?_,fun j hj=>by rw [h.v j hj,h'.v j hj]⟩
  have a:=h.t;rw [AX] at a;exact IW a h'.t
section
variable [Ao]
variable {S C T v0:D}
theorem NP {F:Nat→D} {x x':D} {n:Nat} (hs:∀i,i < n→F i=cond (decide ((cl x i 0).toInt=(cl x' i 0).toInt)) (F (i + 1)) (.row [.int 1,.bool false])) (he:F n=.row [.int 1,.bool true]):∃b,F 0=.row [.int 1,.bool b]∧(b=true↔∀j:Nat,j < n→(cl x j 0).toInt=(cl x' j 0).toInt):=by
 have L:=EJ (F:=F) (n:=n) (bad:=fun i=>!decide ((cl x i 0).toInt=(cl x' i 0).toInt)) (B:=fun _=>.row [.int 1,.bool false]) (fun i hi=>by
  rw [hs i hi];cases decide ((cl x i 0).toInt=(cl x' i 0).toInt)<;>rfl)
 rw [he] at L;by_cases q:fdG (fun i=>!decide ((cl x i 0).toInt=(cl x' i 0).toInt)) n 0 < 0
 ·rw [ifT q] at L;refine ⟨true,L,fun _ j hj=>?_,fun _=>rfl⟩
  have w:=Co (p:=fun i=>!decide ((cl x i 0).toInt=(cl x' i 0).toInt)) (k:=n) (i:=0) (j:=j) (by omega) (.inr ⟨q,by omega⟩)
  simpa using w
 ·rw [ifF q] at L;refine ⟨false,L,fun h=>(by cases h),fun h=>?_⟩
  have is:=Jz (p:=fun i=>!decide ((cl x i 0).toInt=(cl x' i 0).toInt)) (k:=n) (i:=0) (by omega)
  have lt:=Fe (p:=fun i=>!decide ((cl x i 0).toInt=(cl x' i 0).toInt)) (k:=n) (i:=0)
  have w:=h (fdG (fun i=>!decide ((cl x i 0).toInt=(cl x' i 0).toInt)) n 0).toNat (by omega)
  rw [decide_eq_true w] at is;cases is
theorem eW {x x':D} {n:Nat} (h:len x=n) (h':len x'=n) (hn:n < 1000):∃b,Uy x x'=.row [.int 1,.bool b]∧(b=true↔∀j:Nat,j < n→(cl x j 0).toInt=(cl x' j 0).toInt):=by
 rw [iR,h,h',ifT rfl];refine NP (F:=fun i=>Og x x' (.int (i:Nat))) (fun i hi=>?_) ?_
 ·show Og x x' (.int (i:Nat))=cond _ (Og x x' (.int (i + 1:Nat))) _;rw [bS,h,h',ifT (by omega),ifF (by omega),ifT (by omega),A0 (by omega)]
 ·rw [bS,h,ifF (by omega)]
theorem f9 (hR:Rk S C T) {k k':Key} {t x t' x':D} (hk:KOk S C k) (hk':KOk S C k') (h:Cf S C k t x) (h':Cf S C k' t' x'):S6 t x t' x'=.row [.int 1,.bool (decide (k=k'))]:=by
 have hc:=hR.c1;have key:=Cf.key hR hk hk' h h';rw [jm];cases e:D.strEq t t'
 ·rw [cond_false,decide_eq_false (fun q=>by rw [← key,e] at q;cases q.1)]
 rw [cond_true,h.l,h'.l,ifT rfl]
 obtain ⟨b,q,hb⟩:=NP (F:=fun i=>KF (.int (i:Nat)) t x t' x') (x:=x) (x':=x') (n:=len C) (fun i hi=>by
  show KF (.int (i:Nat)) t x t' x'=cond _ (KF (.int (i + 1:Nat)) t x t' x') _;rw [bX,h.l,h'.l,ifT (by omega),ifF (by omega),ifT (by omega),A0 (by omega)]) (by
  show KF (.int (len C:Nat)) t x t' x'=_;rw [bX,h.l,ifF (by omega)])
 refine (show KF (.int 0) t x t' x'=_ from q).trans ?_
 have:b=decide (k=k'):=by
  rw [Bool.eq_iff_iff,hb,decide_eq_true_eq,← key];simp [e]
 rw [this]
end
end Us
namespace Us
open Go Go.AE
structure RL (S C:D) (qs:List Q) (d:D):Prop where
 l:len d=qs.length
 c:∀(i:Nat) (q:Q),qs[i]? = some q→Cf S C q.1 (cl d i 0) (cl d i 1)
structure RT (qs:List Q) (d:D) (col:Nat):Prop where
 l:len d=qs.length
 c:∀(i:Nat) (q:Q),qs[i]? = some q→Tr q.2 (cl d i col)
section
variable [Ao]
variable {S C T v0:D}
theorem gB {F:Nat→D} {qs:List Q} {k:Key} (hs:∀i (q:Q),qs[i]? = some q→F i=cond (decide (q.1=k)) (.row [.int 1,.int (i:Nat)]) (F (i + 1))) (he:F qs.length=.row [.int 1,.int (-1)]):∃m:Int,F 0=.row [.int 1,.int m]∧(0≤m↔k ∈ FA qs)∧m < qs.length:=by
 have L:=EJ (F:=F) (n:=qs.length) (bad:=fun i=>decide ((FA qs)[i]? = some k)) (B:=fun i=>.row [.int 1,.int (i:Nat)]) (fun i hi=>by
  have hg:qs[i]? = some qs[i]:=List.getElem?_eq_getElem hi;rw [hs i _ hg]
  congr 1
  rw [Qz hg];simp)
 rw [he] at L;by_cases q:fdG (fun i=>decide ((FA qs)[i]? = some k)) qs.length 0 < 0
 ·rw [ifT q] at L;refine ⟨-1,L,⟨fun h=>by omega,fun h=>?_⟩,by omega⟩
  obtain ⟨j,hj,e⟩:=List.getElem_of_mem h;have n:=Co (p:=fun i=>decide ((FA qs)[i]? = some k)) (k:=qs.length) (i:=0) (j:=j) (by rw [It] at hj;omega) (.inr ⟨q,by rw [It] at hj;omega⟩)
  rw [List.getElem?_eq_getElem hj,e] at n;simp at n
 ·rw [ifF q] at L;have is:=Jz (p:=fun i=>decide ((FA qs)[i]? = some k)) (k:=qs.length) (i:=0) (by omega)
  have lt:=Fe (p:=fun i=>decide ((FA qs)[i]? = some k)) (k:=qs.length) (i:=0)
  exact ⟨_,L,⟨fun _=>List.mem_of_getElem? (dT is),fun _=>by omega⟩,by omega⟩
theorem dx (hR:Rk S C T) {qs:List Q} {k:Key} {d t x:D} {b:Bool} (hl:qs.length < 100000) (ho:DC S C qs) (hk:KOk S C k) (h:RL S C qs d) (hx:Cf S C k t x):Um d (.bool b) t x=.row [.int 1,.bool (decide (k ∈ FA qs))]:=by
 have hc:=hR.c1
 obtain ⟨m,q,hm,_⟩:=gB (F:=fun i=>Jo d (.bool b) (.int (i:Nat)) t x) (qs:=qs) (k:=k) (fun i q hq=>by
  have hi:i < qs.length:=by
   rcases Nat.lt_or_ge i qs.length with c | c
   ·exact c
   ·rw [List.getElem?_eq_none c] at hq;cases hq
  have hc':=h.c i q hq;have key:=Cf.key hR (ho q (List.mem_of_getElem? hq)) hk hc' hx;obtain ⟨c,e,hb⟩:=eW hc'.l hx.l (by omega)
  show Jo d (.bool b) (.int (i:Nat)) t x=cond _ _ (Jo d (.bool b) (.int (i + 1:Nat)) t x);rw [cJ,h.l,ifT (by omega),ifF (by omega),e,A0 (by omega)]
  simp only [Be,A9,tI,Ap,decide_true,cond_true];cases es:D.strEq (cl d i 0) t
  ·rw [cond_false,decide_eq_false (fun y=>by rw [← key,es] at y;cases y.1)]
   rfl
  ·rw [cond_true]
   congr 1
   rw [Bool.eq_iff_iff,hb,decide_eq_true_eq,← key];simp [es]) (by
  show Jo d (.bool b) (.int (qs.length:Nat)) t x=_;rw [cJ,h.l,ifF (by omega)])
 rw [tV,gR,show Jo d (.bool b) (.int 0) t x=_ from q]
 simp only [Be,A9,tI,Ap,decide_true,cond_true]
 congr 3
 by_cases c:m < 0
 ·rw [decide_eq_true c,decide_eq_false (fun y=>by have:=hm.2 y;omega)]
  rfl
 ·rw [decide_eq_false c,decide_eq_true (hm.1 (by omega))]
  rfl
theorem fi (hR:Rk S C T) {qs:List Q} {k:Key} {d t x:D} {b:Bool} (hl:qs.length < 100000) (ho:DC S C qs) (hk:KOk S C k) (h:RL S C qs d) (hx:Cf S C k t x):Qi d (.bool b) t x=.row [.int 1,.bool (decide (k ∈ FA qs))]:=by
 rw [i8]
 have L:=EJ (F:=fun i=>Ko d (.bool b) (.int (i:Nat)) t x) (n:=qs.length) (bad:=fun i=>decide ((FA qs)[i]? = some k)) (B:=fun _=>.row [.int 1,.bool true]) (fun i hi=>by
  show Ko d (.bool b) (.int (i:Nat)) t x=cond _ (.row [.int 1,.bool true]) (Ko d (.bool b) (.int (i + 1:Nat)) t x);have hg:qs[i]? = some qs[i]:=List.getElem?_eq_getElem hi;rw [bb,h.l,ifT (by omega),ifF (by omega),f9 hR (ho _ (List.getElem_mem hi)) hk (h.c i _ hg) hx,A0 (by omega)]
  simp only [Be,A9,tI,Ap,decide_true,cond_true]
  congr 1
  rw [Qz hg];simp)
 refine (show Ko d (.bool b) (.int 0) t x=_ from L).trans ?_
 show cond _ (Ko d (.bool b) (.int (qs.length:Nat)) t x) _=_;by_cases q:fdG (fun i=>decide ((FA qs)[i]? = some k)) qs.length 0 < 0
 ·rw [ifT q,bb,h.l,ifF (by omega),decide_eq_false fun c=>by
   obtain ⟨j,hj,e⟩:=List.getElem_of_mem c;have n:=Co (p:=fun i=>decide ((FA qs)[i]? = some k)) (k:=qs.length) (i:=0) (j:=j) (by rw [It] at hj;omega) (.inr ⟨q,by rw [It] at hj;omega⟩)
   rw [List.getElem?_eq_getElem hj,e] at n;simp at n]
 ·rw [ifF q,decide_eq_true (List.mem_of_getElem? (dT (Jz (p:=fun i=>decide ((FA qs)[i]? = some k)) (k:=qs.length) (i:=0) (by omega))))]
end
end Us
namespace Us
open Go Go.AE
section
variable [Ao]
variable {S C T v0:D}
theorem gt (hR:Rk S C T) {k:Key} (hk:KOk S C k) {t x:D} (hx:Cf S C k t x):QS v0 S C T t x=.row [.int 1,Dv (enl S C T k),.bool (enl S C T k).isEmpty]:=by
 have hc:=hR.c1;have ht:=hR.t1;rw [pa]
 have G:=Ok (F:=fun acc i=>FU (Dv acc) (.bool acc.isEmpty) (.int (i:Nat)) v0 S C T t x) (p:=en S C T k) (n:=len T) (k:=len T) (i:=0) (acc:=[]) (by omega) (Nat.le_refl _) (fun acc j hj ha=>by
  show FU (Dv acc) (.bool acc.isEmpty) (.int (j:Nat)) v0 S C T t x=cond (en S C T k j) (FU (Dv (acc ++ [j])) (.bool (acc ++ [j]).isEmpty) (.int (j + 1:Nat)) v0 S C T t x) (FU (Dv acc) (.bool acc.isEmpty) (.int (j + 1:Nat)) v0 S C T t x);have e2:(acc ++ [j]).isEmpty=false:=by simp
  have e:D.strEq (cl T j 0) (cl S k.1 0)=D.strEq (cl T j 0) t:=by
   rw [AX,CH hx.t,AX]
  have lt:=B0 (l:=C) (key:=cl T j 5);rw [bT,ifT (by omega),ifF (by omega),JN (by omega)]
  simp only [Be,A9,tI,Ap,decide_true,cond_true];rw [A0 (by omega),EC,TH,e2]
  unfold en;rw [e];cases D.strEq (cl T j 0) t
  ·rfl
  rw [cond_true,Bool.true_and];by_cases c:fd C (cl T j 5) < 0
  ·rw [iT c,iT (by omega),decide_eq_true c]
   rfl
  rw [iF c,decide_eq_false c,Bool.false_or,hx.l,iT (by omega)]
  have v:=hx.v (fd C (cl T j 5)).toNat (by omega)
  rw [show (((fd C (cl T j 5)).toNat:Nat):Int)=fd C (cl T j 5) by omega] at v
  rw [v,Aq];by_cases c1:kc k (fd C (cl T j 5)).toNat < (cl T j 6).toInt
  ·rw [iT c1,decide_eq_true c1];rfl
  rw [iF c1,decide_eq_false c1];by_cases c2:(cl T j 7).toInt < kc k (fd C (cl T j 5)).toNat
  ·rw [iT c2,decide_eq_true c2];rfl
  rw [iF c2,decide_eq_false c2,iT (by omega)]
  rfl)
 have G:FU Aw (.bool true) (.int 0) v0 S C T t x=FU (Dv (enl S C T k)) (.bool (enl S C T k).isEmpty) (.int (len T:Nat)) v0 S C T t x:=G;rw [G,bT,iF (by omega)]
theorem jk (hR:Rk S C T) {k:Key} (hk:KOk S C k) {s:Nat} (hs:s < len T) (he:en S C T k s=true) {t x:D} (hx:Cf S C k t x) :
  (fd C (cl T s 5) < 0→Cf S C (nx S C T k s) (cl T s 1) (ct Aw x))∧
  (¬fd C (cl T s 5) < 0→Cf S C (nx S C T k s) (cl T s 1) (upd (ct Aw x) (fd C (cl T s 5)) 0 (.int (IntKind.wrap .i64 ((cl (ct Aw x) (fd C (cl T s 5)) 0).toInt + (cl T s 8).toInt))))):=by
 have hc:=hR.c1;have ok:=TQ hR hk hs he;have tt:D.strEq (cl S (nx S C T k s).1 0) (cl T s 1)=true:=Jr (hR.to s hs);have ec:∀j:Nat,cl (ct Aw x) j 0=cl x j 0:=fun j=>rfl
 have el:len (ct Aw x)=len x:=rfl;have ew:Wd (ct Aw x) 1:=b9 Gg hx.w;refine ⟨fun h=>⟨tt,el.trans hx.l,fun j hj=>?_,ew⟩,fun h=>⟨tt,by rw [CC,el,hx.l],fun j hj=>?_,Db ew⟩⟩
 ·rw [ec,hx.v j hj,Td (by omega)]
  unfold nv;rw [if_neg (by omega)]
 ·have lt:=B0 (l:=C) (key:=cl T s 5);have e:fd C (cl T s 5)=((fd C (cl T s 5)).toNat:Nat):=by omega
  have v:=ok.v0 j hj;rw [Td (by omega)] at v ⊢
  have l:=hR.lim j hj;have hxj:=hx.v j hj;have hl:=hx.l;rw [Ct ew (by omega) (by omega) (by omega) (by omega)]
  by_cases c:fd C (cl T s 5)=j
  ·unfold nv at v ⊢;rw [if_pos c] at v ⊢;rw [if_pos ⟨c.symm,rfl⟩,c,ec,hxj,Aq,AO (by omega) (by omega)]
  ·unfold nv;rw [if_neg c,if_neg (fun q=>c q.1.symm),ec,hxj]
theorem fE (hR:Rk S C T) {k:Key} (hk:KOk S C k) {t x:D} (hx:Cf S C k t x) {s:Nat} (hs:s ∈ enl S C T k):∃t' x',Fr v0 S C T t x (.int (s:Nat))=.row [.int 1,t',x']∧Cf S C (nx S C T k s) t' x':=by
 have hc:=hR.c1;have hm:=Ld hs;obtain ⟨D1,D2⟩:=jk hR hk hm.1 hm.2 hx;have hxl:=hx.l;rw [kN,ifF (by omega),ifT (by omega),hxl,ifT (by omega),JN (by omega)]
 simp only [Be,A9,tI,decide_true,cond_true];by_cases c:fd C (cl T s 5) < 0
 ·rw [iT c];exact ⟨_,_,rfl,(D1 c).t,(D1 c).l,(D1 c).v,Uu (D1 c).w⟩
 ·have lt:=B0 (l:=C) (key:=cl T s 5);have el:len (ct Aw x)=len C:=hxl;rw [iF c,el,iT (by omega)]
  exact ⟨_,_,rfl,(D2 c).t,(D2 c).l,(D2 c).v,Uu (D2 c).w⟩
end
end Us
namespace Us
open Go Go.AE
def IU (qs:List Q) (q:Q):List Q:=if q.1 ∈ FA qs then qs else qs ++ [q]
theorem T6 {qs:List Q} {q:Q}:qs.length≤(IU qs q).length:=by
 unfold IU;split
 ·omega
 ·simp
def B4 (S C T:D) (q:Q) (qs:List Q) (l:List Nat):List Q:=l.foldl (fun qs s=>IU qs (nx S C T q.1 s,q.2 ++ [s])) qs
theorem JO {S C T:D} {q:Q} {qs:List Q} {s:Nat} {l:List Nat}:B4 S C T q qs (s :: l)=B4 S C T q (IU qs (nx S C T q.1 s,q.2 ++ [s])) l:=rfl
theorem Ho {S C T:D} {q:Q}:∀{l:List Nat} {qs:List Q},qs.length≤(B4 S C T q qs l).length
 | [],qs=>Nat.le_refl _
 | s :: l,qs=>Nat.le_trans T6 (Ho (l:=l))
def WOk (qs:List Q):Prop:=∀(i:Nat) (q:Q),qs[i]? = some q→q.2.length≤i
theorem Jq {α:Type} {qs:List α} {q q':α} {i:Nat} (h:(qs ++ [q])[i]? = some q'):(i < qs.length∧qs[i]? = some q')∨(i=qs.length∧q'=q):=by
 by_cases c:i < qs.length
 ·rw [List.getElem?_append_left c] at h;exact .inl ⟨c,h⟩
 ·right
  have hlt:i < (qs ++ [q]).length:=by
   rcases Nat.lt_or_ge i (qs ++ [q]).length with z | z
   ·exact z
   ·rw [List.getElem?_eq_none z] at h;cases h
  simp at hlt;have:i=qs.length:=by omega
  subst this;simp at h;exact ⟨rfl,h.symm⟩
theorem WOk.ad {qs:List Q} {q:Q} (h:WOk qs) (hq:q.2.length≤qs.length):WOk (qs ++ [q]):=fun i q' hi=>by
 rcases Jq hi with ⟨_,e⟩ | ⟨e,rfl⟩
 ·exact h i q' e
 ·omega
theorem DC.ad {S C:D} {qs:List Q} {q:Q} (h:DC S C qs) (hq:KOk S C q.1):DC S C (qs ++ [q]):=fun y hy=>by
 rcases List.mem_append.1 hy with z | z
 ·exact h y z
 ·rw [List.mem_singleton.1 z];exact hq
theorem RL.ad {S C:D} {qs:List Q} {d:D} {r:List D} {q:Q} (h:RL S C qs d) (hx:Cf S C q.1 (sl (.row r) 0) (sl (.row r) 1)):RL S C (qs ++ [q]) (ad d (.row r)):=by
 refine ⟨by rw [AN,h.l];simp,fun i q' hi=>?_⟩
 rw [Cj (by omega),Cj (by omega),h.l]
 rcases Jq hi with ⟨c,e⟩ | ⟨rfl,rfl⟩
 ·rw [if_neg (by omega),if_neg (by omega)]
  exact h.c i q' e
 ·rw [if_pos rfl,if_pos rfl];exact hx
theorem RT.ad {qs:List Q} {d:D} {r:List D} {col:Nat} {q:Q} (h:RT qs d col) (hx:Tr q.2 (sl (.row r) col)):RT (qs ++ [q]) (ad d (.row r)) col:=by
 refine ⟨by rw [AN,h.l];simp,fun i q' hi=>?_⟩
 rw [Cj (by omega),h.l]
 rcases Jq hi with ⟨c,e⟩ | ⟨rfl,rfl⟩
 ·rw [if_neg (by omega)]
  exact h.c i q' e
 ·rw [if_pos rfl];exact hx
theorem Tr.ad {w:List Nat} {d x e:D} {s:Nat} (h:Tr w d) (hl:len x=w.length) (hc:∀i:Nat,i < w.length→cl x i 0=cl d i 0) (he:e=.int (s:Nat)):Tr (w ++ [s]) (ad x (.row [e])):=by
 subst he;refine ⟨by rw [AN,hl];simp,fun i s' hi=>?_,fun q=>by cases (show false=true from q)⟩
 rw [Cj (by omega),hl]
 rcases Jq hi with ⟨c,e⟩ | ⟨rfl,rfl⟩
 ·rw [if_neg (by omega),hc i c]
  exact h.c i s' e
 ·rw [if_pos rfl];rfl
theorem Tr.ni {w:List Nat} {d:D} (h:Tr w d):Tr w (Go.AE.ni d false):=⟨h.l,h.c,fun q=>by cases (show false=true from q)⟩
theorem EB {α:Type} {l:List α} {i:Nat} {a:α} (h:l[i]? = some a):i < l.length:=by
 rcases Nat.lt_or_ge i l.length with q | q
 ·exact q
 ·rw [List.getElem?_eq_none q] at h;cases h
section
variable [Ao]
variable {S C T v0 w8 w9 w11 w13 w15 w19 w21 w23 w24 w25 w27 w28 w30 n0 n1 n2 n3 c0 c1:D} {b10 b12 b14 b16 b18 b20 b22 b29:Bool} {n17 n26:Int}
theorem SK (hR:Rk S C T) (ok:rok v0 S C T=true) {q:Q} (hk:KOk S C q.1) {i:Nat} {L:List Nat} {fl:Bool} {fnd:Int} (hL:∀s ∈ L,s ∈ enl S C T q.1) (hLl:L.length≤20):∀(rem pre:List Nat) (qs:List Q) (d:D) (b:Bool),L=pre ++ rem→DC S C qs→WOk qs→RL S C qs d→RT qs d 2→qs.length≤2000→qs[i]? = some q→
  (2000 < (B4 S C T q qs rem).length∧G9 d (.bool b) (.int fnd) (.int (i:Nat)) (Dv L) (.bool fl) (.int (L.length:Nat)) (.int (pre.length:Nat)) w8 w9 (.bool b10) w11 (.bool b12) w13 (.bool b14) w15 (.bool b16) (.int n17) (.bool b18) w19 (.bool b20) w21 (.bool b22) w23 w24 w25 (.int n26) w27 w28 (.bool b29) w30 n0 n1 n2 n3 c0 c1 v0 S C T=.row [.int 1,.int 7,w23,w24,w25])∨
  ((B4 S C T q qs rem).length≤2000∧∃d' b',DC S C (B4 S C T q qs rem)∧WOk (B4 S C T q qs rem)∧RL S C (B4 S C T q qs rem) d'∧RT (B4 S C T q qs rem) d' 2∧G9 d (.bool b) (.int fnd) (.int (i:Nat)) (Dv L) (.bool fl) (.int (L.length:Nat)) (.int (pre.length:Nat)) w8 w9 (.bool b10) w11 (.bool b12) w13 (.bool b14) w15 (.bool b16) (.int n17) (.bool b18) w19 (.bool b20) w21 (.bool b22) w23 w24 w25 (.int n26) w27 w28 (.bool b29) w30 n0 n1 n2 n3 c0 c1 v0 S C T=HF d' (.bool b') (.int fnd) (.int (i + 1:Nat)) w8 w9 (.bool b10) w11 (.bool b12) w13 (.bool b14) w15 (.bool b16) (.int n17) (.bool b18) w19 (.bool b20) w21 (.bool b22) w23 w24 w25 (.int n26) w27 w28 (.bool b29) w30 n0 n1 n2 n3 c0 c1 v0 S C T)
 | [],pre,qs,d,b=>fun e ho hw hr ht hl hi=>by
  right;have hil:=EB hi;refine ⟨hl,d,b,ho,hw,hr,ht,?_⟩;rw [bI,e];simp only [List.append_nil];rw [iF (by omega),A0 (by omega)]
 | s :: rem,pre,qs,d,b=>fun e ho hw hr ht hl hi=>by
  have hc:=hR.c1;have hil:=EB hi;have hpl:pre.length < L.length:=by rw [e];simp
  have hg:L[pre.length]? = some s:=by rw [e];simp
  have hs:=hL s (by rw [e];simp)
  have hm:=Ld hs;have hx:=hr.c i q hi;have htr:=ht.c i q hi;have hwl:=hw i q hi;obtain ⟨t',x',E,hx'⟩:=cO hR ok hk hx hs;have nk:=TQ hR hk hm.1 hm.2;have hrl:=hr.l;have htl:=htr.l;have e':L=(pre ++ [s]) ++ rem:=by rw [e];simp
  have epl:(pre ++ [s]).length=pre.length + 1:=by simp
  rw [JO];have big:2000 < (IU qs (nx S C T q.1 s,q.2 ++ [s])).length→2000 < (B4 S C T q (IU qs (nx S C T q.1 s,q.2 ++ [s])) rem).length:=fun h=>Nat.lt_of_lt_of_le h Ho
  rw [bI,ifT (by omega),ifF (by omega),EC,ifT (by omega),ifF (by omega),hrl,ifT (by omega),Pp hg,E]
  simp only [Be,A9,tI,Ap,decide_true,cond_true];rw [dx hR (by omega) ho nk hr hx']
  simp only [Be,A9,tI,Ap,decide_true,cond_true];by_cases m:nx S C T q.1 s ∈ FA qs
  ·have ea:IU qs (nx S C T q.1 s,q.2 ++ [s])=qs:=if_pos m;rw [cT (decide_eq_true m),iF (by omega),A0 (by omega),ea]
   have ih:=SK hR ok hk (i:=i) (fl:=fl) (fnd:=fnd) hL hLl rem (pre ++ [s]) qs d b e' ho hw hr ht hl hi;rw [epl] at ih;exact ih
  ·have ea:IU qs (nx S C T q.1 s,q.2 ++ [s])=qs ++ [(nx S C T q.1 s,q.2 ++ [s])]:=if_neg m;rw [ea] at big ⊢;have lq:(qs ++ [(nx S C T q.1 s,q.2 ++ [s])]).length=qs.length + 1:=by simp
   have go:∀W:D,Tr (q.2 ++ [s]) W→qs.length + 1≤2000→_:=fun W hW hle=>
    SK hR ok hk (i:=i) (fl:=fl) (fnd:=fnd) hL hLl rem (pre ++ [s]) (qs ++ [(nx S C T q.1 s,q.2 ++ [s])]) (ad d (.row [t',x',W])) false e' (ho.ad nk) (hw.ad (by simp;omega)) (hr.ad hx') (ht.ad hW) (by rw [lq];exact hle) (by rw [List.getElem?_append_left hil];exact hi)
   rw [epl] at go;rw [cF (decide_eq_false m)];cases nn:(cl d i 2).isNil
   ·rw [cond_false,htl,iT (by omega),iT (by rw [Lj,Bt,htl];omega),iT (by omega),AN,hrl]
    by_cases g:2000 < qs.length + 1
    ·rw [iT (by omega)]
     exact .inl ⟨big (by omega),rfl⟩
    ·rw [iF (by omega),A0 (by omega)]
     exact go _ (htr.ad (x:=ct Ar (cl d i 2)) (by rw [Lj,Bt,htl];omega) (fun j hj=>rfl) rfl).ni (by omega)
   ·have w0:=htr.n nn;rw [cond_true,iT (by omega),AN,hrl]
    by_cases g:2000 < qs.length + 1
    ·rw [iT (by omega)]
     exact .inl ⟨big (by omega),rfl⟩
    ·rw [iF (by omega),A0 (by omega)]
     exact go _ (htr.ad (x:=Ar) (by rw [w0];rfl) (fun j hj=>by rw [w0] at hj;cases hj) rfl) (by omega)
end
end Us
namespace Us
open Go Go.AE
theorem Qw {p:Nat→Bool}:∀{k i:Nat},fdG p (k + 1) i=if fdG p k i < 0 then (if p (i + k)=true then ((i + k:Nat):Int) else -1) else fdG p k i
 | 0,i=>by
  show cond (p i) (i:Int) (-1)=if (-1:Int) < 0 then _ else _
  rw [if_pos (by omega)]
  cases h:p i<;>simp [h]
 | k + 1,i=>by
  have ih:=Qw (p:=p) (k:=k) (i:=i + 1);rw [fdG,ih,show i + (k + 1)=i + 1 + k by omega]
  show _=if cond (p i) (i:Int) (fdG p k (i + 1)) < 0 then _ else cond (p i) (i:Int) (fdG p k (i + 1))
  cases p i
  ·rfl
  ·simp only [cond_true];rw [if_neg (by omega)]
def apB (S C n2 c0 c1:D) (k:Key):Bool:=!decide (fd c0 (cl S k.1 0) < 0) && decide (fdG (F6 C n2 c1 (CP k (len C))) (len c1) 0 < 0)
structure Cv [Ao] (v0 S C T n0 n1 n2 n3 c0 c1:D):Prop where
 hs:Bq T
 hs7:Bq n3
 hp:D9 c1
 ln1:len n1 < 1000
 ln2:len n2 < 1000
 ln3:len n3 < 1000
 r1:rok v0 S C T=true
 r2:rok n0 n1 n2 n3=true
 l8:len c0≤24
 p:fdG (Gj S n1 c0) (len c0) 0 < 0
 l9:len c1≤4
 q:fdG (F8 C n2 c1) (len c1) 0 < 0
theorem Y7 [Ao] {S C:D} {k:Key} (hk:KOk S C k) (j:Nat):kv (CP k (len C)) j=kc k j:=by
 unfold kv;rw [GF];by_cases c:j < len C
 ·rw [if_pos c,F7 _ _ c];rfl
 ·rw [if_neg c,hk.v1 j (by omega)]
theorem Su {C n2 c1 x x':D} (h:∀j,kv x j=kv x' j) (i:Nat):F6 C n2 c1 x i=F6 C n2 c1 x' i:=by
 unfold F6 pv;rw [h]
section
variable [Ao]
variable {S C T v0 w8 w9 w11 w13 w15 w19 w21 w23 w24 w25 w27 w28 w30 n0 n1 n2 n3 c0 c1:D} {b10 b12 b14 b16 b18 b20 b22 b29:Bool} {n17 n26:Int}
theorem lF (hR:Rk S C T) {k:Key} (hk:KOk S C k) {t x:D} (h:Cf S C k t x):fdG (F6 C n2 c1 x) (len c1) 0=fdG (F6 C n2 c1 (CP k (len C))) (len c1) 0:=DP fun j _ _=>Su (fun j=>by rw [h.kv hk,Y7 hk]) j
theorem TW (hR:Rk S C T) {k:Key} (hk:KOk S C k) {t x:D} (h:Cf S C k t x):apB S C n2 c0 c1 k=true↔(0≤fd c0 t∧fdG (F6 C n2 c1 x) (len c1) 0 < 0):=by
 rw [lF hR hk h,← Ir h.t];unfold apB;simp only [Bool.and_eq_true,Bool.not_eq_true',decide_eq_false_iff_not,decide_eq_true_eq,Int.not_lt]
theorem Zv (hR:Rk S C T) (hC:Cv v0 S C T n0 n1 n2 n3 c0 c1) {k:Key} (hk:KOk S C k) {t x:D} (h:Cf S C k t x):∃S' L e,QP v0 S C T n0 n1 n2 n3 c0 c1 t x=.row [.int 1,S',L,.int e]∧(e=0↔apB S C n2 c0 c1 k=true):=by
 have hc:=hR.c1;have s1:=hR.s1;have t1:=hR.t1;have l8:=hC.l8;have l9:=hC.l9;obtain ⟨S',L,e,q,q1,q2⟩:=Yr (v0:=v0) (v1:=S) (v2:=C) (v3:=T) (v4:=n0) (v5:=n1) (v6:=n2) (v7:=n3) (v8:=c0) (v9:=c1) (v10:=t) (v11:=x) hC.hs hC.hs7 hC.hp h.num (by omega) (by omega) (by omega) hC.ln1 hC.ln2 hC.ln3 (by omega) (by omega)
 refine ⟨S',L,e,q,?_⟩;rw [TW hR hk h];constructor
 ·intro z;have o:=q1 z;exact ⟨o.st,o.rg⟩
 ·rintro ⟨z1,z2⟩
  exact (q2 ⟨hC.r1,hC.r2,hC.l8,hC.p,hC.l9,hC.q,h.is hR hk,z1,z2⟩).1
theorem eT (hR:Rk S C T) (hC:Cv v0 S C T n0 n1 n2 n3 c0 c1) {k:Key} (hk:KOk S C k) {t x:D} (h:Cf S C k t x):∃S' L e,Qo n0 n1 n2 n3 v0 S C T c0 c1 t x=.row [.int 1,S',L,.int e]∧(e=0↔apB S C n2 c0 c1 k=true):=by
 have hc:=hR.c1;have s1:=hR.s1;have t1:=hR.t1;have l8:=hC.l8;have l9:=hC.l9;have hn1:=hC.ln1;have hn2:=hC.ln2;obtain ⟨q6,lim⟩:=Pj hC.r2
 have P:∀i,i < len c0→0≤fd S (cl c0 i 0)∧0≤fd n1 (cl c0 i 1)∧DD c0 i=false:=fun i h=>by
  have n:=Co (p:=Gj S n1 c0) (k:=len c0) (i:=0) (j:=i) (by omega) (.inr ⟨hC.p,by omega⟩)
  unfold Gj at n;simp only [Bool.or_eq_false_iff] at n;exact ⟨Int.not_lt.1 (dF n.1),Int.not_lt.1 (dF n.2.1),n.2.2⟩
 have Q:∀i,i < len c1→0≤pl n2 c1 i∧DD c1 i=false:=fun i h=>by
  have n:=Co (p:=F8 C n2 c1) (k:=len c1) (i:=0) (j:=i) (by omega) (.inr ⟨hC.q,by omega⟩)
  unfold F8 at n;simp only [Bool.or_eq_false_iff] at n;exact ⟨Int.not_lt.1 (dF n.1),n.2.2.1⟩
 have E:=gj (v0:=v0) (v1:=S) (v2:=C) (v3:=T) (v4:=n0) (v5:=n1) (v6:=n2) (v7:=n3) (v8:=c0) (v9:=c1) (v10:=t) (v11:=x) h.num hC.hp (by omega) (by omega) (by omega) (by omega) (by omega) h.l (fun i h=>(P i h).2.2) (fun i h=>(Q i h).1)
 rw [TW hR hk h];by_cases d1:fd c0 t < 0
 ·rw [ifT d1] at E;exact ⟨_,_,_,E,fun z=>by omega,fun z=>by omega⟩
 rw [ifF d1] at E;have l8:=B0 (l:=c0) (key:=t);have e8:(((fd c0 t).toNat:Nat):Int)=fd c0 t:=by omega
 have P8:=(P (fd c0 t).toNat (by omega)).2.1
 rw [e8] at P8;rw [RN (fun i h=>(Q i h).2) (fun i h=>(Q i h).1) (fun j hj=>by have:=(lim j hj).2.1;omega) P8] at E
 by_cases d2:fdG (F6 C n2 c1 x) (len c1) 0 < 0
 ·rw [ifT d2] at E;exact ⟨_,_,_,E,fun z=>⟨by omega,d2⟩,fun z=>rfl⟩
 ·rw [ifF d2] at E;exact ⟨_,_,_,E,fun z=>by omega,fun z=>absurd z.2 d2⟩
def BN (S C T:D):Nat→List Q→Nat→List Q
 | 0,qs,_=>qs
 | f + 1,qs,i=>match qs[i]? with
  | some q=>BN S C T f (B4 S C T q qs (enl S C T q.1)) (i + 1)
  | none=>qs
theorem LH:∀{f:Nat} {qs:List Q} {i:Nat},qs.length≤(BN S C T f qs i).length
 | 0,qs,i=>Nat.le_refl _
 | f + 1,qs,i=>by
  rw [BN];split
  ·exact Nat.le_trans Ho (LH (f:=f))
  ·exact Nat.le_refl _
theorem Wa {qs:List Q} {q:Q} {j:Nat} (h:j < qs.length):(IU qs q)[j]? = qs[j]?:=by
 unfold IU;split
 ·rfl
 ·rw [List.getElem?_append_left h]
theorem PP {q:Q} {j:Nat}:∀{l:List Nat} {qs:List Q},j < qs.length→(B4 S C T q qs l)[j]? = qs[j]?
 | [],qs,h=>rfl
 | s :: l,qs,h=>by
  rw [JO,PP (l:=l) (Nat.lt_of_lt_of_le h T6),Wa h]
def pA (ap:Key→Bool) (qs:List Q) (j:Nat):Bool:=match qs[j]? with
 | some q=>ap q.1
 | none=>false
theorem PM (hR:Rk S C T) (hC:Cv v0 S C T n0 n1 n2 n3 c0 c1):∀{f i:Nat} {qs:List Q} {d:D} {b:Bool},i + f=2001→i≤qs.length→DC S C qs→WOk qs→RL S C qs d→RT qs d 2→qs.length≤2000→
  (2000 < (BN S C T f qs i).length∧HF d (.bool b) (.int (fdG (pA (apB S C n2 c0 c1) qs) i 0)) (.int (i:Nat)) w8 w9 (.bool b10) w11 (.bool b12) w13 (.bool b14) w15 (.bool b16) (.int n17) (.bool b18) w19 (.bool b20) w21 (.bool b22) w23 w24 w25 (.int n26) w27 w28 (.bool b29) w30 n0 n1 n2 n3 c0 c1 v0 S C T=.row [.int 1,.int 7,w23,w24,w25])∨
  ((BN S C T f qs i).length≤2000∧∃d' b',DC S C (BN S C T f qs i)∧RL S C (BN S C T f qs i) d'∧RT (BN S C T f qs i) d' 2∧HF d (.bool b) (.int (fdG (pA (apB S C n2 c0 c1) qs) i 0)) (.int (i:Nat)) w8 w9 (.bool b10) w11 (.bool b12) w13 (.bool b14) w15 (.bool b16) (.int n17) (.bool b18) w19 (.bool b20) w21 (.bool b22) w23 w24 w25 (.int n26) w27 w28 (.bool b29) w30 n0 n1 n2 n3 c0 c1 v0 S C T=HF d' (.bool b') (.int (fdG (pA (apB S C n2 c0 c1) (BN S C T f qs i)) (BN S C T f qs i).length 0)) (.int ((BN S C T f qs i).length:Nat)) w8 w9 (.bool b10) w11 (.bool b12) w13 (.bool b14) w15 (.bool b16) (.int n17) (.bool b18) w19 (.bool b20) w21 (.bool b22) w23 w24 w25 (.int n26) w27 w28 (.bool b29) w30 n0 n1 n2 n3 c0 c1 v0 S C T)
 | 0,i,qs,d,b=>fun h hi ho hw hr ht hl=>by omega
 | f + 1,i,qs,d,b=>fun h hi ho hw hr ht hl=>by
  by_cases c:i < qs.length;rotate_left
  ·right;have e:i=qs.length:=by omega
   have es:BN S C T (f + 1) qs i=qs:=by rw [BN,List.getElem?_eq_none (by omega)]
   rw [es];exact ⟨hl,d,b,ho,hr,ht,by rw [e]⟩
  have hg:qs[i]? = some qs[i]:=List.getElem?_eq_getElem c;have hk:=ho _ (List.getElem_mem c);have hx:=hr.c i _ hg;have hrl:=hr.l;have es:BN S C T (f + 1) qs i=BN S C T f (B4 S C T qs[i] qs (enl S C T qs[i].1)) (i + 1):=by rw [BN,hg]
  have ht1:=hR.t1;have el:=O8 (S:=S) (C:=C) (T:=T) (k:=qs[i].1);obtain ⟨S',L,e,q1,q2⟩:=Zv hR hC hk hx;have rl:=Ho (S:=S) (C:=C) (T:=T) (q:=qs[i]) (l:=enl S C T qs[i].1) (qs:=qs);have pe:pA (apB S C n2 c0 c1) qs i=apB S C n2 c0 c1 qs[i].1:=by unfold pA;rw [hg]
  have fs:=Qw (p:=pA (apB S C n2 c0 c1) qs) (k:=i) (i:=0);rw [Nat.zero_add,pe] at fs
  have pc:fdG (pA (apB S C n2 c0 c1) (B4 S C T qs[i] qs (enl S C T qs[i].1))) (i + 1) 0=fdG (pA (apB S C n2 c0 c1) qs) (i + 1) 0:=DP fun j _ hj=>by
   unfold pA;rw [PP (by omega)]
  have G:HF d (.bool b) (.int (fdG (pA (apB S C n2 c0 c1) qs) i 0)) (.int (i:Nat)) w8 w9 (.bool b10) w11 (.bool b12) w13 (.bool b14) w15 (.bool b16) (.int n17) (.bool b18) w19 (.bool b20) w21 (.bool b22) w23 w24 w25 (.int n26) w27 w28 (.bool b29) w30 n0 n1 n2 n3 c0 c1 v0 S C T=G9 d (.bool b) (.int (fdG (pA (apB S C n2 c0 c1) qs) (i + 1) 0)) (.int (i:Nat)) (Dv (enl S C T qs[i].1)) (.bool (enl S C T qs[i].1).isEmpty) (.int ((enl S C T qs[i].1).length:Nat)) (.int (0:Nat)) w8 w9 (.bool b10) w11 (.bool b12) w13 (.bool b14) w15 (.bool b16) (.int n17) (.bool b18) w19 (.bool b20) w21 (.bool b22) w23 w24 w25 (.int n26) w27 w28 (.bool b29) w30 n0 n1 n2 n3 c0 c1 v0 S C T:=by
   rw [cA,ifT (by omega),ifF (by omega),q1,Kg hR hC.r1 hk hx]
   simp only [Be,A9,tI,Ap,decide_true,cond_true,EC];by_cases ez:e=0
   ·rw [iT ez];have:=q2.1 ez;rw [fs,if_pos this];by_cases z:fdG (pA (apB S C n2 c0 c1) qs) i 0 < 0
    ·rw [iT z,if_pos z];rfl
    ·rw [iF z,if_neg z];rfl
   ·rw [iF ez];have:¬apB S C n2 c0 c1 qs[i].1=true:=fun z=>ez (q2.2 z)
    have fg:=L4 (p:=pA (apB S C n2 c0 c1) qs) (k:=i) (i:=0)
    have:fdG (pA (apB S C n2 c0 c1) qs) (i + 1) 0=fdG (pA (apB S C n2 c0 c1) qs) i 0:=by
     rw [fs,if_neg this];split<;>omega
    rw [this];rfl
  rw [G,es];rcases SK (w8:=w8) (w9:=w9) (w11:=w11) (w13:=w13) (w15:=w15) (w19:=w19) (w21:=w21) (w23:=w23) (w24:=w24) (w25:=w25) (w27:=w27) (w28:=w28) (w30:=w30) (n0:=n0) (n1:=n1) (n2:=n2) (n3:=n3) (c0:=c0) (c1:=c1) (b10:=b10) (b12:=b12) (b14:=b14) (b16:=b16) (b18:=b18) (b20:=b20) (b22:=b22) (b29:=b29) (n17:=n17) (n26:=n26) hR hC.r1 hk (i:=i) (L:=enl S C T qs[i].1) (fl:=(enl S C T qs[i].1).isEmpty) (fnd:=fdG (pA (apB S C n2 c0 c1) qs) (i + 1) 0) (fun s hs=>hs) (by omega) (enl S C T qs[i].1) [] qs d b rfl ho hw hr ht hl hg with ⟨g1,g2⟩ | ⟨g1,d',b',o1,o2,o3,o4,g3⟩
  ·exact .inl ⟨Nat.lt_of_lt_of_le g1 LH,g2⟩
  ·have ih:=PM hR hC (f:=f) (i:=i + 1) (qs:=B4 S C T qs[i] qs (enl S C T qs[i].1)) (d:=d') (b:=b') (by omega) (by omega) o1 o2 o3 o4 g1
   rw [pc] at ih;have g3:G9 d (.bool b) (.int (fdG (pA (apB S C n2 c0 c1) qs) (i + 1) 0)) (.int (i:Nat)) (Dv (enl S C T qs[i].1)) (.bool (enl S C T qs[i].1).isEmpty) (.int ((enl S C T qs[i].1).length:Nat)) (.int (0:Nat)) w8 w9 (.bool b10) w11 (.bool b12) w13 (.bool b14) w15 (.bool b16) (.int n17) (.bool b18) w19 (.bool b20) w21 (.bool b22) w23 w24 w25 (.int n26) w27 w28 (.bool b29) w30 n0 n1 n2 n3 c0 c1 v0 S C T=HF d' (.bool b') (.int (fdG (pA (apB S C n2 c0 c1) qs) (i + 1) 0)) (.int (i + 1:Nat)) w8 w9 (.bool b10) w11 (.bool b12) w13 (.bool b14) w15 (.bool b16) (.int n17) (.bool b18) w19 (.bool b20) w21 (.bool b22) w23 w24 w25 (.int n26) w27 w28 (.bool b29) w30 n0 n1 n2 n3 c0 c1 v0 S C T:=g3;rw [g3];exact ih
end
end Us
namespace Us
open Go Go.AE
section
variable [Ao]
variable {S C T v0 n0 n1 n2 n3 c0 c1:D}
theorem Sv (hR:Rk S C T) {q:Q} (hk:KOk S C q.1) {i:Nat} {L:List Nat} {fl:Bool} (hL:∀s ∈ L,s ∈ enl S C T q.1) (hLl:L.length≤20):∀(rem pre:List Nat) (qs:List Q) (d:D) (b:Bool) (ws:D) (wb:Bool),L=pre ++ rem→DC S C qs→WOk qs→RL S C qs d→RT qs ws 0→qs.length≤2000→qs[i]? = some q→
  (2000 < (B4 S C T q qs rem).length∧KG d (.bool b) ws (.bool wb) (.int (i:Nat)) (Dv L) (.bool fl) (.int (pre.length:Nat)) v0 S C T=.row [.int 1,Aw,.bool true,Aw,.bool true,.bool false])∨
  ((B4 S C T q qs rem).length≤2000∧∃d' b' ws' wb',DC S C (B4 S C T q qs rem)∧WOk (B4 S C T q qs rem)∧RL S C (B4 S C T q qs rem) d'∧RT (B4 S C T q qs rem) ws' 0∧KG d (.bool b) ws (.bool wb) (.int (i:Nat)) (Dv L) (.bool fl) (.int (pre.length:Nat)) v0 S C T=J2 d' (.bool b') ws' (.bool wb') (.int (i + 1:Nat)) v0 S C T)
 | [],pre,qs,d,b,ws,wb=>fun e ho hw hr ht hl hi=>by
  right;have hil:=EB hi;refine ⟨hl,d,b,ws,wb,ho,hw,hr,ht,?_⟩;rw [bO,EC,e];simp only [List.append_nil];rw [iF (by omega),A0 (by omega)]
 | s :: rem,pre,qs,d,b,ws,wb=>fun e ho hw hr ht hl hi=>by
  have hc:=hR.c1;have hil:=EB hi;have hpl:pre.length < L.length:=by rw [e];simp
  have hg:L[pre.length]? = some s:=by rw [e];simp
  have hs:=hL s (by rw [e];simp)
  have hm:=Ld hs;have hx:=hr.c i q hi;have htr:=ht.c i q hi;have hwl:=hw i q hi;obtain ⟨t',x',E,hx'⟩:=fE (v0:=v0) hR hk hx hs;have nk:=TQ hR hk hm.1 hm.2;have hrl:=hr.l;have htl:=htr.l;have hwsl:=ht.l;have e':L=(pre ++ [s]) ++ rem:=by rw [e];simp
  have epl:(pre ++ [s]).length=pre.length + 1:=by simp
  rw [JO];have big:2000 < (IU qs (nx S C T q.1 s,q.2 ++ [s])).length→2000 < (B4 S C T q (IU qs (nx S C T q.1 s,q.2 ++ [s])) rem).length:=fun h=>Nat.lt_of_lt_of_le h Ho
  rw [bO,EC,ifT (by omega),ifF (by omega),hrl,ifT (by omega),ifF (by omega),Pp hg]
  have s1:sl (Fr v0 S C T (cl d i 0) (cl d i 1) (.int (s:Nat))) 1=t':=by rw [E];rfl
  have s2:sl (Fr v0 S C T (cl d i 0) (cl d i 1) (.int (s:Nat))) 2=x':=by rw [E];rfl
  have s3:=fi (b:=b) hR (by omega) ho nk hr hx'
  have s4:(sl (Qi d (.bool b) t' x') 1).toBool=decide (nx S C T q.1 s ∈ FA qs):=by rw [s3];rfl
  rw [s1,s2,ifT (by rw [E];rfl),ifT (by rw [s3];rfl),s4]
  by_cases m:nx S C T q.1 s ∈ FA qs
  ·have ea:IU qs (nx S C T q.1 s,q.2 ++ [s])=qs:=if_pos m;rw [cT (decide_eq_true m),iF (by omega),A0 (by omega),ea]
   have ih:=Sv hR hk (i:=i) (fl:=fl) hL hLl rem (pre ++ [s]) qs d b ws wb e' ho hw hr ht hl hi;rw [epl] at ih;exact ih
  ·have ea:IU qs (nx S C T q.1 s,q.2 ++ [s])=qs ++ [(nx S C T q.1 s,q.2 ++ [s])]:=if_neg m;rw [ea] at big ⊢;have lq:(qs ++ [(nx S C T q.1 s,q.2 ++ [s])]).length=qs.length + 1:=by simp
   rw [cF (decide_eq_false m),iT (by omega),hwsl,iT (by omega),htl,iT (by omega),iT (by rw [Lj,CO,htl];omega),iT (by omega),AN,hrl]
   by_cases g:2000 < qs.length + 1
   ·rw [iT (by omega)]
    exact .inl ⟨big (by omega),rfl⟩
   ·rw [iF (by omega),A0 (by omega)]
    have hW:Tr (q.2 ++ [s]) (ni (ad (ct Aw (cl ws i 0)) (.row [.int (s:Nat)])) false):=(htr.ad (x:=ct Aw (cl ws i 0)) (by rw [Lj,CO,htl];omega) (fun j hj=>rfl) rfl).ni
    have ih:=Sv hR hk (i:=i) (fl:=fl) hL hLl rem (pre ++ [s]) (qs ++ [(nx S C T q.1 s,q.2 ++ [s])]) (ad d (.row [t',x'])) false (ad ws (.row [ni (ad (ct Aw (cl ws i 0)) (.row [.int (s:Nat)])) false])) false e' (ho.ad nk) (hw.ad (by simp;omega)) (hr.ad hx') (ht.ad hW) (by omega) (by rw [List.getElem?_append_left hil];exact hi)
    rw [epl] at ih;exact ih
theorem QB (hR:Rk S C T):∀{f i:Nat} {qs:List Q} {d:D} {b:Bool} {ws:D} {wb:Bool},i + f=2001→i≤qs.length→DC S C qs→WOk qs→RL S C qs d→RT qs ws 0→qs.length≤2000→
  (2000 < (BN S C T f qs i).length∧J2 d (.bool b) ws (.bool wb) (.int (i:Nat)) v0 S C T=.row [.int 1,Aw,.bool true,Aw,.bool true,.bool false])∨
  ((BN S C T f qs i).length≤2000∧∃d' b' ws' wb',DC S C (BN S C T f qs i)∧WOk (BN S C T f qs i)∧RL S C (BN S C T f qs i) d'∧RT (BN S C T f qs i) ws' 0∧J2 d (.bool b) ws (.bool wb) (.int (i:Nat)) v0 S C T=.row [.int 1,d',.bool b',ws',.bool wb',.bool true])
 | 0,i,qs,d,b,ws,wb=>fun h hi ho hw hr ht hl=>by omega
 | f + 1,i,qs,d,b,ws,wb=>fun h hi ho hw hr ht hl=>by
  have hrl:=hr.l;by_cases c:i < qs.length;rotate_left
  ·right;have es:BN S C T (f + 1) qs i=qs:=by rw [BN,List.getElem?_eq_none (by omega)]
   rw [es];exact ⟨hl,d,b,ws,wb,ho,hw,hr,ht,by rw [cH,hrl,ifF (by omega)]⟩
  have hg:qs[i]? = some qs[i]:=List.getElem?_eq_getElem c;have hk:=ho _ (List.getElem_mem c);have hx:=hr.c i _ hg;have es:BN S C T (f + 1) qs i=BN S C T f (B4 S C T qs[i] qs (enl S C T qs[i].1)) (i + 1):=by rw [BN,hg]
  have ht1:=hR.t1;have el:=O8 (S:=S) (C:=C) (T:=T) (k:=qs[i].1);have rl:=Ho (S:=S) (C:=C) (T:=T) (q:=qs[i]) (l:=enl S C T qs[i].1) (qs:=qs)
  have G:J2 d (.bool b) ws (.bool wb) (.int (i:Nat)) v0 S C T=KG d (.bool b) ws (.bool wb) (.int (i:Nat)) (Dv (enl S C T qs[i].1)) (.bool (enl S C T qs[i].1).isEmpty) (.int (0:Nat)) v0 S C T:=by
   rw [cH,ifT (by omega),ifF (by omega),gt hR hk hx]
   simp only [Be,A9,tI,Ap,decide_true,cond_true];rfl
  rw [G,es];rcases Sv (v0:=v0) hR hk (i:=i) (L:=enl S C T qs[i].1) (fl:=(enl S C T qs[i].1).isEmpty) (fun s hs=>hs) (by omega) (enl S C T qs[i].1) [] qs d b ws wb rfl ho hw hr ht hl hg with ⟨g1,g2⟩ | ⟨g1,d',b',ws',wb',o1,o2,o3,o4,g3⟩
  ·exact .inl ⟨Nat.lt_of_lt_of_le g1 LH,g2⟩
  ·have ih:=QB hR (f:=f) (i:=i + 1) (qs:=B4 S C T qs[i] qs (enl S C T qs[i].1)) (d:=d') (b:=b') (ws:=ws') (wb:=wb') (by omega) (by omega) o1 o2 o3 o4 g1
   have g3:KG d (.bool b) ws (.bool wb) (.int (i:Nat)) (Dv (enl S C T qs[i].1)) (.bool (enl S C T qs[i].1).isEmpty) (.int (0:Nat)) v0 S C T=J2 d' (.bool b') ws' (.bool wb') (.int (i + 1:Nat)) v0 S C T:=g3;rw [g3];exact ih
def AR (S C T:D) (k:Key):List Q:=BN S C T 2001 [(k,[])] 0
theorem Tr.nil:Tr [] Aw:=⟨rfl,fun i s h=>by simp at h,fun _=>rfl⟩
theorem RL.one {k:Key} {r:List D} (h:Cf S C k (sl (D.row r) 0) (sl (D.row r) 1)):RL S C [(k,[])] (Go.AE.ad Ar (D.row r)):=RL.ad (qs:=[]) ⟨rfl,fun i q h=>by simp at h⟩ h
theorem RT.one {k:Key} {r:List D} {c:Nat} (h:Tr [] (sl (D.row r) c)):RT [(k,[])] (Go.AE.ad Ar (D.row r)) c:=RT.ad (qs:=[]) (q:=(k,[])) ⟨rfl,fun i q h=>by simp at h⟩ h
theorem DC.one {k:Key} (h:KOk S C k):DC S C [(k,[])]:=fun q hq=>by rw [List.mem_singleton.1 hq];exact h
theorem WOk.one {k:Key}:WOk [(k,[])]:=fun i q h=>by
 have:=EB h;simp at this;subst this;simp at h;subst h;simp
theorem dp (hR:Rk S C T) {k:Key} (hk:KOk S C k) {t x:D} (h:Cf S C k t x) :
  (2000 < (AR S C T k).length∧Iu v0 S C T t x=.row [.int 1,Aw,.bool true,Aw,.bool true,.bool false])∨
  ((AR S C T k).length≤2000∧∃d' b' ws' wb',DC S C (AR S C T k)∧WOk (AR S C T k)∧RL S C (AR S C T k) d'∧RT (AR S C T k) ws' 0∧Iu v0 S C T t x=.row [.int 1,d',.bool b',ws',.bool wb',.bool true]):=by
 rw [gE];exact QB hR (f:=2001) (i:=0) (by omega) (by omega) (DC.one hk) WOk.one (RL.one (r:=[t,x]) h) (RT.one (r:=[Aw]) Tr.nil) (by show 1≤_;omega)
theorem WV (hR:Rk S C T) (hC:Cv v0 S C T n0 n1 n2 n3 c0 c1) {k:Key} (hk:KOk S C k) {t x:D} (h:Cf S C k t x) :
  (2000 < (AR S C T k).length→QR v0 S C T t x n0 n1 n2 n3 c0 c1=.row [.int 1,.int 7])∧
  ((AR S C T k).length≤2000→fdG (pA (apB S C n2 c0 c1) (AR S C T k)) (AR S C T k).length 0 < 0→QR v0 S C T t x n0 n1 n2 n3 c0 c1=.row [.int 1,.int 9])∧
  ((AR S C T k).length≤2000→∀q,(AR S C T k)[(fdG (pA (apB S C n2 c0 c1) (AR S C T k)) (AR S C T k).length 0).toNat]? = some q→0≤fdG (pA (apB S C n2 c0 c1) (AR S C T k)) (AR S C T k).length 0→∃w,Tr q.2 w∧q.2.length≤2000∧QR v0 S C T t x n0 n1 n2 n3 c0 c1=.row [.int 2,w]):=by
 have hc:=hR.c1;have s1:=hR.s1;have t1:=hR.t1;have l8:=hC.l8;have l9:=hC.l9;have K:=(WS (v0:=v0) (v1:=S) (v2:=C) (v3:=T) (v4:=n0) (v5:=n1) (v6:=n2) (v7:=n3) (v8:=c0) (v9:=c1) hC.hs hC.hs7 hC.hp (by omega) (by omega) (by omega) hC.ln1 hC.ln2 hC.ln3 (by omega) (by omega)).trans (RZ hC.r1 hC.r2 hC.l8 hC.p hC.l9 hC.q)
 have E:=bz v0 S C T t x n0 n1 n2 n3 c0 c1;rw [K] at E;simp only [Be,A9,tI,Ap,decide_true,cond_true] at E;rcases dp (v0:=v0) hR hk h with ⟨g1,g2⟩ | ⟨g1,d',b',ws',wb',o1,ow,o2,o3,g2⟩
 ·rw [g2] at E;simp only [Be,A9,tI,Ap,decide_true,cond_true,cond_false] at E;exact ⟨fun _=>E,fun z=>by omega,fun z=>by omega⟩
 rw [g2] at E;simp only [Be,A9,tI,Ap,decide_true,cond_true,cond_false] at E;have hl:=o2.l
 have L:=EJ (F:=fun i=>Kr d' (.bool b') ws' (.bool wb') (.int (i:Nat)) v0 S C T n0 n1 n2 n3 c0 c1) (n:=(AR S C T k).length) (bad:=pA (apB S C n2 c0 c1) (AR S C T k)) (B:=fun i=>.row [.int 2,cl ws' i 0]) (fun i hi=>by
  show Kr d' (.bool b') ws' (.bool wb') (.int (i:Nat)) v0 S C T n0 n1 n2 n3 c0 c1=cond _ _ (Kr d' (.bool b') ws' (.bool wb') (.int (i + 1:Nat)) v0 S C T n0 n1 n2 n3 c0 c1);have hg:(AR S C T k)[i]? = some (AR S C T k)[i]:=List.getElem?_eq_getElem hi;have hk:=o1 _ (List.getElem_mem hi);obtain ⟨S',L,e,q1,q2⟩:=eT hR hC hk (o2.c i _ hg);have pe:pA (apB S C n2 c0 c1) (AR S C T k) i=apB S C n2 c0 c1 (AR S C T k)[i].1:=by unfold pA;rw [hg]
  have wl:=o3.l;rw [cj,ifT (by omega),ifF (by omega),q1,A0 (by omega)]
  simp only [Be,A9,tI,Ap,decide_true,cond_true];rw [pe];by_cases ez:e=0
  ·rw [iT ez,q2.1 ez,iT (by omega)]
   rfl
  ·have:apB S C n2 c0 c1 (AR S C T k)[i].1=false:=by
    cases z:apB S C n2 c0 c1 (AR S C T k)[i].1
    ·rfl
    ·exact absurd (q2.2 z) ez
   rw [iF ez,this];rfl)
 have L:Kr d' (.bool b') ws' (.bool wb') (.int 0) v0 S C T n0 n1 n2 n3 c0 c1=cond _ (Kr d' (.bool b') ws' (.bool wb') (.int ((AR S C T k).length:Nat)) v0 S C T n0 n1 n2 n3 c0 c1) _:=L;rw [L] at E;refine ⟨fun z=>by omega,fun _ z=>?_,fun _ q hq z=>?_⟩
 ·rw [ifT z,cj,ifF (by omega)] at E
  exact E
 ·rw [ifF (by omega)] at E
  exact ⟨_,o3.c _ q hq,by have:=ow _ q hq;have:=EB hq;omega,E⟩
end
end Us
namespace Us
open Go Go.AE
section
variable [Ao]
variable {S C T N:D} {n:Nat} {m:MS} {r:RS}
def Cp (S C:D) (r:RS):Key:=(fd S r.at',kv r.vals 0,kv r.vals 1,kv r.vals 2,kv r.vals 3)
theorem O5 {j:Nat} (h:j < 4):kc (Cp S C r) j=kv r.vals j:=by
 match j,h with
 | 0,_=>rfl
 | 1,_=>rfl
 | 2,_=>rfl
 | 3,_=>rfl
theorem Uj (h:Inv S C T n m r):KOk S C (Cp S C r):=by
 have c1:=h.rk.c1;have lv:=h.bk.lv;refine ⟨h.at0,B0,fun j hj=>?_,fun j hj=>?_⟩
 ·obtain ⟨x,v1,v2,v3,v4⟩:=h.bk.vl j hj;rw [O5 (by omega)]
  unfold kv;rw [if_pos (by omega),v2]
  exact ⟨v3,v4⟩
 ·by_cases c:j < 4
  ·rw [O5 c];unfold kv;rw [if_neg (by omega)]
  ·exact Yd (by omega)
theorem TB (h:Inv S C T n m r) {t x:D} (ht:D.strEq r.at' t=true) (hl:len x=len C) (hx:∀j:Nat,j < len C→cl x j 0=cl r.vals j 0) (hw:Wd x 1):Cf S C (Cp S C r) t x:=by
 have c1:=h.rk.c1;have lv:=h.bk.lv;refine ⟨IW (Jr h.at0) ht,hl,fun j hj=>?_,hw⟩
 obtain ⟨a,v1,v2,v3,v4⟩:=h.bk.vl j hj;rw [hx j hj,O5 (by omega)]
 unfold kv;rw [if_pos (by omega),v2]
 rfl
theorem SG (h:Inv S C T n m r) (N:D):∃x,Ww N S C T r.at' (.int r.ent) r.defs r.vals (.int r.time) r.evs=.row [.int 1,r.at',x]∧Cf S C (Cp S C r) r.at' x:=by
 have c1:=h.rk.c1;have lv:=h.bk.lv;rw [qP,ifT (by omega)]
 refine ⟨_,rfl,TB h Ca (by rw [Jv,Lj,CO];omega) (fun j hj=>rfl) (Uu (b9 Gg h.bk.wv))⟩
theorem R4 (h:Inv S C T n m r) (X0 X1 X2 X3 X4 X5 X6 X7:D) (b1 b2 b3:Bool) (y0 y1 y2:Bool) (n1 n2:Int) (X8 X9 XA XB:D):∃x,Xf m.b (.bool m.bn) X0 X1 (.bool b1) X2 X3 (.bool b2) X4 X5 (.bool b3) X6 m.an (.bool y0) (.int n1) (.int n2) X7 X8 X9 (.bool y1) (.bool y2) XA (.bool m.en)=.row [.int 1,m.an,x]∧Cf S C (Cp S C r) m.an x:=by
 obtain ⟨l,lb,q1,q2,q3,q4⟩:=XR h.rk h.bk h.bn;refine ⟨ni l lb,?_,?_⟩
 ·rw [mI,q1];simp only [Be,A9,tI,tB,decide_true,cond_true]
 ·have a:=h.an;rw [AX] at a;exact TB h a (by rw [Jv,q2]) (fun j hj=>by rw [TU];exact q3 j hj) (Uu q4)
theorem Yv (h:Inv S C T n m r) (hn:n < 900):∃L,Yf m.b (.bool m.bn) m.nm m.st (.bool m.stn) m.ct (.bool m.ctn) m.sp (.bool m.spn) m.an (.bool m.af) (.int m.aw) (.int m.now) m.due m.dn m.hp (.bool m.hn) (.bool m.ov) m.ev (.bool m.en)=.row (.int 1 :: m.st :: m.ct :: m.sp :: L):=by
 have hl:=h.hl;have el:=h.el;have el':=h.el';have lb:=h.bk.lb;have c1:=h.rk.c1
 have A:(sl (PK m.b (.bool m.bn)) 0).toInt=1:=by
  rw [sA,ce];cases m.bn
  ·rw [cF rfl,ifT (p:=(len m.b:Int) < 1048576) (by omega)];rfl
  ·rfl
 have B:(sl (GN (.int m.now) m.due m.dn m.hp (.bool m.hn)) 0).toInt=1:=by
  rw [br,bg];cases m.hn
  ·rw [cF rfl,ifT (p:=(len m.hp:Int) < 1048576) (by omega)]
   cases m.dn.toBool<;>simp only [cond_true,cond_false,Be,A9,tI,decide_true]
  ·cases m.dn.toBool<;>simp only [cond_true,cond_false,Be,A9,tI,decide_true]
 have D':(sl (Pu m.ev (.bool m.en)) 0).toInt=1:=by
  rw [rO];cases m.en
  ·rw [cF rfl,ifT (p:=(len m.ev:Int) < 1048576) (by omega)];rfl
  ·rfl
 rw [kJ,ifT A,ifT B,ifT D'];exact ⟨_,rfl⟩
def IsL (S:D):Prop:=∃b rows,S=.slc b rows
theorem SO {S m:D} {b:Bool} (hS:IsL S) (hn:D5 S) (hm:m.rows=S.rows) (hb:b=S.isNil):(b=true→S=.slc true [])∧(b=false→S=.slc false m.rows):=by
 obtain ⟨nl,rows,rfl⟩:=hS;have hb:b=nl:=hb;have hm:m.rows=rows:=hm;subst hb;refine ⟨fun z=>?_,fun z=>?_⟩
 ·subst z;have:rows=[]:=hn rfl;rw [this]
 ·rw [z,hm];rfl
theorem XD (h:Inv S C T n m r) (lS:IsL S) (lC:IsL C) (lT:IsL T) (n1:D5 S) (n2:D5 C) (n3:D5 T) (b1:m.stn=S.isNil) (b2:m.ctn=C.isNil) (b3:m.spn=T.isNil) (hs:len S < 1000) :
  Wk m.b (.bool m.bn) m.nm m.st (.bool m.stn) (.int (len m.st:Int)) m.ct (.bool m.ctn) (.int (len m.ct:Int)) m.sp (.bool m.spn) (.int (len m.sp:Int)) m.an (.bool m.af) (.int m.aw) (.int m.now) m.due m.dn m.hp (.bool m.hn) (.bool m.ov) m.ev (.bool m.en)=.row [.int 1,m.nm,S,C,T]:=by
 have c1:=h.rk.c1;have t1:=h.rk.t1;have ls:=B5 h.st;have lc:=B5 h.ct;have lt:=B5 h.sp
 have A:∃l b,Ps m.st (.bool m.stn) (.int (len m.st:Int))=.row [.int 1,l,.bool b]∧ni l b=S:=by
  obtain ⟨o1,o2⟩:=SO lS n1 h.st b1;rw [mn];cases q:m.stn
  ·rw [cF rfl,ifT (by rw [tI]),ifT (by omega)]
   exact ⟨_,_,rfl,(o2 q).symm⟩
  ·exact ⟨_,_,rfl,(o1 q).symm⟩
 have B:∃l b,Qb m.ct (.bool m.ctn) (.int (len m.ct:Int))=.row [.int 1,l,.bool b]∧ni l b=C:=by
  obtain ⟨o1,o2⟩:=SO lC n2 h.ct b2;rw [iD];cases q:m.ctn
  ·rw [cF rfl,ifT (by rw [tI]),ifT (by omega)]
   exact ⟨_,_,rfl,(o2 q).symm⟩
  ·exact ⟨_,_,rfl,(o1 q).symm⟩
 have D':∃l b,Q2 m.sp (.bool m.spn) (.int (len m.sp:Int))=.row [.int 1,l,.bool b]∧ni l b=T:=by
  obtain ⟨o1,o2⟩:=SO lT n3 h.sp b3;rw [jX];cases q:m.spn
  ·rw [cF rfl,ifT (by rw [tI]),ifT (by omega)]
   exact ⟨_,_,rfl,(o2 q).symm⟩
  ·exact ⟨_,_,rfl,(o1 q).symm⟩
 obtain ⟨a1,a2,a3,a4⟩:=A;obtain ⟨d1,d2,d3,d4⟩:=B;obtain ⟨g1,g2,g3,g4⟩:=D';rw [jg,a3,d3,g3];simp only [Be,A9,tI,tB,decide_true,cond_true,a4,d4,g4]
end
end Us
namespace Us
open Go Go.AE
section
variable [Ao]
variable {v0 v1 v2 v3 v4 v5 v6 v7 v8 v9 v10:D}
def Rp (P:Prop) (x:D):Prop:=∃b:Bool,x=.row [.int 1,.bool b]∧(b=true→P)
theorem Rp.no {P:Prop}:Rp P (.row [.int 1,.bool false]):=⟨_,rfl,fun h=>by cases h⟩
theorem Rp.c {P:Prop} {c:Bool} {x y:D} (h:Rp P x) (h':Rp P y):Rp P (cond c x y):=by cases c<;>assumption
theorem Rp.i {P p:Prop} [Decidable p] {y:D} (h:¬p→Rp P y):Rp P (cond (decide p) (.row [.int 1,.bool false]) y):=by
 by_cases c:p
 ·rw [ifT c];exact .no
 ·rw [ifF c];exact h c
def Txt (v3:D) (i:Nat):Prop:=∀j:Nat,i≤j→j < len v3→BG (cl v3 j 3)≤40∧BG (cl v3 j 4)≤40
theorem Yp (hn:len v3 < 1000) (s:Int):∀{k i:Nat},i + k=len v3→Rp (Txt v3 i) (ZW (.int s) (.int (i:Nat)) v0 v1 v2 v3)
 | 0,i,h=>by rw [tR,ifF (by omega)];exact ⟨_,rfl,fun _ j _ _=>by omega⟩
 | k + 1,i,h=>by
  rw [tR,ifT (by omega),ifF (by omega),A0 (by omega)]
  refine .i fun _=>.i fun _=>.i fun c1=>.i fun c2=>.i fun _=>?_
  obtain ⟨b,q,hb⟩:=Yp hn s (k:=k) (i:=i + 1) (by omega)
  refine ⟨b,q,fun z j h1 h2=>?_⟩
  by_cases d:j=i
  ·subst d;exact ⟨by omega,by omega⟩
  ·exact hb z j (by omega) h2
theorem WN (hn:len v1 < 1000) (hn3:len v3 < 1000) (s:Int):∀{k i:Nat},i + k=len v1→Rp (Txt v3 0) (Z8 (.int s) (.int (i:Nat)) v0 v1 v2 v3)
 | 0,i,h=>by rw [np,ifF (by omega)];exact Yp (i:=0) (k:=len v3) hn3 s (by omega)
 | k + 1,i,h=>by
  rw [np,ifT (by omega),ifF (by omega),A0 (by omega)]
  exact .i fun _=>WN hn hn3 s (k:=k) (by omega)
theorem Oi (hn:len v1 < 1000) (hn2:len v2 < 1000) (hn3:len v3 < 1000):∀{k i:Nat} (s:Int),i + k=len v2→Rp (Txt v3 0) (VK (.int s) (.int (i:Nat)) v0 v1 v2 v3)
 | 0,i,s,h=>by rw [ro,ifF (by omega)];exact WN (i:=0) (k:=len v1) hn hn3 s (by omega)
 | k + 1,i,s,h=>by
  rw [ro,ifT (by omega),ifF (by omega),A0 (by omega)]
  exact .c (.i fun _=>Oi hn hn2 hn3 _ (k:=k) (by omega)) (.c (.i fun _=>Oi hn hn2 hn3 _ (k:=k) (by omega)) (.i fun _=>Oi hn hn2 hn3 _ (k:=k) (by omega)))
def Ti (v3:D):Prop:=∀i:Nat,i < len v3→(∃n,cl v3 i 2=.int n)∧(∃n,cl v3 i 6=.int n)∧(∃n,cl v3 i 7=.int n)∧(∃n,cl v3 i 8=.int n)
theorem QO (v0 v1 v2 v3:D):∃b,U5 v0 v1 v2 v3=.row [.int 1,.bool b]∧(b=true→len v1≤6∧len v2≤5∧len v3≤12∧(Ti v3→Bq v3)):=by
 rw [uh];by_cases c1:6 < (len v1:Int)
 ·rw [ifT c1];exact ⟨_,rfl,fun h=>by cases h⟩
 by_cases c2:12 < (len v3:Int)
 ·rw [ifF c1,ifT c2];exact ⟨_,rfl,fun h=>by cases h⟩
 by_cases c3:5 < (len v2:Int)
 ·rw [ifF c1,ifF c2,ifT c3];exact ⟨_,rfl,fun h=>by cases h⟩
 rw [ifF c1,ifF c2,ifF c3];obtain ⟨b,hb,ht⟩:=Rp.i (p:=40 < (BG v0:Int)) fun _=>Oi (v0:=v0) (v1:=v1) (v2:=v2) (v3:=v3) (i:=0) (k:=len v2) (by omega) (by omega) (by omega) 0 (by omega)
 refine ⟨b,hb,fun z=>⟨by omega,by omega,by omega,fun hi i h=>?_⟩⟩
 obtain ⟨q1,q2,q3,q4⟩:=hi i h;obtain ⟨t1,t2⟩:=ht z i (by omega) h
 exact ⟨q1,q2,q3,q4,by omega,by omega⟩
end
section
variable [Ao]
variable {S C T N n0 n1 n2 n3 c0 c1:D} {n:Nat} {m:MS} {r:RS}
structure Mc (N S C T:D) (m:MS):Prop where
 lS:IsL S
 lC:IsL C
 lT:IsL T
 n1:D5 S
 n2:D5 C
 n3:D5 T
 b1:m.stn=S.isNil
 b2:m.ctn=C.isNil
 b3:m.spn=T.isNil
 nm:m.nm=N
theorem Tt (h:Inv S C T n m r) (hm:Mc N S C T m) (hn:n < 900):∃(X1 X2 X3 x:D),Cf S C (Cp S C r) m.an x∧N4 m.b (.bool m.bn) m.nm m.st (.bool m.stn) m.ct (.bool m.ctn) m.sp (.bool m.spn) m.an (.bool m.af) (.int m.aw) (.int m.now) m.due m.dn m.hp (.bool m.hn) (.bool m.ov) m.ev (.bool m.en) n0 n1 n2 n3 c0 c1 =
  cond (decide ((sl (G3 N S C T n0 n1 n2 n3 c0 c1) 0).toInt=1)) (
   cond (decide ((sl (G3 N S C T n0 n1 n2 n3 c0 c1) 2).toInt=0)) (
    HF (ad Ar (.row [m.an,x,Aw])) (.bool false) (.int (-1)) (.int 0) m.nm (.int (len m.st:Int)) (.bool m.stn) (.int (len m.ct:Int)) (.bool m.ctn) (.int (len m.sp:Int)) (.bool m.spn) m.an (.bool m.af) (.int m.aw) (.bool m.ov) m.ev (.bool m.en) m.b (.bool m.bn) X1 X2 X3 (.int m.now) m.dn m.hp (.bool m.hn) m.due n0 n1 n2 n3 c0 c1 N S C T) (
    .row [.int 1,sl (G3 N S C T n0 n1 n2 n3 c0 c1) 2,X1,X2,X3])) (.row []):=by
  obtain ⟨L,q0⟩:=Yv h hn;have q1:=XD h hm.lS hm.lC hm.lT hm.n1 hm.n2 hm.n3 hm.b1 hm.b2 hm.b3 h.rk.s1;obtain ⟨x,q2,hx⟩:=R4 h m.nm m.st (.int (len m.st:Int)) m.ct (.int (len m.ct:Int)) m.sp (.int (len m.sp:Int)) m.due m.stn m.ctn m.spn m.af m.hn m.ov m.aw m.now m.dn m.hp m.ev m.ev;refine ⟨m.st,m.ct,m.sp,x,hx,?_⟩;have e1:sl (D.row (.int 1 :: m.st :: m.ct :: m.sp :: L)) 1=m.st:=by rw [A9,Be]
  have e2:sl (D.row (.int 1 :: m.st :: m.ct :: m.sp :: L)) 2=m.ct:=by rw [A9,A9,Be]
  have e3:sl (D.row (.int 1 :: m.st :: m.ct :: m.sp :: L)) 3=m.sp:=by rw [A9,A9,A9,Be]
  rw [nA (h0:=q0) (h1:=rfl) (h2:=rfl),e1,e2,e3,q1,q2,hm.nm];simp only [Be,A9,tI,decide_true,cond_true]
theorem Yq (h:Inv S C T n m r) (hm:Mc N S C T m) (hn:n < 900) (hC:Cv N S C T n0 n1 n2 n3 c0 c1) :
  (2000 < (AR S C T (Cp S C r)).length→∃L,N4 m.b (.bool m.bn) m.nm m.st (.bool m.stn) m.ct (.bool m.ctn) m.sp (.bool m.spn) m.an (.bool m.af) (.int m.aw) (.int m.now) m.due m.dn m.hp (.bool m.hn) (.bool m.ov) m.ev (.bool m.en) n0 n1 n2 n3 c0 c1=.row (.int 1 :: .int 7 :: L))∧
  ((AR S C T (Cp S C r)).length≤2000→fdG (pA (apB S C n2 c0 c1) (AR S C T (Cp S C r))) (AR S C T (Cp S C r)).length 0 < 0→∃L,N4 m.b (.bool m.bn) m.nm m.st (.bool m.stn) m.ct (.bool m.ctn) m.sp (.bool m.spn) m.an (.bool m.af) (.int m.aw) (.int m.now) m.due m.dn m.hp (.bool m.hn) (.bool m.ov) m.ev (.bool m.en) n0 n1 n2 n3 c0 c1=.row (.int 1 :: .int 9 :: L))∧
  ((AR S C T (Cp S C r)).length≤2000→∀q,(AR S C T (Cp S C r))[(fdG (pA (apB S C n2 c0 c1) (AR S C T (Cp S C r))) (AR S C T (Cp S C r)).length 0).toNat]? = some q→0≤fdG (pA (apB S C n2 c0 c1) (AR S C T (Cp S C r))) (AR S C T (Cp S C r)).length 0→∃w L,Tr q.2 w∧N4 m.b (.bool m.bn) m.nm m.st (.bool m.stn) m.ct (.bool m.ctn) m.sp (.bool m.spn) m.an (.bool m.af) (.int m.aw) (.int m.now) m.due m.dn m.hp (.bool m.hn) (.bool m.ov) m.ev (.bool m.en) n0 n1 n2 n3 c0 c1=.row (.int 2 :: w :: L)):=by
 have hR:=h.rk;have c1':=hR.c1;have s1:=hR.s1;have t1:=hR.t1;have l8:=hC.l8;have l9:=hC.l9;have K:=(Rn (v0:=N) (v1:=S) (v2:=C) (v3:=T) (v4:=n0) (v5:=n1) (v6:=n2) (v7:=n3) (v8:=c0) (v9:=c1) hC.hs hC.hs7 (by omega) (by omega) (by omega) hC.ln1 hC.ln2 hC.ln3 (by omega) (by omega)).trans (RZ hC.r1 hC.r2 hC.l8 hC.p hC.l9 hC.q)
 obtain ⟨X1,X2,X3,x,hx,E⟩:=Tt (n0:=n0) (n1:=n1) (n2:=n2) (n3:=n3) (c0:=c0) (c1:=c1) h hm hn;rw [K] at E;simp only [Be,A9,tI,decide_true,cond_true] at E;have hk:=Uj h;have W:=PM (w8:=m.nm) (w9:=.int (len m.st:Int)) (b10:=m.stn) (w11:=.int (len m.ct:Int)) (b12:=m.ctn) (w13:=.int (len m.sp:Int)) (b14:=m.spn) (w15:=m.an) (b16:=m.af) (n17:=m.aw) (b18:=m.ov) (w19:=m.ev) (b20:=m.en) (w21:=m.b) (b22:=m.bn) (w23:=X1) (w24:=X2) (w25:=X3) (n26:=m.now) (w27:=m.dn) (w28:=m.hp) (b29:=m.hn) (w30:=m.due) hR hC (f:=2001) (i:=0) (qs:=[(Cp S C r,[])]) (d:=ad Ar (.row [m.an,x,Aw])) (b:=false) (by omega) (by omega) (DC.one hk) WOk.one (RL.one (r:=[m.an,x,Aw]) hx) (RT.one (r:=[m.an,x,Aw]) (c:=2) Tr.nil) (by show 1≤_;omega)
 rw [show BN S C T 2001 [(Cp S C r,[])] 0=AR S C T (Cp S C r) from rfl] at W
 rcases W with ⟨g1,g2⟩ | ⟨g1,d',b',o1,o2,o3,g2⟩
 ·exact ⟨fun _=>⟨_,E.trans g2⟩,fun z=>by omega,fun z=>by omega⟩
 have E:=E.trans g2;have hl:len d'=(AR S C T (Cp S C r)).length:=o2.l;rw [cA,ifF (show ¬(((AR S C T (Cp S C r)).length:Nat):Int) < len d' by omega),ifF (show ¬2000 < (len d':Int) by omega)] at E
 refine ⟨fun z=>by omega,fun _ z=>?_,fun _ q hq z=>?_⟩
 ·rw [ifT z] at E;exact ⟨_,E⟩
 ·have lt:=Fe (p:=pA (apB S C n2 c0 c1) (AR S C T (Cp S C r))) (k:=(AR S C T (Cp S C r)).length) (i:=0);rw [ifF (by omega),ifT (by omega)] at E
  have W:=o3.c _ q hq;rw [show (((fdG (pA (apB S C n2 c0 c1) (AR S C T (Cp S C r))) (AR S C T (Cp S C r)).length 0).toNat:Nat):Int)=fdG (pA (apB S C n2 c0 c1) (AR S C T (Cp S C r))) (AR S C T (Cp S C r)).length 0 by omega] at W
  exact ⟨_,_,W,E⟩
theorem Wc:Ng=.row [.int 1]:=vh
theorem knT:cond (decide ((sl (Ng) 0).toInt=1)) (D.row [.int 1,(.bool true)]) (.row [])=.row [.int 1,(.bool true)]:=by rw [Wc];rfl
theorem LL {w:List Nat} {a b:D} (ha:Tr w a) (hb:Tr w b) (hl:w.length < 100000):∀{k i:Nat},i + k=w.length→J6 a b (.int (i:Nat))=.row [.int 1,.bool true]
 | 0,i,h=>by
  have la:=ha.l;rw [bP,ifF (by omega),knT]
 | k + 1,i,h=>by
  have la:=ha.l;have lb:=hb.l;have hg:w[i]? = some w[i]:=List.getElem?_eq_getElem (by omega)
  rw [bP,ifT (by omega),ifF (by omega),ifT (by omega),ha.c i _ hg,hb.c i _ hg,ifT rfl,A0 (by omega)]
  exact LL ha hb hl (k:=k) (by omega)
theorem dE (h:Inv S C T n m r) (hm:Mc N S C T m) (hn:n < 900) (hs:Bq T) (hs7:Bq n3) (hp:D9 c1) (l1:len n1 < 1000) (l2:len n2 < 1000) (l3:len n3 < 1000) (l8:len c0 < 1000) (l9:len c1 < 1000) (i:Int) (B:D) (hi:(len B:Int)≤i) :
  QZ B (.int i) N S C T n0 n1 n2 n3 c0 c1 N S C T r.at' (.int r.ent) r.defs r.vals (.int r.time) r.evs m.nm m.st (.bool m.stn) m.ct (.bool m.ctn) m.sp (.bool m.spn) m.an (.bool m.af) (.int m.aw) (.bool m.ov) m.ev (.bool m.en) m.b (.bool m.bn) (.int m.now) m.dn m.hp (.bool m.hn) m.due=.row [.int 1,.bool true]:=by
 have hR:=h.rk;have cc1:=hR.c1;have s1:=hR.s1;have t1:=hR.t1;obtain ⟨y,q2,hy⟩:=SG h N;obtain ⟨a,e,hc,he⟩:=N3 N S C T n0 n1 n2 n3 c0 c1;have K59:=(Rn (v0:=N) (v1:=S) (v2:=C) (v3:=T) (v4:=n0) (v5:=n1) (v6:=n2) (v7:=n3) (v8:=c0) (v9:=c1) hs hs7 (by omega) (by omega) (by omega) l1 l2 l3 l8 l9).trans hc
 have K82:=(WS (v0:=N) (v1:=S) (v2:=C) (v3:=T) (v4:=n0) (v5:=n1) (v6:=n2) (v7:=n3) (v8:=c0) (v9:=c1) hs hs7 hp (by omega) (by omega) (by omega) l1 l2 l3 l8 l9).trans hc
 have N0:J6 Aw Aw (.int 0)=.row [.int 1,.bool true]:=LL Tr.nil Tr.nil (by show 0 < _;omega) (k:=0) (i:=0) rfl
 by_cases c:e=0;rotate_left
 ·obtain ⟨X1,X2,X3,x,hx,E⟩:=Tt (n0:=n0) (n1:=n1) (n2:=n2) (n3:=n3) (c0:=c0) (c1:=c1) h hm hn;rw [K59] at E;simp only [Be,A9,tI,decide_true,cond_true] at E;rw [iF c] at E;have E2:=bz N S C T r.at' y n0 n1 n2 n3 c0 c1;rw [K82] at E2;simp only [Be,A9,tI,decide_true,cond_true] at E2;rw [iF c] at E2;rw [PX (h0:=rfl) (h1:=E) (h2:=q2) (h3:=rfl) (h4:=rfl),ifF (by omega)]
  simp only [Be,A9,tI,decide_true,cond_true];rw [E2];simp only [Be,A9,tI,decide_true,cond_true];exact N0
 obtain ⟨r1,r2,l8,p,l9,q⟩:=he c;have hC:Cv N S C T n0 n1 n2 n3 c0 c1:=⟨hs,hs7,hp,l1,l2,l3,r1,r2,l8,p,l9,q⟩;have hk:=Uj h;obtain ⟨A1,A2,A3⟩:=Yq h hm hn hC;obtain ⟨B1,B2,B3⟩:=WV hR hC hk hy;by_cases g:2000 < (AR S C T (Cp S C r)).length
 ·obtain ⟨L,E⟩:=A1 g;rw [PX (h0:=rfl) (h1:=E) (h2:=q2) (h3:=rfl) (h4:=rfl),ifF (by omega)]
  simp only [Be,A9,tI,decide_true,cond_true];rw [B1 g];simp only [Be,A9,tI,decide_true,cond_true];exact N0
 by_cases z:fdG (pA (apB S C n2 c0 c1) (AR S C T (Cp S C r))) (AR S C T (Cp S C r)).length 0 < 0
 ·obtain ⟨L,E⟩:=A2 (by omega) z
  rw [PX (h0:=rfl) (h1:=E) (h2:=q2) (h3:=rfl) (h4:=rfl),ifF (by omega)]
  simp only [Be,A9,tI,decide_true,cond_true];rw [B2 (by omega) z]
  simp only [Be,A9,tI,decide_true,cond_true];exact N0
 have lt:=Fe (p:=pA (apB S C n2 c0 c1) (AR S C T (Cp S C r))) (k:=(AR S C T (Cp S C r)).length) (i:=0);have hg:(AR S C T (Cp S C r))[(fdG (pA (apB S C n2 c0 c1) (AR S C T (Cp S C r))) (AR S C T (Cp S C r)).length 0).toNat]? = some _:=List.getElem?_eq_getElem (by omega)
 obtain ⟨w,L,t1,E⟩:=A3 (by omega) _ hg (by omega)
 obtain ⟨w',t2,tl,E2⟩:=B3 (by omega) _ hg (by omega)
 rw [PX (h0:=rfl) (h1:=E) (h2:=q2) (h3:=rfl) (h4:=rfl),ifF (by omega)]
 simp only [Be,A9,tI,decide_true,cond_true];rw [E2];simp only [Be,A9,tI,decide_true,cond_true];rw [iF (by decide),iF (by decide),iT (by rw [t1.l,t2.l])]
 exact LL t1 t2 (by omega) (i:=0) (Nat.zero_add _)
theorem Ke {B:D} (hB:∀i:Nat,i < len B→∃x,cl B i 0=.int x) (hl:len B≤8) (hs:Bq T) (hs7:Bq n3) (hp:D9 c1) (l1:len n1 < 1000) (l2:len n2 < 1000) (l3:len n3 < 1000) (l8:len c0 < 1000) (l9:len c1 < 1000):∀(k i:Nat) (m:MS) (r:RS),i + k=len B→Inv S C T (i + 1) m r→Mc N S C T m→QZ B (.int (i:Nat)) N S C T n0 n1 n2 n3 c0 c1 N S C T r.at' (.int r.ent) r.defs r.vals (.int r.time) r.evs m.nm m.st (.bool m.stn) m.ct (.bool m.ctn) m.sp (.bool m.spn) m.an (.bool m.af) (.int m.aw) (.bool m.ov) m.ev (.bool m.en) m.b (.bool m.bn) (.int m.now) m.dn m.hp (.bool m.hn) m.due=.row [.int 1,.bool true]
 | 0,i,m,r=>fun hi h hm=>dE h hm (by omega) hs hs7 hp l1 l2 l3 l8 l9 i B (by omega)
 | k + 1,i,m,r=>fun hi h hm=>by
  obtain ⟨x,hx⟩:=hB i (by omega)
  obtain ⟨an',af',aw',ov',ev',en',b',now',dn',hp',due',hn',r',e,u,v,h'⟩:=nM h (by omega) N 0 x
  rw [← hx] at u v;rw [PX (h0:=u) (h1:=rfl) (h2:=rfl) (h3:=v) (h4:=rfl),ifT (by omega),ifF (by omega)]
  simp only [Be,A9,tI,decide_true,cond_true];rw [A0 (by omega)]
  exact Ke hB hl hs hs7 hp l1 l2 l3 l8 l9 k (i + 1) _ r' (by omega) h' ⟨hm.lS,hm.lC,hm.lT,hm.n1,hm.n2,hm.n3,hm.b1,hm.b2,hm.b3,hm.nm⟩
end
section
variable [Ao]
variable {v0 v1 v2 v3 v4 v5 v6 v7 v8 v9 v10:D}
theorem law (hs:Ti v3) (hs7:Ti v7) (hp:D9 v9) (so:Zp v1) (hC:∀i:Nat,i < len v2→∃x,cl v2 i 1=.int x) (hB:∀i:Nat,i < len v10→∃x,cl v10 i 0=.int x) (n1:D5 v1) (n2:D5 v2) (n3:D5 v3) (i1:IsL v1) (i2:IsL v2) (i3:IsL v3):cp v0 v1 v2 v3 v4 v5 v6 v7 v8 v9 v10=.row [.int 1,.bool true]:=by
 have E:=sH v0 v1 v2 v3 v4 v5 v6 v7 v8 v9 v10;obtain ⟨b0,p0,q0⟩:=QO v0 v1 v2 v3;obtain ⟨b1,p1,q1⟩:=QO v4 v5 v6 v7;rw [p0,p1,knT] at E;simp only [Be,A9,tI,tB,decide_true,cond_true] at E;cases b0
 ·exact E
 cases b1
 ·exact E
 obtain ⟨a1,a2,a3,a4⟩:=q0 rfl;obtain ⟨a5,a6,a7,a8⟩:=q1 rfl;simp only [cond_true] at E
 have S1:∃b,ag v8 v9=.row [.int 1,.bool b]∧(b=true→len v8≤10∧len v9≤10):=by
  rw [uW];by_cases c:10 < (len v8:Int)
  ·rw [ifT c];exact ⟨_,rfl,fun h=>by cases h⟩
  ·rw [ifF c];refine ⟨_,rfl,fun h=>⟨by omega,?_⟩⟩
   by_cases d:10 < (len v9:Int)
   ·rw [decide_eq_true d] at h;cases h
   ·omega
 obtain ⟨b2,p2,q2⟩:=S1;rw [p2] at E;simp only [Be,A9,tI,tB,decide_true,cond_true] at E;cases b2
 ·exact E
 obtain ⟨a9,a10⟩:=q2 rfl;simp only [cond_true] at E;by_cases c:8 < (len v10:Int)
 ·rw [iT c] at E;exact E
 rw [iF c] at E;have tI':Bq v3:=a4 hs;have tI7:Bq v7:=a8 hs7;by_cases e:Gt v0 v1 v2 v3=0
 ·have rk:Rk v1 v2 v3:=dM (by rw [← I3];exact decide_eq_true e) hC tI' (by omega) (by omega)
  obtain ⟨m,r,p1,p2,h,x1,x2,x3,x4,x5,x6,x7,x8,x9,x10,x11⟩:=eZ rk so n1 n2 n3 e;have P:=Ke (N:=v0) (n0:=v4) (n1:=v5) (n2:=v6) (n3:=v7) (c0:=v8) (c1:=v9) hB (by omega) tI' tI7 hp (by omega) (by omega) (by omega) (by omega) (by omega) (len v10) 0 m r (by omega) h ⟨i1,i2,i3,n1,n2,n3,x9,x10,x11,x1⟩
  rw [x1,x2,x3,x4,x5,x6,x7,x8] at P;rw [p1,p2] at E;simp only [Be,A9,tI,tB,decide_true,cond_true] at E;exact E.trans P
 ·obtain ⟨i9,q9⟩:=LI (v1:=v1) (v2:=v2) tI' (by omega) (by omega) (by omega) v0
  obtain ⟨i28,q28⟩:=PJ (v1:=v1) (v2:=v2) tI' (by omega) (by omega) (by omega) v0
  have p1:Cs v0 v1 v2 v3=.row [.int 2,.int (Gt v0 v1 v2 v3)]:=by
   rw [bu,q9,ifT (by rfl),ifF (by exact e)]
   rfl
  have p2:El v0 v1 v2 v3=.row [.int 1,CN 0 0,Aw,Aw,Aw,CN 0 0,Aw,Aw,.int (Gt v0 v1 v2 v3)]:=by
   rw [bD,q28,ifT (by rfl),ifF (by exact e)]
   rfl
  rw [p1,p2,ifF (gh (by decide))] at E
  simp only [Be,A9,tI,tB,decide_true,cond_true] at E;rw [iF e] at E;exact E
end
end Us

