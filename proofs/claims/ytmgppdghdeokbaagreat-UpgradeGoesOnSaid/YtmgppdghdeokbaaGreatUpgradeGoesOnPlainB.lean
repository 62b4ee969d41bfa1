/- What is proved: what the plain functions over data say, whose trees the text before writes out: the law UpgradeGoesOn answers true. Conditions: those that each theorem states. -/
import Derived.Test.YtmgppdghdeokbaaGreatUpgradeGoesOnPlainA
set_option linter.unusedVariables false
set_option linter.unusedSectionVars false
set_option linter.unusedSimpArgs false
namespace Ug
open Go Go.AE
def In2 (h:D) (x y:Int):Prop:=∃j:Nat,j<len h∧(cl h j 0).toInt=x∧(cl h j 1).toInt=y
def swp (h:D) (a b:Int):D:=upd (upd (upd (upd h a 0 (cl h b 0)) a 1 (cl h b 1)) b 0 (cl h a 0)) b 1 (cl h a 1)
theorem HM {h:D} {a b:Int}:len (swp h a b)=len h:=by unfold swp;simp only [CA]
theorem Yl {h:D} {a b:Int} (w:Wd h 2):Wd (swp h a b) 2:=by unfold swp;exact Dl (Dl (Dl (Dl w)))
theorem bF {h:D} {a b k:Int} {c:Nat} (w:Wd h 2) (a0:0≤a) (a1:a<len h) (e:0≤b) (b1:b<len h) (d:0≤k) (f:c<2):cl (swp h a b) k c=if k=b then cl h a c else if k=a then cl h b c else cl h k c:=by
 have w1:Wd (upd h a 0 (cl h b 0)) 2:=Dl w;have w2:Wd (upd (upd h a 0 (cl h b 0)) a 1 (cl h b 1)) 2:=Dl w1;have w3:Wd (upd (upd (upd h a 0 (cl h b 0)) a 1 (cl h b 1)) b 0 (cl h a 0)) 2:=Dl w2;unfold swp;rw [Cl w3 (by omega) e (by simp only [CA];exact b1) d,Cl w2 (by omega) e (by simp only [CA];exact b1) d,Cl w1 (by omega) a0 (by simp only [CA];exact a1) d,Cl w (by omega) a0 a1 d]
 match c,f with
 |0,_=>
  by_cases q:k=b
  ·rw [if_neg (by omega),if_pos ⟨q,rfl⟩,if_pos q]
  ·rw [if_neg (by omega),if_neg (fun c=>q c.1),if_neg (by omega),if_neg q]
   by_cases r:k=a
   ·rw [if_pos ⟨r,rfl⟩,if_pos r]
   ·rw [if_neg (fun c=>r c.1),if_neg r]
 |1,_=>
  by_cases q:k=b
  ·rw [if_pos ⟨q,rfl⟩,if_pos q]
  ·rw [if_neg (fun c=>q c.1),if_neg (by omega),if_neg q]
   by_cases r:k=a
   ·rw [if_pos ⟨r,rfl⟩,if_pos r]
   ·rw [if_neg (fun c=>r c.1),if_neg (by omega),if_neg r]
theorem bH {h:D} {a b:Nat} {x y:Int} (w:Wd h 2) (a1:a<len h) (b1:b<len h) (hi:In2 h x y):In2 (swp h a b) x y:=by
 obtain ⟨j,d,e0,e1⟩:=hi;have C:∀(k:Nat) (c:Nat),c<2→cl (swp h a b) k c=if (k:Int)=b then cl h a c else if (k:Int)=a then cl h b c else cl h k c:=fun k c e=>bF w (by omega) (by omega) (by omega) (by omega) (by omega) e
 by_cases q:j=a
 ·subst q;exact ⟨b,by rw [HM];exact b1,by rw [C b 0 (by omega),if_pos rfl];exact e0,by rw [C b 1 (by omega),if_pos rfl];exact e1⟩
 by_cases r:j=b
 ·subst r;refine ⟨a,by rw [HM];exact a1,?_,?_⟩
  ·rw [C a 0 (by omega),if_neg (by omega),if_pos rfl];exact e0
  ·rw [C a 1 (by omega),if_neg (by omega),if_pos rfl];exact e1
 refine ⟨j,by rw [HM];exact d,?_,?_⟩
 ·rw [C j 0 (by omega),if_neg (by omega),if_neg (by omega)];exact e0
 ·rw [C j 1 (by omega),if_neg (by omega),if_neg (by omega)];exact e1
def EY (h:D):Prop:=∀j:Nat,j<len h→∃x y,cl h j 0=.int x∧cl h j 1=.int y
theorem V6 {h:D} {a b:Nat} (w:Wd h 2) (a1:a<len h) (b1:b<len h) (hi:EY h):EY (swp h a b):=by
 have C:∀(k:Nat) (c:Nat),c<2→cl (swp h a b) k c=if (k:Int)=b then cl h a c else if (k:Int)=a then cl h b c else cl h k c:=fun k c e=>bF w (by omega) (by omega) (by omega) (by omega) (by omega) e
 intro j d;rw [HM] at d;rw [C j 0 (by omega),C j 1 (by omega)]
 by_cases q:(j:Int)=b
 ·simp only [if_pos q];exact hi a a1
 ·simp only [if_neg q];by_cases r:(j:Int)=a
  ·simp only [if_pos r];exact hi b b1
  ·simp only [if_neg r];exact hi j d
theorem lh {h:D} {x y:Int} (hi:EY h):EY (ad h (.row [.int x,.int y])):=by
 intro j a;rw [AJ] at a;rw [Cy (by omega),Cy (by omega)]
 by_cases q:(j:Int)=len h
 ·simp only [if_pos q];exact ⟨x,y,rfl,rfl⟩
 ·simp only [if_neg q];exact hi j (by omega)
theorem uw {a:D} {lo hi:Int} {n:Nat} (h:Wd a n):Wd (sb a lo hi) n:=fun r b=>h r (List.mem_of_mem_drop (List.mem_of_mem_take b))
theorem w1:IntKind.wrap .i64 (0+1)=1:=rfl
theorem w2:IntKind.wrap .i64 (1+1)=2:=rfl
theorem cU {x:Int} (a:0≤x) (b:x<4611686018427387904):ari .quo .i64 x 2=x/2:=by
 have e:ari .quo .i64 x 2=IntKind.wrap .i64 (x.tdiv 2):=by unfold ari;rfl
 rw [e,Int.tdiv_eq_ediv_of_nonneg a,AU (by omega) (by omega)]
section
variable [Ai]
theorem gh {n i l c1 c2:Nat} {v4:Int} {v5 h v8:D} {b:Bool} (hn:len h=n) (hl:l<n∨c2≥n):∃a:Nat,(a=l∨a=c2∧c2<n)∧BQ (.int n) (.int i) (.int l) (.int 1) (.int v4) v5 h (.bool b) v8 (.int c1) (.int c2)=BQ (.int n) (.int i) (.int a) (.int 2) (.int v4) v5 h (.bool b) v8 (.int c1) (.int c2):=by
 rw [WB,ifT (by omega),ifF (by omega),ifT rfl]
 by_cases q:c2<n
 ·rw [ifT (by omega),ifF (by omega),ifT (by omega),ifF (by omega),ifT (by omega),w2]
  cases decide ((cl h c2 0).toInt<(cl h l 0).toInt)<;>cases decide ((cl h c2 1).toInt<(cl h l 1).toInt)<;>cases decide ((cl h l 1).toInt<(cl h c2 1).toInt)<;>cases decide ((cl h l 0).toInt<(cl h c2 0).toInt)<;>
   first|exact ⟨l,.inl rfl,rfl⟩|exact ⟨c2,.inr ⟨rfl,q⟩,rfl⟩
 ·rw [ifF (by omega),w2]
  exact ⟨l,.inl rfl,rfl⟩
theorem gc {n i l c1 c2:Nat} {v4:Int} {v5 h v8:D} {b:Bool} (hn:len h=n) (hl:l<n∨c1≥n):∃a:Nat,(a=l∨a=c1∧c1<n)∧BQ (.int n) (.int i) (.int l) (.int 0) (.int v4) v5 h (.bool b) v8 (.int c1) (.int c2)=BQ (.int n) (.int i) (.int a) (.int 1) (.int v4) v5 h (.bool b) v8 (.int c1) (.int c2):=by
 rw [WB,ifT (by omega),ifT rfl]
 by_cases q:c1<n
 ·rw [ifT (by omega),ifF (by omega),ifT (by omega),ifF (by omega),ifT (by omega),w1]
  cases decide ((cl h c1 0).toInt<(cl h l 0).toInt)<;>cases decide ((cl h c1 1).toInt<(cl h l 1).toInt)<;>cases decide ((cl h l 1).toInt<(cl h c1 1).toInt)<;>cases decide ((cl h l 0).toInt<(cl h c1 0).toInt)<;>
   first|exact ⟨l,.inl rfl,rfl⟩|exact ⟨c1,.inr ⟨rfl,q⟩,rfl⟩
 ·rw [ifF (by omega),w1]
  exact ⟨l,.inl rfl,rfl⟩
theorem Z2 {n:Nat} (hn:n<1000000) {v2:Int} {v3 v6:D} {b:Bool}:∀(k i:Nat) (h:D),n≤i+k→i≤n→len h=n→Wd h 2→∃h',V7 (.int n) (.int i) (.int v2) v3 h (.bool b) v6=.row [.int 1,h',.bool b]∧Wd h' 2∧len h'=n∧(EY h→EY h')∧∀x y,In2 h x y→In2 h' x y:=by
 intro k
 induction k with
 |zero=>
  intro i h e hi hl w;have:i=n:=by omega
  subst this;rw [gr,AU (a:=2*(i:Int)) (by omega) (by omega),AU (by omega) (by omega),AU (by omega) (by omega)]
  obtain ⟨l1,c1,c⟩:=gc (n:=i) (i:=i) (l:=i) (c1:=2*i+1) (c2:=2*i+2) (v4:=v2) (v5:=v3) (h:=h) (v8:=v6) (b:=b) hl (.inr (by omega))
  have c1:l1=i:=by omega
  subst c1;obtain ⟨l2,c2,d⟩:=gh (n:=l1) (i:=l1) (l:=l1) (c1:=2*l1+1) (c2:=2*l1+2) (v4:=v2) (v5:=v3) (h:=h) (v8:=v6) (b:=b) hl (.inr (by omega))
  have c2:l2=l1:=by omega
  subst c2;have E:=c.trans d;refine ⟨h,?_,w,hl,id,fun _ _ q=>q⟩
  show BQ (.int (l2:Nat)) (.int (l2:Nat)) (.int (l2:Nat)) (.int 0) (.int v2) v3 h (.bool b) v6 (.int ((2*l2+1:Nat):Int)) (.int ((2*l2+2:Nat):Int))=_;rw [E,WB,ifF (by omega),ifT rfl]
 |succ k f=>
  intro i h e hi hl w;rw [gr,AU (a:=2*(i:Int)) (by omega) (by omega),AU (by omega) (by omega),AU (by omega) (by omega)]
  obtain ⟨l1,c1,c⟩:=gc (n:=n) (i:=i) (l:=i) (c1:=2*i+1) (c2:=2*i+2) (v4:=v2) (v5:=v3) (h:=h) (v8:=v6) (b:=b) hl (by omega)
  obtain ⟨l2,c2,d⟩:=gh (n:=n) (i:=i) (l:=l1) (c1:=2*i+1) (c2:=2*i+2) (v4:=v2) (v5:=v3) (h:=h) (v8:=v6) (b:=b) hl (by omega)
  have E:=c.trans d;have g:BQ (.int (n:Nat)) (.int (i:Nat)) (.int (i:Nat)) (.int 0) (.int v2) v3 h (.bool b) v6 (.int (2*(i:Int)+1)) (.int (2*(i:Int)+2))=BQ (.int (n:Nat)) (.int (i:Nat)) (.int (l2:Nat)) (.int 2) (.int v2) v3 h (.bool b) v6 (.int (2*i+1:Nat)) (.int (2*i+2:Nat)):=E;rw [g,WB,ifF (by omega)]
  by_cases q:l2=i
  ·rw [ifT (by omega)]
   exact ⟨h,rfl,w,hl,id,fun _ _ q=>q⟩
  ·rw [ifF (by omega),ifF (by omega),ifT (by omega),ifF (by omega),ifT (by omega)]
   obtain ⟨h',r1,r2,j,m,o⟩:=f l2 (swp h i l2) (by omega) (by omega) (by rw [HM];exact hl) (Yl w)
   exact ⟨h',r1,r2,j,fun hi=>m (V6 w (by omega) (by omega) hi),fun x y hi=>o x y (bH w (by omega) (by omega) hi)⟩
theorem aF {v0:Int} {v1 v2 h:D} {b:Bool} (w:Wd h 2) (u:0<len h) (v:len h<1000000):∃h',HE (.int v0) v1 v2 h (.bool b)=.row [.int 1,h',.bool b]∧Wd h' 2∧len h'=len h-1∧(EY h→EY h')∧∀x y,In2 h x y→¬((cl h 0 0).toInt=x∧(cl h 0 1).toInt=y)→In2 h' x y:=by
 have e:IntKind.wrap .i64 ((len h:Int)-1)=((len h-1:Nat):Int):=by rw [AU (by omega) (by omega)];omega
 generalize z:len h-1=m at e;rw [qL,e,ifF (by omega),ifT (by omega),ifT (by omega),ifF (by simp only [CA];omega)]
 have f:Wd (upd h 0 0 (cl h m 0)) 2:=Dl w;have wb:Wd (upd (upd h 0 0 (cl h m 0)) 0 1 (cl h m 1)) 2:=Dl f
 have C:∀(k c:Nat),c<2→cl (upd (upd h 0 0 (cl h m 0)) 0 1 (cl h m 1)) k c=if k=0 then cl h m c else cl h k c:=by
  intro k c l;rw [Cl f (by omega) (by omega) (by simp only [CA];omega) (by omega),Cl w (by omega) (by omega) (by omega) (by omega)]
  match c,l with
  |0,_=>
   by_cases q:k=0
   ·rw [if_neg (by omega),if_pos (by omega),if_pos q]
   ·rw [if_neg (by omega),if_neg (by omega),if_neg q]
  |1,_=>
   by_cases q:k=0
   ·rw [if_pos (by omega),if_pos q]
   ·rw [if_neg (by omega),if_neg (by omega),if_neg q]
 have o:len (upd (upd h 0 0 (cl h m 0)) 0 1 (cl h m 1))=len h:=by simp only [CA]
 generalize upd (upd h 0 0 (cl h m 0)) 0 1 (cl h m 1)=g at wb C o
 have p:len (sb g 0 m)=m:=by
  have:=QK (a:=g) (lo:=0) (hi:=(m:Int)) (by omega) (by omega)
  omega
 obtain ⟨h',r1,r2,A,r,s⟩:=Z2 (n:=m) (by omega) (v2:=v0) (v3:=v2) (v6:=v1) (b:=b) m 0 (sb g 0 m) (by omega) (by omega) p (uw wb)
 refine ⟨h',r1,r2,by omega,fun hi=>r (fun j t=>?_),fun x y hi d=>s x y ?_⟩
 ·rw [JP (by omega) (by omega),JP (by omega) (by omega),C j 0 (by omega),C j 1 (by omega)]
  by_cases q:j=0
  ·simp only [if_pos q];exact hi m (by omega)
  ·simp only [if_neg q];exact hi j (by omega)
 obtain ⟨j,t,e0,e1⟩:=hi
 have i:j≠0:=fun c=>by
  subst c;exact d ⟨e0,e1⟩
 by_cases q:j=m
 ·subst q;refine ⟨0,by omega,?_,?_⟩
  ·rw [JP (by omega) (by omega),C 0 0 (by omega),if_pos rfl];exact e0
  ·rw [JP (by omega) (by omega),C 0 1 (by omega),if_pos rfl];exact e1
 ·refine ⟨j,by omega,?_,?_⟩
  ·rw [JP (by omega) (by omega),C j 0 (by omega),if_neg i];exact e0
  ·rw [JP (by omega) (by omega),C j 1 (by omega),if_neg i];exact e1
theorem gq {h:D} {x y:Int}:(∀a b,In2 h a b→In2 (ad h (.row [.int x,.int y])) a b)∧In2 (ad h (.row [.int x,.int y])) x y:=by
 refine ⟨fun a b hi=>?_,len h,by rw [AJ];omega,?_,?_⟩
 ·obtain ⟨j,c,e0,e1⟩:=hi;refine ⟨j,by rw [AJ];omega,?_,?_⟩
  ·rw [Cy (by omega),if_neg (by omega)];exact e0
  ·rw [Cy (by omega),if_neg (by omega)];exact e1
 ·rw [Cy (by omega),if_pos rfl];rfl
 ·rw [Cy (by omega),if_pos rfl];rfl
theorem bl {n:Nat} (hn:n<1000000) {t:Int} {v2 v4:D} {b:Bool}:∀(k i:Nat) (h:D),i≤k→i<n→len h=n→Wd h 2→∃h',Lc (.int i) (.int t) v2 h (.bool b) v4=.row [.int 1,h',.bool b]∧Wd h' 2∧len h'=n∧(EY h→EY h')∧∀x y,In2 h x y→In2 h' x y:=by
 intro k
 induction k with
 |zero=>
  intro i h a hi hl w;have:i=0:=by omega
  subst this;rw [im,ifF (by omega)]
  exact ⟨h,rfl,w,hl,id,fun _ _ q=>q⟩
 |succ k c=>
  intro i h a hi hl w;rw [im];by_cases q:0<(i:Int)
  ·have e:ari .quo .i64 (IntKind.wrap .i64 ((i:Int)-1)) 2=(((i-1)/2:Nat):Int):=by
    rw [AU (by omega) (by omega),cU (by omega) (by omega)];omega
   rw [e];generalize j:(i-1)/2=u
   have R:∃h',Lc (.int u) (.int t) v2 (swp h u i) (.bool b) v4=.row [.int 1,h',.bool b]∧Wd h' 2∧len h'=n∧(EY h→EY h')∧∀x y,In2 h x y→In2 h' x y:=by
    obtain ⟨h',r1,r2,d,f,g⟩:=c u (swp h u i) (by omega) (by omega) (by rw [HM];exact hl) (Yl w)
    exact ⟨h',r1,r2,d,fun hi=>f (V6 w (by omega) (by omega) hi),fun x y hi=>g x y (bH w (by omega) (by omega) hi)⟩
   have S:∃h',D.row [.int 1,h,.bool b]=.row [.int 1,h',.bool b]∧Wd h' 2∧len h'=n∧(EY h→EY h')∧∀x y,In2 h x y→In2 h' x y:=⟨h,rfl,w,hl,id,fun _ _ q=>q⟩
   rw [ifT q,ifF (by omega),ifT (by omega),ifT (by omega)]
   cases decide ((cl h u 0).toInt<(cl h i 0).toInt)<;>cases decide ((cl h u 1).toInt<(cl h i 1).toInt)<;>cases decide ((cl h i 1).toInt<(cl h u 1).toInt)<;>cases decide ((cl h i 0).toInt<(cl h u 0).toInt)<;>first|exact S|exact R
  ·rw [ifF q];exact ⟨h,rfl,w,hl,id,fun _ _ q=>q⟩
theorem kI {t x y:Int} {v1 v2:D} {h:D} {b:Bool} (w:Wd h 2) (h1:len h<1000):∃h',La (.int t) v1 v2 h (.bool b) (.int x) (.int y)=.row [.int 1,h',.bool false]∧Wd h' 2∧len h'=len h+1∧(EY h→EY h')∧(∀a b,In2 h a b→In2 h' a b)∧In2 h' x y:=by
 have e:IntKind.wrap .i64 ((len (ad h (.row [.int x,.int y])):Int)-1)=((len h:Nat):Int):=by rw [AJ,AU (by omega) (by omega)];omega
 rw [o0,ifT (by omega),e]
 have d:Wd (ad h (.row [.int x,.int y])) 2:=Fe w rfl;obtain ⟨h',r1,r2,g,f,c⟩:=bl (n:=len h+1) (by omega) (t:=t) (v2:=v2) (v4:=v1) (b:=false) (len h) (len h) (ad h (.row [.int x,.int y])) (by omega) (by omega) (by rw [AJ]) d
 exact ⟨h',r1,r2,by omega,fun hi=>f (lh hi),fun a b hi=>c a b (gq.1 a b hi),c x y gq.2⟩
end
end Ug
namespace Ug
open Go Go.AE
def Dm (due dn:D):Option Int→Prop
 |none=>due.rows=[]
 |some d=>due.rows=[.row [.int 0,.int d]]∧dn.toBool=false
structure CK (due dn hp:D) (b:Bool) (o:Option Int):Prop where
 dm:Dm due dn o
 wd:Wd hp 2
 al:EY hp
 nl:b=true→len hp=0
 inn:∀d,o=some d→In2 hp d 0
theorem Nl {a k:D} (h:a.rows=[]):mIx [.int .i64] a k = -1:=by unfold mIx;rw [h];rfl
theorem RP {a k:D} {d:Int} (h:a.rows=[.row [.int 0,.int d]]):mIx [.int .i64] a (.row [k])=if k.toInt=0 then 0 else -1:=by
 unfold mIx;rw [h]
 show (match ((0:Int)==k.toInt)&&true with
  |true=>((0:Nat):Int)
  |false=>-1)=_
 by_cases q:k.toInt=0
 ·rw [if_pos q,q];rfl
 ·rw [if_neg q]
  have:((0:Int)==k.toInt)=false:=by
   cases e:((0:Int)==k.toInt) with
   |false=>rfl
   |true=>exact absurd (eq_of_beq e).symm q
  rw [this];rfl
theorem LE {a:D} {d:Int} (h:a.rows=[.row [.int 0,.int d]]):mIx [.int .i64] a (.row [.int 0])=0:=(RP h).trans (if_pos rfl)
theorem ba {a:D} {d t:Int} (h:a.rows=[.row [.int 0,.int d]]) (b:t≠0):mIx [.int .i64] a (.row [.int t]) = -1:=(RP h).trans (if_neg b)
theorem VY {a:D} {d:Int} (h:a.rows=[.row [.int 0,.int d]]):cl a 0 1=.int d:=by
 unfold cl;rw [h];rfl
theorem Mx {a:D} {d:Int} (h:a.rows=[.row [.int 0,.int d]]):(Lj a 0).rows=[]:=by
 show a.rows.eraseIdx 0=[];rw [h];rfl
section
variable [Ai]
variable {due dn:D}
theorem Nx {v0:Int} (e:due.rows=[]):∀(k:Nat) (hp:D) (b:Bool),len hp=k→k<100000→Wd hp 2→EY hp→(b=true→len hp=0)→∃d,K7 (.int v0) dn hp (.bool b) due=.row [.int 1,.int 0,.int 0,.bool false,d,.bool b]∧Wd d 2∧EY d∧(b=true→len d=0)∧len d≤k:=by
 intro k
 induction k with
 |zero=>
  intro hp b hl f w a n;rw [Zz,ifF (by omega)]
  exact ⟨hp,rfl,w,a,n,by omega⟩
 |succ k g=>
  intro hp b hl f w a n;obtain ⟨h',h,i,q,j,_⟩:=aF (v0:=v0) (v1:=due) (v2:=dn) (b:=b) w (by omega) (by omega)
  have l:b=false:=by
   cases b with
   |false=>rfl
   |true=>have:=n rfl;omega
  obtain ⟨m,r1,r2,o,p,r⟩:=g h' b (by omega) (by omega) i (j a) (fun c=>by rw [l] at c;cases c)
  rw [Zz,ifT (by omega)]
  simp only [h,Nl e,Az,Ay,Ao,Ap,B5,B4,r1];refine ⟨m,?_,r2,o,p,by omega⟩
  cases dn.toBool<;>rfl
theorem TW {v0 d:Int} (l:due.rows=[.row [.int 0,.int d]]) (hn:dn.toBool=false):∀(k:Nat) (hp:D) (b:Bool),len hp=k→k<100000→Wd hp 2→EY hp→(b=true→len hp=0)→In2 hp d 0→∃f,K7 (.int v0) dn hp (.bool b) due=.row [.int 1,.int d,.int 0,.bool true,f,.bool b]∧Wd f 2∧EY f∧(b=true→len f=0)∧len f≤k∧In2 f d 0:=by
 intro k
 induction k with
 |zero=>
  intro hp b hl o w a n i;obtain ⟨j,C,_⟩:=i;omega
 |succ k p=>
  intro hp b hl o w a n i;obtain ⟨h',q,r,E,s,u⟩:=aF (v0:=v0) (v1:=due) (v2:=dn) (b:=b) w (by omega) (by omega)
  have v:b=false:=by
   cases b with
   |false=>rfl
   |true=>have:=n rfl;omega
  obtain ⟨x,t,g,h⟩:=a 0 (by omega)
  have g:cl hp 0 0=.int x:=g;have h:cl hp 0 1=.int t:=h
  have step:¬(x=d∧t=0)→∃f,K7 (.int v0) dn h' (.bool b) due=.row [.int 1,.int d,.int 0,.bool true,f,.bool b]∧Wd f 2∧EY f∧(b=true→len f=0)∧len f≤k+1∧In2 f d 0:=fun m=>by
   obtain ⟨y,r1,r2,z,A,F,B⟩:=p h' b (by omega) (by omega) r (s a) (fun c=>by rw [v] at c;cases c) (u d 0 i (fun c=>by
    rw [g,h] at c;exact m c))
   exact ⟨y,r1,r2,z,A,by omega,B⟩
  rw [Zz,ifT (by omega),hn]
  simp only [q,h,g,Az,Ay,Ao,Ap,B5,B4,E9];by_cases c:t=0
  ·subst c;rw [LE l,ifF (by omega),VY l]
   simp only [Ao];by_cases e:d=x
   ·subst e;simp only [eq_self,B5,B4];exact ⟨hp,rfl,w,a,n,by omega,i⟩
   ·simp only [e,j0,E9];exact step (fun c=>e c.1.symm)
  ·rw [ba l c,ifT (by omega)]
   exact step (fun e=>c e.2)
theorem CK.none_of {hp:D} {b:Bool} {o:Option Int} (h:CK due dn hp b o) {j:D} (C:j.rows=[]) (r:D):CK j r hp b none:=⟨C,h.wd,h.al,h.nl,fun d c=>by cases c⟩
theorem Z0 {hp:D} {b:Bool} {o:Option Int} {now t:Int} (h:CK due dn hp b o) (hl:len hp<100000) (h0:now≤t) (h1:t≤1099511627776) :
  ∃(out:D) (on:Bool) (e a:D),KH (.int now) due dn hp (.bool b) (.int t)=.row [.int 1,out,.bool on,.int 0,.int t,e,.bool b,a]∧len e≤len hp∧
   ((∃d,o=some d∧d≤t∧decide (0<(len out:Int))=true∧CK a dn e b none)∨((∀d,o=some d→t<d)∧decide (0<(len out:Int))=false∧CK a dn e b o)):=by
 have F:∀{x:D},(∃r,BB (.int t) due dn hp (.bool b)=r∧cond (decide ((sl r 0).toInt=1)) (MJ Aw (.bool true) (sl r 3) (.int t) dn (sl r 4) (sl r 5) due (sl r 1) (sl r 2)) (.row [])=x)→KH (.int now) due dn hp (.bool b) (.int t)=x:=by
  intro x l;obtain ⟨r,r1,r2⟩:=l;rw [qm,ifF (by omega)]
  by_cases c:now<t
  ·rw [ifT c,r1];exact r2
  ·have:now=t:=by omega
   subst this;rw [ifF c,r1];exact r2
 cases o with
 |none=>
  obtain ⟨h2,r1,r2,g,i,j⟩:=Nx (dn:=dn) (v0:=t) h.dm (len hp) hp b rfl hl h.wd h.al h.nl;refine ⟨Aw,true,h2,due,F ⟨_,(VT ..).trans r1,?_⟩,j,.inr ⟨(fun d c=>nomatch c),rfl,h.dm,r2,g,i,(fun d c=>nomatch c)⟩⟩
  simp only [Az,Ay,Ao,B5,B4];rw [Ww];rfl
 |some d=>
  obtain ⟨h2,r1,r2,g,i,j,m⟩:=TW (v0:=t) h.dm.1 h.dm.2 (len hp) hp b rfl hl h.wd h.al h.nl (h.inn d rfl);by_cases c:t<d
  ·refine ⟨Aw,true,h2,due,F ⟨_,(VT ..).trans r1,?_⟩,j,.inr ⟨(fun k f=>(by cases f;exact c)),rfl,h.dm,r2,g,i,(fun k f=>(by cases f;exact m))⟩⟩
   simp only [Az,Ay,Ao,B5,B4];rw [Ww,cT rfl,ifT c]
  ·obtain ⟨h3,s1,n,p,q,s⟩:=Nx (due:=Lj due 0) (dn:=dn) (v0:=t) (Mx h.dm.1) (len h2) h2 b rfl (by omega) r2 g i
   refine ⟨ad Aw (.row [.int 0]),false,h3,Lj due 0,F ⟨_,(VT ..).trans r1,?_⟩,by omega,.inl ⟨d,rfl,by omega,by rw [AJ];exact F6 (by omega),Mx h.dm.1,n,p,q,(fun k f=>nomatch f)⟩⟩
   simp only [Az,Ay,Ao,B5,B4];rw [Ww,cT rfl,ifF c,ifT (by rw [Bw];omega),h.dm.2]
   simp only [LE h.dm.1,E9];rw [ifF (by omega),VT,s1]
   simp only [Az,Ay,Ao,B5,B4];rw [Ww];rfl
theorem cu {hp:D} {b:Bool} {o:Option Int} {now:Int} (h:CK due dn hp b o):∃(e:Int) (a:D),IW (.int now) due dn hp (.bool b) (.int 0)=.row [.int 1,.int e,a]∧CK a dn hp b none:=by
 cases o with
 |none=>
  have f:due.rows=[]:=h.dm
  have g:Pc (.int now) due dn hp (.bool b) (.int 0)=.row [.int 1,.int 0,.int 9]:=by
   rw [ib,ifF (by omega),ifT (by omega),Nl f]
   cases dn.toBool
   ·rw [cF rfl,ifT (by omega)]
   ·rfl
  refine ⟨9,due,?_,h.none_of f dn⟩;rw [gQ,g];rfl
 |some d=>
  have c:=h.dm.1
  have g:Pc (.int now) due dn hp (.bool b) (.int 0)=.row [.int 1,.int (IntKind.wrap .i64 (d-now)),.int 0]:=by
   rw [ib,ifF (by omega),ifT (by omega),h.dm.2,cF rfl]
   simp only [LE c];rw [VY c];rfl
  refine ⟨0,Lj due 0,?_,h.none_of (Mx c) dn⟩;rw [gQ,g,h.dm.2,LE c];rfl
theorem YC {hp:D} {b:Bool} {now w:Int} (h:CK due dn hp b none) (hl:len hp<1000) (p:0≤now) (n1:now≤1099511627776) (w0:0≤w) (w1:w≤1048576) :
  ∃(e:Int) (i g f:D) (l:Bool),MY (.int now) due dn hp (.bool b) (.int 0) (.int w)=.row [.int 1,.int e,i,g,.bool l,f]∧len g≤len hp+1∧
   CK f i g l (if now+w≤1099511627776 then some (now+w) else none):=by
 rw [wZ (h0:=rfl) (h1:=rfl) (h2:=rfl),ifF (by omega),ifT (by omega),ifF (by omega),AU (by omega) (by omega)]
 by_cases c:1099511627776-now<w
 ·rw [ifT c,if_neg (by omega)]
  exact ⟨3,dn,hp,due,b,rfl,by omega,h⟩
 rw [ifF c,if_pos (by omega),AU (by omega) (by omega),Nl (show due.rows=[] from h.dm)]
 have R:∀(a j k:D),a.rows=[]→k.toBool=false→∃(e:Int) (i g f:D) (l:Bool),cond (decide ((sl (La (.int now) (ad a (.row [.int 0,.int (now+w)])) j hp (.bool b) (.int (now+w)) (.int 0)) 0).toInt=1))
   (D.row [.int 1,.int 0,k,sl (La (.int now) (ad a (.row [.int 0,.int (now+w)])) j hp (.bool b) (.int (now+w)) (.int 0)) 1,sl (La (.int now) (ad a (.row [.int 0,.int (now+w)])) j hp (.bool b) (.int (now+w)) (.int 0)) 2,ad a (D.row [.int 0,.int (now+w)])]) (D.row [])=D.row [.int 1,.int e,i,g,.bool l,f]∧len g≤len hp+1∧CK f i g l (some (now+w)):=by
  intro a j k h0 h1;obtain ⟨h',r1,r2,q,m,r,n⟩:=kI (t:=now) (x:=now+w) (y:=0) (v1:=ad a (.row [.int 0,.int (now+w)])) (v2:=j) (b:=b) h.wd hl;simp only [r1,Az,Ay,Ao,B5,B4];refine ⟨0,k,h',_,false,rfl,by omega,⟨?_,h1⟩,r2,m h.al,fun c=>(by cases c),fun d c=>by cases c;exact n⟩
  show a.rows++[_]=_;rw [h0];rfl
 cases o:dn.toBool
 ·rw [cF rfl,ifT (by omega)]
  exact R due dn dn h.dm o
 ·rw [cT rfl];exact R Aq (.bool false) (.bool false) rfl rfl
theorem Vg {hp:D} {b:Bool} {o:Option Int} {now:Int} (h:CK due dn hp b o) (hl:len hp<1000) :
  ∃(i a e:D) (f:Bool),F9 (.int now) due dn hp (.bool b)=.row [.int 1,.int now,i,a,.bool f,e]∧len a=len hp∧CK e i a f o:=by
 have g:∃(a:D) (f:Bool),KS hp (.bool b)=.row [.int 1,a,.bool f]∧len a=len hp∧Wd a 2∧EY a∧(f=true→len a=0)∧∀x y,In2 hp x y→In2 a x y:=by
  rw [gA];cases b with
  |true=>
   have n:=h.nl rfl;exact ⟨Aw,true,rfl,by rw [n];rfl,HJ,fun j k=>by rw [Bw] at k;omega,fun _=>rfl,fun x y ⟨j,k,_⟩=>by omega⟩
  |false=>
   rw [cF rfl,ifT (by omega)]
   exact ⟨ct Aq hp,false,rfl,rfl,h.wd,h.al,(fun c=>nomatch c),fun x y q=>q⟩
 obtain ⟨a,f,t,l,m,p,r,s⟩:=g;rw [io];simp only [t,Az,Ay,Ao,B5,B4];cases u:dn.toBool
 ·exact ⟨.bool false,a,due,f,rfl,l,by
   cases o with
   |none=>exact h.dm
   |some d=>exact ⟨h.dm.1,rfl⟩,m,p,r,fun d c=>s _ _ (h.inn d c)⟩
 ·refine ⟨.bool true,a,Aq,f,rfl,l,?_,m,p,r,fun d c=>s _ _ (h.inn d c)⟩
  cases o with
  |none=>rfl
  |some d=>have:=h.dm.2;rw [u] at this;cases this
end
end Ug
namespace Ug
open Go Go.AE
structure MS where
 b:D
 bn:Bool
 nm:D
 st:D
 stn:Bool
 ct:D
 ctn:Bool
 sp:D
 spn:Bool
 an:D
 af:Bool
 aw:Int
 now:Int
 due:D
 dn:D
 hp:D
 hn:Bool
 ov:Bool
 ev:D
 en:Bool
structure RS where
 at':D
 ent:Int
 defs:D
 vals:D
 time:Int
 evs:D
structure Bk (b C V:D):Prop where
 lb:len b=len C
 lv:len V=len C
 wb:Wd b 3
 wv:Wd V 1
 nm:∀j:Nat,j<len C→cl b j 0=cl C j 0
 lm:∀j:Nat,j<len C→cl b j 1=cl C j 1
 vl:∀j:Nat,j<len C→∃n,cl b j 2=.int n∧cl V j 0=.int n∧0≤n∧n≤(cl C j 1).toInt
structure Df (d C:D):Prop where
 ld:len d=len C
 nm:∀j:Nat,j<len C→cl d j 0=cl C j 0
 lm:∀j:Nat,j<len C→cl d j 1=cl C j 1
theorem P4 {a c:D} (hl:len a=len c) (h:∀j:Nat,j<len c→cl a j 0=cl c j 0) (key:D):fd a key=fd c key:=by
 unfold fd;rw [hl];exact Cu fun j _ b=>by rw [h j (by omega)]
theorem lY {a x y:D} (h:D.strEq x y=true):fd a x=fd a y:=by
 unfold fd
 exact Cu fun j _ _=>by
  rw [AM (a:=cl a j 0) (b:=x),AM (a:=cl a j 0) (b:=y)];exact EG h
theorem Io {a key:D} (h:0≤fd a key):(((fd a key).toNat:Nat):Int)=fd a key∧(fd a key).toNat<len a:=by
 have:=Da (l:=a) (key:=key);omega
def alw (C V T:D) (k:Nat):Bool:=eqC (cl T k 5) 0 0||(!decide ((cl V (fd C (cl T k 5)) 0).toInt<(cl T k 6).toInt) && !decide ((cl T k 7).toInt<(cl V (fd C (cl T k 5)) 0).toInt))
def GP (C V T an:D) (a:Bool) (k:Nat):Bool:=D.strEq (cl T k 0) an&&(alw C V T k&&(!decide ((cl T k 2).toInt=3)||a))
section
variable [Ai]
variable {S C T V b d:D} {bn:Bool}
theorem Mz (hn:len b<1000) (key:D):Em b (.bool bn) key=.row [.int 1,.int (fd b key)]:=(xR ..).trans (EK (F:=fun i=>V0 b (.bool bn) (.int i) key) (by omega) fun i=>qb ..)
theorem j7 (hn:len b<1000) {key:D} (h:0≤fd b key):Jj b (.bool bn) key=.row [.int 1,cl b (fd b key) 2,.int 0]:=by
 have:=Da (l:=b) (key:=key);rw [pE];simp only [Mz hn,Az,Ay,Ao,B5,B4];rw [ifF (by omega),ifT this]
theorem M1 (rk:Rk S C T) (a:Bk b C V) {k:Nat} (e:k<len T):GR b (.bool bn) (cl T k 0) (cl T k 1) (cl T k 2) (cl T k 3) (cl T k 4) (cl T k 5) (cl T k 6) (cl T k 7) (cl T k 8)=.row [.int 1,.bool (alw C V T k),.int 0]:=by
 obtain ⟨⟨n2,i⟩,⟨j,f⟩,⟨l,g⟩,⟨r,h⟩,_⟩:=rk.tI k e;have c1:=rk.c1;have lb:=a.lb;have m:=P4 a.lb a.nm (cl T k 5);unfold alw;rw [i,f,g,h,s9];rcases rk.ctr k e with ⟨q,_⟩|⟨q,o,s,t,u,v,w,x,y⟩
 ·rw [cT q,q];rfl
 rw [cF q,q];rw [f,g,h] at *;simp only [Ao] at *;obtain ⟨p,c⟩:=Io o;obtain ⟨n,v1,v2,v3,v4⟩:=a.vl _ c;have lim:=rk.lim _ c;have lm:=a.lm _ c;rw [p] at v1 v2 v4 lim lm;simp only [j7 (b:=b) (by omega) (by omega:0≤fd b (cl T k 5)),Mz (b:=b) (by omega),m,v1,v2,lm,Az,Ay,Ao,Ap,B5,B4,R1]
 rw [ifF (by omega),ifT (by omega)]
 by_cases a1:n<j
 ·rw [ifT a1,F6 a1];rfl
 rw [ifF a1,F1 a1];by_cases a2:l<n
 ·rw [ifT a2,F6 a2];rfl
 rw [ifF a2,F1 a2,AU (by omega) (by omega),ifF (by omega),AU (by omega) (by omega),F1 (by omega)]
 rfl
theorem jG (rk:Rk S C T) (e:Bk b C V) {k:Nat} (c:k<len T) (nm st ct sp an due dn hp ev:D) (stn ctn spn af hn ov en a:Bool) (aw now:Int):VE b (.bool bn) nm st (.bool stn) ct (.bool ctn) sp (.bool spn) an (.bool af) (.int aw) (.int now) due dn hp (.bool hn) (.bool ov) ev (.bool en) (.bool a) (cl T k 0) (cl T k 1) (cl T k 2) (cl T k 3) (cl T k 4) (cl T k 5) (cl T k 6) (cl T k 7) (cl T k 8)=.row [.int 1,.bool (GP C V T an a k)]:=by
 obtain ⟨⟨n2,f⟩,⟨g,h⟩,⟨i,j⟩,⟨l,m⟩,_⟩:=rk.tI k c;have A:=M1 (bn:=bn) rk e c;unfold GP;rw [f,h,j,m] at *;rw [oh,Vr,ifT (by omega),ifT rfl]
 cases D.strEq (cl T k 0) an
 ·rfl
 rw [cT rfl,w1,Vr,ifT (by omega),ifF (by omega),ifT rfl,A]
 simp only [Az,Ay,Ao,Ap,B5,B4,hX];cases alw C V T k
 ·rfl
 rw [cT rfl,w2,Vr,ifT (by omega),ifF (by omega),ifF (by omega),ifT rfl]
 have fin:∀x:Int,x=3→MU (.int x) nm st (.bool stn) ct (.bool ctn) sp (.bool spn) an (.bool af) (.int aw) (.bool ov) ev (.bool en) b (.bool bn) (.int now) dn hp (.bool hn) due (cl T k 0) (cl T k 1) (.int n2) (cl T k 3) (cl T k 4) (cl T k 5) (.int g) (.int i) (.int l) (.bool a)=.row [.int 1,.bool true]:=fun x n=>by subst n;rw [Vr,ifF (by omega)]
 by_cases q:n2=3
 ·subst q;rw [ifT rfl];cases a
  ·rfl
  ·rw [cT rfl];exact fin _ rfl
 ·rw [ifF q];simp only [q,j0,fg,X7,g6];exact fin _ rfl
theorem Zq (rk:Rk S C T) (j:Bk b C V) {k:Nat} (i:k<len T) (nm st ct sp an due dn hp ev c f g:D) (stn ctn spn af hn ov en h a:Bool) (aw now e:Int):Oe b (.bool bn) nm st (.bool stn) ct (.bool ctn) sp (.bool spn) an (.bool af) (.int aw) (.int now) due dn hp (.bool hn) (.bool ov) ev (.bool en) (.int e) c f g (.bool h) (.bool a) (cl T k 0) (cl T k 1) (cl T k 2) (cl T k 3) (cl T k 4) (cl T k 5) (cl T k 6) (cl T k 7) (cl T k 8)=.row [.int 1,.bool (GP C V T an a k)]:=by
 obtain ⟨⟨n2,h2⟩,⟨l,m⟩,⟨n,o⟩,⟨p,r⟩,_⟩:=rk.tI k i;have A:=M1 (bn:=bn) rk j i;unfold GP;rw [h2,m,o,r] at *;rw [uI,VP,ifT (by omega),ifT rfl]
 cases D.strEq (cl T k 0) an
 ·rfl
 rw [cT rfl,w1,VP,ifT (by omega),ifF (by omega),ifT rfl,A]
 simp only [Az,Ay,Ao,Ap,B5,B4,hX];cases alw C V T k
 ·rfl
 rw [cT rfl,w2,VP,ifT (by omega),ifF (by omega),ifF (by omega),ifT rfl]
 have fin:∀x:Int,x=3→Ml (.int x) nm st (.bool stn) ct (.bool ctn) sp (.bool spn) an (.bool af) (.int aw) (.bool ov) ev (.bool en) b (.bool bn) (.int now) dn hp (.bool hn) due (.int e) f g (.bool h) c (cl T k 0) (cl T k 1) (.int n2) (cl T k 3) (cl T k 4) (cl T k 5) (.int l) (.int n) (.int p) (.bool a)=.row [.int 1,.bool true]:=fun x s=>by subst s;rw [VP,ifF (by omega)]
 by_cases q:n2=3
 ·subst q;rw [ifT rfl];cases a
  ·rfl
  ·rw [cT rfl];exact fin _ rfl
 ·rw [ifF q];simp only [q,j0,fg,X7,g6];exact fin _ rfl
end
end Ug
namespace Ug
open Go Go.AE
structure TI (ov:Bool) (o:Option Int) (ent w time:Int):Prop where
 w0:0≤w
 w1:w≤1048576
 e0:0≤ent
 e1:ent≤time
 t1:time≤1099511627776
 on:ov=true→0<w∧ent+w≤time∧o=none
 off:ov=false→0<w→(ent+w≤1099511627776∧o=some (ent+w)∧time<ent+w)∨(1099511627776<ent+w∧o=none)
 z:w=0→ov=false∧o=none
def PI (S:D):Prop:=∀i:Nat,i<len S→∃b w,cl S i 1=.bool b∧cl S i 2=.int w
structure Inv (S C T:D) (n:Nat) (m:MS) (r:RS):Prop where
 rk:Rk S C T
 so:PI S
 st:m.st.rows=S.rows
 ct:m.ct.rows=C.rows
 sp:m.sp.rows=T.rows
 spn:m.spn=true→T.rows=[]
 bk:Bk m.b C r.vals
 bn:m.bn=true→len C=0
 df:Df r.defs C
 at0:0≤fd S r.at'
 an:D.strEq m.an r.at'=true
 af:cl S (fd S r.at') 1=.bool m.af
 aw:cl S (fd S r.at') 2=.int m.aw
 nt:m.now=r.time
 o:∃o,CK m.due m.dn m.hp m.hn o∧TI m.ov o r.ent m.aw r.time
 hl:len m.hp≤n
 el:len m.ev=len r.evs
 ee:∀j:Nat,j<len r.evs→cl m.ev j 0=cl r.evs j 0∧cl m.ev j 1=cl r.evs j 1
 en:m.en=true→len m.ev=0
 el':len r.evs≤n
theorem A5 {x:D} {l:List D}:sl (.row (x::l)) 0=x:=by cases l<;>exact Az
theorem AX {x:D} {l:List D} {n:Nat}:sl (.row (x::l)) (n+1)=sl (.row l) n:=by cases l<;>exact Ay
theorem tI {n:Int}:(D.int n).toInt=n:=by cases n<;>exact Ao
theorem tB {b:Bool}:(D.bool b).toBool=b:=by cases b<;>exact Ap
theorem iT {c:Type} {p:Prop} {i:Decidable p} {a b:c} (h:p):cond (@decide p i) a b=a:=by rw [F6 h];rfl
theorem iF {c:Type} {p:Prop} {i:Decidable p} {a b:c} (h:¬p):cond (@decide p i) a b=b:=by rw [F1 h];rfl
theorem Bn {a b:D} (h:a.rows=b.rows):len a=len b:=congrArg List.length h
theorem I5 {a b:D} (h:a.rows=b.rows) (i:Int) (j:Nat):cl a i j=cl b i j:=by unfold cl;rw [h]
section
variable [Ai]
variable {S C T N:D} {n:Nat} {m:MS} {r:RS}
theorem jK (h:Inv S C T n m r) {d:Bool} {t:Int} (hl:0<m.aw→d = !decide (t-r.ent<m.aw)) {k:Nat} (f:k<len T):GP C r.vals T m.an d k=GP C r.vals T r.at' (!decide (t-r.ent<m.aw)) k:=by
 unfold GP
 have e:D.strEq (cl T k 0) m.an=D.strEq (cl T k 0) r.at':=by
  rw [AM (a:=cl T k 0) (b:=m.an),AM (a:=cl T k 0) (b:=r.at')];exact EG h.an
 rw [e];cases q:D.strEq (cl T k 0) r.at'
 ·rfl
 by_cases c:(cl T k 2).toInt=3
 ·have w:=h.rk.tmo k f c;rw [lY q,h.aw] at w;rw [hl w]
 ·simp only [c,j0,fg,X7]
end
end Ug
namespace Ug
open Go Go.AE
section
variable [Ai]
variable {S C T N:D} {n:Nat} {m:MS} {r:RS}
theorem Qh (h:Inv S C T n m r) (hn:n<900) {t:Int} (h0:r.time≤t) (h1:t≤1099511627776) :
  ∃(j l e out k f:D) (b1 on:Bool),F9 (.int m.now) m.due m.dn m.hp (.bool m.hn)=.row [.int 1,.int m.now,j,l,.bool b1,e]∧
   KH (.int m.now) e j l (.bool b1) (.int t)=.row [.int 1,out,.bool on,.int 0,.int t,k,.bool b1,f]∧len k≤n∧
   (∃x,CK f j k b1 x∧TI (m.ov||decide (0<(len out:Int))) x r.ent m.aw t)∧(0<m.aw→(m.ov||decide (0<(len out:Int))) = !decide (t-r.ent<m.aw)):=by
 obtain ⟨o,A,a⟩:=h.o;have hl:=h.hl;have nt:=h.nt;obtain ⟨j,l,e,b1,c1,c2,c3⟩:=Vg (now:=m.now) A (by omega)
 obtain ⟨out,on,k,f,a1,a2,a3⟩:=Z0 (now:=m.now) (t:=t) c3 (by omega) (by omega) h1
 refine ⟨j,l,e,out,k,f,b1,on,c1,a1,by omega,?_,?_⟩
 ·rcases a3 with ⟨d,e1,w,u,y⟩|⟨e1,w,u⟩
  ·rw [u,Bool.or_true]
   have p:0<m.aw:=by
    rcases Int.lt_or_le 0 m.aw with q|q
    ·exact q
    ·have:=a.z (by have:=a.w0;omega)
     rw [this.2] at e1;cases e1
   have s:m.ov=false:=by
    cases g:m.ov with
    |false=>rfl
    |true=>have:=(a.on g).2.2;rw [this] at e1;cases e1
   refine ⟨none,y,a.w0,a.w1,a.e0,by have:=a.e1;omega,h1,fun _=>⟨p,?_,rfl⟩,(fun c=>nomatch c),fun z=>by omega⟩
   rcases a.off s p with ⟨i,b,v⟩|⟨i,b⟩
   ·rw [b] at e1;cases e1;omega
   ·rw [b] at e1;cases e1
  ·rw [w,Bool.or_false];refine ⟨o,u,a.w0,a.w1,a.e0,by have:=a.e1;omega,h1,fun c=>?_,fun c p=>?_,a.z⟩
   ·obtain ⟨i,b,v⟩:=a.on c;exact ⟨i,by omega,v⟩
   ·rcases a.off c p with ⟨i,b,v⟩|⟨i,b⟩
    ·exact .inl ⟨i,b,e1 _ b⟩
    ·exact .inr ⟨i,b⟩
 ·intro p;rcases a3 with ⟨d,e1,w,u,y⟩|⟨e1,w,u⟩
  ·rw [u,Bool.or_true]
   have s:m.ov=false:=by
    cases g:m.ov with
    |false=>rfl
    |true=>have:=(a.on g).2.2;rw [this] at e1;cases e1
   rcases a.off s p with ⟨i,b,v⟩|⟨i,b⟩
   ·rw [b] at e1;cases e1;rw [F1 (by omega)];rfl
   ·rw [b] at e1;cases e1
  ·rw [w,Bool.or_false];cases g:m.ov with
   |true=>
    obtain ⟨i,b,v⟩:=a.on g;rw [F1 (by omega)];rfl
   |false=>
    rcases a.off g p with ⟨i,b,v⟩|⟨i,b⟩
    ·have:=e1 _ b;rw [F6 (by omega)];rfl
    ·rw [F6 (by omega)];rfl
theorem Ou (h:Inv S C T n m r):∃(l:D) (b:Bool),KL m.sp (.bool m.spn) (.int (len m.sp:Int))=.row [.int 1,l,.bool b]∧l.rows=T.rows:=by
 rw [ik];cases hs:m.spn with
 |true=>exact ⟨Aw,true,rfl,(h.spn hs).symm⟩
 |false=>
  have:=Bn h.sp;have:=h.rk.t1;rw [cF rfl,iT (p:=((D.int (len m.sp:Int)).toInt=(len m.sp:Int))) rfl,ifT (by omega)]
  exact ⟨ct Aq m.sp,false,rfl,h.sp⟩
theorem Yt (h:Inv S C T n m r) {late:Bool} {sp':D} {sb:Bool} (hs:sp'.rows=T.rows) (ov:Bool) (now:Int) (dn hp due:D) (hn:Bool) :
  ∀(k j:Nat) (out:D) (a:Bool),j+k=len T→len out≤j→∃(l1:D) (b1:Bool),
   Pv sp' (.bool sb) (.int j) out (.bool a) (.bool late) m.nm m.st (.bool m.stn) m.ct (.bool m.ctn) m.sp (.bool m.spn) m.an (.bool m.af) (.int m.aw) (.bool ov) m.ev (.bool m.en) m.b (.bool m.bn) (.int now) dn hp (.bool hn) due m.an=.row [.int 1,l1,.bool b1]:=by
 intro k
 induction k with
 |zero=>
  intro j out a f c;rw [gI,ifF (by rw [Bn hs];omega)]
  exact ⟨out,a,rfl⟩
 |succ k d=>
  intro j out a f c;have g:=h.rk.t1;have A:=jG (bn:=m.bn) h.rk h.bk (k:=j) (by omega) m.nm m.st m.ct m.sp m.an due dn hp m.ev m.stn m.ctn m.spn m.af hn ov m.en late m.aw now
  rw [gI,ifT (by rw [Bn hs];omega),ifF (by omega)]
  simp only [I5 hs];rw [A,AR (i:=j) (by omega)]
  simp only [A5,AX,tI,tB,B5,B4];have e:=d (j+1) out a (by omega) (by omega)
  have Y:=d (j+1) (ad out (.row [.int j])) false (by omega) (by rw [AJ];omega)
  cases D.strEq (cl T j 0) m.an
  ·exact e
  ·rw [cT rfl];cases GP C r.vals T m.an late j
   ·exact e
   ·rw [cT rfl,ifT (by omega)]
    exact Y
theorem jq (h:Inv S C T n m r) (hn:n<900) (t:Int):∃(i:Bool) (d:Int) (j k f:D) (l:Bool) (a:Int) (l1:D) (b1:Bool) (e:Int),
  Vc m.b (.bool m.bn) m.nm m.st (.bool m.stn) m.ct (.bool m.ctn) m.sp (.bool m.spn) m.an (.bool m.af) (.int m.aw) (.int m.now) m.due m.dn m.hp (.bool m.hn) (.bool m.ov) m.ev (.bool m.en) (.int t)=.row [.int 1,l1,.bool b1,.int e,.bool i,f,k,.int d,j,.bool l]∧
  Inv S C T n {m with ov:=i,now:=d,dn:=j,hp:=k,due:=f,hn:=l} {r with time:=a}∧r.time≤a:=by
 have nt:=h.nt;have w:0≤r.time:=by obtain ⟨o,_,u⟩:=h.o;have:=u.e0;have:=u.e1;omega
 by_cases c0:t<r.time
 ·rw [YO (h0:=rfl) (h1:=rfl) (h2:=rfl) (h3:=rfl) (h4:=rfl),ifT (by omega)]
  exact ⟨m.ov,m.now,m.dn,m.hp,m.due,m.hn,r.time,Aw,true,3,rfl,h,by omega⟩
 by_cases c1:1099511627776<t
 ·rw [YO (h0:=rfl) (h1:=rfl) (h2:=rfl) (h3:=rfl) (h4:=rfl),ifF (by omega),ifT c1]
  exact ⟨m.ov,m.now,m.dn,m.hp,m.due,m.hn,r.time,Aw,true,3,rfl,h,by omega⟩
 obtain ⟨p,x,v,out,q,g,b1,on,w1,w2,w3,w4,w5⟩:=Qh h hn (t:=t) (by omega) (by omega)
 obtain ⟨sp',sb,s1,y⟩:=Ou h;obtain ⟨l1,x1,p1⟩:=Yt h (late:=m.ov||decide (0<(len out:Int))) (sp':=sp') (sb:=sb) y (m.ov||decide (0<(len out:Int))) t p q g b1 (len T) 0 Aw true (by omega) (C1 _)
 refine ⟨m.ov||decide (0<(len out:Int)),t,p,q,g,b1,t,l1,x1,0,?_,⟨h.rk,h.so,h.st,h.ct,h.sp,h.spn,h.bk,h.bn,h.df,h.at0,h.an,h.af,h.aw,rfl,w4,w3,h.el,h.ee,h.en,h.el'⟩,by omega⟩
 rw [YO (h0:=w1) (h1:=w2) (h2:=s1) (h3:=rfl) (h4:=rfl),ifF (by omega),ifF c1]
 have c:=(mY ..).trans p1;simp only [A5,AX,tI,tB,B5,B4];cases s:m.ov with
 |true=>
  rw [s,X7] at c;rw [cT rfl,X7,c];rfl
 |false=>
  rw [s,R1] at c;rw [cF rfl,R1,c];rfl
end
end Ug
namespace Ug
open Go Go.AE
section
variable [Ai]
variable {S C T N:D} {n:Nat} {m:MS} {r:RS}
theorem dk {st:D} {stn:Bool} (d:st.rows=S.rows) (hs:len S<1000) {key:D} (u:0≤fd S key):∃(out:D) (b:Bool),EA st (.bool stn) key=.row [.int 1,out,.bool b]∧0<len out∧∀c,c<3→cl out 0 c=cl S (fd S key) c:=by
 have E:∀(k j:Nat) (out:D) (b:Bool),j+k=len S→len out≤j→((len out=0∧fdG (fun i=>D.strEq (cl S i 0) key) k j=fd S key)∨(0<len out∧∀c,c<3→cl out 0 c=cl S (fd S key) c))→
   ∃(a:D) (h:Bool),Sj out (.bool b) st (.bool stn) (.int j) key=.row [.int 1,a,.bool h]∧0<len a∧∀c,c<3→cl a 0 c=cl S (fd S key) c:=by
  intro k
  induction k with
  |zero=>
   intro j out b l hl f;rw [iq,ifF (by rw [Bn d];omega)]
   rcases f with ⟨_,q⟩|q
   ·have:fdG (fun i=>D.strEq (cl S i 0) key) 0 j = -1:=rfl
    omega
   ·exact ⟨out,b,rfl,q⟩
  |succ k g=>
   intro j out b l hl f;have F:fdG (fun i=>D.strEq (cl S i 0) key) (k+1) j=cond (D.strEq (cl S j 0) key) (j:Int) (fdG (fun i=>D.strEq (cl S i 0) key) k (j+1)):=rfl
   rw [iq,ifT (by rw [Bn d];omega),ifF (by omega)]
   simp only [I5 d];rw [AR (i:=j) (by omega)]
   cases q:D.strEq (cl S j 0) key
   ·rw [q] at F;refine g (j+1) out b (by omega) (by omega) ?_
    rcases f with ⟨z,p⟩|p
    ·exact .inl ⟨z,F.symm.trans p⟩
    ·exact .inr p
   ·rw [q] at F;rw [cT rfl,ifT (by omega)]
    refine g (j+1) _ false (by omega) (by rw [AJ];omega) (.inr ⟨by rw [AJ];omega,fun c e=>?_⟩)
    rcases f with ⟨z,p⟩|⟨p0,p⟩
    ·have o:(j:Int)=fd S key:=F.symm.trans p;rw [Cy (by omega),if_pos (by omega),o]
     match c,e with
     |0,_=>rfl
     |1,_=>rfl
     |2,_=>rfl
    ·rw [Cy (by omega),if_neg (by omega)]
     exact p c e
 obtain ⟨out,b,s,t⟩:=E (len S) 0 Aw true (by omega) (C1 _) (.inl ⟨rfl,rfl⟩)
 exact ⟨out,b,(xA ..).trans s,t⟩
theorem Jv (so:PI S) (hs:len S<1000) (wt:∀i:Nat,i<len S→0≤(cl S i 2).toInt∧(cl S i 2).toInt≤1048576) {st:D} {stn:Bool} (l:st.rows=S.rows) {due dn hp:D} {hn:Bool} {o:Option Int} (x:CK due dn hp hn o) {now:Int} (hl:len hp<1000) (p:0≤now) (n1:now≤1099511627776) {key:D} (s:0≤fd S key)
  (b nm ct sp an ev:D) (bn ctn spn af ov en:Bool) (aw:Int):∃(f:Bool) (a:Int) (h g d:D) (j:Bool),cl S (fd S key) 1=.bool f∧cl S (fd S key) 2=.int a∧
   GQ b (.bool bn) nm st (.bool stn) ct (.bool ctn) sp (.bool spn) an (.bool af) (.int aw) (.int now) due dn hp (.bool hn) (.bool ov) ev (.bool en) key=.row [.int 1,cl S (fd S key) 0,.bool f,.int a,h,g,.bool j,d]∧
   len g≤len hp+1∧∃t,CK d h g j t∧TI false t now a now:=by
 obtain ⟨y,u⟩:=Io s;obtain ⟨f,a,a1,a2⟩:=so _ u;have w:=wt _ u;rw [y] at a1 a2 w;rw [a2] at w;obtain ⟨out,A,k1,k2,k3⟩:=dk (stn:=stn) l hs s;obtain ⟨e,k,s1,v⟩:=cu (now:=now) x;have c0:=k3 0 (by omega)
 have c1:=k3 1 (by omega)
 have c2:=k3 2 (by omega)
 rw [a1] at c1;rw [a2] at c2;have w:0≤a∧a≤1048576:=w;by_cases q:0<a
 ·obtain ⟨B,h,g,d,j,p1,p2,p3⟩:=YC (now:=now) (w:=a) v hl p n1 w.1 w.2;refine ⟨f,a,h,g,d,j,a1,a2,?_,p2,_,p3,w.1,w.2,p,Int.le_refl _,n1,(fun c=>nomatch c),fun _ _=>?_,fun z=>by omega⟩
  ·rw [gU,k1,s1];simp only [A5,AX,tI,tB,B5,B4,c0,c1,c2,p1];rw [iT (by omega),iT q]
  ·by_cases z:now+a≤1099511627776
   ·rw [if_pos z];exact .inl ⟨z,rfl,by omega⟩
   ·rw [if_neg z];exact .inr ⟨by omega,rfl⟩
 ·have z:a=0:=by omega
  subst z;refine ⟨f,0,dn,hp,k,hn,a1,a2,?_,by omega,none,v,w.1,w.2,p,Int.le_refl _,n1,(fun c=>nomatch c),fun _ c=>absurd c (Int.lt_irrefl 0),fun _=>⟨rfl,rfl⟩⟩
  ·rw [gU,k1,s1];simp only [A5,AX,tI,tB,B5,B4,c0,c1,c2];rw [iT (by omega),iF (by omega)]
def Gc (C T V:D) (k:Nat):D:=cond (eqC (cl T k 5) 0 0) V (upd V (fd C (cl T k 5)) 0 (.int ((cl V (fd C (cl T k 5)) 0).toInt+(cl T k 8).toInt)))
theorem ZQ {V b:D} {bn:Bool} (rk:Rk S C T) (a:Bk b C V) {k:Nat} (h:k<len T) (s:alw C V T k=true):∃t,QY b (.bool bn) (cl T k 0) (cl T k 1) (cl T k 2) (cl T k 3) (cl T k 4) (cl T k 5) (cl T k 6) (cl T k 7) (cl T k 8)=.row [.int 1,.int 0,t]∧Bk t C (Gc C T V k):=by
 have A:=M1 (bn:=bn) rk a h;obtain ⟨⟨n2,w⟩,⟨H,l⟩,⟨I,o⟩,⟨y,u⟩,_⟩:=rk.tI k h;have c1:=rk.c1;have lb:=a.lb;have lv:=a.lv;have B:=P4 a.lb a.nm (cl T k 5);rw [s] at A;have d:=s;unfold alw at d;unfold Gc;rw [w,l,o,u] at A ⊢;rcases rk.ctr k h with ⟨q,_⟩|⟨q,E,J,K,F,L,M,O,G⟩
 ·refine ⟨b,?_,by rw [q];exact a⟩
  rw [Vl,A];simp only [A5,AX,tI,tB,B5,B4,q]
 rw [q,l,o] at d;rw [l,o,u] at *;simp only [Ao] at *;obtain ⟨e,p⟩:=Io E;obtain ⟨x,v1,v2,v3,v4⟩:=a.vl _ p;have lim:=rk.lim _ p;rw [e] at v1 v2 v4 lim;rw [v2] at d ⊢;simp only [Ao,R1,B1,X9] at d;have i1:=dF d.1;have i2:=dF d.2;generalize hi:(fd C (cl T k 5)).toNat=i at e p;have f:=Mz (b:=b) (bn:=bn) (by omega) (cl T k 5)
 rw [B,←e] at f;rw [←e] at v1 v2 v4 lim F G;have v:Wd V 1:=a.wv;rw [←e,q];simp only [E9,tI];refine ⟨upd b i 2 (.int (x+y)),?_,?_⟩
 ·rw [Vl,A,f];simp only [A5,AX,tI,tB,B5,B4,q,E9,v1];rw [iF (by omega),iT (by omega),AU (by omega) (by omega)]
 ·refine ⟨by rw [CA];exact lb,by rw [CA];exact lv,Dl a.wb,Dl v,fun j g=>?_,fun j g=>?_,fun j g=>?_⟩
  ·rw [Cl a.wb (by omega) (by omega) (by omega) (by omega),if_neg (by omega)]
   exact a.nm j g
  ·rw [Cl a.wb (by omega) (by omega) (by omega) (by omega),if_neg (by omega)]
   exact a.lm j g
  ·rw [Cl a.wb (by omega) (by omega) (by omega) (by omega),Cl v (by omega) (by omega) (by omega) (by omega)]
   by_cases z:(j:Int)=i
   ·rw [if_pos ⟨z,rfl⟩,if_pos ⟨z,rfl⟩];have:j=i:=by omega
    subst this;exact ⟨_,rfl,rfl,by omega,by omega⟩
   ·rw [if_neg (fun c=>z c.1),if_neg (fun c=>z c.1)]
    exact a.vl j g
end
end Ug
namespace Ug
open Go Go.AE
theorem SJ {V:D} {i:Int} {c:Nat}:cl (ct Aq V) i c=cl V i c:=by unfold cl;rfl
section
variable [Ai]
variable {S C T N:D} {n:Nat} {m:MS} {r:RS}
def NW (C T:D) (r:RS) (t:Int) (k:Nat):RS:=⟨cl T k 1,t,r.defs,Gc C T r.vals k,t,ad r.evs (.row [.int k,.int t])⟩
def good (S C T:D) (r:RS) (t:Int) (k:Nat):Prop:=k<len T∧r.time≤t∧t≤1099511627776∧GP C r.vals T r.at' (!decide (t-r.ent<(cl S (fd S r.at') 2).toInt)) k=true
theorem GO (h:Inv S C T n m r) (hn:n<900) {t:Int} (t0:r.time≤t) (t1:t≤1099511627776) {late:Bool} (hl:0<m.aw→late = !decide (t-r.ent<m.aw)) {l s o:D} {b1:Bool} (w3:len o≤n) (w4:∃v,CK l s o b1 v∧TI late v r.ent m.aw t) {k:Nat} (x:k<len T) (A:GP C r.vals T m.an late k=true) (ov:Bool) :
  ∃(u:D) (e:Bool) (f:Int) (q g d a:D) (i:Bool),
   Pl m.b (.bool m.bn) m.nm m.st (.bool m.stn) m.ct (.bool m.ctn) m.sp (.bool m.spn) m.an (.bool m.af) (.int m.aw) (.int m.now) m.due m.dn m.hp (.bool m.hn) (.bool ov) m.ev (.bool m.en) (.int t) l s o (.bool b1) (.bool late) (.int t) (.int k)
    = .row [.int 1,u,.bool e,.int f,ad m.ev (.row [.int k,.int t]),.bool false,q,.bool m.bn,.int m.now,m.dn,m.hp,.bool m.hn,m.due,.int t,g,d,.bool i,a]∧
   Inv S C T (n+1) {m with an:=u,af:=e,aw:=f,ov:=false,ev:=ad m.ev (.row [.int k,.int t]),en:=false,b:=q,now:=t,dn:=g,hp:=d,due:=a,hn:=i} (NW C T r t k):=by
 obtain ⟨v,B,y⟩:=w4;have e0:=y.e0;have e1:=y.e1;have I:=h.rk.t1;have p:=A;unfold GP at p;simp only [B1] at p;obtain ⟨q,p1,p3⟩:=ZQ (bn:=m.bn) h.rk h.bk x p.2.1;have to:=h.rk.to k x;have E:=Jv h.so h.rk.s1 h.rk.wt (stn:=m.stn) h.st B (now:=t) (by omega) (by omega) t1 to q m.nm m.ct m.sp m.an m.ev m.bn m.ctn m.spn m.af late m.en m.aw
 obtain ⟨e,f,g,d,a,i,a1,a2,F,J,G⟩:=E;have el:=h.el;have el':=h.el';refine ⟨cl S (fd S (cl T k 1)) 0,e,f,q,g,d,a,i,?_,?_⟩
 ·have H:len q=len m.b:=by rw [p3.lb,h.bk.lb]
  rw [mW (h0:=rfl) (h1:=rfl),ifT (by omega),ifF (by omega),ifT (by rw [Bn h.sp];omega)]
  simp only [I5 h.sp];rw [p1];simp only [A5,AX,tI,B5,B4,H];rw [F];rfl
 ·obtain ⟨K,L⟩:=Io to;refine ⟨h.rk,h.so,h.st,h.ct,h.sp,h.spn,p3,h.bn,h.df,to,Oi to,a1,a2,rfl,G,by show len d≤n+1;omega,?_,fun j w=>?_,(fun c=>nomatch c),?_⟩
  ·show len (ad m.ev _)=len (ad r.evs _);rw [AJ,AJ,el]
  ·have w:j<len (ad r.evs (.row [.int k,.int t])):=w;rw [AJ] at w;show cl (ad m.ev _) j 0=cl (ad r.evs _) j 0∧cl (ad m.ev _) j 1=cl (ad r.evs _) j 1;rw [Cy (by omega),Cy (by omega),Cy (by omega),Cy (by omega),el]
   by_cases z:(j:Int)=len r.evs
   ·refine ⟨?_,?_⟩<;>simp only [if_pos z]
   ·simp only [if_neg z];exact h.ee j (by omega)
  ·show len (ad r.evs _)≤n+1;rw [AJ];omega
theorem Inv.mono (h:Inv S C T n m r) {j:Nat} (hn:n≤j):Inv S C T j m r:={h with hl:=hY h.hl hn,el':=hY h.el' hn}
theorem Vo (h:Inv S C T n m r) {t:Int} {late:Bool} (hl:0<m.aw→late = !decide (t-r.ent<m.aw)) {k:Nat} (a:k<len T) (t0:r.time≤t) (t1:t≤1099511627776):good S C T r t k↔GP C r.vals T m.an late k=true:=by
 rw [jK h hl a];unfold good;rw [h.aw];exact ⟨fun g=>g.2.2.2,fun g=>⟨a,t0,t1,g⟩⟩
theorem gx (h:Inv S C T n m r) (hn:n<900) (t k:Int):∃(d:D) (f:Bool) (l:Int) (x:Bool) (y:D) (z:Bool) (B:D) (u:Int) (p q a:D) (s:Bool) (H:RS) (e:Int),
  Nw m.b (.bool m.bn) m.nm m.st (.bool m.stn) m.ct (.bool m.ctn) m.sp (.bool m.spn) m.an (.bool m.af) (.int m.aw) (.int m.now) m.due m.dn m.hp (.bool m.hn) (.bool m.ov) m.ev (.bool m.en) (.int t) (.int k)=.row [.int 1,.int e,d,.bool f,.int l,.bool x,y,.bool z,B,.bool m.bn,a,q,.int u,p,.bool s]∧
  Inv S C T (n+1) {m with an:=d,af:=f,aw:=l,ov:=x,ev:=y,en:=z,b:=B,now:=u,dn:=p,hp:=q,due:=a,hn:=s} H∧((e=0∧∃i:Nat,k=i∧good S C T r t i∧H=NW C T r t i)∨(e≠0∧H=r∧∀i:Nat,k=i→¬good S C T r t i)):=by
 have nt:=h.nt;have M:0≤r.time:=by obtain ⟨o,_,K⟩:=h.o;have:=K.e0;have:=K.e1;omega
 have same:∀e:Int,e≠0→(∀i:Nat,k=i→¬good S C T r t i)→Nw m.b (.bool m.bn) m.nm m.st (.bool m.stn) m.ct (.bool m.ctn) m.sp (.bool m.spn) m.an (.bool m.af) (.int m.aw) (.int m.now) m.due m.dn m.hp (.bool m.hn) (.bool m.ov) m.ev (.bool m.en) (.int t) (.int k)=.row [.int 1,.int e,m.an,.bool m.af,.int m.aw,.bool m.ov,m.ev,.bool m.en,m.b,.bool m.bn,m.due,m.hp,.int m.now,m.dn,.bool m.hn]→
  ∃(d:D) (f:Bool) (l:Int) (x:Bool) (y:D) (z:Bool) (B:D) (u:Int) (p q a:D) (s:Bool) (H:RS) (e:Int),
  Nw m.b (.bool m.bn) m.nm m.st (.bool m.stn) m.ct (.bool m.ctn) m.sp (.bool m.spn) m.an (.bool m.af) (.int m.aw) (.int m.now) m.due m.dn m.hp (.bool m.hn) (.bool m.ov) m.ev (.bool m.en) (.int t) (.int k)=.row [.int 1,.int e,d,.bool f,.int l,.bool x,y,.bool z,B,.bool m.bn,a,q,.int u,p,.bool s]∧
  Inv S C T (n+1) {m with an:=d,af:=f,aw:=l,ov:=x,ev:=y,en:=z,b:=B,now:=u,dn:=p,hp:=q,due:=a,hn:=s} H∧((e=0∧∃i:Nat,k=i∧good S C T r t i∧H=NW C T r t i)∨(e≠0∧H=r∧∀i:Nat,k=i→¬good S C T r t i)):=
  fun e h0 h1 h2=>⟨m.an,m.af,m.aw,m.ov,m.ev,m.en,m.b,m.now,m.dn,m.hp,m.due,m.hn,r,e,h2,h.mono (by omega),.inr ⟨h0,rfl,h1⟩⟩
 by_cases E:k<0
 ·exact same 2 (by omega) (fun i hi=>by omega) (by rw [Kx (h0:=rfl) (h1:=rfl) (h2:=rfl) (h3:=rfl) (h4:=rfl) (h5:=rfl),ifT E])
 by_cases k1:k<len T;rotate_left
 ·exact same 2 (by omega) (fun i hi g=>by have:=g.1;omega) (by rw [Kx (h0:=rfl) (h1:=rfl) (h2:=rfl) (h3:=rfl) (h4:=rfl) (h5:=rfl),ifF E,ifF (by rw [Bn h.sp];exact k1)])
 by_cases c0:t<r.time
 ·exact same 3 (by omega) (fun i hi g=>by have:=g.2.1;omega) (by rw [Kx (h0:=rfl) (h1:=rfl) (h2:=rfl) (h3:=rfl) (h4:=rfl) (h5:=rfl),ifF E,ifT (by rw [Bn h.sp];exact k1),ifT (by omega)])
 by_cases c1:1099511627776<t
 ·exact same 3 (by omega) (fun i hi g=>by have:=g.2.2.1;omega) (by rw [Kx (h0:=rfl) (h1:=rfl) (h2:=rfl) (h3:=rfl) (h4:=rfl) (h5:=rfl),ifF E,ifT (by rw [Bn h.sp];exact k1),ifF (by omega),ifT c1])
 obtain ⟨I,O,L,out,J,F,b1,on,w1,w2,w3,w4,w5⟩:=Qh h hn (t:=t) (by omega) (by omega)
 obtain ⟨i,rfl⟩:∃i:Nat,k=i:=⟨k.toNat,by omega⟩
 have it:i<len T:=by omega
 have X:∀v ov,Oe m.b (.bool m.bn) m.nm m.st (.bool m.stn) m.ct (.bool m.ctn) m.sp (.bool m.spn) m.an (.bool m.af) (.int m.aw) (.int m.now) m.due m.dn m.hp (.bool m.hn) (.bool ov) m.ev (.bool m.en) (.int t) F I J (.bool b1) (.bool v) (cl m.sp i 0) (cl m.sp i 1) (cl m.sp i 2) (cl m.sp i 3) (cl m.sp i 4) (cl m.sp i 5) (cl m.sp i 6) (cl m.sp i 7) (cl m.sp i 8)=.row [.int 1,.bool (GP C r.vals T m.an v i)]:=fun v ov=>by
  simp only [I5 h.sp];exact Zq (bn:=m.bn) h.rk h.bk it m.nm m.st m.ct m.sp m.an m.due m.dn m.hp m.ev F I J m.stn m.ctn m.spn m.af m.hn ov m.en b1 v m.aw m.now t
 have G:=Vo h w5 it (by omega) (by omega)
 cases w:GP C r.vals T m.an (m.ov||decide (0<(len out:Int))) i with
 |false=>
  refine same 8 (by omega) (fun j P=>?_) ?_
  ·have:j=i:=by omega
   subst this;rw [G,w];exact fun c=>nomatch c
  cases A:m.ov with
  |true=>
   rw [A,X7] at w;rw [Kx (h0:=w1) (h1:=w2) (h2:=rfl) (h3:=rfl) (h4:=rfl) (h5:=X true true),ifF E,ifT (by rw [Bn h.sp];exact k1),ifF (by omega),ifF c1,w]
   rfl
  |false=>
   rw [A,R1] at w;rw [Kx (h0:=w1) (h1:=w2) (h2:=rfl) (h3:=rfl) (h4:=X (decide (0<(len out:Int))) false) (h5:=rfl),ifF E,ifT (by rw [Bn h.sp];exact k1),ifF (by omega),ifF c1,w]
   rfl
 |true=>
  have g:=G.2 w;cases A:m.ov with
  |true=>
   rw [A,X7] at w w4 w5;obtain ⟨d,f,l,B,p,q,a,s,p1,p3⟩:=GO h hn (t:=t) (by omega) (by omega) w5 w3 w4 it w true
   refine ⟨d,f,l,false,ad m.ev (.row [.int i,.int t]),false,B,t,p,q,a,s,NW C T r t i,0,?_,p3,.inl ⟨rfl,i,rfl,g,rfl⟩⟩;rw [Kx (h0:=w1) (h1:=w2) (h2:=rfl) (h3:=p1) (h4:=rfl) (h5:=X true true),ifF E,ifT (by rw [Bn h.sp];exact k1),ifF (by omega),ifF c1,w]
   rfl
  |false=>
   rw [A,R1] at w w4 w5;obtain ⟨d,f,l,B,p,q,a,s,p1,p3⟩:=GO h hn (t:=t) (by omega) (by omega) w5 w3 w4 it w false
   refine ⟨d,f,l,false,ad m.ev (.row [.int i,.int t]),false,B,t,p,q,a,s,NW C T r t i,0,?_,p3,.inl ⟨rfl,i,rfl,g,rfl⟩⟩;rw [Kx (h0:=w1) (h1:=w2) (h2:=p1) (h3:=rfl) (h4:=X (decide (0<(len out:Int))) false) (h5:=rfl),ifF E,ifT (by rw [Bn h.sp];exact k1),ifF (by omega),ifF c1,w]
   rfl
end
end Ug
namespace Ug
open Go Go.AE
section
variable [Ai]
variable {S C T N:D} {n:Nat} {m:MS} {r:RS}
theorem WC (h:Inv S C T n m r) {t:Int} {late:Bool} {sp':D} {sb:Bool} (hs:sp'.rows=T.rows) (ov:Bool) (e f c d a:D) (b1:Bool) :
  ∀(k j:Nat),j+k=len T→
   (∃i:Nat,i<len T∧GP C r.vals T m.an late i=true∧IZ sp' (.bool sb) (.int j) d a (.int (-1)) (.bool late) m.nm m.st (.bool m.stn) m.ct (.bool m.ctn) m.sp (.bool m.spn) m.an (.bool m.af) (.int m.aw) (.bool ov) m.ev (.bool m.en) m.b (.bool m.bn) (.int m.now) m.dn m.hp (.bool m.hn) m.due (.int t) e f (.bool b1) c m.an=.row [.int 1,.int i])∨
   (IZ sp' (.bool sb) (.int j) d a (.int (-1)) (.bool late) m.nm m.st (.bool m.stn) m.ct (.bool m.ctn) m.sp (.bool m.spn) m.an (.bool m.af) (.int m.aw) (.bool ov) m.ev (.bool m.en) m.b (.bool m.bn) (.int m.now) m.dn m.hp (.bool m.hn) m.due (.int t) e f (.bool b1) c m.an=.row [.int 2]):=by
 intro k
 induction k with
 |zero=>
  intro j p;right;rw [g9 (h0:=rfl),ifF (by rw [Bn hs];omega)]
 |succ k q=>
  intro j p;have s:=h.rk.t1;have A:=Zq (bn:=m.bn) h.rk h.bk (k:=j) (by omega) m.nm m.st m.ct m.sp m.an m.due m.dn m.hp m.ev c e f m.stn m.ctn m.spn m.af m.hn ov m.en b1 late m.aw m.now t
  have l:=q (j+1) (by omega)
  rw [g9 (h0:=rfl),ifT (by rw [Bn hs];omega),ifF (by omega)]
  simp only [I5 hs];rw [A,AR (i:=j) (by omega)]
  simp only [A5,AX,tI,tB,B5,B4];cases o:GP C r.vals T m.an late j with
  |false=>
   simp only [E9];cases D.strEq (cl T j 0) m.an<;>cases decide ((cl T j 2).toInt=2)<;>cases D.strEq (cl T j 3) d<;>cases D.strEq (cl T j 4) a<;>exact l
  |true=>
   have g:=o;unfold GP at g;simp only [B1] at g;rw [g.1];simp only [B4];cases decide ((cl T j 2).toInt=2)
   ·exact l
   cases D.strEq (cl T j 3) d
   ·exact l
   cases D.strEq (cl T j 4) a
   ·exact l
   exact .inl ⟨j,by omega,o,rfl⟩
theorem T2 (h:Inv S C T n m r) (hn:n<900) (t:Int) (q c:D):∃(d:D) (f:Bool) (j:Int) (v:Bool) (x:D) (y:Bool) (E:D) (s:Int) (k l a:D) (p:Bool) (F:RS) (w e:Int),
  OX m.b (.bool m.bn) m.nm m.st (.bool m.stn) m.ct (.bool m.ctn) m.sp (.bool m.spn) m.an (.bool m.af) (.int m.aw) (.int m.now) m.due m.dn m.hp (.bool m.hn) (.bool m.ov) m.ev (.bool m.en) (.int t) q c=.row [.int 1,.int w,.int e,d,.bool f,.int j,.bool v,x,.bool y,E,.bool m.bn,a,l,.int s,k,.bool p]∧
  Inv S C T (n+1) {m with an:=d,af:=f,aw:=j,ov:=v,ev:=x,en:=y,b:=E,now:=s,dn:=k,hp:=l,due:=a,hn:=p} F∧(F=r∨∃i:Nat,good S C T r t i∧F=NW C T r t i):=by
 have nt:=h.nt;have J:0≤r.time:=by obtain ⟨o,_,H⟩:=h.o;have:=H.e0;have:=H.e1;omega
 have same:∀e:Int,OX m.b (.bool m.bn) m.nm m.st (.bool m.stn) m.ct (.bool m.ctn) m.sp (.bool m.spn) m.an (.bool m.af) (.int m.aw) (.int m.now) m.due m.dn m.hp (.bool m.hn) (.bool m.ov) m.ev (.bool m.en) (.int t) q c=.row [.int 1,.int 0,.int e,m.an,.bool m.af,.int m.aw,.bool m.ov,m.ev,.bool m.en,m.b,.bool m.bn,m.due,m.hp,.int m.now,m.dn,.bool m.hn]→
  ∃(d:D) (f:Bool) (j:Int) (v:Bool) (x:D) (y:Bool) (E:D) (s:Int) (k l a:D) (p:Bool) (F:RS) (w e:Int),
  OX m.b (.bool m.bn) m.nm m.st (.bool m.stn) m.ct (.bool m.ctn) m.sp (.bool m.spn) m.an (.bool m.af) (.int m.aw) (.int m.now) m.due m.dn m.hp (.bool m.hn) (.bool m.ov) m.ev (.bool m.en) (.int t) q c=.row [.int 1,.int w,.int e,d,.bool f,.int j,.bool v,x,.bool y,E,.bool m.bn,a,l,.int s,k,.bool p]∧
  Inv S C T (n+1) {m with an:=d,af:=f,aw:=j,ov:=v,ev:=x,en:=y,b:=E,now:=s,dn:=k,hp:=l,due:=a,hn:=p} F∧(F=r∨∃i:Nat,good S C T r t i∧F=NW C T r t i):=
  fun e h1=>⟨m.an,m.af,m.aw,m.ov,m.ev,m.en,m.b,m.now,m.dn,m.hp,m.due,m.hn,r,0,e,h1,h.mono (by omega),.inl rfl⟩
 by_cases c0:t<r.time
 ·exact same 3 (by rw [OZ (h0:=rfl) (h1:=rfl) (h2:=rfl) (h3:=rfl) (h4:=rfl) (h5:=rfl) (h6:=rfl),ifT (by omega)])
 by_cases c1:1099511627776<t
 ·exact same 3 (by rw [OZ (h0:=rfl) (h1:=rfl) (h2:=rfl) (h3:=rfl) (h4:=rfl) (h5:=rfl) (h6:=rfl),ifF (by omega),ifT c1])
 obtain ⟨z,K,I,out,A,u,b1,on,w1,w2,w3,w4,w5⟩:=Qh h hn (t:=t) (by omega) (by omega)
 obtain ⟨sp',sb,s1,L⟩:=Ou h;have Z:=WC h (t:=t) (late:=m.ov||decide (0<(len out:Int))) (sp':=sp') (sb:=sb) L m.ov z A u q c b1 (len T) 0 (by omega)
 rcases Z with ⟨i,hi,G,z1⟩|z1
 ·have g:=(Vo h w5 hi (by omega) (by omega)).2 G
  cases B:m.ov with
  |true=>
   rw [B,X7] at G w4 w5 z1;obtain ⟨d,f,j,E,k,l,a,p,p1,p3⟩:=GO h hn (t:=t) (by omega) (by omega) w5 w3 w4 hi G true
   refine ⟨d,f,j,false,ad m.ev (.row [.int i,.int t]),false,E,t,k,l,a,p,NW C T r t i,i,0,?_,p3,.inr ⟨i,g,rfl⟩⟩;have z3:MP q c (.int (-1)) m.b (.bool m.bn) m.nm m.st (.bool m.stn) m.ct (.bool m.ctn) m.sp (.bool m.spn) m.an (.bool m.af) (.int m.aw) (.int m.now) m.due m.dn m.hp (.bool m.hn) (.bool true) m.ev (.bool m.en) (.int t) u z A (.bool b1) (.bool true) sp' (.bool sb) m.an=.row [.int 1,.int i]:=(U3 ..).trans z1;rw [OZ (h0:=w1) (h1:=w2) (h2:=s1) (h3:=rfl) (h4:=z3) (h5:=rfl) (h6:=p1),ifF (by omega),ifF c1]
   simp only [A5,AX,tI,tB,B5,B4];rw [iF (by omega)]
  |false=>
   rw [B,R1] at G w4 w5 z1;obtain ⟨d,f,j,E,k,l,a,p,p1,p3⟩:=GO h hn (t:=t) (by omega) (by omega) w5 w3 w4 hi G false
   refine ⟨d,f,j,false,ad m.ev (.row [.int i,.int t]),false,E,t,k,l,a,p,NW C T r t i,i,0,?_,p3,.inr ⟨i,g,rfl⟩⟩;have z3:MP q c (.int (-1)) m.b (.bool m.bn) m.nm m.st (.bool m.stn) m.ct (.bool m.ctn) m.sp (.bool m.spn) m.an (.bool m.af) (.int m.aw) (.int m.now) m.due m.dn m.hp (.bool m.hn) (.bool false) m.ev (.bool m.en) (.int t) u z A (.bool b1) (.bool (decide (0<(len out:Int)))) sp' (.bool sb) m.an=.row [.int 1,.int i]:=(U3 ..).trans z1;rw [OZ (h0:=w1) (h1:=w2) (h2:=s1) (h3:=z3) (h4:=rfl) (h5:=p1) (h6:=rfl),ifF (by omega),ifF c1]
   simp only [A5,AX,tI,tB,B5,B4,E9];rw [iF (by omega)]
 ·refine same 9 ?_;cases B:m.ov with
  |true=>
   rw [B,X7] at z1;have z3:MP q c (.int (-1)) m.b (.bool m.bn) m.nm m.st (.bool m.stn) m.ct (.bool m.ctn) m.sp (.bool m.spn) m.an (.bool m.af) (.int m.aw) (.int m.now) m.due m.dn m.hp (.bool m.hn) (.bool true) m.ev (.bool m.en) (.int t) u z A (.bool b1) (.bool true) sp' (.bool sb) m.an=.row [.int 2]:=(U3 ..).trans z1;rw [OZ (h0:=w1) (h1:=w2) (h2:=s1) (h3:=rfl) (h4:=z3) (h5:=rfl) (h6:=rfl),ifF (by omega),ifF c1]
   rfl
  |false=>
   rw [B,R1] at z1;have z3:MP q c (.int (-1)) m.b (.bool m.bn) m.nm m.st (.bool m.stn) m.ct (.bool m.ctn) m.sp (.bool m.spn) m.an (.bool m.af) (.int m.aw) (.int m.now) m.due m.dn m.hp (.bool m.hn) (.bool false) m.ev (.bool m.en) (.int t) u z A (.bool b1) (.bool (decide (0<(len out:Int)))) sp' (.bool sb) m.an=.row [.int 2]:=(U3 ..).trans z1;rw [OZ (h0:=w1) (h1:=w2) (h2:=s1) (h3:=z3) (h4:=rfl) (h5:=rfl) (h6:=rfl),ifF (by omega),ifF c1]
   rfl
end
end Ug
namespace Ug
open Go Go.AE
section
variable [Ai]
variable {S C T N:D}
def bL (C:D):Nat→D
 |0=>Aw
 |i+1=>ad (bL C i) (.row [cl C i 0,cl C i 1,.int 0])
def dL (C:D):Nat→D
 |0=>Aw
 |i+1=>ad (dL C i) (.row [cl C i 0,cl C i 1])
def zL:Nat→D
 |0=>Aw
 |i+1=>ad (zL i) (.row [.int 0])
theorem II:∀i,len (bL C i)=i
 |0=>rfl
 |i+1=>by rw [bL,AJ,II]
theorem QN:∀i,len (dL C i)=i
 |0=>rfl
 |i+1=>by rw [dL,AJ,QN]
theorem Kj:∀i,len (zL i)=i
 |0=>rfl
 |i+1=>by rw [zL,AJ,Kj]
theorem VD:∀i,Wd (bL C i) 3
 |0=>HJ
 |i+1=>Fe (VD i) rfl
theorem V3:∀i,Wd (zL i) 1
 |0=>HJ
 |i+1=>Fe (V3 i) rfl
theorem Hd:∀i j:Nat,j<i→cl (bL C i) j 0=cl C j 0∧cl (bL C i) j 1=cl C j 1∧cl (bL C i) j 2=.int 0
 |0,j,h=>by omega
 |i+1,j,h=>by
  rw [bL,Cy (by omega),Cy (by omega),Cy (by omega),II]
  by_cases q:(j:Int)=i
  ·rw [if_pos q,if_pos q,if_pos q,q];exact ⟨rfl,rfl,rfl⟩
  ·rw [if_neg q,if_neg q,if_neg q];exact Hd i j (by omega)
theorem Sb:∀i j:Nat,j<i→cl (dL C i) j 0=cl C j 0∧cl (dL C i) j 1=cl C j 1
 |0,j,h=>by omega
 |i+1,j,h=>by
  rw [dL,Cy (by omega),Cy (by omega),QN]
  by_cases q:(j:Int)=i
  ·rw [if_pos q,if_pos q,q];exact ⟨rfl,rfl⟩
  ·rw [if_neg q,if_neg q];exact Sb i j (by omega)
theorem Q5:∀i j:Nat,j<i→cl (zL i) j 0=.int 0
 |0,j,h=>by omega
 |i+1,j,h=>by
  rw [zL,Cy (by omega),Kj]
  by_cases q:(j:Int)=i
  ·rw [if_pos q];rfl
  ·rw [if_neg q];exact Q5 i j (by omega)
theorem mf (rk:Rk S C T) {i j:Nat} (hi:i<len C) (a:j<i):D.strEq (cl C j 0) (cl C i 0)=false:=by
 have e:=rk.cid i hi;unfold fd at e;exact Dq (p:=fun j=>D.strEq (cl C j 0) (cl C i 0)) (k:=len C) (i:=0) (j:=j) (hP _) (.inl (by rw [e];omega))
theorem UN (rk:Rk S C T):AO C=.row [.int 1,bL C (len C),.bool (decide (len C=0))]:=by
 have c1:=rk.c1
 have E:∀k i,i+k=len C→Vy C (.int (i:Nat)) (bL C i) (.bool (decide (i=0)))=.row [.int 1,bL C (len C),.bool (decide (len C=0))]:=by
  intro k
  induction k with
  |zero=>
   intro i hi;have:i=len C:=by omega
   subst this;rw [gB,ifF (by omega)]
  |succ k a=>
   intro i hi;have l:=rk.lim i (by omega)
   have b:=II (C:=C) i
   have z:fd (bL C i) (cl C i 0) = -1:=by
    unfold fd;rw [b];exact GG fun j _ c=>by rw [(Hd i j (by omega)).1];exact mf rk (by omega) (by omega)
   have F:=Mz (b:=bL C i) (bn:=decide (i=0)) (by omega) (cl C i 0)
   rw [z] at F;have nx:=a (i+1) (by omega)
   rw [F1 (show ¬i+1=0 by omega)] at nx
   rw [gB,ifT (by omega),ifF (by omega),cF (rk.cne i (by omega)),ifF (by omega),ifF (by omega),F,ifT (p:=(len (bL C i):Int)<1073741824) (by omega)]
   simp only [A5,AX,tI,B5,B4];rw [iT (by omega),AR (i:=i) (by omega)]
   exact nx
 rw [uS,ifF (by omega)]
 exact E (len C) 0 (by omega)
def Bf (a:D):Prop:=a.isNil=true→a.rows=[]
theorem fh (h:Bf S) (hs:len S<1000):∃(l:D) (b:Bool),BM S=.row [.int 1,l,.bool b]∧l.rows=S.rows∧(b=true→S.rows=[]):=by
 rw [Zy];cases q:S.isNil
 ·rw [cF rfl,ifT (by omega)];exact ⟨ct Aq S,false,rfl,rfl,(fun c=>nomatch c)⟩
 ·exact ⟨Aw,true,rfl,(h q).symm,fun _=>h q⟩
theorem fi (h:Bf S) (hs:len S<1000):∃(l:D) (b:Bool),BK S=.row [.int 1,l,.bool b]∧l.rows=S.rows∧(b=true→S.rows=[]):=by
 rw [bf];cases q:S.isNil
 ·rw [cF rfl,ifT (by omega)];exact ⟨ct Aq S,false,rfl,rfl,(fun c=>nomatch c)⟩
 ·exact ⟨Aw,true,rfl,(h q).symm,fun _=>h q⟩
theorem f5 (h:Bf S) (hs:len S<1000):∃(l:D) (b:Bool),BL S=.row [.int 1,l,.bool b]∧l.rows=S.rows∧(b=true→S.rows=[]):=by
 rw [Zi];cases q:S.isNil
 ·rw [cF rfl,ifT (by omega)];exact ⟨ct Aq S,false,rfl,rfl,(fun c=>nomatch c)⟩
 ·exact ⟨Aw,true,rfl,(h q).symm,fun _=>h q⟩
theorem jO (rk:Rk S C T) (so:PI S) (n1:Bf S) (n2:Bf C) (n3:Bf T) (hs:GU N S C T=0):∃(m:MS) (r:RS),
  Ci N S C T=.row [.int 1,N,m.st,.bool m.stn,m.ct,.bool m.ctn,m.sp,.bool m.spn,m.an,.bool m.af,.int m.aw,Aw,m.b,.bool m.bn,m.dn,m.hp,.bool m.hn,m.due]∧
  Inv S C T 1 m r∧
  m.nm=N∧m.now=0∧m.ov=false∧m.ev=Aw∧m.en=true∧r.ent=0∧r.time=0∧r.evs=Aw∧(m.stn=true→S.rows=[])∧(m.ctn=true→C.rows=[]):=by
 have s0:=rk.s0;have s1:=rk.s1;have c1:=rk.c1;have t1:=rk.t1;obtain ⟨G,y⟩:=JZ (v1:=S) (v2:=C) rk.tI (by omega) s1 (by omega) N
 rw [hs] at y;obtain ⟨a12,e,n,f,z12⟩:=fh n1 (by omega)
 obtain ⟨a13,g,o,p,z13⟩:=fi n2 (by omega)
 obtain ⟨a14,h,q,s,z14⟩:=f5 n3 (by omega)
 have t:=UN rk;have i:fd S (cl S (0:Nat) 0)=(0:Nat):=rk.sid 0 s0;have i:fd S (cl S 0 0)=0:=i;have B:CK Aq (.bool true) Aw true none:=⟨rfl,HJ,fun j a=>by rw [Bw] at a;omega,fun _=>rfl,fun d c=>nomatch c⟩
 obtain ⟨u,v,w,k,l,x,e1,z,A,E,F⟩:=Jv so s1 rk.wt (st:=a12) (stn:=e) f B (now:=0) (by rw [Bw];omega) (by omega) (by omega) (key:=cl S 0 0) (by omega) (bL C (len C)) N a13 a14 (CX 0 0) Aw (decide (len C=0)) g h false false true 0
 rw [i] at e1 z A;rw [Bw] at E;have bk:Bk (bL C (len C)) C (zL (len C)):=⟨II _,Kj _,VD _,V3 _,fun j a=>(Hd _ j a).1,fun j a=>(Hd _ j a).2.1,fun j a=>⟨0,(Hd _ j a).2.2,Q5 _ j a,by omega,by have:=rk.lim j a;omega⟩⟩
 have df:Df (dL C (len C)) C:=⟨QN _,fun j a=>(Sb _ j a).1,fun j a=>(Sb _ j a).2⟩
 refine ⟨⟨bL C (len C),decide (len C=0),N,a12,e,a13,g,a14,h,cl S 0 0,u,v,0,l,w,k,x,false,Aw,true⟩,⟨cl S 0 0,0,dL C (len C),zL (len C),0,Aw⟩,?_,?_,rfl,rfl,rfl,rfl,rfl,rfl,rfl,rfl,z12,z13⟩
 ·rw [YU,y,t,n,o,q];simp only [A5,AX,tI,tB,B5,B4];rw [iT (by omega)]
  rw [A];rfl
 ·exact ⟨rk,so,f,p,s,z14,bk,fun c=>dT c,df,by show 0≤fd S (cl S 0 0);omega,BS,by show cl S (fd S (cl S 0 0)) 1=_;rw [i];exact e1,by show cl S (fd S (cl S 0 0)) 2=_;rw [i];exact z,rfl,F,by show len k≤1;omega,rfl,fun j a=>(by have a:j<len Aw:=a;rw [Bw] at a;omega),fun _=>rfl,by show len Aw≤1;rw [Bw];omega⟩
end
end Ug
namespace Ug
open Go Go.AE
abbrev Key:=Int×Int×Int×Int×Int
def kc (k:Key):Nat→Int
 |0=>k.2.1
 |1=>k.2.2.1
 |2=>k.2.2.2.1
 |3=>k.2.2.2.2
 |_=>0
structure KOk (S C:D) (k:Key):Prop where
 s0:0≤k.1
 s1:k.1<len S
 v0:∀j:Nat,j<len C→0≤kc k j∧kc k j≤(cl C j 1).toInt
 v1:∀j:Nat,len C≤j→kc k j=0
def en (S C T:D) (k:Key) (s:Nat):Bool:=D.strEq (cl T s 0) (cl S k.1 0)&&(decide (fd C (cl T s 5)<0)||(!decide (kc k (fd C (cl T s 5)).toNat<(cl T s 6).toInt) && !decide ((cl T s 7).toInt<kc k (fd C (cl T s 5)).toNat)))
def nv (C T:D) (k:Key) (s j:Nat):Int:=if fd C (cl T s 5)=j then kc k j+(cl T s 8).toInt else kc k j
def nx (S C T:D) (k:Key) (s:Nat):Key:=(fd S (cl T s 1),nv C T k s 0,nv C T k s 1,nv C T k s 2,nv C T k s 3)
theorem gv {S C T:D} {k:Key} {s j:Nat} (h:j<4):kc (nx S C T k s) j=nv C T k s j:=by
 match j,h with
 |0,_=>rfl
 |1,_=>rfl
 |2,_=>rfl
 |3,_=>rfl
theorem TG {k:Key} {j:Nat} (h:4≤j):kc k j=0:=by
 match j,h with
 |j+4,_=>rfl
theorem eG {k f:Key} (h:k.1=f.1) (g:∀j,j<4→kc k j=kc f j):k=f:=by
 obtain ⟨a,b,c,d,e⟩:=k;obtain ⟨o,p,q,r,s⟩:=f;have i:=g 0 (by omega)
 have l:=g 1 (by omega)
 have m:=g 2 (by omega)
 have n:=g 3 (by omega)
 simp only [kc] at i l m n;simp only at h;subst h i l m n;rfl
theorem Ow {S C T:D} (hR:Rk S C T) {k:Key} (f:KOk S C k) {s:Nat} (hs:s<len T) (a:en S C T k s=true):KOk S C (nx S C T k s):=by
 have g:=hR.c1;have lt:=Da (l:=S) (key:=cl T s 1);have h:=Da (l:=C) (key:=cl T s 5);refine ⟨hR.to s hs,lt,fun j d=>?_,fun j d=>?_⟩
 ·rw [gv (by omega)]
  unfold nv;have b:=f.v0 j d;by_cases c:fd C (cl T s 5)=j
  ·rw [if_pos c];unfold en at a;simp only [B1,g0,X9,F4] at a;obtain ⟨_,a⟩:=a;rcases a with a|⟨h1,h2⟩
   ·omega
   ·have h1:=dF h1;have h2:=dF h2;rw [c] at h1 h2;rcases hR.ctr s hs with ⟨_,q⟩|⟨_,n,o,p,i,r,t,u,m⟩
    ·omega
    ·rw [c] at i m;have e:(j:Int).toNat=j:=by omega
     rw [e] at h1 h2;omega
  ·rw [if_neg c];exact b
 ·by_cases c:j<4
  ·rw [gv c];unfold nv;rw [if_neg (by omega)]
   exact f.v1 j d
  ·exact TG (by omega)
def bkR (C:D) (g:Nat→Int) (i:Nat):List D:=(List.range i).map fun (j:Nat)=>.row [cl C j 0,cl C j 1,.int (g j)]
def bk (C:D) (g:Nat→Int) (i:Nat):D:=.slc (decide (i=0)) (bkR C g i)
end Ug
namespace Ug
open Go Go.AE
section
variable [Ai]
variable {S C T N X V b d:D} {bn:Bool}
def DD (k:Key):Nat→D
 |0=>Aq
 |i+1=>ad (DD k i) (.row [.int (kc k i)])
theorem Hn {k:Key}:∀i,len (DD k i)=i
 |0=>rfl
 |i+1=>by rw [DD,AJ,Hn]
theorem QD {k:Key}:∀i,Wd (DD k i) 1
 |0=>EJ
 |i+1=>Fe (QD i) rfl
theorem GA {k:Key}:∀i j:Nat,j<i→cl (DD k i) j 0=.int (kc k j)
 |0,j,h=>by omega
 |i+1,j,h=>by
  rw [DD,Cy (by omega),Hn]
  by_cases q:(j:Int)=i
  ·rw [if_pos q];have:j=i:=by omega
   subst this;rfl
  ·rw [if_neg q];exact GA i j (by omega)
theorem Zb (rk:Rk S C T) (f:Bk b C V) (o:Wd X 1) (hl:len X=len C) (m:∀i:Nat,i<len C→∃n,cl X i 0=.int n∧0≤n∧n≤(cl C i 1).toInt) :
  ∃a:D,DZ b (.bool bn) X=.row [.int 1,.int 0,a]∧Bk a C X:=by
 have c1:=rk.c1;have lb:=f.lb
 have W:∀k j (a:D),j+k=len X→len a=len C→Wd a 3→(∀i:Nat,i<len C→cl a i 0=cl C i 0∧cl a i 1=cl C i 1)→(∀i:Nat,i<j→cl a i 2=cl X i 0)→
   ∃b2,Rl X (.int (len X:Int)) (.int (j:Nat)) a (.bool bn)=.row [.int 1,.int 0,b2]∧len b2=len C∧Wd b2 3∧(∀i:Nat,i<len C→cl b2 i 0=cl C i 0∧cl b2 i 1=cl C i 1)∧(∀i:Nat,i<len X→cl b2 i 2=cl X i 0):=by
  intro k
  induction k with
  |zero=>
   intro j a e h1 h2 h3 g;exact ⟨a,by rw [iw,ifF (by omega)],h1,h2,h3,fun i hi=>g i (by omega)⟩
  |succ k h=>
   intro j a e h1 h2 h3 g;have l:∀(i:Nat) (c:Nat),cl (upd a j 2 (cl X j 0)) i c=if (i:Int)=j∧c=2 then cl X j 0 else cl a i c:=fun i c=>Cl h2 (by omega) (by omega) (by omega) (by omega)
   rw [iw,ifT (by omega),ifF (by omega),ifT (by omega),ifT (by omega),AR (i:=j) (by omega)]
   refine h (j+1) _ (by omega) (by rw [CA];exact h1) (Dl h2) (fun i hi=>?_) (fun i hi=>?_)
   ·rw [l i 0,l i 1,if_neg (by omega),if_neg (by omega)]
    exact h3 i hi
   ·rw [l i 2];by_cases z:i=j
    ·subst z;rw [if_pos ⟨rfl,rfl⟩]
    ·rw [if_neg (by omega)];exact g i (by omega)
 have L:∀k j,j+k=len X→Vd X (.int (j:Nat)) b (.bool bn)=Rl X (.int (len X:Int)) (.int (0:Nat)) b (.bool bn):=by
  intro k
  induction k with
  |zero=>
   intro j e;rw [gE,ifF (by omega)];rfl
  |succ k h=>
   intro j e;obtain ⟨n,n1,n2,n3⟩:=m j (by omega)
   rw [gE,ifT (by omega),ifF (by omega),n1]
   simp only [tI];rw [iF (by omega),iT (by omega),f.lm j (by omega),iF (by omega),AR (i:=j) (by omega)]
   exact h (j+1) (by omega)
 obtain ⟨b2,w1,w2,w3,w4,w5⟩:=W (len X) 0 b (by omega) lb f.wb (fun i hi=>⟨f.nm i hi,f.lm i hi⟩) (fun i hi=>by omega)
 refine ⟨b2,?_,w2,hl,w3,o,fun j e=>(w4 j e).1,fun j e=>(w4 j e).2,fun j e=>?_⟩
 ·rw [rA,ifT (by omega)]
  exact (L (len X) 0 (by omega)).trans w1
 ·obtain ⟨n,n1,n2,n3⟩:=m j e;exact ⟨n,by rw [w5 j (by omega)];exact n1,n1,n2,n3⟩
theorem dX {k:Key} (a:KOk S C k):∀i:Nat,i<len C→∃n,cl (DD k (len C)) i 0=.int n∧0≤n∧n≤(cl C i 1).toInt:=fun i hi=>⟨kc k i,GA _ _ hi,(a.v0 i hi).1,(a.v0 i hi).2⟩
theorem UY (rk:Rk S C T) {k:Key} (f:KOk S C k) (N:D):∃c:D,MD (.int k.1) (.int k.2.1) (.int k.2.2.1) (.int k.2.2.2.1) (.int k.2.2.2.2) N S C T=.row [.int 1,.int (len C:Nat),.bool (decide (len C=0)),c]∧Bk c C (DD k (len C)):=by
 have c1:=rk.c1;have e:=UN rk;have g:Bk (bL C (len C)) C (zL (len C)):=⟨II _,Kj _,VD _,V3 _,fun j a=>(Hd _ j a).1,fun j a=>(Hd _ j a).2.1,fun j a=>⟨0,(Hd _ j a).2.2,Q5 _ j a,by omega,by have:=rk.lim j a;omega⟩⟩
 obtain ⟨c,p1,p2⟩:=Zb (bn:=decide (len C=0)) rk g (QD (k:=k) (len C)) (Hn _) (dX f);refine ⟨c,?_,p2⟩;rw [tX,e];simp only [A5,AX,tI,tB,B5,B4,II];by_cases c0:len C=0
 ·rw [c0] at p1 ⊢;rw [iT (by omega),show DZ (bL C 0) (.bool (decide (0=0))) Aq=_ from p1]
  rfl
 rw [iF (by omega)]
 by_cases c2:len C=1
 ·rw [c2] at p1 ⊢;rw [iT (by omega),show DZ (bL C 1) (.bool (decide (1=0))) (ad Aq (.row [.int k.2.1]))=_ from p1]
  rfl
 rw [iF (by omega)]
 by_cases c3:len C=2
 ·rw [c3] at p1 ⊢;rw [iT (by omega),show DZ (bL C 2) (.bool (decide (2=0))) (ad (ad Aq (.row [.int k.2.1])) (.row [.int k.2.2.1]))=_ from p1]
  rfl
 rw [iF (by omega)]
 by_cases c4:len C=3
 ·rw [c4] at p1 ⊢;rw [iT (by omega),show DZ (bL C 3) (.bool (decide (3=0))) (ad (ad (ad Aq (.row [.int k.2.1])) (.row [.int k.2.2.1])) (.row [.int k.2.2.2.1]))=_ from p1]
  rfl
 rw [iF (by omega)]
 have c5:len C=4:=by omega
 rw [c5] at p1 ⊢;rw [iT (by omega),show DZ (bL C 4) (.bool (decide (4=0))) (ad (ad (ad (ad Aq (.row [.int k.2.1])) (.row [.int k.2.2.1])) (.row [.int k.2.2.2.1])) (.row [.int k.2.2.2.2]))=_ from p1]
 rfl
end
end Ug
namespace Ug
open Go Go.AE
def CV (l:List Nat):D:=.slc l.isEmpty (l.map fun s=>.row [.int (s:Nat)])
theorem C8 {l:List Nat}:len (CV l)=l.length:=by unfold CV len;simp [D.rows]
theorem fv {l:List Nat} {s:Nat}:ad (CV l) (.row [.int s])=CV (l++[s]):=by
 unfold CV ad;simp [D.rows]
theorem GB {l:List Nat} {j s:Nat} (h:l[j]?=some s):cl (CV l) j 0=.int s:=by
 show (((l.map fun (s:Nat)=>D.row [.int s])[j]?).getD default).cells.getD 0 default=_
 rw [P8,h];rfl
theorem To {F:List Nat→Nat→D} {p:Nat→Bool} {n:Nat}:∀{k i:Nat} {acc:List Nat},i+k=n→acc.length≤i→(∀(acc:List Nat) (j:Nat),j<n→acc.length≤j→F acc j=cond (p j) (F (acc++[j]) (j+1)) (F acc (j+1)))→F acc i=F (acc++(List.range' i k).filter p) n
 |0,i,acc=>fun h _ _=>by
  have:i=n:=by omega
  subst this;simp
 |k+1,i,acc=>fun h a hs=>by
  rw [hs acc i (by omega) a,List.range'_succ]
  cases q:p i
  ·rw [E9,To (k:=k) (i:=i+1) (by omega) (by omega) hs,i8 (by simp [q])]
  ·rw [B4,To (k:=k) (i:=i+1) (by omega) (by simp;omega) hs,List.filter_cons_of_pos (by simp [q]),List.append_assoc]
   rfl
def enl (S C T:D) (k:Key):List Nat:=(List.range' 0 (len T)).filter (en S C T k)
theorem Gp {S C T:D} {k:Key} {s:Nat} (h:s∈enl S C T k):s<len T∧en S C T k s=true:=by
 have:=i9.1 h;have m:=List.mem_range'.1 this.1;exact ⟨by omega,this.2⟩
theorem Gz {S C T:D} {k:Key}:(enl S C T k).length≤len T:=by
 have:=List.length_filter_le (en S C T k) (List.range' 0 (len T));unfold enl;simpa using this
section
variable [Ai]
variable {S C T N X V b d:D} {bn:Bool}
theorem aQ (rk:Rk S C T) {k:Key} {s:Nat} (hs:s<len T):en S C T k s=(D.strEq (cl T s 0) (cl S k.1 0)&&alw C (DD k (len C)) T s):=by
 unfold en alw;rcases rk.ctr s hs with ⟨q,a⟩|⟨q,c,_⟩
 ·rw [q,a,F6 (show (-1:Int)<0 by omega)]
  rfl
 ·obtain ⟨f,g⟩:=Io c;have e:cl (DD k (len C)) (fd C (cl T s 5)) 0=.int (kc k (fd C (cl T s 5)).toNat):=by rw [←f];exact GA _ _ g
  rw [q,F1 (show ¬fd C (cl T s 5)<0 by omega),e]
  rfl
theorem NM (rk:Rk S C T) {k:Key} (a:KOk S C k) (N:D):GW (.int k.1) (.int k.2.1) (.int k.2.2.1) (.int k.2.2.2.1) (.int k.2.2.2.2) N S C T=.row [.int 1,CV (enl S C T k),.bool (enl S C T k).isEmpty]:=by
 have f:=rk.c1;have g:=rk.t1;have h:=a.s0;have l:=a.s1;obtain ⟨b,p1,p2⟩:=UY rk a N;have lb:=p2.lb;rw [ym,p1];simp only [A5,AX,tI,B5,B4]
 have G:=To (F:=fun acc i=>G6 (CV acc) (.bool acc.isEmpty) T (.int (i:Nat)) (.int k.1) (.int k.2.1) (.int k.2.2.1) (.int k.2.2.2.1) (.int k.2.2.2.2) N S C (.int (len C:Nat)) (.bool (decide (len C=0))) b) (p:=en S C T k) (n:=len T) (k:=len T) (i:=0) (acc:=[]) (by omega) (C1 _) (fun acc j c m=>by
  show G6 (CV acc) (.bool acc.isEmpty) T (.int (j:Nat)) (.int k.1) (.int k.2.1) (.int k.2.2.1) (.int k.2.2.2.1) (.int k.2.2.2.2) N S C (.int (len C:Nat)) (.bool (decide (len C=0))) b =
   cond (en S C T k j) (G6 (CV (acc++[j])) (.bool (acc++[j]).isEmpty) T (.int (j+1:Nat)) (.int k.1) (.int k.2.1) (.int k.2.2.1) (.int k.2.2.2.1) (.int k.2.2.2.2) N S C (.int (len C:Nat)) (.bool (decide (len C=0))) b)
    (G6 (CV acc) (.bool acc.isEmpty) T (.int (j+1:Nat)) (.int k.1) (.int k.2.1) (.int k.2.2.1) (.int k.2.2.2.1) (.int k.2.2.2.2) N S C (.int (len C:Nat)) (.bool (decide (len C=0))) b)
  rw [gL,ifT (by omega),ifF (by omega)]
  simp only [tI];rw [iT (by omega),M1 (bn:=decide (len C=0)) rk p2 c]
  simp only [A5,AX,tI,tB,B5,B4];rw [iF (by omega),iT (by omega),AR (by omega),C8,iT (by omega),fv,lb]
  have e:(acc++[j]).isEmpty=false:=by simp
  rw [aQ rk c,e];cases alw C (DD k (len C)) T j<;>cases D.strEq (cl T j 0) (cl S k.1 0)<;>simp only [B4,E9,g6,Bool.and_false,hX,Bool.false_and])
 have G:G6 Aw (.bool true) T (.int 0) (.int k.1) (.int k.2.1) (.int k.2.2.1) (.int k.2.2.2.1) (.int k.2.2.2.2) N S C (.int (len C:Nat)) (.bool (decide (len C=0))) b=G6 (CV (enl S C T k)) (.bool (enl S C T k).isEmpty) T (.int (len T:Nat)) (.int k.1) (.int k.2.1) (.int k.2.2.1) (.int k.2.2.2.1) (.int k.2.2.2.2) N S C (.int (len C:Nat)) (.bool (decide (len C=0))) b:=G;rw [G,gL,ifF (by omega)]
end
end Ug
namespace Ug
open Go Go.AE
def FT (k:Key):List D:=[.int k.1,.int k.2.1,.int k.2.2.1,.int k.2.2.2.1,.int k.2.2.2.2]
section
variable [Ai]
variable {S C T N X V b d:D} {bn:Bool}
theorem WL {V b:D} {bn:Bool} (rk:Rk S C T) (a:Bk b C V) {k:Nat} (l:k<len T) (p:alw C V T k=true):∃r,QY b (.bool bn) (cl T k 0) (cl T k 1) (cl T k 2) (cl T k 3) (cl T k 4) (cl T k 5) (cl T k 6) (cl T k 7) (cl T k 8)=.row [.int 1,.int 0,r]∧Bk r C (Gc C T V k):=by
 have A:=M1 (bn:=bn) rk a l;obtain ⟨⟨n2,h2⟩,⟨E,m⟩,⟨F,n⟩,⟨u,s⟩,_⟩:=rk.tI k l;have c1:=rk.c1;have lb:=a.lb;have lv:=a.lv;have v:=P4 a.lb a.nm (cl T k 5);rw [p] at A;have e:=p;unfold alw at e;unfold Gc;rw [h2,m,n,s] at A ⊢;rcases rk.ctr k l with ⟨q,_⟩|⟨q,w,G,H,y,I,J,K,B⟩
 ·refine ⟨b,?_,by rw [q];exact a⟩
  rw [Vl,A];simp only [A5,AX,tI,tB,B5,B4,q]
 rw [q,m,n] at e;rw [m,n,s] at *;simp only [Ao] at *;obtain ⟨f,o⟩:=Io w;obtain ⟨x,v1,v2,v3,v4⟩:=a.vl _ o;have lim:=rk.lim _ o;rw [f] at v1 v2 v4 lim;rw [v2] at e ⊢;simp only [Ao,R1,B1,X9] at e;have i1:=dF e.1;have i2:=dF e.2;generalize hi:(fd C (cl T k 5)).toNat=i at f o;have g:=Mz (b:=b) (bn:=bn) (by omega) (cl T k 5)
 rw [v,←f] at g;rw [←f] at v1 v2 v4 lim y B;have t:Wd V 1:=a.wv;rw [←f,q];simp only [E9,tI];refine ⟨upd b i 2 (.int (x+u)),?_,?_⟩
 ·rw [Vl,A,g];simp only [A5,AX,tI,tB,B5,B4,q,E9,v1];rw [iF (by omega),iT (by omega),AU (by omega) (by omega)]
 ·refine ⟨by rw [CA];exact lb,by rw [CA];exact lv,Dl a.wb,Dl t,fun j h=>?_,fun j h=>?_,fun j h=>?_⟩
  ·rw [Cl a.wb (by omega) (by omega) (by omega) (by omega),if_neg (by omega)]
   exact a.nm j h
  ·rw [Cl a.wb (by omega) (by omega) (by omega) (by omega),if_neg (by omega)]
   exact a.lm j h
  ·rw [Cl a.wb (by omega) (by omega) (by omega) (by omega),Cl t (by omega) (by omega) (by omega) (by omega)]
   by_cases z:(j:Int)=i
   ·rw [if_pos ⟨z,rfl⟩,if_pos ⟨z,rfl⟩];have:j=i:=by omega
    subst this;exact ⟨_,rfl,rfl,by omega,by omega⟩
   ·rw [if_neg (fun c=>z c.1),if_neg (fun c=>z c.1)]
    exact a.vl j h
theorem Nd {v0:D} (hn:len v0<4611686018427387904) (k:D):DK v0 k=.row [.int 1,.int (fd v0 k)]:=(pQ ..).trans (EK (F:=fun i=>Vu v0 (.int i) k) hn fun i=>pP ..)
theorem P1 {v0:D} (hn:len v0<4611686018427387904) (k:D):FJ v0 k=.row [.int 1,.int (fd v0 k)]:=(nA ..).trans (EK (F:=fun i=>VQ v0 (.int i) k) hn fun i=>wx ..)
theorem bI (rk:Rk S C T) (f:Bk b C V) (hn:bn=true→len C=0):∃(l:D) (lb:Bool),Pu b (.bool bn)=.row [.int 1,l,.bool lb]∧len l=len C∧(∀i:Nat,i<len C→cl l i 0=cl V i 0)∧Wd l 1:=by
 have c1:=rk.c1;have lb:=f.lb;have lv:=f.lv
 have n:∃(a:D) (e:Bool),GS b (.bool bn)=.row [.int 1,a,.bool e]∧len a=len C∧∀j:Nat,j<len C→cl a j 2=cl b j 2:=by
  rw [bt];cases o:bn
  ·exact ⟨ct Aq b,false,by rw [cF rfl,ifT (by omega)],lb,fun j g=>SJ⟩
  ·have z:=hn o;exact ⟨Aw,true,rfl,by rw [z];rfl,fun j g=>by omega⟩
 obtain ⟨a,e,a1,a2,a3⟩:=n
 have L:∀k j (l:D) (lb:Bool),j+k=len C→len l=j→(∀i:Nat,i<j→cl l i 0=cl V i 0)→Wd l 1→∃(l2:D) (b2:Bool),Vw a (.bool e) (.int (j:Nat)) l (.bool lb)=.row [.int 1,l2,.bool b2]∧len l2=len C∧(∀i:Nat,i<len C→cl l2 i 0=cl V i 0)∧Wd l2 1:=by
  intro k
  induction k with
  |zero=>
   intro j l lb g hl h m;exact ⟨l,lb,by rw [ia,ifF (by omega)],by omega,fun i hi=>h i (by omega),m⟩
  |succ k q=>
   intro j l lb g hl h m;obtain ⟨x,v1,v2,_⟩:=f.vl j (by omega)
   rw [ia,ifT (by omega),ifF (by omega),ifT (p:=(len l:Int)<1073741824) (by omega),AR (i:=j) (by omega),a3 j (by omega)]
   refine q (j+1) _ false (by omega) (by rw [AJ];omega) (fun i hi=>?_) (Fe m rfl)
   rw [Cy (by omega)]
   by_cases z:(i:Int)=len l
   ·rw [if_pos z,v1];have:i=j:=by omega
    subst this;exact v2.symm
   ·rw [if_neg z];exact h i (by omega)
 obtain ⟨l,c,l1,l2,l3⟩:=L (len C) 0 Aw true (by omega) rfl (fun i hi=>by omega) HJ
 have r:QX Aw (.bool true) a (.bool e)=.row [.int 1,l,.bool c]:=(qh ..).trans l1;refine ⟨l,c,?_,l2,l3⟩;rw [nS,a1];simp only [A5,AX,tI,B5,B4,r]
theorem Zj (rk:Rk S C T) {k:Key} {s:Nat} (hs:s<len T) {j:Nat} (a:j<len C):cl (Gc C T (DD k (len C)) s) j 0=.int (nv C T k s j):=by
 unfold Gc nv;rcases rk.ctr s hs with ⟨q,g⟩|⟨q,f,_⟩
 ·rw [q,g,if_neg (by omega)]
  exact GA _ _ a
 ·obtain ⟨h,i⟩:=Io f;have e:cl (DD k (len C)) (fd C (cl T s 5)) 0=.int (kc k (fd C (cl T s 5)).toNat):=by rw [←h];exact GA _ _ i
  have lv:len (DD k (len C))=len C:=Hn _;rw [q,e];simp only [E9,tI];rw [Cl (QD _) (by omega) f (by omega) (by omega)]
  by_cases z:(j:Int)=fd C (cl T s 5)
  ·rw [if_pos ⟨z,rfl⟩,if_pos z.symm,←z];rfl
  ·rw [if_neg (fun c=>z c.1),if_neg (fun c=>z c.symm)]
   exact GA _ _ a
theorem kN (rk:Rk S C T) {k:Key} (a:KOk S C k) {s j:Nat} (c:len C≤j):nv C T k s j=0:=by
 unfold nv;have:=Da (l:=C) (key:=cl T s 5);rw [if_neg (by omega)]
 exact a.v1 j c
theorem P5 (rk:Rk S C T) {k:Key} (c:KOk S C k) {s:Nat} (hs:s<len T) (e:en S C T k s=true) (N:D):Hy (.int k.1) (.int k.2.1) (.int k.2.2.1) (.int k.2.2.2.1) (.int k.2.2.2.2) N S C T (.int (s:Nat))=.row (.int 1::FT (nx S C T k s)):=by
 have i:=rk.c1;have m:=rk.t1;have s1:=rk.s1;obtain ⟨b,p1,p2⟩:=UY rk c N;rw [aQ rk hs,B1] at e;obtain ⟨f,a1,a2⟩:=WL (bn:=decide (len C=0)) rk p2 hs e.2;obtain ⟨l,lb,l1,l2,l3,_⟩:=bI (bn:=decide (len C=0)) rk a2 (fun q=>dT q)
 have F:=Nd (v0:=S) (by omega) (cl T s 1)
 have g:len f=len b:=by rw [a2.lb,p2.lb]
 have h:=p2.lb;have V:∀j:Nat,j<len C→cl l j 0=.int (nv C T k s j):=fun j a=>by rw [l3 j a,Zj rk hs a]
 have Z:∀j:Nat,len C≤j→nv C T k s j=0:=fun j a=>kN rk c a
 rw [qI (h0:=rfl) (h1:=rfl) (h2:=rfl),p1];simp only [A5,AX,tI,tB,B5,B4,a1,F,l1,g,l2];rw [iF (by omega),iT (by omega),iT (by omega)]
 unfold FT nx;by_cases c4:len C=4
 ·rw [iF (by omega),show cl l 0 0=_ from V 0 (by omega),show cl l 1 0=_ from V 1 (by omega),show cl l 2 0=_ from V 2 (by omega),show cl l 3 0=_ from V 3 (by omega)]
 rw [iT (by omega)]
 by_cases c0:len C=0
 ·rw [iT (by omega),Z 0 (by omega),Z 1 (by omega),Z 2 (by omega),Z 3 (by omega)]
 rw [iF (by omega)]
 by_cases c2:len C=1
 ·rw [iT (by omega),show cl l 0 0=_ from V 0 (by omega),Z 1 (by omega),Z 2 (by omega),Z 3 (by omega)]
 rw [iF (by omega)]
 by_cases c3:len C=2
 ·rw [iT (by omega),show cl l 0 0=_ from V 0 (by omega),show cl l 1 0=_ from V 1 (by omega),Z 2 (by omega),Z 3 (by omega)]
 rw [iF (by omega),iT (by omega),show cl l 0 0=_ from V 0 (by omega),show cl l 1 0=_ from V 1 (by omega),show cl l 2 0=_ from V 2 (by omega),Z 3 (by omega)]
end
end Ug
namespace Ug
open Go Go.AE
def Oq (l:D) (i:Nat):Bool:=!decide (fdG (fun j=>D.strEq (cl l j 0) (cl l i 0)) i 0<0)
def GZ (v1 v5 v8:D) (i:Nat):Bool:=decide (fd v1 (cl v8 i 0)<0)||(decide (fd v5 (cl v8 i 1)<0)||Oq v8 i)
def G0 (v2 v6 v9:D) (i:Nat):Bool:=decide (fd v6 (cl v9 i 0)<0)||((!eqC (cl v9 i 1) 0 0&&decide (fd v2 (cl v9 i 1)<0))||(Oq v9 i||(decide (1000<(cl v9 i 2).toInt)||decide ((cl v9 i 2).toInt<(-1000)))))
section
variable [Ai]
variable {v0 v1 v2 v3 v4 v5 v6 v7 v8 v9:D}
def chk (v0 v1 v2 v3 v4 v5 v6 v7 v8 v9:D):D:=cond (rok v0 v1 v2 v3) (cond (rok v4 v5 v6 v7) (cond (decide (24<(len v8:Int))) (.row [.int 1,.int 24,.int 490])
 (cond (decide (fdG (GZ v1 v5 v8) (len v8) 0<0)) (cond (decide (4<(len v9:Int))) (.row [.int 1,.int 4,.int 491])
  (cond (decide (fdG (G0 v2 v6 v9) (len v9) 0<0)) (.row [.int 1,.int 0,.int 0]) (.row [.int 1,.int (fdG (G0 v2 v6 v9) (len v9) 0).toNat,.int 491])))
  (.row [.int 1,.int (fdG (GZ v1 v5 v8) (len v8) 0).toNat,.int 490]))) (.row [.int 1,.int 0,.int 2])) (.row [.int 1,.int 0,.int 2])
theorem zO (f:len v1<1000) (g:len v5<1000) (hn:len v8<1000) {b b1 b2 b3 c d e:Bool}:Hz v0 v1 v2 v3 v4 v5 v6 v7 v8 v9 (.bool b1) (.bool b2) (.bool b3) (.bool c) (.bool d) (.bool e) (.bool b) (.int 0) Aq=cond (decide (fdG (GZ v1 v5 v8) (len v8) 0<0)) (Hz v0 v1 v2 v3 v4 v5 v6 v7 v8 v9 (.bool b1) (.bool b2) (.bool b3) (.bool c) (.bool d) (.bool e) (.bool b) (.int (len v8:Nat)) (Dx (fun j=>cl v8 j 0) (len v8))) (.row [.int 1,.int (fdG (GZ v1 v5 v8) (len v8) 0).toNat,.int 490]):=
 Jo (F:=fun j=>Hz v0 v1 v2 v3 v4 v5 v6 v7 v8 v9 (.bool b1) (.bool b2) (.bool b3) (.bool c) (.bool d) (.bool e) (.bool b) (.int (j:Nat)) (Dx (fun j=>cl v8 j 0) j)) (n:=len v8) (bad:=GZ v1 v5 v8) (B:=fun j=>.row [.int 1,.int (j:Nat),.int 490]) fun i hi=>by
  show Hz v0 v1 v2 v3 v4 v5 v6 v7 v8 v9 (.bool b1) (.bool b2) (.bool b3) (.bool c) (.bool d) (.bool e) (.bool b) (.int (i:Nat)) (Dx (fun j=>cl v8 j 0) i)=cond _ _ (Hz v0 v1 v2 v3 v4 v5 v6 v7 v8 v9 (.bool b1) (.bool b2) (.bool b3) (.bool c) (.bool d) (.bool e) (.bool b) (.int (i+1:Nat)) (Dx (fun j=>cl v8 j 0) (i+1)))
  rw [ii,ifT (by omega),ifF (by omega),AR (by omega)]
  simp only [Nd (v0:=v1) (by omega),Nd (v0:=v5) (by omega),Az,Ay,Ao,Ap,B5,B4,Sl]
  unfold GZ Oq;cases decide (fd v1 (cl v8 i 0)<0)<;>cases decide (fd v5 (cl v8 i 1)<0)<;>simp only [B4,E9,X7,R1]
  by_cases q:fdG (fun j=>D.strEq (cl v8 j 0) (cl v8 i 0)) i 0<0
  ·rw [ifT q,F6 q];show Hz v0 v1 v2 v3 v4 v5 v6 v7 v8 v9 (.bool b1) (.bool b2) (.bool b3) (.bool c) (.bool d) (.bool e) (.bool b) (.int (i+1:Nat)) (ad (Dx (fun j=>cl v8 j 0) i) (.row [(fun j:Nat=>cl v8 j 0) i,.bool true]))=Hz v0 v1 v2 v3 v4 v5 v6 v7 v8 v9 (.bool b1) (.bool b2) (.bool b3) (.bool c) (.bool d) (.bool e) (.bool b) (.int (i+1:Nat)) (Dx (fun j=>cl v8 j 0) (i+1))
   rw [Mt]
  ·have a:=Eo (p:=fun j=>D.strEq (cl v8 j 0) (cl v8 i 0)) (k:=i) (i:=0)
   rw [ifF q,F1 q,Mk (by omega) (by omega)]
   rfl
theorem dS {n:Int} {a:Type} {x y z:a} (b:z=cond (decide (1000<n)||decide (n<(-1000))) x y):cond (decide (n<IntKind.wrap .i64 (0-n))) (cond (decide (1000<IntKind.wrap .i64 (0-n))) x (cond (decide (n<(-1000))) x y)) (cond (decide (1000<n)) x (cond (decide (n<(-1000))) x y))=z:=by
 subst b;by_cases c:1000<n
 ·rw [F6 c,X7,B4];by_cases q:n<IntKind.wrap .i64 (0-n)
  ·rw [ifT q,ifT (by omega)];rfl
  ·rw [ifF q];rfl
 rw [F1 c,R1,E9];by_cases d:n < -1000
 ·rw [ifT d,Bool.cond_self,Bool.cond_self]
 ·rw [ifF d,AU (by omega) (by omega),ifF (p:=1000<0-n) (by omega),Bool.cond_self]
theorem yF (l:len v2<1000) (o:len v6<1000) (hn:len v9<1000) {b b1 b2 b3 e g h c d:Bool} {m:Int}:EV v0 v1 v2 v3 v4 v5 v6 v7 v8 v9 (.bool b1) (.bool b2) (.bool b3) (.bool e) (.bool g) (.bool h) (.bool b) (.int m) (.bool c) (.bool d) (.int 0) Aq=cond (decide (fdG (G0 v2 v6 v9) (len v9) 0<0)) (EV v0 v1 v2 v3 v4 v5 v6 v7 v8 v9 (.bool b1) (.bool b2) (.bool b3) (.bool e) (.bool g) (.bool h) (.bool b) (.int m) (.bool c) (.bool d) (.int (len v9:Nat)) (Dx (fun j=>cl v9 j 0) (len v9))) (.row [.int 1,.int (fdG (G0 v2 v6 v9) (len v9) 0).toNat,.int 491]):=
 Jo (F:=fun j=>EV v0 v1 v2 v3 v4 v5 v6 v7 v8 v9 (.bool b1) (.bool b2) (.bool b3) (.bool e) (.bool g) (.bool h) (.bool b) (.int m) (.bool c) (.bool d) (.int (j:Nat)) (Dx (fun j=>cl v9 j 0) j)) (n:=len v9) (bad:=G0 v2 v6 v9) (B:=fun j=>.row [.int 1,.int (j:Nat),.int 491]) fun i hi=>by
  show EV v0 v1 v2 v3 v4 v5 v6 v7 v8 v9 (.bool b1) (.bool b2) (.bool b3) (.bool e) (.bool g) (.bool h) (.bool b) (.int m) (.bool c) (.bool d) (.int (i:Nat)) (Dx (fun j=>cl v9 j 0) i)=cond _ _ (EV v0 v1 v2 v3 v4 v5 v6 v7 v8 v9 (.bool b1) (.bool b2) (.bool b3) (.bool e) (.bool g) (.bool h) (.bool b) (.int m) (.bool c) (.bool d) (.int (i+1:Nat)) (Dx (fun j=>cl v9 j 0) (i+1)))
  have hs:ad (Dx (fun j=>cl v9 j 0) i) (.row [cl v9 i 0,.bool true])=Dx (fun j=>cl v9 j 0) (i+1):=Mt (f:=fun j=>cl v9 j 0)
  rw [ic,ifT (by omega),ifF (by omega),AR (by omega)]
  simp only [P1 (v0:=v2) (by omega),P1 (v0:=v6) (by omega),Az,Ay,Ao,Ap,B5,B4,Sl,hs]
  unfold G0 Oq;by_cases q:fdG (fun j=>D.strEq (cl v9 j 0) (cl v9 i 0)) i 0<0
  ·simp only [ifT q,F6 q];cases decide (fd v6 (cl v9 i 0)<0)<;>cases eqC (cl v9 i 1) 0 0<;>cases decide (fd v2 (cl v9 i 1)<0)<;>first|rfl | (simp only [B4,E9,X7,R1,gg,fg,hX,Bool.false_and];exact dS rfl)
  ·have a:=Eo (p:=fun j=>D.strEq (cl v9 j 0) (cl v9 i 0)) (k:=i) (i:=0)
   simp only [ifF q,F1 q,Mk (f:=fun j:Nat=>cl v9 j 0) (i:=i) (j:=fdG (fun j=>D.strEq (cl v9 j 0) (cl v9 i 0)) i 0) (by omega) (by omega)]
   cases decide (fd v6 (cl v9 i 0)<0)<;>cases eqC (cl v9 i 1) 0 0<;>cases decide (fd v2 (cl v9 i 1)<0)<;>rfl
theorem f8 {e:Type} {c:Bool} {a d b:e} (h:a=d):cond c a b=cond c d b:=by rw [h]
theorem rJ {e:Type} {c:Bool} {a b d:e} (h:b=d):cond c a b=cond c a d:=by rw [h]
theorem Qe (hs:CJ v3) (hs7:CJ v7) (a:len v1<1000) (b:len v2<1000) (e:len v3<1000) (c:len v5<1000) (d:len v6<1000) (f:len v7<1000) (g:len v8<1000) (h:len v9<1000):Cq v0 v1 v2 v3 v4 v5 v6 v7 v8 v9=chk v0 v1 v2 v3 v4 v5 v6 v7 v8 v9:=by
 obtain ⟨a1,i⟩:=JZ (v1:=v1) (v2:=v2) (v3:=v3) hs e a b v0;obtain ⟨a2,j⟩:=JZ (v1:=v5) (v2:=v6) (v3:=v7) hs7 f c d v4;unfold chk;rw [vQ,i,j,←Hw,←Hw];simp only [A5,AX,tI,B5,B4];by_cases r1:GU v0 v1 v2 v3=0;rotate_left
 ·rw [iF r1,iF r1]
 rw [iT r1,iT r1];by_cases r2:GU v4 v5 v6 v7=0;rotate_left
 ·rw [iF r2,iF r2]
 rw [iT r2,iT r2];by_cases l8:24<(len v8:Int)
 ·rw [iT l8,iT l8]
 rw [iF l8,iF l8,zO a c g];refine f8 ?_;rw [ii,ifF (by omega),yF b d h]
 refine rJ (f8 ?_);rw [ic,ifF (by omega)]
def Hq (v9:D):Prop:=∀i:Nat,i<len v9→∃n,cl v9 i 2=.int n
end
end Ug
namespace Ug
open Go Go.AE
section
variable [Ai]
variable {v0 v1 v2 v3 v4 v5 aB aA:D}
def Qm (v2 aA:D) (i:Nat):Bool:=decide ((cl aA i 0).toInt<0)||decide ((cl v2 i 1).toInt<(cl aA i 0).toInt)
def isC (v1 v2 aB aA:D):Bool:=!decide (fd v1 aB<0)&&(decide ((len aA:Int)=(len v2:Int))&&decide (fdG (Qm v2 aA) (len aA) 0<0))
def Rq (aA:D):Prop:=∀i:Nat,i<len aA→∃n,cl aA i 0=.int n
def kv (aA:D) (j:Nat):Int:=if j<len aA then (cl aA j 0).toInt else 0
theorem Rq.at {aA:D} (h:Rq aA) {j:Nat} (r:j<len aA):cl aA j 0=.int (kv aA j):=by
 obtain ⟨n,e⟩:=h j r;unfold kv;rw [if_pos r,e];rfl
theorem Hx {aA:D} {j:Nat} (a:len aA≤j):kv aA j=0:=if_neg (by omega)
theorem YE (a:Rq aA) (d:len v1<1000) (e:len v2<1000):C5 v0 v1 v2 v3 aB aA=cond (isC v1 v2 aB aA) (.row [.int 1,.int (fd v1 aB),.int (kv aA 0),.int (kv aA 1),.int (kv aA 2),.int (kv aA 3),.bool true]) (.row [.int 1,.int (fd v1 aB),.int 0,.int 0,.int 0,.int 0,.bool false]):=by
 rw [mr];simp only [Nd (v0:=v1) (by omega),Az,Ay,Ao,Ap,B5,B4]
 unfold isC;by_cases c1:fd v1 aB<0
 ·rw [ifT c1,F6 c1];rfl
 rw [ifF c1,F1 c1];by_cases c2:(len aA:Int)=(len v2:Int);rotate_left
 ·rw [ifF c2,F1 c2];rfl
 rw [ifT c2,F6 c2]
 have L:=Jo (F:=fun j=>KI aA (.int (j:Nat)) v0 v1 v2 v3 aB (.int (fd v1 aB))) (n:=len aA) (bad:=Qm v2 aA) (B:=fun _=>.row [.int 1,.int (fd v1 aB),.int 0,.int 0,.int 0,.int 0,.bool false]) (fun j g=>by
  show KI aA (.int (j:Nat)) v0 v1 v2 v3 aB (.int (fd v1 aB))=cond _ _ (KI aA (.int (j+1:Nat)) v0 v1 v2 v3 aB (.int (fd v1 aB)));rw [g7,ifT (by omega),ifF (by omega),AR (by omega),ifT (p:=(j:Int)<(len v2:Int)) (by omega)]
  unfold Qm;cases decide ((cl aA j 0).toInt<0)<;>cases decide ((cl v2 j 1).toInt<(cl aA j 0).toInt)<;>rfl)
 refine (show KI aA (.int 0) v0 v1 v2 v3 aB (.int (fd v1 aB))=_ from L).trans ?_
 show cond (decide (fdG (Qm v2 aA) (len aA) 0<0)) (KI aA (.int (len aA:Nat)) v0 v1 v2 v3 aB (.int (fd v1 aB))) _=cond (decide (fdG (Qm v2 aA) (len aA) 0<0)) _ _
 congr 1
 rw [g7,ifF (by omega)]
 have h0:=a.at (j:=0);have h1:=a.at (j:=1);have b:=a.at (j:=2);have f:=a.at (j:=3);by_cases k:(len aA:Int)<4;rotate_left
 ·rw [ifF k,show cl aA 0 0=.int (kv aA 0) from h0 (by omega),show cl aA 1 0=.int (kv aA 1) from h1 (by omega),show cl aA 2 0=.int (kv aA 2) from b (by omega),show cl aA 3 0=.int (kv aA 3) from f (by omega)]
 rw [ifT k];by_cases c:(len aA:Int)=0
 ·rw [ifT c,Hx (j:=0) (by omega),Hx (j:=1) (by omega),Hx (j:=2) (by omega),Hx (j:=3) (by omega)]
 rw [ifF c];by_cases k1:(len aA:Int)=1
 ·rw [ifT k1,show cl aA 0 0=.int (kv aA 0) from h0 (by omega),Hx (j:=1) (by omega),Hx (j:=2) (by omega),Hx (j:=3) (by omega)]
 rw [ifF k1];by_cases k2:(len aA:Int)=2
 ·rw [ifT k2,show cl aA 0 0=.int (kv aA 0) from h0 (by omega),show cl aA 1 0=.int (kv aA 1) from h1 (by omega),Hx (j:=2) (by omega),Hx (j:=3) (by omega)]
 rw [ifF k2];have k3:(len aA:Int)=3:=by omega
 rw [ifT k3,show cl aA 0 0=.int (kv aA 0) from h0 (by omega),show cl aA 1 0=.int (kv aA 1) from h1 (by omega),show cl aA 2 0=.int (kv aA 2) from b (by omega),Hx (j:=3) (by omega)]
end
end Ug
namespace Ug
open Go Go.AE
def pl (v6 v9:D) (i:Nat):Int:=fd v6 (cl v9 i 0)
def pv (v2 v9 aA:D) (i:Nat):Int:=cond (decide (fd v2 (cl v9 i 1)<0)) (cl v9 i 2).toInt (IntKind.wrap .i64 ((cl v9 i 2).toInt+kv aA (fd v2 (cl v9 i 1)).toNat))
def vs (v2 v6 v9 aA:D) (j:Nat):Nat→Int
 |0=>0
 |i+1=>if pl v6 v9 i=j then pv v2 v9 aA i else vs v2 v6 v9 aA j i
theorem Wh {v2 v6 v9 aA:D} {j i:Nat}:vs v2 v6 v9 aA j (i+1)=if pl v6 v9 i=j then pv v2 v9 aA i else vs v2 v6 v9 aA j i:=rfl
def Gj (v2 v6 v9 aA:D) (i:Nat):Bool:=decide (pv v2 v9 aA i<0)||decide ((cl v6 (pl v6 v9 i) 1).toInt<pv v2 v9 aA i)
section
variable [Ai]
variable {v0 v1 v2 v3 v4 v5 v6 v7 v8 v9 aB aA:D}
theorem mc {a b c d:Int} {st:Nat} (hn:len v8<1000) (h:st<len v1):NG v8 v0 v1 v2 v3 (.int (st:Nat)) (.int a) (.int b) (.int c) (.int d)=.row [.int 1,.int (fd v8 (cl v1 st 0))]:=by
 rw [tf];refine find (F:=fun j=>Ph v8 (.int (j:Nat)) v0 v1 v2 v3 (.int (st:Nat)) (.int a) (.int b) (.int c) (.int d)) (n:=len v8) (bad:=fun j=>D.strEq (cl v8 j 0) (cl v1 st 0)) (fun j e=>?_) ?_
 ·show Ph v8 (.int (j:Nat)) v0 v1 v2 v3 (.int (st:Nat)) (.int a) (.int b) (.int c) (.int d)=_;rw [gK,ifT (by omega),ifF (by omega),AR (by omega),ifF (by omega),ifT (by omega)]
 ·show Ph v8 (.int (len v8:Nat)) v0 v1 v2 v3 (.int (st:Nat)) (.int a) (.int b) (.int c) (.int d)=_;rw [gK,ifF (by omega)]
theorem Zo {st a:Int} (hp:Hq v9) (hn:len v9<1000) (p:len v2≤4) (q:len v6≤4) {i:Nat} (hi:i<len v9) (h0:0≤pl v6 v9 i) :
  BH v9 (.int (i:Nat)) v0 v1 v2 v3 v4 v5 v6 v7 (.int st) (.int (kv aA 0)) (.int (kv aA 1)) (.int (kv aA 2)) (.int (kv aA 3)) (.int a) (.int (vs v2 v6 v9 aA 0 i)) (.int (vs v2 v6 v9 aA 1 i)) (.int (vs v2 v6 v9 aA 2 i)) (.int (vs v2 v6 v9 aA 3 i)) =
   cond (Gj v2 v6 v9 aA i) (.row [.int 1,.int 0,.int 0,.int 0,.int 0,.int 0,.int 3]) (BH v9 (.int (i+1:Nat)) v0 v1 v2 v3 v4 v5 v6 v7 (.int st) (.int (kv aA 0)) (.int (kv aA 1)) (.int (kv aA 2)) (.int (kv aA 3)) (.int a) (.int (vs v2 v6 v9 aA 0 (i+1))) (.int (vs v2 v6 v9 aA 1 (i+1))) (.int (vs v2 v6 v9 aA 2 (i+1))) (.int (vs v2 v6 v9 aA 3 (i+1)))):=by
 obtain ⟨n,j⟩:=hp i hi;have d:cl v9 i 2=.int (cl v9 i 2).toInt:=by rw [j];rfl
 have l1:pl v6 v9 i<len v6:=Da;have l2:=Da (l:=v2) (key:=cl v9 i 1);have k:=f9 (l:=v2) (key:=cl v9 i 1);have e:fd v6 (cl v9 i 0)=pl v6 v9 i:=rfl;rw [gT (h0:=rfl),ifT (by omega),ifF (by omega),AR (by omega)]
 simp only [P1 (v0:=v6) (by omega),P1 (v0:=v2) (by omega),Az,Ay,Ao,B5,B4,e,F6 l1,F1 (show ¬pl v6 v9 i<0 by omega),E9]
 have key:∀w:Int,pv v2 v9 aA i=w→cond (decide (w<0)) (D.row [.int 1,.int 0,.int 0,.int 0,.int 0,.int 0,.int 3]) (cond (decide ((cl v6 (pl v6 v9 i) 1).toInt<w)) (D.row [.int 1,.int 0,.int 0,.int 0,.int 0,.int 0,.int 3])
   (cond (decide (pl v6 v9 i=0)) (BH v9 (.int (i+1:Nat)) v0 v1 v2 v3 v4 v5 v6 v7 (.int st) (.int (kv aA 0)) (.int (kv aA 1)) (.int (kv aA 2)) (.int (kv aA 3)) (.int a) (.int w) (.int (vs v2 v6 v9 aA 1 i)) (.int (vs v2 v6 v9 aA 2 i)) (.int (vs v2 v6 v9 aA 3 i)))
   (cond (decide (pl v6 v9 i=1)) (BH v9 (.int (i+1:Nat)) v0 v1 v2 v3 v4 v5 v6 v7 (.int st) (.int (kv aA 0)) (.int (kv aA 1)) (.int (kv aA 2)) (.int (kv aA 3)) (.int a) (.int (vs v2 v6 v9 aA 0 i)) (.int w) (.int (vs v2 v6 v9 aA 2 i)) (.int (vs v2 v6 v9 aA 3 i)))
   (cond (decide (pl v6 v9 i=2)) (BH v9 (.int (i+1:Nat)) v0 v1 v2 v3 v4 v5 v6 v7 (.int st) (.int (kv aA 0)) (.int (kv aA 1)) (.int (kv aA 2)) (.int (kv aA 3)) (.int a) (.int (vs v2 v6 v9 aA 0 i)) (.int (vs v2 v6 v9 aA 1 i)) (.int w) (.int (vs v2 v6 v9 aA 3 i)))
   (cond (decide (pl v6 v9 i=3)) (BH v9 (.int (i+1:Nat)) v0 v1 v2 v3 v4 v5 v6 v7 (.int st) (.int (kv aA 0)) (.int (kv aA 1)) (.int (kv aA 2)) (.int (kv aA 3)) (.int a) (.int (vs v2 v6 v9 aA 0 i)) (.int (vs v2 v6 v9 aA 1 i)) (.int (vs v2 v6 v9 aA 2 i)) (.int w)) (D.row [])))))) =
   cond (Gj v2 v6 v9 aA i) (.row [.int 1,.int 0,.int 0,.int 0,.int 0,.int 0,.int 3]) (BH v9 (.int (i+1:Nat)) v0 v1 v2 v3 v4 v5 v6 v7 (.int st) (.int (kv aA 0)) (.int (kv aA 1)) (.int (kv aA 2)) (.int (kv aA 3)) (.int a) (.int (vs v2 v6 v9 aA 0 (i+1))) (.int (vs v2 v6 v9 aA 1 (i+1))) (.int (vs v2 v6 v9 aA 2 (i+1))) (.int (vs v2 v6 v9 aA 3 (i+1)))):=by
  intro w o;unfold Gj;simp only [Wh,o];cases decide (w<0);rotate_left
  ·rfl
  cases decide ((cl v6 (pl v6 v9 i) 1).toInt<w);rotate_left
  ·rfl
  simp only [E9,R1];by_cases c:pl v6 v9 i=0
  ·rw [ifT c,if_pos (by omega),if_neg (by omega),if_neg (by omega),if_neg (by omega)]
  rw [ifF c];by_cases k1:pl v6 v9 i=1
  ·rw [ifT k1,if_neg (by omega),if_pos (by omega),if_neg (by omega),if_neg (by omega)]
  rw [ifF k1];by_cases k2:pl v6 v9 i=2
  ·rw [ifT k2,if_neg (by omega),if_neg (by omega),if_pos (by omega),if_neg (by omega)]
  rw [ifF k2];have k3:pl v6 v9 i=3:=by omega
  rw [ifT k3,if_neg (by omega),if_neg (by omega),if_neg (by omega),if_pos (by omega)]
 have f:fd v2 (cl v9 i 1)<0→pv v2 v9 aA i=(cl v9 i 2).toInt:=fun h=>ifT h
 have b:∀m:Nat,fd v2 (cl v9 i 1)=m→pv v2 v9 aA i=IntKind.wrap .i64 ((cl v9 i 2).toInt+kv aA m):=fun m h=>by
  unfold pv;rw [ifF (by omega),h]
  rfl
 rcases k with g|g
 ·rw [ifT (by omega)]
  refine Eq.trans ?_ (key _ (f (by omega)))
  rw [←d]
 rw [ifF (by omega)]
 by_cases c:fd v2 (cl v9 i 1)=0
 ·rw [ifT c];exact key _ (b 0 c)
 rw [ifF c];by_cases k1:fd v2 (cl v9 i 1)=1
 ·rw [ifT k1];exact key _ (b 1 k1)
 rw [ifF k1];by_cases k2:fd v2 (cl v9 i 1)=2
 ·rw [ifT k2];exact key _ (b 2 k2)
 rw [ifF k2];have k3:fd v2 (cl v9 i 1)=3:=by omega
 rw [ifT k3];exact key _ (b 3 k3)
theorem Yr {st:Nat} (hp:Hq v9) (d:len v5<1000) (a:len v8<1000) (hn:len v9<1000) (e:len v2≤4) (f:len v6≤4) (b:st<len v1) (h0:∀i,i<len v9→0≤pl v6 v9 i) :
  Ox v0 v1 v2 v3 v4 v5 v6 v7 v8 v9 (.int (st:Nat)) (.int (kv aA 0)) (.int (kv aA 1)) (.int (kv aA 2)) (.int (kv aA 3))=cond (decide (fd v8 (cl v1 st 0)<0)) (.row [.int 1,.int 0,.int 0,.int 0,.int 0,.int 0,.int 9])
   (cond (decide (fdG (Gj v2 v6 v9 aA) (len v9) 0<0)) (.row [.int 1,.int (fd v5 (cl v8 (fd v8 (cl v1 st 0)) 1)),.int (vs v2 v6 v9 aA 0 (len v9)),.int (vs v2 v6 v9 aA 1 (len v9)),.int (vs v2 v6 v9 aA 2 (len v9)),.int (vs v2 v6 v9 aA 3 (len v9)),.int 0]) (.row [.int 1,.int 0,.int 0,.int 0,.int 0,.int 0,.int 3])):=by
 rw [tv];have l:=Da (l:=v8) (key:=cl v1 st 0);simp only [mc a b,Nd (v0:=v5) (by omega),Az,Ay,Ao,B5,B4,F6 l]
 congr 1
 have L:=Jo (F:=fun j=>BH v9 (.int (j:Nat)) v0 v1 v2 v3 v4 v5 v6 v7 (.int (st:Nat)) (.int (kv aA 0)) (.int (kv aA 1)) (.int (kv aA 2)) (.int (kv aA 3)) (.int (fd v5 (cl v8 (fd v8 (cl v1 st 0)) 1))) (.int (vs v2 v6 v9 aA 0 j)) (.int (vs v2 v6 v9 aA 1 j)) (.int (vs v2 v6 v9 aA 2 j)) (.int (vs v2 v6 v9 aA 3 j))) (n:=len v9) (bad:=Gj v2 v6 v9 aA) (B:=fun _=>.row [.int 1,.int 0,.int 0,.int 0,.int 0,.int 0,.int 3]) (fun j c=>Zo hp hn e f c (h0 j c))
 refine L.trans ?_
 congr 1
 show BH v9 (.int (len v9:Nat)) v0 v1 v2 v3 v4 v5 v6 v7 (.int (st:Nat)) (.int (kv aA 0)) (.int (kv aA 1)) (.int (kv aA 2)) (.int (kv aA 3)) (.int (fd v5 (cl v8 (fd v8 (cl v1 st 0)) 1))) (.int (vs v2 v6 v9 aA 0 (len v9))) (.int (vs v2 v6 v9 aA 1 (len v9))) (.int (vs v2 v6 v9 aA 2 (len v9))) (.int (vs v2 v6 v9 aA 3 (len v9)))=_;rw [gT (h0:=rfl),ifF (by omega)]
theorem Jp {F:Nat→D} {n:Nat} (hs:∀j,j<n→F j=F (j+1)):F 0=F n:=by
 have:=Jo (F:=F) (n:=n) (bad:=fun _=>false) (B:=fun _=>.row []) (fun j a=>(hs j a).trans rfl)
 rw [GG (fun _ _ _=>rfl)] at this
 exact this
end
end Ug
namespace Ug
open Go Go.AE
section
variable [Ai]
variable {v0 v1 v2 v3 v4 v5 v6 v7 v8 v9 aB aA aG:D}
theorem sq {j i:Nat}:vs v2 v6 v9 aA j i=0∨∃k,k<i∧pl v6 v9 k=j∧vs v2 v6 v9 aA j i=pv v2 v9 aA k:=by
 induction i with
 |zero=>exact .inl rfl
 |succ i a=>
  rw [Wh];by_cases c:pl v6 v9 i=j
  ·rw [if_pos c];exact .inr ⟨i,by omega,c,rfl⟩
  ·rw [if_neg c];rcases a with h|⟨k,e,b,d⟩
   ·exact .inl h
   ·exact .inr ⟨k,by omega,b,d⟩
end
end Ug
namespace Ug
open Go Go.AE
section
variable [Ai]
variable {v0 v1 v2 v3 v4 v5 v6 v7 v8 v9 aB aA aC aG aD aH aM aN:D}
theorem Yh (r1:rok v0 v1 v2 v3=true) (r2:rok v4 v5 v6 v7=true) (l8:len v8≤24) (p:fdG (GZ v1 v5 v8) (len v8) 0<0) (l9:len v9≤4) (q:fdG (G0 v2 v6 v9) (len v9) 0<0):chk v0 v1 v2 v3 v4 v5 v6 v7 v8 v9=.row [.int 1,.int 0,.int 0]:=by
 unfold chk;rw [cT r1,cT r2,ifF (by omega),ifT p,ifF (by omega),ifT q]
theorem J2 (v0 v1 v2 v3 v4 v5 v6 v7 v8 v9:D):∃a e,chk v0 v1 v2 v3 v4 v5 v6 v7 v8 v9=.row [.int 1,.int a,.int e]∧(e=0→rok v0 v1 v2 v3=true∧rok v4 v5 v6 v7=true∧len v8≤24∧(fdG (GZ v1 v5 v8) (len v8) 0<0)∧len v9≤4∧(fdG (G0 v2 v6 v9) (len v9) 0<0)):=by
 unfold chk;cases rok v0 v1 v2 v3
 ·exact ⟨_,_,rfl,fun h=>by cases h⟩
 cases rok v4 v5 v6 v7
 ·exact ⟨_,_,rfl,fun h=>by cases h⟩
 simp only [B4];by_cases c1:24<(len v8:Int)
 ·rw [ifT c1];exact ⟨_,_,rfl,fun h=>by cases h⟩
 rw [ifF c1];by_cases c2:fdG (GZ v1 v5 v8) (len v8) 0<0;rotate_left
 ·rw [ifF c2];exact ⟨_,_,rfl,fun h=>by cases h⟩
 rw [ifT c2];by_cases c3:4<(len v9:Int)
 ·rw [ifT c3];exact ⟨_,_,rfl,fun h=>by cases h⟩
 rw [ifF c3];by_cases c4:fdG (G0 v2 v6 v9) (len v9) 0<0;rotate_left
 ·rw [ifF c4];exact ⟨_,_,rfl,fun h=>by cases h⟩
 rw [ifT c4];exact ⟨_,_,rfl,fun _=>⟨by simp,by simp,by omega,c2,by omega,c4⟩⟩
theorem VA (h:rok v0 v1 v2 v3=true):len v2≤4∧∀j:Nat,j<len v2→nm (cl v2 j 0)=true∧1≤(cl v2 j 1).toInt∧(cl v2 j 1).toInt≤1000:=by
 unfold rok at h;simp only [B1] at h;obtain ⟨_,h,_,_⟩:=h;unfold Rw at h;by_cases c:4<(len v2:Int)
 ·rw [ifT c] at h;cases h
 rw [ifF c] at h;refine ⟨by omega,fun j d=>?_⟩
 have n:=Dq (p:=Q3 v2) (k:=len v2) (i:=0) (j:=j) (by omega) (.inr ⟨dT h,by omega⟩)
 unfold Q3 at n;simp only [K1,Bool.not_eq_false'] at n;have a:=dF n.1.2;have b:=dF n.2;exact ⟨n.1.1.1,by omega,by omega⟩
structure OkA (v0 v1 v2 v3 v4 v5 v6 v7 v8 v9 aB aA:D):Prop where
 r1:rok v0 v1 v2 v3=true
 r2:rok v4 v5 v6 v7=true
 l8:len v8≤24
 p:fdG (GZ v1 v5 v8) (len v8) 0<0
 l9:len v9≤4
 q:fdG (G0 v2 v6 v9) (len v9) 0<0
 is:isC v1 v2 aB aA=true
 st:0≤fd v8 aB
 rg:fdG (Gj v2 v6 v9 aA) (len v9) 0<0
theorem j2 (h:isC v1 v2 aB aA=true):0≤fd v1 aB∧len aA=len v2∧∀j:Nat,j<len v2→0≤kv aA j∧kv aA j≤(cl v2 j 1).toInt:=by
 unfold isC at h;simp only [B1,X9] at h;obtain ⟨i1,i2,i3⟩:=h;have i1:=dF i1;have i2:=dT i2;have i3:=dT i3;refine ⟨by omega,by omega,fun j c=>?_⟩
 have n:=Dq (p:=Qm v2 aA) (k:=len aA) (i:=0) (j:=j) (by omega) (.inr ⟨i3,by omega⟩)
 unfold Qm at n;simp only [K1] at n;have a:=dF n.1;have b:=dF n.2;unfold kv;rw [if_pos (by omega)]
 exact ⟨by omega,by omega⟩
theorem Jy {l a b:D} (h:D.strEq a b=true):fd l a=fd l b:=by
 unfold fd;refine Cu fun j _ _=>?_
 show D.strEq (cl l j 0) a=D.strEq (cl l j 0) b;rw [AM,EG h,AM]
theorem XR {n a b c d:Int} {v5 v6 v7 v8:D} (h0:0≤n) (hn:n<len v6) (g:len v7≤4):∃L,EO (.int n) (.int a) (.int b) (.int c) (.int d) v5 v6 v7 v8=.row [.int 1,cl v6 n 0,L]∧len L=len v7∧∀j:Nat,j<len v7→cl L j 0=.int (if j=0 then a else if j=1 then b else if j=2 then c else d):=by
 have E:=gJ n a b c d v5 v6 v7 v8;rw [ifF (show ¬n<0 by omega),ifT hn] at E
 by_cases f:(len v7:Int)=0
 ·rw [ifT f] at E;exact ⟨_,E,by rw [Bv];omega,fun j e=>by omega⟩
 rw [ifF f] at E;by_cases n1:(len v7:Int)=1
 ·rw [ifT n1] at E
  exact ⟨_,E,by rw [AJ,Bv];omega,fun j e=>by
   match j with
   |0=>rfl
   |j+1=>omega⟩
 rw [ifF n1] at E;by_cases n2:(len v7:Int)=2
 ·rw [ifT n2] at E
  exact ⟨_,E,by rw [AJ,AJ,Bv];omega,fun j e=>by
   match j with
   |0=>rfl
   |1=>rfl
   |j+2=>omega⟩
 rw [ifF n2] at E;by_cases n3:(len v7:Int)=3
 ·rw [ifT n3] at E
  exact ⟨_,E,by rw [AJ,AJ,AJ,Bv];omega,fun j e=>by
   match j with
   |0=>rfl
   |1=>rfl
   |2=>rfl
   |j+3=>omega⟩
 rw [ifF n3,ifT (by omega)] at E
 exact ⟨_,E,by rw [AJ,AJ,AJ,AJ,Bv];omega,fun j e=>by
   match j with
   |0=>rfl
   |1=>rfl
   |2=>rfl
   |3=>rfl
   |j+4=>omega⟩
theorem Si (hs:CJ v3) (hs7:CJ v7) (hp:Hq v9) (B:Rq aA) (r:len v1<1000) (s:len v2<1000) (t:len v3<1000) (u:len v5<1000) (v:len v6<1000) (w:len v7<1000) (x:len v8<1000) (y:len v9<1000) :
  ∃S L e,Ar v0 v1 v2 v3 v4 v5 v6 v7 v8 v9 aB aA=.row [.int 1,S,L,.int e]∧(e=0→OkA v0 v1 v2 v3 v4 v5 v6 v7 v8 v9 aB aA)∧
   (OkA v0 v1 v2 v3 v4 v5 v6 v7 v8 v9 aB aA→e=0∧S=cl v5 (fd v5 (cl v8 (fd v8 aB) 1)) 0∧len L=len v6∧∀j:Nat,j<len v6→cl L j 0=.int (vs v2 v6 v9 aA j (len v9))):=by
 have E:=Vs (h0:=rfl) (h1:=rfl) v0 v1 v2 v3 v4 v5 v6 v7 v8 v9 aB aA;obtain ⟨a,e,m,C⟩:=J2 v0 v1 v2 v3 v4 v5 v6 v7 v8 v9;have o:=(Qe (v0:=v0) (v1:=v1) (v2:=v2) (v3:=v3) (v4:=v4) (v5:=v5) (v6:=v6) (v7:=v7) (v8:=v8) (v9:=v9) hs hs7 r s t u v w x y).trans m;have f:=YE (v0:=v0) (v1:=v1) (v2:=v2) (v3:=v3) (aB:=aB) (aA:=aA) B r s;by_cases c:e=0;rotate_left
 ·simp only [o,Az,Ay,Ao,Ap,B5,B4,c,j0,E9] at E;refine ⟨_,_,_,E,fun h=>absurd h c,fun h=>?_⟩
  rw [Yh h.r1 h.r2 h.l8 h.p h.l9 h.q] at m;injection m with m
  injection m with _ m
  injection m with _ m
  injection m with m
  injection m with m
  exact absurd m.symm c
 obtain ⟨r1,r2,l8,p,l9,q⟩:=C c;subst c;cases hi:isC v1 v2 aB aA
 ·rw [hi] at f;simp only [E9] at f;simp only [o,f,Az,Ay,Ao,Ap,B5,B4,E9] at E;refine ⟨_,_,_,E,fun h=>(by cases h),fun h=>?_⟩
  rw [h.is] at hi;cases hi
 rw [hi] at f;simp only [B4] at f;obtain ⟨F,_⟩:=VA r1;obtain ⟨A,lim⟩:=VA r2;obtain ⟨i1,i2,i3⟩:=j2 hi
 have Q:∀i,i<len v9→0≤pl v6 v9 i:=fun i h=>by
  have n:=Dq (p:=G0 v2 v6 v9) (k:=len v9) (i:=0) (j:=i) (by omega) (.inr ⟨q,by omega⟩)
  unfold G0 at n;simp only [K1] at n;exact Int.not_lt.1 (dF n.1)
 have G:=Da (l:=v1) (key:=aB);have z:((fd v1 aB).toNat:Int)=fd v1 aB:=by omega
 have g:=Yr (v0:=v0) (v1:=v1) (v2:=v2) (v3:=v3) (v4:=v4) (v5:=v5) (v6:=v6) (v7:=v7) (v8:=v8) (v9:=v9) (aA:=aA) (st:=(fd v1 aB).toNat) hp (by omega) (by omega) (by omega) F A (by omega) Q
 rw [z,Jy (Oi i1)] at g;by_cases d1:fd v8 aB<0
 ·rw [ifT d1] at g;simp only [o,f,g,Az,Ay,Ao,Ap,B5,B4,E9,Int.reduceEq,j0] at E;exact ⟨_,_,_,E,fun h=>(by cases h),fun h=>absurd h.st (by omega)⟩
 rw [ifF d1] at g;by_cases d2:fdG (Gj v2 v6 v9 aA) (len v9) 0<0;rotate_left
 ·rw [ifF d2] at g;simp only [o,f,g,Az,Ay,Ao,Ap,B5,B4,E9,Int.reduceEq,j0] at E;exact ⟨_,_,_,E,fun h=>(by cases h),fun h=>absurd h.rg d2⟩
 rw [ifT d2] at g
 have H:0≤fd v5 (cl v8 (fd v8 aB) 1):=by
  have I:=Da (l:=v8) (key:=aB);have J:(((fd v8 aB).toNat:Nat):Int)=fd v8 aB:=by omega
  have n:=Dq (p:=GZ v1 v5 v8) (k:=len v8) (i:=0) (j:=(fd v8 aB).toNat) (by omega) (.inr ⟨p,by omega⟩)
  unfold GZ at n;simp only [K1] at n;have n:=dF n.2.1;rw [J] at n;omega
 have l5:=Da (l:=v5) (key:=cl v8 (fd v8 aB) 1);simp only [o,f,g,Az,Ay,Ao,Ap,B5,B4,E9,Int.reduceEq,j0] at E;have ok:OkA v0 v1 v2 v3 v4 v5 v6 v7 v8 v9 aB aA:=⟨r1,r2,l8,p,l9,q,hi,by omega,d2⟩
 obtain ⟨L,q,K,M⟩:=XR (v5:=v4) (v6:=v5) (v7:=v6) (v8:=v7) (a:=vs v2 v6 v9 aA 0 (len v9)) (b:=vs v2 v6 v9 aA 1 (len v9)) (c:=vs v2 v6 v9 aA 2 (len v9)) (d:=vs v2 v6 v9 aA 3 (len v9)) H l5 A;simp only [q,Az,Ay,Ao,B5,B4] at E;refine ⟨_,_,_,E,fun _=>ok,fun _=>⟨rfl,rfl,K,fun j N=>?_⟩⟩
 rw [M j N]
 match j with
 |0=>rfl
 |1=>rfl
 |2=>rfl
 |3=>rfl
 |j+4=>omega
end
end Ug
namespace Ug
open Go Go.AE
structure Cf (S C:D) (k:Key) (t x:D):Prop where
 t:D.strEq (cl S k.1 0) t=true
 l:len x=len C
 v:∀j:Nat,j<len C→cl x j 0=.int (kc k j)
 w:Wd x 1
section
variable [Ai]
variable {S C T v0:D}
theorem Cf.num {k:Key} {t x:D} (h:Cf S C k t x):Rq x:=fun i hi=>⟨_,h.v i (by rw [←h.l];exact hi)⟩
theorem Cf.fd (hR:Rk S C T) {k:Key} (j:KOk S C k) {t x:D} (h:Cf S C k t x):fd S t=k.1:=by
 have s0:=j.s0;have s1:=j.s1;have i1:=hR.sid k.1.toNat (by omega)
 rw [show ((k.1.toNat:Nat):Int)=k.1 by omega] at i1
 rw [←Jy h.t,i1]
theorem Cf.kv {k:Key} (r:KOk S C k) {t x:D} (h:Cf S C k t x) (j:Nat):Ug.kv x j=kc k j:=by
 by_cases c:j<len C
 ·unfold Ug.kv;rw [if_pos (by rw [h.l];exact c),h.v j c]
  rfl
 ·rw [Hx (by rw [h.l];omega),r.v1 j (by omega)]
theorem Cf.is (hR:Rk S C T) {k:Key} (r:KOk S C k) {t x:D} (h:Cf S C k t x):isC S C t x=true:=by
 unfold isC;have s0:=r.s0
 have A:fdG (Qm C x) (len x) 0<0:=by
  rw [GG (fun j _ I=>by
   have v:=r.v0 j (by rw [←h.l];omega)
   unfold Qm;rw [h.v j (by rw [←h.l];omega),Ao,F1 (by omega),F1 (by omega)]
   rfl)]
  omega
 rw [h.fd hR r,F1 (by omega),h.l,F6 rfl]
 rw [h.l] at A;rw [F6 A];rfl
theorem Hc (hR:Rk S C T) {k:Key} (a:KOk S C k) {t x:D} (h:Cf S C k t x):C5 v0 S C T t x=.row [.int 1,.int k.1,.int k.2.1,.int k.2.2.1,.int k.2.2.2.1,.int k.2.2.2.2,.bool true]:=by
 have b:=hR.c1;have s1:=hR.s1;rw [YE h.num (by omega) (by omega),h.is hR a,B4,h.fd hR a,h.kv a 0,h.kv a 1,h.kv a 2,h.kv a 3]
 rfl
theorem KN (hR:Rk S C T) (ok:rok v0 S C T=true) {k:Key} (b:KOk S C k) {t x:D} (h:Cf S C k t x):Id v0 S C T t x=.row [.int 1,CV (enl S C T k),.bool (enl S C T k).isEmpty,.int 0]:=by
 have c:=hR.c1;have s1:=hR.s1;have t1:=hR.t1;obtain ⟨a,q⟩:=JZ (v1:=S) (v2:=C) (v3:=T) hR.tI (by omega) (by omega) (by omega) v0
 rw [←Hw] at ok;rw [qW,q,Hc hR b h];simp only [A5,AX,tI,Ap,B5,B4];rw [ok,NM hR b v0];simp only [A5,AX,tI,Ap,B5,B4]
end
end Ug
namespace Ug
open Go Go.AE
section
variable [Ai]
variable {S C T v0:D}
theorem kE {L:List Nat} {s:Nat} {b:Bool} (hl:L.length<100000) (hs:s∈L):∃i:Nat,U1 (CV L) (.bool b) (.int (s:Nat))=.row [.int 1,.int (i:Nat)]:=by
 rw [wV]
 have H:∀(rem pre:List Nat),L=pre++rem→s∈rem→∃i:Nat,Va (CV L) (.bool b) (.int (s:Nat)) (.int (pre.length:Nat))=.row [.int 1,.int (i:Nat)]:=by
  intro rem
  induction rem with
  |nil=>intro pre _ h;cases h
  |cons a rem d=>
   intro pre e h;have f:L[pre.length]?=some a:=by rw [e];simp
   have g:pre.length<L.length:=by rw [e];simp
   rw [uf,C8,ifT (by omega),ifF (by omega),GB f,Ao]
   by_cases c:s=a
   ·rw [ifT (by omega)]
    exact ⟨_,rfl⟩
   ·rw [ifF (by omega),AR (by omega)]
    have:=d (pre++[a]) (by rw [e];simp) (by
     rcases F5.1 h with q|q
     ·exact absurd q c
     ·exact q)
    rw [show (pre++[a]).length=pre.length+1 by simp] at this
    exact this
 exact H L [] rfl hs
theorem GM (hR:Rk S C T) {k:Key} (b:KOk S C k):∃x,EO (.int k.1) (.int k.2.1) (.int k.2.2.1) (.int k.2.2.2.1) (.int k.2.2.2.2) v0 S C T=.row [.int 1,cl S k.1 0,x]∧Cf S C k (cl S k.1 0) x:=by
 have e:=hR.c1;have s0:=b.s0;have s1:=b.s1;rw [gJ,ifF (by omega),ifT (by omega)]
 by_cases c:(len C:Int)=0
 ·rw [ifT c];exact ⟨_,rfl,BS,by rw [Bv];omega,fun j a=>by omega,EJ⟩
 rw [ifF c];by_cases n1:(len C:Int)=1
 ·rw [ifT n1];refine ⟨_,rfl,BS,by rw [AJ,Bv];omega,fun j a=>?_,Fe EJ rfl⟩
  match j with
  |0=>rfl
  |j+1=>omega
 rw [ifF n1];by_cases n2:(len C:Int)=2
 ·rw [ifT n2];refine ⟨_,rfl,BS,by rw [AJ,AJ,Bv];omega,fun j a=>?_,Fe (Fe EJ rfl) rfl⟩
  match j with
  |0=>rfl
  |1=>rfl
  |j+2=>omega
 rw [ifF n2];by_cases n3:(len C:Int)=3
 ·rw [ifT n3];refine ⟨_,rfl,BS,by rw [AJ,AJ,AJ,Bv];omega,fun j a=>?_,Fe (Fe (Fe EJ rfl) rfl) rfl⟩
  match j with
  |0=>rfl
  |1=>rfl
  |2=>rfl
  |j+3=>omega
 rw [ifF n3];have d:(len C:Int)=4:=by omega
 rw [ifT d];refine ⟨_,rfl,BS,by rw [AJ,AJ,AJ,AJ,Bv];omega,fun j a=>?_,Fe (Fe (Fe (Fe EJ rfl) rfl) rfl) rfl⟩
 match j with
 |0=>rfl
 |1=>rfl
 |2=>rfl
 |3=>rfl
 |j+4=>omega
theorem Zu (hR:Rk S C T) (ok:rok v0 S C T=true) {k:Key} (a:KOk S C k) {t x:D} (h:Cf S C k t x) {s:Nat} (hs:s∈enl S C T k):∃e d,L6 v0 S C T t x (.int (s:Nat))=.row [.int 1,e,d,.int 0]∧Cf S C (nx S C T k s) e d:=by
 have c:=Gp hs;have t1:=hR.t1;have el:=Gz (S:=S) (C:=C) (T:=T) (k:=k);obtain ⟨i,q⟩:=kE (b:=(enl S C T k).isEmpty) (by omega) hs
 obtain ⟨d,f,g⟩:=GM (v0:=v0) hR (Ow hR a c.1 c.2);refine ⟨_,_,?_,g⟩;rw [pk (h0:=rfl) (h1:=rfl),KN hR ok a h,Hc hR a h];simp only [A5,AX,tI,Ap,B5,B4];rw [q,P5 hR a c.1 c.2 v0];unfold FT;simp only [A5,AX,tI,Ap,B5,B4];rw [ifF (by omega),f]
 simp only [A5,AX,tI,Ap,B5,B4]
end
end Ug
namespace Ug
open Go Go.AE
structure Tr (w:List Nat) (d:D):Prop where
 l:len d=w.length
 c:∀(i s:Nat),w[i]?=some s→cl d i 0=.int (s:Nat)
 n:d.isNil=true→w=[]
abbrev Q:=Key×List Nat
def Ff (qs:List Q):List Key:=qs.map (·.1)
theorem MZ {a:List Q}:(Ff a).length=a.length:=by simp [Ff]
theorem bT {a:List Q} {i:Nat} {q:Q} (h:a[i]?=some q):(Ff a)[i]?=some q.1:=by simp [Ff,h]
def HI (S C:D) (qs:List Q):Prop:=∀q∈qs,KOk S C q.1
theorem Cf.key [Ai] {S C T:D} (hR:Rk S C T) {k I:Key} {t x t' x':D} (hk:KOk S C k) (r:KOk S C I) (h:Cf S C k t x) (h':Cf S C I t' x'):(D.strEq t t'=true∧∀j:Nat,j<len C→(cl x j 0).toInt=(cl x' j 0).toInt)↔k=I:=by
 have hc:=hR.c1;constructor
 ·rintro ⟨e,v⟩
  refine eG ?_ fun j J=>?_
  ·rw [←h.fd hR hk,←h'.fd hR r,Jy e]
  ·by_cases c:j<len C
   ·have:=v j c;rw [h.v j c,h'.v j c] at this;exact this
   ·rw [hk.v1 j (by omega),r.v1 j (by omega)]
 ·rintro rfl
  refine ⟨?_,fun j J=>by rw [h.v j J,h'.v j J]⟩
  have a:=h.t;rw [AM] at a;exact Gl a h'.t
section
variable [Ai]
variable {S C T v0:D}
theorem Pr {F:Nat→D} {x x':D} {n:Nat} (hs:∀i,i<n→F i=cond (decide ((cl x i 0).toInt=(cl x' i 0).toInt)) (F (i+1)) (.row [.int 1,.bool false])) (a:F n=.row [.int 1,.bool true]):∃b,F 0=.row [.int 1,.bool b]∧(b=true↔∀j:Nat,j<n→(cl x j 0).toInt=(cl x' j 0).toInt):=by
 have L:=Jo (F:=F) (n:=n) (bad:=fun i=>!decide ((cl x i 0).toInt=(cl x' i 0).toInt)) (B:=fun _=>.row [.int 1,.bool false]) (fun i hi=>by
  rw [hs i hi];cases decide ((cl x i 0).toInt=(cl x' i 0).toInt)<;>rfl)
 rw [a] at L;by_cases q:fdG (fun i=>!decide ((cl x i 0).toInt=(cl x' i 0).toInt)) n 0<0
 ·rw [ifT q] at L;refine ⟨true,L,fun _ j c=>?_,fun _=>rfl⟩
  have w:=Dq (p:=fun i=>!decide ((cl x i 0).toInt=(cl x' i 0).toInt)) (k:=n) (i:=0) (j:=j) (by omega) (.inr ⟨q,by omega⟩)
  simpa using w
 ·rw [ifF q] at L;refine ⟨false,L,fun h=>(by cases h),fun h=>?_⟩
  have is:=IF (p:=fun i=>!decide ((cl x i 0).toInt=(cl x' i 0).toInt)) (k:=n) (i:=0) (by omega)
  have lt:=Eo (p:=fun i=>!decide ((cl x i 0).toInt=(cl x' i 0).toInt)) (k:=n) (i:=0)
  have w:=h (fdG (fun i=>!decide ((cl x i 0).toInt=(cl x' i 0).toInt)) n 0).toNat (by omega)
  rw [F6 w] at is;cases is
theorem iO {x a:D} {n:Nat} (h:len x=n) (h':len a=n) (hn:n<1000):∃b,VZ x a=.row [.int 1,.bool b]∧(b=true↔∀j:Nat,j<n→(cl x j 0).toInt=(cl a j 0).toInt):=by
 rw [wu,h,h',ifT rfl];refine Pr (F:=fun i=>OR x a (.int (i:Nat))) (fun i hi=>?_) ?_
 ·show OR x a (.int (i:Nat))=cond _ (OR x a (.int (i+1:Nat))) _;rw [gd,h,h',ifT (by omega),ifF (by omega),ifT (by omega),AR (by omega)]
 ·rw [gd,h,ifF (by omega)]
theorem ki (hR:Rk S C T) {k c:Key} {t x a x':D} (f:KOk S C k) (d:KOk S C c) (h:Cf S C k t x) (h':Cf S C c a x'):U7 t x a x'=.row [.int 1,.bool (decide (k=c))]:=by
 have j:=hR.c1;have key:=Cf.key hR f d h h';rw [xS];cases e:D.strEq t a
 ·rw [E9,F1 (fun q=>by rw [←key,e] at q;cases q.1)]
 rw [B4,h.l,h'.l,ifT rfl]
 obtain ⟨b,q,g⟩:=Pr (F:=fun i=>Kz (.int (i:Nat)) t x a x') (x:=x) (x':=x') (n:=len C) (fun i hi=>by
  show Kz (.int (i:Nat)) t x a x'=cond _ (Kz (.int (i+1:Nat)) t x a x') _;rw [gX,h.l,h'.l,ifT (by omega),ifF (by omega),ifT (by omega),AR (by omega)]) (by
  show Kz (.int (len C:Nat)) t x a x'=_;rw [gX,h.l,ifF (by omega)])
 refine (show Kz (.int 0) t x a x'=_ from q).trans ?_
 have:b=decide (k=c):=by
  rw [Bool.eq_iff_iff,g,F4,←key];simp [e]
 rw [this]
end
end Ug
namespace Ug
open Go Go.AE
structure RL (S C:D) (qs:List Q) (d:D):Prop where
 l:len d=qs.length
 c:∀(i:Nat) (q:Q),qs[i]?=some q→Cf S C q.1 (cl d i 0) (cl d i 1)
structure RT (qs:List Q) (d:D) (col:Nat):Prop where
 l:len d=qs.length
 c:∀(i:Nat) (q:Q),qs[i]?=some q→Tr q.2 (cl d i col)
section
variable [Ai]
variable {S C T v0:D}
theorem tZ {F:Nat→D} {qs:List Q} {k:Key} (hs:∀i (q:Q),qs[i]?=some q→F i=cond (decide (q.1=k)) (.row [.int 1,.int (i:Nat)]) (F (i+1))) (c:F qs.length=.row [.int 1,.int (-1)]):∃m:Int,F 0=.row [.int 1,.int m]∧(0≤m↔k∈Ff qs)∧m<qs.length:=by
 have L:=Jo (F:=F) (n:=qs.length) (bad:=fun i=>decide ((Ff qs)[i]?=some k)) (B:=fun i=>.row [.int 1,.int (i:Nat)]) (fun i hi=>by
  have b:qs[i]?=some qs[i]:=E1 hi;rw [hs i _ b]
  congr 1
  rw [bT b];simp)
 rw [c] at L;by_cases q:fdG (fun i=>decide ((Ff qs)[i]?=some k)) qs.length 0<0
 ·rw [ifT q] at L;refine ⟨-1,L,⟨fun h=>by omega,fun h=>?_⟩,by omega⟩
  obtain ⟨j,a,e⟩:=X0 h;have n:=Dq (p:=fun i=>decide ((Ff qs)[i]?=some k)) (k:=qs.length) (i:=0) (j:=j) (by rw [MZ] at a;omega) (.inr ⟨q,by rw [MZ] at a;omega⟩)
  rw [E1 a,e] at n;simp at n
 ·rw [ifF q] at L;have is:=IF (p:=fun i=>decide ((Ff qs)[i]?=some k)) (k:=qs.length) (i:=0) (by omega)
  have lt:=Eo (p:=fun i=>decide ((Ff qs)[i]?=some k)) (k:=qs.length) (i:=0)
  exact ⟨_,L,⟨fun _=>Nn (dT is),fun _=>by omega⟩,by omega⟩
theorem jf (hR:Rk S C T) {qs:List Q} {k:Key} {d t x:D} {b:Bool} (hl:qs.length<100000) (o:HI S C qs) (p:KOk S C k) (h:RL S C qs d) (g:Cf S C k t x):Ws d (.bool b) t x=.row [.int 1,.bool (decide (k∈Ff qs))]:=by
 have s:=hR.c1
 obtain ⟨m,q,j,_⟩:=tZ (F:=fun i=>JF d (.bool b) (.int (i:Nat)) t x) (qs:=qs) (k:=k) (fun i q f=>by
  have hi:i<qs.length:=by
   rcases F8 i qs.length with c|c
   ·exact c
   ·rw [E4 c] at f;cases f
  have a:=h.c i q f;have key:=Cf.key hR (o q (Nn f)) p a g;obtain ⟨c,e,r⟩:=iO a.l g.l (by omega)
  show JF d (.bool b) (.int (i:Nat)) t x=cond _ _ (JF d (.bool b) (.int (i+1:Nat)) t x);rw [gV,h.l,ifT (by omega),ifF (by omega),e,AR (by omega)]
  simp only [A5,AX,tI,Ap,B5,B4];cases n:D.strEq (cl d i 0) t
  ·rw [E9,F1 (fun y=>by rw [←key,n] at y;cases y.1)]
   rfl
  ·rw [B4]
   congr 1
   rw [Bool.eq_iff_iff,r,F4,←key];simp [n]) (by
  show JF d (.bool b) (.int (qs.length:Nat)) t x=_;rw [gV,h.l,ifF (by omega)])
 rw [ui,wg,show JF d (.bool b) (.int 0) t x=_ from q]
 simp only [A5,AX,tI,Ap,B5,B4]
 congr 3
 by_cases c:m<0
 ·rw [F6 c,F1 (fun y=>by have:=j.2 y;omega)]
  rfl
 ·rw [F1 c,F6 (j.1 (by omega))]
  rfl
end
end Ug
namespace Ug
open Go Go.AE
def Ki (a:List Q) (q:Q):List Q:=if q.1∈Ff a then a else a++[q]
theorem Qz {a:List Q} {q:Q}:a.length≤(Ki a q).length:=by
 unfold Ki;split
 ·omega
 ·simp
def CO (S C T:D) (q:Q) (qs:List Q) (l:List Nat):List Q:=l.foldl (fun qs s=>Ki qs (nx S C T q.1 s,q.2++[s])) qs
theorem FS {S C T:D} {q:Q} {a:List Q} {s:Nat} {l:List Nat}:CO S C T q a (s::l)=CO S C T q (Ki a (nx S C T q.1 s,q.2++[s])) l:=rfl
theorem Jw {S C T:D} {q:Q}:∀{l:List Nat} {qs:List Q},qs.length≤(CO S C T q qs l).length
 |[],qs=>C1 _
 |s::l,qs=>hY Qz (Jw (l:=l))
def WOk (qs:List Q):Prop:=∀(i:Nat) (q:Q),qs[i]?=some q→q.2.length≤i
theorem Ju {e:Type} {a:List e} {q b:e} {i:Nat} (h:(a++[q])[i]?=some b):(i<a.length∧a[i]?=some b)∨(i=a.length∧b=q):=by
 by_cases c:i<a.length
 ·rw [Ea c] at h;exact .inl ⟨c,h⟩
 ·right
  have d:i<(a++[q]).length:=by
   rcases F8 i (a++[q]).length with z|z
   ·exact z
   ·rw [E4 z] at h;cases h
  simp at d;have:i=a.length:=by omega
  subst this;simp at h;exact ⟨rfl,h.symm⟩
theorem WOk.ad {qs:List Q} {q:Q} (h:WOk qs) (r:q.2.length≤qs.length):WOk (qs++[q]):=fun i j hi=>by
 rcases Ju hi with ⟨_,e⟩|⟨e,rfl⟩
 ·exact h i j e
 ·omega
theorem HI.ad {S C:D} {qs:List Q} {q:Q} (h:HI S C qs) (j:KOk S C q.1):HI S C (qs++[q]):=fun y r=>by
 rcases eq.1 r with z|z
 ·exact h y z
 ·rw [Ts.1 z];exact j
theorem RL.ad {S C:D} {qs:List Q} {d:D} {r:List D} {q:Q} (h:RL S C qs d) (j:Cf S C q.1 (sl (.row r) 0) (sl (.row r) 1)):RL S C (qs++[q]) (ad d (.row r)):=by
 refine ⟨by rw [AJ,h.l];simp,fun i I hi=>?_⟩
 rw [Cy (by omega),Cy (by omega),h.l]
 rcases Ju hi with ⟨c,e⟩|⟨rfl,rfl⟩
 ·rw [if_neg (by omega),if_neg (by omega)]
  exact h.c i I e
 ·rw [if_pos rfl,if_pos rfl];exact j
theorem RT.ad {qs:List Q} {d:D} {r:List D} {j:Nat} {q:Q} (h:RT qs d j) (C:Tr q.2 (sl (.row r) j)):RT (qs++[q]) (ad d (.row r)) j:=by
 refine ⟨by rw [AJ,h.l];simp,fun i I hi=>?_⟩
 rw [Cy (by omega),h.l]
 rcases Ju hi with ⟨c,e⟩|⟨rfl,rfl⟩
 ·rw [if_neg (by omega)]
  exact h.c i I e
 ·rw [if_pos rfl];exact C
theorem Tr.ad {w:List Nat} {d x e:D} {s:Nat} (h:Tr w d) (hl:len x=w.length) (j:∀i:Nat,i<w.length→cl x i 0=cl d i 0) (r:e=.int (s:Nat)):Tr (w++[s]) (ad x (.row [e])):=by
 subst r;refine ⟨by rw [AJ,hl];simp,fun i C hi=>?_,fun q=>by cases (show false=true from q)⟩
 rw [Cy (by omega),hl]
 rcases Ju hi with ⟨c,e⟩|⟨rfl,rfl⟩
 ·rw [if_neg (by omega),j i c]
  exact h.c i C e
 ·rw [if_pos rfl];rfl
theorem Tr.ni {w:List Nat} {d:D} (h:Tr w d):Tr w (Go.AE.ni d false):=⟨h.l,h.c,fun q=>by cases (show false=true from q)⟩
theorem Kp {b:Type} {l:List b} {i:Nat} {a:b} (h:l[i]?=some a):i<l.length:=by
 rcases F8 i l.length with q|q
 ·exact q
 ·rw [E4 q] at h;cases h
section
variable [Ai]
variable {S C T v0 w8 w9 w11 w13 w15 w19 w21 w23 w24 w25 w27 w28 w30 n0 n1 n2 n3 c0 c1:D} {b10 b12 b14 b16 b18 b20 b22 b29:Bool} {n17 n26:Int}
theorem T9 (hR:Rk S C T) (ok:rok v0 S C T=true) {q:Q} (A:KOk S C q.1) {i:Nat} {L:List Nat} {fl:Bool} {fnd:Int} (B:∀s∈L,s∈enl S C T q.1) (r:L.length≤20):∀(rem pre:List Nat) (qs:List Q) (d:D) (b:Bool),L=pre++rem→HI S C qs→WOk qs→RL S C qs d→RT qs d 2→qs.length≤2000→qs[i]?=some q→
  (2000<(CO S C T q qs rem).length∧G9 d (.bool b) (.int fnd) (.int (i:Nat)) (CV L) (.bool fl) (.int (L.length:Nat)) (.int (pre.length:Nat)) w8 w9 (.bool b10) w11 (.bool b12) w13 (.bool b14) w15 (.bool b16) (.int n17) (.bool b18) w19 (.bool b20) w21 (.bool b22) w23 w24 w25 (.int n26) w27 w28 (.bool b29) w30 n0 n1 n2 n3 c0 c1 v0 S C T=.row [.int 1,.int 7,w23,w24,w25])∨
  ((CO S C T q qs rem).length≤2000∧∃F P,HI S C (CO S C T q qs rem)∧WOk (CO S C T q qs rem)∧RL S C (CO S C T q qs rem) F∧RT (CO S C T q qs rem) F 2∧G9 d (.bool b) (.int fnd) (.int (i:Nat)) (CV L) (.bool fl) (.int (L.length:Nat)) (.int (pre.length:Nat)) w8 w9 (.bool b10) w11 (.bool b12) w13 (.bool b14) w15 (.bool b16) (.int n17) (.bool b18) w19 (.bool b20) w21 (.bool b22) w23 w24 w25 (.int n26) w27 w28 (.bool b29) w30 n0 n1 n2 n3 c0 c1 v0 S C T=Ie F (.bool P) (.int fnd) (.int (i+1:Nat)) w8 w9 (.bool b10) w11 (.bool b12) w13 (.bool b14) w15 (.bool b16) (.int n17) (.bool b18) w19 (.bool b20) w21 (.bool b22) w23 w24 w25 (.int n26) w27 w28 (.bool b29) w30 n0 n1 n2 n3 c0 c1 v0 S C T)
 |[],pre,qs,d,b=>fun e t u f v hl hi=>by
  right;have w:=Kp hi;refine ⟨hl,d,b,t,u,f,v,?_⟩;rw [ga (h0:=rfl),e];simp only [i0];rw [iF (by omega),AR (by omega)]
 |s::rem,pre,qs,d,b=>fun e t u f v hl hi=>by
  have hc:=hR.c1;have w:=Kp hi;have R:pre.length<L.length:=by rw [e];simp
  have U:L[pre.length]?=some s:=by rw [e];simp
  have hs:=B s (by rw [e];simp)
  have K:=Gp hs;have V:=f.c i q hi;have a:=v.c i q hi;have X:=u i q hi;obtain ⟨Y,Z,E,y⟩:=Zu hR ok A V hs;have M:=Ow hR A K.1 K.2;have k:=f.l;have o:=a.l;have N:L=(pre++[s])++rem:=by rw [e];simp
  have z:(pre++[s]).length=pre.length+1:=by simp
  rw [FS];have p:2000<(Ki qs (nx S C T q.1 s,q.2++[s])).length→2000<(CO S C T q (Ki qs (nx S C T q.1 s,q.2++[s])) rem).length:=fun h=>ge h Jw
  rw [ga (h0:=rfl),ifT (by omega),ifF (by omega),C8,ifT (by omega),ifF (by omega),k,ifT (by omega),GB U,E]
  simp only [A5,AX,tI,Ap,B5,B4];rw [jf hR (by omega) t M f y]
  simp only [A5,AX,tI,Ap,B5,B4];by_cases m:nx S C T q.1 s∈Ff qs
  ·have G:Ki qs (nx S C T q.1 s,q.2++[s])=qs:=if_pos m;rw [cT (F6 m),iF (by omega),AR (by omega),G]
   have O:=T9 hR ok A (i:=i) (fl:=fl) (fnd:=fnd) B r rem (pre++[s]) qs d b N t u f v hl hi;rw [z] at O;exact O
  ·have G:Ki qs (nx S C T q.1 s,q.2++[s])=qs++[(nx S C T q.1 s,q.2++[s])]:=if_neg m;rw [G] at p ⊢;have lq:(qs++[(nx S C T q.1 s,q.2++[s])]).length=qs.length+1:=by simp
   have H:∀W:D,Tr (q.2++[s]) W→qs.length+1≤2000→_:=fun W hW I=>
    T9 hR ok A (i:=i) (fl:=fl) (fnd:=fnd) B r rem (pre++[s]) (qs++[(nx S C T q.1 s,q.2++[s])]) (ad d (.row [Y,Z,W])) false N (t.ad M) (u.ad (by simp;omega)) (f.ad y) (v.ad hW) (by rw [lq];exact I) (by rw [Ea w];exact hi)
   rw [z] at H;rw [cF (F1 m)];cases nn:(cl d i 2).isNil
   ·rw [E9,o,iT (by omega),iT (by rw [bO,Bv,o];omega),iT (by omega),AJ,k]
    by_cases g:2000<qs.length+1
    ·rw [iT (by omega)]
     exact .inl ⟨p (by omega),rfl⟩
    ·rw [iF (by omega),AR (by omega)]
     exact H _ (a.ad (x:=ct Aq (cl d i 2)) (by rw [bO,Bv,o];omega) (fun j J=>rfl) rfl).ni (by omega)
   ·have w0:=a.n nn;rw [B4,iT (by omega),AJ,k]
    by_cases g:2000<qs.length+1
    ·rw [iT (by omega)]
     exact .inl ⟨p (by omega),rfl⟩
    ·rw [iF (by omega),AR (by omega)]
     exact H _ (a.ad (x:=Aq) (by rw [w0];rfl) (fun j J=>by rw [w0] at J;cases J) rfl) (by omega)
end
end Ug
namespace Ug
open Go Go.AE
theorem Q1 {p:Nat→Bool}:∀{k i:Nat},fdG p (k+1) i=if fdG p k i<0 then (if p (i+k)=true then ((i+k:Nat):Int) else -1) else fdG p k i
 |0,i=>by
  show cond (p i) (i:Int) (-1)=if (-1:Int)<0 then _ else _
  rw [if_pos (by omega)]
  cases h:p i<;>simp [h]
 |k+1,i=>by
  have a:=Q1 (p:=p) (k:=k) (i:=i+1);rw [fdG,a,show i+(k+1)=i+1+k by omega]
  show _=if cond (p i) (i:Int) (fdG p k (i+1))<0 then _ else cond (p i) (i:Int) (fdG p k (i+1))
  cases p i
  ·rfl
  ·simp only [B4];rw [if_neg (by omega)]
def apB (S C n2 c0 c1:D) (k:Key):Bool:=!decide (fd c0 (cl S k.1 0)<0)&&decide (fdG (Gj C n2 c1 (DD k (len C))) (len c1) 0<0)
structure Cv [Ai] (v0 S C T n0 n1 n2 n3 c0 c1:D):Prop where
 hs:CJ T
 hs7:CJ n3
 hp:Hq c1
 ln1:len n1<1000
 ln2:len n2<1000
 ln3:len n3<1000
 r1:rok v0 S C T=true
 r2:rok n0 n1 n2 n3=true
 l8:len c0≤24
 p:fdG (GZ S n1 c0) (len c0) 0<0
 l9:len c1≤4
 q:fdG (G0 C n2 c1) (len c1) 0<0
theorem ey [Ai] {S C:D} {k:Key} (a:KOk S C k) (j:Nat):kv (DD k (len C)) j=kc k j:=by
 unfold kv;rw [Hn];by_cases c:j<len C
 ·rw [if_pos c,GA _ _ c];rfl
 ·rw [if_neg c,a.v1 j (by omega)]
theorem T3 {C n2 c1 x a:D} (h:∀j,kv x j=kv a j) (i:Nat):Gj C n2 c1 x i=Gj C n2 c1 a i:=by
 unfold Gj pv;rw [h]
section
variable [Ai]
variable {S C T v0 w8 w9 w11 w13 w15 w19 w21 w23 w24 w25 w27 w28 w30 n0 n1 n2 n3 c0 c1:D} {b10 b12 b14 b16 b18 b20 b22 b29:Bool} {n17 n26:Int}
theorem rC (hR:Rk S C T) {k:Key} (a:KOk S C k) {t x:D} (h:Cf S C k t x):fdG (Gj C n2 c1 x) (len c1) 0=fdG (Gj C n2 c1 (DD k (len C))) (len c1) 0:=Cu fun j _ _=>T3 (fun j=>by rw [h.kv a,ey a]) j
theorem dp (hR:Rk S C T) {k:Key} (a:KOk S C k) {t x:D} (h:Cf S C k t x):apB S C n2 c0 c1 k=true↔(0≤fd c0 t∧fdG (Gj C n2 c1 x) (len c1) 0<0):=by
 rw [rC hR a h,←Jy h.t];unfold apB;simp only [B1,X9,L2,F4,Int.not_lt]
theorem PW (hR:Rk S C T) (hC:Cv v0 S C T n0 n1 n2 n3 c0 c1) {k:Key} (b:KOk S C k) {t x:D} (h:Cf S C k t x):∃a L e,Ar v0 S C T n0 n1 n2 n3 c0 c1 t x=.row [.int 1,a,L,.int e]∧(e=0↔apB S C n2 c0 c1 k=true):=by
 have f:=hR.c1;have s1:=hR.s1;have t1:=hR.t1;have l8:=hC.l8;have l9:=hC.l9;obtain ⟨a,L,e,q,c,d⟩:=Si (v0:=v0) (v1:=S) (v2:=C) (v3:=T) (v4:=n0) (v5:=n1) (v6:=n2) (v7:=n3) (v8:=c0) (v9:=c1) (aB:=t) (aA:=x) hC.hs hC.hs7 hC.hp h.num (by omega) (by omega) (by omega) hC.ln1 hC.ln2 hC.ln3 (by omega) (by omega)
 refine ⟨a,L,e,q,?_⟩;rw [dp hR b h];constructor
 ·intro z;have o:=c z;exact ⟨o.st,o.rg⟩
 ·rintro ⟨z1,z2⟩
  exact (d ⟨hC.r1,hC.r2,hC.l8,hC.p,hC.l9,hC.q,h.is hR b,z1,z2⟩).1
def Ch (S C T:D):Nat→List Q→Nat→List Q
 |0,qs,_=>qs
 |f+1,qs,i=>match qs[i]? with
  |some q=>Ch S C T f (CO S C T q qs (enl S C T q.1)) (i+1)
  |none=>qs
theorem Sd:∀{f:Nat} {qs:List Q} {i:Nat},qs.length≤(Ch S C T f qs i).length
 |0,qs,i=>C1 _
 |f+1,qs,i=>by
  rw [Ch];split
  ·exact hY Jw (Sd (f:=f))
  ·exact C1 _
theorem aL {a:List Q} {q:Q} {j:Nat} (h:j<a.length):(Ki a q)[j]?=a[j]?:=by
 unfold Ki;split
 ·rfl
 ·rw [Ea h]
theorem Mn {q:Q} {j:Nat}:∀{l:List Nat} {qs:List Q},j<qs.length→(CO S C T q qs l)[j]?=qs[j]?
 |[],qs,h=>rfl
 |s::l,qs,h=>by
  rw [FS,Mn (l:=l) (ge h Qz),aL h]
def pA (a:Key→Bool) (qs:List Q) (j:Nat):Bool:=match qs[j]? with
 |some q=>a q.1
 |none=>false
theorem Q4 (hR:Rk S C T) (hC:Cv v0 S C T n0 n1 n2 n3 c0 c1):∀{f i:Nat} {qs:List Q} {d:D} {b:Bool},i+f=2001→i≤qs.length→HI S C qs→WOk qs→RL S C qs d→RT qs d 2→qs.length≤2000→
  (2000<(Ch S C T f qs i).length∧Ie d (.bool b) (.int (fdG (pA (apB S C n2 c0 c1) qs) i 0)) (.int (i:Nat)) w8 w9 (.bool b10) w11 (.bool b12) w13 (.bool b14) w15 (.bool b16) (.int n17) (.bool b18) w19 (.bool b20) w21 (.bool b22) w23 w24 w25 (.int n26) w27 w28 (.bool b29) w30 n0 n1 n2 n3 c0 c1 v0 S C T=.row [.int 1,.int 7,w23,w24,w25])∨
  ((Ch S C T f qs i).length≤2000∧∃a m,HI S C (Ch S C T f qs i)∧RL S C (Ch S C T f qs i) a∧RT (Ch S C T f qs i) a 2∧Ie d (.bool b) (.int (fdG (pA (apB S C n2 c0 c1) qs) i 0)) (.int (i:Nat)) w8 w9 (.bool b10) w11 (.bool b12) w13 (.bool b14) w15 (.bool b16) (.int n17) (.bool b18) w19 (.bool b20) w21 (.bool b22) w23 w24 w25 (.int n26) w27 w28 (.bool b29) w30 n0 n1 n2 n3 c0 c1 v0 S C T=Ie a (.bool m) (.int (fdG (pA (apB S C n2 c0 c1) (Ch S C T f qs i)) (Ch S C T f qs i).length 0)) (.int ((Ch S C T f qs i).length:Nat)) w8 w9 (.bool b10) w11 (.bool b12) w13 (.bool b14) w15 (.bool b16) (.int n17) (.bool b18) w19 (.bool b20) w21 (.bool b22) w23 w24 w25 (.int n26) w27 w28 (.bool b29) w30 n0 n1 n2 n3 c0 c1 v0 S C T)
 |0,i,qs,d,b=>fun h hi n A g t hl=>by omega
 |f+1,i,qs,d,b=>fun h hi n A g t hl=>by
  by_cases c:i<qs.length;rotate_left
  ·right;have e:i=qs.length:=by omega
   have u:Ch S C T (f+1) qs i=qs:=by rw [Ch,E4 (by omega)]
   rw [u];exact ⟨hl,d,b,n,g,t,by rw [e]⟩
  have o:qs[i]?=some qs[i]:=E1 c;have v:=n _ (hH c);have B:=g.c i _ o;have H:=g.l;have u:Ch S C T (f+1) qs i=Ch S C T f (CO S C T qs[i] qs (enl S C T qs[i].1)) (i+1):=by rw [Ch,o]
  have I:=hR.t1;have el:=Gz (S:=S) (C:=C) (T:=T) (k:=qs[i].1);obtain ⟨O,L,e,J,E⟩:=PW hR hC v B;have rl:=Jw (S:=S) (C:=C) (T:=T) (q:=qs[i]) (l:=enl S C T qs[i].1) (qs:=qs);have K:pA (apB S C n2 c0 c1) qs i=apB S C n2 c0 c1 qs[i].1:=by unfold pA;rw [o]
  have w:=Q1 (p:=pA (apB S C n2 c0 c1) qs) (k:=i) (i:=0);rw [R2,K] at w
  have M:fdG (pA (apB S C n2 c0 c1) (CO S C T qs[i] qs (enl S C T qs[i].1))) (i+1) 0=fdG (pA (apB S C n2 c0 c1) qs) (i+1) 0:=Cu fun j _ P=>by
   unfold pA;rw [Mn (by omega)]
  have G:Ie d (.bool b) (.int (fdG (pA (apB S C n2 c0 c1) qs) i 0)) (.int (i:Nat)) w8 w9 (.bool b10) w11 (.bool b12) w13 (.bool b14) w15 (.bool b16) (.int n17) (.bool b18) w19 (.bool b20) w21 (.bool b22) w23 w24 w25 (.int n26) w27 w28 (.bool b29) w30 n0 n1 n2 n3 c0 c1 v0 S C T=G9 d (.bool b) (.int (fdG (pA (apB S C n2 c0 c1) qs) (i+1) 0)) (.int (i:Nat)) (CV (enl S C T qs[i].1)) (.bool (enl S C T qs[i].1).isEmpty) (.int ((enl S C T qs[i].1).length:Nat)) (.int (0:Nat)) w8 w9 (.bool b10) w11 (.bool b12) w13 (.bool b14) w15 (.bool b16) (.int n17) (.bool b18) w19 (.bool b20) w21 (.bool b22) w23 w24 w25 (.int n26) w27 w28 (.bool b29) w30 n0 n1 n2 n3 c0 c1 v0 S C T:=by
   rw [iu (h0:=rfl),ifT (by omega),ifF (by omega),J,KN hR hC.r1 v B]
   simp only [A5,AX,tI,Ap,B5,B4,C8];by_cases r:e=0
   ·rw [iT r];have:=E.1 r;rw [w,if_pos this];by_cases z:fdG (pA (apB S C n2 c0 c1) qs) i 0<0
    ·rw [iT z,if_pos z];rfl
    ·rw [iF z,if_neg z];rfl
   ·rw [iF r];have:¬apB S C n2 c0 c1 qs[i].1=true:=fun z=>r (E.2 z)
    have R:=Kg (p:=pA (apB S C n2 c0 c1) qs) (k:=i) (i:=0)
    have:fdG (pA (apB S C n2 c0 c1) qs) (i+1) 0=fdG (pA (apB S C n2 c0 c1) qs) i 0:=by
     rw [w,if_neg this];split<;>omega
    rw [this];rfl
  rw [G,u];rcases T9 (w8:=w8) (w9:=w9) (w11:=w11) (w13:=w13) (w15:=w15) (w19:=w19) (w21:=w21) (w23:=w23) (w24:=w24) (w25:=w25) (w27:=w27) (w28:=w28) (w30:=w30) (n0:=n0) (n1:=n1) (n2:=n2) (n3:=n3) (c0:=c0) (c1:=c1) (b10:=b10) (b12:=b12) (b14:=b14) (b16:=b16) (b18:=b18) (b20:=b20) (b22:=b22) (b29:=b29) (n17:=n17) (n26:=n26) hR hC.r1 v (i:=i) (L:=enl S C T qs[i].1) (fl:=(enl S C T qs[i].1).isEmpty) (fnd:=fdG (pA (apB S C n2 c0 c1) qs) (i+1) 0) (fun s hs=>hs) (by omega) (enl S C T qs[i].1) [] qs d b rfl n A g t hl o with ⟨x,N⟩|⟨x,a,m,o1,o2,o3,o4,y⟩
  ·exact .inl ⟨ge x Sd,N⟩
  ·have F:=Q4 hR hC (f:=f) (i:=i+1) (qs:=CO S C T qs[i] qs (enl S C T qs[i].1)) (d:=a) (b:=m) (by omega) (by omega) o1 o2 o3 o4 x
   rw [M] at F;have y:G9 d (.bool b) (.int (fdG (pA (apB S C n2 c0 c1) qs) (i+1) 0)) (.int (i:Nat)) (CV (enl S C T qs[i].1)) (.bool (enl S C T qs[i].1).isEmpty) (.int ((enl S C T qs[i].1).length:Nat)) (.int (0:Nat)) w8 w9 (.bool b10) w11 (.bool b12) w13 (.bool b14) w15 (.bool b16) (.int n17) (.bool b18) w19 (.bool b20) w21 (.bool b22) w23 w24 w25 (.int n26) w27 w28 (.bool b29) w30 n0 n1 n2 n3 c0 c1 v0 S C T=Ie a (.bool m) (.int (fdG (pA (apB S C n2 c0 c1) qs) (i+1) 0)) (.int (i+1:Nat)) w8 w9 (.bool b10) w11 (.bool b12) w13 (.bool b14) w15 (.bool b16) (.int n17) (.bool b18) w19 (.bool b20) w21 (.bool b22) w23 w24 w25 (.int n26) w27 w28 (.bool b29) w30 n0 n1 n2 n3 c0 c1 v0 S C T:=y;rw [y];exact F
end
end Ug
namespace Ug
open Go Go.AE
section
variable [Ai]
variable {S C T v0 n0 n1 n2 n3 c0 c1:D}
def A6 (S C T:D) (k:Key):List Q:=Ch S C T 2001 [(k,[])] 0
theorem Tr.nil:Tr [] Aw:=⟨rfl,fun i s h=>by simp at h,fun _=>rfl⟩
theorem RL.one {k:Key} {r:List D} (h:Cf S C k (sl (D.row r) 0) (sl (D.row r) 1)):RL S C [(k,[])] (Go.AE.ad Aq (D.row r)):=RL.ad (qs:=[]) ⟨rfl,fun i q h=>by simp at h⟩ h
theorem RT.one {k:Key} {r:List D} {c:Nat} (h:Tr [] (sl (D.row r) c)):RT [(k,[])] (Go.AE.ad Aq (D.row r)) c:=RT.ad (qs:=[]) (q:=(k,[])) ⟨rfl,fun i q h=>by simp at h⟩ h
theorem HI.one {k:Key} (h:KOk S C k):HI S C [(k,[])]:=fun q j=>by rw [Ts.1 j];exact h
theorem WOk.one {k:Key}:WOk [(k,[])]:=fun i q h=>by
 have:=Kp h;simp at this;subst this;simp at h;subst h;simp
end
end Ug
namespace Ug
open Go Go.AE
section
variable [Ai]
variable {S C T N:D} {n:Nat} {m:MS} {r:RS}
def Bb (S C:D) (r:RS):Key:=(fd S r.at',kv r.vals 0,kv r.vals 1,kv r.vals 2,kv r.vals 3)
theorem JT {j:Nat} (h:j<4):kc (Bb S C r) j=kv r.vals j:=by
 match j,h with
 |0,_=>rfl
 |1,_=>rfl
 |2,_=>rfl
 |3,_=>rfl
theorem LA (h:Inv S C T n m r):KOk S C (Bb S C r):=by
 have c1:=h.rk.c1;have lv:=h.bk.lv;refine ⟨h.at0,Da,fun j a=>?_,fun j a=>?_⟩
 ·obtain ⟨x,v1,v2,v3,v4⟩:=h.bk.vl j a;rw [JT (by omega)]
  unfold kv;rw [if_pos (by omega),v2]
  exact ⟨v3,v4⟩
 ·by_cases c:j<4
  ·rw [JT c];unfold kv;rw [if_neg (by omega)]
  ·exact TG (by omega)
theorem fJ (h:Inv S C T n m r) {t x:D} (c:D.strEq r.at' t=true) (hl:len x=len C) (d:∀j:Nat,j<len C→cl x j 0=cl r.vals j 0) (e:Wd x 1):Cf S C (Bb S C r) t x:=by
 have c1:=h.rk.c1;have lv:=h.bk.lv;refine ⟨Gl (Oi h.at0) c,hl,fun j b=>?_,e⟩
 obtain ⟨a,v1,v2,v3,v4⟩:=h.bk.vl j b;rw [d j b,JT (by omega)]
 unfold kv;rw [if_pos (by omega),v2]
 rfl
theorem Dj (h:Inv S C T n m r) (c d e f g i k o:D) (b1 b2 b3:Bool) (y0 y1 y2:Bool) (n1 n2:Int) (p q s z:D):∃x,JB m.b (.bool m.bn) c d (.bool b1) e f (.bool b2) g i (.bool b3) k m.an (.bool y0) (.int n1) (.int n2) o p q (.bool y1) (.bool y2) s (.bool m.en)=.row [.int 1,m.an,x]∧Cf S C (Bb S C r) m.an x:=by
 obtain ⟨l,lb,t,u,v,w⟩:=bI h.rk h.bk h.bn;refine ⟨ni l lb,?_,?_⟩
 ·rw [yl,t];simp only [A5,AX,tI,tB,B5,B4]
 ·have a:=h.an;rw [AM] at a;exact fJ h a (by rw [jr,u]) (fun j y=>by rw [tk];exact v j y) (un w)
theorem Y7 (h:Inv S C T n m r) (hn:n<900):∃L,Lh m.b (.bool m.bn) m.nm m.st (.bool m.stn) m.ct (.bool m.ctn) m.sp (.bool m.spn) m.an (.bool m.af) (.int m.aw) (.int m.now) m.due m.dn m.hp (.bool m.hn) (.bool m.ov) m.ev (.bool m.en)=.row (.int 1::m.st::m.ct::m.sp::L):=by
 have hl:=h.hl;have el:=h.el;have el':=h.el';have lb:=h.bk.lb;have c1:=h.rk.c1
 have A:(sl (Pw m.b (.bool m.bn)) 0).toInt=1:=by
  rw [gG,bt];cases m.bn
  ·rw [cF rfl,ifT (p:=(len m.b:Int)<1048576) (by omega)];rfl
  ·rfl
 have B:(sl (F9 (.int m.now) m.due m.dn m.hp (.bool m.hn)) 0).toInt=1:=by
  rw [io,gA];cases m.hn
  ·rw [cF rfl,ifT (p:=(len m.hp:Int)<1048576) (by omega)]
   cases m.dn.toBool<;>simp only [B4,E9,A5,AX,tI,B5]
  ·cases m.dn.toBool<;>simp only [B4,E9,A5,AX,tI,B5]
 have a:(sl (O6 m.ev (.bool m.en)) 0).toInt=1:=by
  rw [gy];cases m.en
  ·rw [cF rfl,ifT (p:=(len m.ev:Int)<1048576) (by omega)];rfl
  ·rfl
 rw [gj,ifT A,ifT B,ifT a];exact ⟨_,rfl⟩
def IsL (S:D):Prop:=∃b rows,S=.slc b rows
theorem TH {S m:D} {b:Bool} (d:IsL S) (hn:Bf S) (a:m.rows=S.rows) (c:b=S.isNil):(b=true→S=.slc true [])∧(b=false→S=.slc false m.rows):=by
 obtain ⟨nl,rows,rfl⟩:=d;have c:b=nl:=c;have a:m.rows=rows:=a;subst c;refine ⟨fun z=>?_,fun z=>?_⟩
 ·subst z;have:rows=[]:=hn rfl;rw [this]
 ·rw [z,a];rfl
theorem MM (h:Inv S C T n m r) (lS:IsL S) (lC:IsL C) (lT:IsL T) (n1:Bf S) (n2:Bf C) (n3:Bf T) (b1:m.stn=S.isNil) (b2:m.ctn=C.isNil) (b3:m.spn=T.isNil) (hs:len S<1000) :
  SD m.b (.bool m.bn) m.nm m.st (.bool m.stn) (.int (len m.st:Int)) m.ct (.bool m.ctn) (.int (len m.ct:Int)) m.sp (.bool m.spn) (.int (len m.sp:Int)) m.an (.bool m.af) (.int m.aw) (.int m.now) m.due m.dn m.hp (.bool m.hn) (.bool m.ov) m.ev (.bool m.en)=.row [.int 1,m.nm,S,C,T]:=by
 have c1:=h.rk.c1;have t1:=h.rk.t1;have e:=Bn h.st;have f:=Bn h.ct;have lt:=Bn h.sp
 have A:∃l b,RV m.st (.bool m.stn) (.int (len m.st:Int))=.row [.int 1,l,.bool b]∧ni l b=S:=by
  obtain ⟨o1,o2⟩:=TH lS n1 h.st b1;rw [sJ];cases q:m.stn
  ·rw [cF rfl,ifT (by rw [tI]),ifT (by omega)]
   exact ⟨_,_,rfl,(o2 q).symm⟩
  ·exact ⟨_,_,rfl,(o1 q).symm⟩
 have B:∃l b,R9 m.ct (.bool m.ctn) (.int (len m.ct:Int))=.row [.int 1,l,.bool b]∧ni l b=C:=by
  obtain ⟨o1,o2⟩:=TH lC n2 h.ct b2;rw [mL];cases q:m.ctn
  ·rw [cF rfl,ifT (by rw [tI]),ifT (by omega)]
   exact ⟨_,_,rfl,(o2 q).symm⟩
  ·exact ⟨_,_,rfl,(o1 q).symm⟩
 have a:∃l b,KL m.sp (.bool m.spn) (.int (len m.sp:Int))=.row [.int 1,l,.bool b]∧ni l b=T:=by
  obtain ⟨o1,o2⟩:=TH lT n3 h.sp b3;rw [ik];cases q:m.spn
  ·rw [cF rfl,ifT (by rw [tI]),ifT (by omega)]
   exact ⟨_,_,rfl,(o2 q).symm⟩
  ·exact ⟨_,_,rfl,(o1 q).symm⟩
 obtain ⟨a1,a2,a3,a4⟩:=A;obtain ⟨d1,d2,d3,d4⟩:=B;obtain ⟨g,i,c,d⟩:=a;rw [xG,a3,d3,c];simp only [A5,AX,tI,tB,B5,B4,a4,d4,d]
end
end Ug
namespace Ug
open Go Go.AE
section
variable [Ai]
variable {v0 v1 v2 v3 v4 v5 v6 v7 v8 v9 aB:D}
def Rp (P:Prop) (x:D):Prop:=∃b:Bool,x=.row [.int 1,.bool b]∧(b=true→P)
theorem Rp.no {P:Prop}:Rp P (.row [.int 1,.bool false]):=⟨_,rfl,fun h=>by cases h⟩
theorem Rp.c {P:Prop} {c:Bool} {x y:D} (h:Rp P x) (h':Rp P y):Rp P (cond c x y):=by cases c<;>assumption
theorem Rp.i {P p:Prop} [Decidable p] {y:D} (h:¬p→Rp P y):Rp P (cond (decide p) (.row [.int 1,.bool false]) y):=by
 by_cases c:p
 ·rw [ifT c];exact .no
 ·rw [ifF c];exact h c
def Txt (v3:D) (i:Nat):Prop:=∀j:Nat,i≤j→j<len v3→BE (cl v3 j 3)≤40∧BE (cl v3 j 4)≤40
theorem aj (hn:len v3<1000) (s:Int):∀{k i:Nat},i+k=len v3→Rp (Txt v3 i) (eB (.int s) (.int (i:Nat)) v0 v1 v2 v3)
 |0,i,h=>by rw [qX,ifF (by omega)];exact ⟨_,rfl,fun _ j _ _=>by omega⟩
 |k+1,i,h=>by
  rw [qX,ifT (by omega),ifF (by omega),AR (by omega)]
  refine .i fun _=>.i fun _=>.i fun c1=>.i fun c2=>.i fun _=>?_
  obtain ⟨b,q,a⟩:=aj hn s (k:=k) (i:=i+1) (by omega)
  refine ⟨b,q,fun z j e c=>?_⟩
  by_cases d:j=i
  ·subst d;exact ⟨by omega,by omega⟩
  ·exact a z j (by omega) c
theorem br (hn:len v1<1000) (a:len v3<1000) (s:Int):∀{k i:Nat},i+k=len v1→Rp (Txt v3 0) (dN (.int s) (.int (i:Nat)) v0 v1 v2 v3)
 |0,i,h=>by rw [qN,ifF (by omega)];exact aj (i:=0) (k:=len v3) a s (by omega)
 |k+1,i,h=>by
  rw [qN,ifT (by omega),ifF (by omega),AR (by omega)]
  exact .i fun _=>br hn a s (k:=k) (by omega)
theorem PD (hn:len v1<1000) (b:len v2<1000) (a:len v3<1000):∀{k i:Nat} (s:Int),i+k=len v2→Rp (Txt v3 0) (Xh (.int s) (.int (i:Nat)) v0 v1 v2 v3)
 |0,i,s,h=>by rw [qM,ifF (by omega)];exact br (i:=0) (k:=len v1) hn a s (by omega)
 |k+1,i,s,h=>by
  rw [qM,ifT (by omega),ifF (by omega),AR (by omega)]
  exact .c (.i fun _=>PD hn b a _ (k:=k) (by omega)) (.c (.i fun _=>PD hn b a _ (k:=k) (by omega)) (.i fun _=>PD hn b a _ (k:=k) (by omega)))
def We (v3:D):Prop:=∀i:Nat,i<len v3→(∃n,cl v3 i 2=.int n)∧(∃n,cl v3 i 6=.int n)∧(∃n,cl v3 i 7=.int n)∧(∃n,cl v3 i 8=.int n)
theorem Sr (v0 v1 v2 v3:D):∃b,St v0 v1 v2 v3=.row [.int 1,.bool b]∧(b=true→len v1≤6∧len v2≤5∧len v3≤12∧(We v3→CJ v3)):=by
 rw [zq];by_cases c1:6<(len v1:Int)
 ·rw [ifT c1];exact ⟨_,rfl,fun h=>by cases h⟩
 by_cases c2:12<(len v3:Int)
 ·rw [ifF c1,ifT c2];exact ⟨_,rfl,fun h=>by cases h⟩
 by_cases c3:5<(len v2:Int)
 ·rw [ifF c1,ifF c2,ifT c3];exact ⟨_,rfl,fun h=>by cases h⟩
 rw [ifF c1,ifF c2,ifF c3];obtain ⟨b,a,c⟩:=Rp.i (p:=40<(BE v0:Int)) fun _=>PD (v0:=v0) (v1:=v1) (v2:=v2) (v3:=v3) (i:=0) (k:=len v2) (by omega) (by omega) (by omega) 0 (by omega)
 refine ⟨b,a,fun z=>⟨by omega,by omega,by omega,fun hi i h=>?_⟩⟩
 obtain ⟨d,e,f,g⟩:=hi i h;obtain ⟨t1,t2⟩:=c z i (by omega) h
 exact ⟨d,e,f,g,by omega,by omega⟩
end
section
variable [Ai]
variable {S C T N n0 n1 n2 n3 c0 c1:D} {n:Nat} {m:MS} {r:RS}
structure Mc (N S C T:D) (m:MS):Prop where
 lS:IsL S
 lC:IsL C
 lT:IsL T
 n1:Bf S
 n2:Bf C
 n3:Bf T
 b1:m.stn=S.isNil
 b2:m.ctn=C.isNil
 b3:m.spn=T.isNil
 nm:m.nm=N
theorem Za:LW=.row [.int 1]:=zi
theorem knT:cond (decide ((sl (LW) 0).toInt=1)) (D.row [.int 1,(.bool true)]) (.row [])=.row [.int 1,(.bool true)]:=by rw [Za];rfl
end
section
variable [Ai]
variable {v0 v1 v2 v3 v4 v5 v6 v7 v8 v9 aB:D}
end
end Ug
namespace Ug
open Go Go.AE
section
variable [Ai]
def goW (S C T:D):Key→List Nat→Option Key
 |k,[]=>some k
 |k,s::w=>if s∈enl S C T k then goW S C T (nx S C T k s) w else none
theorem Sk {S C T:D} {s:Nat}:∀{w:List Nat} {k b:Key},goW S C T k w=some b→s∈enl S C T b→goW S C T k (w++[s])=some (nx S C T b s)
 |[],k,b,h,hs=>by
  injection h with h
  subst h;show (if s∈enl S C T k then _ else none)=_
  rw [if_pos hs];rfl
 |a::w,k,b,h,hs=>by
  by_cases c:a∈enl S C T k
  ·have h:(if a∈enl S C T k then goW S C T (nx S C T k a) w else none)=some b:=h
   rw [if_pos c] at h;show (if a∈enl S C T k then goW S C T (nx S C T k a) (w++[s]) else none)=_
   rw [if_pos c];exact Sk h hs
  ·have h:(if a∈enl S C T k then goW S C T (nx S C T k a) w else none)=some b:=h
   rw [if_neg c] at h;cases h
def NF (S C T:D) (a:Key) (b:List Q):Prop:=∀q∈b,goW S C T a q.2=some q.1
theorem O5 {S C T:D} {c:Key} {q:Q} (d:goW S C T c q.2=some q.1):∀{l:List Nat} {b:List Q},(∀s∈l,s∈enl S C T q.1)→NF S C T c b→NF S C T c (CO S C T q b l)
 |[],b,_,h=>h
 |s::l,b,hl,h=>by
  rw [FS];refine O5 d (fun a e=>hl a (List.mem_cons_of_mem _ e)) ?_
  unfold Ki;split
  ·exact h
  ·intro y f;rcases eq.1 f with z|z
   ·exact h y z
   ·rw [Ts.1 z];exact Sk d (hl s (List.mem_cons_self ..))
theorem Il {S C T:D} {k0:Key}:∀{f:Nat} {qs:List Q} {i:Nat},NF S C T k0 qs→NF S C T k0 (Ch S C T f qs i)
 |0,qs,i,h=>h
 |f+1,qs,i,h=>by
  rw [Ch];split
  ·rename_i q a;exact Il (O5 (h q (Nn a)) (fun s hs=>hs) h)
  ·exact h
theorem MN {S C T:D} {q:Q}:∀{l:List Nat} {d:List Q},(Ff d).Nodup→(Ff (CO S C T q d l)).Nodup
 |[],d,h=>h
 |s::l,d,h=>by
  rw [FS];refine MN ?_;unfold Ki;split
  ·exact h
  ·rename_i c;have e:Ff (d++[(nx S C T q.1 s,q.2++[s])])=Ff d++[nx S C T q.1 s]:=by simp [Ff]
   rw [e,List.nodup_append];refine ⟨h,by simp,?_⟩
   intro a f b g;rw [Ts.1 g]
   rintro rfl
   exact c f
theorem KR {S C T:D}:∀{f:Nat} {a:List Q} {i:Nat},(Ff a).Nodup→(Ff (Ch S C T f a i)).Nodup
 |0,a,i,h=>h
 |f+1,a,i,h=>by
  rw [Ch];split
  ·exact KR (MN h)
  ·exact h
def JJ (S C T:D) (ks:List Key):Prop:=∀k∈ks,∀s∈enl S C T k,nx S C T k s∈ks
theorem Mp {S C T:D} {b:List Key} (h:JJ S C T b):∀{w:List Nat} {k a:Key},k∈b→goW S C T k w=some a→a∈b
 |[],k,a,d,e=>by
  injection e with e
  exact e▸d
 |s::w,k,a,d,e=>by
  have e:(if s∈enl S C T k then goW S C T (nx S C T k s) w else none)=some a:=e
  by_cases c:s∈enl S C T k
  ·rw [if_pos c] at e;exact Mp h (h k d s c) e
  ·rw [if_neg c] at e;cases e
theorem QS {d:Type} [DecidableEq d]:∀{l m:List d},l.Nodup→(∀a∈l,a∈m)→l.length≤m.length
 |[],m,_,_=>hP _
 |a::l,m,h,hs=>by
  have f:=List.nodup_cons.1 h;have g:=hs a (List.mem_cons_self ..)
  have:=QS (l:=l) (m:=m.erase a) f.2 (fun b i=>by
   have c:b≠a:=fun e=>f.1 (e▸i)
   exact (List.mem_erase_of_ne c).2 (hs b (List.mem_cons_of_mem _ i)))
  rw [List.length_erase_of_mem g] at this;have p:0<m.length:=List.length_pos_of_mem g;simp only [F2];omega
theorem Zp {S C T:D} {b:List Key} (h:JJ S C T b) {k:Key} (d:k∈b):(A6 S C T k).length≤b.length:=by
 have p:NF S C T k (A6 S C T k):=Il fun q c=>by rw [Ts.1 c];rfl
 have n:(Ff (A6 S C T k)).Nodup:=KR (by simp [Ff])
 have:=QS n (m:=b) fun a f=>by
  obtain ⟨q,c,e⟩:=List.mem_map.1 f;exact e▸Mp h d (p q c)
 rwa [MZ] at this
theorem Pq {S C T:D} {j:Nat}:∀{f:Nat} {a:List Q} {i:Nat},j<a.length→(Ch S C T f a i)[j]?=a[j]?
 |0,a,i,h=>rfl
 |f+1,a,i,h=>by
  rw [Ch];split
  ·rw [Pq (ge h Jw),Mn h]
  ·rfl
theorem eN {S C T:D} {k:Key}:(A6 S C T k)[0]?=some (k,[]):=by
 unfold A6;rw [Pq (by simp)]
 rfl
theorem Us {S C T:D} {k:Key} {q:Q} (h:q∈A6 S C T k):goW S C T k q.2=some q.1:=(Il (S:=S) (C:=C) (T:=T) (k0:=k) (f:=2001) (qs:=[(k,[])]) (i:=0) fun q a=>by rw [Ts.1 a];rfl) q h
end
end Ug
namespace Ug
open Go Go.AE
section
variable [Ai]
end
end Ug
namespace Ug
open Go Go.AE
section
variable [Ai]
variable {S C T v0:D}
end
end Ug
namespace Ug
open Go Go.AE
section
variable [Ai]
variable {S C T v0:D}
end
end Ug
namespace Ug
open Go Go.AE
theorem TN [Ai] {S C T v0:D} (hR:Rk S C T) {k:Key} (a:KOk S C k):GW (.int k.1) (.int k.2.1) (.int k.2.2.1) (.int k.2.2.2.1) (.int k.2.2.2.2) v0 S C T=.row [.int 1,CV (enl S C T k),.bool (enl S C T k).isEmpty]:=NM hR a v0
theorem Sc {ks:List Kd} {k:List D}:∀(a l:List D),Ev ks k a l.length=fdG (fun i=>CC ks (((l++a).getD i default).cells) k) a.length l.length
 |[],l=>rfl
 |r::a,l=>by
  rw [Ev,F2,fdG];have e:((l++r::a).getD l.length default)=r:=by simp
  have i2:=Sc (ks:=ks) (k:=k) a (l++[r]);rw [L1,List.append_assoc] at i2;have i2:Ev ks k a (l.length+1)=fdG (fun i=>CC ks (((l++r::a).getD i default).cells) k) a.length (l.length+1):=i2
  rw [e,i2];cases CC ks r.cells k<;>rfl
theorem VH {ks:List Kd} {a k:D}:mIx ks a k=fdG (fun i=>CC ks ((a.rows.getD i default).cells) k.cells) (len a) 0:=Sc (ks:=ks) (k:=k.cells) a.rows []
abbrev K5:List Kd:=[.int .i64,.int .i64,.int .i64,.int .i64,.int .i64]
def BG (ks:List Key):D:=.slc ks.isEmpty (ks.map fun k=>.row (FT k))
def C4 (ks:List Key):D:=.slc false (ks.map fun k=>.row (FT k++[.bool true]))
theorem Gf {ks:List Key}:len (BG ks)=ks.length:=by unfold BG len;simp [D.rows]
theorem Xr {a:List Key}:len (C4 a)=a.length:=by unfold C4 len;simp [D.rows]
theorem BF {ks:List Key} {j c:Nat} {k:Key} (h:ks[j]?=some k):cl (BG ks) j c=(FT k).getD c default:=by
 show (((ks.map fun k=>D.row (FT k))[j]?).getD default).cells.getD c default=_
 rw [P8,h];rfl
theorem cC {a b:Key} {l:List D}:CC K5 (FT a++l) (FT b)=decide (a=b):=by
 obtain ⟨a1,a2,a3,a4,a5⟩:=a;obtain ⟨b1,b2,b3,c,d⟩:=b;simp only [K5,FT,List.cons_append,List.nil_append,CC,Ao,g6];rw [Bool.eq_iff_iff];simp
theorem WW {a:List Key} {k:Key}:mIx K5 (C4 a) (.row (FT k))=fdG (fun i=>decide (a[i]?=some k)) a.length 0:=by
 rw [VH,Xr];refine Cu fun j _ c=>?_
 show CC K5 ((((a.map fun k=>D.row (FT k++[.bool true]))[j]?).getD default).cells) (FT k)=_
 have b:j<a.length:=by omega
 rw [P8,E1 b];show CC K5 (FT a[j]++[.bool true]) (FT k)=_;rw [cC];simp
def Fg (ks:List Key) (k:Key):List Key:=if k∈ks then ks else ks++[k]
theorem aJ {ks:List Key} {k:Key}:(Fg ks k).length≤ks.length+1:=by
 unfold Fg;split
 ·omega
 ·simp
theorem UZ {ks:List Key} {k:Key}:ks.length≤(Fg ks k).length:=by
 unfold Fg;split
 ·omega
 ·simp
def CR (S C T:D) (k:Key) (ks:List Key) (l:List Nat):List Key:=l.foldl (fun ks s=>Fg ks (nx S C T k s)) ks
theorem NC {S C T:D} {k:Key}:∀{l:List Nat} {ks:List Key},(CR S C T k ks l).length≤ks.length+l.length
 |[],ks=>by simp [CR]
 |s::l,ks=>by
  have:=NC (S:=S) (C:=C) (T:=T) (k:=k) (l:=l) (ks:=Fg ks (nx S C T k s));have:=aJ (ks:=ks) (k:=nx S C T k s);simp only [CR,List.foldl_cons,F2] at *;omega
theorem Wa {S C T:D} {k:Key}:∀{l:List Nat} {ks:List Key},ks.length≤(CR S C T k ks l).length
 |[],ks=>by simp [CR]
 |s::l,ks=>by
  have:=Wa (S:=S) (C:=C) (T:=T) (k:=k) (l:=l) (ks:=Fg ks (nx S C T k s));have:=UZ (ks:=ks) (k:=nx S C T k s);simp only [CR,List.foldl_cons] at *;omega
theorem Ya {S C T:D} {k:Key} {l:List Nat} {ks:List Key} {s:Nat}:CR S C T k ks (l++[s])=Fg (CR S C T k ks l) (nx S C T k s):=by
 simp [CR]
def dJ (g:Nat→Int) (i:Nat):D:=.slc (decide (i=0)) ((List.range i).map fun (j:Nat)=>.row [.int (g j)])
theorem bY {g:Nat→Int} {i:Nat}:len (dJ g i)=i:=by unfold dJ len;simp [D.rows]
theorem cO {g:Nat→Int} {i j:Nat} (h:j<i):cl (dJ g i) j 0=.int (g j):=by
 show ((((List.range i).map fun (j:Nat)=>D.row [.int (g j)])[j]?).getD default).cells.getD 0 default=_
 rw [P8,hI h];rfl
section
variable [Ai]
variable {S C T v0:D}
theorem aR {ks:List Key} {k:Key} (hl:ks.length<1048576):E6 (BG ks) (.bool ks.isEmpty) (C4 ks) (.int k.1) (.int k.2.1) (.int k.2.2.1) (.int k.2.2.2.1) (.int k.2.2.2.2)=.row [.int 1,BG (Fg ks k),.bool (Fg ks k).isEmpty,C4 (Fg ks k)]:=by
 rw [ve];have e:D.row [.int k.1,.int k.2.1,.int k.2.2.1,.int k.2.2.2.1,.int k.2.2.2.2]=.row (FT k):=rfl;rw [e,WW,Gf];by_cases c:k∈ks
 ·obtain ⟨j,d,a⟩:=X0 c;have q:=Iu (p:=fun i=>decide (ks[i]?=some k)) (k:=ks.length) (i:=0) (j:=j) (by omega) (by omega) (F6 (by rw [E1 d,a]))
  have lt:=Eo (p:=fun i=>decide (ks[i]?=some k)) (k:=ks.length) (i:=0)
  have b:Fg ks k=ks:=if_pos c;rw [ifF (by omega),b]
  have cb:∀i:Int,0≤i→i<ks.length→cl (C4 ks) i 5=.bool true:=fun i h0 g=>by
   show (((ks.map fun k=>D.row (FT k++[.bool true]))[i.toNat]?).getD default).cells.getD 5 default=_
   rw [P8,E1 (by omega)]
   rfl
  rw [cb _ q.1 (by omega)]
  rfl
 ·have q:fdG (fun i=>decide (ks[i]?=some k)) ks.length 0 = -1:=GG fun j _ d=>F1 fun h=>c (Nn h)
  have b:Fg ks k=ks++[k]:=if_neg c;rw [ifT (by omega),ifT (by omega),b]
  have e1:ad (BG ks) (.row (FT k))=BG (ks++[k]):=by
   unfold BG ad;simp [D.rows]
  have f:ad (C4 ks) (.row [.int k.1,.int k.2.1,.int k.2.2.1,.int k.2.2.2.1,.int k.2.2.2.2,.bool true])=C4 (ks++[k]):=by
   unfold C4 ad;simp [D.rows,FT]
  rw [e1,f];simp
end
end Ug
namespace Ug
open Go Go.AE
section
variable [Ai]
variable {S C T v0:D}
theorem ju (hR:Rk S C T) {k:Key} (a:KOk S C k) {ks:List Key} (hl:ks.length<100000):Ig (.int k.1) (.int k.2.1) (.int k.2.2.1) (.int k.2.2.2.1) (.int k.2.2.2.2) (BG ks) (.bool ks.isEmpty) (C4 ks) v0 S C T =
  .row [.int 1,BG (CR S C T k ks (enl S C T k)),.bool (CR S C T k ks (enl S C T k)).isEmpty,C4 (CR S C T k ks (enl S C T k))]:=by
 have g:=hR.t1;have d:=Gz (S:=S) (C:=C) (T:=T) (k:=k);rw [pZ,TN hR a];dsimp +instances only [Az,Ay,Ao,Ap];rw [ifT (by rfl),C8]
 have L:=Jo (F:=fun i=>KX (CV (enl S C T k)) (.bool (enl S C T k).isEmpty) (.int ((enl S C T k).length:Nat)) (.int (i:Nat)) (BG (CR S C T k ks ((enl S C T k).take i))) (.bool (CR S C T k ks ((enl S C T k).take i)).isEmpty) (C4 (CR S C T k ks ((enl S C T k).take i))) v0 S C T (.int k.1) (.int k.2.1) (.int k.2.2.1) (.int k.2.2.2.1) (.int k.2.2.2.2)) (n:=(enl S C T k).length) (bad:=fun _=>false) (B:=fun _=>.row []) (fun i hi=>by
  show KX (CV (enl S C T k)) (.bool (enl S C T k).isEmpty) (.int ((enl S C T k).length:Nat)) (.int (i:Nat)) (BG (CR S C T k ks ((enl S C T k).take i))) (.bool (CR S C T k ks ((enl S C T k).take i)).isEmpty) (C4 (CR S C T k ks ((enl S C T k).take i))) v0 S C T (.int k.1) (.int k.2.1) (.int k.2.2.1) (.int k.2.2.2.1) (.int k.2.2.2.2) =
   KX (CV (enl S C T k)) (.bool (enl S C T k).isEmpty) (.int ((enl S C T k).length:Nat)) (.int (i+1:Nat)) (BG (CR S C T k ks ((enl S C T k).take (i+1)))) (.bool (CR S C T k ks ((enl S C T k).take (i+1))).isEmpty) (C4 (CR S C T k ks ((enl S C T k).take (i+1)))) v0 S C T (.int k.1) (.int k.2.1) (.int k.2.2.1) (.int k.2.2.2.1) (.int k.2.2.2.2)
  have b:(enl S C T k)[i]?=some ((enl S C T k)[i]):=E1 hi;have c:=Gp (hH hi);have h:=NC (S:=S) (C:=C) (T:=T) (k:=k) (l:=(enl S C T k).take i) (ks:=ks);have f:((enl S C T k).take i).length≤i:=by simp;omega
  rw [List.take_add_one,b,Option.toList_some,Ya,hJ (h0:=rfl),ifT (by omega),ifF (by omega),C8,ifT (by omega),GB b,P5 hR a c.1 c.2 _]
  have e:D.row (.int 1::FT (nx S C T k (enl S C T k)[i]))=.row [.int 1,.int (nx S C T k (enl S C T k)[i]).1,.int (nx S C T k (enl S C T k)[i]).2.1,.int (nx S C T k (enl S C T k)[i]).2.2.1,.int (nx S C T k (enl S C T k)[i]).2.2.2.1,.int (nx S C T k (enl S C T k)[i]).2.2.2.2]:=rfl;rw [e];dsimp +instances only [Az,Ay,Ao,Ap];rw [aR (by omega)]
  dsimp +instances only [Az,Ay,Ao,Ap];rw [ifT (by rfl),ifT (by rfl),AR (by omega)])
 refine (show KX (CV (enl S C T k)) (.bool (enl S C T k).isEmpty) (.int ((enl S C T k).length:Nat)) (.int 0) (BG ks) (.bool ks.isEmpty) (C4 ks) v0 S C T (.int k.1) (.int k.2.1) (.int k.2.2.1) (.int k.2.2.2.1) (.int k.2.2.2.2)=cond _ (KX (CV (enl S C T k)) (.bool (enl S C T k).isEmpty) (.int ((enl S C T k).length:Nat)) (.int ((enl S C T k).length:Nat)) (BG (CR S C T k ks ((enl S C T k).take (enl S C T k).length))) (.bool (CR S C T k ks ((enl S C T k).take (enl S C T k).length)).isEmpty) (C4 (CR S C T k ks ((enl S C T k).take (enl S C T k).length))) v0 S C T (.int k.1) (.int k.2.1) (.int k.2.2.1) (.int k.2.2.2.1) (.int k.2.2.2.2)) _ from L).trans ?_
 rw [GG (fun _ _ _=>rfl),ifT (by omega),List.take_length,hJ (h0:=rfl),ifF (by omega)]
def Oa (S C:D) (ks:List Key):Prop:=∀k∈ks,KOk S C k
theorem WA (hR:Rk S C T) {k:Key} (a:KOk S C k):∀{l:List Nat} {ks:List Key},(∀s∈l,s<len T∧en S C T k s=true)→Oa S C ks→Oa S C (CR S C T k ks l)
 |[],ks,_,h=>by simpa [CR] using h
 |s::l,ks,hl,h=>by
  have b:=hl s (List.mem_cons_self ..)
  have:=WA hR a (l:=l) (ks:=Fg ks (nx S C T k s)) (fun s hs=>hl s (List.mem_cons_of_mem _ hs)) (by
   unfold Fg;split
   ·exact h
   ·intro x c;rcases eq.1 c with q|q
    ·exact h x q
    ·rw [Ts.1 q];exact Ow hR a b.1 b.2)
  simpa [CR] using this
def PO (S C T:D) (ks:List Key) (k:Key):List Key:=CR S C T k ks (enl S C T k)
theorem VV (hR:Rk S C T) {k:Key} (a:KOk S C k) {ks:List Key} (h:Oa S C ks):Oa S C (PO S C T ks k):=WA hR a (fun s hs=>Gp hs) h
def GX (S C T:D):Nat→List Key→Nat→List Key
 |0,ks,_=>ks
 |f+1,ks,i=>match ks[i]? with
  |some k=>GX S C T f (PO S C T ks k) (i+1)
  |none=>ks
theorem V5 (hR:Rk S C T):∀{f:Nat} {ks:List Key} {i:Nat},Oa S C ks→Oa S C (GX S C T f ks i)
 |0,ks,i,h=>h
 |f+1,ks,i,h=>by
  rw [GX];split
  ·rename_i k a;exact V5 hR (VV hR (h k (Nn a)) h)
  ·exact h
theorem SU (hR:Rk S C T) {w:D}:∀{f i:Nat} {ks:List Key},i+f=2000→ks.length≤1+20*i→ks≠[]→Oa S C ks→RX (.int 2000) (.int (i:Nat)) w v0 S C T (BG ks) (.bool ks.isEmpty) (C4 ks)=.row [.int 1,BG (GX S C T f ks i),.bool (GX S C T f ks i).isEmpty,.bool (decide (2000<((GX S C T f ks i).length:Int)))]
 |0,i,ks=>fun h hl hn b=>by
  rw [gY,Gf,GX];by_cases c:(i:Int)<(ks.length:Nat)
  ·rw [ifT c,ifF (by omega)]
  ·rw [ifF c]
 |f+1,i,ks=>fun h hl hn b=>by
  rw [gY,Gf];by_cases c:(i:Int)<(ks.length:Nat)
  ·have d:i<ks.length:=by omega
   have a:ks[i]?=some ks[i]:=E1 d;have g:=b _ (hH d);have e:=Gz (S:=S) (C:=C) (T:=T) (k:=ks[i]);have r:=NC (S:=S) (C:=C) (T:=T) (k:=ks[i]) (l:=enl S C T ks[i]) (ks:=ks);have r2:=Wa (S:=S) (C:=C) (T:=T) (k:=ks[i]) (l:=enl S C T ks[i]) (ks:=ks);have n:=hR.t1
   have j:PO S C T ks ks[i]≠[]:=fun q=>by
    have:(PO S C T ks ks[i]).length=0:=by rw [q];rfl
    unfold PO at this;have:ks.length=0:=by omega
    exact hn (List.length_eq_zero_iff.1 this)
   have m:=SU hR (w:=w) (f:=f) (i:=i+1) (ks:=PO S C T ks ks[i]) (by omega) (by unfold PO;omega) j (VV hR g b)
   rw [ifT c,ifT (by omega),ifF (by omega),BF a,BF a,BF a,BF a,BF a]
   show cond (decide ((sl (Ig (.int ks[i].1) (.int ks[i].2.1) (.int ks[i].2.2.1) (.int ks[i].2.2.2.1) (.int ks[i].2.2.2.2) (BG ks) (.bool ks.isEmpty) (C4 ks) v0 S C T) 0).toInt=1)) (RX (.int 2000) (.int (IntKind.wrap .i64 (i+1))) w v0 S C T (sl (Ig (.int ks[i].1) (.int ks[i].2.1) (.int ks[i].2.2.1) (.int ks[i].2.2.2.1) (.int ks[i].2.2.2.2) (BG ks) (.bool ks.isEmpty) (C4 ks) v0 S C T) 1) (sl (Ig (.int ks[i].1) (.int ks[i].2.1) (.int ks[i].2.2.1) (.int ks[i].2.2.2.1) (.int ks[i].2.2.2.2) (BG ks) (.bool ks.isEmpty) (C4 ks) v0 S C T) 2) (sl (Ig (.int ks[i].1) (.int ks[i].2.1) (.int ks[i].2.2.1) (.int ks[i].2.2.2.1) (.int ks[i].2.2.2.2) (BG ks) (.bool ks.isEmpty) (C4 ks) v0 S C T) 3)) (.row [])=_;rw [ju hR g (by omega)]
   dsimp +instances only [Az,Ay,Ao,Ap];rw [ifT (by rfl),AR (by omega)]
   rw [GX,a];exact m
  ·rw [ifF c,GX,E4 (by omega)]
def Mw:Key:=(0,0,0,0,0)
theorem Wl (hR:Rk S C T):KOk S C Mw:=by
 have h:=hR.s0
 have z:∀j,kc Mw j=0:=fun j=>by
  match j with
  |0=>rfl
  |1=>rfl
  |2=>rfl
  |3=>rfl
  |j+4=>rfl
 refine ⟨Int.le_refl _,by show (0:Int)<_;omega,fun j a=>?_,fun j _=>z j⟩
 rw [z];have:=hR.lim j a;omega
def DQ (S C T:D):List Key:=GX S C T 2000 [Mw] 0
theorem kw (hR:Rk S C T):Yq (ad Aq (.row [.int 0,.int 0,.int 0,.int 0,.int 0])) (.bool false) (.int 2000) v0 S C T=.row [.int 1,BG (DQ S C T),.bool (DQ S C T).isEmpty,.bool (decide (2000<((DQ S C T).length:Int)))]:=by
 have A:=aR (ks:=[]) (k:=Mw) (by show (0:Nat)<_;omega)
 have A:E6 Aw (.bool true) Aq (.int 0) (.int 0) (.int 0) (.int 0) (.int 0)=.row [.int 1,BG [Mw],.bool false,C4 [Mw]]:=A;have l1:len (ad Aq (.row [.int 0,.int 0,.int 0,.int 0,.int 0]))=1:=rfl;rw [qe,ix,l1,ifT (by omega),ifF (by omega)]
 show cond (decide ((sl (E6 Aw (.bool true) Aq (.int 0) (.int 0) (.int 0) (.int 0) (.int 0)) 0).toInt=1)) (V9 (.int 2000) (ad Aq (.row [.int 0,.int 0,.int 0,.int 0,.int 0])) (.bool false) (.int (IntKind.wrap .i64 (0+1))) v0 S C T (sl (E6 Aw (.bool true) Aq (.int 0) (.int 0) (.int 0) (.int 0) (.int 0)) 1) (sl (E6 Aw (.bool true) Aq (.int 0) (.int 0) (.int 0) (.int 0) (.int 0)) 2) (sl (E6 Aw (.bool true) Aq (.int 0) (.int 0) (.int 0) (.int 0) (.int 0)) 3)) (.row [])=_;rw [A];dsimp +instances only [Az,Ay,Ao,Ap];rw [ifT (by rfl),AU (by omega) (by omega),ix,l1,ifF (by omega)]
 exact SU hR (f:=2000) (i:=0) (ks:=[Mw]) (by omega) (by show 1≤_;omega) (by simp) (fun k a=>by rw [Ts.1 a];exact Wl hR)
end
end Ug
namespace Ug
open Go Go.AE
section
variable [Ai]
variable {S C T v0:D}
end
end Ug
namespace Ug
open Go Go.AE
structure NL (ns:List Nat) (d:D):Prop where
 l:len d=ns.length
 c:∀(m s:Nat),ns[m]?=some s→cl d m 0=.int (s:Nat)
theorem cK {l:List Nat}:NL l (CV l):=⟨C8,fun m s h=>GB h⟩
theorem eL {l:List Nat}:Wd (CV l) 1:=by
 intro r a;unfold CV at a;simp only [D.rows,List.mem_map] at a;obtain ⟨s,_,e⟩:=a;subst e;exact ⟨_,rfl,rfl⟩
def kp (T:D) (r:Bool) (s:Nat):Bool:=decide ((cl T s 2).toInt=2)==r
def prt (T:D) (L:List Nat) (r:Bool):List Nat:=L.filter (kp T r)
theorem QL {T:D} {L:List Nat} {r:Bool}:(prt T L r).length≤L.length:=List.length_filter_le _ _
theorem HV {L pre rem:List Nat} {s:Nat} (e:L=pre++s::rem):L[pre.length]?=some s:=by rw [e];simp
section
variable [Ai]
variable {v0 S C T:D}
theorem M7 {L:List Nat} {b r:Bool} (u:∀s∈L,s<len T) (hn:L.length<1000):∀(rem pre:List Nat) (d:D) (i:Nat),L=pre++rem→i=(prt T pre r).length→len d=L.length→Wd d 1→
  (∀m s:Nat,(prt T pre r)[m]?=some s→cl d m 0=.int (s:Nat))→(∀m s:Nat,pre.length≤m→L[m]?=some s→cl d m 0=.int (s:Nat))→
  ∃f,NL (prt T L r) f∧IS d (.bool b) (.int (i:Nat)) (.int (pre.length:Nat)) v0 S C T (.bool r)=.row [.int 1,f,.bool b]
 |[],pre,d,i=>fun e hi hl g o p=>by
  simp only [i0] at e;subst e;have pl:=QL (T:=T) (L:=L) (r:=r);have l1:len (sb d 0 (i:Nat))=i:=by rw [QK (by omega) (by omega)];omega
  refine ⟨sb (sb d 0 (i:Nat)) 0 (i:Nat),⟨by rw [QK (by omega) (by omega)];omega,fun m s t=>?_⟩,?_⟩
  ·have h:m<(prt T L r).length:=by
    rcases F8 m (prt T L r).length with q|q
    ·exact q
    ·rw [E4 q] at t;cases t
   rw [JP (by omega) (by omega),JP (by omega) (by omega)]
   exact o m s t
  ·rw [gz,hl,ifF (by omega),ifF (by omega),ifF (by omega),ifF (by omega),l1]
   cases decide (((L.length:Nat):Int)=((i:Nat):Int))<;>exact ifF (by omega)
 |s::rem,pre,d,i=>fun e hi hl g o p=>by
  have y:=HV e;have hp:pre.length<L.length:=by rw [e];simp
  have t:=u s (by rw [e];simp)
  have z:=p pre.length s (C1 _) y;have x:L=(pre++[s])++rem:=by rw [e];simp
  have j:(pre++[s]).length=pre.length+1:=by simp
  have pl:=QL (T:=T) (L:=pre) (r:=r)
  have skip:kp T r s=false→∃f,NL (prt T L r) f∧IS d (.bool b) (.int (i:Nat)) (.int ((pre.length+1:Nat))) v0 S C T (.bool r)=.row [.int 1,f,.bool b]:=fun q=>by
   have k:prt T (pre++[s]) r=prt T pre r:=by unfold prt;rw [List.filter_append,i8 (by simp [q])];simp
   have l:=M7 (b:=b) u hn rem (pre++[s]) d i x (by rw [k];exact hi) hl g (by rw [k];exact o) (fun m n h a=>p m n (by omega) a)
   rw [j] at l;exact l
  have keep:kp T r s=true→∃f,NL (prt T L r) f∧IS (upd d (i:Nat) 0 (.int (s:Nat))) (.bool b) (.int ((i+1:Nat))) (.int ((pre.length+1:Nat))) v0 S C T (.bool r)=.row [.int 1,f,.bool b]:=fun q=>by
   have k:prt T (pre++[s]) r=prt T pre r++[s]:=by unfold prt;rw [List.filter_append,List.filter_cons_of_pos (by simp [q])];simp
   have l:=M7 (b:=b) u hn rem (pre++[s]) (upd d (i:Nat) 0 (.int (s:Nat))) (i+1) x (by rw [k];simp;exact hi) (by rw [CA];exact hl) (Dl g) (fun m n a=>by
    rw [k] at a;rw [Cl g (by omega) (by omega) (by omega) (by omega)]
    by_cases c:m<(prt T pre r).length
    ·rw [Ea c] at a;rw [if_neg (by omega)]
     exact o m n a
    ·have v:m<(prt T pre r++[s]).length:=by
      rcases F8 m (prt T pre r++[s]).length with q|q
      ·exact q
      ·rw [E4 q] at a;cases a
     simp at v;have w:m=(prt T pre r).length:=by omega
     rw [if_pos ⟨by omega,rfl⟩]
     rw [w] at a;simp at a;rw [a]) (fun m n h a=>by
    rw [Cl g (by omega) (by omega) (by omega) (by omega),if_neg (by omega)]
    exact p m n (by omega) a)
   rw [j] at l;exact l
  rw [gz,hl,ifT (by omega),ifF (by omega),z,Ao,ifF (by omega),ifT (by omega),ifF (show ¬((i:Nat):Int)<0 by omega),ifT (show ((i:Nat):Int)<(L.length:Nat) by omega),AR (by omega),AR (by omega)]
  by_cases q:(cl T s 2).toInt=2
  ·rw [ifT q];have k1:kp T r s=r:=by unfold kp;rw [F6 q];cases r<;>rfl
   cases r
   ·rw [E9];exact skip k1
   ·rw [B4];exact keep k1
  ·rw [ifF q];have k1:kp T r s = !r:=by unfold kp;rw [F1 q];cases r<;>rfl
   cases r
   ·rw [E9];exact keep k1
   ·rw [B4];exact skip k1
theorem lG {L:List Nat} {b r:Bool} (d:∀s∈L,s<len T) (hn:L.length<1000):Of (CV L) (.bool b) v0 S C T (.bool r)=.row [.int 1,.int (fdG (fun j=>match L[j]? with|some s=>!kp T r s|none=>false) L.length 0)]:=by
 rw [nK];refine find (F:=fun j=>Np (CV L) (.bool b) (.int (j:Nat)) v0 S C T (.bool r)) (n:=L.length) (fun j a=>?_) ?_
 ·show Np (CV L) (.bool b) (.int (j:Nat)) v0 S C T (.bool r)=_;have c:L[j]?=some L[j]:=E1 a;have e:=d _ (hH a);rw [gk,C8,ifT (by omega),ifF (by omega),GB c,Ao,ifF (by omega),ifT (by omega),AR (by omega),c]
  show _=cond (!kp T r L[j]) _ _;unfold kp;by_cases q:(cl T (L[j]:Nat) 2).toInt=2
  ·rw [ifT q,F6 q];cases r<;>rfl
  ·rw [ifF q,F1 q];cases r<;>rfl
 ·show Np (CV L) (.bool b) (.int (L.length:Nat)) v0 S C T (.bool r)=_;rw [gk,C8,ifF (by omega)]
theorem ZH {L:List Nat} {b r:Bool} (t:∀s∈L,s<len T) (hn:L.length<1000):∃u,NL (prt T L r) u∧Le (CV L) (.bool b) v0 S C T (.bool r)=.row [.int 1,u,.bool b]:=by
 have w:=Kg (p:=fun j=>match L[j]? with|some s=>!kp T r s|none=>false) (k:=L.length) (i:=0)
 have lt:=Eo (p:=fun j=>match L[j]? with|some s=>!kp T r s|none=>false) (k:=L.length) (i:=0)
 have no:=fun j=>Dq (p:=fun j=>match L[j]? with|some s=>!kp T r s|none=>false) (k:=L.length) (i:=0) (j:=j)
 have is:=IF (p:=fun j=>match L[j]? with|some s=>!kp T r s|none=>false) (k:=L.length) (i:=0)
 rw [rp,lG t hn];dsimp +instances only [Az,Ay,Ao,Ap];rw [ifT (by rfl)]
 generalize fdG (fun j=>match L[j]? with|some s=>!kp T r s|none=>false) L.length 0=n at w lt no is
 by_cases c:n = -1
 ·rw [ifT c]
  have e:prt T L r=L:=List.filter_eq_self.2 fun s hs=>by
   obtain ⟨j,f,e⟩:=X0 hs;have h:=no j (by omega) (.inr ⟨by omega,by omega⟩)
   rw [E1 f] at h;simp only [e] at h;simpa using h
  rw [e];exact ⟨_,cK,rfl⟩
 ·rw [ifF c];have g:n.toNat<L.length:=by omega
  have v:L[n.toNat]?=some L[n.toNat]:=E1 g;have a:=is (by omega)
  rw [v] at a;have a:(!kp T r L[n.toNat])=true:=a
  have d:prt T (L.take n.toNat) r=L.take n.toNat:=List.filter_eq_self.2 fun s hs=>by
   obtain ⟨j,f,e⟩:=X0 hs;have l:j<n.toNat∧j<L.length:=by simp at f;omega
   have h:=no j (by omega) (.inl (by omega))
   rw [E1 l.2] at h;rw [List.getElem_take] at e;simp only [e] at h;simpa using h
  have o:L.take (n.toNat+1)=L.take n.toNat++[L[n.toNat]]:=by rw [List.take_add_one,v];rfl
  have e1:prt T (L.take (n.toNat+1)) r=L.take n.toNat:=by
   rw [o];unfold prt at d ⊢;rw [List.filter_append,d,i8 (by simpa using a)]
   simp
  have x:(L.take (n.toNat+1)).length=n.toNat+1:=by simp;omega
  have X:=M7 (v0:=v0) (S:=S) (C:=C) (T:=T) (b:=b) (r:=r) t hn (L.drop (n.toNat+1)) (L.take (n.toNat+1)) (CV L) n.toNat (List.take_append_drop _ _).symm (by rw [e1];simp;omega) C8 eL (fun m s h=>by
   rw [e1] at h
   have y:m<n.toNat:=by
    rcases F8 m n.toNat with q|q
    ·exact q
    ·rw [E4 (by simp;omega)] at h;cases h
   rw [List.getElem?_take_of_lt y] at h;exact GB h) (fun m s _ h=>GB h)
  rw [x] at X;rw [show n=((n.toNat:Nat):Int) by omega,AR (by omega)]
  exact X
end
def alk (T:D) (s:Nat) (a:D) (m:Nat):Bool:=decide ((cl T s 2).toInt=(cl a m 2).toInt)&&(D.strEq (cl T s 3) (cl a m 3)&&D.strEq (cl T s 4) (cl a m 4))
theorem ZC {T b:D} {s m:Nat}:alk T s b m=alk b m T s:=by
 unfold alk;rw [SQ,AM,AM (a:=cl T s 4)]
def lk (T a:D) (L M:List Nat):Option Nat:=L.find? fun s=>!M.any (alk T s a)
def W4 (p:Nat→Bool) (M:List Nat) (j:Nat):Bool:=match M[j]? with|some m=>p m|none=>false
theorem fK {p:Nat→Bool} {M:List Nat}:decide (fdG (W4 p M) M.length 0<0) = !M.any p:=by
 cases h:M.any p
 ·rw [F6]
  ·rfl
  rw [GG]
  ·omega
  intro j _ a;have a:j<M.length:=by omega
  unfold W4;rw [E1 a];exact (List.any_eq_false.1 h _ (hH a)) |> (by simpa using ·)
 ·rw [F1]
  ·rfl
  intro c;obtain ⟨x,b,hp⟩:=List.any_eq_true.1 h;obtain ⟨j,a,e⟩:=X0 b;have n:=Dq (p:=W4 p M) (k:=M.length) (i:=0) (j:=j) (by omega) (.inr ⟨c,by omega⟩)
  unfold W4 at n;rw [E1 a,e] at n;have n:p x=false:=n;rw [hp] at n;cases n
section
variable [Ai]
variable {v0 S C T v0' S' C' T':D}
theorem j8 {M:List Nat} {dm:D} {b:Bool} {s:Nat} (f:∀m∈M,m<len T') (a:NL M dm) (hn:M.length<1000) (hs:s<len T):U4 dm (.bool b) v0' S' C' T' v0 S C T (.int (s:Nat))=.row [.int 1,.int (fdG (W4 (alk T s T') M) M.length 0)]:=by
 have hl:=a.l;rw [yu];refine find (F:=fun j=>OE dm (.bool b) (.int (j:Nat)) v0' S' C' T' v0 S C T (.int (s:Nat))) (n:=M.length) (fun j d=>?_) ?_
 ·show OE dm (.bool b) (.int (j:Nat)) v0' S' C' T' v0 S C T (.int (s:Nat))=_;have e:M[j]?=some M[j]:=E1 d;have g:=f _ (hH d);rw [gC,hl,ifT (by omega),ifF (by omega),a.c j _ e,Ao,ifF (by omega),ifT (by omega),ifF (by omega),ifT (by omega),AR (by omega)]
  unfold W4;rw [e];show cond (alk T' M[j] T s) _ _=cond (alk T s T' M[j]) _ _;rw [ZC]
 ·show OE dm (.bool b) (.int (M.length:Nat)) v0' S' C' T' v0 S C T (.int (s:Nat))=_;rw [gC,hl,ifF (by omega)]
def lkR:Option Nat→D
 |some s=>.row [.int 1,.int (s:Nat),.bool true]
 |none=>.row [.int 1,.int 0,.bool false]
theorem SC {L M:List Nat} {f dm:D} {b b':Bool} (g:∀s∈L,s<len T) (h:∀m∈M,m<len T') (hl:NL L f) (i:NL M dm) (hn:L.length<1000) (a:M.length<1000):∀(rem pre:List Nat),L=pre++rem→V4 dm (.bool b') f (.bool b) (.int (pre.length:Nat)) v0 S C T v0' S' C' T'=lkR (lk T T' rem M)
 |[],pre=>fun e=>by
  have:L.length=pre.length:=by rw [e];simp
  rw [gM,hl.l,ifF (by omega)]
  rfl
 |s::rem,pre=>fun e=>by
  have k:=HV e;have hp:pre.length<L.length:=by rw [e];simp
  have hs:=g s (by rw [e];simp)
  have n:L=(pre++[s])++rem:=by rw [e];simp
  have d:(pre++[s]).length=pre.length+1:=by simp
  have j:=SC (b:=b) (b':=b') g h hl i hn a rem (pre++[s]) n;rw [d] at j;rw [gM,hl.l,ifT (by omega),ifF (by omega),hl.c _ _ k,j8 h i a hs]
  dsimp +instances only [Az,Ay,Ao,Ap];rw [ifT (by rfl),fK,AR (by omega),j]
  unfold lk;rw [List.find?_cons];cases (!M.any (alk T s T'))<;>rfl
theorem aP {L M:List Nat} {c dm:D} {b d:Bool} (e:∀s∈L,s<len T) (f:∀m∈M,m<len T') (hl:NL L c) (g:NL M dm) (hn:L.length<1000) (a:M.length<1000):KD v0 S C T c (.bool b) v0' S' C' T' dm (.bool d)=lkR (lk T T' L M):=
 (tN ..).trans (SC e f hl g hn a L [] rfl)
end
end Ug
namespace Ug
open Go Go.AE
abbrev PK:=Key×Key
abbrev K10:List Kd:=[.int .i64,.int .i64,.int .i64,.int .i64,.int .i64,.int .i64,.int .i64,.int .i64,.int .i64,.int .i64]
def DW (p:PK):List D:=[.int p.1.1,.int p.1.2.1,.int p.1.2.2.1,.int p.1.2.2.2.1,.int p.1.2.2.2.2,.int p.2.1,.int p.2.2.1,.int p.2.2.2.1,.int p.2.2.2.2.1,.int p.2.2.2.2.2]
def AP (ps:List PK):D:=.slc ps.isEmpty (ps.map fun p=>.row (DW p))
def BX (ps:List PK):D:=.slc false (ps.map fun p=>.row (DW p++[.bool true]))
theorem Ds {ps:List PK}:len (AP ps)=ps.length:=by unfold AP len;simp [D.rows]
theorem XF {a:List PK}:len (BX a)=a.length:=by unfold BX len;simp [D.rows]
theorem A9 {ps:List PK} {j c:Nat} {p:PK} (h:ps[j]?=some p):cl (AP ps) j c=(DW p).getD c default:=by
 show (((ps.map fun p=>D.row (DW p))[j]?).getD default).cells.getD c default=_
 rw [P8,h];rfl
theorem ah {a b:PK} {l:List D}:CC K10 (DW a++l) (DW b)=decide (a=b):=by
 obtain ⟨⟨a1,a2,a3,a4,a5⟩,a6,a7,a8,a9,a10⟩:=a;obtain ⟨⟨b1,b2,b3,d,e⟩,f,g,h,i,c⟩:=b;simp only [K10,DW,List.cons_append,List.nil_append,CC,Ao,g6];rw [Bool.eq_iff_iff];simp;omega
theorem XX {a:List PK} {p:PK}:mIx K10 (BX a) (.row (DW p))=fdG (fun i=>decide (a[i]?=some p)) a.length 0:=by
 rw [VH,XF];refine Cu fun j _ c=>?_
 show CC K10 ((((a.map fun p=>D.row (DW p++[.bool true]))[j]?).getD default).cells) (DW p)=_
 have b:j<a.length:=by omega
 rw [P8,E1 b];show CC K10 (DW a[j]++[.bool true]) (DW p)=_;rw [ah];simp
def BY (ps:List PK) (p:PK):List PK:=if p∈ps then ps else ps++[p]
theorem Jq {ps:List PK} {p:PK}:(BY ps p).length≤ps.length+1:=by
 unfold BY;split
 ·omega
 ·simp
theorem EL:∀{l ps:List PK},(l.foldl BY ps).length≤ps.length+l.length
 |[],ps=>by simp
 |s::l,ps=>by
  have:=EL (l:=l) (ps:=BY ps s);have:=Jq (ps:=ps) (p:=s);simp only [List.foldl_cons,F2];omega
section
variable [Ai]
variable {v0 S C T v0' S' C' T':D} {w8 w9 w11 w12:D} {b10 b13:Bool} {i14 i15:Int}
theorem Ul {ps:List PK} {p:PK} (hl:ps.length<1073741824):Jd (AP ps) (.bool ps.isEmpty) (BX ps) (.int p.1.1) (.int p.1.2.1) (.int p.1.2.2.1) (.int p.1.2.2.2.1) (.int p.1.2.2.2.2) (.int p.2.1) (.int p.2.2.1) (.int p.2.2.2.1) (.int p.2.2.2.2.1) (.int p.2.2.2.2.2)=.row [.int 1,AP (BY ps p),.bool (BY ps p).isEmpty,BX (BY ps p)]:=by
 rw [yw];have e:D.row [(.int p.1.1),(.int p.1.2.1),(.int p.1.2.2.1),(.int p.1.2.2.2.1),(.int p.1.2.2.2.2),(.int p.2.1),(.int p.2.2.1),(.int p.2.2.2.1),(.int p.2.2.2.2.1),(.int p.2.2.2.2.2)]=.row (DW p):=rfl;rw [e,XX,Ds];by_cases c:p∈ps
 ·obtain ⟨j,d,a⟩:=X0 c;have q:=Iu (p:=fun i=>decide (ps[i]?=some p)) (k:=ps.length) (i:=0) (j:=j) (by omega) (by omega) (F6 (by rw [E1 d,a]))
  have lt:=Eo (p:=fun i=>decide (ps[i]?=some p)) (k:=ps.length) (i:=0)
  have b:BY ps p=ps:=if_pos c;rw [ifF (by omega),b]
  have cb:∀i:Int,0≤i→i<ps.length→cl (BX ps) i 10=.bool true:=fun i h0 h1=>by
   show (((ps.map fun p=>D.row (DW p++[.bool true]))[i.toNat]?).getD default).cells.getD 10 default=_
   rw [P8,E1 (by omega)]
   rfl
  rw [cb _ q.1 (by omega)]
  rfl
 ·have q:fdG (fun i=>decide (ps[i]?=some p)) ps.length 0 = -1:=GG fun j _ d=>F1 fun h=>c (Nn h)
  have b:BY ps p=ps++[p]:=if_neg c;rw [ifT (by omega),ifT (by omega),b]
  have e1:ad (AP ps) (.row (DW p))=AP (ps++[p]):=by
   unfold AP ad;simp [D.rows]
  have f:ad (BX ps) (.row [(.int p.1.1),(.int p.1.2.1),(.int p.1.2.2.1),(.int p.1.2.2.2.1),(.int p.1.2.2.2.2),(.int p.2.1),(.int p.2.2.1),(.int p.2.2.2.1),(.int p.2.2.2.2.1),(.int p.2.2.2.2.2),.bool true])=BX (ps++[p]):=by
   unfold BX ad;simp [D.rows,DW]
  rw [e1,f];simp
omit [Ai] in
theorem Uf {k:Key}:∀s∈enl S C T k,s<len T:=fun s h=>(Gp h).1
omit [Ai] in
theorem Qy {k:Key} {r:Bool}:∀s∈prt T (enl S C T k) r,s<len T:=fun s h=>Uf s (i9.1 h).1
omit [Ai] in
theorem Hg {k:Key} {r:Bool}:∀s∈prt T (enl S C T k) r,s<len T∧en S C T k s=true:=fun s h=>Gp (i9.1 h).1
omit [Ai] in
theorem Du (hR:Rk S C T) {k:Key} {r:Bool}:(prt T (enl S C T k) r).length≤20:=by
 have:=QL (T:=T) (L:=enl S C T k) (r:=r);have:=Gz (S:=S) (C:=C) (T:=T) (k:=k);have:=hR.t1;omega
theorem Mm (hR:Rk S C T) (a:Rk S' C' T') {p:PK} (d:KOk S C p.1) (c:KOk S' C' p.2) {r:Bool}:∃da db fa fb,NL (prt T (enl S C T p.1) r) da∧NL (prt T' (enl S' C' T' p.2) r) db∧
  OP v0 S C T v0' S' C' T' w8 w9 w11 w12 (.int i14) (.int i15) (.int p.1.1) (.int p.1.2.1) (.int p.1.2.2.1) (.int p.1.2.2.2.1) (.int p.1.2.2.2.2) (.int p.2.1) (.int p.2.2.1) (.int p.2.2.2.1) (.int p.2.2.2.2.1) (.int p.2.2.2.2.2) (.bool r)=.row [.int 1,da,.bool fa,db,.bool fb]:=by
 have f:=hR.t1;have e:=a.t1;have l1:=Gz (S:=S) (C:=C) (T:=T) (k:=p.1);have l2:=Gz (S:=S') (C:=C') (T:=T') (k:=p.2);obtain ⟨da,a1,a2⟩:=ZH (v0:=v0) (S:=S) (C:=C) (T:=T) (L:=enl S C T p.1) (b:=(enl S C T p.1).isEmpty) (r:=r) Uf (by omega)
 obtain ⟨db,b1,b2⟩:=ZH (v0:=v0') (S:=S') (C:=C') (T:=T') (L:=enl S' C' T' p.2) (b:=(enl S' C' T' p.2).isEmpty) (r:=r) Uf (by omega)
 refine ⟨da,db,(enl S C T p.1).isEmpty,(enl S' C' T' p.2).isEmpty,a1,b1,?_⟩;rw [ua (h0:=rfl) (h1:=rfl),TN hR d,TN a c];dsimp +instances only [Az,Ay,Ao,Ap];rw [a2,b2];rfl
def flt (S C T S' C' T':D) (p:PK):Nat×Nat:=
 match lk T T' (prt T (enl S C T p.1) true) (prt T' (enl S' C' T' p.2) true) with
 |some s=>(1,s)
 |none=>match lk T' T (prt T' (enl S' C' T' p.2) false) (prt T (enl S C T p.1) false) with
  |some s=>(2,s)
  |none=>if 0<(prt T (enl S C T p.1) false).length∧(prt T' (enl S' C' T' p.2) false).length=0 then (3,0)
   else if (cl S p.1.1 1).toBool=(cl S' p.2.1 1).toBool then (0,0) else (4,0)
theorem Ys (hR:Rk S C T) (b:Rk S' C' T') {p:PK} (d:KOk S C p.1) (a:KOk S' C' p.2) :
  YY v0 S C T v0' S' C' T' w8 w9 w11 w12 (.int i14) (.int i15) (.int p.1.1) (.int p.1.2.1) (.int p.1.2.2.1) (.int p.1.2.2.2.1) (.int p.1.2.2.2.2) (.int p.2.1) (.int p.2.2.1) (.int p.2.2.2.1) (.int p.2.2.2.2.1) (.int p.2.2.2.2.2)=.row [.int 1,.int ((flt S C T S' C' T' p).1:Nat),.int ((flt S C T S' C' T' p).2:Nat)]:=by
 have s1:=d.s0;have g:=d.s1;have i:=a.s0;have j:=a.s1;obtain ⟨da,db,fa,fb,a1,a2,a3⟩:=Mm (v0:=v0) (v0':=v0') (w8:=w8) (w9:=w9) (w11:=w11) (w12:=w12) (i14:=i14) (i15:=i15) hR b d a (r:=true);obtain ⟨m,n,o,fd,c1,c2,c3⟩:=Mm (v0:=v0) (v0':=v0') (w8:=w8) (w9:=w9) (w11:=w11) (w12:=w12) (i14:=i14) (i15:=i15) hR b d a (r:=false);have m1:∀r,(prt T (enl S C T p.1) r).length<1000:=fun r=>by have:=Du hR (k:=p.1) (r:=r);omega
 have m2:∀r,(prt T' (enl S' C' T' p.2) r).length<1000:=fun r=>by have:=Du b (k:=p.2) (r:=r);omega
 rw [nu (h0:=rfl) (h1:=rfl),a3,c3];dsimp +instances only [Az,Ay,Ao,Ap];rw [ifT (by rfl),aP Qy Qy a1 a2 (m1 _) (m2 _)]
 unfold flt;cases lk T T' (prt T (enl S C T p.1) true) (prt T' (enl S' C' T' p.2) true) with
 |some s=>rfl
 |none=>
  unfold lkR;dsimp +instances only [Az,Ay,Ao,Ap];rw [ifT (by rfl),E9,ifT (by rfl),aP Qy Qy c2 c1 (m2 _) (m1 _)]
  cases lk T' T (prt T' (enl S' C' T' p.2) false) (prt T (enl S C T p.1) false) with
  |some s=>rfl
  |none=>
   unfold lkR;dsimp +instances only [Az,Ay,Ao,Ap];rw [ifT (by rfl),E9,c1.l,c2.l]
   have fin:cond (decide (p.1.1<0)) (.row []) (cond (decide (p.1.1<(len S:Int))) (cond (decide (p.2.1<0)) (.row []) (cond (decide (p.2.1<(len S':Int))) (cond ((cl S p.1.1 1).toBool) (cond ((cl S' p.2.1 1).toBool) (D.row [.int 1,(.int 0),(.int 0)]) (.row [.int 1,(.int 4),(.int 0)])) (cond ((cl S' p.2.1 1).toBool) (.row [.int 1,(.int 4),(.int 0)]) (.row [.int 1,(.int 0),(.int 0)]))) (.row []))) (.row [])) =
     .row [.int 1,.int (((if (cl S p.1.1 1).toBool=(cl S' p.2.1 1).toBool then ((0,0):Nat×Nat) else (4,0)).1:Nat)),.int (((if (cl S p.1.1 1).toBool=(cl S' p.2.1 1).toBool then ((0,0):Nat×Nat) else (4,0)).2:Nat))]:=by
    rw [ifF (by omega),ifT (by omega),ifF (by omega),ifT (by omega)]
    cases (cl S p.1.1 1).toBool<;>cases (cl S' p.2.1 1).toBool<;>rfl
   by_cases e:0<(prt T (enl S C T p.1) false).length
   ·rw [ifT (by omega)]
    by_cases f:(prt T' (enl S' C' T' p.2) false).length=0
    ·rw [ifT (by omega),if_pos ⟨e,f⟩]
     rfl
    ·rw [ifF (by omega),if_neg (fun c=>f c.2)]
     exact fin
   ·rw [ifF (by omega),if_neg (fun c=>e c.1)]
    exact fin
omit [Ai] in
theorem Cf.st (hR:Rk S C T) {k:Key} (hk:KOk S C k) {t x:D} (hx:Cf S C k t x):Ug.fd S t=k.1:=by
 have s0:=hk.s0;have s1:=hk.s1;have i1:=hR.sid k.1.toNat (by omega)
 rw [show ((k.1.toNat:Nat):Int)=k.1 by omega] at i1
 rw [←i1];unfold Ug.fd;refine Cu fun j _ _=>?_
 show D.strEq (cl S j 0) t=D.strEq (cl S j 0) (cl S k.1 0);rw [AM (b:=cl S k.1 0),EG hx.t,AM]
end
end Ug
namespace Ug
open Go Go.AE
def nxP (S C T a b c:D) (p:PK) (i m:Nat):PK:=(nx S C T p.1 i,nx a b c p.2 m)
def PQ (S C T S' C' T':D) (p:PK) (i:Nat) (M:List Nat):List PK:=(M.filter fun m=>alk T i T' m).map fun m=>nxP S C T S' C' T' p i m
def Qa (S C T S' C' T':D) (p:PK) (m:Nat) (L:List Nat):List PK:=(L.filter fun i=>alk T i T' m).map fun i=>nxP S C T S' C' T' p i m
def crT (S C T S' C' T':D) (p:PK) (L M:List Nat):List PK:=L.flatMap fun i=>PQ S C T S' C' T' p i M
def crF (S C T S' C' T':D) (p:PK) (L M:List Nat):List PK:=M.flatMap fun m=>Qa S C T S' C' T' p m L
def bhd (S C T S' C' T':D) (p:PK):List PK:=
 crT S C T S' C' T' p (prt T (enl S C T p.1) true) (prt T' (enl S' C' T' p.2) true)++crF S C T S' C' T' p (prt T (enl S C T p.1) false) (prt T' (enl S' C' T' p.2) false)
theorem R5 {S C T S' C' T':D} {p:PK} {i:Nat} {M:List Nat}:(PQ S C T S' C' T' p i M).length≤M.length:=by
 unfold PQ;rw [List.length_map];exact List.length_filter_le _ _
theorem SA {S C T S' C' T':D} {p:PK} {i:Nat} {M:List Nat}:(Qa S C T S' C' T' p i M).length≤M.length:=by
 unfold Qa;rw [List.length_map];exact List.length_filter_le _ _
theorem PU {S C T S' C' T':D} {p:PK} {M:List Nat} (c:M.length≤20):∀{L:List Nat},(crT S C T S' C' T' p L M).length≤20*L.length
 |[]=>by simp [crT]
 |i::L=>by
  have a:=PU (S:=S) (C:=C) (T:=T) (S':=S') (C':=C') (T':=T') (p:=p) c (L:=L);have b:=R5 (S:=S) (C:=C) (T:=T) (S':=S') (C':=C') (T':=T') (p:=p) (i:=i) (M:=M);unfold crT at a ⊢;rw [List.flatMap_cons,L1,F2];omega
theorem Wy {S C T S' C' T':D} {p:PK} {L:List Nat} (c:L.length≤20):∀{M:List Nat},(crF S C T S' C' T' p L M).length≤20*M.length
 |[]=>by simp [crF]
 |i::M=>by
  have a:=Wy (S:=S) (C:=C) (T:=T) (S':=S') (C':=C') (T':=T') (p:=p) c (M:=M);have b:=SA (S:=S) (C:=C) (T:=T) (S':=S') (C':=C') (T':=T') (p:=p) (i:=i) (M:=L);unfold crF at a ⊢;rw [List.flatMap_cons,L1,F2];omega
theorem dQ {S C T S' C' T':D} (hR:Rk S C T) (e:Rk S' C' T') {p:PK}:(bhd S C T S' C' T' p).length≤800:=by
 have a:=Du hR (k:=p.1) (r:=true);have b:=Du hR (k:=p.1) (r:=false);have c:=Du e (k:=p.2) (r:=true);have d:=Du e (k:=p.2) (r:=false);have x:=PU (S:=S) (C:=C) (T:=T) (S':=S') (C':=C') (T':=T') (p:=p) c (L:=prt T (enl S C T p.1) true);have y:=Wy (S:=S) (C:=C) (T:=T) (S':=S') (C':=C') (T':=T') (p:=p) b (M:=prt T' (enl S' C' T' p.2) false);unfold bhd;rw [L1];omega
def POk (S C S' C':D) (p:PK):Prop:=KOk S C p.1∧KOk S' C' p.2
def UH (S C S' C':D) (ps:List PK):Prop:=∀p∈ps,POk S C S' C' p
theorem YZ {S C T a b c:D} (hR:Rk S C T) (d:Rk a b c) {p:PK} (hp:POk S C a b p) {i m:Nat} (hi:i<len T∧en S C T p.1 i=true) (e:m<len c∧en a b c p.2 m=true):POk S C a b (nxP S C T a b c p i m):=
 ⟨Ow hR hp.1 hi.1 hi.2,Ow d hp.2 e.1 e.2⟩
theorem jY {S C T b c e:D} (hR:Rk S C T) (a:Rk b c e) {p:PK} (hp:POk S C b c p):UH S C b c (bhd S C T b c e p):=by
 intro q f;unfold bhd at f;rcases eq.1 f with h|h
 ·obtain ⟨i,hi,h⟩:=List.mem_flatMap.1 h;obtain ⟨m,d,rfl⟩:=List.mem_map.1 h;exact YZ hR a hp (Hg i hi) (Hg m (i9.1 d).1)
 ·obtain ⟨m,d,h⟩:=List.mem_flatMap.1 h;obtain ⟨i,hi,rfl⟩:=List.mem_map.1 h;exact YZ hR a hp (Hg i (i9.1 hi).1) (Hg m d)
theorem Ns {S C S' C':D}:∀{l ps:List PK},UH S C S' C' l→UH S C S' C' ps→UH S C S' C' (l.foldl BY ps)
 |[],ps=>fun _ h=>h
 |q::l,ps=>fun hl h=>by
  rw [List.foldl_cons];refine Ns (fun x a=>hl x (List.mem_cons_of_mem _ a)) fun x a=>?_
  unfold BY at a;split at a
  ·exact h x a
  ·rcases eq.1 a with z|z
   ·exact h x z
   ·rw [Ts.1 z];exact hl q List.mem_cons_self
section
variable [Ai]
variable {v0 S C T v0' S' C' T':D} {w8 w9 w11 w12:D} {b10 b13:Bool} {i14 i15:Int}
theorem LI (hR:Rk S C T) {k:Key} (a:KOk S C k) {s:Nat} (hs:s<len T∧en S C T k s=true):Hy (.int k.1) (.int k.2.1) (.int k.2.2.1) (.int k.2.2.2.1) (.int k.2.2.2.2) v0 S C T (.int (s:Nat))=.row [.int 1,.int (nx S C T k s).1,.int (nx S C T k s).2.1,.int (nx S C T k s).2.2.1,.int (nx S C T k s).2.2.2.1,.int (nx S C T k s).2.2.2.2]:=P5 hR a hs.1 hs.2 v0
theorem Ut (hR:Rk S C T) (a:Rk S' C' T') {p:PK} (hp:POk S C S' C' p) {s i n:Nat} (hs:s<len T∧en S C T p.1 s=true) {da db:D} {fa fb:Bool} {M:List Nat} (h:∀m∈M,m<len T'∧en S' C' T' p.2 m=true) (b:NL M db) (d:M.length<1000) (hi:i<100000) :
  ∀(rem pre:List Nat) (ps:List PK),M=pre++rem→ps.length+rem.length<1073741824→
  Q9 db (.bool fb) (.int (s:Nat)) da (.bool fa) (.int (n:Nat)) (.int (i:Nat)) (.int (pre.length:Nat)) v0 S C T v0' S' C' T' w8 w9 w11 w12 (.int i14) (.int i15) (AP ps) (.bool (ps).isEmpty) (BX ps) (.int p.1.1) (.int p.1.2.1) (.int p.1.2.2.1) (.int p.1.2.2.2.1) (.int p.1.2.2.2.2) (.int p.2.1) (.int p.2.2.1) (.int p.2.2.2.1) (.int p.2.2.2.2.1) (.int p.2.2.2.2.2)=O2 db (.bool fb) da (.bool fa) (.int (n:Nat)) (.int (i+1:Nat)) v0 S C T v0' S' C' T' w8 w9 w11 w12 (.int i14) (.int i15) (AP ((PQ S C T S' C' T' p s rem).foldl BY ps)) (.bool (((PQ S C T S' C' T' p s rem).foldl BY ps)).isEmpty) (BX ((PQ S C T S' C' T' p s rem).foldl BY ps)) (.int p.1.1) (.int p.1.2.1) (.int p.1.2.2.1) (.int p.1.2.2.2.1) (.int p.1.2.2.2.2) (.int p.2.1) (.int p.2.2.1) (.int p.2.2.2.1) (.int p.2.2.2.2.1) (.int p.2.2.2.2.2)
 |[],pre,ps=>fun e hl=>by
  have:M.length=pre.length:=by rw [e];simp
  rw [gt (h0:=rfl) (h1:=rfl) (h2:=rfl),b.l,ifF (by omega),AR (by omega)]
  rfl
 |m::rem,pre,ps=>fun e hl=>by
  have j:=HV e;have o:pre.length<M.length:=by rw [e];simp
  have r:=h m (by rw [e];simp)
  have k:M=(pre++[m])++rem:=by rw [e];simp
  have f:(pre++[m]).length=pre.length+1:=by simp
  have t:(m::rem).length=rem.length+1:=rfl;have u:=LI (v0:=v0) hR hp.1 hs;have v:Hy (.int p.2.1) (.int p.2.2.1) (.int p.2.2.2.1) (.int p.2.2.2.2.1) (.int p.2.2.2.2.2) v0' S' C' T' (cl db (pre.length:Nat) 0)=.row [.int 1,(.int (nx S' C' T' p.2 m).1),(.int (nx S' C' T' p.2 m).2.1),(.int (nx S' C' T' p.2 m).2.2.1),(.int (nx S' C' T' p.2 m).2.2.2.1),(.int (nx S' C' T' p.2 m).2.2.2.2)]:=by rw [b.c _ _ j];exact LI (v0:=v0') a hp.2 r
  have w:=Ul (ps:=ps) (p:=nxP S C T S' C' T' p s m) (by omega)
  have al:=Jq (ps:=ps) (p:=nxP S C T S' C' T' p s m);rw [gt (h0:=v) (h1:=u) (h2:=w),b.l,ifT (by omega),ifF (by omega),ifF (by omega),ifT (by omega),b.c _ _ j,Ao,ifF (by omega),ifT (by omega),AR (by omega)]
  show cond (alk T s T' m) _ _=_;unfold PQ;cases q:alk T s T' m
  ·have g:=Ut (s:=s) (i:=i) (n:=n) (da:=da) (fa:=fa) (fb:=fb) hR a hp hs h b d hi rem (pre++[m]) ps k (by omega)
   rw [f] at g;rw [i8 (by simp [q])]
   exact g
  ·have g:=Ut (s:=s) (i:=i) (n:=n) (da:=da) (fa:=fa) (fb:=fb) hR a hp hs h b d hi rem (pre++[m]) (BY ps (nxP S C T S' C' T' p s m)) k (by omega)
   rw [f] at g;rw [List.filter_cons_of_pos (by simp [q]),i6,List.foldl_cons]
   exact g
theorem U8 (hR:Rk S C T) (b:Rk S' C' T') {p:PK} (hp:POk S C S' C' p) {da db:D} {fa fb:Bool} {L M:List Nat} (j:∀s∈L,s<len T∧en S C T p.1 s=true) (k:∀m∈M,m<len T'∧en S' C' T' p.2 m=true) (a:NL L da) (d:NL M db) (g:L.length<1000) (f:M.length<1000) :
  ∀(rem pre:List Nat) (ps:List PK),L=pre++rem→ps.length+rem.length*M.length<1073741824→
  O2 db (.bool fb) da (.bool fa) (.int (L.length:Nat)) (.int (pre.length:Nat)) v0 S C T v0' S' C' T' w8 w9 w11 w12 (.int i14) (.int i15) (AP ps) (.bool (ps).isEmpty) (BX ps) (.int p.1.1) (.int p.1.2.1) (.int p.1.2.2.1) (.int p.1.2.2.2.1) (.int p.1.2.2.2.2) (.int p.2.1) (.int p.2.2.1) (.int p.2.2.2.1) (.int p.2.2.2.2.1) (.int p.2.2.2.2.2)=O2 db (.bool fb) da (.bool fa) (.int (L.length:Nat)) (.int (L.length:Nat)) v0 S C T v0' S' C' T' w8 w9 w11 w12 (.int i14) (.int i15) (AP ((crT S C T S' C' T' p rem M).foldl BY ps)) (.bool (((crT S C T S' C' T' p rem M).foldl BY ps)).isEmpty) (BX ((crT S C T S' C' T' p rem M).foldl BY ps)) (.int p.1.1) (.int p.1.2.1) (.int p.1.2.2.1) (.int p.1.2.2.2.1) (.int p.1.2.2.2.2) (.int p.2.1) (.int p.2.2.1) (.int p.2.2.2.1) (.int p.2.2.2.2.1) (.int p.2.2.2.2.2)
 |[],pre,ps=>fun e hl=>by
  have:L.length=pre.length:=by rw [e];simp
  rw [this];rfl
 |s::rem,pre,ps=>fun e hl=>by
  have q:=HV e;have r:pre.length<L.length:=by rw [e];simp
  have hs:=j s (by rw [e];simp)
  have t:L=(pre++[s])++rem:=by rw [e];simp
  have h:(pre++[s]).length=pre.length+1:=by simp
  have u:(s::rem).length*M.length=rem.length*M.length+M.length:=by rw [F2,Nat.succ_mul]
  have rl:=R5 (S:=S) (C:=C) (T:=T) (S':=S') (C':=C') (T':=T') (p:=p) (i:=s) (M:=M);have al:=EL (l:=PQ S C T S' C' T' p s M) (ps:=ps);have o:=U8 (da:=da) (db:=db) (fa:=fa) (fb:=fb) hR b hp j k a d g f rem (pre++[s]) ((PQ S C T S' C' T' p s M).foldl BY ps) t (by omega)
  rw [h] at o;have I:=Ut (s:=s) (i:=pre.length) (n:=L.length) (da:=da) (fa:=fa) (fb:=fb) (w8:=w8) (w9:=w9) (w11:=w11) (w12:=w12) (i14:=i14) (i15:=i15) (v0:=v0) (v0':=v0') hR b hp hs k d f (by omega) M [] ps rfl (by omega)
  rw [gW (h0:=rfl),ifT (by omega),ifF (by omega),a.l,ifT (by omega),a.c _ _ q]
  refine I.trans (o.trans ?_);unfold crT;rw [List.flatMap_cons,List.foldl_append]
theorem Qv (hR:Rk S C T) (a:Rk S' C' T') {p:PK} (hp:POk S C S' C' p) {s i n:Nat} (hs:s<len T'∧en S' C' T' p.2 s=true) {da db:D} {fa fb:Bool} {L:List Nat} (h:∀m∈L,m<len T∧en S C T p.1 m=true) (b:NL L da) (d:L.length<1000) (hi:i<100000) :
  ∀(rem pre:List Nat) (ps:List PK),L=pre++rem→ps.length+rem.length<1073741824→
  SN da (.bool fa) (.int (s:Nat)) db (.bool fb) (.int (n:Nat)) (.int (i:Nat)) (.int (pre.length:Nat)) v0 S C T v0' S' C' T' w8 w9 w11 w12 (.int i14) (.int i15) (AP ps) (.bool (ps).isEmpty) (BX ps) (.int p.1.1) (.int p.1.2.1) (.int p.1.2.2.1) (.int p.1.2.2.2.1) (.int p.1.2.2.2.2) (.int p.2.1) (.int p.2.2.1) (.int p.2.2.2.1) (.int p.2.2.2.2.1) (.int p.2.2.2.2.2)=Sg da (.bool fa) db (.bool fb) (.int (n:Nat)) (.int (i+1:Nat)) v0 S C T v0' S' C' T' w8 w9 w11 w12 (.int i14) (.int i15) (AP ((Qa S C T S' C' T' p s rem).foldl BY ps)) (.bool (((Qa S C T S' C' T' p s rem).foldl BY ps)).isEmpty) (BX ((Qa S C T S' C' T' p s rem).foldl BY ps)) (.int p.1.1) (.int p.1.2.1) (.int p.1.2.2.1) (.int p.1.2.2.2.1) (.int p.1.2.2.2.2) (.int p.2.1) (.int p.2.2.1) (.int p.2.2.2.1) (.int p.2.2.2.2.1) (.int p.2.2.2.2.2)
 |[],pre,ps=>fun e hl=>by
  have:L.length=pre.length:=by rw [e];simp
  rw [gl (h0:=rfl) (h1:=rfl) (h2:=rfl),b.l,ifF (by omega),AR (by omega)]
  rfl
 |m::rem,pre,ps=>fun e hl=>by
  have j:=HV e;have o:pre.length<L.length:=by rw [e];simp
  have r:=h m (by rw [e];simp)
  have k:L=(pre++[m])++rem:=by rw [e];simp
  have f:(pre++[m]).length=pre.length+1:=by simp
  have t:(m::rem).length=rem.length+1:=rfl;have u:=LI (v0:=v0') a hp.2 hs;have v:Hy (.int p.1.1) (.int p.1.2.1) (.int p.1.2.2.1) (.int p.1.2.2.2.1) (.int p.1.2.2.2.2) v0 S C T (cl da (pre.length:Nat) 0)=.row [.int 1,(.int (nx S C T p.1 m).1),(.int (nx S C T p.1 m).2.1),(.int (nx S C T p.1 m).2.2.1),(.int (nx S C T p.1 m).2.2.2.1),(.int (nx S C T p.1 m).2.2.2.2)]:=by rw [b.c _ _ j];exact LI (v0:=v0) hR hp.1 r
  have w:=Ul (ps:=ps) (p:=nxP S C T S' C' T' p m s) (by omega)
  have al:=Jq (ps:=ps) (p:=nxP S C T S' C' T' p m s);rw [gl (h0:=v) (h1:=u) (h2:=w),b.l,ifT (by omega),ifF (by omega),b.c _ _ j,Ao,ifF (by omega),ifT (by omega),ifF (by omega),ifT (by omega),AR (by omega)]
  show cond (alk T m T' s) _ _=_;unfold Qa;cases q:alk T m T' s
  ·have g:=Qv (s:=s) (i:=i) (n:=n) (db:=db) (fa:=fa) (fb:=fb) hR a hp hs h b d hi rem (pre++[m]) ps k (by omega)
   rw [f] at g;rw [i8 (by simp [q])]
   exact g
  ·have g:=Qv (s:=s) (i:=i) (n:=n) (db:=db) (fa:=fa) (fb:=fb) hR a hp hs h b d hi rem (pre++[m]) (BY ps (nxP S C T S' C' T' p m s)) k (by omega)
   rw [f] at g;rw [List.filter_cons_of_pos (by simp [q]),i6,List.foldl_cons]
   exact g
theorem R4 (hR:Rk S C T) (b:Rk S' C' T') {p:PK} (hp:POk S C S' C' p) {da db:D} {fa fb:Bool} {L M:List Nat} (j:∀s∈L,s<len T∧en S C T p.1 s=true) (k:∀m∈M,m<len T'∧en S' C' T' p.2 m=true) (d:NL L da) (a:NL M db) (f:L.length<1000) (g:M.length<1000) :
  ∀(rem pre:List Nat) (ps:List PK),M=pre++rem→ps.length+rem.length*L.length<1073741824→
  Sg da (.bool fa) db (.bool fb) (.int (M.length:Nat)) (.int (pre.length:Nat)) v0 S C T v0' S' C' T' w8 w9 w11 w12 (.int i14) (.int i15) (AP ps) (.bool (ps).isEmpty) (BX ps) (.int p.1.1) (.int p.1.2.1) (.int p.1.2.2.1) (.int p.1.2.2.2.1) (.int p.1.2.2.2.2) (.int p.2.1) (.int p.2.2.1) (.int p.2.2.2.1) (.int p.2.2.2.2.1) (.int p.2.2.2.2.2)=.row [.int 1,.bool false,w8,w9,w11,w12,(.int i14),(.int i15),(AP ((crF S C T S' C' T' p L rem).foldl BY ps)),(.bool (((crF S C T S' C' T' p L rem).foldl BY ps)).isEmpty),(BX ((crF S C T S' C' T' p L rem).foldl BY ps))]
 |[],pre,ps=>fun e hl=>by
  have:M.length=pre.length:=by rw [e];simp
  rw [ir,ifF (by omega)]
  rfl
 |s::rem,pre,ps=>fun e hl=>by
  have q:=HV e;have r:pre.length<M.length:=by rw [e];simp
  have hs:=k s (by rw [e];simp)
  have t:M=(pre++[s])++rem:=by rw [e];simp
  have h:(pre++[s]).length=pre.length+1:=by simp
  have u:(s::rem).length*L.length=rem.length*L.length+L.length:=by rw [F2,Nat.succ_mul]
  have rl:=SA (S:=S) (C:=C) (T:=T) (S':=S') (C':=C') (T':=T') (p:=p) (i:=s) (M:=L);have al:=EL (l:=Qa S C T S' C' T' p s L) (ps:=ps);have o:=R4 (da:=da) (db:=db) (fa:=fa) (fb:=fb) hR b hp j k d a f g rem (pre++[s]) ((Qa S C T S' C' T' p s L).foldl BY ps) t (by omega)
  rw [h] at o;have I:=Qv (s:=s) (i:=pre.length) (n:=M.length) (db:=db) (fa:=fa) (fb:=fb) (w8:=w8) (w9:=w9) (w11:=w11) (w12:=w12) (i14:=i14) (i15:=i15) (v0:=v0) (v0':=v0') hR b hp hs j d f (by omega) L [] ps rfl (by omega)
  rw [ir,ifT (by omega),ifF (by omega),a.l,ifT (by omega),a.c _ _ q]
  refine I.trans (o.trans ?_);unfold crF;rw [List.flatMap_cons,List.foldl_append]
theorem jx (hR:Rk S C T) (a:Rk S' C' T') {p:PK} (hp:POk S C S' C' p) {ps:List PK} (hl:ps.length<100000000) (b:(flt S C T S' C' T' p).1=0) :
  Og v0 S C T v0' S' C' T' w8 w9 w11 w12 (.int i14) (.int i15) (.int p.1.1) (.int p.1.2.1) (.int p.1.2.2.1) (.int p.1.2.2.2.1) (.int p.1.2.2.2.2) (.int p.2.1) (.int p.2.2.1) (.int p.2.2.2.1) (.int p.2.2.2.2.1) (.int p.2.2.2.2.2) (AP ps) (.bool (ps).isEmpty) (BX ps)=.row [.int 1,.bool false,w8,w9,w11,w12,(.int i14),(.int i15),(AP ((bhd S C T S' C' T' p).foldl BY ps)),(.bool (((bhd S C T S' C' T' p).foldl BY ps)).isEmpty),(BX ((bhd S C T S' C' T' p).foldl BY ps))]:=by
 obtain ⟨da,db,fa,fb,a1,a2,a3⟩:=Mm (v0:=v0) (v0':=v0') (w8:=w8) (w9:=w9) (w11:=w11) (w12:=w12) (i14:=i14) (i15:=i15) hR a hp.1 hp.2 (r:=true);obtain ⟨c,d,e,fd,c1,c2,c3⟩:=Mm (v0:=v0) (v0':=v0') (w8:=w8) (w9:=w9) (w11:=w11) (w12:=w12) (i14:=i14) (i15:=i15) hR a hp.1 hp.2 (r:=false);have m1:=fun r=>Du hR (k:=p.1) (r:=r)
 have m2:=fun r=>Du a (k:=p.2) (r:=r)
 have x1:=m1 true;have x2:=m2 true;have x3:=m1 false;have x4:=m2 false;have y1:(prt T (enl S C T p.1) true).length*(prt T' (enl S' C' T' p.2) true).length≤20*20:=Nat.mul_le_mul x1 x2;have y2:(prt T' (enl S' C' T' p.2) false).length*(prt T (enl S C T p.1) false).length≤20*20:=Nat.mul_le_mul x4 x3;have f:=PU (S:=S) (C:=C) (T:=T) (S':=S') (C':=C') (T':=T') (p:=p) x2 (L:=prt T (enl S C T p.1) true);have g:=EL (l:=crT S C T S' C' T' p (prt T (enl S C T p.1) true) (prt T' (enl S' C' T' p.2) true)) (ps:=ps);have A:=U8 (da:=da) (db:=db) (fa:=fa) (fb:=fb) (w8:=w8) (w9:=w9) (w11:=w11) (w12:=w12) (i14:=i14) (i15:=i15) (v0:=v0) (v0':=v0') hR a hp (L:=prt T (enl S C T p.1) true) (M:=prt T' (enl S' C' T' p.2) true) Hg Hg a1 a2 (by omega) (by omega) (prt T (enl S C T p.1) true) [] ps rfl (by omega)
 have B:=R4 (da:=c) (db:=d) (fa:=e) (fb:=fd) (w8:=w8) (w9:=w9) (w11:=w11) (w12:=w12) (i14:=i14) (i15:=i15) (v0:=v0) (v0':=v0') hR a hp (L:=prt T (enl S C T p.1) false) (M:=prt T' (enl S' C' T' p.2) false) Hg Hg c1 c2 (by omega) (by omega) (prt T' (enl S' C' T' p.2) false) [] ((crT S C T S' C' T' p (prt T (enl S C T p.1) true) (prt T' (enl S' C' T' p.2) true)).foldl BY ps) rfl (by omega)
 rw [gp (h0:=a3) (h1:=Ys hR a hp.1 hp.2),b];dsimp +instances only [Az,Ay,Ao,Ap];rw [ifT (by rfl),ifT (by rfl),ifT (by rfl),a1.l]
 refine A.trans ?_;rw [gW (h0:=c3),ifF (by omega)]
 dsimp +instances only [Az,Ay,Ao,Ap];rw [ifT (by rfl),c2.l]
 refine B.trans ?_;unfold bhd;rw [List.foldl_append]
theorem dx (hR:Rk S C T) (a:Rk S' C' T') {p:PK} (hp:POk S C S' C' p) {ps:List PK} (c:(flt S C T S' C' T' p).1≠0) :
  ∃x b,Cf S C p.1 (cl S p.1.1 0) x∧Cf S' C' p.2 (cl S' p.2.1 0) b∧
  Og v0 S C T v0' S' C' T' w8 w9 w11 w12 (.int i14) (.int i15) (.int p.1.1) (.int p.1.2.1) (.int p.1.2.2.1) (.int p.1.2.2.2.1) (.int p.1.2.2.2.2) (.int p.2.1) (.int p.2.2.1) (.int p.2.2.2.1) (.int p.2.2.2.2.1) (.int p.2.2.2.2.2) (AP ps) (.bool (ps).isEmpty) (BX ps)=.row [.int 1,.bool true,cl S p.1.1 0,x,cl S' p.2.1 0,b,.int ((flt S C T S' C' T' p).1:Nat),.int ((flt S C T S' C' T' p).2:Nat),(AP ps),(.bool (ps).isEmpty),(BX ps)]:=by
 obtain ⟨d,e,f,g,a1,a2,a3⟩:=Mm (v0:=v0) (v0':=v0') (w8:=w8) (w9:=w9) (w11:=w11) (w12:=w12) (i14:=i14) (i15:=i15) hR a hp.1 hp.2 (r:=true);obtain ⟨x,x1,x2⟩:=GM (v0:=v0) hR hp.1;obtain ⟨y,y1,y2⟩:=GM (v0:=v0') a hp.2;refine ⟨x,y,x2,y2,?_⟩;rw [gp (h0:=a3) (h1:=Ys hR a hp.1 hp.2)];dsimp +instances only [Az,Ay,Ao,Ap];rw [ifT (by rfl),ifF (by omega),x1,y1]
 rfl
end
end Ug
namespace Ug
open Go Go.AE
def srP (S C T S' C' T':D):Nat→List PK→Nat→Option PK×List PK
 |0,ps,_=>(none,ps)
 |f+1,ps,i=>match ps[i]? with
  |none=>(none,ps)
  |some p=>if (flt S C T S' C' T' p).1=0 then srP S C T S' C' T' f ((bhd S C T S' C' T' p).foldl BY ps) (i+1) else (some p,ps)
theorem ZV {a:List PK} {p:PK}:ad (AP a) (.row (DW p))=AP (a++[p]):=by
 unfold AP ad;simp [D.rows]
def cN (S C S' C':D) (T T':D) (v0 v0':D) (w8 w9 w11 w12 w14 w15:D) (d:D):Option PK×List PK→Prop
 | (none,ps)=>d=.row [.int 1,AP ps,.bool ps.isEmpty,.bool (decide (4000<(ps.length:Int))),w8,w9,w11,w12,w14,w15]
 | (some p,ps)=>∃x a,POk S C S' C' p∧Cf S C p.1 (cl S p.1.1 0) x∧Cf S' C' p.2 (cl S' p.2.1 0) a∧(flt S C T S' C' T' p).1≠0∧
  d=.row [.int 1,AP ps,.bool ps.isEmpty,.bool false,cl S p.1.1 0,x,cl S' p.2.1 0,a,.int ((flt S C T S' C' T' p).1:Nat),.int ((flt S C T S' C' T' p).2:Nat)]
section
variable [Ai]
variable {v0 S C T v0' S' C' T':D} {w8 w9 w11 w12:D} {b10 b13:Bool} {i14 i15:Int}
theorem Rz (hR:Rk S C T) (a:Rk S' C' T') {w:D}:∀{f i:Nat} {ps:List PK},i+f=4000→ps.length≤10000+800*i→UH S C S' C' ps→
  cN S C S' C' T T' v0 v0' w8 w9 w11 w12 (.int i14) (.int i15) (QR (.int 4000) (.int (i:Nat)) w v0 S C T v0' S' C' T' w8 w9 w11 w12 (.int i14) (.int i15) (AP ps) (.bool (ps).isEmpty) (BX ps)) (srP S C T S' C' T' f ps i)
 |0,i,ps=>fun h hl d=>by
  show _=_;rw [U0 (h0:=rfl),Ds];by_cases c:i<ps.length
  ·rw [ifT (by omega),ifF (by omega)]
  ·rw [ifF (by omega)]
 |f+1,i,ps=>fun h hl d=>by
  rw [srP];by_cases c:i<ps.length
  ·have b:ps[i]?=some ps[i]:=E1 c;have hp:=d _ (hH c);have j:=dQ hR a (p:=ps[i]);have al:=EL (l:=bhd S C T S' C' T' ps[i]) (ps:=ps)
   have e:∀X,Og v0 S C T v0' S' C' T' w8 w9 w11 w12 (.int i14) (.int i15) (.int ps[i].1.1) (.int ps[i].1.2.1) (.int ps[i].1.2.2.1) (.int ps[i].1.2.2.2.1) (.int ps[i].1.2.2.2.2) (.int ps[i].2.1) (.int ps[i].2.2.1) (.int ps[i].2.2.2.1) (.int ps[i].2.2.2.2.1) (.int ps[i].2.2.2.2.2) (AP ps) (.bool (ps).isEmpty) (BX ps)=X→Og v0 S C T v0' S' C' T' w8 w9 w11 w12 (.int i14) (.int i15) (cl (AP ps) (i:Nat) 0) (cl (AP ps) (i:Nat) 1) (cl (AP ps) (i:Nat) 2) (cl (AP ps) (i:Nat) 3) (cl (AP ps) (i:Nat) 4) (cl (AP ps) (i:Nat) 5) (cl (AP ps) (i:Nat) 6) (cl (AP ps) (i:Nat) 7) (cl (AP ps) (i:Nat) 8) (cl (AP ps) (i:Nat) 9) (AP ps) (.bool (ps).isEmpty) (BX ps)=X:=fun X h=>by
    rw [A9 b,A9 b,A9 b,A9 b,A9 b,A9 b,A9 b,A9 b,A9 b,A9 b];exact h
   rw [b];show cN S C S' C' T T' v0 v0' w8 w9 w11 w12 (.int i14) (.int i15) _ (if (flt S C T S' C' T' ps[i]).1=0 then srP S C T S' C' T' f ((bhd S C T S' C' T' ps[i]).foldl BY ps) (i+1) else (some ps[i],ps))
   by_cases q:(flt S C T S' C' T' ps[i]).1=0
   ·have N:=e _ (jx (v0:=v0) (v0':=v0') (w8:=w8) (w9:=w9) (w11:=w11) (w12:=w12) (i14:=i14) (i15:=i15) hR a hp (by omega) q)
    rw [if_pos q,U0 (h0:=N),Ds,ifT (by omega),ifT (by omega),ifF (by omega)]
    dsimp +instances only [Az,Ay,Ao,Ap];rw [ifT (by rfl),E9,AR (by omega)]
    exact Rz hR a (by omega) (by omega) (Ns (jY hR a hp) d)
   ·obtain ⟨x,g,x1,x2,x3⟩:=dx (v0:=v0) (v0':=v0') (w8:=w8) (w9:=w9) (w11:=w11) (w12:=w12) (i14:=i14) (i15:=i15) hR a hp (ps:=ps) q;rw [if_neg q,U0 (h0:=e _ x3),Ds,ifT (by omega),ifT (by omega),ifF (by omega)]
    dsimp +instances only [Az,Ay,Ao,Ap];rw [ifT (by rfl),B4]
    exact ⟨x,g,hp,x1,x2,q,rfl⟩
  ·rw [E4 (by omega)]
   show _=_;rw [U0 (h0:=rfl),Ds,ifF (by omega)]
theorem OV {c:List PK} {b:Bool} (hn:c.length<10000):∀(rem pre:List PK) (ps:List PK),c=pre++rem→ps.length≤pre.length→
  Sy (.int 4000) (AP c) (.bool b) (.int (pre.length:Nat)) v0 S C T v0' S' C' T' w8 w9 (.bool b10) w11 w12 (.bool b13) (.int i14) (.int i15) (AP ps) (.bool (ps).isEmpty) (BX ps)=QR (.int 4000) (.int 0) (AP c) v0 S C T v0' S' C' T' w8 (ni w9 b10) w11 (ni w12 b13) (.int i14) (.int i15) (AP (rem.foldl BY ps)) (.bool ((rem.foldl BY ps)).isEmpty) (BX (rem.foldl BY ps))
 |[],pre,ps=>fun e hl=>by
  have:c.length=pre.length:=by rw [e];simp
  rw [gu,Ds,ifF (by omega)]
  rfl
 |q::rem,pre,ps=>fun e hl=>by
  have a:c[pre.length]?=some q:=by rw [e];simp
  have hp:pre.length<c.length:=by rw [e];simp
  have g:c=(pre++[q])++rem:=by rw [e];simp
  have d:(pre++[q]).length=pre.length+1:=by simp
  have al:=Jq (ps:=ps) (p:=q);have F:=Ul (ps:=ps) (p:=q) (by omega)
  have f:=OV (b:=b) hn rem (pre++[q]) (BY ps q) g (by omega)
  rw [d] at f;rw [gu,Ds,ifT (by omega),ifF (by omega),A9 a,A9 a,A9 a,A9 a,A9 a,A9 a,A9 a,A9 a,A9 a,A9 a,AR (by omega)]
  have F:Jd (AP ps) (.bool (ps).isEmpty) (BX ps) ((DW q).getD 0 default) ((DW q).getD 1 default) ((DW q).getD 2 default) ((DW q).getD 3 default) ((DW q).getD 4 default) ((DW q).getD 5 default) ((DW q).getD 6 default) ((DW q).getD 7 default) ((DW q).getD 8 default) ((DW q).getD 9 default)=.row [.int 1,AP (BY ps q),.bool (BY ps q).isEmpty,BX (BY ps q)]:=F;rw [F];dsimp +instances only [Az,Ay,Ao,Ap];rw [ifT (by rfl)]
  exact f
theorem ma (hR:Rk S C T) (c:Rk S' C' T') {a:List PK} {b:Bool} (hn:a.length<10000) (d:UH S C S' C' a) :
  cN S C S' C' T T' v0 v0' w8 (ni w9 b10) w11 (ni w12 b13) (.int i14) (.int i15) (Y8 (AP a) (.bool b) (.int 4000) v0 S C T v0' S' C' T' w8 w9 (.bool b10) w11 w12 (.bool b13) (.int i14) (.int i15)) (srP S C T S' C' T' 4000 (a.foldl BY []) 0):=by
 have al:=EL (l:=a) (ps:=[]);have F:=OV (b10:=b10) (b13:=b13) (w8:=w8) (w9:=w9) (w11:=w11) (w12:=w12) (i14:=i14) (i15:=i15) (v0:=v0) (v0':=v0') (S:=S) (C:=C) (T:=T) (S':=S') (C':=C') (T':=T') (b:=b) hn a [] [] rfl (C1 _);rw [xF,show Sy (.int 4000) (AP a) (.bool b) (.int 0) v0 S C T v0' S' C' T' w8 w9 (.bool b10) w11 w12 (.bool b13) (.int i14) (.int i15) Aw (.bool true) Aq=_ from F]
 simp only [List.length_nil,R2] at al;exact Rz hR c (i:=0) (by omega) (by omega) (Ns d fun x e=>by cases e)
end
end Ug

