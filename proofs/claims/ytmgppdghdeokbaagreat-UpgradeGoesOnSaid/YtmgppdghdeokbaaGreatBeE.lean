/- What is proved here: an evaluator of the model's steps that the kernel can run, and that whatever it answers is what the model does (part 5 of 6: AePat1, AePat2, AePat3, AeSum, AeRng, AeEval, AeTail, AeRun3, AeOrc, AeRun4, AeOK). Conditions: those that each theorem states; they hold of no one program. -/
import Derived.Test.YtmgppdghdeokbaaGreatBeD
import Derived.Eval
import Derived.KernelRfl
set_option linter.unusedVariables false
set_option linter.unusedSectionVars false
set_option linter.unusedSimpArgs false
namespace Go.AE
def SE.inst (C:List SE):SE→SE
 |.c n=>.c n
 |.var i=>C.getD i (.var i)
 |.lenS a=>.lenS (a.inst C)
 |.lenL a=>.lenL (a.inst C)
 |.arith I k a b=>.arith I k (a.inst C) (b.inst C)
 |.conv k a=>.conv k (a.inst C)
 |.lss a b=>.lss (a.inst C) (b.inst C)
 |.eql a b=>.eql (a.inst C) (b.inst C)
 |.eqS a l b=>.eqS (a.inst C) l b
 |.eqSS a b=>.eqSS (a.inst C) (b.inst C)
 |.isNil a=>.isNil (a.inst C)
 |.bc b=>.bc b
 |.neg a=>.neg (a.inst C)
 |.and a b=>.and (a.inst C) (b.inst C)
 |.nilIs a b=>.nilIs (a.inst C) (b.inst C)
 |.strc l b=>.strc l b
 |.strAt a i=>.strAt (a.inst C) (i.inst C)
 |.strCat a b=>.strCat (a.inst C) (b.inst C)
 |.strSub a lo hi=>.strSub (a.inst C) (lo.inst C) (hi.inst C)
 |.cell a i j=>.cell (a.inst C) (i.inst C) j
 |.sel a j=>.sel (a.inst C) j
 |.nilL=>.nilL
 |.emptyL=>.emptyL
 |.snoc a r=>.snoc (a.inst C) (r.inst C)
 |.upd a i j x=>.upd (a.inst C) (i.inst C) j (x.inst C)
 |.rep n r=>.rep (n.inst C) (r.inst C)
 |.cat a b=>.cat (a.inst C) (b.inst C)
 |.sub a lo hi=>.sub (a.inst C) (lo.inst C) (hi.inst C)
 |.rnil=>.rnil
 |.rcons x r=>.rcons (x.inst C) (r.inst C)
 |.app f x=>.app f (x.inst C)
 |.bytes a=>.bytes (a.inst C)
 |.ofBytes a=>.ofBytes (a.inst C)
 |.mIdx ks a k=>.mIdx ks (a.inst C) (k.inst C)
 |.rmv a i=>.rmv (a.inst C) (i.inst C)
def Val.inst (V:Val) (j:List SE):Val:={d:=fun i=>Ab V (j.getD i (.var i)),fn:=V.fn}
theorem Cx (V:Val) (a:List SE):∀e:SE,Ab V (e.inst a)=Ab (V.inst a) e:=by
 intro e
 induction e<;>simp_all only [SE.inst,Ab,Val.inst]<;>rfl
theorem O3 (V:Val) (a:List SE) (e:SE):Af V (e.inst a)=Af (V.inst a) e:=by unfold Af;rw [Cx]
theorem FM (V:Val) (a:List SE) (e:SE):Ah V (e.inst a)=Ah (V.inst a) e:=by unfold Ah;rw [Cx]
abbrev Obs:=List (SE×SE)
def Lu (a b:SE):Option Obs:=match a.same b with
 |true=>some []
 |false=>match a.norm.same b.norm with
  |true=>some []
  |false=>some [(a,b)]
def DX (a b:SE):Option Obs:=match a.same b with
 |true=>some []
 |false=>match a.norm.same b.norm with
  |true=>some []
  |false=>some [(.and a (.bc true),.and b (.bc true))]
def Ii (a b:SE):Option Obs:=match a.same b with
 |true=>some []
 |false=>match a.norm.same b.norm with
  |true=>some []
  |false=>some [(.eql a b,.bc true)]
def Obs.holds (V:Val) (o:Obs):Prop:=∀a b,(a,b)∈o→Ab V a=Ab V b
def Eu (a b:Option Obs):Option Obs:=match a,b with
 |some x,some y=>some (x++y)
 |_,_=>none
def EH (c:Bool) (o:Option Obs):Option Obs:=match c with
 |true=>o
 |false=>none
def toB (a:List Nat) (b c:Nat):Bool:=match a[b]? with
 |some d=>Nat.beq d c
 |none=>false
def lP (a:List Nat):Fn→Fn→Bool
 |.func f,.func g=>Nat.beq f g
 |.yield l,.yield m=>toB a l m
 |_,_=>false
mutual
def Dr (d:List SE) (g:List Nat):AV→AV→Option Obs
 |.top,_=>some []
 |.bool a,.bool b=>EH (a==b) (some [])
 |.int k a,.int s b=>EH (decide (k=s)&&a==b) (some [])
 |.str l a,.str u b=>EH (Nat.beq l u&&Nat.beq a b) (some [])
 |.ptr0,.ptr0=>some []
 |.ptr b o,.ptr i w=>EH (toB g b i&&Nat.beq o w) (some [])
 |.slice0,.slice0=>some []
 |.slice b o n q,.slice i w y j=>EH (toB g b i&&Nat.beq o w&&Nat.beq n y&&Nat.beq q j) (some [])
 |.map0,.map0=>some []
 |.map b,.map i=>EH (toB g b i) (some [])
 |.func fn f c,.func z B C=>EH (lP g fn z) (Eu (H9 d g f B) (H9 d g c C))
 |.nilFunc,.nilFunc=>some []
 |.iface t v,.iface D E=>EH (Nat.beq t D) (Dr d g v E)
 |.nilIface,.nilIface=>some []
 |.agg l,.agg u=>H9 d g l u
 |.tuple l,.tuple u=>H9 d g l u
 |.sb p e,.sb F r=>match p==F with
  |true=>DX (e.inst d) r
  |false=>DX (e.inst d) (.neg r)
 |.sb p e,.bool b=>DX (e.inst d) (.bc (b==p))
 |.si k e,.si s r=>EH (decide (k=s)) (Ii (e.inst d) r)
 |.si k e,.int s n=>EH (decide (k=s)) (Ii (e.inst d) (.c n))
 |.ss x,.ss A=>Lu (x.inst d) A
 |.ss x,.str l b=>Lu (x.inst d) (.strc l b)
 |.dat e x,.dat r A=>EH (Nat.beq e r) (Lu (x.inst d) A)
 |.dat e x,.slice0=>Lu (x.inst d) .nilL
 |.asl b q n nl,.asl i j y h=>EH (toB g b i&&Nat.beq q j) (Eu (Ii (n.inst d) y) (DX (nl.inst d) h))
 |.asl b q n nl,.slice i w y j=>EH (toB g b i&&Nat.beq w 0&&Nat.beq q j) (Eu (Ii (n.inst d) (.c y)) (DX (nl.inst d) (.bc false)))
 |.asl b q n nl,.slice0=>Eu (Ii (n.inst d) (.c 0)) (DX (nl.inst d) (.bc true))
 |.asl b q n nl,.eslc h=>Eu (Ii (n.inst d) (.c 0)) (DX (nl.inst d) h)
 |.eslc nl,.eslc h=>DX (nl.inst d) h
 |.eslc nl,.slice0=>DX (nl.inst d) (.bc true)
 |.nmap b nl,.nmap i h=>EH (toB g b i) (DX (nl.inst d) h)
 |.nmap b nl,.map i=>EH (toB g b i) (DX (nl.inst d) (.bc false))
 |.nmap _ nl,.map0=>DX (nl.inst d) (.bc true)
 |_,_=>none
termination_by structural a=>a
def H9 (d:List SE) (g:List Nat):List AV→List AV→Option Obs
 |[],[]=>some []
 |a::l,b::m=>Eu (Dr d g a b) (H9 d g l m)
 |_,_=>none
termination_by structural l=>l
end
@[reducible] def Bm:Unk:={facts:=[],V:=⟨fun _=>default,fun _ d=>d⟩,K:=fun _=>none,R:=[],hR:=fun _ _ _ _ _ h=>(by cases h),ok:=by simp}
theorem Obs.append {V:Val} {a b:Obs} (h:Obs.holds V (a++b)):Obs.holds V a∧Obs.holds V b:=
 ⟨fun x y j=>h x y (by simp [j]),fun x y j=>h x y (by simp [j])⟩
theorem HT {V:Val} {a b:SE} {o:Obs} (h:Lu a b=some o) (c:o.holds V):Ab V a=Ab V b:=by
 unfold Lu at h;split at h
 ·rename_i hs;rw [SE.same_ok (U:=Bm) hs]
 ·split at h
  ·rename_i hs;have:=congrArg (Ab V) (SE.same_ok (U:=Bm) hs)
   rwa [C3,C3] at this
  ·cases h;exact c a b (by simp)
theorem RF {V:Val} {a b:SE} {o:Obs} (h:Ii a b=some o) (c:o.holds V):Af V a=Af V b:=by
 unfold Ii at h;split at h
 ·rename_i hs;rw [SE.same_ok (U:=Bm) hs]
 ·split at h
  ·rename_i hs;have:=congrArg (Ab V) (SE.same_ok (U:=Bm) hs);rw [C3,C3] at this;unfold Af;rw [this]
  ·cases h;have:=c (.eql a b) (.bc true) (by simp)
   simp only [Ab,D.bool.injEq] at this;exact eq_of_beq this
theorem JA {V:Val} {a b:SE} {o:Obs} (h:DX a b=some o) (c:o.holds V):Ah V a=Ah V b:=by
 unfold DX at h;split at h
 ·rename_i hs;rw [SE.same_ok (U:=Bm) hs]
 ·split at h
  ·rename_i hs;have:=congrArg (Ab V) (SE.same_ok (U:=Bm) hs);rw [C3,C3] at this;unfold Ah;rw [this]
  ·cases h;have:=c (.and a (.bc true)) (.and b (.bc true)) (by simp)
   simp only [Ab,D.bool.injEq,D.toBool,g6] at this;exact this
theorem B0 {a b:Option Obs} {o:Obs} (h:Eu a b=some o):∃x y,a=some x∧b=some y∧o=x++y:=by
 unfold Eu at h;split at h
 ·cases h;exact ⟨_,_,rfl,rfl,rfl⟩
 ·cases h
theorem Bh {c:Bool} {a:Option Obs} {o:Obs} (h:EH c a=some o):c=true∧a=some o:=by
 cases c with
 |true=>exact ⟨rfl,h⟩
 |false=>cases h
def Ren.back (ρ:Ren) (j:List Nat):Ren:=⟨fun b=>(j[b]?).bind ρ.m,ρ.imm⟩
theorem Fz {a:List Nat} {b c:Nat} (h:toB a b c=true) (ρ:Ren):(ρ.back a).m b=ρ c:=by
 unfold toB at h;split at h
 ·rename_i d e;rw [AK h] at e;simp [Ren.back,e]
 ·cases h
section
variable {U W:Unk} {θ:List SE} (hV:W.V=U.V.inst θ) (hK:W.K=U.K) {β:List Nat} {ρ:Ren}
include hV hK
theorem cG {f g:Fn} {b:Fn} (h:lP β f g=true) (c:FnR ρ g b):FnR (ρ.back β) f b:=by
 cases f<;>cases g<;>simp only [lP,E2] at h
 ·rw [AK h];exact c
 ·obtain ⟨a,d,e⟩:=c;exact ⟨a,by rw [Fz h];exact d,e⟩
mutual
theorem H5:∀(a b:AV) (o:Obs) (v:Value),Dr θ β a b=some o→o.holds U.V→@VR U.toVals ρ b v→@VR W.toVals (ρ.back β) a v
 |.top,_,_,v,_,_,_=>@VR.top W.toVals _ v
 |.bool a,b,o,v,h,g,d=>by
  cases b<;>simp only [Dr,reduceCtorEq] at h
  obtain ⟨j,_⟩:=Bh h;cases d;have:=eq_of_beq j;subst this;exact @VR.bool W.toVals _ _
 |.int k a,b,o,v,h,g,d=>by
  cases b<;>simp only [Dr,reduceCtorEq] at h
  obtain ⟨j,_⟩:=Bh h;cases d;simp only [B1,F4,beq_iff_eq] at j;obtain ⟨rfl,rfl⟩:=j;exact @VR.int W.toVals _ _ _
 |.str l a,b,o,v,h,g,d=>by
  cases b<;>simp only [Dr,reduceCtorEq] at h
  obtain ⟨j,_⟩:=Bh h;obtain ⟨u,A⟩:=AC j;rw [AK u,AK A];cases d;exact @VR.str W.toVals _ _
 |.ptr0,b,o,v,h,g,d=>by
  cases b<;>simp only [Dr,reduceCtorEq] at h
  cases d;exact @VR.ptr0 W.toVals _
 |.ptr b off,x,o,v,h,g,d=>by
  cases x<;>simp only [Dr,reduceCtorEq] at h
  obtain ⟨j,_⟩:=Bh h;obtain ⟨u,A⟩:=AC j;cases d with
  |ptr _ _ i E=>
   rw [AK A];exact @VR.ptr W.toVals _ _ _ i (by rw [Fz u];exact E)
 |.slice0,b,o,v,h,g,d=>by
  cases b<;>simp only [Dr,reduceCtorEq] at h
  cases d;exact @VR.slice0 W.toVals _
 |.slice b off n H,x,o,v,h,g,d=>by
  cases x<;>simp only [Dr,reduceCtorEq] at h
  obtain ⟨j,_⟩:=Bh h;obtain ⟨u,A⟩:=AC j;obtain ⟨F,R⟩:=AC u;obtain ⟨I,J⟩:=AC F;rw [AK A,AK R,AK J];cases d with
  |slice _ _ _ _ G i E L M=>exact @VR.slice W.toVals _ _ _ _ _ G i (by rw [Fz I];exact E) L M
  |sliceEnd _ _ _ a=>exact @VR.sliceEnd W.toVals _ _ _ _ a
 |.map0,b,o,v,h,g,d=>by
  cases b<;>simp only [Dr,reduceCtorEq] at h
  cases d;exact @VR.map0 W.toVals _
 |.map b,x,o,v,h,g,d=>by
  cases x<;>simp only [Dr,reduceCtorEq] at h
  obtain ⟨j,_⟩:=Bh h;cases d with
  |map _ i E=>exact @VR.map W.toVals _ _ i (by rw [Fz j];exact E)
 |.func fn f c,x,o,v,h,g,d=>by
  cases x<;>simp only [Dr,reduceCtorEq] at h
  obtain ⟨j,u⟩:=Bh h;obtain ⟨o1,o2,A,F,rfl⟩:=B0 u;obtain ⟨w,y⟩:=Obs.append g;cases d with
  |func _ S _ _ f' c' r1 r2 r3 r4 r5=>
   have P:=FN f _ o1 f' A w ⟨r2,r3⟩;have Q:=FN c _ o2 c' F y ⟨r4,r5⟩;exact @VR.func W.toVals _ fn S f c f' c' (cG hV hK j r1) P.1 P.2 Q.1 Q.2
 |.nilFunc,b,o,v,h,g,d=>by
  cases b<;>simp only [Dr,reduceCtorEq] at h
  cases d;exact @VR.nilFunc W.toVals _
 |.iface t a,x,o,v,h,g,d=>by
  cases x<;>simp only [Dr,reduceCtorEq] at h
  obtain ⟨j,u⟩:=Bh h;rw [AK j];cases d with
  |iface _ _ v' T=>exact @VR.iface W.toVals _ _ a v' (H5 a _ o v' u g T)
 |.nilIface,b,o,v,h,g,d=>by
  cases b<;>simp only [Dr,reduceCtorEq] at h
  cases d;exact @VR.nilIface W.toVals _
 |.agg l,x,o,v,h,g,d=>by
  cases x<;>simp only [Dr,reduceCtorEq] at h
  cases d with
  |agg _ N r1 r2=>
   have q:=FN l _ o N h g ⟨r1,r2⟩;exact @VR.agg W.toVals _ l N q.1 q.2
 |.tuple l,x,o,v,h,g,d=>by
  cases x<;>simp only [Dr,reduceCtorEq] at h
  cases d with
  |tuple _ N r1 r2=>
   have q:=FN l _ o N h g ⟨r1,r2⟩;exact @VR.tuple W.toVals _ l N q.1 q.2
 |.sb p e,x,o,v,h,g,d=>by
  have key:∀{z:SE},DX (e.inst θ) z=some o→Ah W.V e=Ah U.V z:=by
   intro z B;rw [hV,←FM];exact JA B g
  cases x<;>simp only [Dr,reduceCtorEq] at h
  ·have:=key h;cases d;rename_i b;have q:=@VR.sb W.toVals (ρ.back β) p e;rw [this] at q;have e1:((Ah U.V (.bc (b==p)))==p)=b:=by show ((b==p)==p)=b;cases b<;>cases p<;>rfl
   rw [e1] at q;exact q
  ·split at h
   ·rename_i j;have:=key h;cases d;have hp:=eq_of_beq j;subst hp;rw [←this];exact @VR.sb W.toVals _ p e
   ·rename_i p' z _ j;have:=key h;cases d;have q:=@VR.sb W.toVals (ρ.back β) p e;rw [this] at q
    have e1:(Ah U.V (.neg z)==p)=(Ah U.V z==p'):=by
     show ((!(Ah U.V z))==p)=_;cases p<;>cases p'<;>cases Ah U.V z<;>first|rfl | (simp at j)
    rw [e1] at q;exact q
 |.si k e,x,o,v,h,g,d=>by
  have key:∀{z:SE},Ii (e.inst θ) z=some o→Af W.V e=Af U.V z:=by
   intro z B;rw [hV,←O3];exact RF B g
  cases x<;>simp only [Dr,reduceCtorEq] at h
  ·obtain ⟨j,u⟩:=Bh h;have:=key u;cases d;have hp:=hZ j;subst hp;have q:=@VR.si W.toVals (ρ.back β) k e;rw [this,CB] at q;exact q
  ·obtain ⟨j,u⟩:=Bh h;have:=key u;cases d;have hp:=hZ j;subst hp;rw [←this];exact @VR.si W.toVals _ k e
 |.ss e,x,o,v,h,g,d=>by
  have key:∀{z:SE},Lu (e.inst θ) z=some o→Ba W.V e=Ba U.V z:=by
   intro z B;unfold Ba;rw [hV,←Cx,HT B g]
  cases x<;>simp only [Dr,reduceCtorEq] at h
  ·have:=key h;cases d;rename_i s;have q:=@VR.ss W.toVals (ρ.back β) e;rw [this] at q
   have e1:Ba U.V (.strc s.data.toList.length (AL s.data.toList))=s:=by
    show (⟨(DO _ _).toArray⟩:ByteArray)=s;rw [EC (U:=U)]
   rw [e1] at q;exact q
  ·have:=key h;cases d;rw [←this];exact @VR.ss W.toVals _ e
 |.dat t e,x,o,v,h,g,d=>by
  have key:∀{z:SE},Lu (e.inst θ) z=some o→Ab W.V e=Ab U.V z:=by
   intro z B;rw [hV,←Cx,HT B g]
  cases x<;>simp only [Dr,reduceCtorEq] at h
  ·have:=key h;cases d;exact @VR.dat W.toVals _ t e _ _ _ (by rw [this];exact .nil t _ rfl rfl)
  ·obtain ⟨j,u⟩:=Bh h;have:=key u;rw [AK j];cases d with
   |dat _ _ a n c hd=>exact @VR.dat W.toVals _ _ e a n c (by rw [this,hK];exact hd)
 |.dptr _ _ _ _,x,o,v,h,g,d=>by cases x<;>simp only [Dr,reduceCtorEq] at h
 |.asl b H n nl,x,o,v,h,g,d=>by
  have C:∀{a b:SE} {o:Obs},Ii (a.inst θ) b=some o→o.holds U.V→Af W.V a=Af U.V b:=by
   intro a b o B g;rw [hV,←O3];exact RF B g
  have D:∀{a b:SE} {o:Obs},DX (a.inst θ) b=some o→o.holds U.V→Ah W.V a=Ah U.V b:=by
   intro a b o B g;rw [hV,←FM];exact JA B g
  cases x<;>simp only [Dr,reduceCtorEq] at h
  ·
   obtain ⟨o1,o2,A,F,rfl⟩:=B0 h;obtain ⟨w,y⟩:=Obs.append g;have k1:=C A w;have k2:=D F y;cases d;exact @VR.aslEnd W.toVals _ b H n nl none (by rw [k1];rfl) (by rw [k2];rfl)
  ·
   rename_i b' o' X Y;obtain ⟨j,u⟩:=Bh h;obtain ⟨R,I⟩:=AC j;obtain ⟨J,h8⟩:=AC R;obtain ⟨o1,o2,A,F,rfl⟩:=B0 u;obtain ⟨w,y⟩:=Obs.append g;have k1:=C A w;have k2:=D F y;have e1:Af W.V n=X:=by rw [k1];rfl
   have O:Ah W.V nl=false:=by rw [k2];rfl
   have e3:=AK h8;have Z:=AK I;subst e3;subst Z;cases d with
   |slice _ _ _ _ G i E L M=>
    have q:=@VR.asl W.toVals (ρ.back β) b H n nl G i (by rw [Fz J];exact E) (by rw [e1];exact Int.natCast_nonneg _) (by rw [e1];simpa using L) (by simpa using M) O
    rw [e1] at q;simpa using q
   |sliceEnd _ _ _ a=>exact @VR.aslEnd W.toVals _ b H n nl (some a) (by rw [e1];rfl) (by rw [O];rfl)
  ·
   rename_i b' Y X aa;obtain ⟨j,u⟩:=Bh h;obtain ⟨J,I⟩:=AC j;obtain ⟨o1,o2,A,F,rfl⟩:=B0 u;obtain ⟨w,y⟩:=Obs.append g;have k1:=C A w;have k2:=D F y;have e1:Af W.V n=Af U.V X:=k1;have O:Ah W.V nl=Ah U.V aa:=k2;have Z:=AK I;subst Z;cases d with
   |asl _ _ _ _ G i E h0 L M hn=>
    rw [←e1];exact @VR.asl W.toVals _ b H n nl G i (by rw [Fz J];exact E) (by rw [e1];exact h0) (by rw [e1];exact L) M (by rw [O];exact hn)
   |aslEnd _ _ _ _ a h0 hn=>exact @VR.aslEnd W.toVals _ b H n nl a (by rw [e1];exact h0) (by rw [O];exact hn)
  ·
   obtain ⟨o1,o2,A,F,rfl⟩:=B0 h;obtain ⟨w,y⟩:=Obs.append g;have k1:=C A w;have k2:=D F y;cases d with
   |eslc _ a hn=>exact @VR.aslEnd W.toVals _ b H n nl a (by rw [k1];rfl) (by rw [hn];exact k2.symm)
 |.eslc nl,x,o,v,h,g,d=>by
  have key:∀{b:SE},DX (nl.inst θ) b=some o→Ah W.V nl=Ah U.V b:=by
   intro b B;rw [hV,←FM];exact JA B g
  cases x<;>simp only [Dr,reduceCtorEq] at h
  ·have:=key h;cases d;exact @VR.eslc W.toVals _ nl none (by rw [this];rfl)
  ·have:=key h;cases d with
   |eslc _ a hn=>exact @VR.eslc W.toVals _ nl a (by rw [hn,this])
 |.aptr _ _ _ _,x,o,v,h,g,d=>by cases x<;>simp only [Dr,reduceCtorEq] at h
 |.nmap b nl,x,o,v,h,g,d=>by
  have key:∀{b:SE},DX (nl.inst θ) b=some o→Ah W.V nl=Ah U.V b:=by
   intro b B;rw [hV,←FM];exact JA B g
  cases x<;>simp only [Dr,reduceCtorEq] at h
  ·have:=key h;cases d;exact @VR.nmap0 W.toVals _ b nl (by rw [this];rfl)
  ·obtain ⟨j,u⟩:=Bh h;have:=key u;cases d with
   |map _ i E=>exact @VR.nmap W.toVals _ b nl i (by rw [Fz j];exact E) (by rw [this];rfl)
  ·obtain ⟨j,u⟩:=Bh h;have:=key u;cases d with
   |nmap _ _ i E hn=>exact @VR.nmap W.toVals _ b nl i (by rw [Fz j];exact E) (by rw [this];exact hn)
   |nmap0 _ _ hn=>exact @VR.nmap0 W.toVals _ b nl (by rw [this];exact hn)
theorem FN:∀(a b:List AV) (o:Obs) (vs:List Value),H9 θ β a b=some o→o.holds U.V→@VL U.toVals ρ b vs→@VL W.toVals (ρ.back β) a vs
 |[],b,o,vs,h,g,d=>by
  cases b with
  |nil=>have:=VL.nil_inv (U:=U.toVals) d;subst this;exact VL.nil (U:=W.toVals) _
  |cons=>cases h
 |a::l,b,o,vs,h,g,d=>by
  cases b with
  |nil=>cases h
  |cons b m=>
   simp only [H9] at h;obtain ⟨o1,o2,j,u,rfl⟩:=B0 h;obtain ⟨w,y⟩:=Obs.append g;obtain ⟨v,r,rfl,P,Q⟩:=VL.cons_inv (U:=U.toVals) d;exact VL.cons (U:=W.toVals) (H5 a b o1 v j w P) (FN l m o2 r u y Q)
end
end
end Go.AE
namespace Go.AE
def xm (c:List SE) (d:List Nat):Option AV→Option AV→Option Obs
 |none,_=>some []
 |some a,some b=>Dr c d a b
 |some _,none=>none
def leT (a:List SE) (b:List Nat):T AV→T AV→Option Obs
 |.nil,_=>some []
 |.node v l r,.node c d e=>Eu (xm a b v c) (Eu (leT a b l d) (leT a b r e))
 |.node _ _ _,.nil=>none
def fV (c:List SE) (d:List Nat):List A0→List A0→Option Obs
 |[],[]=>some []
 |a::l,b::m=>EH (Nat.beq a.born b.born) (Eu (Dr c d a.key b.key) (Eu (Dr c d a.val b.val) (fV c d l m)))
 |_,_=>none
def oj:LoopState→LoopState→Bool
 |.ready,.ready=>true
 |.busy,.busy=>true
 |.done,.done=>true
 |.exhausted,.exhausted=>true
 |_,_=>false
theorem fB {a b:LoopState} (h:oj a b=true):a=b:=by cases a<;>cases b<;>first|rfl | (cases h;done)
def Rr [Facts] (E:Env) (g:List SE) (j:List Nat):Aj→Aj→Option Obs
 |.cells n c,.cells A B=>EH (Nat.beq n A) (leT g j c B)
 |.arr e x,.arr C o=>EH (Nat.beq e C) (Lu (x.inst g) o)
 |.arr e x,.cells n c=>match E.kinds e with
  |some m=>match Nat.beq (n/m.length*m.length) n,c.range 0 n with
   |true,some l=>match Es m (n/m.length) .emptyL l with
    |some y=>Lu (x.inst g) y
    |none=>none
   |_,_=>none
  |none=>none
 |.map p k,.map q r=>EH (Nat.beq k r) (fV g j p q)
 |.dmap k v x,.dmap r D o=>EH (Nat.beq k r&&Nat.beq v D) (Lu (x.inst g) o)
 |.dmap k v x,.map p _=>match E.kinds k,E.kinds v with
  |some s,some t=>match NJ s t .emptyL p with
   |some y=>Lu (x.inst g) y
   |none=>none
  |_,_=>none
 |.deferred none,.deferred none=>some []
 |.deferred (some []),.deferred (some [])=>some []
 |.loop st pending fn nt tmps params assign body d,.loop u a w z h b f i F=>
  EH (oj st u&&Sv DU pending a&&Nat.beq fn w&&Nat.beq nt z&&Nk Nat.beq params b&&toB j d F) (EH (DU assign f&&DU body i) (leT g j tmps h))
 |_,_=>none
def kR [Facts] (E:Env) (a:List SE) (b:List Nat):Option Aj→Option Aj→Option Obs
 |none,_=>some []
 |some x,some y=>Rr E a b x y
 |some _,none=>none
def Fa [Facts] (E:Env) (a:List SE) (c:List Nat) (h:Aa):List (Option Aj)→List Nat→Option Obs
 |[],[]=>some []
 |o::r,b::d=>Eu (kR E a c o (h.blk.get b)) (Fa E a c h r d)
 |_,_=>none
def FB:List Nat→Bool
 |[]=>true
 |b::r=>!MC b r&&FB r
def CF:List (Option Aj)→Nat→T Aj→T Aj
 |[],_,t=>t
 |some x::r,i,t=>CF r (i+1) (t.set i x)
 |none::r,i,t=>CF r (i+1) t
def Bl (l:List (Option Aj)):T Aj:=CF l 0 .nil
theorem MQ:∀(l:List (Option Aj)) (i:Nat) (t:T Aj) (j:Nat),(∀q,i≤q→t.get q=none)→(CF l i t).get j=if i≤j then (l[j-i]?).join else t.get j:=by
 intro l
 induction l with
 |nil=>
  intro i t j b;simp only [CF];by_cases h:i≤j
  ·rw [if_pos h,b j h];rfl
  ·rw [if_neg h]
 |cons o r d=>
  intro i t j b
  have key:∀a,(∀q,i+1≤q→a.get q=none)→a.get i=o→(∀q,q<i→a.get q=t.get q)→(CF r (i+1) a).get j=if i≤j then ((o::r)[j-i]?).join else t.get j:=by
   intro a e f g;rw [d (i+1) a j e];by_cases c1:i+1≤j
   ·rw [if_pos c1,if_pos (by omega),show j-i=(j-(i+1))+1 by omega,EQ]
   ·rw [if_neg c1];by_cases c2:i=j
    ·subst c2;rw [if_pos (C1 _),f];simp
    ·rw [if_neg (by omega),g j (by omega)]
  cases o with
  |some x=>
   simp only [CF];refine key _ (fun q c=>?_) ?_ (fun q c=>?_)
   ·rw [T.get_set,if_neg (by omega),b q (by omega)]
   ·rw [T.get_set,if_pos rfl]
   ·rw [T.get_set,if_neg (by omega)]
  |none=>
   simp only [CF];exact key _ (fun q c=>b q (by omega)) (b i (C1 _)) (fun q c=>rfl)
theorem CQ (l:List (Option Aj)) (j:Nat):(Bl l).get j=(l[j]?).join:=by
 rw [Bl,MQ _ _ _ _ (fun q _=>rfl),if_pos (hP _)];simp
theorem Hi {b:Nat}:∀{l:List Nat},b∈l→MC b l=true
 |c::r,h=>by
  simp only [MC,g0];rcases F5.1 h with rfl|h
  ·exact .inl (FL b)
  ·exact .inr (Hi h)
def Fw (b:Nat):List (Option Aj)→List Nat→Bool
 |some _::r,c::a=>Nat.beq b c||Fw b r a
 |none::r,_::a=>Fw b r a
 |_,_=>false
def Gw:List (Option Aj)→List Nat→Bool
 |some _::r,b::a=>!Fw b r a&&Gw r a
 |none::r,_::a=>Gw r a
 |_,_=>true
theorem HU {b:Nat}:∀{l:List (Option Aj)} {e:List Nat},Fw b l e=false→∀{j:Nat} {x:Aj},l[j]?=some (some x)→e[j]?=some b→False
 |[],_,_,j,x,d,_=>by simp at d
 |_::_,[],_,j,x,_,a=>by simp at a
 |some y::r,c::e,h,j,x,d,a=>by
  simp only [Fw,K1] at h;cases j with
  |zero=>simp only [D1,A1] at a;subst a;rw [Nat.beq_refl] at h;exact absurd h.1 (by simp)
  |succ j=>exact HU h.2 (by simpa using d) (by simpa using a)
 |none::r,c::e,h,j,x,d,a=>by
  simp only [Fw] at h;cases j with
  |zero=>simp at d
  |succ j=>exact HU h (by simpa using d) (by simpa using a)
theorem J6:∀{l:List (Option Aj)} {f:List Nat},Gw l f=true→∀{i j b:Nat} {x y:Aj},l[i]?=some (some x)→l[j]?=some (some y)→f[i]?=some b→f[j]?=some b→i=j
 |[],_,_,i,j,b,x,y,d,_,_,_=>by simp at d
 |_::_,[],_,i,j,b,x,y,_,_,a,_=>by simp at a
 |none::r,c::f,h,i,j,b,x,y,d,g,a,e=>by
  simp only [Gw] at h;cases i with
  |zero=>simp at d
  |succ i=>
   cases j with
   |zero=>simp at g
   |succ j=>exact congrArg (· + 1) (J6 h (i:=i) (j:=j) (b:=b) (x:=x) (y:=y) (by simpa using d) (by simpa using g) (by simpa using a) (by simpa using e))
 |some z::r,c::f,h,i,j,b,x,y,d,g,a,e=>by
  simp only [Gw,B1,X9] at h;cases i with
  |zero=>
   simp only [D1,A1] at a;subst a;cases j with
   |zero=>rfl
   |succ j=>exact (HU h.1 (by simpa using g) (by simpa using e)).elim
  |succ i=>
   cases j with
   |zero=>
    simp only [D1,A1] at e;subst e;exact (HU h.1 (by simpa using d) (by simpa using a)).elim
   |succ j=>exact congrArg (· + 1) (J6 h.2 (i:=i) (j:=j) (b:=b) (x:=x) (y:=y) (by simpa using d) (by simpa using g) (by simpa using a) (by simpa using e))
theorem OT:∀{l:List Nat},FB l=true→∀{i j b:Nat},l[i]?=some b→l[j]?=some b→i=j
 |[],_,i,j,b,h,_=>by simp at h
 |c::r,h,i,j,b,hi,a=>by
  simp only [FB,B1,X9] at h;cases i with
  |zero=>
   simp only [D1,A1] at hi;subst hi;cases j with
   |zero=>rfl
   |succ j=>
    simp only [EQ] at a;rw [Hi (Nn a)] at h;cases h.1
  |succ i=>
   simp only [EQ] at hi;cases j with
   |zero=>
    simp only [D1,A1] at a;subst a;rw [Hi (Nn hi)] at h;cases h.1
   |succ j=>
    simp only [EQ] at a;rw [OT h.2 hi a]
section
variable {U W:Unk} {θ:List SE} (hV:W.V=U.V.inst θ) (hK:W.K=U.K) {β:List Nat} {ρ:Ren} {E:Env}
include hV hK
theorem fu {a b:Option AV} {o:Obs} (h:xm θ β a b=some o) (c:o.holds U.V) {x:AV} (d:a=some x):∃y,b=some y∧∀v,@VR U.toVals ρ y v→@VR W.toVals (ρ.back β) x v:=by
 subst d;cases b with
 |none=>cases h
 |some y=>exact ⟨y,rfl,fun v e=>H5 hV hK x y o v h c e⟩
theorem MB:∀(p a:T AV) (o:Obs),leT θ β p a=some o→o.holds U.V→∀i x,p.get i=some x→∃y,a.get i=some y∧∀v,@VR U.toVals ρ y v→@VR W.toVals (ρ.back β) x v
 |.nil,a,o,h,c,i,x,b=>by simp [T.get] at b
 |.node v l r,.nil,o,h,c,i,x,b=>by cases h
 |.node v l r,.node t j k,o,h,c,i,x,b=>by
  simp only [leT] at h;obtain ⟨o1,o2,m,n,rfl⟩:=B0 h;obtain ⟨o3,o4,q,s,rfl⟩:=B0 n;obtain ⟨d,e⟩:=Obs.append c;obtain ⟨f,g⟩:=Obs.append e;simp only [T.get] at b ⊢;split at b
  ·exact fu hV hK m d b
  ·split at b
   ·exact MB l j o3 q f _ x b
   ·exact MB r k o4 s g _ x b
theorem Vf:∀(p a:List A0) (o:Obs) (c:List MapEntry),fV θ β p a=some o→o.holds U.V→@ER U.toVals ρ a c→@ER W.toVals (ρ.back β) p c
 |[],[],o,c,h,k,d=>by cases c<;>simp_all [ER]
 |a::l,b::m,o,c,h,k,d=>by
  simp only [fV] at h;obtain ⟨n,h⟩:=Bh h;obtain ⟨o1,o2,q,s,rfl⟩:=B0 h;obtain ⟨o3,o4,t,u,rfl⟩:=B0 s;obtain ⟨f,g⟩:=Obs.append k;obtain ⟨i,j⟩:=Obs.append g;cases c with
  |nil=>simp [ER] at d
  |cons e r=>
   obtain ⟨v,w,x,y⟩:=d;exact ⟨H5 hV hK _ _ _ _ q f v,H5 hV hK _ _ _ _ t i w,by rw [x,AK n],Vf l m o4 r u j y⟩
 |[],_::_,o,c,h,_,_=>by cases h
 |_::_,[],o,c,h,_,_=>by cases h
theorem Y9 (hE:@OK U E) {x y:Aj} {o:Obs} {g:DF} {P:Option Obj} (h:@Rr U.toFacts E θ β x y=some o) (u:o.holds U.V) (r:@BR U.toVals ρ y g P):@BR W.toVals (ρ.back β) x g P:=by
 unfold Rr at h;split at h
 ·
  rename_i n c n' R;obtain ⟨b,s⟩:=Bh h;rw [AK b];obtain ⟨d,e,B,b1,b2,b3,w,C⟩:=r;refine ⟨d,e,B,b1,b2,b3,w,fun i a hi G=>?_⟩
  obtain ⟨y,D,A⟩:=MB hV hK (ρ:=ρ) c R o s u i a G;obtain ⟨v,v1,v2⟩:=C i y hi D;exact ⟨v,v1,A v v2⟩
 ·
  rename_i e x e' I;obtain ⟨b,s⟩:=Bh h;rw [AK b];obtain ⟨F,d,J,B,b1,b2,b3,w,C⟩:=r;have e1:Ab W.V x=Ab U.V I:=by rw [hV,←Cx,HT s u]
  exact ⟨F,d,J,B,by rw [hK];exact b1,b2,b3,w,by rw [e1,hK];exact C⟩
 ·
  rename_i e x n c;split at h
  ·rename_i F L;split at h
   ·rename_i l hn hl;split at h
    ·rename_i y M;obtain ⟨d,J,B,b1,b2,b3,w,C⟩:=r;have z:U.K e=some F:=by rw [OK.kd (U:=U) hE,←OK.ke (U:=U) hE];exact L
     have e1:Ab W.V x=Ab U.V y:=by rw [hV,←Cx,HT h u]
     obtain ⟨l1,l2⟩:=T.range_spec c _ _ _ hl
     have N:@VL U.toVals ρ l ((d.toList.drop g.co).take n):=by
      refine ⟨by simp [l1];omega,fun i a v G H=>?_⟩
      have hi:i<n:=by have:=(B3.1 G).1;omega
      have:=l2 i hi;rw [R2,G] at this;obtain ⟨S,v1,v2⟩:=C i a hi this;rw [XB,if_pos hi,SX,K3,v1] at H;cases H;exact v2
     obtain ⟨X,r1,r2,Y⟩:=@FI U ρ F _ _ _ _ _ M N;have Z:(Ab U.V y).rows=X:=by rw [r2];rfl
     have t:((d.toList.drop g.co).take n).length=n:=by simp;omega
     refine ⟨F,d,J,B,by rw [hK];exact z,b1,b2,w,?_⟩
     rw [e1,Z,hK]
     exact Y.at (by rw [t,b2];exact b3) (fun q Q=>by
      rw [t] at Q;rw [XB,if_pos Q,SX,K3])
    ·cases h
   ·cases h
  ·cases h
 ·
  obtain ⟨b,s⟩:=Bh h;rw [AK b];obtain ⟨j,b1,b2⟩:=r;exact ⟨j,b1,Vf hV hK _ _ _ _ s u b2⟩
 ·
  rename_i k v x k' S I;obtain ⟨b,s⟩:=Bh h;obtain ⟨c1,c2⟩:=AC b;rw [AK c1,AK c2];obtain ⟨m,p,j,f,b1,b2,b3,w⟩:=r;have e1:Ab W.V x=Ab U.V I:=by rw [hV,←Cx,HT s u]
  exact ⟨m,p,j,f,by rw [hK];exact b1,by rw [hK];exact b2,b3,by rw [e1,hK];exact w⟩
 ·
  rename_i k v x es f;split at h
  ·rename_i m p L H;split at h
   ·rename_i y M;obtain ⟨j,b1,b2⟩:=r;have z:U.K k=some m:=by rw [OK.kd (U:=U) hE,←OK.ke (U:=U) hE];exact L
    have O:U.K v=some p:=by rw [OK.kd (U:=U) hE,←OK.ke (U:=U) hE];exact H
    have e1:Ab W.V x=Ab U.V y:=by rw [hV,←Cx,HT h u]
    have q:Bx U.K ρ.imm m p ([]++j) (Ab U.V y).rows:=@Ny U ρ m p _ _ _ _ [] M b2 trivial;rw [List.nil_append] at q;exact ⟨m,p,j,f,by rw [hK];exact z,by rw [hK];exact O,b1,by rw [e1,hK];exact q⟩
   ·cases h
  ·cases h
 ·exact r
 ·obtain ⟨l',D,A⟩:=r;cases l' with
  |nil=>exact ⟨[],trivial,A⟩
  |cons=>exact D.elim
 ·
  obtain ⟨b,s⟩:=Bh h;obtain ⟨h3,h4⟩:=Bh s;obtain ⟨b,c6⟩:=AC b;obtain ⟨b,c5⟩:=AC b;obtain ⟨b,c4⟩:=AC b;obtain ⟨b,c3⟩:=AC b;obtain ⟨c1,c2⟩:=AC b;obtain ⟨c7,c8⟩:=AC h3;have e1:=fB c1;have e2:=JH (fun _ _=>Km) c2
  have e3:=AK c3;have e4:=AK c4;have e5:=Kn (fun _ _=>Br) c5
  have e7:=Km c7;have e8:=Km c8;subst e1;subst e2;subst e3;subst e4;subst e5;subst e7;subst e8;obtain ⟨tm,bd,D,A,q3⟩:=r;refine ⟨tm,bd,by rw [Fz c6];exact D,@TR.mk W.toVals (ρ.back β) _ _ _ (@TR.size U.toVals ρ _ _ _ A) (fun i x hx=>?_),q3⟩
  obtain ⟨y,r1,r2⟩:=MB hV hK (ρ:=ρ) _ _ o h4 u i x hx;exact r2 _ (@TR.get U.toVals ρ _ _ _ A i y r1)
 ·cases h
theorem D3 {h:Aa}:∀(l:List (Option Aj)) (d:List Nat) (o:Obs),@Fa U.toFacts E θ β h l d=some o→o.holds U.V→l.length=d.length∧∀(i:Nat) x,l[i]?=some (some x)→∃b y k,d[i]?=some b∧h.blk.get b=some y∧@Rr U.toFacts E θ β x y=some k∧k.holds U.V
 |[],[],o,h,m=>⟨rfl,fun i x c=>by simp at c⟩
 |a::l,b::d,o,h,m=>by
  simp only [Fa] at h;obtain ⟨o1,o2,e,n,rfl⟩:=B0 h;obtain ⟨f,g⟩:=Obs.append m;obtain ⟨p,q⟩:=D3 l d o2 n g;refine ⟨by simp [p],fun i x c=>?_⟩
  cases i with
  |zero=>
   simp only [D1,A1] at c;subst c;cases j:(_:Aa).blk.get b with
   |none=>rw [j] at e;cases e
   |some y=>rw [j] at e;exact ⟨b,y,o1,rfl,j,e,f⟩
  |succ i=>
   simp only [EQ] at c ⊢;exact q i x c
 |[],_::_,o,h,_=>by cases h
 |_::_,[],o,h,_=>by cases h
theorem HR.toPatL (hE:@OK U E) {h:Aa} {w:World} {l:List (Option Aj)} {o:Obs} (J:@HR U.toVals ρ h.blk.get w) (hl:@Fa U.toFacts E θ β h l β=some o) (ho:o.holds U.V) (hn:Gw l β=true):@HR W.toVals (ρ.back β) (Bl l).get w:=by
 obtain ⟨q1,q2⟩:=D3 hV hK l β o hl ho
 have at_:∀b base,(ρ.back β).m b=some base→∃c,β[b]?=some c∧ρ c=some base:=by
  intro b base j;simp only [Ren.back] at j;cases hc:β[b]? with
  |none=>rw [hc] at j;cases j
  |some c=>rw [hc] at j;exact ⟨c,rfl,j⟩
 have live:∀b,(Bl l).get b≠none→∃x c y o',(Bl l).get b=some x∧β[b]?=some c∧h.blk.get c=some y∧@Rr U.toFacts E θ β x y=some o'∧o'.holds U.V:=by
  intro b j;rw [CQ] at j ⊢;cases C:l[b]? with
  |none=>rw [C] at j;exact absurd rfl j
  |some ox=>
   cases ox with
   |none=>rw [C] at j;exact absurd rfl j
   |some x=>
    obtain ⟨c,y,o',a1,a2,a3,a4⟩:=q2 b x C;exact ⟨x,c,y,o',rfl,a1,a2,a3,a4⟩
 refine ⟨fun b base j=>?_,fun b base x j C=>?_,fun b b' base base' av j bd h1 h2=>?_,fun k arr hk=>HR.imm (U:=U.toVals) (ρ:=ρ) J k arr hk,fun k arr b base hk j hl=>?_⟩
 ·obtain ⟨c,c1,c2⟩:=at_ b base j;exact HR.lt (U:=U.toVals) J c base c2
 ·obtain ⟨x',c,y,o',e1,I,e3,e4,e5⟩:=live b (by rw [C];exact A3 _)
  rw [C] at e1;cases e1;obtain ⟨c',c1,c2⟩:=at_ b base j;rw [I] at c1;cases c1;exact Y9 hV hK hE e4 e5 (HR.blk (U:=U.toVals) J c base y c2 e3)
 ·obtain ⟨c,c1,c2⟩:=at_ b base j;obtain ⟨c',ab,bm⟩:=at_ b' base' bd;obtain ⟨_,d,y,_,_,I,e3,_,_⟩:=live b h1;obtain ⟨_,d',y',_,_,ar,bs,_,_⟩:=live b' h2;rw [c1] at I;cases I;rw [ab] at ar;cases ar;refine HR.apart (U:=U.toVals) J c c' base base' (fun e=>?_) c2 bm (by rw [e3];exact A3 _) (by rw [bs];exact A3 _)
  subst e
  have r:∀b,(Bl l).get b≠none→∃x,l[b]?=some (some x):=by
   intro b j;rw [CQ] at j;cases C:l[b]? with
   |none=>rw [C] at j;exact absurd rfl j
   |some ox=>
    cases ox with
    |none=>rw [C] at j;exact absurd rfl j
    |some x=>exact ⟨x,rfl⟩
  obtain ⟨x1,l1⟩:=r b h1;obtain ⟨x2,l2⟩:=r b' h2;exact av (J6 hn l1 l2 c1 ab)
 ·obtain ⟨c,c1,c2⟩:=at_ b base j;obtain ⟨_,d,y,_,_,I,e3,_,_⟩:=live b hl;rw [c1] at I;cases I;exact HR.off (U:=U.toVals) J k arr c base hk c2 (by rw [e3];exact A3 _)
omit hV hK in
theorem YG {l:List (Option Aj)} {bs:List Nat} (h:FB bs=true):Gw l bs=true:=by
 induction l generalizing bs with
 |nil=>rfl
 |cons o r ih=>
  cases bs with
  |nil=>cases o<;>rfl
  |cons b bs=>
   simp only [FB,B1,X9] at h;cases o with
   |none=>exact ih h.2
   |some x=>
    simp only [Gw,B1,X9];refine ⟨?_,ih h.2⟩;cases hq:Fw b r bs with
    |false=>rfl
    |true=>
     exfalso
     have:∀(r:List (Option Aj)) (bs:List Nat),Fw b r bs=true→MC b bs=true:=by
      intro r
      induction r with
      |nil=>intro bs h;cases bs<;>cases h
      |cons o r ih2=>
       intro bs h;cases bs with
       |nil=>cases o<;>cases h
       |cons c bs=>
        cases o with
        |none=>simp only [Fw] at h;simp [MC,ih2 bs h]
        |some x=>
         simp only [Fw,g0] at h;simp only [MC,g0];exact h.imp id (ih2 bs)
     rw [this r bs hq] at h;exact absurd h.1 (by simp)
theorem HR.toPat (hE:@OK U E) {h:Aa} {w:World} {l:List (Option Aj)} {o:Obs} (j:@HR U.toVals ρ h.blk.get w) (hl:@Fa U.toFacts E θ β h l β=some o) (C:o.holds U.V) (hn:FB β=true):@HR W.toVals (ρ.back β) (Bl l).get w:=
 HR.toPatL hV hK hE j hl C (YG hn)
end
def Uz (a:List Nat):Fn→Fn
 |.yield l=>.yield (a.getD l 0)
 |f=>f
mutual
def AV.inst [Facts] (j:List SE) (r:List Nat):AV→AV
 |.top=>.top
 |.bool b=>.bool b
 |.int k n=>.int k n
 |.str l b=>.str l b
 |.ptr0=>.ptr0
 |.ptr b o=>.ptr (r.getD b 0) o
 |.slice0=>.slice0
 |.slice b o n es=>.slice (r.getD b 0) o n es
 |.map0=>.map0
 |.map b=>.map (r.getD b 0)
 |.func fn f c=>.func (Uz r fn) (AV.instL j r f) (AV.instL j r c)
 |.nilFunc=>.nilFunc
 |.iface t v=>.iface t (AV.inst j r v)
 |.nilIface=>.nilIface
 |.agg l=>.agg (AV.instL j r l)
 |.tuple l=>.tuple (AV.instL j r l)
 |.sb p e=>mkB p (e.inst j)
 |.si k e=>mkI k (e.inst j)
 |.ss x=>.ss (x.inst j)
 |.dat e x=>.dat e (x.inst j)
 |.dptr e x i off=>.dptr e (x.inst j) (i.inst j) off
 |.asl b es n nl=>.asl (r.getD b 0) es (n.inst j) (nl.inst j)
 |.eslc nl=>.eslc (nl.inst j)
 |.aptr b es i off=>.aptr (r.getD b 0) es (i.inst j) off
 |.nmap b nl=>.nmap (r.getD b 0) (nl.inst j)
termination_by structural a=>a
def AV.instL [Facts] (j:List SE) (r:List Nat):List AV→List AV
 |[]=>[]
 |a::l=>AV.inst j r a::AV.instL j r l
termination_by structural l=>l
end
def T.mapA {j C:Type} (f:j→C):T j→T C
 |.nil=>.nil
 |.node v l r=>.node (match v with|some x=>some (f x)|none=>none) (l.mapA f) (r.mapA f)
def UJ [Facts] (a:List SE) (b:List Nat):List A0→List A0
 |[]=>[]
 |e::r=>{key:=e.key.inst a b,val:=e.val.inst a b,born:=e.born}::UJ a b r
def Aj.inst [Facts] (j:List SE) (r:List Nat):Aj→Option Aj
 |.cells n c=>some (.cells n (c.mapA (AV.inst j r)))
 |.arr e x=>some (.arr e (x.inst j))
 |.map C k=>some (.map (UJ j r C) k)
 |.dmap k v x=>some (.dmap k v (x.inst j))
 |.deferred none=>some (.deferred none)
 |.deferred (some [])=>some (.deferred (some []))
 |.loop st pending fn nt tmps params assign body d=>some (.loop st pending fn nt (tmps.mapA (AV.inst j r)) params assign body (r.getD d 0))
 |_=>none
theorem T.get_mapA {j C:Type} (f:j→C):∀(t:T j) (i:Nat),(t.mapA f).get i=(t.get i).map f
 |.nil,i=>rfl
 |.node v l r,i=>by
  simp only [T.mapA,T.get];split
  ·cases v<;>rfl
  ·split
   ·exact T.get_mapA f l _
   ·exact T.get_mapA f r _
section
variable {U W:Unk} {θ:List SE} (hV:W.V=U.V.inst θ) (hK:W.K=U.K) {β:List Nat} {σ τ:Ren}
 (hβ:∀b base,σ b=some base→τ (β.getD b 0)=some base) (hM:∀k a,σ.imm k=some a→τ.imm k=some a)
include hV hK hβ hM
omit hK in
theorem CT {e:SE}:Ab U.V (e.inst θ)=Ab W.V e:=by rw [Cx,hV]
theorem XK {f g:Fn} (h:FnR σ f g):FnR τ (Uz β f) g:=by
 cases f<;>simp only [FnR,Uz] at h ⊢<;>first|exact h|skip
 obtain ⟨base,c,d⟩:=h;exact ⟨base,hβ _ _ c,d⟩
mutual
theorem GC:∀(a:AV) (v:Value),@VR W.toVals σ a v→@VR U.toVals τ (@AV.inst U.toFacts θ β a) v
 |.top,v,h=>@VR.top U.toVals _ v
 |.bool b,v,h=>by cases h;exact @VR.bool U.toVals _ _
 |.int k n,v,h=>by cases h;exact @VR.int U.toVals _ _ _
 |.str l b,v,h=>by cases h;exact @VR.str U.toVals _ _
 |.ptr0,v,h=>by cases h;exact @VR.ptr0 U.toVals _
 |.ptr b o,v,h=>by
  cases h with
  |ptr _ _ base d=>exact @VR.ptr U.toVals _ _ o base (hβ _ _ d)
 |.slice0,v,h=>by cases h;exact @VR.slice0 U.toVals _
 |.slice b o n j,v,h=>by
  cases h with
  |slice _ _ _ _ g base d z A=>exact @VR.slice U.toVals _ _ o n j g base (hβ _ _ d) z A
  |sliceEnd _ _ _ a=>exact @VR.sliceEnd U.toVals _ _ o j a
 |.map0,v,h=>by cases h;exact @VR.map0 U.toVals _
 |.map b,v,h=>by
  cases h with
  |map _ base d=>exact @VR.map U.toVals _ _ base (hβ _ _ d)
 |.func fn f c,v,h=>by
  cases h with
  |func _ B _ _ D E r1 r2 G H I=>
   have w:=HA f D ⟨r2,G⟩;have y:=HA c E ⟨H,I⟩;exact @VR.func U.toVals _ _ B _ _ D E (XK hV hK hβ hM r1) w.1 w.2 y.1 y.2
 |.nilFunc,v,h=>by cases h;exact @VR.nilFunc U.toVals _
 |.iface t a,v,h=>by
  cases h with
  |iface _ _ F J=>exact @VR.iface U.toVals _ t _ F (GC a F J)
 |.nilIface,v,h=>by cases h;exact @VR.nilIface U.toVals _
 |.agg l,v,h=>by
  cases h with
  |agg _ u r1 r2=>
   have q:=HA l u ⟨r1,r2⟩;exact @VR.agg U.toVals _ _ u q.1 q.2
 |.tuple l,v,h=>by
  cases h with
  |tuple _ u r1 r2=>
   have q:=HA l u ⟨r1,r2⟩;exact @VR.tuple U.toVals _ _ u q.1 q.2
 |.sb p e,v,h=>by
  cases h;have:=@Ho U τ p (e.inst θ);have e1:Ah U.V (e.inst θ)=Ah W.V e:=by unfold Ah;rw [CT hV hβ hM]
  rw [e1] at this;exact this
 |.si k e,v,h=>by
  cases h;have:=@DE U τ k (e.inst θ);have e1:Af U.V (e.inst θ)=Af W.V e:=by unfold Af;rw [CT hV hβ hM]
  rw [e1] at this;exact this
 |.ss x,v,h=>by
  cases h;have e1:Ba U.V (x.inst θ)=Ba W.V x:=by unfold Ba;rw [CT hV hβ hM]
  have:=@VR.ss U.toVals τ (x.inst θ);rw [e1] at this;exact this
 |.dat e x,v,h=>by
  cases h with
  |dat _ _ a n c C=>exact @VR.dat U.toVals τ e _ a n c (by rw [CT hV hβ hM,←hK];exact C.mono hM)
 |.dptr e x i off,v,h=>by
  cases h with
  |dptr _ _ _ _ b o n g L C M m hi N=>
   have e1:Af U.V (i.inst θ)=Af W.V i:=by unfold Af;rw [CT hV hβ hM]
   have:=@VR.dptr U.toVals τ e (x.inst θ) (i.inst θ) off b o n g L (by rw [CT hV hβ hM,←hK];exact C.mono hM) (by rw [←hK];exact M) (by rw [e1];exact m) (by rw [e1];exact hi) N
   rw [e1] at this;exact this
 |.asl b j n nl,v,h=>by
  have e1:Af U.V (n.inst θ)=Af W.V n:=by unfold Af;rw [CT hV hβ hM]
  have s:Ah U.V (nl.inst θ)=Ah W.V nl:=by unfold Ah;rw [CT hV hβ hM]
  cases h with
  |asl _ _ _ _ g base d m z A hn=>
   have:=@VR.asl U.toVals τ _ j (n.inst θ) (nl.inst θ) g base (hβ _ _ d) (by rw [e1];exact m) (by rw [e1];exact z) A (by rw [s];exact hn)
   rw [e1] at this;exact this
  |aslEnd _ _ _ _ a m hn=>exact @VR.aslEnd U.toVals τ _ j _ _ a (by rw [e1];exact m) (by rw [s];exact hn)
 |.eslc nl,v,h=>by
  have s:Ah U.V (nl.inst θ)=Ah W.V nl:=by unfold Ah;rw [CT hV hβ hM]
  cases h with
  |eslc _ a hn=>exact @VR.eslc U.toVals τ _ a (by rw [s];exact hn)
 |.aptr b j i off,v,h=>by
  have e1:Af U.V (i.inst θ)=Af W.V i:=by unfold Af;rw [CT hV hβ hM]
  cases h with
  |aptr _ _ _ _ base d m=>
   have:=@VR.aptr U.toVals τ _ j (i.inst θ) off base (hβ _ _ d) (by rw [e1];exact m)
   rw [e1] at this;exact this
 |.nmap b nl,v,h=>by
  have s:Ah U.V (nl.inst θ)=Ah W.V nl:=by unfold Ah;rw [CT hV hβ hM]
  cases h with
  |nmap _ _ base d hn=>exact @VR.nmap U.toVals τ _ _ base (hβ _ _ d) (by rw [s];exact hn)
  |nmap0 _ _ hn=>exact @VR.nmap0 U.toVals τ _ _ (by rw [s];exact hn)
theorem HA:∀(l:List AV) (vs:List Value),@VL W.toVals σ l vs→@VL U.toVals τ (@AV.instL U.toFacts θ β l) vs
 |[],vs,h=>by have:=VL.nil_inv (U:=W.toVals) h;subst this;exact VL.nil (U:=U.toVals) _
 |a::l,vs,h=>by
  obtain ⟨v,r,rfl,w,y⟩:=VL.cons_inv (U:=W.toVals) h;exact VL.cons (U:=U.toVals) (GC a v w) (HA l r y)
end
theorem OA:∀(l:List A0) (c:List MapEntry),@ER W.toVals σ l c→@ER U.toVals τ (@UJ U.toFacts θ β l) c
 |[],[],_=>trivial
 |a::l,e::r,h=>⟨GC hV hK hβ hM _ _ h.1,GC hV hK hβ hM _ _ h.2.1,h.2.2.1,OA l r h.2.2.2⟩
theorem Tu {x y:Aj} {base:DF} {u:Option Obj} (h:@Aj.inst U.toFacts θ β x=some y) (d:@BR W.toVals σ x base u):@BR U.toVals τ y base u:=by
 unfold Aj.inst at h;split at h
 ·cases h;obtain ⟨f,e,n,b1,b2,b3,j,o⟩:=d;refine ⟨f,e,n,b1,b2,b3,j,fun i a hi l=>?_⟩
  rw [T.get_mapA] at l;cases c:(_:T AV).get i with
  |none=>rw [c] at l;cases l
  |some a0=>
   rw [c] at l;cases l;obtain ⟨v,v1,v2⟩:=o i a0 hi c;exact ⟨v,v1,GC hV hK hβ hM _ _ v2⟩
 ·cases h;obtain ⟨w,f,z,n,b1,b2,b3,j,o⟩:=d;exact ⟨w,f,z,n,by rw [←hK];exact b1,b2,b3,j,by rw [CT hV hβ hM,←hK];exact o.mono hM⟩
 ·cases h;obtain ⟨A,b1,b2⟩:=d;exact ⟨A,b1,OA hV hK hβ hM _ _ b2⟩
 ·cases h;obtain ⟨p,q,r,g,b1,b2,b3,j⟩:=d;exact ⟨p,q,r,g,by rw [←hK];exact b1,by rw [←hK];exact b2,b3,by rw [CT hV hβ hM,←hK];exact j.mono hM⟩
 ·cases h;exact d
 ·cases h;obtain ⟨B,s,m⟩:=d;cases B with
  |nil=>exact ⟨[],trivial,m⟩
  |cons=>exact s.elim
 ·cases h;obtain ⟨tm,C,s,m,D⟩:=d;refine ⟨tm,C,hβ _ _ s,@TR.mk U.toVals τ _ _ _ (@TR.size W.toVals σ _ _ _ m) (fun i x c=>?_),D⟩
  rw [T.get_mapA] at c;cases t:(_:T AV).get i with
  |none=>rw [t] at c;cases c
  |some a0=>
   rw [t] at c;cases c;exact GC hV hK hβ hM _ _ (@TR.get W.toVals σ _ _ _ m i a0 t)
 ·cases h
end
end Go.AE
namespace Go.AE
structure Bd where
 v:T SE
 b:T Nat
 deriving Inhabited
def Bd.var (m:Bd) (e x:SE):Bd:=match e with
 |.var i=>match m.v.get i with
  |none=>{v:=m.v.set i x,b:=m.b}
  |some _=>m
 |_=>m
def Bd.blk (m:Bd) (b c:Nat):Bd:=match m.b.get b with
 |none=>{v:=m.v,b:=m.b.set b c}
 |some _=>m
mutual
def He:AV→AV→Bd→Bd
 |.ptr b _,.ptr c _,m=>m.blk b c
 |.slice b _ _ _,.slice c _ _ _,m=>m.blk b c
 |.map b,.map c,m=>m.blk b c
 |.func (.yield l) f c,.func (.yield h) i j,m=>Gh c j (Gh f i (m.blk l h))
 |.func _ f c,.func _ i j,m=>Gh c j (Gh f i m)
 |.iface _ v,.iface _ q,m=>He v q m
 |.agg l,.agg h,m=>Gh l h m
 |.tuple l,.tuple h,m=>Gh l h m
 |.sb p e,.sb r g,m=>m.var e (match p==r with|true=>g|false=>.neg g)
 |.sb p e,.bool b,m=>m.var e (.bc (b==p))
 |.si _ e,.si _ g,m=>m.var e g
 |.si _ e,.int _ n,m=>m.var e (.c n)
 |.ss e,.ss g,m=>m.var e g
 |.ss e,.str l b,m=>m.var e (.strc l b)
 |.dat _ x,.dat _ s,m=>m.var x s
 |.dat _ x,.slice0,m=>m.var x .nilL
 |.asl b _ n nl,.asl c _ o d,m=>((m.blk b c).var n o).var nl d
 |.asl b _ n nl,.slice c _ o _,m=>((m.blk b c).var n (.c o)).var nl (.bc false)
 |.asl _ _ n nl,.slice0,m=>(m.var n (.c 0)).var nl (.bc true)
 |.asl _ _ n nl,.eslc d,m=>(m.var n (.c 0)).var nl d
 |.eslc nl,.eslc d,m=>m.var nl d
 |.eslc nl,.slice0,m=>m.var nl (.bc true)
 |.nmap b nl,.nmap c d,m=>(m.blk b c).var nl d
 |.nmap b nl,.map c,m=>(m.blk b c).var nl (.bc false)
 |.nmap _ nl,.map0,m=>m.var nl (.bc true)
 |_,_,m=>m
termination_by structural a=>a
def Gh:List AV→List AV→Bd→Bd
 |a::l,b::k,m=>Gh l k (He a b m)
 |_,_,m=>m
termination_by structural l=>l
end
def Rj:T AV→T AV→Bd→Bd
 |.node v l r,.node c d e,m=>Rj r e (Rj l d (match v,c with
  |some a,some b=>He a b m
  |_,_=>m))
 |_,_,m=>m
def Vh [Facts] (E:Env):Aj→Aj→Bd→Bd
 |.cells _ c,.cells _ h,m=>Rj c h m
 |.loop _ _ _ _ t _ _ _ d,.loop _ _ _ _ i _ _ _ j,m=>Rj t i (m.blk d j)
 |.arr _ x,.arr _ a,m=>m.var x a
 |.dmap _ _ x,.dmap _ _ a,m=>m.var x a
 |.dmap k v x,.map o _,m=>match E.kinds k,E.kinds v with
  |some b,some f=>match NJ b f .emptyL o with
   |some y=>m.var x y
   |none=>m
  |_,_=>m
 |.arr e x,.cells n c,m=>match E.kinds e with
  |some g=>match c.range 0 n with
   |some l=>match Es g (n/g.length) .emptyL l with
    |some y=>m.var x y
    |none=>m
   |none=>m
  |none=>m
 |_,_,m=>m
def NI [Facts] (E:Env) (h:Aa):List (Option Aj)→Nat→Bd→Bd
 |[],_,m=>m
 |none::r,i,m=>NI E h r (i+1) m
 |some x::r,i,m=>match m.b.get i with
  |some c=>match h.blk.get c with
   |some y=>NI E h r (i+1) (Vh E x y m)
   |none=>NI E h r (i+1) m
  |none=>NI E h r (i+1) m
def H8 [Facts] (E:Env) (l:List (Option Aj)) (h:Aa) (m:Bd):Bd:=match l with
 |[]=>m
 |[_]=>m
 |_=>NI E h l 0 (NI E h l 0 (NI E h l 0 m))
def AT [Facts] (E:Env):List (Option Aj)→Nat→Bd→Aa→Bd×Aa
 |[],_,m,h=>(m,h)
 |none::r,i,m,h=>match m.b.get i with
  |some _=>AT E r (i+1) m h
  |none=>AT E r (i+1) (m.blk i h.nx) {h with nx:=h.nx+1}
 |some x::r,i,m,h=>match m.b.get i with
  |some c=>match h.blk.get c with
   |some y=>AT E r (i+1) (Vh E x y m) h
   |none=>AT E r (i+1) m h
  |none=>match x with
   |.arr e y=>AT E r (i+1) ((m.blk i h.nx).var y .nilL) (h.new (.arr e .nilL))
   |.dmap k v y=>AT E r (i+1) ((m.blk i h.nx).var y .emptyL) (h.new (.dmap k v .emptyL))
   |_=>AT E r (i+1) m h
def IU (t:T SE):Nat→Nat→List SE
 |_,0=>[]
 |i,n+1=>(match t.get i with|some x=>x|none=>.c 0)::IU t (i+1) n
def Jl (t:T Nat):Nat→Nat→List Nat
 |_,0=>[]
 |i,n+1=>(match t.get i with|some x=>x|none=>0)::Jl t (i+1) n
def Ot (n:Nat):List Nat→Bool
 |[]=>true
 |b::r=>Nat.blt b n&&Ot n r
def D4 (nx:Nat):Nat→List Nat
 |0=>[]
 |m+1=>nx::D4 (nx+1) m
def Je [U:Facts] (a:List SE):List (SB×Bool)→Bool
 |[]=>true
 | (e,b)::r=>(match AW U.facts (e.inst a) with
  |some c=>c==b
  |none=>false)&&Je a r
def EE [Facts] (a:List SE) (c:List Nat):List (Option Aj)→List Nat→T Aj→Option (T Aj)
 |[],[],t=>some t
 |none::r,b::d,t=>EE a c r d (t.del b)
 |some x::r,b::d,t=>match x.inst a c with
  |some y=>EE a c r d (t.set b y)
  |none=>none
 |_,_,_=>none
def Wn [Facts]:Obs→Bool
 |[]=>true
 | (a,.bc true)::r=>a.isB&&NT a&&Wn r
 |_=>false
def J3 [Facts]:Option Obs→Bool
 |some o=>Wn o
 |none=>false
theorem ao {U:Unk}:∀{o:Obs},@Wn U.toFacts o=true→o.holds U.V:=by
 intro o
 induction o with
 |nil=>intro _ a b d;cases d
 |cons p r f=>
  intro h;unfold Wn at h;split at h
  ·rename_i c;cases c
  ·rename_i x i c;cases c;simp only [B1] at h;intro a b d;rcases F5.1 d with q|q
   ·cases q;have e:=h.1.2;unfold NT at e;split at e
    ·rename_i g;have:=AA U.ok g;rw [PH U.V h.1.1];show D.bool (Ah U.V x)=_;rw [this];rfl
    ·cases e
   ·exact f h.2 a b q
  ·cases h
theorem O1 {U:Unk} {o:Option Obs} (h:@J3 U.toFacts o=true):∃l,o=some l∧l.holds U.V:=by
 unfold J3 at h;split at h
 ·exact ⟨_,rfl,ao h⟩
 ·cases h
def W1 (a new:T Aj):List Nat→List Nat
 |[]=>[]
 |b::r=>match eqO VJ (a.get b) (new.get b) with
  |true=>W1 a new r
  |false=>b::W1 a new r
theorem Qn {a new:T Aj}:∀{l:List Nat} {b:Nat},b∈l→b∉W1 a new l→new.get b=a.get b
 |c::r,b,h,hn=>by
  simp only [W1] at hn;split at hn
  ·rename_i d;rcases F5.1 h with q|q
   ·subst q;exact (YQ (fun _ _=>Rh) d).symm
   ·exact Qn q hn
  ·rcases F5.1 h with q|q
   ·subst q;exact absurd (by simp) hn
   ·exact Qn q (fun c=>hn (by simp [c]))
def Tk [Facts] (E:Env) (s:Sm) (b:List SE) (a:List Nat) (args:List AV) (h:Aa):Option (AV×Aa):=
 match J3 (H9 b a s.args args)&&J3 (Fa E b a h s.pre a)&&FB a&&Ot h.nx a&&Je b s.facts&&Nat.ble s.pre.length s.post.length with
 |true=>
  match EE b (a++D4 h.nx (s.post.length-s.pre.length)) s.post (a++D4 h.nx (s.post.length-s.pre.length)) h.blk with
  |some t=>some (s.res.inst b (a++D4 h.nx (s.post.length-s.pre.length)),{blk:=t,nx:=h.nx+(s.post.length-s.pre.length),log:=W1 h.blk t a++h.log})
  |none=>none
 |false=>none
def oE:AV→Kd
 |.dat e _=>.slice e
 |_=>.bool
def QU [Facts] (E:Env) (p a:AV) (h:Aa):AV×Aa:=
 match p,a with
 |.agg c,.agg d=>match Jk E (c.map oE) d h with
  | (b,e)=>(.agg b,e)
 |p,a=>Ls E (oE p) a h
def RC [Facts] (E:Env):List AV→List AV→Aa→List AV×Aa
 |p::b,a::l,h=>match QU E p a h with
  | (c,d)=>match RC E b l d with
   | (e,f)=>(c::e,f)
 |_,l,h=>(l,h)
def Ex [Facts] (E:Env):List (Option Aj)→Nat→T Nat→Aa→Aa
 |[],_,_,h=>h
 |some (.arr e _)::r,i,b,h=>match b.get i,E.kinds e with
  |some c,some ks=>match G4 ks with
   |true=>match h.blk.get c with
    |some (.cells _ _)=>Ex E r (i+1) b (Is E e c h)
    |_=>Ex E r (i+1) b h
   |false=>Ex E r (i+1) b h
  |_,_=>Ex E r (i+1) b h
 |some (.cells n a)::r,i,b,h=>match b.get i,a.range 0 n with
  |some c,some l=>match G4 (O0 l) with
   |true=>Ex E r (i+1) b (EU E (O0 l) c h)
   |false=>Ex E r (i+1) b h
  |_,_=>Ex E r (i+1) b h
 |_::r,i,b,h=>Ex E r (i+1) b h
def Ru [Facts] (E:Env) (s:Sm) (args:List AV) (h:Aa):List AV×Aa:=match RC E s.args args h with
 | (args,h)=>(args,Ex E s.pre 0 (H8 E s.pre h (Gh s.args args ⟨.nil,.nil⟩)).b h)
def Tf:AV→Bool
 |.bool _=>true
 |.int _ _=>true
 |.str _ _=>true
 |.sb _ _=>true
 |.si _ _=>true
 |.ss _=>true
 |_=>false
def Qc:AV→Bool
 |.tuple l=>l.all Tf
 |a=>Tf a
def ip (s:Sm) (h:Aa) (r:AV×Aa):AV×Aa:=match s.pre,s.post,Qc r.1 with
 |[],[],true=>(r.1,h)
 |_,_,_=>r
def YM [Facts] (E:Env) (s:Sm) (args:List AV) (a:Aa):Option (AV×Aa):=
 match Ru E s args a with
 | (args,h)=>match AT E s.pre 0 (H8 E s.pre h (Gh s.args args ⟨.nil,.nil⟩)) h with
  | (m,c)=>match Tk E s (IU m.v 0 s.nv) (Jl m.b 0 s.pre.length) args c with
   |some r=>some (ip s a r)
   |none=>none
def OW [Facts] (E:Env):List Sm→FuncId→List AV→Aa→Option (AV×Aa)
 |[],_,_,_=>none
 |s::r,f,args,h=>match Nat.beq s.f f with
  |true=>match YM E s args h with
   |some x=>some x
   |none=>OW E r f args h
  |false=>OW E r f args h
def Sm.Valid (P:Program) (F:Nat→D→D) (s:Sm):Prop:=
 ∀[U:Unk],U.K=(Env.of P).kinds→U.V.fn=F→(∀e b,(e,b)∈s.facts→Ah U.V e=b)→∀(C:Ren) (w:World) (j:List Value),VL C s.args j→HR C (Bl s.pre).get w→(∀b,s.pre.length≤b→C b=none)→
  ∀(c0:Frame) (r:List Frame),∃I v' J,Cm P (lone (Frame.enter P s.f j.toArray .normal) (c0::r) w) c0 r true v' J∧VR I s.res v'∧HR I (Bl s.post).get J∧
   Ext C I {blk:=Bl s.pre,nx:=s.pre.length,log:=[]} {blk:=Bl s.post,nx:=s.post.length,log:=List.range s.pre.length} w J
theorem Mq:∀(m nx i:Nat),(D4 nx m)[i]?=if i<m then some (nx+i) else none
 |0,nx,i=>by simp [D4]
 |m+1,nx,i=>by
  cases i with
  |zero=>simp [D4]
  |succ i=>
   simp only [D4,EQ,Mq m (nx+1) i];by_cases c:i<m
   ·rw [if_pos c,if_pos (by omega)];congr 1;omega
   ·rw [if_neg c,if_neg (by omega)]
theorem MW {n:Nat}:∀{l:List Nat},Ot n l=true→∀b∈l,b<n
 |[],_,b,a=>by cases a
 |c::r,h,b,a=>by
  simp only [Ot,B1] at h;rcases F5.1 a with rfl|a
  ·simpa [Nat.blt_eq] using h.1
  ·exact MW h.2 b a
theorem Cp {U:Unk} {f:List SE}:∀{l:List (SB×Bool)},@Je U.toFacts f l=true→∀e b,(e,b)∈l→Ah (U.V.inst f) e=b
 |[],_,e,b,h=>by cases h
 | (x,c)::r,h,e,b,g=>by
  simp only [Je,B1] at h;rcases F5.1 g with q|q
  ·cases q;have a:=h.1;split at a
   ·rename_i d i;have:=@AA U U.V _ U.ok _ _ i;rw [FM] at this;rw [this];exact eq_of_beq a
   ·cases a
  ·exact Cp h.2 e b q
theorem Tt [Facts] {q:List SE} {s:List Nat}:∀(l:List (Option Aj)) (d:List Nat) (t f:T Aj),EE q s l d t=some f→(∀(i j b:Nat),d[i]?=some b→d[j]?=some b→i=j)→
  (∀c,c∉d→f.get c=t.get c)∧∀(i c:Nat),d[i]?=some c→(l[i]?=some none∧f.get c=none)∨∃(x y:Aj),l[i]?=some (some x)∧x.inst q s=some y∧f.get c=some y:=by
 intro l
 induction l with
 |nil=>
  intro d t f h m;cases d with
  |nil=>simp only [EE,A1] at h;subst h;exact ⟨fun _ _=>rfl,fun i c a=>by simp at a⟩
  |cons=>cases h
 |cons o r u=>
  intro d t f h m;cases d with
  |nil=>cases o<;>cases h
  |cons b d=>
   have v:b∉d:=by
    intro w;obtain ⟨j,n,e⟩:=X0 w;have:=m 0 (j+1) b rfl (by simp [n,e])
    omega
   have g:∀(i j b:Nat),d[i]?=some b→d[j]?=some b→i=j:=fun i j c hi n=>by
    have:=m (i+1) (j+1) c (by simpa using hi) (by simpa using n)
    omega
   cases o with
   |none=>
    simp only [EE] at h;obtain ⟨k,p⟩:=u d _ f h g;refine ⟨fun c a=>?_,fun i c a=>?_⟩
    ·simp only [F5,not_or] at a;rw [k c a.2,T.get_del,if_neg (fun e=>a.1 e.symm)]
    ·cases i with
     |zero=>
      simp only [D1,A1] at a;subst a;exact .inl ⟨rfl,by rw [k _ v,T.get_del,if_pos rfl]⟩
     |succ i=>
      simp only [EQ] at a ⊢;exact p i c a
   |some x=>
    simp only [EE] at h;split at h
    ·rename_i y z;obtain ⟨k,p⟩:=u d _ f h g;refine ⟨fun c a=>?_,fun i c a=>?_⟩
     ·simp only [F5,not_or] at a;rw [k c a.2,T.get_set,if_neg (fun e=>a.1 e.symm)]
     ·cases i with
      |zero=>
       simp only [D1,A1] at a;subst a;exact .inr ⟨x,y,rfl,z,by rw [k _ v,T.get_set,if_pos rfl]⟩
      |succ i=>
       simp only [EQ] at a ⊢;exact p i c a
    ·cases h
@[reducible] def Dp (U:Unk) (F:List (SB×Bool)) (a:List SE) (h:∀e b,(e,b)∈F→Ah (U.V.inst a) e=b):Unk:={facts:=F,V:=U.V.inst a,K:=U.K,R:=[],hR:=fun _ _ _ _ _ h=>(by cases h),ok:=h}
theorem Vn {U:Unk} {E:Env} {FF:List (SB×Bool)} {C:List SE} {r:List Nat} (z:∀e b,(e,b)∈FF→Ah (U.V.inst C) e=b) {pre post:List (Option Aj)} {res:AV} {o:Obs} {h:Aa} {t:T Aj} {ρ S:Ren} {w w':World} {v':Value} {p n1:Nat} (ap:pre.length=p) (aq:post.length=n1)
  (ag:Fa E C r h pre r=some o) (ah:o.holds U.V) (ar:FB r=true) (Y:∀b∈r,b<h.nx) (a0:p≤n1) (ht:EE C (r++D4 h.nx (n1-p)) post (r++D4 h.nx (n1-p)) h.blk=some t)
  (hr:HR ρ h.blk.get w) (as:∀b,h.nx≤b→h.blk.get b=none) (ad:Bs ρ h.nx (h.nx+(n1-p)))
  (q2:@VR (Dp U FF C z).toVals S res v') (q3:@HR (Dp U FF C z).toVals S (Bl post).get w') (N:Ext (ρ.back r) S {blk:=Bl pre,nx:=pre.length,log:=[]} {blk:=Bl post,nx:=post.length,log:=List.range pre.length} w w') :
  ∃J,VR J (res.inst C (r++D4 h.nx (n1-p))) v'∧HR J t.get w'∧Ext ρ J h {blk:=t,nx:=h.nx+(n1-p),log:=r++h.log} w w':=by
 have hV:(Dp U FF C z).V=U.V.inst C:=rfl;have hK:(Dp U FF C z).K=U.K:=rfl;have a5:pre.length=r.length:=(D3 (U:=U) (W:=Dp U FF C z) hV hK pre r o ag ah).1;have ai:=(D3 (U:=U) (W:=Dp U FF C z) hV hK pre r o ag ah).2
 have O:∀b,pre.length≤b→(ρ.back r).m b=none:=by
  intro b F;have:r[b]?=none:=E4 (by omega)
  simp [Ren.back,this]
 have au:r.length=p:=by omega
 have gb:∀(i:Nat),(r++D4 h.nx (n1-p))[i]?=if i<p then r[i]? else if i<n1 then some (h.nx+(i-p)) else none:=by
  intro i;by_cases c:i<p
  ·rw [if_pos c,Ea (by omega)]
  ·rw [if_neg c,E3 (by omega),Mq,au]
   by_cases c2:i<n1
   ·rw [if_pos c2,if_pos (by omega)]
   ·rw [if_neg c2,if_neg (by omega)]
 have ae:∀(i j b:Nat),(r++D4 h.nx (n1-p))[i]?=some b→(r++D4 h.nx (n1-p))[j]?=some b→i=j:=by
  intro i j b hi M;rw [gb] at hi M;by_cases c:i<p
  ·rw [if_pos c] at hi;have:=Y b (Nn hi);by_cases d:j<p
   ·rw [if_pos d] at M;exact OT ar hi M
   ·rw [if_neg d] at M;split at M
    ·cases M;omega
    ·cases M
  ·rw [if_neg c] at hi;split at hi
   ·cases hi;by_cases d:j<p
    ·rw [if_pos d] at M;have:=Y _ (Nn M);omega
    ·rw [if_neg d] at M;split at M
     ·simp only [A1] at M;omega
     ·cases M
   ·cases hi
 obtain ⟨t1,t2⟩:=@Tt U.toFacts C _ _ _ _ _ ht ae
 let J:Ren:=⟨fun c=>if h.nx≤c∧c<h.nx+(n1-p) then S (p+(c-h.nx)) else ρ c,S.imm⟩
 have u:∀c,c<h.nx→J c=ρ c:=fun c n=>by show (if _ then _ else _)=_;rw [if_neg (by omega)]
 have P:∀i,p≤i→i<n1→J (h.nx+(i-p))=S i:=fun i h1 h2=>by
  show (if _ then _ else _)=_
  rw [if_pos (by omega)];congr 1;omega
 have ac:=N.le
 have back:∀b B,(ρ.back r).m b=some B→∃c,r[b]?=some c∧ρ c=some B:=by
  intro b B F;simp only [Ren.back] at F;cases n:r[b]? with
  |none=>rw [n] at F;cases F
  |some c=>rw [n] at F;exact ⟨c,rfl,F⟩
 have s:∀b,(Bl pre).get b≠none→∃c y,r[b]?=some c∧h.blk.get c=some y:=by
  intro b F;rw [CQ] at F;cases hx:pre[b]? with
  |none=>rw [hx] at F;exact absurd rfl F
  |some ox=>
   cases ox with
   |none=>rw [hx] at F;exact absurd rfl F
   |some x=>
    obtain ⟨c,y,o',a1,a2,a3,a4⟩:=ai b x hx;exact ⟨c,y,a1,a2⟩
 have aj:ρ.le J:=by
  refine ⟨fun c B n=>?_,fun k a L=>ac.imm k a L⟩
  show (if _ then _ else _)=_
  rw [if_neg ?_]
  ·exact n
  ·intro ak;rw [ad c ak.1 ak.2] at n;cases n
 have al:∀b B,S b=some B→J ((r++D4 h.nx (n1-p)).getD b 0)=some B:=by
  intro b g F;rcases N.new b g F with hq|⟨a1,a2,_⟩
  ·obtain ⟨c,c1,c2⟩:=back b g hq;have am:b<p:=by have:=(B3.1 c1).1;omega
   have e:(r++D4 h.nx (n1-p)).getD b 0=c:=by rw [A4,gb,if_pos am,c1];rfl
   rw [e,u c (Y c (Nn c1))];exact c2
  ·simp only [ap,aq] at a1 a2;have e:(r++D4 h.nx (n1-p)).getD b 0=h.nx+(b-p):=by rw [A4,gb,if_neg (by omega),if_pos a2];rfl
   rw [e,P b a1 a2];exact F
 have kinds:∀c y,t.get c=some y→(∃i x,(r++D4 h.nx (n1-p))[i]?=some c∧(Bl post).get i=some x∧@Aj.inst U.toFacts C (r++D4 h.nx (n1-p)) x=some y)∨(c∉r∧c<h.nx∧h.blk.get c=some y):=by
  intro c y G;by_cases hm:c∈r++D4 h.nx (n1-p)
  ·obtain ⟨i,hi,e⟩:=X0 hm;have an:(r++D4 h.nx (n1-p))[i]?=some c:=B3.2 ⟨hi,e⟩;rcases t2 i c an with ⟨_,q⟩|⟨x,Z,a1,a2,a3⟩
   ·rw [q] at G;cases G
   ·rw [a3] at G;cases G;exact .inl ⟨i,x,an,by rw [CQ,a1];rfl,a2⟩
  ·rw [t1 c hm] at G;refine .inr ⟨fun e=>hm (List.mem_append_left _ e),?_,G⟩
   rcases F8 c h.nx with q|q
   ·exact q
   ·rw [as c q] at G;cases G
 have v:∀i c g,(r++D4 h.nx (n1-p))[i]?=some c→J c=some g→S i=some g:=by
  intro i c g hi n;rw [gb] at hi;by_cases d:i<p
  ·rw [if_pos d] at hi;rw [u c (Y c (Nn hi))] at n;exact ac.m i g (by show (r[i]?).bind ρ.m=some g;rw [hi];exact n)
  ·rw [if_neg d] at hi;split at hi
   ·rename_i d2;cases hi;rw [P i (by omega) d2] at n;exact n
   ·cases hi
 have H:∀D f c g y,(ρ.back r).m D=some f→(Bl pre).get D≠none→c∉r→ρ c=some g→h.blk.get c=some y→f.cb≠g.cb:=by
  intro D f c g y h1 h2 h3 h4 h5;obtain ⟨c1,e1,Q⟩:=back D f h1;obtain ⟨c2,y2,X,e4⟩:=s D h2;rw [e1] at X;cases X;exact hr.apart c1 c f g (fun e=>h3 (e▸Nn e1)) Q h4 (by rw [e4];exact A3 _) (by rw [h5];exact A3 _)
 have mixed:∀i c g I A Z x,(r++D4 h.nx (n1-p))[i]?=some c→(Bl post).get i=some x→J c=some g→I∉r→I<h.nx→h.blk.get I=some Z→J I=some A→g.cb≠A.cb:=by
  intro i c g I A Z x hi hx n h3 h4 h5 h6;rw [u I h4] at h6;have av:=v i c g hi n;rcases N.new i g av with hq|⟨a1,a2,a3|⟨D,f,e1,Q,X⟩⟩
  ·rcases N.live i (by show (Bl post).get i≠none;rw [hx];exact A3 _) with l|⟨l1,l2⟩
   ·exact H i g I A Z hq l h3 h6 h5
   ·simp only at l1;rw [O i l1] at hq;cases hq
  ·have:=hr.lt I A h6;omega
  ·rw [←X];exact H D f I A Z e1 Q h3 h6 h5
 refine ⟨J,GC (U:=U) (W:=Dp U FF C z) hV hK al (fun k a L=>L) res v' q2,⟨?_,?_,?_,?_,?_⟩,⟨aj,by show h.nx≤h.nx+_;omega,?_,N.calm,?_,⟨r,rfl,?_⟩,?_,?_⟩⟩
 ·intro c g n;by_cases d:h.nx≤c∧c<h.nx+(n1-p)
  ·have:J c=S (p+(c-h.nx)):=by show (if _ then _ else _)=_;rw [if_pos d]
   rw [this] at n;exact HR.lt (U:=(Dp U FF C z).toVals) q3 _ g n
  ·have:J c=ρ c:=by show (if _ then _ else _)=_;rw [if_neg d]
   rw [this] at n;have:=hr.lt c g n;have:=N.calm.size;omega
 ·intro c g y n G;rcases kinds c y G with ⟨i,x,a1,a2,a3⟩|⟨a1,a2,a3⟩
  ·exact Tu (U:=U) (W:=Dp U FF C z) hV hK al (fun k a L=>L) a3 (HR.blk (U:=(Dp U FF C z).toVals) q3 i g x (v i c g a1 n) a2)
  ·rw [u c a2] at n;have L:=N.kept g.cb (hr.lt c g n) (fun D f aw ax=>H D f c g y aw ax a1 n a3)
   rw [L];exact (hr.blk c g y n a3).mono aj
 ·intro c I g A ao n R h1 h2;cases G:t.get c with
  |none=>exact absurd G h1
  |some y=>
   cases af:t.get I with
   |none=>exact absurd af h2
   |some Z=>
    rcases kinds c y G with ⟨i,x,a1,a2,a3⟩|⟨a1,a2,a3⟩
    ·rcases kinds I Z af with ⟨i',x',b1,b2,b3⟩|⟨b1,b2,b3⟩
     ·exact HR.apart (U:=(Dp U FF C z).toVals) q3 i i' g A (fun e=>by subst e;rw [a1] at b1;cases b1;exact ao rfl) (v i c g a1 n) (v i' I A b1 R) (by rw [a2];exact A3 _) (by rw [b2];exact A3 _)
     ·exact mixed i c g I A Z x a1 a2 n b1 b2 b3 R
    ·rcases kinds I Z af with ⟨i',x',b1,b2,b3⟩|⟨b1,b2,b3⟩
     ·exact (mixed i' I A c g y x' b1 b2 R a1 a2 a3 n).symm
     ·rw [u c a2] at n;rw [u I b2] at R;exact hr.apart c I g A ao n R (by rw [a3];exact A3 _) (by rw [b3];exact A3 _)
 ·intro k arr L;exact HR.imm (U:=(Dp U FF C z).toVals) q3 k arr L
 ·intro k arr c g L n hl;cases G:t.get c with
  |none=>exact absurd G hl
  |some y=>
   rcases kinds c y G with ⟨i,x,a1,a2,a3⟩|⟨a1,a2,a3⟩
   ·exact HR.off (U:=(Dp U FF C z).toVals) q3 k arr i g L (v i c g a1 n) (by rw [a2];exact A3 _)
   ·rw [u c a2] at n;have ay:h.blk.get c≠none:=by rw [a3];exact A3 _
    rcases N.imm k arr L with e|e|⟨D,f,e1,Q,X⟩
    ·exact hr.off k arr c g e n ay
    ·have:=hr.lt c g n;omega
    ·rw [←X];exact (H D f c g y e1 Q a1 n a3).symm
 ·intro c g n;by_cases d:h.nx≤c∧c<h.nx+(n1-p)
  ·have e:J c=S (p+(c-h.nx)):=by show (if _ then _ else _)=_;rw [if_pos d]
   rw [e] at n;refine .inr ⟨d.1,d.2,?_⟩;rcases N.new _ g n with hq|⟨_,_,a3|⟨D,f,e1,Q,X⟩⟩
   ·rw [O _ (by omega)] at hq;cases hq
   ·exact .inl a3
   ·obtain ⟨c1,x1,x2⟩:=back D f e1;obtain ⟨c2,y2,x3,x4⟩:=s D Q;rw [x1] at x3;cases x3;exact .inr ⟨c1,f,x2,by rw [x4];exact A3 _,X⟩
  ·have e:J c=ρ c:=by show (if _ then _ else _)=_;rw [if_neg d]
   rw [e] at n;exact .inl n
 ·intro k L az;refine N.kept k L (fun D f e1 Q=>?_)
  obtain ⟨c1,x1,x2⟩:=back D f e1;obtain ⟨c2,y2,x3,x4⟩:=s D Q;rw [x1] at x3;cases x3;exact az c1 f x2 (by rw [x4];exact A3 _)
 ·intro b F aa;refine t1 b (fun hm=>?_)
  rcases eq.1 hm with q|q
  ·exact F q
  ·obtain ⟨i,hi,e⟩:=X0 q;have ab:(D4 h.nx (n1-p))[i]?=some b:=by simp [hi,e]
   rw [Mq] at ab;split at ab
   ·cases ab;simp only at aa;omega
   ·cases ab
 ·intro b F;show h.blk.get b≠none∨(h.nx≤b∧b<h.nx+(n1-p));cases G:t.get b with
  |none=>exact absurd G F
  |some y=>
   rcases kinds b y G with ⟨i,x,a1,a2,a3⟩|⟨a1,a2,a3⟩
   ·rw [gb] at a1;by_cases d:i<p
    ·rw [if_pos d] at a1;rcases N.live i (by show (Bl post).get i≠none;rw [a2];exact A3 _) with l|⟨l1,_⟩
     ·obtain ⟨c2,y2,x3,x4⟩:=s i l;rw [a1] at x3;cases x3;exact .inl (by rw [x4];exact A3 _)
     ·simp only at l1;omega
    ·rw [if_neg d] at a1;split at a1
     ·cases a1;exact .inr (by omega)
     ·cases a1
   ·exact .inl (by rw [a3];exact A3 _)
 ·intro k arr L;rcases N.imm k arr L with e|e|⟨D,f,e1,Q,X⟩
  ·exact .inl e
  ·exact .inr (.inl e)
  ·obtain ⟨c1,x1,x2⟩:=back D f e1;obtain ⟨c2,y2,x3,x4⟩:=s D Q;rw [x1] at x3;cases x3;exact .inr (.inr ⟨c1,f,x2,by rw [x4];exact A3 _,X⟩)
theorem Wr {U:Unk} {E:Env} (hE:OK E) {F:Nat→D→D} (M:U.V.fn=F) {s:Sm} (hs:s.Valid E.P F) {k:List SE} {i:List Nat} {args:List AV} {a:List Value} {h h':Aa} {v:AV} {x:Ren} {w:World}
  (n:Tk E s k i args h=some (v,h')) (N:VL x args a) (B:HR x h.blk.get w) (G:∀b,h.nx≤b→h.blk.get b=none) (o:Bs x h.nx h'.nx) (c0:Frame) (d:List Frame) :
  ∃y C z,Cm E.P (lone (Frame.enter E.P s.f a.toArray .normal) (c0::d) w) c0 d true C z∧VR y v C∧HR y h'.blk.get z∧Ext x y h h' w z:=by
 unfold Tk at n;split at n
 ·rename_i j;split at n
  ·rename_i t O;simp only [A1,E5] at n;obtain ⟨rfl,rfl⟩:=n;obtain ⟨j,e⟩:=AC j;obtain ⟨j,c⟩:=AC j;obtain ⟨j,p⟩:=AC j;obtain ⟨j,A⟩:=AC j;obtain ⟨q,g⟩:=AC j;obtain ⟨l1,q,H⟩:=O1 q;obtain ⟨l2,g,r⟩:=O1 g;have e:=Ep e;have p:=MW p;have hV:(Dp U s.facts k (Cp c)).V=U.V.inst k:=rfl;have hK:(Dp U s.facts k (Cp c)).K=U.K:=rfl;have Q:s.pre.length=i.length:=(D3 (U:=U) (W:=Dp U s.facts k (Cp c)) hV hK s.pre i _ g r).1;have p1:=FN (U:=U) (W:=Dp U s.facts k (Cp c)) hV hK s.args args _ a q H N;have p2:=HR.toPat (U:=U) (W:=Dp U s.facts k (Cp c)) hV hK hE B g r A
   have u:∀b,s.pre.length≤b→(x.back i).m b=none:=by
    intro b I;have:i[b]?=none:=E4 (by omega)
    simp [Ren.back,this]
   obtain ⟨Z,C,z,R,S,T,X⟩:=hs (U:=Dp U s.facts k (Cp c)) hE.kd M (Cp c) (x.back i) w a p1 p2 u c0 d;obtain ⟨y,r1,r2,J⟩:=Vn (U:=U) (E:=E) (FF:=s.facts) (Cp c) rfl rfl g r A p e O B G o S T X;refine ⟨y,C,z,R,r1,r2,{J with log:=⟨W1 h.blk t i,rfl,fun b I B=>?_⟩}⟩
   by_cases L:b∈i
   ·exact Qn L I
   ·obtain ⟨l,e1,Y⟩:=J.log;have e1:i++h.log=l++h.log:=e1;have:=List.append_cancel_right e1;subst this;exact Y b L B
  ·cases n
 ·cases n
theorem BD [Facts] {E:Env}:∀(l:List (Option Aj)) (i:Nat) (m:Bd) (h:Aa),h.nx≤(AT E l i m h).2.nx
 |[],_,_,_=>C1 _
 |none::r,i,m,h=>by
  simp only [AT];split
  ·exact BD r (i+1) m h
  ·exact hY (Nat.le_succ _) (BD (E:=E) r (i+1) (m.blk i h.nx) {h with nx:=h.nx+1})
 |some x::r,i,m,h=>by
  simp only [AT];split
  ·split
   ·exact BD r (i+1) _ h
   ·exact BD r (i+1) _ h
  ·split
   ·rename_i e y;have:=BD (E:=E) r (i+1) ((m.blk i h.nx).var y .nilL) (h.new (.arr e .nilL));exact hY (Nat.le_succ _) this
   ·rename_i k v y;have:=BD (E:=E) r (i+1) ((m.blk i h.nx).var y .emptyL) (h.new (.dmap k v .emptyL));exact hY (Nat.le_succ _) this
   ·exact BD r (i+1) _ h
theorem BC {U:Unk} {E:Env} {ρ:Ren} {w:World}:∀(l:List (Option Aj)) (i:Nat) (m:Bd) (h:Aa),HR ρ h.blk.get w→WF h→Bs ρ h.nx (AT E l i m h).2.nx→
  HR ρ (AT E l i m h).2.blk.get w∧Ext ρ ρ h (AT E l i m h).2 w w∧WF (AT E l i m h).2
 |[],_,_,h,c,a,_=>⟨c,Ext.refl _ _ _,a⟩
 |none::r,i,m,h,c,a,b=>by
  simp only [AT] at b ⊢;split at b
  ·exact BC r (i+1) m h c a b
  ·have hn:=BD (E:=E) r (i+1) (m.blk i h.nx) {h with nx:=h.nx+1}
   have e0:Ext ρ ρ h {h with nx:=h.nx+1} w w:=⟨Ren.le_refl ρ,Nat.le_succ _,fun _ _ e=>.inl e,IH.refl w,fun _ _ _=>rfl,⟨[],rfl,fun _ _ _=>rfl⟩,fun _ e=>.inl e,fun _ _ e=>.inl e⟩
   obtain ⟨d,f,g⟩:=BC r (i+1) (m.blk i h.nx) {h with nx:=h.nx+1} c (e0.wf a) (e0.free b)
   exact ⟨d,e0.trans f b,g⟩
 |some x::r,i,m,h,c,a,b=>by
  simp only [AT] at b ⊢;split at b
  ·split at b
   ·exact BC r (i+1) _ h c a b
   ·exact BC r (i+1) _ h c a b
  ·split at b
   ·rename_i e y;have hn:=BD (E:=E) r (i+1) ((m.blk i h.nx).var y .nilL) (h.new (.arr e .nilL));have j:(h.new (.arr e .nilL)).nx=h.nx+1:=rfl;obtain ⟨p1,p2⟩:=HR.phantom c (b h.nx (C1 _) (by omega)) (.arr e .nilL)
    obtain ⟨d,f,g⟩:=BC r (i+1) _ _ p1 (p2.wf a) (p2.free b);exact ⟨d,p2.trans f b,g⟩
   ·rename_i k v y;have hn:=BD (E:=E) r (i+1) ((m.blk i h.nx).var y .emptyL) (h.new (.dmap k v .emptyL));have j:(h.new (.dmap k v .emptyL)).nx=h.nx+1:=rfl;obtain ⟨p1,p2⟩:=HR.phantom c (b h.nx (C1 _) (by omega)) (.dmap k v .emptyL)
    obtain ⟨d,f,g⟩:=BC r (i+1) _ _ p1 (p2.wf a) (p2.free b);exact ⟨d,p2.trans f b,g⟩
   ·exact BC r (i+1) _ h c a b
theorem Ry {U:Unk} {E:Env} (hE:OK E) {w:World} {p a f:AV} {v:Value} {d:Ren} {h h':Aa} (g:HR d h.blk.get w) (i:VR d a v) (b:QU E p a h=(f,h')) :
  h'.nx=h.nx∧∃c:Ren,VR c f v∧HR c h'.blk.get w∧Ext d c h h' w w:=by
 unfold QU at b;split at b
 ·rename_i q r;split at b;rename_i e s k;cases b;cases i with
  |agg _ l e1 m=>
   obtain ⟨hn,c,j,n,o⟩:=LT hE g ⟨e1,m⟩ k;exact ⟨hn,c,.agg e l j.1 j.2,n,o⟩
 ·exact ⟨P9 b,LS hE g i b⟩
theorem Qs {U:Unk} {E:Env} (hE:OK E) {w:World}:∀{q l e:List AV} {vs:List Value} {d:Ren} {h h':Aa},HR d h.blk.get w→VL d l vs→RC E q l h=(e,h')→
  h'.nx=h.nx∧∃i:Ren,VL i e vs∧HR i h'.blk.get w∧Ext d i h h' w w
 |[],l,e,vs,d,h,h',f,g,c=>by
  cases l<;>(simp only [RC] at c;cases c;exact ⟨rfl,d,g,f,Ext.refl _ _ _⟩)
 |k::n,[],e,vs,d,h,h',f,g,c=>by
  simp only [RC] at c;cases c;exact ⟨rfl,d,g,f,Ext.refl _ _ _⟩
 |k::n,a::l,e,vs,d,h,h',f,g,c=>by
  obtain ⟨v,r,rfl,s,t⟩:=g.cons_inv;simp only [RC] at c;generalize j:QU E k a h=p1 at c;obtain ⟨a1,u⟩:=p1;simp only at c;generalize m:RC E n l u=p2 at c;obtain ⟨l1,D⟩:=p2;simp only at c;cases c;obtain ⟨x,i,y,z,o⟩:=Ry hE f s j;obtain ⟨A,B,r1,r2,p⟩:=Qs hE z (t.mono o.le) m;refine ⟨by omega,B,VL.cons (y.mono p.le) r1,r2,o.trans p (fun b F C=>by omega)⟩
theorem Ce {U:Unk} {E:Env} (hE:OK E) {w:World}:∀(l:List (Option Aj)) (i:Nat) (b:T Nat) (h:Aa) (a:Ren),HR a h.blk.get w→(Ex E l i b h).nx=h.nx∧∃g:Ren,HR g (Ex E l i b h).blk.get w∧Ext a g h (Ex E l i b h) w w
 |[],_,_,h,a,f=>⟨rfl,a,f,Ext.refl _ _ _⟩
 |some (.arr e x)::r,i,b,h,a,f=>by
  have next:=Ce hE r (i+1) b h a f;simp only [Ex];split
  ·rename_i c ks j p;split
   ·split
    ·obtain ⟨n1,g,k,m⟩:=Ps (e:=e) (b:=c) hE f;obtain ⟨n2,o,r1,r2⟩:=Ce hE r (i+1) b (Is E e c h) g k;exact ⟨by omega,o,r1,m.trans r2 (fun d q s=>by omega)⟩
    ·exact next
   ·exact next
  ·exact next
 |none::r,i,b,h,a,f=>Ce hE r (i+1) b h a f
 |some (.cells n t)::r,i,b,h,a,f=>by
  have next:=Ce hE r (i+1) b h a f;simp only [Ex];split
  ·rename_i c l j hl;split
   ·obtain ⟨n1,g,k,m⟩:=KW (ks:=O0 l) (b:=c) hE f;obtain ⟨n2,o,r1,r2⟩:=Ce hE r (i+1) b (EU E (O0 l) c h) g k;exact ⟨by omega,o,r1,m.trans r2 (fun d q s=>by omega)⟩
   ·exact next
  ·exact next
 |some (.map _ _)::r,i,b,h,a,f=>Ce hE r (i+1) b h a f
 |some (.dmap _ _ _)::r,i,b,h,a,f=>Ce hE r (i+1) b h a f
 |some (.loop _ _ _ _ _ _ _ _ _)::r,i,b,h,a,f=>Ce hE r (i+1) b h a f
 |some (.deferred _)::r,i,b,h,a,f=>Ce hE r (i+1) b h a f
 |some (.mapIter _ _ _ _)::r,i,b,h,a,f=>Ce hE r (i+1) b h a f
theorem bE {U:Unk} {E:Env} (hE:OK E) {w:World} {s:Sm} {l c:List AV} {vs:List Value} {d:Ren} {h h':Aa} (g:HR d h.blk.get w) (i:VL d l vs) (e:Ru E s l h=(c,h')) :
  h'.nx=h.nx∧∃a:Ren,VL a c vs∧HR a h'.blk.get w∧Ext d a h h' w w:=by
 unfold Ru at e;split at e;rename_i args f j;cases e;obtain ⟨n1,a,k,m,n⟩:=Qs hE g i j;obtain ⟨n2,o,r1,r2⟩:=Ce hE s.pre 0 (H8 E s.pre f (Gh s.args c ⟨.nil,.nil⟩)).b f a m;exact ⟨by omega,o,k.mono r2.le,r1,n.trans r2 (fun b q p=>by omega)⟩
theorem L8 {U:Unk} {a:AV} {v:Value} {c d:Ren} (h:Tf a=true) (f:VR c a v):VR d a v:=by
 cases f with
 |bool b=>exact .bool b
 |int k n=>exact .int k n
 |str s=>exact .str s
 |sb p e=>exact .sb p e
 |si k e=>exact .si k e
 |ss x=>exact .ss x
 |_=>cases h
theorem UT {U:Unk} {a:AV} {v:Value} {d e:Ren} (h:Qc a=true) (b:VR d a v):VR e a v:=by
 unfold Qc at h;split at h
 ·rename_i l;cases b with
  |tuple _ f g j=>exact .tuple l f g fun i a v c b=>L8 (List.all_eq_true.mp h a (Nn c)) (j i a v c b)
 ·exact L8 h b
theorem HR.still {U:Unk} {ρ:Ren} {g:Nat→Option Aj} {w C:World} (j:HR ρ g w) (hs:w.heap.size≤C.heap.size) (I:∀k,k<w.heap.size→C.heap[k]?=w.heap[k]?):HR ρ g C:=by
 refine ⟨fun b base r=>ge (j.lt b base r) hs,fun b base x r J=>?_,j.apart,fun k arr hi=>?_,j.off⟩
 ·rw [I _ (j.lt b base r)];exact j.blk b base x r J
 ·rw [I _ (j.immLt hi)];exact j.imm k arr hi
theorem cR {U:Unk} {E:Env} (hE:OK E) {F:Nat→D→D} (C:U.V.fn=F) {s:Sm} (hs:s.Valid E.P F) {m:List SE} {z:List Nat} {args:List AV} {c:List Value} {h n h':Aa} {v:AV} {q d:Ren} {w:World}
  (i:Tk E s m z args h=some (v,h')) (p1:s.pre=[]) (p2:s.post=[]) (p3:Qc v=true) (r:z=[]) (G:VL q args c) (H:HR q h.blk.get w) (t:HR d n.blk.get w) (c0:Frame) (a:List Frame) :
  ∃o p l,Cm E.P (lone (Frame.enter E.P s.f c.toArray .normal) (c0::a) w) c0 a true p l∧VR o v p∧HR o n.blk.get l∧Ext d o n n w l:=by
 subst r
 have j:∃g,Tk E s m [] args {h with blk:=.nil}=some (v,g)∧g.nx=h.nx:=by
  unfold Tk at i ⊢;rw [p1,p2] at i ⊢;split at i
  ·rename_i I;have u:(J3 (H9 m [] s.args args)&&J3 (Fa E m [] {h with blk:=.nil} [] [])&&FB []&&Ot h.nx []&&Je m s.facts&&Nat.ble ([]:List (Option Aj)).length ([]:List (Option Aj)).length)=true:=I
   rw [u];split at i
   ·simp only [A1,E5] at i;obtain ⟨rfl,rfl⟩:=i;exact ⟨_,rfl,rfl⟩
   ·cases i
  ·cases i
 obtain ⟨g,j,hn⟩:=j;have e0:∀b,({h with blk:=T.nil}:Aa).blk.get b=none:=fun b=>by show T.get (T.nil:T Aj) b=none;cases b<;>rfl
 have x:HR q ({h with blk:=T.nil}:Aa).blk.get w:=H.restrict fun b=>.inl (e0 b)
 obtain ⟨o,p,l,J,K,_,A⟩:=Wr hE C hs j G x (fun b _=>e0 b) (fun b b1 b2=>by rw [hn] at b2;exact absurd b2 (Nat.not_lt.2 b1)) c0 a
 have kp:∀k,k<w.heap.size→l.heap[k]?=w.heap[k]?:=fun k y=>A.kept k y fun b a _ hl=>absurd (e0 b) hl
 have B:=A.calm;exact ⟨d,p,l,J,UT p3 K,t.still B.size kp,⟨Ren.le_refl d,C1 _,fun _ _ e=>.inl e,B,fun k y _=>kp k y,⟨[],rfl,fun _ _ _=>rfl⟩,fun _ e=>.inl e,fun _ _ e=>.inl e⟩⟩
theorem MH {U:Unk} {E:Env} (hE:OK E) {F:Nat→D→D} (A:U.V.fn=F) {f:FuncId} {args:List AV} {k:List Value} {h g:Aa} {v:AV} {B:Ren} {w:World}:∀{l:List Sm},(∀s∈l,s.Valid E.P F)→OW E l f args h=some (v,g)→VL B args k→HR B h.blk.get w→WF h→Bs B h.nx g.nx→
  ∀(c0:Frame) (c:List Frame),∃H C y,Cm E.P (lone (Frame.enter E.P f k.toArray .normal) (c0::c) w) c0 c true C y∧VR H v C∧HR H g.blk.get y∧Ext B H h g w y
 |[],_,n,_,_,_,_=>by simp [OW] at n
 |s::r,hO,n,I,G,q,d=>by
  simp only [OW] at n;split at n
  ·rename_i T;have e1:=AK T;subst e1;split at n
   ·rename_i x a;cases n;unfold YM at a;split at a;rename_i i o t;split at a;rename_i m u J;have t:Ru E s args h=(i,o):=t;obtain ⟨W,K,z1,z2,z3⟩:=bE hE G I t;have z:WF o:=z3.wf q;have L:(AT E s.pre 0 (H8 E s.pre o (Gh s.args i ⟨.nil,.nil⟩)) o).2=u:=by rw [J]
    split at a;rotate_left
    ·cases a
    rename_i X p;obtain ⟨v0,Q⟩:=X;have a:=Option.some.inj a;unfold ip at a;split at a
    ·rename_i p1 p2 p3;simp only [E5] at a;obtain ⟨rfl,rfl⟩:=a;intro c0 c;have M:u=o:=by rw [←L,p1];rfl
     subst M;exact cR hE A (hO s (by simp)) (args:=i) (h:=u) p p1 p2 p3 (by rw [p1];rfl) z1 z2 G c0 c
    simp only [E5] at a;obtain ⟨rfl,rfl⟩:=a;have a:=p
    have Y:u.nx≤Q.nx:=by
     unfold Tk at a;split at a
     ·split at a
      ·simp only [A1,E5] at a;obtain ⟨_,rfl⟩:=a;show u.nx≤u.nx+_;omega
      ·cases a
     ·cases a
    have j:Bs K o.nx Q.nx:=z3.free d;obtain ⟨R,N,S⟩:=BC (E:=E) s.pre 0 (H8 E s.pre o (Gh s.args i ⟨.nil,.nil⟩)) o z2 z (fun b b1 b2=>j b b1 (by rw [L] at b2;omega))
    rw [L] at R N S;intro c0 c;obtain ⟨Z,C,y,r1,r2,r3,r4⟩:=Wr hE A (hO s (by simp)) a z1 R S (N.free j) c0 c
    exact ⟨Z,C,y,r1,r2,r3,z3.trans (N.trans r4 j) d⟩
   ·exact MH hE A (fun e O=>hO e (by simp [O])) n I G q d
  ·exact MH hE A (fun e O=>hO e (by simp [O])) n I G q d
end Go.AE
namespace Go.AE
def HO [Facts] (E:Env) (s:AS) (f:Operand) (params:List Tmp) (assign body:Code) (k:List AI):Option (FuncId×List AV×Aa×AF):=
 match U9 s.fr s.h with
 |some (d,a,mark)=>match Al s.fr.tmps f with
  |.func fn first captured=>match Fm E fn captured (first++[.func (.yield a.nx) [] []]) (a.new (.loop .ready none s.fr.fn s.fr.nt s.fr.tmps params assign body d)) with
   |.enter g args _=>some (g,args,a.new (.loop .ready none s.fr.fn s.fr.nt s.fr.tmps params assign body d),{s.fr with todo:=.inRange a.nx::k,defers:=mark++s.fr.defers})
   |_=>none
  |_=>none
 |none=>none
variable [U:Unk]
section
variable {E:Env} (hE:OK E) {ρ:Ren} {w:World} {c:Frame} {ccs:List Frame} {s:AS}
include hE
theorem UF {base:List Frame} {d:Frame} {w0:World} {h h':Aa} {sm:Sem Next} {g:FuncId} {args:List AV} {f:AF}
  (i:(stepG E.P true {frame:=d,callers:=ccs++base,status:=.running,dying:=none} w0).bare=(stepG.apply E.P true c (ccs++base) none sm w).bare)
  (l:Gd E ρ h w sm (.enter g args h')) (m:FrR ρ f c):∃b:List Value,VL ρ args b∧step E.P (lone d (ccs++base) w0)=.next (lone (Frame.enter E.P g b.toArray .normal) (c::(ccs++base)) w):=by
 obtain ⟨rfl,b,n,e⟩:=l;refine ⟨b,n,step_lone_go ?_⟩;rw [i];have j:=m.todo;simp only [stepG.apply,Sem.runT_eq,e,if_true,GStep.bare_after,GStep.bare_go];generalize c.todo=p at j;generalize f.todo=fd at j;cases j with
 |nil=>rfl
 |cons a _=>cases a<;>rfl
 |rest=>
  generalize o:U.R=r;cases r with
  |nil=>rfl
  |cons x k=>cases x<;>first|rfl|exact absurd o (U.hR _ _ _ _ _)
theorem Py (z:SR ρ s c ccs w) (Z:c.mode=.run) {J:Operand} {params:Array Tmp} {assign body:Code} {k:List AI} {K:List Item} (hk:IL ρ k K) (ht:c.todo=.code (.rangeFunc J params assign body)::K)
  {g:FuncId} {args:List AV} {L:Aa} {C:AF} (v:HO E s J params.toList assign body k=some (g,args,L,C)) (i:Bs ρ s.h.nx L.nx) (base:List Frame) :
  ∃u O e w1,step E.P (lone c (ccs++base) w)=.next (lone (Frame.enter E.P g e.toArray .normal) (O::(ccs++base)) w1)∧VL u args e∧FrR u C O∧HR u L.blk.get w1∧Ext ρ u s.h L w w1:=by
 unfold HO at v;split at v
 ·rename_i d p mark A;split at v
  ·rename_i fn first captured Q;split at v
   ·rename_i g2 R aa S;cases v;have D:(p.new (.loop .ready none s.fr.fn s.fr.nt s.fr.tmps params.toList assign body d)).nx=p.nx+1:=rfl;obtain ⟨u,w1,M,j,t,q2,q3,q4,N⟩:=ST (E:=E) z.h z.fr A (fun b p h2=>i b p (by simp only [D];omega))
    have B:=z.fr.mono N.le;have o:u p.nx=none:=(N.free i) p.nx (C1 _) (by simp only [D];omega)
    have q:=Ren.le_upd o ⟨w1.heap.size,0,0⟩;obtain ⟨p1,p2⟩:=q4.new o (.loop .ready none s.fr.fn s.fr.nt s.fr.tmps params.toList assign body d)
     (.loop {state:=.ready,pending:=none,fn:=c.fn,tmps:=c.tmps,params:=params,assign:=assign,body:=body,defers:=M.cb}) 0
     ⟨c.tmps,M,q.m _ _ q2,B.tm.mono q,by rw [B.fn]⟩
     {w1 with heap:=w1.heap.push (.loop {state:=.ready,pending:=none,fn:=c.fn,tmps:=c.tmps,params:=params,assign:=assign,body:=body,defers:=M.cb})} rfl rfl rfl rfl
    have X:(u.upd p.nx ⟨w1.heap.size,0,0⟩) p.nx=some ⟨w1.heap.size,0,0⟩:=by simp [Ren.upd]
    have F:(Instr.enterLoop c.fn c.tmps params assign body c.roundOf).run E.P w=.ok (w1.heap.size,j) {w1 with heap:=w1.heap.push (.loop {state:=.ready,pending:=none,fn:=c.fn,tmps:=c.tmps,params:=params,assign:=assign,body:=body,defers:=M.cb})}:=by
     cases G:c.roundOf with
     |some l=>
      rw [G] at t;simp only [Mu,B2,CU] at t;simp only [Instr.enterLoop,B2,CU,fc,A2];cases Y:(Instr.getLoop l).run E.P w with
      |ok a w2=>
       rw [Y] at t;simp only [A2,Result.ok.injEq,E5] at t ⊢;obtain ⟨⟨e1,H⟩,T⟩:=t;rw [e1,H,T];exact ⟨⟨rfl,rfl⟩,rfl⟩
      |halt x w2=>rw [Y] at t;cases t
     |none=>
      rw [G] at t;simp only [Mu,B2,CU,fc,A2,Result.ok.injEq,E5] at t;obtain ⟨⟨e1,H⟩,T⟩:=t;simp only [Instr.enterLoop,B2,CU,fc,A2];rw [←e1,←H,←T]
    have n:=B.mono q;have V:=n.evR J;rw [Q] at V;generalize W:c.eval J=cv at V;cases V with
    |func _ ab _ _ f' O r1 r2 r3 r4 r5=>
     have ha:VL (u.upd p.nx ⟨w1.heap.size,0,0⟩) (first++[.func (.yield p.nx) [] []]) (f'++[.func (.yield w1.heap.size) #[] #[]]):=
      VL.append ⟨r2,r3⟩ (VL.cons (.func _ _ [] [] [] [] ⟨_,X,rfl⟩ rfl (by simp) rfl (by simp)) (VL.nil _))
     have r:=ES hE p1 r1 ⟨r4,r5⟩ ha;rw [S] at r
     have y:FrR (u.upd p.nx ⟨w1.heap.size,0,0⟩) {s.fr with todo:=.inRange p.nx::k,defers:=mark++s.fr.defers} {c with todo:=.inRangeFunc w1.heap.size::K,defers:=j++c.defers}:=
      ⟨n.fn,n.tm,.cons (.inRange _ _ X) ((hk.mono N.le).mono q),(q3.mono q).append n.defers,n.mode,n.kind,n.round⟩
     obtain ⟨e,e1,H⟩:=UF hE (base:=base) (c:={c with todo:=.inRangeFunc w1.heap.size::K,defers:=j++c.defers})
      (f:={s.fr with todo:=.inRange p.nx::k,defers:=mark++s.fr.defers}) (K9 Z ht F) (r.congr (by
       have I:c.eval (.const (.func (.yield w1.heap.size) #[] #[]))=.func (.yield w1.heap.size) #[] #[]:=rfl;simp [resolve,W,I,Deferred.ofValue])) y
     exact ⟨_,_,e,_,H,e1,y,p1,N.trans p2 i⟩
   ·cases v
  ·cases v
 ·cases v
end
end Go.AE
namespace Go.AE
def Rd:List Orc→FuncId→List AV→Aa→Option (Bool×AV×Aa)
 |[],_,_,_=>none
 |e::r,f,args,h=>match Nat.beq e.f f&&Nat.beq e.nx h.nx&&If e.args args&&T8 e.part h.blk with
  |true=>some (e.ok,e.v,BA h {blk:=e.out,nx:=e.nx',log:=e.wr})
  |false=>Rd r f args h
def Mj [Facts] (E:Env) (f:FuncId) (args:List AV) (h:Aa):Option (Bool×AV×Aa):=
 match Rd E.orc f args h with
 |some r=>some r
 |none=>match OW E E.sms f args h with
  |some (v,g)=>some (true,v,g)
  |none=>none
def U5 (h:Aa):AV→AV
 |.slice b 0 n a=>match h.blk.get b with
  |some (.arr _ _)=>.asl b a (.c n) (.bc false)
  |_=>.slice b 0 n a
 |x=>x
def tG (h:Aa):AV→Bool
 |.slice b 0 _ _=>match h.blk.get b with
  |some (.arr _ _)=>true
  |_=>false
 |_=>false
def T.anyA {j:Type} (f:j→Bool):T j→Bool
 |.nil=>false
 |.node v l r=>(match v with|some x=>f x|none=>false)||l.anyA f||r.anyA f
def cw (h:Aa) (fr:AF):AF:=match fr.tmps.anyA (tG h) with
 |true=>{fr with tmps:=fr.tmps.mapA (U5 h)}
 |false=>fr
def aY [Facts] (E:Env) (s:AS) (all:Array Oper) (o:Oper) (r:List Oper):Option AS:=
 match o.op,r,o.dst with
 |.slice t x (some lo) none none,o2::_,some d=>match o2.op with
  |.call c=>match c.callee,c.argTypes.toList,c.args.toList with
   |.builtin .clear,[t1],[.tmp i]=>match Al s.fr.tmps x,toI (Al s.fr.tmps lo) with
    |.asl b f n nl,some (_,l)=>match E.desc t,E.desc t1,s.h.blk.get b with
     |some (.slice e),some (.slice e1),some (.arr j y)=>match E.zero e,E.kinds e with
      |some z,some k=>match Nat.beq d i&&(Nat.beq e e1&&(Nat.beq e j&&(Nat.beq z.cells.length f&&(Nat.beq f k.length&&(E8 z.cells&&(E.szIs e f&&(Fy n y&&inB l n n))))))) with
       |true=>match Eh all o s.fr.tmps,Dh s.fr .top with
        |some true,some a=>match Eh all o2 a.tmps,Dh a .top with
         |some true,some g=>some {s with fr:=g,h:=s.h.put b (.arr e (.sub y (.c 0) l))}
         |_,_=>none
        |_,_=>none
       |false=>none
      |_,_=>none
     |_,_,_=>none
    |_,_=>none
   |_,_,_=>none
  |_=>none
 |_,_,_=>none
def be [Facts] (t:T AV):List Tmp→Option (Tmp×AV)
 |[]=>none
 |i::r=>match t.get i with
  |some (.nmap b nl)=>match aW (.nmap b nl) with
   |.nmap _ _=>be t r
   |v=>some (i,v)
  |_=>be t r
def yi [Facts] (s:AS):Option AS:=match s.fr.todo with
 |.ops all (o::_)::_=>match be s.fr.tmps (C0 all o) with
  |some (i,v)=>some {s with fr:={s.fr with tmps:=s.fr.tmps.set i v}}
  |none=>none
 |_=>none
def ax [Facts] (E:Env) (s:AS):Option AS:=
  match E.orc.isEmpty&&E.sms.isEmpty with
  |true=>none
  |false=>match s.fr.mode with
    |.run=>match s.fr.todo with
      |.ops all (o::r)::_=>match aY E s all o r with
       |some c=>some c
       |none=>match NA o.op with
        |false=>match Eh all o s.fr.tmps with
          |some true=>match aop E s.fr.tmps s.h o.op with
            |.enter g args _=>match Mj E g args s.h with
              |some (true,v,h)=>match Dh s.fr v with
                |some fr=>some {s with fr:=cw h fr,h}
                |none=>none
              |_=>none
            |_=>none
          |_=>none
        |true=>none
      |.code (.rangeFunc f params assign body)::k=>match HO E s f params.toList assign body k with
        |some (g,args,b,a)=>match Mj E g args b with
          |some (true,v,h)=>match Nat.ble b.nx h.nx,Dh a v with
            |true,some fr=>some {s with fr:=cw h fr,h}
            |_,_=>none
          |_=>none
        |none=>none
      |_=>none
    |_=>none
def Yj [Facts] (E:Env) (s:AS):Option AS:=match yi s with
 |some a=>some a
 |none=>ax E s
def G1 [Facts] (E:Env):Nat→FuncId→Bool→AS→Option (Bool×AV×Aa)
  |0,_,_,_=>none
  |f+1,b,c,s=>match Yj E s with
   |some d=>(match Nat.ble s.h.nx d.h.nx with
     |true=>G1 E f b c d
     |false=>none)
   |none=>match HD E s with
    |.next d=>match Nat.ble s.h.nx d.h.nx with
      |true=>G1 E f b c d
      |false=>none
    |.done ok v h=>match Nat.ble s.h.nx h.nx&&Nat.beq s.fr.fn b&&(c||s.fr.round.isNone) with
      |true=>some (ok,v,h)
      |false=>none
    |.draw s ops k=>
      match DJ E (fun a h=>match a with
        |.enter g args=>match Mj E g args h with
          |some r=>some r
          |none=>match BT E g args .normal with
            |some fr=>G1 E f fr.fn true {fr,cs:=[],h}
            |none=>none
        |.round l args=>match Hr l args h with
          |some fr=>G1 E f fr.fn true {fr,cs:=[],h}
          |none=>none) ops s.fr.nt ops.toList [] s.fr.tmps s.h with
      |some (none,tmps,h)=>G1 E f b c {s with fr:={s.fr with tmps,todo:=k},h}
      |some (some v,tmps,h)=>G1 E f b c {s with fr:={s.fr with tmps,todo:=.dead::k,mode:=.panic [(v,false)]},h}
      |none=>none
    |.bad _=>none
def gP [Facts] (E:Env) (n:Nat) (f:FuncId) (args:List AV) (h:Aa):Option (Bool×AV×Aa):=
 match BT E f args .normal with
 |some fr=>G1 E n f false {fr,cs:=[],h}
 |none=>none
def AH [Facts] (E:Env) (N:Nat) (e:Orc):Bool:=
 match gP E N e.f e.args {blk:=e.part,nx:=e.nx,log:=[]} with
 |some (ok,v,g)=>(ok==e.ok)&&BO v e.v&&T8 e.out g.blk&&Nat.beq g.nx e.nx'&&eJ e.nx e.wr g.log
 |none=>false
section
variable [U:Unk] {E:Env} (hE:OK E) {ρ:Ren} {h:Aa} {w:World}
include hE
theorem fT (M:HR ρ h.blk.get w) {t t1 ty e:TypeId} {O:List Kd} {z:AV} {b o:Nat} {n nl y l:SE} {xv s:Value} {kd:IntKind} (hd:E.desc t=some (.slice e)) (aa:E.desc t1=some (.slice e)) (hz:E.zero e=some z) (hk:E.kinds e=some O)
  (am:z.cells.length=o) (ab:o=O.length) (ac:E8 z.cells=true) (hx:VR ρ (.asl b o n nl) xv) (Q:h.blk.get b=some (.arr e y)) (hs:E.szIs e o=true) (hn:Fy n y=true) (ae:s=.int kd (Af U.V l)) (af:inB l n n=true) :
  ∃v C,(Instr.sliceAt t xv (some s) none none).run E.P w=.ok v w∧(Builtin.clear_ #[t1] ty #[v]).run E.P w=.ok (.tuple #[]) C∧HR ρ (h.put b (.arr e (.sub y (.c 0) l))).blk.get C∧Ext ρ ρ h (h.put b (.arr e (.sub y (.c 0) l))) w C:=by
 obtain ⟨b0,b1,b2⟩:=Kb af;have D:=H6 hn;have hu:=hE.run_und hd (w:=w);have A:=hE.run_und aa (w:=w);have e0:Af U.V (.c 0)=0:=rfl
 have B:(Ab U.V (.sub y (.c 0) l)).rows.length=(Af U.V l).toNat:=by
  rw [EX,e0];rw [As] at D;simp;omega
 have key:∀i,i<(Af U.V l).toNat→(Ab U.V (.sub y (.c 0) l)).rows.getD i default=(Ab U.V y).rows.getD i default:=by
  intro i hi;rw [EX,e0,Mg (by simpa using hi)]
  congr 1
  simp
 have rows:∀{d:List Kd} {co:Nat} {g f:Array Value},By U.K ρ.imm d g co (Ab U.V y).rows→f.size=g.size→(∀j,j<co+(Af U.V l).toNat*d.length→f.getD j Go.undef=g.getD j Go.undef)→By U.K ρ.imm d f co (Ab U.V (.sub y (.c 0) l)).rows:=by
  intro d co g f hR ag R;rw [As] at D;have ah:(Af U.V l).toNat≤(Ab U.V y).rows.length:=by omega
  refine ⟨?_,fun i hi=>?_,fun i j kd hi S=>?_⟩
  ·rw [B,ag];have:=hR.1;have:=F3 d.length ah;omega
  ·rw [B] at hi;rw [key i hi];exact hR.2.1 i (by omega)
  ·rw [B] at hi;rw [key i hi,R]
   ·exact hR.2.2 i j kd (by omega) S
   ·have an:j<d.length:=(B3.1 S).1;have:(i+1)*d.length≤(Af U.V l).toNat*d.length:=F3 _ (by omega)
    rw [ce,Nat.one_mul] at this;omega
 have still:HR ρ (h.put b (.arr e (.sub y (.c 0) l))).blk.get w∧Ext ρ ρ h (h.put b (.arr e (.sub y (.c 0) l))) w w:=by
  refine M.swap (by rw [Q];exact A3 _) _ fun a x=>?_
  obtain ⟨d,g,T,W,X,q2,Y,Z,q5⟩:=M.blk b a _ x Q;exact ⟨d,g,T,W,X,q2,Y,Z,rows q5 rfl fun _ _=>rfl⟩
 have p1:(some s=none∧l=.c 0)∨∃k,some s=some (.int k (Af U.V l)):=.inr ⟨kd,by rw [ae]⟩
 cases hx with
 |aslEnd _ _ _ _ ad q0 qn=>
  have ai:Af U.V l=0:=by omega
  have q:=H4 (P:=E.P) (w:=w) (b:=true) (len:=0) (cap:=0) (u:=n) (du:=n) (hi':=none) (dl:=.c 0) p1 (.inl ⟨rfl,rfl⟩) rfl (by rw [q0];rfl) b0 b1 (by rw [q0];exact Int.le_refl _) (C1 _)
  rw [ai,q0] at q;refine ⟨.slice ad 0 0,w,?_,?_,still.1,still.2⟩
  ·simp [Instr.sliceAt,Instr.slice,hu,q,hE.run_szIs hs]
  ·cases ad<;>simp [Builtin.clear_,A]
 |asl _ _ _ _ cap a x q0 qc qz qn=>
  have q:=H4 (P:=E.P) (w:=w) (b:=true) (len:=(Af U.V n).toNat) (cap:=cap) (u:=n) (du:=n) (hi':=none) (dl:=.c 0) p1 (.inl ⟨rfl,rfl⟩) rfl (by omega) b0 b1 (by omega) qc
  generalize hL:(Af U.V l).toNat=L at *;generalize hN:(Af U.V n).toNat=N at *;have ao:L≤N:=by omega
  have p:(Instr.sliceAt t (.slice (some ⟨a.cb,a.co,none⟩) N cap) (some s) none none).run E.P w=.ok (.slice (if cap=L then some ⟨a.cb,a.co,none⟩ else some ⟨a.cb,a.co+L*o,none⟩) (N-L) (cap-L)) w:=by
   simp [Instr.sliceAt,Instr.slice,hu,q,hE.run_szIs hs,CG]
  by_cases R:N-L=0
  ·rw [R] at p;refine ⟨_,w,p,?_,still.1,still.2⟩;split<;>simp [Builtin.clear_,A]
  ·have F:cap≠L:=by omega
   rw [if_neg F] at p;obtain ⟨d,g,T,W,X,q2,Y,Z,q5⟩:=M.blk b a _ x Q;have G:U.K e=some O:=by rw [hE.kd,←hE.ke];exact hk
   rw [G] at X;cases X;obtain ⟨r,z1,z2⟩:=hE.run_zero ρ hz w;have zc:=(Bg ρ z2).cells (Cj z2);have aj:r.cells.size=o:=by have:=zc.1;simp at this;omega
   have H:∀v∈(Builtin.zeroCells r.cells (N-L)).toList,v.oneCell'=true:=by
    intro v hv;have hm:=Iq ac zc;rw [Builtin.zeroCells] at hv;simp only [Array.toList_map,Array.toList_range,List.mem_map,List.mem_range] at hv;obtain ⟨i,hi,rfl⟩:=hv
    have I:0<r.cells.size:=by
     rcases Nat.eq_zero_or_pos r.cells.size with c|c
     ·rw [c] at hi;simp at hi
     ·exact c
    have ak:i%r.cells.size<r.cells.size:=Nat.mod_lt _ I;have:r.cells[i%r.cells.size]! = r.cells[i%r.cells.size]:=by simp [ak]
    rw [this];exact hm _ (by simp)
   have J:(Builtin.zeroCells r.cells (N-L)).toList.length=(N-L)*o:=by
    rw [Builtin.zeroCells,aj];simp
   have al:a.co+L*o+(N-L)*o≤g.size:=by
    have e1:L*o+(N-L)*o=N*o:=by rw [←ce];congr 1;omega
    have e2:N*o≤cap*o:=F3 _ (by omega)
    omega
   obtain ⟨C,f,r1,r2,r3,r4,r5,r6,r7,r8,r9⟩:=CE E.P a.cb (a.co+L*o) T W (Builtin.zeroCells r.cells (N-L)).toList 0 w g q2 (by rw [J];omega) (by rw [Y];exact Z) H
   refine ⟨_,C,p,?_,?_⟩
   ·obtain ⟨m,hm⟩:=Nat.exists_eq_succ_of_ne_zero R;rw [hm] at r1 ⊢;simp [Builtin.clear_,A,z1,r1]
   ·refine M.put x (by rw [Q];simp) _ C ?_ r5 r6 r7 r8 r9
    refine ⟨O,f,T,W,G,r2,by rw [r3,Y],Z,rows q5 r3 fun j S=>?_⟩
    rw [C2,C2,r4 j,if_neg (by rw [←ab] at S;omega)]
end
variable [U:Unk]
theorem GH {E:Env} {e:Ask→Aa→Option (Bool×AV×Aa)} {all:Array Oper} {nt:Nat}:∀(l:List Oper) (c:List Rc) (tmps:T AV) (h:Aa) (r:Option AV) (b:T AV) (h':Aa),
  DJ E e all nt l c tmps h=some (r,b,h')→h.nx≤h'.nx
 |[],c,tmps,h,r,b,h',a=>by
  simp only [DJ,A1,E5] at a;obtain ⟨_,_,rfl⟩:=a;exact C1 _
 |o::rest,c,tmps,h,r,b,h',a=>by
  simp only [DJ] at a;split at a
  ·cases a
  ·split at a
   ·cases a
   ·rename_i d _;split at a
    ·cases a
    ·rename_i f j;have i:h.nx≤d.g.nx:=XA f;split at a
     ·cases a
     ·split at a
      ·cases a
      ·have:=GH rest _ _ _ _ _ _ a;exact hY i this
    ·rename_i f j;have i:h.nx≤d.g.nx:=XA f;split at a
     ·simp only [A1,E5] at a;obtain ⟨_,_,rfl⟩:=a;exact i
     ·cases a
theorem Dw {E:Env}:∀(f:Nat) (b:FuncId) (c:Bool) (s:AS) (ok:Bool) (v:AV) (h:Aa),G1 E f b c s=some (ok,v,h)→s.h.nx≤h.nx
 |0,b,c,s,ok,v,h,a=>by cases a
 |f+1,b,c,s,ok,v,h,a=>by
  simp only [G1] at a;split at a
  ·split at a
   ·rename_i d;exact hY (XA d) (Dw f b c _ ok v h a)
   ·cases a
  split at a
  ·split at a
   ·rename_i d;exact hY (XA d) (Dw f b c _ ok v h a)
   ·cases a
  ·split at a
   ·rename_i d;simp only [A1,E5] at a;obtain ⟨_,_,rfl⟩:=a;exact XA (AC (AC d).1).1
   ·cases a
  ·rename_i i ops k e;obtain ⟨rfl,_,_⟩:=Iy e;split at a
   ·rename_i g;exact hY (GH _ _ _ _ _ _ _ g) (Dw f b c _ ok v h a)
   ·rename_i g;exact hY (GH _ _ _ _ _ _ _ g) (Dw f b c _ ok v h a)
   ·cases a
  ·cases a
section
variable {E:Env} (hE:OK E) {callF:Ask→Aa→Option (Bool×AV×Aa)} {ρ:Ren} {h:Aa} {w:World} {c:Frame} {ccs base:List Frame} {s:AS}
def mb (s:AS) (r:Option AV) (tmps:T AV) (k:List AI) (h:Aa):AS:=
 match r with
 |none=>{s with fr:={s.fr with tmps,todo:=k},h}
 |some v=>{s with fr:={s.fr with tmps,todo:=.dead::k,mode:=.panic [(v,false)]},h}
theorem TT {k:Ren} {h g:Aa} {w m:World} (d:WF h) (hn:h.nx≤g.nx) (t:HR k g.blk.get m) (f:Ext ρ k (part h none) g w m):HR k (BA h g).blk.get m∧Ext ρ k h (BA h g) w m:=by
 obtain ⟨l,n,o⟩:=f.log;have i:g.log=l:=by rw [n];exact i0 l
 refine ⟨t.weaken fun b x _ a=>?_,⟨f.le,hn,f.new,f.calm,f.kept,⟨Db h.nx g.log,rfl,fun b p u=>Dk hn p u⟩,fun b p=>Ht d hn p,f.imm⟩⟩
 by_cases r:b<h.nx
 ·by_cases j:b∈Db h.nx g.log
  ·rcases HS j with q|⟨_,q⟩
   ·rw [q] at a;cases a
   ·rw [←q];exact a
  ·rw [Dk hn j (.inl r)] at a;rw [o b (fun e=>j (CY.2 ⟨by rw [i];exact e,r⟩)) (.inl r)]
   exact a
 ·by_cases j:b<g.nx
  ·rw [Iw d hn (by omega) j] at a;exact a
  ·rw [HZ d hn b (by show g.nx≤b;omega)] at a;cases a
include hE
theorem LN (hF:Mb E callF) (e:SR ρ s c ccs w) (ab:WF s.h) (hm:s.fr.mode=.run) {id:Nat} {ops:Array Oper} {k:List AI} (ht:s.fr.todo=.code (.region id ops true)::k) {r:Option AV} {tmps:T AV}
  (hd:DJ E callF ops s.fr.nt ops.toList [] s.fr.tmps s.h=some (r,tmps,h)) (f:Bs ρ s.h.nx h.nx) (base:List Frame) :
  ∃K c' w',Steps E.P (lone c (ccs++base) w) (lone c' (ccs++base) w')∧SR K (mb s r tmps k h) c' ccs w'∧
   Ext ρ K s.h h w w':=by
 have l:=e.fr.mode;rw [hm] at l
 have z:c.mode=.run:=by
  generalize c.mode=x at l;cases l;rfl
 have m:=e.fr.todo;rw [ht] at m;generalize ac:c.todo=td at m;cases m with|cons a hk=>
 rename_i M;cases a;obtain ⟨H,O,R,Q,n,q1,S,q3,q4,V,W⟩:=Jg _ _ _ _ _ _ _ hd;simp only [List.length_nil,R2] at S q3 q4 V W;have X:CD E callF ops s.fr.nt H O R Q n:=⟨fun j hj=>by obtain ⟨o,D,h2⟩:=q4 j hj;exact ⟨o,by simpa using D,h2⟩,by rw [S];exact ab⟩
 have p:Bs ρ (H 0).nx h.nx:=by rw [S];exact f
 have ad:n≤ops.size:=by
  cases A:r with
  |none=>have:=(V A).1;simp at this;omega
  |some v=>
   obtain ⟨o,D,_⟩:=W v A;have:=(B3.1 D).1;simp at this;omega
 have hM:(H n).nx≤h.nx:=by
  cases A:r with
  |none=>rw [(V A).2.2];exact C1 _
  |some v=>
   obtain ⟨o,D,b,e1,e2,N⟩:=W v A;rw [N];exact b.tx.nx
 have Y:n<ops.size→∃o,ops[n]?=some o∧Bad E callF ops H O R Q n o (ops.toList.drop (n+1)):=by
  intro hn;cases A:r with
  |none=>have:=(V A).1;simp at this;omega
  |some v=>
   obtain ⟨o,D,b,_⟩:=W v A;exact ⟨o,by simpa using D,b⟩
 have B:=cV (P:=E.P) (cs:=ccs++base) (w:=w) z ac;rw [hE.mixed] at B;have F:∀t,Region.schedule true ops t=Region.linearise.go .any ops ops.size t (Array.replicate ops.size false) []:=fun t=>rfl
 rw [F] at B;generalize ae:w.tape w.drawn (.order c.fn id)=t at B
 have af:∀i,(Array.replicate ops.size false).getD i false=false:=by
  intro i;rw [C2,Array.getElem?_replicate];split<;>rfl
 have Z:TR ρ s.fr.nt (O 0) c.tmps:=by rw [q3];exact e.fr.tm
 have ag:HR ρ (H 0).blk.get {w with drawn:=w.drawn+1}:=by rw [S];exact e.h.same rfl
 have I0:Inv s.fr.nt H O R n h.nx ρ {w with drawn:=w.drawn+1} (fun i=>(Array.replicate ops.size false).getD i false) ρ c.tmps {w with drawn:=w.drawn+1}:=yK Z ag p af
 obtain ⟨rest,K,C,w1,D',r1,r2,r3,r4,r5⟩:=X.sched hE hF (cs:=ccs++base) (k:=M) hM p ad Y ops.size t (Array.replicate ops.size false) ρ {w with drawn:=w.drawn+1}
  {c with todo:=.inRegion ops (Region.linearise.go .any ops ops.size t (Array.replicate ops.size false) [])::M} z rfl (by simp) (by omega) I0
 obtain ⟨f1,f2,f3⟩:=X.final r1 r2;rw [S] at f3;have d:Ext ρ K s.h (H n) w w1:=f3.drawn rfl rfl rfl rfl;have u:=e.fr.mono d.le;cases A:r with
 |none=>
  obtain ⟨e1,e2,N⟩:=V A;have hn:n=ops.size:=by simpa using e1
  rw [r4 hn] at r3;subst e2;subst N;refine ⟨K,{c with tmps:=C,todo:=M},w1,Steps.head B (Steps.trans r3 (Steps.one (JM z rfl))),⟨⟨u.fn,f1,hk.mono d.le,u.defers,u.mode,u.kind,u.round⟩,e.cs.mono d.le,f2⟩,d⟩
 |some v=>
  obtain ⟨o,D,b,e1,e2,N⟩:=W v A
  have hn:n<ops.size:=by
   have:=(B3.1 D).1;simpa using this
  obtain ⟨rr,ah⟩:=r5 hn;rw [ah] at r3;have aa:=Ur b.tx.did b.ok;have L:HR K (part (H n) (Q n).fp).blk.get w1:=by rw [aa];exact f2
  have G:TR K s.fr.nt (B9 (O n) (C0 ops o)) C:=⟨f1.size,fun t x hx=>by
   obtain ⟨_,y,hy,rfl⟩:=Ei _ _ _ _ hx;exact PA (f1.get t y hy)⟩
  have ai:h.nx=(Q n).g.nx:=by rw [N];rfl
  have I:Bs K (H n).nx (Q n).g.nx:=by rw [←ai];exact d.free f
  obtain ⟨τ,v',w2,p1,p2,p3,p4⟩:=Pp hE hF (cs:=ccs++base) (c:={c with tmps:=C,todo:=.inRegion ops (n::rr)::M}) b.tx.did (X.wfAt (C1 _)) z rfl (by simpa using D) G L I
  rw [b.ok] at p1;rw [aa] at p4;obtain ⟨m1,m2⟩:=TT (X.wfAt (C1 _)) b.tx.nx p3 p4;rw [←N] at m1 m2;have q:=u.mono m2.le;subst e1;subst e2
  have J:({c with tmps:=C,todo:=.inRegion ops (n::rr)::M}:Frame).raise [{v:=v',recovered:=false}]={c with tmps:=C,todo:=.inRegion ops (n::rr)::M,mode:=.panicking [{v:=v',recovered:=false}]}:=by
   simp [Frame.raise,z]
  simp only [Cm] at p1;rw [J] at p1;exact ⟨τ,_,w2,Steps.head B (Steps.trans r3 p1),⟨⟨q.fn,f1.mono m2.le,.cons (.dead _ _) ((hk.mono d.le).mono m2.le),q.defers,.panic _ _ ⟨p2,rfl,rfl,trivial⟩,q.kind,q.round⟩,(e.cs.mono d.le).mono m2.le,m1⟩,d.trans m2 f⟩
end
end Go.AE
namespace Go.AE
theorem H2:∀{a b:T Aj},T8 a b=true→∀i x,a.get i=some x→b.get i=some x
 |.nil,_,_,i,x,c=>by simp [T.get] at c
 |.node v l r,.nil,h,_,_,_=>by simp [T8] at h
 |.node v l r,.node e j k,h,i,x,c=>by
  simp only [T8,B1] at h;obtain ⟨⟨d,f⟩,g⟩:=h;simp only [T.get] at c ⊢;split at c
  ·subst c;simp only at d;cases e with
   |none=>simp at d
   |some y=>rw [Rh d]
  ·split at c
   ·exact H2 f _ _ c
   ·exact H2 g _ _ c
theorem Wo {b:Nat}:∀{l:List Nat},MC b l=true→b∈l
 |[],h=>by simp [MC] at h
 |c::r,h=>by
  simp only [MC,g0] at h;rcases h with h|h
  ·rw [F7 h];simp
  ·simp [Wo h]
theorem Wz {nx:Nat} {wr:List Nat}:∀{l:List Nat},eJ nx wr l=true→∀b∈l,b<nx→b∈wr
 |[],_,b,a,_=>by cases a
 |c::r,h,b,a,d=>by
  simp only [eJ,B1,g0] at h;simp only [F5] at a;rcases a with rfl|a
  ·rcases h.1 with e|e
   ·have:=XA e;omega
   ·exact Wo e
  ·exact Wz h.2 b a d
def Orc.Valid (P:Program) (F:Nat→D→D) (e:Orc):Prop:=
 ∀[U:Unk],U.K=(Env.of P).kinds→U.V.fn=F→∀(C:Ren) (w:World) (j:List Value),VL C e.args j→HR C e.part.get w→WF {blk:=e.part,nx:=e.nx,log:=[]}→Bs C e.nx e.nx'→
  ∀(c0:Frame) (r:List Frame),∃I v' J g,Cm P (lone (Frame.enter P e.f j.toArray .normal) (c0::r) w) c0 r e.ok v' J∧VR I e.v v'∧HR I g.blk.get J∧
   Ext C I {blk:=e.part,nx:=e.nx,log:=[]} g w J∧(∀b x,e.out.get b=some x→g.blk.get b=some x)∧g.nx=e.nx'∧(∀b∈g.log,b<e.nx→b∈e.wr)
structure Ad (E:Env) (F:Nat→D→D):Prop where
 orc:∀e∈E.orc,e.Valid E.P F
 sms:∀s∈E.sms,s.Valid E.P F
variable [U:Unk]
theorem Ua {N F:Ren} {h g:Aa} {w w':World} {p out:T Aj} {nx':Nat} {wr:List Nat} (A:HR N h.blk.get w) (G:WF h) (C:∀b x,p.get b=some x→h.blk.get b=some x)
  (H:Bs N h.nx nx') (P:HR F g.blk.get w') (r:Ext N F {blk:=p,nx:=h.nx,log:=[]} g w w') (ho:∀b x,out.get b=some x→g.blk.get b=some x) (hn:g.nx=nx') (hl:∀b∈g.log,b<h.nx→b∈wr) :
  HR F (BA h {blk:=out,nx:=nx',log:=wr}).blk.get w'∧Ext N F h (BA h {blk:=out,nx:=nx',log:=wr}) w w':=by
 have s:h.nx≤nx':=by have:=r.nx;rw [hn] at this;exact this
 have t:∀b,p.get b≠none→h.blk.get b≠none:=by
  intro b f;cases hp:p.get b with
  |none=>exact absurd hp f
  |some x=>rw [C b x hp];exact A3 _
 have u:∀b x,(BA h {blk:=out,nx:=nx',log:=wr}).blk.get b=some x→g.blk.get b=some x∨(b<h.nx∧p.get b=none∧h.blk.get b=some x):=by
  intro b x i;by_cases I:b<h.nx
  ·by_cases J:b∈Db h.nx wr
   ·rcases HS (h:=h) (g:={blk:=out,nx:=nx',log:=wr}) J with q|⟨_,q⟩
    ·rw [q] at i;cases i
    ·rw [q] at i;exact .inl (ho b x i)
   ·rw [Dk (h:=h) (g:={blk:=out,nx:=nx',log:=wr}) s J (.inl I)] at i;cases hp:p.get b with
    |none=>exact .inr ⟨I,rfl,i⟩
    |some y=>
     have e:=C b y hp;rw [i] at e;cases e;obtain ⟨l,ab,ac⟩:=r.log;have Q:g.log=l:=by rw [ab];exact i0 l
     refine .inl ((ac b (fun e=>J (CY.2 ⟨hl b (by rw [Q];exact e) I,I⟩)) (.inl I)).trans hp)
  ·by_cases J:b<nx'
   ·rw [Iw (h:=h) (g:={blk:=out,nx:=nx',log:=wr}) G s (by omega) J] at i
    exact .inl (ho b x i)
   ·rw [HZ (h:=h) (g:={blk:=out,nx:=nx',log:=wr}) G s b (by show nx'≤b;omega)] at i;cases i
 have v:∀b a,F b=some a→b<h.nx→N b=some a:=by
  intro b a f B;rcases r.new b a f with e|⟨e,_⟩
  ·exact e
  ·exact absurd e (by show ¬h.nx≤b;omega)
 have LR:∀b j a c x K,F b=some a→F j=some c→g.blk.get b=some x→j<h.nx→p.get j=none→h.blk.get j=some K→a.cb≠c.cb:=by
  intro b j a c x K f m i B hp z;have D:=v j c m B;have R:h.blk.get j≠none:=by rw [z];exact A3 _
  have S:∀n d,N n=some d→p.get n≠none→d.cb≠c.cb:=fun n d h0 V=>
   A.apart n j d c (fun e=>by subst e;exact V hp) h0 D (t n V) R
  rcases r.new b a f with e|⟨_,_,e⟩
  ·rcases r.live b (by rw [i];exact A3 _) with l|⟨l1,l2⟩
   ·exact S b a e l
   ·have:=H b l1 (by rw [←hn];exact l2)
    rw [this] at e;cases e
  ·rcases e with e|⟨n,d,e1,O,W⟩
   ·have:=A.lt j c D;omega
   ·rw [←W];exact S n d e1 O
 refine ⟨⟨P.lt,fun b a x f i=>?_,fun b j a c X f m I J=>?_,P.imm,fun k arr b a E f hl=>?_⟩,⟨r.le,s,fun b a f=>?_,r.calm,fun k E ad=>r.kept k E (fun b a f hp=>ad b a f (t b hp)),⟨Db h.nx wr,rfl,fun b f ho=>Dk (h:=h) (g:={blk:=out,nx:=nx',log:=wr}) s f ho⟩,fun b f=>Ht (h:=h) (g:={blk:=out,nx:=nx',log:=wr}) G s f,fun k arr E=>(r.imm k arr E).imp id (fun e=>e.imp id (fun ⟨n,d,x1,x2,x3⟩=>⟨n,d,x1,t n x2,x3⟩))⟩⟩
 ·rcases u b x i with q|⟨B,hp,hh⟩
  ·exact P.blk b a x f q
  ·have o:=v b a f B;have E:=r.kept a.cb (A.lt b a o) (fun j c m Y=>A.apart j b c a (fun e=>by subst e;exact Y hp) m o (t j Y) (by rw [hh];exact A3 _))
   rw [E];exact (A.blk b a x o hh).mono r.le
 ·cases i:(BA h {blk:=out,nx:=nx',log:=wr}).blk.get b with
  |none=>exact absurd i I
  |some x=>
   cases z:(BA h {blk:=out,nx:=nx',log:=wr}).blk.get j with
   |none=>exact absurd z J
   |some K=>
    rcases u b x i with q|⟨a1,a2,a3⟩
    ·rcases u j K z with q'|⟨L,Z,M⟩
     ·exact P.apart b j a c X f m (by rw [q];exact A3 _) (by rw [q'];exact A3 _)
     ·exact LR b j a c x K f m q L Z M
    ·rcases u j K z with q'|⟨L,Z,M⟩
     ·exact fun e=>LR j b c a K x m f q' a1 a2 a3 e.symm
     ·exact A.apart b j a c X (v b a f a1) (v j c m L) (by rw [a3];exact A3 _) (by rw [M];exact A3 _)
 ·cases i:(BA h {blk:=out,nx:=nx',log:=wr}).blk.get b with
  |none=>exact absurd i hl
  |some x=>
   rcases u b x i with q|⟨a1,a2,a3⟩
   ·exact P.off k arr b a E f (by rw [q];exact A3 _)
   ·have o:=v b a f a1;have aa:h.blk.get b≠none:=by rw [a3];exact A3 _
    rcases r.imm k arr E with e|e|⟨n,d,e1,O,W⟩
    ·exact A.off k arr b a e o aa
    ·have:=A.lt b a o;omega
    ·rw [←W];exact (A.apart n b d a (fun e=>by subst e;exact O a2) e1 o (t n O) aa).symm
 ·rcases r.new b a f with e|⟨e1,O,W⟩
  ·exact .inl e
  ·exact .inr ⟨e1,by show b<nx';rw [←hn];exact O,W.imp id (fun ⟨n,d,x1,x2,x3⟩=>⟨n,d,x1,t n x2,x3⟩)⟩
theorem Wk {P:Program} {F:Nat→D→D} (z:U.V.fn=F) {f:FuncId} {args:List AV} {a:List Value} {h g:Aa} {ok:Bool} {v:AV} {m:Ren} {w:World}:∀{l:List Orc},(∀e∈l,e.Valid P F)→U.K=(Env.of P).kinds→Rd l f args h=some (ok,v,g)→VL m args a→HR m h.blk.get w→WF h→Bs m h.nx g.nx→
  ∀(c0:Frame) (d:List Frame),∃n p o,Cm P (lone (Frame.enter P f a.toArray .normal) (c0::d) w) c0 d ok p o∧VR n v p∧HR n g.blk.get o∧Ext m n h g w o
 |[],_,_,j,_,_,_,_=>by simp [Rd] at j
 |e::r,hO,hK,j,A,t,k,c=>by
  simp only [Rd] at j;split at j
  ·rename_i s;simp only [B1] at s;obtain ⟨⟨⟨B,C⟩,E⟩,u⟩:=s;have e1:=F7 B;have y:=F7 C;have G:=FE _ _ E;subst e1;subst G;cases j;intro c0 d;have i:Bs m e.nx e.nx':=by rw [y];exact c
   obtain ⟨n,p,o,I,a1,a2,a3,a4,a5,a6,a7⟩:=hO e (by simp) hK z m w a A (t.weaken (fun b x _ j=>H2 u b x j)) (fun b s=>by
    show e.part.get b=none;cases hp:e.part.get b with
    |none=>rfl
    |some x=>
     have q:=H2 u b x hp;rw [k b (by rw [←y];exact s)] at q
     cases q) i c0 d
   rw [y] at a4 a7;obtain ⟨m1,m2⟩:=Ua t k (H2 u) c a3 a4 a5 a6 a7;exact ⟨n,p,o,a1,a2,m1,m2⟩
  ·exact Wk z (fun e H=>hO e (by simp [H])) hK j A t k c
section
variable {E:Env} (hE:OK E) (hO:Ad E U.V.fn) {ρ:Ren} {w:World} {c:Frame} {ccs:List Frame} {s s':AS}
include hE hO
theorem Jn {f:FuncId} {args:List AV} {a:List Value} {h g:Aa} {ok:Bool} {v:AV} (d:Mj E f args h=some (ok,v,g)) (l:VL ρ args a) (m:HR ρ h.blk.get w) (e:WF h) (b:Bs ρ h.nx g.nx) :
  ∀(c0:Frame) (base:List Frame),∃i n j,Cm E.P (lone (Frame.enter E.P f a.toArray .normal) (c0::base) w) c0 base ok n j∧VR i v n∧HR i g.blk.get j∧Ext ρ i h g w j:=by
 unfold Mj at d;split at d
 ·rename_i r k;cases d;exact Wk rfl hO.orc hE.kd k l m e b
 ·split at d
  ·rename_i v2 o hs;cases d;exact MH hE rfl hO.sms hs l m e b
  ·cases d
omit hE hO in
theorem aM {h:Aa} {a:AV} {v:Value} (ha:VR ρ a v):VR ρ (U5 h a) v:=by
 unfold U5;split
 ·rename_i b n es;split
  ·cases ha with
   |slice _ _ _ _ cap base hb hc hz=>exact .asl b es (.c n) (.bc false) cap base hb (Int.natCast_nonneg _) (by simpa [Af,Ab,D.toInt] using hc) (by omega) rfl
   |sliceEnd _ _ _ a=>exact .aslEnd b es (.c (0:Nat)) (.bc false) (some a) rfl rfl
  ·exact ha
 ·exact ha
omit hE hO in
theorem Wb {h:Aa} {f:AF} {c:Frame} (hf:FrR ρ f c):FrR ρ (cw h f) c:=by
 unfold cw;split
 ·refine ⟨hf.fn,⟨hf.tm.size,fun i x hx=>?_⟩,hf.todo,hf.defers,hf.mode,hf.kind,hf.round⟩
  have hx:(f.tmps.mapA (U5 h)).get i=some x:=hx;rw [T.get_mapA] at hx;cases hg:f.tmps.get i with
  |none=>rw [hg] at hx;cases hx
  |some y=>
   rw [hg] at hx;cases hx;exact aM (hf.tm.get i y hg)
 ·exact hf
omit hO in
theorem ZJ (hsr:SR ρ s c ccs w) (hm:s.fr.mode=.run) {all:Array Oper} {o:Oper} {r:List Oper} {k:List AI} (ht:s.fr.todo=.ops all (o::r)::k) (hx:aY E s all o r=some s') (base:List Frame) :
  ∃σ c' ccs' w',Steps E.P (lone c (ccs++base) w) (lone c' (ccs'++base) w')∧SR σ s' c' ccs' w'∧Ext ρ σ s.h s'.h w w':=by
 unfold aY at hx;split at hx
 ·rename_i t x lo o2 r2 d hop hdst;split at hx
  ·rename_i cc hop2;split at hx
   ·rename_i t1 d' hcal hats hargs;split at hx
    ·rename_i b es n nl kd l hex hel;split at hx
     ·rename_i e e1 e2 y hd hd1 hb;split at hx
      ·rename_i z ks hz hk;split at hx
       ·rename_i hc;split at hx
        ·rename_i fr1 hw1 hf1;split at hx
         ·rename_i fr2 hw2 hf2;cases hx;obtain ⟨c1,hc⟩:=AC hc;obtain ⟨c2,hc⟩:=AC hc;obtain ⟨c3,hc⟩:=AC hc;obtain ⟨c4,hc⟩:=AC hc;obtain ⟨c5,hc⟩:=AC hc;obtain ⟨c6,hc⟩:=AC hc;obtain ⟨c7,hc⟩:=AC hc;obtain ⟨c8,c9⟩:=AC hc;have q1:=AK c1;have q2:=AK c2;have q3:=AK c3;subst q1 q2 q3;have htodo:=hsr.fr.todo;rw [ht] at htodo;obtain ⟨i,idx,k',ee,ho,hm',hkk⟩:=htodo.ops_inv;have hmode:=hsr.fr.mode;rw [hm] at hmode
          have hcm:c.mode=.run:=by
           generalize c.mode=x at hmode;cases hmode;rfl
          have ht':=hsr.fr.tm
          have hev:EvR ρ s.fr.tmps c.eval:=by
           intro x;have:=LO ht' x;cases x<;>exact this
          have hvx:=hev x;rw [hex] at hvx;have hvl:=DS (hev lo) hel;obtain ⟨v,w',r1,r2',r3,r4⟩:=fT hE hsr.h (ty:=o2.type) hd hd1 hz hk (AK c4) (AK c5) c6 hvx hb c7 c8 hvl c9;have hnd:∀cl,o.op≠.defer cl:=by intro cl e;rw [hop] at e;cases e
          have hnd2:∀cl,o2.op≠.defer cl:=by intro cl e;rw [hop2] at e;cases e
          have st1:step E.P (lone c (ccs++base) w)=.next (lone (c.finish v) (ccs++base) w):=US hcm ee ho (Di ht' hw1) (.inr hnd) (.inl (by simp [execOp,hop,r1]))
          have fr1ok:=BU hsr.fr hf1 (VR.top v)
          have ef:c.finish v={c with tmps:=Jm c.tmps o.dst v,todo:=.inRegion all idx::k'}:=by
           simp only [Frame.finish,ee,ho,Option.bind_some,Jm];cases o.dst<;>rfl
          have fm:fr1.mode=.run∧fr1.todo=.ops all (o2::r2)::k∧d<s.fr.nt:=by
           unfold Dh at hf1;rw [ht] at hf1;simp only [hdst,MX] at hf1;split at hf1
           ·rename_i t' hp;cases hf1;split at hp
            ·rename_i hlt;exact ⟨hm,rfl,N4 hlt⟩
            ·cases hp
           ·cases hf1
          obtain ⟨fm1,fm2,fm3⟩:=fm;have htodo2:=fr1ok.todo;rw [fm2] at htodo2;obtain ⟨i2,idx2,k2',ee2,ho2,_,_⟩:=htodo2.ops_inv;have hcm2:(c.finish v).mode=.run:=by rw [ef];exact hcm
          have hev2:(c.finish v).eval (.tmp d)=v:=by
           show (c.finish v).tmps.getD d Go.undef=v;rw [ef];show (Jm c.tmps o.dst v).getD d Go.undef=v;rw [hdst];have:d<c.tmps.size:=by rw [ht'.size];exact fm3
           simp [Jm,C2,this]
          have hrun2:(execOp (c.finish v).eval o2).run E.P w=.ok (.value (.tuple #[])) w':=by
           have a1:cc.argTypes = #[t1]:=by rw [←Array.toList_inj];exact hats
           have hmap:(cc.args.map (c.finish v).eval)=(cc.args.toList.map (c.finish v).eval).toArray:=by apply Array.ext';simp
           have ex:∃cs,execOp (c.finish v).eval o2=builtin .clear cc.argTypes o2.type cs (cc.args.toList.map (c.finish v).eval).toArray:=
            ⟨_,by unfold execOp;rw [hop2];simp only [resolve,hcal,pure_bind,invoke,hmap];rfl⟩
           obtain ⟨cs,ex⟩:=ex;rw [ex,a1,hargs];simp only [i6,List.map_nil,hev2];simp [builtin,r2']
          have st2:step E.P (lone (c.finish v) (ccs++base) w)=.next (lone ((c.finish v).finish (.tuple #[])) (ccs++base) w'):=US hcm2 ee2 ho2 (Di fr1ok.tm hw2) (.inr hnd2) (.inl hrun2);have fr2ok:=BU fr1ok hf2 (VR.top (.tuple #[]));exact ⟨ρ,(c.finish v).finish (.tuple #[]),ccs,w',Steps.head st1 (Steps.one st2),⟨fr2ok,hsr.cs,r3⟩,r4⟩
         ·cases hx
        ·cases hx
       ·cases hx
      ·cases hx
     ·cases hx
    ·cases hx
   ·cases hx
  ·cases hx
 ·cases hx
theorem bw (hsr:SR ρ s c ccs w) (A:WF s.h) (hx:ax E s=some s') (j:Bs ρ s.h.nx s'.h.nx) (base:List Frame) :
  ∃σ c' ccs' w',Steps E.P (lone c (ccs++base) w) (lone c' (ccs'++base) w')∧SR σ s' c' ccs' w'∧Ext ρ σ s.h s'.h w w':=by
 unfold ax at hx;split at hx
 ·cases hx
 ·split at hx
  ·rename_i hm;split at hx
   ·rename_i all o r k ht;split at hx
    ·rename_i R H;cases hx;exact ZJ hE hsr hm ht H base
    split at hx
    ·rename_i O;split at hx
     ·rename_i S;split at hx
      ·rename_i g args h1 hop;split at hx
       ·rename_i v I m;split at hx
        ·rename_i fr p;cases hx;have htodo:=hsr.fr.todo;rw [ht] at htodo;obtain ⟨i,idx,k',e,ho,hm',hk⟩:=htodo.ops_inv;have hmode:=hsr.fr.mode;rw [hm] at hmode
         have hcm:c.mode=.run:=by
          generalize c.mode=x at hmode;cases hmode;rfl
         have ht':=hsr.fr.tm
         have hev:EvR ρ s.fr.tmps c.eval:=by
          intro x;have:=LO ht' x;cases x<;>exact this
         have q:=ML hE hsr.h hev o;rw [hop] at q;obtain ⟨rfl,u,ha,B⟩:=q
         have hnd:∀cl,o.op≠.defer cl:=by
          intro cl e;rw [e] at hop;simp only [aop] at hop;rcases Fx s.fr.tmps cl s.h with ⟨d,Q⟩|⟨y,Q⟩<;>(rw [Q] at hop;cases hop)
         obtain ⟨σ,J,w',q1,q2,q3,C⟩:=Jn hE hO m ha hsr.h A j c (ccs++base);have K:=RW (cs:=ccs++base) (P:=E.P) hcm e ho (Di ht' S) (.inr hnd) B;exact ⟨σ,c.finish J,ccs,w',Steps.head K q1,⟨Wb (BU (hsr.fr.mono C.le) p q2),hsr.cs.mono C.le,q3⟩,C⟩
        ·cases hx
       ·cases hx
      ·cases hx
     ·cases hx
    ·cases hx
   ·
    rename_i fo params assign body k ht;split at hx
    ·rename_i g args W X L;split at hx
     ·rename_i v I m;split at hx
      ·rename_i fr F p;cases hx;have htodo:=hsr.fr.todo;rw [ht] at htodo;have hmode:=hsr.fr.mode;rw [hm] at hmode
       have hcm:c.mode=.run:=by
        generalize c.mode=x at hmode;cases hmode;rfl
       generalize M:c.todo=td at htodo;cases htodo with
       |cons N hk=>
        cases N;have Y:W.nx≤I.nx:=Ep F;obtain ⟨σ,c',u,w1,q1,q2,q3,C,G⟩:=Py hE hsr hcm hk M L (fun b b1 b2=>j b b1 (by show b<I.nx;omega)) base
        obtain ⟨Z,J,w',r1,r2,r3,r4⟩:=Jn hE hO m q2 C (G.wf A) (G.free j) c' (ccs++base);exact ⟨Z,c'.finish J,ccs,w',Steps.head q1 r1,⟨Wb (BU (q3.mono r4.le) p r2),(hsr.cs.mono G.le).mono r4.le,r3⟩,G.trans r4 j⟩
      ·cases hx
     ·cases hx
    ·cases hx
   ·cases hx
  ·cases hx
omit hE hO in
theorem Qu {ρ:Ren} {nt:Nat} {t:T AV} {a:Array Value} (h:TR ρ nt t a):∀{l:List Tmp} {i:Tmp} {v:AV},be t l=some (i,v)→TR ρ nt (t.set i v) a
 |[],i,v,hx=>by cases hx
 |c::r,i,v,hx=>by
  unfold be at hx;split at hx
  ·rename_i b nl hg;split at hx
   ·exact Qu h hx
   ·cases hx;refine ⟨h.size,fun j x hj=>?_⟩
    rw [T.get_set] at hj;by_cases e:c=j
    ·subst e;rw [if_pos rfl] at hj;cases hj;exact PA (h.get c _ hg)
    ·rw [if_neg e] at hj;exact h.get j x hj
  ·exact Qu h hx
theorem Wv (hsr:SR ρ s c ccs w) (p:WF s.h) (hx:Yj E s=some s') (g:Bs ρ s.h.nx s'.h.nx) (base:List Frame) :
  ∃σ c' ccs' w',Steps E.P (lone c (ccs++base) w) (lone c' (ccs'++base) w')∧SR σ s' c' ccs' w'∧Ext ρ σ s.h s'.h w w':=by
 unfold Yj at hx;split at hx
 ·rename_i s1 m;cases hx;unfold yi at m;split at m
  ·split at m
   ·rename_i i v hl;cases m;exact ⟨ρ,c,ccs,w,Steps.refl _ _,⟨⟨hsr.fr.fn,Qu hsr.fr.tm hl,hsr.fr.todo,hsr.fr.defers,hsr.fr.mode,hsr.fr.kind,hsr.fr.round⟩,hsr.cs,hsr.h⟩,Ext.refl _ _ _⟩
   ·cases m
  ·cases m
 ·exact bw hE hO hsr p hx g base
end
end Go.AE
namespace Go.AE
variable [U:Unk]
section
variable {E:Env} (hE:OK E) (hO:Ad E U.V.fn)
include hE hO
theorem Zc:∀(f:Nat) (D:FuncId) (F:Bool) (s:AS) (p:Ren) (c:Frame) (t:List Frame) (w:World) (ok:Bool) (v:AV) (h:Aa),SR p s c t w→WF s.h→G1 E f D F s=some (ok,v,h)→Bs p s.h.nx h.nx→
  ∀base:List Frame,∃i q z w1 m,Steps E.P (lone c (t++base) w) (lone q base w1)∧q.fn=D∧(F=false→q.roundOf=none)∧Qk E.P q w1 ok z m∧VR i v z∧HR i h.blk.get m∧Ext p i s.h h w m:=by
 intro f
 induction f with
 |zero=>intro D F s p c t w ok v h u n e;cases e
 |succ f ih=>
  intro D F s p c t w ok v h u n e d base
  have W:∀(G:AS) (i:Ren) (L:Frame) (j:List Frame) (w1:World),Steps E.P (lone c (t++base) w) (lone L (j++base) w1)→SR i G L j w1→Ext p i s.h G.h w w1→G1 E f D F G=some (ok,v,h)→
    ∃i q z w1 m,Steps E.P (lone c (t++base) w) (lone q base w1)∧q.fn=D∧(F=false→q.roundOf=none)∧Qk E.P q w1 ok z m∧VR i v z∧HR i h.blk.get m∧Ext p i s.h h w m:=by
   intro G i L j w1 M X Y h4;obtain ⟨τ,q,z,w2,m,A,B,C,S,Z,q6,q7⟩:=ih D F G i L j w1 ok v h X (Y.wf n) h4 (Y.free d) base;exact ⟨τ,q,z,w2,m,Steps.trans M A,B,C,S,Z,q6,Y.trans q7 d⟩
  simp only [G1] at e;split at e
  ·rename_i G T;split at e
   ·rename_i hb;have o:=Dw f D F G ok v h e;obtain ⟨i,K,j,m,A,B,C⟩:=Wv hE hO u n T (fun b M X=>d b M (by omega)) base
    exact W G i K j m A B C e
   ·cases e
  split at e
  ·rename_i G H;split at e
   ·rename_i hb;have o:=Dw f D F G ok v h e;obtain ⟨i,K,j,m,A,B,C⟩:=RG (base:=base) hE u H (fun b M X=>d b M (by omega))
    exact W G i K j m (Steps.one A) B C e
   ·cases e
  ·rename_i ad z h' H;split at e
   ·rename_i hb;simp only [A1,E5] at e;obtain ⟨rfl,rfl,rfl⟩:=e;obtain ⟨rfl,x,m,A,B,C,S⟩:=Nu hE u H;obtain ⟨b1,b2⟩:=AC hb;have aa:=AK (AC b1).2;refine ⟨p,c,x,w,m,Steps.refl _ _,u.fr.fn.trans aa,fun ab=>?_,S,A,B,C⟩
    subst ab;have y:=u.fr.round;simp only [R1,Option.isNone_iff_eq_none] at b2;rw [b2] at y;exact y.none_inv
   ·cases e
  ·rename_i s2 ops k H;obtain ⟨rfl,hm,id,ht⟩:=Iy H
   have hC:∀(fr:AF) (g J:Aa) (ok:Bool) (v:AV) (p:Ren) (q:Frame) (w:World),FrR p fr q→HR p g.blk.get w→WF g→G1 E f fr.fn true {fr,cs:=[],h:=g}=some (ok,v,J)→Bs p g.nx J.nx→
     ∀(c0:Frame) (base:List Frame),∃i z m,Cm E.P (lone q (c0::base) w) c0 base ok z m∧VR i v z∧HR i J.blk.get m∧Ext p i g J w m:=by
    intro fr g J ok v p q w I R n e d c0 base;obtain ⟨i,K,z,w1,m,A,B,C,S,Z,q6,q7⟩:=ih fr.fn true {fr,cs:=[],h:=g} p q [] w ok v J ⟨I,.nil,R⟩ n e d (c0::base);refine ⟨i,z,m,?_,Z,q6,q7⟩;have:=Steps.trans A (Steps.one (S.back c0 base));cases ok<;>exact this
   generalize N:(fun (a:Ask) (h:Aa)=>match a with
    |.enter g args=>match Mj E g args h with
     |some r=>some r
     |none=>match BT E g args .normal with
      |some fr=>G1 E f fr.fn true {fr,cs:=[],h}
      |none=>none
    |.round l args=>match Hr l args h with
     |some fr=>G1 E f fr.fn true {fr,cs:=[],h}
     |none=>none)=O at e
   have hF:Mb E O:=by
    subst N;refine ⟨?_,?_⟩
    ·intro f' args ac g J ok v p w ha R n e d;simp only at e;split at e
     ·rename_i r Q;cases e;exact Jn hE hO Q ha R n d
     ·split at e
      ·rename_i fr I;exact hC fr g J ok v p _ w (Ec hE I ha) R n e d
      ·cases e
    ·intro l args g J ok v p w R n e d;simp only at e;split at e
     ·rename_i fr I;exact ⟨fr,I,fun q N=>hC fr g J ok v p q w N R n e d⟩
     ·cases e
   split at e
   ·rename_i tmps M hd;have o:=Dw f D F _ ok v h e;obtain ⟨i,L,m,A,B,C⟩:=LN hE hF u n hm ht hd (fun b a1 a2=>d b a1 (ge a2 o)) base
    exact W _ i L t m A B C e
   ·rename_i v1 tmps M hd;have o:=Dw f D F _ ok v h e;obtain ⟨i,L,m,A,B,C⟩:=LN hE hF u n hm ht hd (fun b a1 a2=>d b a1 (ge a2 o)) base
    exact W _ i L t m A B C e
   ·cases e
  ·cases e
end
theorem Orc.valid {E:Env} (hE:∀[U:Unk],U.K=(Env.of E.P).kinds→OK E) {G:Nat→D→D} (hO:Ad E G) {N:Nat} {e:Orc} (h:∀[F:Facts],AH E N e=true):e.Valid E.P G:=by
 intro U hK hG ρ w J ha hr ab C c0 r;have hE:=hE hK;subst hG;have I:=h (F:=U.toFacts);unfold AH at I;split at I
 ·rename_i ok v g j;simp only [B1,beq_iff_eq] at I;obtain ⟨⟨⟨⟨h1,h2⟩,h3⟩,h4⟩,h5⟩:=I;have e4:=F7 h4;unfold gP at j;split at j
  ·rename_i fr ar;obtain ⟨σ,cf,v',w1,w',q1,q2,q3,q4,q5,q6,q7⟩:=Zc hE hO N e.f false _ ρ _ [] w ok v g ⟨Ec hE ar ha,.nil,hr⟩ ab j (by show Bs ρ e.nx g.nx;rw [e4];exact C) (c0::r)
   refine ⟨σ,v',w',g,?_,HQ _ _ h2▸q5,q6,q7,H2 h3,e4,Wz h5⟩;rw [←h1];have:=Steps.trans q1 (Steps.one (q4.back c0 r));cases ok<;>exact this
  ·cases j
 ·cases I
end Go.AE
namespace Go.AE
variable [U:Unk]
def bb (x:Func):Bool:=!(x.name == "runtime.NumGoroutine")&&(x.body.isSome||(!(x.name == "maps.clone") && !(x.name == "internal/bytealg.IndexByteString"))||(Extern.allNextRows.lookup x.origin).isNone)
theorem WO:Extern.allNextRows.lookup "maps.clone" = none:=by kernel_rfl
theorem Yw:Extern.allGenericRows.lookup "maps.clone" = none:=by kernel_rfl
theorem TF:Extern.allTypedRows.lookup "maps.clone" = none:=by kernel_rfl
theorem aK:Extern.allRows.lookup "maps.clone" = some Extern.MapsClone.clone:=by kernel_rfl
theorem ek:Extern.allNextRows.lookup "internal/bytealg.IndexByteString" = none:=by kernel_rfl
theorem kC:Extern.allGenericRows.lookup "internal/bytealg.IndexByteString" = none:=by kernel_rfl
theorem ZL:Extern.allTypedRows.lookup "internal/bytealg.IndexByteString" = none:=by kernel_rfl
theorem lw:Extern.allRows.lookup "internal/bytealg.IndexByteString" = some Extern.BytealgIndexByte.indexByte:=by kernel_rfl
omit U in
theorem Ib {x:Func} {n:String} (hn:x.name=n) (h1:Extern.allNextRows.lookup n=none) (h2:Extern.allNextRows.lookup x.origin=none):Extern.findNext x=none:=by
 show ((Extern.allNextRows.lookup x.name).map (· x.params x.resultTypes) <|> (Extern.allNextRows.lookup x.origin).map (· x.params x.resultTypes))=none
 rw [hn,h1,h2];rfl
omit U in
theorem OL {x:Func} {n:String} {g:Array Value→Sem Value} (hn:x.name=n) (h1:Extern.allGenericRows.lookup n=none) (h2:Extern.allTypedRows.lookup n=none) (h3:Extern.allRows.lookup n=some g):Extern.find x=some g:=by
 show (((Extern.allGenericRows.lookup x.name).map (· x.targs x.params x.resultTypes) <|> (Extern.allTypedRows.lookup x.name).map (· x.params x.resultTypes) <|> Extern.allRows.lookup x.name) <|> ((Extern.allGenericRows.lookup x.origin).map (· x.targs x.params x.resultTypes) <|> (Extern.allTypedRows.lookup x.origin).map (· x.params x.resultTypes) <|> Extern.allRows.lookup x.origin))=some g
 rw [hn,h1,h2,h3];rfl
theorem OK.of {P:Program} {l:List Orc} {m:List Sm} (hm:P.follows .mixedOrders=true) (hc:P.funcs.toList.all bb=true) (hk:U.K=(Env.of P).kinds):OK (Env.ofS P l m):=by
 have r:∀f x,(Env.ofS P l m).fn.get f=some x→P.funcs[f]?=some x:=by
  intro f x h;rw [Env.ofS,T.get_ofList] at h;simpa using h
 have j:∀f x,(Env.ofS P l m).fn.get f=some x→bb x=true:=by
  intro f x h;have:=r f x h
  exact List.all_eq_true.1 hc x (by
   have h2:P.funcs.toList[f]?=some x:=by simpa using this
   exact Nn h2)
 refine ⟨fun t i h=>?_,r,fun f x h=>?_,fun f x h C hn=>?_,fun f x h C hn=>?_,hm,hk,rfl⟩
 ·rw [Env.ofS,T.get_ofList] at h;have h2:P.types[t]?=some i:=by simpa using h
  have I:t<P.types.size:=(Array.getElem?_eq_some_iff.1 h2).1;show P.info? t=some i;simp only [Tables.info?,if_pos I];exact h2
 ·have:=j f x h;simp only [bb,B1,X9] at this;exact this.1
 ·have q:=j f x h;have J:Extern.allNextRows.lookup x.origin=none:=by simpa [bb,C,hn] using q
  exact ⟨Ib hn WO J,OL hn Yw TF aK⟩
 ·have q:=j f x h;have J:Extern.allNextRows.lookup x.origin=none:=by simpa [bb,C,hn] using q
  exact ⟨Ib hn ek J,OL hn kC ZL lw⟩
theorem Ad.none {P:Program} {F:Nat→D→D}:Ad (Env.ofO P []) F:=⟨fun e j=>(by cases j),fun e j=>(by cases j)⟩
theorem Ad.add {P:Program} {l:List Orc} {m:List Sm} {e:Orc} {N:Nat} (hE:∀[U:Unk],U.K=(Env.of P).kinds→OK (Env.ofS P l m)) {G:Nat→D→D} (hO:Ad (Env.ofS P l m) G) (h:∀[F:Facts],AH (Env.ofS P l m) N e=true):Ad (Env.ofS P (e::l) m) G:=by
 refine ⟨fun x j=>?_,hO.sms⟩
 rcases F5.1 j with rfl|j
 ·exact Orc.valid (E:=Env.ofS P l m) hE hO h
 ·exact hO.orc x j
end Go.AE

