/- What is proved here: an evaluator of the model's steps that the kernel can run, and that whatever it answers is what the model does (part 2 of 7: AeStr, AeOps3, AeOps4, AeOps5, AeOps6, AeOps7, AeOps8, AeOps9, AeOps10, AeOps11, AeSym, AeOps12, AeOps13, AeOps14, AeOps15, AeOps16, AeOps17, AeOps18). Conditions: those that each theorem states; they hold of no one program. -/
import Derived.Test.YtojjaeaohjlfnaaGreatBeA
import Derived.Laws.Strings
import Derived.IntWalk
import Derived.Laws.Append
import Derived.Laws.AppendOwn
import Derived.Laws.StructEq
import Derived.ChangeKeysEq
import Derived.Laws.Closers25b
import Derived.Laws.BytesString
import Derived.Lib.Bytealg
set_option linter.unusedVariables false
set_option linter.unusedSectionVars false
set_option linter.unusedSimpArgs false
namespace Go.AE
variable [Gl:AC]
variable [U:Unk]
theorem QM:∀(l:List UInt8),AB l<256^l.length
 |[]=>by simp [AB]
 |b::r=>by
  have a:=QM r;have c:b.toNat<256:=b.toNat_lt;simp only [AB,kp,Nat.pow_succ];omega
theorem FJ:∀(l m:List UInt8),AB (l++m)=AB l+AB m*256^l.length
 |[],m=>by simp [AB]
 |b::r,m=>by
  have:=FJ r m;simp only [List.cons_append,AB,this,kp,Nat.pow_succ,Nat.mul_add];rw [Aea,Nat.mul_left_comm,Nat.mul_comm 256 (256^r.length)]
theorem Oc:∀(l m:List UInt8),l.length=m.length→AB l=AB m→l=m
 |[],[],_,_=>rfl
 |[],_::_,h,_=>by simp at h
 |_::_,[],h,_=>by simp at h
 |a::l,b::m,h,e=>by
  simp only [AB] at e;have f:a.toNat<256:=a.toNat_lt;have g:b.toNat<256:=b.toNat_lt;have c:a.toNat=b.toNat:=by omega
  have d:AB l=AB m:=by omega
  rw [Oc l m (by simpa using h) d,UInt8.toNat_inj.1 c]
theorem Pv (n:Nat):2^(8*n)=256^n:=by rw [Nat.pow_mul]
theorem Ip:∀(n:Nat) (l:List UInt8),AB l/256^n=AB (l.drop n)
 |0,l=>by simp
 |n+1,[]=>by simp [AB]
 |n+1,b::r=>by
  have a:b.toNat<256:=b.toNat_lt;simp only [AB,List.drop_succ_cons,Nat.pow_succ];rw [←Ip n r,Nat.mul_comm (256^n) 256,←Nat.div_div_eq_div_mul]
  congr 1
  omega
theorem UG:∀(n:Nat) (l:List UInt8),n≤l.length→AB l%256^n=AB (l.take n):=by
 intro n l h;have e:=FJ (l.take n) (l.drop n);rw [List.take_append_drop] at e;have a:(l.take n).length=n:=by simp;omega
 rw [a] at e;rw [e,Nat.add_mul_mod_self_right,Nat.mod_eq_of_lt];have:=QM (l.take n)
 rwa [a] at this
theorem WQ {l:List UInt8} {n:Nat} (h:n<l.length):AB l/2^(8*n)%256=l[n].toNat:=by
 rw [Pv,Ip,Ael h];simp only [AB];have:=l[n].toNat_lt;omega
theorem Ni {l:List UInt8} {a b:Nat} (c:a≤b) (d:b≤l.length):AB l/2^(8*a)%2^(8*(b-a))=AB ((l.drop a).take (b-a)):=by
 rw [Pv,Pv,Ip,UG];simp;omega
theorem Hv (b:UInt8) (r:List UInt8):AB (b::r)%256=b.toNat∧AB (b::r)/256=AB r:=by
 have:=b.toNat_lt;simp only [AB];omega
theorem Cq (s t:ByteArray):strEq s.data.toList.length (AB s.data.toList) t.data.toList.length (AB t.data.toList)=(s.toList==t.toList):=by
 have a:∀u:ByteArray,u.toList=u.data.toList:=fun u=>ByteArray.toList_eq u
 rw [a,a];unfold strEq;rw [Bool.eq_iff_iff];simp only [F4,beq_iff_eq];constructor
 ·rintro ⟨b,c⟩
  exact Oc _ _ (Ax b) (Ax c)
 ·intro h;rw [h];exact ⟨Fr _,Fr _⟩
theorem Po:∀(f:Nat) (l m:List UInt8),l.length<f→D6 f l.length (AB l) m.length (AB m)=Op.bytesLess l m:=by
 intro f
 induction f with
 |zero=>intro l m h;omega
 |succ f ih=>
  intro l m h;cases m with
  |nil=>cases l<;>simp [D6,Op.bytesLess]
  |cons b m=>
   cases l with
   |nil=>simp [D6,Op.bytesLess]
   |cons a l=>
    obtain ⟨i,j⟩:=Hv a l;obtain ⟨k,n⟩:=Hv b m;simp only [D6,kp,Op.bytesLess,i,j,k,n];simp only [kp] at h;by_cases c:a.toNat<b.toNat
    ·have e:Nat.blt a.toNat b.toNat=true:=by simp [Nat.blt];omega
     have g:a<b:=UInt8.lt_iff_toNat_lt.2 c;simp [e,g]
    ·have e:Nat.blt a.toNat b.toNat=false:=by
      cases q:Nat.blt a.toNat b.toNat with
      |false=>rfl
      |true=>exact absurd (Ik q) c
     have g:¬a<b:=fun q=>c (UInt8.lt_iff_toNat_lt.1 q)
     simp only [e,g,decide_false,Bool.false_or];by_cases d:a=b
     ·subst d;rw [Fr];simp [ih l m (by omega)]
     ·have o:Nat.beq a.toNat b.toNat=false:=GO (fun q=>d (UInt8.toNat_inj.1 q))
      simp [o,d]
end Go.AE
namespace Go.AE
variable [Gl:AC]
variable [U:Unk]
section
variable {E:Env} (hE:OK E) {ρ:Ren} {h:Aa} {w:World}
include hE
theorem Sl (p:HR ρ h.blk.get w) {t:TypeId} {x a:AV} {q:Value} (s:VR ρ x q) (e:OJ E t x h=some a) :
  ∃v,(Instr.loadAt t q).run E.P w=.ok v w∧VR ρ a v:=by
 unfold OJ at e;cases j:E.desc t with
 |none=>simp [j] at e
 |some d=>
  cases s with
  |ptr b off base r=>
   simp only [j] at e;unfold Instr.loadAt loadVar;simp only [Instr.sureAddr,F9,LE,E1,hE.run_isAgg j];cases k:Fd d with
   |true=>
    simp only [k] at e;cases f:CZ h b off (E.size t) with
    |none=>simp [f] at e
    |some l=>
     simp only [f,pl,C2] at e;subst e;unfold CZ at f;cases g:h.blk.get b with
     |none=>simp [g] at f
     |some y=>
      cases y with
      |cells n c=>
       simp only [g] at f;cases i:Nat.ble (off+E.size t) n with
       |false=>simp [i] at f
       |true=>
        simp only [i] at f;obtain ⟨u,m,o,_⟩:=p.loadCells E.P r g (C8 i) f;simp only [if_true,F9,hE.run_size j,E1,o,LE];exact ⟨_,rfl,.agg _ _ m.1 m.2⟩
      |_=>simp [g] at f
   |false=>
    simp only [k] at e;cases g:h.blk.get b with
    |none=>simp [g] at e
    |some y=>
     cases y with
     |cells n c=>
      simp only [g] at e;cases i:Nat.blt off n with
      |false=>simp [i] at e
      |true=>
       simp only [i] at e;obtain ⟨v,m,o⟩:=p.cell r g (Ik i) e;simp only [ei,ws,run_load,m];exact ⟨v,rfl,o⟩
     |_=>simp [g] at e
  |_=>simp [j] at e
theorem WM (k:HR ρ h.blk.get w) {t:TypeId} {x a:AV} {i v:Value} {h':Aa} (l:VR ρ x i) (m:VR ρ a v) (c:JR E t x a h=some h') :
  ∃d,(Instr.storeAt t i v).run E.P w=.ok () d∧HR ρ h'.blk.get d∧Ext ρ ρ h h' w d:=by
 unfold JR at c;cases l with
 |ptr b off base n=>
  simp only [] at c;cases g:E.szIs t a.cells.length with
  |false=>simp [g] at c
  |true=>
   simp only [g] at c
   have o:a≠.top:=by
    rintro rfl
    unfold storeN at c;cases j:h.blk.get b with
    |none=>simp [j] at c
    |some y=>cases y<;>simp [j,AV.cells,Ez,AV.one] at c
   have f:=m.cells o;obtain ⟨d,p,q,r⟩:=k.storeN E.P n f c;refine ⟨d,?_,q,r⟩;unfold Instr.storeAt storeVar;have e:v.cells.size=a.cells.length:=by have:=f.1;simp at this;omega
   simp [Instr.sureAddr,hE.run_szIs g,e,p]
 |_=>simp at c
theorem Nq {t:TypeId} {x a:AV} {f:Nat} {o:Value} (p:VR ρ x o) (c:HU E t x f=some a) :
  ∃v,(Instr.fieldAt t o f).run E.P w=.ok v w∧VR ρ a v:=by
 unfold HU at c;cases g:E.desc t with
 |none=>simp [g] at c
 |some d=>
  cases d with
  |struct fs=>
   cases p with
   |ptr b off base q=>
    simp only [g] at c;cases k:fs.toList[f]? with
    |none=>simp [k] at c
    |some j=>
     simp only [k] at c;have l:fs[f]?=some j:=by simpa using k
     cases e:E.size j.type with
     |zero=>simp [e] at c
     |succ n=>
      simp only [e,C2] at c;subst c
      have m:∀w,(sizeOf j.type).run E.P w=.ok (n+1) w:=by
       intro w;unfold Env.size at e;cases hi:E.ty.get j.type with
       |none=>simp [hi] at e
       |some i=>simp only [hi] at e;rw [hE.run_sz hi,e]
      refine ⟨.pointer (some ⟨base.cb,base.co+(off+j.offset),none⟩),?_,.ptr b _ base q⟩;simp [Instr.fieldAt,hE.run_und g,l,Instr.sureAddr,fieldPlace,m,BZ,Aea]
   |_=>simp [g] at c
  |_=>cases p<;>simp [g] at c
theorem Xm {t:TypeId} {x a:AV} {f:Nat} {i:Value} (j:VR ρ x i) (b:Pm E t x f=some a) :
  ∃v,(Instr.field t i f).run E.P w=.ok v w∧VR ρ a v:=by
 unfold Pm at b;cases c:E.desc t with
 |none=>simp [c] at b
 |some d=>
  cases d with
  |struct fs=>
   cases j with
   |agg l l' k m=>
    simp only [c] at b;cases e:fs.toList[f]? with
    |none=>simp [e] at b
    |some n=>
     simp only [e] at b;have g:fs[f]?=some n:=by simpa using e
     obtain ⟨v,o,p⟩:=hE.run_part (cs':=l') b ⟨k,m⟩ w;exact ⟨v,by simp [Instr.field,hE.run_und c,g,asAgg,o],p⟩
   |_=>simp [c] at b
  |_=>cases j<;>simp [c] at b
omit hE in
theorem C1 {ρ:Ren} {a:AV} {v:Value} {n:Nat} (hv:VR ρ a v) (h:D3 a=some n):∃k,v=.int k (n:Int):=by
 cases hv with
 |int k m=>
  cases m with
  |ofNat m=>simp only [D3,C2] at h;subst h;exact ⟨k,rfl⟩
  |negSucc m=>simp [D3] at h
 |_=>simp [D3] at h
theorem Nk {t:TypeId} {x i a:AV} {r s:Value} (o:VR ρ x r) (hi:VR ρ i s) (c:Ic E t x i=some a) :
  ∃v,(Instr.indexAt t r s).run E.P w=.ok v w∧VR ρ a v:=by
 unfold Ic at c;cases g:E.desc t with
 |none=>simp [g] at c
 |some d=>
  cases j:D3 i with
  |none=>cases d<;>cases x<;>simp [g,j] at c
  |some n=>
   obtain ⟨k,rfl⟩:=C1 hi j;cases d with
   |slice e=>
    cases o with
    |slice b off len p u base q z A=>
     simp only [g,j] at c;cases f:(Nat.blt n len&&E.szIs e p) with
     |false=>simp [f] at c
     |true=>
      simp only [f,C2] at c;subst c;obtain ⟨c1,c2⟩:=Au f;have l:=Ik c1;refine ⟨.pointer (some ⟨base.cb,base.co+(off+n*p),none⟩),?_,.ptr b _ base q⟩;simp [Instr.indexAt,asIntOf,hE.run_und g,hE.run_szIs c2,l,BZ,Aea]
    |sliceEnd b off p a=>
     have y:Nat.blt n 0=false:=rfl;simp [g,j,y] at c
    |_=>simp [g,j] at c
   |array len e=>
    cases o with
    |ptr b off base q=>
     simp only [g,j] at c;cases f:(Nat.blt n len&&E.has e) with
     |false=>simp [f] at c
     |true=>
      simp only [f,C2] at c;subst c;obtain ⟨c1,c2⟩:=Au f;have l:=Ik c1;refine ⟨.pointer (some ⟨base.cb,base.co+(off+n*E.size e),none⟩),?_,.ptr b _ base q⟩;simp [Instr.indexAt,asIntOf,hE.run_und g,hE.run_has c2,Instr.sureAddr,l,BZ,Aea]
    |_=>simp [g,j] at c
   |_=>cases o<;>simp [g,j] at c
theorem WV {t:TypeId} {x i a:AV} {u y:Value} (p:VR ρ x u) (hi:VR ρ i y) (b:Ty E t x i=some a) :
  ∃v,(Instr.index t u y).run E.P w=.ok v w∧VR ρ a v:=by
 unfold Ty at b;cases c:E.desc t with
 |none=>simp [c] at b
 |some d=>
  cases g:D3 i with
  |none=>cases d<;>cases x<;>simp [c,g] at b
  |some n=>
   obtain ⟨k,rfl⟩:=C1 hi g;cases d with
   |string=>
    cases p with
    |str s=>
     simp only [c,g] at b;cases q:Nat.blt n s.data.toList.length with
     |false=>simp only [q] at b;cases b
     |true=>
      simp only [q,C2] at b;subst b;have f:=Ik q;have r:n<s.size:=by simpa using f
      have e:s[n]?=some s.data.toList[n]:=by
       rw [getElem?_pos s n r];rfl
      rw [WQ f];refine ⟨.int .u8 (s.data.toList[n].toNat:Nat),?_,.int _ _⟩;simp only [Instr.index,asIntOf,F9,LE,E1,hE.run_und c];rw [if_pos (by omega),Aep,e]
      rfl
    |_=>simp [c,g] at b
   |array len e=>
    cases p with
    |agg l z A B=>
     simp only [c,g] at b;cases j:Nat.blt n len with
     |false=>simp [j] at b
     |true=>
      simp only [j] at b;have f:=Ik j;obtain ⟨v,C,D⟩:=hE.run_part (cs':=z) b ⟨A,B⟩ w
      have o:∃d,E.desc e=some d:=by
       unfold CC at b;cases F:E.desc e with
       |none=>simp [F] at b
       |some d=>exact ⟨d,rfl⟩
      obtain ⟨d,o⟩:=o;refine ⟨v,?_,D⟩;simp [Instr.index,asIntOf,hE.run_und c,f,hE.run_size o,C]
    |_=>simp [c,g] at b
   |_=>cases p<;>simp [c,g] at b
end
end Go.AE
namespace Go.AE
variable [Gl:AC]
variable [U:Unk]
section
variable {E:Env} (hE:OK E) {ρ:Ren} {h:Aa} {w:World}
include hE
omit hE in
theorem I7 {len cap:Nat} {lo hi mx:Option AV} {lo' hi' mx':Option Value} {l hh:Nat} (P:Program) (w:World) (isSlice:Bool)
  (hlo:∀a,lo=some a→∃v,lo'=some v∧VR ρ a v) (hlo0:lo=none→lo'=none)
  (hhi:∀a,hi=some a→∃v,hi'=some v∧VR ρ a v) (hhi0:hi=none→hi'=none)
  (hmx:∀a,mx=some a→∃v,mx'=some v∧VR ρ a v) (hmx0:mx=none→mx'=none)
  (hmh:mx≠none→hi≠none) (hc:len≤cap)
  (hb:CG len lo hi mx=some (l,hh)):∃m,(Instr.sliceBounds isSlice len cap lo' hi' mx').run P w=.ok (l,hh,m) w∧l≤hh∧hh≤m∧m≤cap∧hh≤len∧(mx≠none→D1 mx len=some m):=by
 unfold CG at hb
 have getb:∀(o:Option AV) (o':Option Value) (d k:Nat),(∀a,o=some a→∃v,o'=some v∧VR ρ a v)→(o=none→o'=none)→D1 o d=some k→(o=none∧o'=none∧k=d)∨(o≠none∧∃kd,o'=some (.int kd (k:Int))):=by
  intro o o' d k h1 h2 h3;cases o with
  |none=>simp [D1] at h3;exact .inl ⟨rfl,h2 rfl,h3.symm⟩
  |some a=>
   obtain ⟨v,hv,hvr⟩:=h1 a rfl;simp only [D1] at h3;obtain ⟨kd,rfl⟩:=C1 hvr h3;exact .inr ⟨by simp,kd,hv⟩
 cases hm:D1 mx len with
 |none=>simp [hm] at hb
 |some m=>
  simp only [hm] at hb;cases h1:D1 hi len with
  |none=>simp [h1] at hb
  |some H=>
   cases h2:D1 lo 0 with
   |none=>simp [h1,h2] at hb
   |some L=>
    simp only [h1,h2] at hb;cases hcc:(Nat.ble L H&&Nat.ble H m&&Nat.ble m len) with
    |false=>simp [hcc] at hb
    |true=>
     simp only [hcc,C2,hS] at hb;obtain ⟨rfl,rfl⟩:=hb;obtain ⟨c12,c3⟩:=Au hcc;obtain ⟨c1,c2⟩:=Au c12;have b1:=C8 c1;have b2:=C8 c2;have b3:=C8 c3
     have EI:∀(kd:IntKind) (x y:Nat) (code:BoundsCode),x≤y→(Instr.sliceBound (.int kd (x:Int)) y code).run P w=.ok x w:=by
      intro kd x y code hxy;simp [Instr.sliceBound,asIntOf,hxy]
     rcases getb mx mx' len m hmx hmx0 hm with ⟨e1,e2,e3⟩|⟨e1,kd1,e2⟩
     ·subst e1;subst e2;subst e3;rcases getb hi hi' m H hhi hhi0 h1 with ⟨f1,f2,f3⟩|⟨f1,kd2,f2⟩
      ·subst f2;rcases getb lo lo' 0 L hlo hlo0 h2 with ⟨g1,g2,g3⟩|⟨g1,kd3,g2⟩
       ·subst g2;subst g3;subst f3;exact ⟨cap,by simp [Instr.sliceBounds],by omega,by omega,by omega,by omega,fun h=>absurd rfl h⟩
       ·subst g2;subst f3;exact ⟨cap,by simp [Instr.sliceBounds,EI _ _ _ _ b1],by omega,by omega,by omega,by omega,fun h=>absurd rfl h⟩
      ·subst f2;rcases getb lo lo' 0 L hlo hlo0 h2 with ⟨g1,g2,g3⟩|⟨g1,kd3,g2⟩
       ·subst g2;subst g3;exact ⟨cap,by simp [Instr.sliceBounds,EI _ H cap _ (by omega)],by omega,by omega,by omega,by omega,fun h=>absurd rfl h⟩
       ·subst g2;exact ⟨cap,by simp [Instr.sliceBounds,EI _ H cap _ (by omega),EI _ L H _ b1],by omega,by omega,by omega,by omega,fun h=>absurd rfl h⟩
     ·subst e2;rcases getb hi hi' len H hhi hhi0 h1 with ⟨f1,f2,f3⟩|⟨f1,kd2,f2⟩
      ·exact absurd f1 (hmh e1)
      ·subst f2;rcases getb lo lo' 0 L hlo hlo0 h2 with ⟨g1,g2,g3⟩|⟨g1,kd3,g2⟩
       ·subst g2;subst g3;exact ⟨m,by simp [Instr.sliceBounds,EI _ m cap _ (by omega),EI _ H m _ b2],by omega,by omega,by omega,by omega,fun _=>rfl⟩
       ·subst g2;exact ⟨m,by simp [Instr.sliceBounds,EI _ m cap _ (by omega),EI _ H m _ b2,EI _ L H _ b1],by omega,by omega,by omega,by omega,fun _=>rfl⟩
omit hE in
theorem Gc {len cap:Nat} {lo hi mx:Option AV} {lo' hi' mx':Option Value} {l hh:Nat} (P:Program) (w:World) (isSlice:Bool)
  (hlo:∀a,lo=some a→∃v,lo'=some v∧VR ρ a v) (hlo0:lo=none→lo'=none)
  (hhi:∀a,hi=some a→∃v,hi'=some v∧VR ρ a v) (hhi0:hi=none→hi'=none)
  (hmx:∀a,mx=some a→∃v,mx'=some v∧VR ρ a v) (hmx0:mx=none→mx'=none)
  (hmh:mx≠none→hi≠none) (hc:len≤cap)
  (hb:CG len lo hi mx=some (l,hh)):∃m,(Instr.sliceBounds isSlice len cap lo' hi' mx').run P w=.ok (l,hh,m) w∧l≤hh∧hh≤m∧m≤cap∧hh≤len:=by
 obtain ⟨m,q1,q2,q3,q4,q5,_⟩:=I7 P w isSlice hlo hlo0 hhi hhi0 hmx hmx0 hmh hc hb;exact ⟨m,q1,q2,q3,q4,q5⟩
theorem Xe (J:HR ρ h.blk.get w) {t:TypeId} {x a:AV} {G:Value} {lo hi mx:Option AV} {lo' hi' mx':Option Value} (z:VR ρ x G)
  (hlo:∀a,lo=some a→∃v,lo'=some v∧VR ρ a v) (hlo0:lo=none→lo'=none)
  (hhi:∀a,hi=some a→∃v,hi'=some v∧VR ρ a v) (hhi0:hi=none→hi'=none)
  (hmx:∀a,mx=some a→∃v,mx'=some v∧VR ρ a v) (hmx0:mx=none→mx'=none)
  (hmh:mx≠none→hi≠none)
  (f:SK E t x lo hi mx h=some a):∃v,(Instr.sliceAt t G lo' hi' mx').run E.P w=.ok v w∧VR ρ a v:=by
 unfold SK at f;cases i:E.desc t with
 |none=>simp [i] at f
 |some d=>
  cases d with
  |string=>
   cases z with
   |str s=>
    simp only [i] at f;cases mx with
    |some m=>simp at f
    |none=>
     simp only [] at f;cases hb:CG s.data.toList.length lo hi none with
     |none=>simp only [hb] at f;cases f
     |some p=>
      obtain ⟨L,H⟩:=p;simp only [hb,C2] at f;subst f;obtain ⟨m,q1,q2,q3,q4,q5⟩:=Gc E.P w false hlo hlo0 hhi hhi0 hmx hmx0 hmh (IqQ _) hb;have K:=hmx0 rfl;subst K;have D:s.size=s.data.toList.length:=by simp
      rw [Ni q2 q5]
      have z:(s.extract L H).data.toList=(s.data.toList.drop L).take (H-L):=by
       simp [ByteArray.data_extract]
      have A:H-L=((s.data.toList.drop L).take (H-L)).length:=by simp;omega
      refine ⟨.string (s.extract L H),?_,?_⟩
      ·simp only [Instr.sliceAt,F9,hE.run_und i,E1,Instr.slice];rw [←D] at q1;simp [q1]
      ·have:=VR.str (ρ:=ρ) (s.extract L H);rw [z] at this;rw [←A] at this;exact this
   |_=>simp [i] at f
  |slice e=>
   cases z with
   |slice0=>
    simp only [i] at f;cases hb:CG 0 lo hi mx with
    |none=>simp [hb] at f
    |some p=>
     obtain ⟨L,H⟩:=p;cases g:E.has e with
     |false=>simp [hb,g] at f
     |true=>
      simp only [hb,g,C2] at f;subst f;obtain ⟨m,q1,q2,q3,q4,q5⟩:=Gc E.P w true hlo hlo0 hhi hhi0 hmx hmx0 hmh (IqQ 0) hb;have:L=0∧H=0∧m=0:=by omega
      obtain ⟨rfl,rfl,rfl⟩:=this;exact ⟨.slice none 0 0,by simp [Instr.sliceAt,Instr.slice,hE.run_und i,q1,hE.run_has g],.slice0⟩
   |slice b off len j cap base u hc R=>
    simp only [i] at f;cases hb:CG len lo hi mx with
    |none=>simp [hb] at f
    |some p=>
     obtain ⟨L,H⟩:=p;simp only [hb] at f;cases g:E.szIs e j with
     |false=>simp [g] at f
     |true=>
      simp only [g] at f;obtain ⟨m,q1,q2,q3,q4,q5,M⟩:=I7 E.P w true hlo hlo0 hhi hhi0 hmx hmx0 hmh hc hb;cases q:RJ mx len L H with
      |true=>
       simp only [q,C2] at f;subst f;unfold RJ at q;cases mx with
       |none=>cases q
       |some I=>
        have F:=M (by simp)
        simp only [F] at q;obtain ⟨f1,f2⟩:=Au q;have g1:=Ax f1;have g2:=Ik f2;subst g1;refine ⟨.slice (some ⟨base.cb,base.co+(off+L*j),none⟩) (m-L) (m-L),?_,?_⟩
        ·have r:¬m=L:=by omega
         simp [Instr.sliceAt,Instr.slice,hE.run_und i,q1,hE.run_szIs g,r,BZ,Aea]
        ·refine .fsl b _ _ j base u ?_;have h1:L*j+(m-L)*j=m*j:=by rw [←q0];congr 1;omega
         have h2:m*j≤cap*j:=iv _ q4;omega
      |false=>
      simp only [q,C2] at f;subst f;by_cases r:m=L
      ·have:H=L:=by omega
       subst this;subst r;refine ⟨.slice (some ⟨base.cb,base.co+off,none⟩) 0 0,?_,?_⟩
       ·simp [Instr.sliceAt,Instr.slice,hE.run_und i,q1,hE.run_szIs g]
       ·rw [Nat.sub_self];exact .sliceEnd _ _ _ _
      ·refine ⟨.slice (some ⟨base.cb,base.co+(off+L*j),none⟩) (H-L) (m-L),?_,?_⟩
       ·simp [Instr.sliceAt,Instr.slice,hE.run_und i,q1,hE.run_szIs g,r,BZ,Aea]
       ·refine .slice b _ _ j _ base u (by omega) ?_
        have h1:L*j+(m-L)*j=m*j:=by rw [←q0];congr 1;omega
        have h2:m*j≤cap*j:=iv _ q4;omega
   |sliceEnd b off j a=>
    simp only [i] at f;cases hb:CG 0 lo hi mx with
    |none=>simp [hb] at f
    |some p=>
     obtain ⟨L,H⟩:=p;simp only [hb] at f;cases g:E.szIs e j with
     |false=>simp [g] at f
     |true=>
      obtain ⟨m,q1,q2,q3,q4,q5⟩:=Gc E.P w true hlo hlo0 hhi hhi0 hmx hmx0 hmh (IqQ 0) hb
      have q:RJ mx 0 L H=false:=by
       unfold RJ;cases mx with
       |none=>rfl
       |some I=>
        simp only;cases D1 (some I) 0 with
        |none=>rfl
        |some S=>
         have:Nat.blt L H=false:=by
          cases B:Nat.blt L H with
          |false=>rfl
          |true=>have:=Ik B;omega
         simp [this]
      simp only [g,q,C2] at f;subst f;have:L=0∧H=0∧m=0:=by omega
      obtain ⟨rfl,rfl,rfl⟩:=this;refine ⟨.slice (some a) 0 0,?_,?_⟩
      ·simp [Instr.sliceAt,Instr.slice,hE.run_und i,q1,hE.run_szIs g]
      ·rw [Nat.sub_self];exact .sliceEnd _ _ _ _
   |_=>simp [i] at f
  |array n e=>
   cases z with
   |ptr b off base u=>
    simp only [i] at f;cases hb:CG n lo hi mx with
    |none=>simp [hb] at f
    |some p=>
     obtain ⟨L,H⟩:=p;cases g:E.has e with
     |false=>simp [hb,g] at f
     |true=>
      cases C:h.blk.get b with
      |none=>simp [hb,g,C] at f
      |some y=>
       cases y with
       |cells N c=>
        simp only [hb,g,C] at f;cases B:Nat.ble (off+n*E.size e) N with
        |false=>simp [B] at f
        |true=>
         simp only [B,C2] at f;subst f;have O:=C8 B;obtain ⟨Q,e1,T,h1,h2,h3,V,W⟩:=J.blk b base _ u C;obtain ⟨m,q1,q2,q3,q4,q5⟩:=Gc E.P w false hlo hlo0 hhi hhi0 hmx hmx0 hmh (IqQ n) hb;by_cases r:m=L
         ·have:H=L:=by omega
          subst this;subst r;refine ⟨.slice (some ⟨base.cb,base.co+off,none⟩) 0 0,?_,?_⟩
          ·simp [Instr.sliceAt,Instr.sureAddr,hE.run_und i,q1,hE.run_has g]
          ·rw [Nat.sub_self];exact .sliceEnd _ _ _ _
         ·refine ⟨.slice (some ⟨base.cb,base.co+(off+L*E.size e),none⟩) (H-L) (m-L),?_,?_⟩
          ·simp [Instr.sliceAt,Instr.sureAddr,hE.run_und i,q1,hE.run_has g,r,BZ,Aea]
          ·refine .slice b _ _ _ _ base u (by omega) ?_
           have g1:L*E.size e+(m-L)*E.size e=m*E.size e:=by rw [←q0];congr 1;omega
           have g2:m*E.size e≤n*E.size e:=iv _ q4;omega
       |_=>simp [hb,g,C] at f
   |_=>simp [i] at f
  |_=>cases z<;>simp [i] at f
end
end Go.AE
namespace Go.AE
variable [Gl:AC]
variable [U:Unk]
def Zy {a:Type} (l:List a) (off:Nat) (r l2:List a):Prop:=l2.length=l.length∧∀j,l2[j]?=if off≤j∧j<off+r.length then r[j-off]? else l[j]?
theorem FA:∀(l:List AV) (off:Nat) (r:List AV),off+r.length≤l.length→Zy l off r (AW l off r):=by
 intro l
 induction l with
 |nil=>
  intro off r h;have:r=[]:=ie (by simp only [Aeb] at h;omega)
  subst this;exact ⟨by simp [AW],fun j=>by simp [AW]⟩
 |cons x l ih=>
  intro off r h;cases r with
  |nil=>exact ⟨by simp [AW],fun j=>by rw [if_neg (by simp)];simp [AW]⟩
  |cons v r=>
   simp only [kp] at h;cases off with
   |zero=>
    obtain ⟨a,b⟩:=ih 0 r (by omega)
    refine ⟨by simp [AW,a],fun j=>?_⟩
    cases j with
    |zero=>simp [AW]
    |succ j=>
     simp only [AW,eq,b j,kp,pc,Aec,true_and,Nat.sub_zero];by_cases c:j<r.length
     ·rw [if_pos c,if_pos (by omega)]
     ·rw [if_neg c,if_neg (by omega)]
   |succ off=>
    obtain ⟨a,b⟩:=ih off (v::r) (by simp;omega)
    refine ⟨by simp [AW,a],fun j=>?_⟩
    cases j with
    |zero=>rw [if_neg (by omega)];simp [AW]
    |succ j=>
     simp only [AW,eq,b j,kp];by_cases c:off≤j∧j<off+(r.length+1)
     ·rw [if_pos c,if_pos (by omega)];congr 1;omega
     ·rw [if_neg c,if_neg (by omega)]
theorem SU (off:Nat):∀(r:List Value) (k:Nat) (cs:Array Value),off+k+r.length≤cs.size→
  Zy cs.toList (off+k) r ((r.zipIdx k).foldl (fun cs (p:Value×Nat)=>cs.setIfInBounds (off+p.2) p.1) cs).toList:=by
 intro r
 induction r with
 |nil=>intro k cs h;exact ⟨rfl,fun j=>by rw [if_neg (by simp)];rfl⟩
 |cons v r ih=>
  intro k cs h;simp only [kp] at h;simp only [List.zipIdx_cons,List.foldl_cons];obtain ⟨a,b⟩:=ih (k+1) (cs.setIfInBounds (off+k) v) (by simp;omega)
  refine ⟨by rw [a];simp,fun j=>?_⟩
  rw [b j];simp only [kp];by_cases c1:off+(k+1)≤j∧j<off+(k+1)+r.length
  ·rw [if_pos c1,if_pos (by omega)]
   have:j-(off+k)=(j-(off+(k+1)))+1:=by omega
   rw [this,eq]
  ·rw [if_neg c1];by_cases c2:j=off+k
   ·subst c2;rw [if_pos (by omega)]
    have:off+k<cs.size:=by omega
    simp [this]
   ·rw [if_neg (by omega)]
    simp only [lv];rw [pv (fun e=>c2 e.symm)]
theorem Zy.vl {ρ:Ren} {l r l2:List AV} {l' r' t:List Value} {off:Nat} (h:Zy l off r l2) (h':Zy l' off r' t) (hl:VL ρ l l') (hr:VL ρ r r'):VL ρ l2 t:=by
 refine ⟨by rw [h.1,h'.1,hl.1],fun i a v I J=>?_⟩
 rw [h.2 i] at I;rw [h'.2 i,←hr.1] at J;by_cases c:off≤i∧i<off+r.length
 ·rw [if_pos c] at I J;exact hr.2 _ a v I J
 ·rw [if_neg c] at I J;exact hl.2 _ a v I J
def PL (b:Ren):List (Nat×AV)→List (Nat×Value)→Prop
 |[],[]=>True
 | (i,a)::r,(j,v)::c=>i=j∧VR b a v∧PL b r c
 |_,_=>False
theorem IK {k:Ren} {c:Nat→Option (Nat×Nat)}:∀{q:List (Nat×AV)} {e:List (Nat×Value)} {cells out:List AV} {b:Array Value},PL k q e→VL k cells b.toList→
  Fy c cells q=some out→∃d,Instr.fill c b e=some d∧VL k out d.toList
 |[],[],cells,out,b,_,g,h=>by
  simp only [Fy,C2] at h;subst h;exact ⟨b,rfl,g⟩
 | (i,a)::r,(j,v)::F,cells,out,b,⟨u,w,x⟩,g,h=>by
  subst u;simp only [Fy] at h;cases l:c i with
  |none=>simp [l] at h
  |some p=>
   obtain ⟨off,size⟩:=p;simp only [l] at h;cases m:(Nat.beq a.cells.length size&&Nat.ble (off+size) cells.length && !a.isTop) with
   |false=>simp [m] at h
   |true=>
    simp only [m] at h;obtain ⟨n,y⟩:=Au m;obtain ⟨z,A⟩:=Au n;have o:a≠.top:=by rintro rfl;simp [AV.isTop] at y
    have G:=Ax z;have H:=C8 A;have s:=w.cells o;have f:v.cells.size=size:=by have:=s.1;simp at this;omega
    have B:cells.length=b.size:=by simpa using g.1
    have C:=FA cells off a.cells (by omega)
    have t:=SU off v.cells.toList 0 b (by simp;omega)
    simp only [n0] at t;obtain ⟨d,D,E⟩:=IK x (C.vl t g s) h;refine ⟨d,?_,E⟩;simp only [Instr.fill,l];rw [if_neg (by simp [f];omega),←D]
    congr 1
    rw [←Array.foldl_toList];simp [Array.toList_zipIdx]
theorem Jj {b:Nat→Option (Nat×Nat)}:∀{f:List (Nat×AV)} {cells out:List AV},Fy b cells f=some out→out.length=cells.length
 |[],cells,out,h=>by simp only [Fy,C2] at h;subst h;rfl
 | (i,a)::r,cells,out,h=>by
  simp only [Fy] at h;cases e:b i with
  |none=>simp [e] at h
  |some p=>
   obtain ⟨off,size⟩:=p;simp only [e] at h;cases c:(Nat.beq a.cells.length size&&Nat.ble (off+size) cells.length && !a.isTop) with
   |false=>simp [c] at h
   |true=>
    simp only [c] at h;obtain ⟨d,k⟩:=Au c;obtain ⟨g,j⟩:=Au d;have l:=Ax g;have m:=C8 j;rw [Jj h,(FA cells off a.cells (by omega)).1]
section
variable {E:Env} (hE:OK E) {ρ:Ren} {h:Aa} {w:World}
include hE
omit hE in
theorem Cf {v:Value} {z:AV} (h:ofValue v=some z):z≠.top:=by
 rintro rfl
 cases v with
 |agg c=>simp only [ofValue] at h;cases hc:C0 c.toList<;>simp [hc] at h
 |pointer p=>cases p<;>simp [ofValue,A2] at h
 |slice p l c=>cases p<;>cases l<;>cases c<;>simp [ofValue,A2] at h
 |map r=>cases r<;>simp [ofValue,A2] at h
 |_=>simp [ofValue,A2] at h
theorem K8 (fs:List Field) (a:fs.all (fun f=>E.has f.type)=true) (w:World) :
  (fs.mapM fun f=>do pure (f.offset,←sizeOf f.type):Sem (List (Nat×Nat))).run E.P w=.ok (fs.map fun f=>(f.offset,E.size f.type)) w:=by
 induction fs with
 |nil=>simp
 |cons f r ih=>
  simp only [List.all_cons,F4] at a;simp only [List.mapM_cons,F9,hE.run_has a.1,E1,LE,ih a.2,Ad9]
theorem WT {t:TypeId} {u:List (Nat×AV)} {q:List (Nat×Value)} {a:AV} (B:PL ρ u q) (b:OZ E t u=some a) :
  ∃v,(Instr.build t q.toArray).run E.P w=.ok v w∧VR ρ a v:=by
 unfold OZ at b;cases m:E.zero t with
 |none=>simp [m] at b
 |some z=>
  obtain ⟨F,z1,z2⟩:=hE.run_zero ρ m w;have C:=(AZ ρ z2).cells (Cf z2);cases o:E.desc t with
  |none=>simp [m,o] at b
  |some d=>
   cases d with
   |struct fs=>
    simp only [m,o] at b;cases j:fs.toList.all (fun f=>E.has f.type) with
    |false=>simp only [j] at b;cases b
    |true=>
     simp only [j] at b;cases k:Fy (O7 E fs.toList) z.cells u with
     |none=>simp only [k,Option.map_none] at b;cases b
     |some out=>
      simp only [k,pl,C2] at b;subst b
      have x:O7 E fs.toList=(fun i=>((fs.toList.map fun f=>(f.offset,E.size f.type)).toArray)[i]?):=by
       funext i
       simp only [O7,sf,sd];cases fs.toList[i]?<;>rfl
      rw [x] at k;obtain ⟨g,y,s⟩:=IK B C k;refine ⟨.agg g,?_,?_⟩
      ·have D:=K8 hE fs.toList j w;simp only [Instr.build,F9,z1,E1,hE.run_und o];rw [Array.mapM_eq_mapM_toList];simp only [Sem.run_map,D,E1];rw [y];rfl
      ·exact .agg out g.toList s.1 s.2
   |array n e=>
    simp only [m,o] at b;cases A:E.has e with
    |false=>simp [A] at b
    |true=>
     simp only [A] at b;cases k:Fy (fun i=>some (i*E.size e,E.size e)) z.cells u with
     |none=>simp [k] at b
     |some out=>
      simp only [k,pl,C2] at b;subst b;obtain ⟨g,y,s⟩:=IK B C k;refine ⟨.agg g,?_,.agg out g.toList s.1 s.2⟩;simp [Instr.build,z1,hE.run_und o,hE.run_has A,y]
   |_=>simp [m,o] at b
end
end Go.AE
namespace Go.AE
variable [Gl:AC]
variable [U:Unk]
theorem ML (n:Nat) (h:n≤4611686018427387904):IntKind.i64.wrap (n:Int)=n:=IntWalk.i64_in _ (by omega)
theorem KB (z:List AV):∀(n i:Nat),i<n*z.length→(Dw z n)[i]?=z[i%z.length]?
 |0,i,h=>by simp at h
 |n+1,i,h=>by
  simp only [Dw];by_cases hi:i<z.length
  ·rw [R2 hi,Nat.mod_eq_of_lt hi]
  ·rw [Ts (by omega),KB z n (i-z.length) (by rw [q0] at h;omega)]
   congr 1
   rw [←Nat.mod_eq_sub_mod (by omega)]
theorem Ch (z:List AV):∀n,(Dw z n).length=n*z.length
 |0=>by simp [Dw]
 |n+1=>by simp only [Dw,la,Ch z n,q0];omega
theorem M7 {h:Ren} {z:List AV} {zero:Array Value} (j:VL h z zero.toList) (n:Nat) (b:Array Value) (k:n*z.length=0∨b=zero) :
  VL h (Dw z n) ((Array.range (n*z.length)).map (b[· % b.size]!)).toList:=by
 have l:z.length=zero.size:=by simpa using j.1
 refine ⟨by simp [Ch],fun i a v d c=>?_⟩
 have hi:i<n*z.length:=by
  have:=(Id.1 d).1
  rwa [Ch] at this
 rcases k with k|rfl
 ·omega
 ·have f:0<z.length:=by
   rcases Nat.eq_zero_or_pos z.length with e|e
   ·rw [e] at hi;simp at hi
   ·exact e
  rw [KB z n i hi] at d;have m:i%z.length<z.length:=Nat.mod_lt _ f;simp only [Array.toList_map,Array.toList_range,sd,Aej hi,pl,C2] at c;subst c;obtain ⟨v,c,g⟩:=j.get d;rw [l] at c
  have:b[i%b.size]! = v:=by
   rw [lv] at c;simp [Array.getElem!_eq_getD,L1,c]
  rw [this];exact g
section
variable {E:Env} (hE:OK E) {ρ:Ren} {h:Aa} {w:World}
include hE
def A4 (E:Env) (ρ:Ren) (h h':Aa) (w:World) (s:Sem Value) (a:AV):Prop:=
 ∃b v c,s.run E.P w=.ok v c∧VR b a v∧HR b h'.blk.get c∧Ext ρ b h h' w c
omit hE in
theorem Bt (hr:HR ρ h.blk.get w) {s:Sem Value} {a:AV} (hs:∃v,s.run E.P w=.ok v w∧VR ρ a v):A4 E ρ h h w s a:=by
 obtain ⟨v,h1,h2⟩:=hs;exact ⟨ρ,v,w,h1,h2,hr,Ext.refl ρ h w⟩
theorem XI (hr:HR ρ h.blk.get w) (b:ρ h.nx=none) {t:TypeId} {z:AV} (c:E.zero t=some z) :
  A4 E ρ h (Bx h z.cells) w (Instr.alloc t true (.tuple #[])) (.ptr h.nx 0):=by
 obtain ⟨d,z1,z2⟩:=hE.run_zero ρ c w;have e:=(AZ ρ z2).cells (Cf z2);obtain ⟨f,g,i,j⟩:=hr.newList b t d.cells e;refine ⟨f,.pointer (some ⟨w.heap.size,0,none⟩),_,?_,.ptr h.nx 0 _ g,i,j⟩;simp only [Instr.alloc,F9,z1,E1,newVar,newRow,Aee,LE]
omit hE in
theorem ga (hr:HR ρ h.blk.get w) (hf:ρ h.nx=none) {t:TypeId} {a:AV} {v:Value} (ha:VR ρ a v) (ht:a≠.top) :
  A4 E ρ h (Bx h a.cells) w (Instr.box t v) (.ptr h.nx 0):=by
 obtain ⟨σ,s1,q1,q2⟩:=hr.newList hf t v.cells (ha.cells ht);refine ⟨σ,.pointer (some ⟨w.heap.size,0,none⟩),_,?_,.ptr h.nx 0 _ s1,q1,q2⟩;simp only [Instr.box,F9,E1,newVar,newRow,Aee,LE]
theorem LP (hr:HR ρ h.blk.get w) {t:TypeId} {len:Nat} {r:List (Nat×AV)} {n:List (Nat×Value)} {a:AV} {h':Aa} (y:PL ρ r n) (c:EV E t len r h=some (a,h')) (hf:AX ρ h.nx h'.nx) :
  A4 E ρ h h' w (Instr.buildSlice t len n.toArray) a:=by
 unfold EV at c;cases o:E.desc t with
 |none=>simp [o] at c
 |some d=>
  cases d with
  |slice e=>
   simp only [o] at c;cases p:Nat.ble (len*E.size e) 16777216 with
   |false=>simp [p] at c
   |true=>
    cases q:E.zero e with
    |none=>simp [p,q] at c
    |some z=>
     simp only [p,q] at c;cases k:Nat.beq z.cells.length (E.size e) with
     |false=>simp [k] at c
     |true=>
      simp only [k] at c;cases g:Fy (fun i=>some (i*E.size e,E.size e)) (Dw z.cells len) r with
      |none=>simp [g] at c
      |some cells=>
       simp only [g,C2,hS] at c;obtain ⟨rfl,rfl⟩:=c;have f:=Ax k;have A:=C8 p;obtain ⟨i,v,i1,i2,H⟩:=GF q;have u:∀w,(sizeOf e).run E.P w=.ok (E.size e) w:=fun w=>by rw [hE.run_sz i1];simp [Env.size,i1]
       obtain ⟨x,z1,z2⟩:=hE.run_zero ρ q w;have B:=(AZ ρ z2).cells (Cf z2);have l:ρ h.nx=none:=hf h.nx (IqQ _) (by simp [Bx,Aa.new])
       have C:len*z.cells.length=0∨(if len*E.size e=0 then #[] else x.cells)=x.cells:=by
        rw [f];by_cases m:len*E.size e=0
        ·exact .inl m
        ·exact .inr (by rw [if_neg m])
       have b:=M7 B len (if len*E.size e=0 then #[] else x.cells) C
       rw [f] at b;obtain ⟨j,o1,o2⟩:=IK y b g;obtain ⟨σ,s1,q1,q2⟩:=hr.newList l e j o2
       have D:j.size=len*E.size e:=by
        have F:=Jj g;rw [Ch,f] at F;have G:=o2.1;simp at G;omega
       refine ⟨σ,.slice (some ⟨w.heap.size,0,none⟩) len len,_,?_,?_,q1,q2⟩
       ·simp only [Instr.buildSlice,F9,hE.run_und o,E1,u];rw [if_neg (by omega)]
        by_cases m:len*E.size e=0
        ·simp only [m,if_true] at o1;simp only [m,if_true,F9,LE,E1];rw [o1];simp only [newRow,F9,Aee,E1,LE]
        ·rw [if_neg m] at o1;rw [if_neg m];simp only [F9,z1,LE,E1];rw [o1];simp only [newRow,F9,Aee,E1,LE]
       ·exact VR.slice h.nx 0 len (E.size e) len _ s1 (IqQ _) (by simp only [pc];omega)
  |_=>simp [o] at c
end
end Go.AE
namespace Go.AE
variable [Gl:AC]
variable [U:Unk]
theorem HR.strike {ρ:Ren} {h:Aa} {w:World} (r:HR ρ h.blk.get w) (b:Nat):HR ρ (h.strike b).blk.get w∧Ext ρ ρ h (h.strike b) w w:=by
 refine ⟨r.restrict fun c=>?_,⟨Ren.le_refl ρ,IqQ _,fun _ _ e=>.inl e,G8.refl w,fun _ _ _=>rfl,⟨[b],rfl,?_⟩,?_,fun _ _ e=>.inl e⟩⟩
 ·simp only [Aa.strike,T.get_del];by_cases e:b=c
  ·exact .inl (by rw [if_pos e])
  ·exact .inr (by rw [if_neg e])
 ·intro c l _;simp only [Aa.strike,T.get_del];rw [if_neg (fun e=>l (by simp [e]))]
 ·intro c l;simp only [Aa.strike,T.get_del] at l;by_cases e:b=c
  ·rw [if_pos e] at l;exact absurd rfl l
  ·rw [if_neg e] at l;exact .inl l
theorem HR.move {ρ:Ren} {h:Aa} {w:World} (hr:HR ρ h.blk.get w) {b:Nat} {base base':Cr} (hb:ρ b=some base) (hl:h.blk.get b≠none) (hf:ρ h.nx=none) (al:base'.cb=base.cb) (x:Am)
  (w':World) (hx:BR (ρ.upd h.nx base') x base' w'.heap[base.cb]?) (av:w'.heap.size=w.heap.size) (an:∀k,k≠base.cb→w'.heap[k]?=w.heap[k]?) (bm:w'.os=w.os) (ht:w'.tape=w.tape) (ho:w'.output=w.output) :
  HR (ρ.upd h.nx base') ((h.strike b).new x).blk.get w'∧Ext ρ (ρ.upd h.nx base') h ((h.strike b).new x) w w':=by
 have bd:=Ren.le_upd hf base';have bs:b≠h.nx:=by rintro rfl;rw [hf] at hb;cases hb
 have t:∀c d,ρ.upd h.nx base' c=some d→(c=h.nx∧d=base')∨(c≠h.nx∧ρ c=some d):=by
  intro c d l;simp only [Ren.upd] at l;by_cases e:c=h.nx
  ·rw [if_pos e] at l;exact .inl ⟨e,by simpa using l.symm⟩
  ·rw [if_neg e] at l;exact .inr ⟨e,l⟩
 have get:∀c,((h.strike b).new x).blk.get c=if h.nx=c then some x else if b=c then none else h.blk.get c:=by
  intro c;simp only [Aa.new,Aa.strike,T.get_set,T.get_del]
 refine ⟨⟨?_,?_,?_,?_,?_,hr.glob⟩,⟨bd,Nat.le_succ _,?_,⟨bm,ht,ho,by omega⟩,?_,⟨[b],rfl,?_⟩,?_,fun _ _ e=>.inl e⟩⟩
 ·intro c d l;rcases t c d l with ⟨_,rfl⟩|⟨_,I⟩
  ·rw [al,av];exact hr.lt b base hb
  ·rw [av];exact hr.lt c d I
 ·intro c d y l hy;rw [get] at hy;rcases t c d l with ⟨rfl,rfl⟩|⟨J,I⟩
  ·rw [if_pos rfl] at hy;cases hy;rw [al];exact hx
  ·rw [if_neg (fun e=>J e.symm)] at hy
   by_cases e:b=c
   ·rw [if_pos e] at hy;cases hy
   ·rw [if_neg e] at hy;rw [an _ (hr.apart c b d base (fun q=>e q.symm) I hb (by rw [hy];simp) hl)]
    exact (hr.blk c d y I hy).mono bd
 ·have one:∀c d,c≠h.nx→ρ c=some d→((h.strike b).new x).blk.get c≠none→base'.cb≠d.cb:=by
   intro c d J I r;rw [get,if_neg (fun e=>J e.symm)] at r
   by_cases e:b=c
   ·rw [if_pos e] at r;exact absurd rfl r
   ·rw [if_neg e] at r;rw [al];exact hr.apart b c base d e hb I hl r
  intro c c' d d' J l be I r;rcases t c d l with ⟨rfl,rfl⟩|⟨hn,h3⟩
  ·rcases t c' d' be with ⟨e,_⟩|⟨ar,h4⟩
   ·exact absurd e.symm J
   ·exact one c' d' ar h4 r
  ·rcases t c' d' be with ⟨rfl,rfl⟩|⟨ar,h4⟩
   ·exact (one c d hn h3 I).symm
   ·rw [get,if_neg (fun e=>hn e.symm)] at I
    rw [get,if_neg (fun e=>ar e.symm)] at r
    by_cases e:b=c
    ·rw [if_pos e] at I;exact absurd rfl I
    ·by_cases e':b=c'
     ·rw [if_pos e'] at r;exact absurd rfl r
     ·rw [if_neg e] at I;rw [if_neg e'] at r;exact hr.apart c c' d d' J h3 h4 I r
 ·intro k arr hk;rw [an k (hr.off k arr b base hk hb hl).symm];exact hr.imm k arr hk
 ·intro k arr c d hk l r;rcases t c d l with ⟨rfl,rfl⟩|⟨hn,h3⟩
  ·rw [al];exact hr.off k arr b base hk hb hl
  ·rw [get,if_neg (fun e=>hn e.symm)] at r
   by_cases e:b=c
   ·rw [if_pos e] at r;exact absurd rfl r
   ·rw [if_neg e] at r;exact hr.off k arr c d hk h3 r
 ·intro c d l;rcases t c d l with ⟨rfl,rfl⟩|⟨_,I⟩
  ·exact .inr ⟨IqQ _,Nat.lt_succ_self _,.inr ⟨b,base,hb,hl,al.symm⟩⟩
  ·exact .inl I
 ·intro k hk hn;exact an k (fun e=>hn b base hb hl e.symm)
 ·intro c l bn;rw [get,if_neg (by simp only [Aa.new,Aa.strike] at bn;omega),if_neg (fun e=>l (by simp [e]))]
 ·intro c l;rw [get] at l;by_cases e:h.nx=c
  ·exact .inr ⟨by omega,by simp only [Aa.new,Aa.strike];omega⟩
  ·rw [if_neg e] at l;by_cases e':b=c
   ·rw [if_pos e'] at l;exact absurd rfl l
   ·rw [if_neg e'] at l;exact .inl l
theorem Ext.drawn {ρ t:Ren} {h h':Aa} {w w1 I:World} (e:Ext ρ t h h' w1 I) (l:w1.heap=w.heap) (r:w1.os=w.os) (J:w1.tape=w.tape) (ho:w1.output=w.output):Ext ρ t h h' w I:=
 ⟨e.le,e.nx,l▸e.new,⟨e.calm.os.trans r,e.calm.tape.trans J,e.calm.output.trans ho,l▸e.calm.size⟩,l▸e.kept,e.log,e.live,l▸e.imm⟩
theorem AU (P:Program) (w:World) (b o k:Nat) (a:Array Value) (e:TypeId) (f:Nat×Nat) (g:w.heap[b]?=some (.cells a e f)) (i:o+k≤a.size) :
  (Go.loadCells ⟨b,o,none⟩ k).run P w=.ok ((a.toList.drop o).take k).toArray w:=by
 have h:((a.toList.drop o).take k).length=k:=by simp;omega
 have:=C7 (w:=w) P b o ((a.toList.drop o).take k) 0 #[] (by
  intro j v d;rw [pi] at d;by_cases c:j<k
  ·rw [if_pos c] at d;simp only [l0,lv] at d;simp [World.cell?,g,d]
  ·rw [if_neg c] at d;cases d)
 rw [h] at this;simpa [Go.loadCells] using this
theorem Gj:∀(l:List UInt8),Hn l.length (AB l)=l.map fun b=>AV.int .u8 (b.toNat:Nat)
 |[]=>rfl
 |b::r=>by
  obtain ⟨a,c⟩:=Hv b r;simp only [kp,Hn,a,c,Gj r,Ad9]
theorem Sn (f:Ren) (l:List UInt8):VL f (l.map fun b=>AV.int .u8 (b.toNat:Nat)) (l.map fun b=>Value.int .u8 (b.toNat:Nat)):=by
 refine ⟨by simp,fun i a v c d=>?_⟩
 simp only [sd] at c d;cases e:l[i]? with
 |none=>simp [e] at c
 |some b=>
  simp only [e,pl,C2] at c d;subst c;subst d;exact .int _ _
section
variable {E:Env} (hE:OK E) {ρ:Ren} {h:Aa} {w:World}
theorem bQ (A:HR ρ h.blk.get w) (P:Program) {i n m:Nat} {x:AV} {u:Value} {l:List AV} (D:VR ρ x u) (e:Nn x=some m) (N:n≤m) (d:Pp h i n x=some l) :
  ∃r:List Value,VL ρ l r∧l.length=n*i∧(Builtin.lenOf u).run P w=.ok m w∧∀g:World,g.heap=w.heap→(Builtin.firstCells i n u).run P g=.ok r.toArray g:=by
 cases D with
 |slice0=>
  simp only [Nn,C2] at e;simp only [Pp,C2] at d;subst d;have:n=0:=by omega
  subst this;exact ⟨[],VL.nil ρ,by simp,by simp [Builtin.lenOf,e.symm],fun g _=>by simp [Builtin.firstCells]⟩
 |slice b off k q F base G O Q=>
  simp only [Nn,C2] at e;subst e;simp only [Pp] at d;cases f:Nat.beq i q with
  |false=>simp [f] at d
  |true=>
   simp only [f] at d;have:=Ax f;subst this;unfold CZ at d;cases o:h.blk.get b with
   |none=>simp [o] at d
   |some y=>
    cases y with
    |cells z c=>
     simp only [o] at d;cases t:Nat.ble (off+n*i) z with
     |false=>simp [t] at d
     |true=>
      simp only [t] at d;have p:=(T.range_spec c _ _ _ d).1;obtain ⟨r,B,R,H⟩:=A.loadCells P G o (C8 t) d;refine ⟨r,B,p,by simp [Builtin.lenOf],fun g C=>?_⟩
      have I:HR ρ h.blk.get g:=A.same C;have J:r.length=n*i:=by rw [←B.1,p]
      have K:=C7 (w:=g) P base.cb (base.co+off) r 0 #[] (fun j v L=>by
       have:=H j v L;simp only [pc];rw [←this];simp [World.cell?,C])
      simp only [Builtin.firstCells,Go.loadCells];rw [←J,K];simp
    |_=>simp [o] at d
 |sliceEnd b off q a=>
  simp only [Nn,C2] at e;have:n=0:=by omega
  subst this;simp only [Pp] at d;cases f:Nat.beq i q with
  |false=>simp [f] at d
  |true=>
   simp only [f,Nat.zero_mul] at d
   have M:l=[]:=by
    unfold CZ at d;cases o:h.blk.get b with
    |none=>simp [o] at d
    |some y=>
     cases y with
     |cells z c=>
      simp only [o] at d;cases t:Nat.ble (off+0) z with
      |false=>simp only [t] at d;cases d
      |true=>simp only [t,T.range,C2] at d;exact d.symm
     |_=>simp [o] at d
   subst M;exact ⟨[],VL.nil ρ,by simp,by simp [Builtin.lenOf,e.symm],fun g _=>by simp [Builtin.firstCells,Go.loadCells,loadCellsFrom]⟩
 |str s=>
  simp only [Nn,C2] at e;simp only [Pp] at d;cases f:Nat.beq i 1 with
  |false=>simp [f] at d
  |true=>
   simp only [f,C2] at d;have:=Ax f;subst this;subst d;rw [Gj];refine ⟨(s.data.toList.map fun b=>Value.int .u8 (b.toNat:Nat)).take n,(Sn ρ _).take n,by simp at e ⊢;omega,by simp [Builtin.lenOf];simpa using e,fun g _=>?_⟩
   simp only [Builtin.firstCells,LE]
   congr 1
   apply Array.ext';simp [ByteArray.data_extract]
 |_=>simp [Nn] at e
end
end Go.AE
namespace Go.AE
variable [Gl:AC]
variable [U:Unk]
section
variable {P:Program} {w:World}
inductive XQ (P:Program) (w:World) (t' e:TypeId) (inf:TypeInfo) (xv:Value) (m:Nat) (nv:List Value):Prop
 |cells (d:TypeDesc) (hu:P.underlying t'=some d) (hd:(∃e',d=.slice e')∨d=.string) (hl:(Builtin.lenOf xv).run P w=.ok m w)
   (hf:∀w':World,w'.heap=w.heap→(Builtin.firstCells inf.size m xv).run P w'=.ok nv.toArray w')
 |zeros (k k':IntKind) (hu:P.underlying t'=some (.int k)) (hx:xv=.int k' (m:Int)) (hm:m≤1048576) (hb:m*inf.bytes≤140737488355328)
   (z:Value) (hz:inf.zero=some z) (hzs:z.cells.size=inf.size) (hn:nv.toArray=Builtin.zeroCells z.cells m)
theorem C3 (t l ty e:TypeId) (b:TypeInfo) (x:P.underlying t=some (.slice e)) (hi:P.info? e=some b) (y:Value) (m:Nat) (nv:List Value) (B:XQ P w l e b y m nv)
  (base:Option Addr) (c f:Nat) (g:c+m≤f) :
  (Builtin.append_ #[t,l] ty #[.slice base c f,y]).run P w =
   ((match base with|some a=>storeCells (a.add (c*b.size)) nv|none=>pure ()).run P w).andThen fun _ C=>.ok (.slice base (c+m) f) C:=by
 cases B with
 |cells d n D E F=>
  have o:=F w rfl;have p:(underlying l).run P w=.ok d w:=by simp [underlying,n]
  have q:(underlying t).run P w=.ok (.slice e) w:=by simp [underlying,x]
  have r:(sizeOf e).run P w=.ok b.size w:=by simp [sizeOf,typeInfo,hi]
  unfold Builtin.append_
  rcases D with ⟨M,rfl⟩|rfl<;>
   simp only [sf,No,eq,F9,q,E1,r,p,ei,ws,E,if_pos g,Bool.not_false,if_true,o,LE]<;>
   cases base<;>simp
 |zeros k N n G O Q z H s A=>
  subst G;have I:=ML m (by omega)
  have J:¬((m:Int)<0):=by omega
  have u:¬((m:Int)*(b.bytes:Int)>2^48):=by
   have:((m*b.bytes:Nat):Int)≤140737488355328:=by omega
   rw [Int.natCast_mul] at this;omega
  have p:(underlying l).run P w=.ok (.int k) w:=by simp [underlying,n]
  have q:(underlying t).run P w=.ok (.slice e) w:=by simp [underlying,x]
  have r:(sizeOf e).run P w=.ok b.size w:=by simp [sizeOf,typeInfo,hi]
  have K:(typeInfo e).run P w=.ok b w:=by simp [typeInfo,hi]
  have L:(zeroValue e).run P w=.ok z w:=by simp [zeroValue,typeInfo,hi,H]
  have i:nv=[]∨m*b.size≠0:=by
   by_cases j:m*b.size=0
   ·left;have:nv.toArray.size=0:=by rw [A];simp [Builtin.zeroCells,s,j]
    simpa using this
   ·exact .inr j
  unfold Builtin.append_;simp only [sf,No,eq,F9,q,E1,r,p,LE,if_true,asInt,asIntOf,I,if_neg J,K,if_neg u,Aep,if_pos g,Bool.not_true,ei,ws];by_cases j:m*b.size=0
  ·have v:nv=[]:=by
    rcases i with h|h
    ·exact h
    ·exact absurd j h
   subst v;rw [if_pos j];cases base<;>simp [storeCells]
  ·rw [if_neg j];simp only [F9,L,E1,LE,←A];cases base<;>simp
theorem DM (t s ty e:TypeId) (c:TypeInfo) (K:P.underlying t=some (.slice e)) (hi:P.info? e=some c) (z:Value) (o:c.zero=some z) (F:Value) (m:Nat) (nv:List Value) (L:XQ P w s e c F m nv)
  (base:Option Addr) (a b:Nat) (i:b<a+m) (M:a+m≤4611686018427387904) (u:(a+m)*c.bytes≤140737488355328) (ov:Array Value)
  (G:∀v:World,v.heap=w.heap→(Builtin.firstCells c.size a (.slice base a b)).run P v=.ok ov v) :
  ∃j,a+m≤j∧(Builtin.append_ #[t,s] ty #[.slice base a b,F]).run P w =
   .ok (.slice (some ⟨w.heap.size,0,none⟩) (a+m) j) {w with drawn:=w.drawn+1,heap:=w.heap.push (.cells (ov++nv.toArray++Builtin.zeroCells z.cells (j-(a+m))) e)}:=by
 refine ⟨grownCap w (a+m) b e,grownCap_ge w _ _ _,?_⟩;have p:¬(a+m≤b):=by omega
 have f:¬(((a+m:Nat):Int)>IntKind.i64.max):=by simp only [IntKind.max,IntKind.signed,IntKind.bits];omega
 have g:¬(Builtin.nextslicecap (a+m) b*c.bytes>2^48):=by have:=growslice_fits i u;omega
 have l:({w with drawn:=w.drawn+1}:World).heap=w.heap:=rfl
 have H:∀w:World,(underlying t).run P w=.ok (.slice e) w:=fun w=>by simp [underlying,K]
 have I:∀w:World,(sizeOf e).run P w=.ok c.size w:=fun w=>by simp [sizeOf,typeInfo,hi]
 have n:∀w:World,(typeInfo e).run P w=.ok c w:=fun w=>by simp [typeInfo,hi]
 have x:∀w:World,(zeroValue e).run P w=.ok z w:=fun w=>by simp [zeroValue,typeInfo,hi,o]
 have q:(choose (.appendCap (a+m) b e)).run P w=.ok (grownCap w (a+m) b e) {w with drawn:=w.drawn+1}:=by simp [Question.forced,grownCap]
 cases L with
 |cells d y N O Q=>
  have A:(underlying s).run P w=.ok d w:=by simp [underlying,y]
  unfold Builtin.append_;rcases N with ⟨V,rfl⟩|rfl
  all_goals
   simp only [sf,No,eq,F9,H,E1,I,A,ei,ws,O,if_neg p,Bool.not_false,if_true,n,LE];rw [if_neg (fun h=>f h.1)]
   simp only [F9,n,E1];rw [if_neg g];simp only [F9,q,E1,n,run_askRoom,G _ l,Q _ l,x,newRow,Aee,LE]
 |zeros k W y R X Y Z r B J=>
  subst R;rw [o] at r;cases r;have S:=ML m (by omega)
  have T:¬((m:Int)<0):=by omega
  have C:¬((m:Int)*(c.bytes:Int)>2^48):=by
   have:((m*c.bytes:Nat):Int)≤140737488355328:=by omega
   rw [Int.natCast_mul] at this;omega
  have A:(underlying s).run P w=.ok (.int k) w:=by simp [underlying,y]
  unfold Builtin.append_;simp only [sf,No,eq,F9,H,E1,I,A,LE,if_true,asInt,asIntOf,S,if_neg T,n,if_neg C,Aep,if_neg p,Bool.not_true,ei,ws];rw [if_neg (fun h=>f h.1)]
  simp only [F9,n,E1];rw [if_neg g];simp only [F9,q,E1,n,run_askRoom,G _ l];by_cases D:m*c.size=0
  ·rw [if_pos D]
   have E:nv.toArray = #[]:=by
    rw [J];apply Array.eq_empty_of_size_eq_zero;simp [Builtin.zeroCells,B,D]
   simp only [LE,E1,F9,x,newRow,Aee,E]
  ·rw [if_neg D];simp only [LE,E1,F9,x,newRow,Aee,J]
end
end Go.AE
namespace Go.AE
variable [Gl:AC]
variable [U:Unk]
section
variable {E:Env} (hE:OK E) {ρ:Ren} {h:Aa} {w:World}
include hE
omit hE in
theorem IX (hr:HR ρ h.blk.get w) (hf:ρ h.nx=none) (e:TypeId) {news olds:List AV} {nv ov:List Value} (hn:VL ρ news nv) (k sLen m cap es:Nat) (hov:ov.length=k) {c:T AV}
  (hc:∀i a,i<k+news.length→c.get i=some a→(∃v,i<k∧ov[i]?=some v∧VR ρ a v)∨(k≤i∧news[i-k]?=some a))
  (rest:Array Value) (hsz:(sLen+m)*es=k+news.length) (hrest:rest.size=(cap-(sLen+m))*es) (hcap:sLen+m≤cap) :
  ∃σ,HR σ (h.new (.cells (k+news.length) c)).blk.get {w with drawn:=w.drawn+1,heap:=w.heap.push (.cells (ov.toArray++nv.toArray++rest) e)}∧
   Ext ρ σ h (h.new (.cells (k+news.length) c)) w {w with drawn:=w.drawn+1,heap:=w.heap.push (.cells (ov.toArray++nv.toArray++rest) e)}∧
   VR σ (.slice h.nx 0 (sLen+m) es) (.slice (some ⟨w.heap.size,0,none⟩) (sLen+m) cap):=by
 have hnl:=hn.1;have hr1:HR ρ h.blk.get {w with drawn:=w.drawn+1}:=hr.same rfl
 have hasz:(ov.toArray++nv.toArray++rest).size=cap*es:=by
  simp only [Array.size_append,List.size_toArray,hov,←hnl,hrest];have:cap*es=(sLen+m)*es+(cap-(sLen+m))*es:=by rw [←q0];congr 1;omega
  omega
 obtain ⟨σ,s1,q1,q2⟩:=hr1.newRow hf e (n:=k+news.length) (c:=c) (ov.toArray++nv.toArray++rest) (by
  simp only [Array.size_append,List.size_toArray,hov,←hnl];omega) (by
  intro i a hi ha;rcases hc i a hi ha with ⟨v,h1,h2,h3⟩|⟨h1,h2⟩
  ·exact ⟨v,by rw [Array.append_assoc,Ad7 (by simp;omega)];simpa using h2,h3⟩
  ·obtain ⟨v,hv,hvr⟩:=hn.get h2;refine ⟨v,?_,hvr⟩;rw [Ad7 (by simp;omega),Array.getElem?_append_right (by simp;omega)]
   simpa [hov] using hv)
 refine ⟨σ,q1,Ext.drawn q2 rfl rfl rfl rfl,?_⟩;have hv:=VR.slice (ρ:=σ) h.nx 0 (sLen+m) es cap _ s1 hcap (by simp only [pc];omega)
 exact hv
theorem Kz (hr:HR ρ h.blk.get w) {t D ty e:TypeId} {d:TypeInfo} (N:E.P.underlying t=some (.slice e)) (hi:E.ty.get e=some d) {z:AV} (hz:E.zero e=some z) (af:z.cells.length=d.size) {s a:AV} {sv F:Value} {m:Nat} {news:List AV} {nv:List Value} {h':Aa}
  (hs:VR ρ s sv) (g:XQ E.P w D e d F m nv) (hn:VL ρ news nv) (hnl:news.length=m*d.size) (ha:CB d s m news h=some (a,h')) (hf:AX ρ h.nx h'.nx) :
  A4 E ρ h h' w (Builtin.append_ #[t,D] ty #[sv,F]) a:=by
 obtain ⟨i',I,i1,i2,i3⟩:=GF hz;rw [hi] at i1;cases i1;have j:=hE.ty e d hi
 have J:I.cells.size=d.size:=by
  have:=((AZ ρ i3).cells (Cf i3)).1;simp at this;omega
 cases hs with
 |slice0=>
  simp only [CB] at ha;cases hc:(Nat.ble m 4611686018427387904&&Nat.ble (m*d.bytes) 140737488355328) with
  |false=>simp [hc] at ha
  |true=>
   simp only [hc] at ha;obtain ⟨c1,c2⟩:=Au hc;have d1:=C8 c1;have d2:=C8 c2;cases m with
   |zero=>
    simp only [C2,hS] at ha;obtain ⟨rfl,rfl⟩:=ha;refine Bt hr ⟨.slice none 0 0,?_,.slice0⟩;rw [C3 t D ty e d N j F 0 nv g none 0 0 (by omega)]
    rfl
   |succ m=>
    simp only [C2,hS] at ha;obtain ⟨rfl,rfl⟩:=ha;have f:ρ h.nx=none:=hf h.nx (IqQ _) (by simp [Bx,Aa.new])
    obtain ⟨cap,k1,k2⟩:=DM t D ty e d N j I i2 F (m+1) nv g none 0 0 (by omega) (by omega) (by simpa using d2) #[] (fun K _=>by simp [Builtin.firstCells])
    obtain ⟨σ,q1,q2,G⟩:=IX hr f e (olds:=[]) (ov:=[]) hn 0 0 (m+1) cap d.size rfl (c:=.ofList news) (by
     intro i a hi ha;rw [T.get_ofList] at ha;exact .inr ⟨Aec _,by simpa using ha⟩) (Builtin.zeroCells I.cells (cap-(0+(m+1)))) (by simp [hnl]) (by simp [Builtin.zeroCells,J]) k1
    simp only [pc] at q1 q2 G k2;exact ⟨σ,_,_,k2,G,q1,q2⟩
 |slice b off n es cap base Y hcap Z=>
  simp only [CB] at ha;cases hc:(Nat.beq d.size es&&Ez news&&Nat.ble (n+m) 4611686018427387904&&Nat.ble ((n+m)*d.bytes) 140737488355328) with
  |false=>simp [hc] at ha
  |true=>
   simp only [hc] at ha;obtain ⟨A,c4⟩:=Au hc;obtain ⟨c12,c3⟩:=Au A;obtain ⟨c1,c2⟩:=Au c12;have d1:=Ax c1;have d3:=C8 c3;have d4:=C8 c4;subst d1;cases m with
   |zero=>
    simp only [C2,hS] at ha;obtain ⟨rfl,rfl⟩:=ha
    have S:nv=[]:=by
     have x:=hn.1;rw [hnl] at x;simpa using x.symm
    subst S;refine Bt hr ⟨.slice (some ⟨base.cb,base.co+off,none⟩) n cap,?_,.slice b off n d.size cap base Y hcap Z⟩;rw [C3 t D ty e d N j F 0 [] g _ n cap (by omega)]
    simp [storeCells]
   |succ m=>
    simp only [] at ha;cases r:h.blk.get b with
    |none=>simp [r] at ha
    |some y=>
     cases y with
     |cells O c=>
      simp only [r] at ha
      have B:∃H,a=.slice h.nx 0 (n+(m+1)) d.size∧h'=(h.strike b).new (.cells (n*d.size+news.length) H)∧off+n*d.size≤O∧
        ∀i a,i<n*d.size+news.length→H.get i=some a→(i<n*d.size∧c.get (off+i)=some a)∨(n*d.size≤i∧news[i-n*d.size]?=some a):=by
       cases W:(Nat.beq off 0&&Nat.beq (n*d.size) O) with
       |true=>
        simp only [W,C2,hS] at ha;obtain ⟨rfl,rfl⟩:=ha;obtain ⟨Q,L⟩:=Au W;have x:=Ax Q;have e2:=Ax L;subst x;refine ⟨_,rfl,rfl,by omega,?_⟩
        intro i a hi ha;rw [FN] at ha;by_cases c:n*d.size≤i∧i<n*d.size+news.length
        ·rw [if_pos c] at ha;exact .inr ⟨c.1,ha⟩
        ·rw [if_neg c] at ha;exact .inl ⟨by omega,by simpa using ha⟩
       |false=>
        simp only [W] at ha;cases o:CZ h b off (n*d.size) with
        |none=>simp [o] at ha
        |some olds=>
         simp only [o,C2,hS] at ha;obtain ⟨rfl,rfl⟩:=ha;unfold CZ at o;simp only [r] at o;cases p:Nat.ble (off+n*d.size) O with
         |false=>simp [p] at o
         |true=>
          simp only [p] at o;obtain ⟨l1,l2⟩:=T.range_spec c _ _ _ o;refine ⟨_,rfl,rfl,C8 p,?_⟩;intro i a hi ha;rw [T.get_ofList] at ha;by_cases c:i<n*d.size
          ·rw [R2 (by omega)] at ha
           exact .inl ⟨c,by rw [l2 i c];exact ha⟩
          ·rw [Ts (by omega),l1] at ha
           exact .inr ⟨by omega,ha⟩
      clear ha;obtain ⟨H,rfl,rfl,aa,M⟩:=B;have f:ρ h.nx=none:=hf h.nx (IqQ _) (by simp [Aa.new,Aa.strike])
      obtain ⟨q,x,fz,r1,X,r3,r4,r5⟩:=hr.blk b base _ Y r;have R:nv.length=(m+1)*d.size:=by rw [←hn.1,hnl]
      have ae:n*d.size≤cap*d.size:=iv _ hcap;by_cases u:n+(m+1)≤cap
      ·
       have ab:(n+(m+1))*d.size≤cap*d.size:=iv _ u;rw [q0] at ab;obtain ⟨K,ac,q1,q2,G,q4,q5,q6,q7,q8,q9⟩:=BN E.P base.cb (base.co+off+n*d.size) x fz nv 0 w q r1 (by rw [R,X];omega) (by rw [X];exact r4) (HZ c2 hn)
       have hx:BR (ρ.upd h.nx ⟨base.cb,base.co+off,base.csz⟩) (.cells (n*d.size+news.length) H) ⟨base.cb,base.co+off,base.csz⟩ K.heap[base.cb]?:=by
        refine ⟨ac,x,fz,q2,by rw [G,X],?_,r4,?_⟩
        ·show base.co+off+(n*d.size+news.length)≤base.csz;rw [hnl];omega
        ·intro i a hi ha;rw [q4];simp only [n0];rcases M i a hi ha with ⟨Q,L⟩|⟨Q,L⟩
         ·rw [if_neg (by omega)]
          obtain ⟨v,hv,hvr⟩:=r5 (off+i) a (by omega) L
          exact ⟨v,by rw [←hv];congr 1;omega,hvr.mono (Ren.le_upd f _)⟩
         ·rw [if_pos (by rw [R,←hnl];omega)]
          obtain ⟨v,hv,hvr⟩:=hn.get L;exact ⟨v,by rw [←hv];congr 1;omega,hvr.mono (Ren.le_upd f _)⟩
       obtain ⟨p1,p2⟩:=hr.move Y (by rw [r];simp) f (base':=⟨base.cb,base.co+off,base.csz⟩) rfl _ K hx q5 q6 q7 q8 q9
       refine ⟨_,.slice (some ⟨base.cb,base.co+off,none⟩) (n+(m+1)) cap,K,?_,?_,p1,p2⟩
       ·rw [C3 t D ty e d N j F (m+1) nv g _ n cap u];simp only [BZ];rw [q1];rfl
       ·have:=VR.slice (ρ:=ρ.upd h.nx ⟨base.cb,base.co+off,base.csz⟩) h.nx 0 (n+(m+1)) d.size cap _ (Ren.upd_same _ _ _) u (by simp only [n0];omega)
        simpa using this
      ·
       have hov:=AU E.P
       obtain ⟨l,k1,k2⟩:=DM t D ty e d N j I i2 F (m+1) nv g (some ⟨base.cb,base.co+off,none⟩) n cap (by omega) (by omega) d4 ((q.toList.drop (base.co+off)).take (n*d.size)).toArray (fun K hw=>by
        simp only [Builtin.firstCells];exact AU E.P K base.cb (base.co+off) (n*d.size) q x fz (by rw [hw];exact r1) (by rw [X];omega))
       obtain ⟨p1,p2⟩:=hr.strike b;have C:((q.toList.drop (base.co+off)).take (n*d.size)).length=n*d.size:=by simp;omega
       obtain ⟨σ,q1,q2,G⟩:=IX p1 f e (olds:=[]) (ov:=(q.toList.drop (base.co+off)).take (n*d.size)) hn (n*d.size) n (m+1) l d.size C (c:=H) (by
        intro i a hi ha;rcases M i a hi ha with ⟨Q,L⟩|⟨Q,L⟩
        ·obtain ⟨v,hv,hvr⟩:=r5 (off+i) a (by omega) L
         refine .inl ⟨v,Q,?_,hvr⟩;rw [pi,if_pos Q,l0,lv,←hv]
         congr 1;omega
        ·exact .inr ⟨Q,L⟩) (Builtin.zeroCells I.cells (l-(n+(m+1)))) (by rw [hnl,q0]) (by simp [Builtin.zeroCells,J]) k1
       refine ⟨σ,_,_,k2,G,q1,p2.trans q2 ?_⟩;exact hf
     |_=>simp [r] at ha
 |fsl b off n es base Y Z=>
  simp only [CB] at ha;cases hc:(Nat.beq d.size es&&Nat.ble (n+m) 4611686018427387904&&Nat.ble ((n+m)*d.bytes) 140737488355328) with
  |false=>simp [hc] at ha
  |true=>
   simp only [hc] at ha;obtain ⟨c12,c4⟩:=Au hc;obtain ⟨c1,c3⟩:=Au c12;have d1:=Ax c1;have d3:=C8 c3;have d4:=C8 c4;subst d1;cases m with
   |zero=>cases ha
   |succ m=>
    simp only [] at ha;cases r:h.blk.get b with
    |none=>simp [r] at ha
    |some y=>
     cases y with
     |cells O c=>
      simp only [r] at ha;cases o:CZ h b off (n*d.size) with
      |none=>simp [o] at ha
      |some olds=>
       simp only [o,C2,hS] at ha;obtain ⟨rfl,rfl⟩:=ha;unfold CZ at o;simp only [r] at o;cases p:Nat.ble (off+n*d.size) O with
       |false=>simp [p] at o
       |true=>
        simp only [p] at o;obtain ⟨l1,l2⟩:=T.range_spec c _ _ _ o;have aa:=C8 p;have f:ρ h.nx=none:=hf h.nx (IqQ _) (by simp [Aa.new])
        obtain ⟨q,x,fz,r1,X,r3,r4,r5⟩:=hr.blk b base _ Y r
        obtain ⟨l,k1,k2⟩:=DM t D ty e d N j I i2 F (m+1) nv g (some ⟨base.cb,base.co+off,none⟩) n n (by omega) (by omega) d4 ((q.toList.drop (base.co+off)).take (n*d.size)).toArray (fun K hw=>by
         simp only [Builtin.firstCells];exact AU E.P K base.cb (base.co+off) (n*d.size) q x fz (by rw [hw];exact r1) (by rw [X];omega))
        have C:((q.toList.drop (base.co+off)).take (n*d.size)).length=n*d.size:=by simp;omega
        obtain ⟨σ,q1,q2,G⟩:=IX hr f e (olds:=[]) (ov:=(q.toList.drop (base.co+off)).take (n*d.size)) hn (n*d.size) n (m+1) l d.size C (c:=.ofList (olds++news)) (by
         intro i a hi ha;rw [T.get_ofList] at ha;by_cases V:i<n*d.size
         ·rw [R2 (by omega)] at ha
          have h2:c.get (off+i)=some a:=by rw [l2 i V];exact ha
          obtain ⟨v,hv,hvr⟩:=r5 (off+i) a (by omega) h2
          refine .inl ⟨v,V,?_,hvr⟩;rw [pi,if_pos V,l0,lv,←hv]
          congr 1;omega
         ·rw [Ts (by omega),l1] at ha
          exact .inr ⟨by omega,ha⟩) (Builtin.zeroCells I.cells (l-(n+(m+1)))) (by rw [hnl,q0]) (by simp [Builtin.zeroCells,J]) k1
        exact ⟨σ,_,_,k2,G,q1,q2⟩
     |_=>simp [r] at ha
 |sliceEnd b off es ad=>
  simp only [CB] at ha;cases hc:(Nat.beq d.size es&&Ez news&&Nat.ble (0+m) 4611686018427387904&&Nat.ble ((0+m)*d.bytes) 140737488355328) with
  |false=>simp only [hc] at ha;cases ha
  |true=>
   simp only [hc] at ha;obtain ⟨A,c4⟩:=Au hc;obtain ⟨c12,c3⟩:=Au A;obtain ⟨c1,c2⟩:=Au c12;have d1:=Ax c1;have d3:=C8 c3;have d4:=C8 c4;subst d1;cases m with
   |zero=>
    simp only [C2,hS] at ha;obtain ⟨rfl,rfl⟩:=ha
    have S:nv=[]:=by
     have x:=hn.1;rw [hnl] at x;simpa using x.symm
    subst S;refine Bt hr ⟨.slice (some ad) 0 0,?_,.sliceEnd b off d.size ad⟩;rw [C3 t D ty e d N j F 0 [] g _ 0 0 (by omega)]
    simp [storeCells]
   |succ m=>
    simp only [] at ha;cases r:h.blk.get b with
    |none=>simp [r] at ha
    |some y=>
     cases y with
     |cells O c=>
      simp only [r] at ha
      have B:∃H,a=.slice h.nx 0 (0+(m+1)) d.size∧h'=(h.strike b).new (.cells (0*d.size+news.length) H)∧
        ∀i a,i<0+news.length→H.get i=some a→news[i]?=some a:=by
       cases W:(Nat.beq off 0&&Nat.beq (0*d.size) O) with
       |true=>
        simp only [W,C2,hS] at ha;obtain ⟨rfl,rfl⟩:=ha;refine ⟨_,rfl,rfl,?_⟩;intro i a hi ha;rw [FN] at ha;rw [if_pos (by simp only [Nat.zero_mul];omega)] at ha
        simpa using ha
       |false=>
        simp only [W] at ha;cases o:CZ h b off (0*d.size) with
        |none=>simp only [o] at ha;cases ha
        |some olds=>
         simp only [o,C2,hS] at ha;obtain ⟨rfl,rfl⟩:=ha
         have ho:olds=[]:=by
          unfold CZ at o;simp only [r,Nat.zero_mul] at o;cases p:Nat.ble (off+0) O with
          |false=>simp only [p] at o;cases o
          |true=>simp only [p,T.range,C2] at o;exact o.symm
         subst ho;refine ⟨_,rfl,rfl,?_⟩;intro i a hi ha;rw [T.get_ofList] at ha;simpa using ha
      clear ha;obtain ⟨H,rfl,rfl,M⟩:=B;have f:ρ h.nx=none:=hf h.nx (IqQ _) (by simp [Aa.new,Aa.strike])
      obtain ⟨l,k1,k2⟩:=DM t D ty e d N j I i2 F (m+1) nv g (some ad) 0 0 (by omega) (by omega) d4 #[] (fun K hw=>by simp [Builtin.firstCells,Go.loadCells,loadCellsFrom])
      obtain ⟨p1,p2⟩:=hr.strike b
      obtain ⟨σ,q1,q2,G⟩:=IX p1 f e (olds:=[]) (ov:=[]) hn 0 0 (m+1) l d.size rfl (c:=H) (by
       intro i a hi ha;exact .inr ⟨Aec _,by simpa using M i a hi ha⟩) (Builtin.zeroCells I.cells (l-(0+(m+1)))) (by simp [hnl]) (by simp [Builtin.zeroCells,J]) k1
      simp only [Nat.zero_mul] at hf ⊢;exact ⟨σ,_,_,k2,G,q1,p2.trans q2 hf⟩
     |_=>simp [r] at ha
 |_=>simp [CB] at ha
theorem Mz (hr:HR ρ h.blk.get w) {t t' ty:TypeId} {s x a:AV} {B C:Value} {h':Aa} (H:VR ρ s B) (I:VR ρ x C) (ha:Jg E t t' s x h=some (a,h')) (hf:AX ρ h.nx h'.nx) :
  A4 E ρ h h' w (Builtin.append_ #[t,t'] ty #[B,C]) a:=by
 unfold Jg at ha;cases r:E.desc t with
 |none=>simp [r] at ha
 |some d=>
  cases d with
  |slice e=>
   simp only [r] at ha;cases hi:E.ty.get e with
   |none=>simp [hi] at ha
   |some g=>
    simp only [hi] at ha;cases u:E.zero e with
    |none=>simp [u] at ha
    |some z=>
     simp only [u] at ha;cases l:Nat.beq z.cells.length g.size with
     |false=>simp [l] at ha
     |true=>
     simp only [l] at ha;have j:=Ax l
     have f:∀(o:TypeDesc),E.desc t'=some o→((∃D,o=.slice D)∨o=.string)→(match Nn x with
       |none=>none
       |some m=>match Pp h g.size m x with
        |none=>none
        |some news=>CB g s m news h)=some (a,h')→A4 E ρ h h' w (Builtin.append_ #[t,t'] ty #[B,C]) a:=by
      intro o b L y;cases F:Nn x with
      |none=>simp [F] at y
      |some m=>
       simp only [F] at y;cases p:Pp h g.size m x with
       |none=>simp [p] at y
       |some news=>
        simp only [p] at y;obtain ⟨S,M,N,O,Q⟩:=bQ hr E.P I F (IqQ m) p;exact Kz hE hr (hE.und r) hi u j H (.cells o (hE.und b) L O Q) M N y hf
     cases b:E.desc t' with
     |none=>simp [b] at ha
     |some o=>
      cases o with
      |int k=>
       simp only [b] at ha;cases hn:D3 x with
       |none=>simp [hn] at ha
       |some m=>
        simp only [hn] at ha;cases hc:(Nat.ble m 1048576&&Nat.ble (m*g.bytes) 140737488355328) with
        |false=>simp [hc] at ha
        |true=>
         simp only [hc] at ha;obtain ⟨c1,c2⟩:=Au hc;obtain ⟨R,rfl⟩:=C1 I hn;obtain ⟨V,q,i1,i2,J⟩:=GF u;rw [hi] at i1;cases i1;have K:=(AZ ρ J).cells (Cf J);have A:q.cells.size=g.size:=by have:=K.1;simp at this;omega
         have hv:=M7 K m q.cells (.inr rfl)
         have G:((Array.range (m*z.cells.length)).map (q.cells[· % q.cells.size]!)).toList.toArray=Builtin.zeroCells q.cells m:=by
          rw [Array.toArray_toList,Builtin.zeroCells,A,j]
         refine Kz hE hr (hE.und r) hi u j H (.zeros k R (hE.und b) rfl (C8 c1) (C8 c2) q i2 A G) hv (by rw [Ch,j]) ha hf
      |slice D=>simp only [b] at ha;exact f _ b (.inl ⟨D,rfl⟩) ha
      |string=>simp only [b] at ha;exact f _ b (.inr rfl) ha
      |_=>simp [b] at ha
  |_=>simp [r] at ha
end
end Go.AE
namespace Go.AE
variable [Gl:AC]
variable [U:Unk]
section
variable {E:Env} (hE:OK E) {ρ:Ren} {w:World}
include hE
theorem KQ {d:Nat} (ih:∀(t:TypeId) (x y:AV) (r:Bool) (o p:Value),aeq E d t x y=some r→VR ρ x o→VR ρ y p→(Op.equalIn d t o p).run E.P w=.ok r w)
  {j k:List AV} {c e:List Value} (q:VL ρ j c) (s:VL ρ k e):∀{fs:List Field} {r:Bool},eqFields E (aeq E d) j k fs=some r→
  (Op.eqFields d c.toArray e.toArray fs).run E.P w=.ok r w
 |[],r,h=>by simp only [eqFields,C2] at h;subst h;simp [Op.eqFields]
 |f::fs,r,h=>by
  simp only [eqFields] at h;cases l:(f.name == "_") with
  |true=>simp [l] at h
  |false=>
   simp only [l] at h;have m:f.name≠ "_":=by simpa using l
   cases g:CC E f.type j f.offset with
   |none=>simp [g] at h
   |some a=>
    cases n:CC E f.type k f.offset with
    |none=>simp [g,n] at h
    |some b=>
     simp only [g,n] at h;obtain ⟨D,u,v⟩:=hE.run_part g q w;obtain ⟨F,z,A⟩:=hE.run_part n s w;cases i:aeq E d f.type a b with
     |none=>simp [i] at h
     |some B=>
      have C:=ih _ _ _ _ _ _ i v A;simp only [Op.eqFields,ne_eq,m,not_false_eq_true,if_true,F9,u,z,C,E1];cases B with
      |true=>simp only [i] at h;simp only [Bool.not_true,ei,ws];exact KQ ih q s h
      |false=>simp only [i,C2] at h;subst h;simp
theorem Nc {d:Nat} (ih:∀(t:TypeId) (x y:AV) (r:Bool) (p q:Value),aeq E d t x y=some r→VR ρ x p→VR ρ y q→(Op.equalIn d t p q).run E.P w=.ok r w)
  {l m:List AV} {c f:List Value} (s:VL ρ l c) (u:VL ρ m f) {e:TypeId} {n:Nat}:∀{k i:Nat} {r:Bool},I5 E (aeq E d) e n l m k i=some r→
  (Op.eqItems d e n c.toArray f.toArray (List.range' i k)).run E.P w=.ok r w
 |0,i,r,h=>by simp only [I5,C2] at h;subst h;simp [Op.eqItems]
 |k+1,i,r,h=>by
  simp only [I5] at h;cases g:CC E e l (i*n) with
  |none=>simp [g] at h
  |some a=>
   cases o:CC E e m (i*n) with
   |none=>simp [g,o] at h
   |some b=>
    simp only [g,o] at h;obtain ⟨F,v,z⟩:=hE.run_part g s w;obtain ⟨G,A,B⟩:=hE.run_part o u w;cases j:aeq E d e a b with
    |none=>simp [j] at h
    |some C=>
     have D:=ih _ _ _ _ _ _ j z B;simp only [List.range'_succ,Op.eqItems,F9,v,A,D,E1];cases C with
     |true=>simp only [j] at h;simp only [Bool.not_true,ei,ws];exact Nc ih s u h
     |false=>simp only [j,C2] at h;subst h;simp
set_option maxHeartbeats 1000000 in
theorem T0:∀(d:Nat) (t:TypeId) (x y:AV) (r:Bool) (p q:Value),aeq E d t x y=some r→VR ρ x p→VR ρ y q→(Op.equalIn d t p q).run E.P w=.ok r w:=by
 intro d
 induction d with
 |zero=>intro t x y r p q h;simp [aeq] at h
 |succ d ih=>
  intro t x y r p q h f c;simp only [aeq] at h;cases n:E.desc t with
  |none=>rw [n] at h;cases h
  |some I=>
   rw [n] at h;have g:=hE.run_und n w;have fin:∀b:Bool,some b=some r→b=r:=fun b e=>by simpa using e
   cases I with
   |bool=>
    cases f<;>first | (cases h;done)|skip
    cases c<;>first | (cases h;done)|skip
    rw [←fin _ h];simp [Op.equalIn,g]
   |int N=>
    cases f<;>first | (cases h;done)|skip
    cases c<;>first | (cases h;done)|skip
    rename_i k a J b;by_cases H:k=J
    ·subst H;simp only [decide_true,C2] at h;subst h;simp [Op.equalIn,g]
    ·simp [H] at h
   |string=>
    cases f<;>first | (cases h;done)|skip
    cases c<;>first | (cases h;done)|skip
    rename_i s O;simp only [C2] at h;subst h;rw [Cq];simp only [Op.equalIn,F9,g,E1,LE];rw [beq_toListBytes]
   |pointer e=>
    cases f<;>first | (cases h;done)|skip
    all_goals
     cases c<;>first | (cases h;done)|skip
    all_goals (rw [←fin _ h];simp [Op.equalIn,g])
   |interface Q=>
    cases f<;>first | (cases h;done)|skip
    ·rename_i tx a v K;cases c<;>first | (cases h;done)|skip
     ·rename_i ty b R A;simp only [] at h;cases u:Nat.beq tx ty with
      |false=>
       simp only [u,C2] at h;subst h;have:=WY u;simp [Op.equalIn,g,this]
      |true=>
       simp only [u] at h;have:=Ax u;subst this;cases hi:E.ty.get tx with
       |none=>simp [hi] at h
       |some i=>
        simp only [hi] at h;cases B:i.comparable with
        |false=>simp [B] at h
        |true=>
         simp only [B] at h;have:=ih _ _ _ _ _ _ h K A;simp [Op.equalIn,g,hE.run_info hi,B,this]
     ·rw [←fin _ h];simp [Op.equalIn,g]
    ·cases c<;>first | (cases h;done)|skip
     all_goals (rw [←fin _ h];simp [Op.equalIn,g])
   |struct fs=>
    cases f<;>first | (cases h;done)|skip
    cases c<;>first | (cases h;done)|skip
    rename_i L l a1 a2 M m C D;simp only [] at h;cases F:E.P.stoodInHeld t with
    |true=>simp [F] at h
    |false=>
     simp only [F] at h;have j:=hE.und n;have o:E.P.fieldsOf t=fs:=by simp [Program.fieldsOf,j]
     rw [run_equalIn_struct w d t l.toArray m.toArray (by rw [o];exact j) F,o]
     exact KQ hE ih ⟨a1,a2⟩ ⟨C,D⟩ h
   |array len e=>
    cases f<;>first | (cases h;done)|skip
    cases c<;>first | (cases h;done)|skip
    rename_i L l a1 a2 M m C D;simp only [] at h;cases z:E.has e with
    |false=>simp [z] at h
    |true=>
     simp only [z] at h;unfold Env.has at z;cases hi:E.ty.get e with
     |none=>simp [hi] at z
     |some i=>
      have G:E.P.cellsOf e=E.size e:=by simp [Program.cellsOf,hE.ty e i hi,Env.size,hi]
      rw [run_equalIn_array w d l.toArray m.toArray (hE.und n) (hE.ty e i hi),G,List.range_eq_range'];exact Nc hE ih ⟨a1,a2⟩ ⟨C,D⟩ h
   |slice e=>
    cases f<;>first | (cases h;done)|skip
    all_goals
     cases c<;>first | (cases h;done)|skip
    all_goals (rw [←fin _ h];simp [Op.equalIn,g])
   |map k e=>
    cases f<;>first | (cases h;done)|skip
    all_goals
     cases c<;>first | (cases h;done)|skip
    all_goals (rw [←fin _ h];simp [Op.equalIn,g])
   |func S T v=>
    cases f<;>first | (cases h;done)|skip
    all_goals
     cases c<;>first | (cases h;done)|skip
    all_goals (rw [←fin _ h];simp [Op.equalIn,g])
   |_=>cases f<;>first | (cases h;done) | (cases c<;>(cases h;done))
end
end Go.AE
namespace Go.AE
variable [Gl:AC]
variable [U:Unk]
theorem Dq (k:IntKind) (x:Int):(BitVec.ofInt k.bits x).toNat=bits k x:=by
 simp [bits,BitVec.toNat_ofInt]
section
variable {E:Env} (hE:OK E) {ρ:Ren} {h:Aa} {w:World}
theorem JO {f:BinOp} {k:IntKind} {a b:Int} {r:AV} (t:TypeId) (i:f≠.shl) (g:f≠.shr) (c:CS f k a b=some r) :
    ∃v,(binOp f t (.int k a) (.int k b)).run E.P w=.ok v w∧VR ρ r v:=by
  cases f<;>simp only [CS] at c<;>first | (cases c;done)|exact absurd rfl i|exact absurd rfl g|skip
  case quo=>
    cases d:(b==0) with
    |true=>simp [d] at c
    |false=>
      simp only [d,C2] at c;have:b≠0:=by simpa using d
      subst c;exact ⟨_,by simp [binOp,Op.intDiv,this],.int _ _⟩
  case rem=>
    cases d:(b==0) with
    |true=>simp [d] at c
    |false=>
      simp only [d,C2] at c;have:b≠0:=by simpa using d
      subst c;exact ⟨_,by simp [binOp,Op.intDiv,this],.int _ _⟩
  case and=>
    simp only [C2] at c;subst c;refine ⟨_,by simp only [binOp,Op.intBits,ne_eq,not_true_eq_false,ws,LE];rfl,?_⟩
    rw [BitVec.toNat_and,Dq,Dq];exact .int _ _
  case or=>
    simp only [C2] at c;subst c;refine ⟨_,by simp only [binOp,Op.intBits,ne_eq,not_true_eq_false,ws,LE];rfl,?_⟩
    rw [BitVec.toNat_or,Dq,Dq];exact .int _ _
  case xor=>
    simp only [C2] at c;subst c;refine ⟨_,by simp only [binOp,Op.intBits,ne_eq,not_true_eq_false,ws,LE];rfl,?_⟩
    rw [BitVec.toNat_xor,Dq,Dq];exact .int _ _
  all_goals
    simp only [C2] at c;subst c;refine ⟨_,by simp only [binOp,Op.intArith,Op.intCmp,ne_eq,not_true_eq_false,ws,LE];rfl,?_⟩
    first
      |exact .int _ _
      |exact .bool _
      | (rename_i pos e;have h:=VR.sb (ρ:=ρ) (!pos) e;have j:(!(Ah U.V e==pos))=(Ah U.V e == !pos):=by cases Ah U.V e<;>cases pos<;>rfl
         rw [j];exact h)
theorem J2 (d:Nat) (t:TypeId) (x y:AV) (a:x.isSym=true):aeq E d t x y=none:=by
 cases d with
 |zero=>rfl
 |succ d=>
  simp only [aeq];cases E.desc t with
  |none=>rfl
  |some b=>cases x<;>first | (cases a;done) | (cases b<;>rfl)
theorem Kc (d:Nat) (t:TypeId) (x y:AV) (a:y.isSym=true):aeq E d t x y=none:=by
 cases d with
 |zero=>rfl
 |succ d=>
  simp only [aeq];cases E.desc t with
  |none=>rfl
  |some b=>cases y<;>first | (cases a;done) | (cases b<;>cases x<;>rfl)
theorem WU {d:BinOp} {k k':IntKind} {a b:Int} {r:AV} (t:TypeId) (f:d=.shl∨d=.shr) (c:M5 d k a b=some r) :
  ∃v,(binOp d t (.int k a) (.int k' b)).run E.P w=.ok v w∧VR ρ r v:=by
 unfold M5 at c;by_cases e:b<0
 ·simp [e] at c
 ·simp only [e,decide_false] at c;rcases f with rfl|rfl
  ·simp only [C2] at c;subst c;exact ⟨_,by simp only [binOp,Op.shift,e,ws,LE],.int _ _⟩
  ·simp only [C2] at c;subst c;exact ⟨_,by simp only [binOp,Op.shift,e,ws,LE],.int _ _⟩
theorem NX {e:BinOp} {s a:ByteArray} {r:AV} (t:TypeId) (c:PC e s.data.toList.length (AB s.data.toList) a.data.toList.length (AB a.data.toList)=some r) :
  ∃v,(binOp e t (.string s) (.string a)).run E.P w=.ok v w∧VR ρ r v:=by
 have b:=Po (s.data.toList.length+1) s.data.toList a.data.toList (Nat.lt_succ_self _);have g:=ByteArray.toList_eq s;have i:=ByteArray.toList_eq a;cases e<;>simp only [PC] at c<;>first | (cases c;done)|skip
 case add=>
  cases f:Nat.ble (s.data.toList.length+a.data.toList.length) 4611686018427387904 with
  |false=>simp only [f] at c;cases c
  |true=>
   simp only [f,C2] at c;subst c;have l:=C8 f;have m:s.size=s.data.toList.length:=by simp
   have j:a.size=a.data.toList.length:=by simp
   refine ⟨.string (s++a),?_,?_⟩
   ·have d:¬(((s.size+a.size:Nat):Int)>IntKind.i64.max):=by
     simp only [IntKind.max,IntKind.signed,IntKind.bits];omega
    simp only [binOp,Op.stringOp];rw [if_neg d];rfl
   ·have k:=VR.str (ρ:=ρ) (s++a);have n:(s++a).data.toList=s.data.toList++a.data.toList:=by simp [ByteArray.data_append]
    rw [n,la,FJ,←Pv] at k;exact k
 all_goals
  simp only [C2] at c;subst c;refine ⟨_,by simp only [binOp,Op.stringOp,LE];rfl,?_⟩
  first
   | (rw [Cq];exact .bool _)
   | (rw [b,Cq,g,i];exact .bool _)
   | (rw [b,g,i];exact .bool _)
theorem iI {b:UnOp} {x r:AV} {c:Value} (d:VR ρ x c) (a:unA b x=some r):∃v,(Op.unary b c).run E.P w=.ok v w∧VR ρ r v:=by
  cases b<;>cases d<;>simp only [unA] at a<;>first | (cases a;done)|skip
  all_goals
    simp only [C2] at a;subst a;refine ⟨_,by simp only [Op.unary,Op.intArith,LE];rfl,?_⟩
    first
      |exact .int _ _
      |exact .bool _
      | (rename_i pos e;have h:=VR.sb (ρ:=ρ) (!pos) e;have f:(!(Ah U.V e==pos))=(Ah U.V e == !pos):=by cases Ah U.V e<;>cases pos<;>rfl
         rw [f];exact h)
theorem B2 {e:BinOp} {t:TypeId} {x y:Operand} {a b:Value} (f:¬(a=.nilIface∧b=.nilIface)) (g:(∃c,a=.agg c)→(∃d,b=.agg d)→E.P.eqGuardType E.P.depth t=false) :
  (eqGuard e t x y a b).run E.P w=.ok () w:=by
 unfold eqGuard;cases e<;>(try (simp;done))
 all_goals
  cases a<;>cases b<;>first
   | (simp;done)
   | (exact absurd ⟨rfl,rfl⟩ f)
   | (rename_i c d;simp [g ⟨c,rfl⟩ ⟨d,rfl⟩])
theorem OX (d:Nat) (t:TypeId) (y:AV):aeq E d t .top y=none:=by
 cases d with
 |zero=>rfl
 |succ d=>
  simp only [aeq];cases E.desc t with
  |none=>rfl
  |some a=>cases a<;>rfl
theorem NG (d:Nat) (t:TypeId) (x:AV):aeq E d t x .top=none:=by
 cases d with
 |zero=>rfl
 |succ d=>
  simp only [aeq];cases E.desc t with
  |none=>rfl
  |some a=>cases a<;>cases x<;>rfl
theorem Eh (t:TypeId) (e f:Value) (i:¬∃k a g b,e=.int k a∧f=.int g b) (j:¬∃k a g b,e=.float k a∧f=.float g b) (l:¬∃k a b g c d,e=.complex k a b∧f=.complex g c d) (m:¬∃a b,e=.string a∧f=.string b) :
  binOp .eql t e f=(do pure (.bool (←Op.equal t e f)))∧binOp .neq t e f=(do pure (.bool (!(←Op.equal t e f)))):=by
 cases e<;>cases f<;>first
  |exact ⟨rfl,rfl⟩
  |exact absurd ⟨_,_,_,_,rfl,rfl⟩ i
  |exact absurd ⟨_,_,_,_,rfl,rfl⟩ j
  |exact absurd ⟨_,_,_,_,_,_,rfl,rfl⟩ l
  |exact absurd ⟨_,_,rfl,rfl⟩ m
include hE
theorem Zj {t:TypeId} {x y:AV} {j m:Value} {b:Bool} (n:VR ρ x j) (q:VR ρ y m) (f:aeq E 10000 t x y=some b) (hi:¬∃k a k' b,x=.int k a∧y=.int k' b) (r:¬∃l a s b,x=.str l a∧y=.str s b) :
  (binOp .eql t j m).run E.P w=.ok (.bool b) w∧(binOp .neq t j m).run E.P w=.ok (.bool (!b)) w:=by
 have g:x≠.top:=by rintro rfl;rw [OX] at f;cases f
 have o:y≠.top:=by rintro rfl;rw [NG] at f;cases f
 have p:=T0 (w:=w) hE 10000 t x y b j m f n q
 obtain ⟨u,v⟩:=Eh t j m (by
   rintro ⟨k,a,k',c,rfl,rfl⟩
   cases n with
   |top=>exact g rfl
   |si k e=>rw [J2 _ _ _ _ rfl] at f;cases f
   |stamp=>rw [J2 _ _ _ _ rfl] at f;cases f
   |int=>cases q with
    |top=>exact o rfl
    |stamp=>rw [Kc _ _ _ _ rfl] at f;cases f
    |si k e=>rw [Kc _ _ _ _ rfl] at f;cases f
    |int=>exact hi ⟨_,_,_,_,rfl,rfl⟩) (by
   rintro ⟨k,a,k',c,rfl,rfl⟩
   cases n;exact g rfl) (by
   rintro ⟨k,a,z,k',c,d,rfl,rfl⟩
   cases n;exact g rfl) (by
   rintro ⟨a,c,rfl,rfl⟩
   cases n with
   |top=>exact g rfl
   |ss i=>rw [J2 _ _ _ _ rfl] at f;cases f
   |str=>cases q with
    |top=>exact o rfl
    |ss i=>rw [Kc _ _ _ _ rfl] at f;cases f
    |str=>exact r ⟨_,_,_,_,rfl,rfl⟩)
 rw [u,v];simp only [Op.equal,Op.maxDepth,F9,p,E1,LE];exact ⟨trivial,trivial⟩
theorem Wc {c:BinOp} {t:TypeId} {ox oy:Operand} {x y r:AV} {p q:Value} (z:VR ρ x p) (A:VR ρ y q) (d:TG E c t x y=some r) :
  ∃v,(do eqGuard c t ox oy p q;binOp c t p q:Sem Value).run E.P w=.ok v w∧VR ρ r v:=by
 have f:(¬∃k a k' b,x=.int k a∧y=.int k' b)→(¬∃l a l' b,x=.str l a∧y=.str l' b)→(¬(x=.nilIface∧y=.nilIface))→((∃B,x=.agg B)→(∃I,y=.agg I)→E.P.eqGuardType E.P.depth t=false)→
   (match c with
    |.eql=>(aeq E 10000 t x y).map AV.bool
    |.neq=>(aeq E 10000 t x y).map fun b=>AV.bool (!b)
    |_=>none)=some r→∃v,(do eqGuard c t ox oy p q;binOp c t p q:Sem Value).run E.P w=.ok v w∧VR ρ r v:=by
  intro J K O Q u
  have L:∃b,aeq E 10000 t x y=some b:=by
   cases j:aeq E 10000 t x y with
   |some b=>exact ⟨b,rfl⟩
   |none=>cases c<;>simp [j] at u
  obtain ⟨b,j⟩:=L;have C:x≠.top:=by rintro rfl;rw [OX] at j;cases j
  have D:y≠.top:=by rintro rfl;rw [NG] at j;cases j
  have m:(eqGuard c t ox oy p q).run E.P w=.ok () w:=B2 (by
    rintro ⟨rfl,rfl⟩
    cases z with
    |top=>exact C rfl
    |nilIface=>cases A with
     |top=>exact D rfl
     |nilIface=>exact O ⟨rfl,rfl⟩) (by
    rintro ⟨B,rfl⟩ ⟨I,rfl⟩
    cases z with
    |top=>exact absurd rfl C
    |agg=>cases A with
     |top=>exact absurd rfl D
     |agg=>exact Q ⟨_,rfl⟩ ⟨_,rfl⟩)
  obtain ⟨n,o⟩:=Zj (w:=w) hE z A j J K;rw [j] at u;cases c<;>simp only [pl,C2] at u<;>first | (cases u;done)|skip
  ·subst u;exact ⟨_,by simp only [F9,m,E1,n],.bool _⟩
  ·subst u;exact ⟨_,by simp only [F9,m,E1,o],.bool _⟩
 have F:∀{a b:Value},(¬(a=.nilIface∧b=.nilIface))→(¬∃B,a=.agg B)→(eqGuard c t ox oy a b).run E.P w=.ok () w:=
  fun J K=>B2 J (fun h _=>absurd h K)
 cases x with
 |int k a=>
  cases y with
  |int k' b=>
   cases z;cases A;have m:=F (a:=.int k a) (b:=.int k' b) (by simp) (by simp)
   by_cases i:c=.shl∨c=.shr
   ·have g:M5 c k a b=some r:=by rcases i with rfl|rfl<;>simpa [TG] using d
    obtain ⟨v,n,o⟩:=WU (E:=E) (w:=w) (ρ:=ρ) (k':=k') t i g;exact ⟨v,by simp only [F9,m,E1,n],o⟩
   ·have G:c≠.shl:=fun e=>i (.inl e)
    have H:c≠.shr:=fun e=>i (.inr e)
    have g:(match decide (k=k') with|true=>CS c k a b|false=>none)=some r:=by
     cases c<;>first|exact d|exact absurd rfl G|exact absurd rfl H
    by_cases N:k=k'
    ·subst N;simp only [decide_true] at g;obtain ⟨v,n,o⟩:=JO (E:=E) (w:=w) (ρ:=ρ) t G H g;exact ⟨v,by simp only [F9,m,E1,n],o⟩
    ·simp [N] at g
  |_=>exact f (by simp) (by simp) (by simp) (by simp) (by cases c<;>exact d)
 |str l a=>
  cases y with
  |str l' b=>
   cases z;cases A;rename_i s R;have m:=F (a:=.string s) (b:=.string R) (by simp) (by simp)
   simp only [TG] at d;obtain ⟨v,n,o⟩:=NX (E:=E) (w:=w) (ρ:=ρ) t d;exact ⟨v,by simp only [F9,m,E1,n],o⟩
  |_=>exact f (by simp) (by simp) (by simp) (by simp) (by cases c<;>exact d)
 |agg B=>
  cases y with
  |agg I=>
   simp only [TG] at d;cases M:E.P.eqGuardType E.P.depth t with
   |true=>simp [M] at d
   |false=>simp only [M] at d;exact f (by simp) (by simp) (by simp) (fun _ _=>M) (by cases c<;>exact d)
  |_=>exact f (by simp) (by simp) (by simp) (by simp) (by cases c<;>exact d)
 |nilIface=>
  cases y with
  |nilIface=>simp [TG] at d
  |_=>exact f (by simp) (by simp) (by simp) (by simp) (by cases c<;>exact d)
 |_=>exact f (by simp) (by simp) (by simp) (by simp) (by cases c<;>exact d)
end
end Go.AE
namespace Go.AE
variable [Gl:AC]
theorem SE.same_eq {a b:SE} (h:a.same b=true):a=b:=by
 induction a generalizing b<;>cases b<;>simp only [SE.same,F4,ll,beq_iff_eq,ei,Nat.beq_eq] at h<;>grind
theorem dX {a b:Fn} (h:ic a b=true):a=b:=by
 cases a<;>cases b<;>simp_all [ic]
mutual
theorem D8:∀(a b:AV),By a b=true→a=b
 |.top,b,h=>by cases b<;>simp_all [By]
 |.bool _,b,h=>by cases b<;>simp_all [By]
 |.int _ _,b,h=>by cases b<;>simp_all [By]
 |.str _ _,b,h=>by cases b<;>simp_all [By]
 |.ptr0,b,h=>by cases b<;>simp_all [By]
 |.ptr _ _,b,h=>by cases b<;>simp_all [By]
 |.slice0,b,h=>by cases b<;>simp_all [By]
 |.slice _ _ _ _,b,h=>by cases b<;>simp_all [By]
 |.map0,b,h=>by cases b<;>simp_all [By]
 |.map _,b,h=>by cases b<;>simp_all [By]
 |.func fn f c,b,h=>by
  cases b with
  |func i j o=>
   simp only [By,F4] at h;rw [dX h.1.1,Fk f j h.1.2,Fk c o h.2]
  |_=>simp [By] at h
 |.nilFunc,b,h=>by cases b<;>simp_all [By]
 |.iface t v,b,h=>by
  cases b with
  |iface q r=>
   simp only [By,F4] at h;rw [L2 h.1,D8 v r h.2]
  |_=>simp [By] at h
 |.nilIface,b,h=>by cases b<;>simp_all [By]
 |.agg l,b,h=>by
  cases b with
  |agg g=>
   simp only [By] at h;rw [Fk l g h]
  |_=>simp [By] at h
 |.tuple l,b,h=>by
  cases b with
  |tuple g=>
   simp only [By] at h;rw [Fk l g h]
  |_=>simp [By] at h
 |.sb p e,b,h=>by
  cases b with
  |sb y d=>
   simp only [By,F4] at h;rw [eq_of_beq h.1,SE.same_eq h.2]
  |_=>simp [By] at h
 |.si k e,b,h=>by
  cases b with
  |si z d=>
   simp only [By,F4,ll] at h;rw [h.1,SE.same_eq h.2]
  |_=>simp [By] at h
 |.ss e,b,h=>by
  cases b with
  |ss d=>
   simp only [By] at h;rw [SE.same_eq h]
  |_=>simp [By] at h
 |.dat t e,b,h=>by
  cases b with
  |dat q d=>
   simp only [By,F4] at h;rw [L2 h.1,SE.same_eq h.2]
  |_=>simp [By] at h
 |.dptr _ _ _ _,b,h=>by cases b<;>simp [By] at h
 |.asl s A n nl,b,h=>by
  cases b with
  |asl u w B x=>
   simp only [By,F4] at h;rw [L2 h.1.1.1,L2 h.1.1.2,SE.same_eq h.1.2,SE.same_eq h.2]
  |_=>simp [By] at h
 |.eslc e,b,h=>by
  cases b with
  |eslc d=>
   simp only [By] at h;rw [SE.same_eq h]
  |_=>simp [By] at h
 |.aptr _ _ _ _,b,h=>by cases b<;>simp [By] at h
 |.nmap s e,b,h=>by
  cases b with
  |nmap u d=>
   simp only [By,F4] at h;rw [L2 h.1,SE.same_eq h.2]
  |_=>simp [By] at h
theorem Fk:∀(a b:List AV),HK a b=true→a=b
 |[],b,h=>by cases b<;>simp_all [HK]
 |a::l,b,h=>by
  cases b with
  |nil=>simp [HK] at h
  |cons b m=>
   simp only [HK,F4] at h;rw [D8 a b h.1,Fk l m h.2]
end
theorem XW {c:Type} {d:c→c→Bool} (e:∀a b,d a b=true→a=b) {a b:Option c} (h:eqO d a b=true):a=b:=by
 cases a<;>cases b<;>simp [eqO] at h ⊢
 exact e _ _ h
theorem Ud {c:Type} {e:c→c→Bool} (d:∀a b,e a b=true→a=b):∀(a b:T c),eqT e a b=true→a=b
 |.nil,.nil,_=>rfl
 |.node v l r,.node i f g,h=>by
  simp only [eqT,F4] at h;rw [XW d h.1.1,Ud d l f h.1.2,Ud d r g h.2]
 |.nil,.node _ _ _,h=>by simp [eqT] at h
 |.node _ _ _,.nil,h=>by simp [eqT] at h
theorem UP:∀(a b:List AA),WX a b=true→a=b
 |[],[],_=>rfl
 |a::l,b::m,h=>by
  simp only [WX,F4] at h;obtain ⟨⟨⟨c,d⟩,e⟩,f⟩:=h;cases a;cases b;simp only at c d e;rw [D8 _ _ c,D8 _ _ d,L2 e,UP l m f]
 |[],_::_,h=>by simp [WX] at h
 |_::_,[],h=>by simp [WX] at h
theorem QZ {a b:Am} (h:Vu a b=true):a=b:=by
 cases a<;>cases b<;>simp only [Vu,F4,ei] at h
 ·rw [L2 h.1,Ud D8 _ _ h.2]
 ·rw [L2 h.1,SE.same_eq h.2]
 ·rw [L2 h.1,UP _ _ h.2]
 ·rw [L2 h.1.1,L2 h.1.2,SE.same_eq h.2]
variable [U:Unk]
section
variable {V:Val} {a b:SE}
theorem B0 {n:Int}:Ac V (.c n)=n:=rfl
theorem LV {k:IntKind}:Ac V (.conv k a)=k.wrap (Ac V a):=rfl
theorem DG {c:BinOp} {k:IntKind}:Ac V (.arith c k a b)=match CS c k (Ac V a) (Ac V b) with
  |some (.int _ n)=>n
  |_=>0:=rfl
theorem CR:Ac V (.lenS a)=((AT V a).data.toList.length:Nat):=rfl
theorem Aq:Ac V (.lenL a)=((Ab V a).rows.length:Nat):=rfl
theorem Ay:Ah V (.lss a b)=decide (Ac V a<Ac V b):=rfl
theorem B7:Ah V (.eql a b)=(Ac V a==Ac V b):=rfl
theorem JU {l c:Nat}:Ah V (.eqS a l c)=strEq (AT V a).data.toList.length (AB (AT V a).data.toList) l c:=rfl
theorem M0:Ah V (.eqSS a b)=strEq (AT V a).data.toList.length (AB (AT V a).data.toList) (AT V b).data.toList.length (AB (AT V b).data.toList):=rfl
end
theorem SE.same_ok {a b:SE} (h:a.same b=true):a=b:=by
 induction a generalizing b<;>cases b<;>simp only [SE.same,F4,ll,beq_iff_eq,ei,Nat.beq_eq] at h<;>grind
theorem SB.same_ok {a b:SB} (h:a.same b=true):a=b:=SE.same_ok h
def LoB (o:Option Int) (n:Int):Prop:=∀l,o=some l→l≤n
def HiB (o:Option Int) (n:Int):Prop:=∀l,o=some l→n≤l
theorem LoB.max {a b:Option Int} {n:Int} (h:LoB a n) (k:LoB b n):LoB (R8 a b) n:=by
 intro l r;unfold R8 at r;split at r
 ·rename_i a b;have I:=h a rfl;have J:=k b rfl;cases t:decide (a≤b)<;>rw [t] at r<;>cases r<;>assumption
 ·exact h l r
 ·exact k l r
theorem HiB.min {a b:Option Int} {n:Int} (h:HiB a n) (k:HiB b n):HiB (W3 a b) n:=by
 intro l r;unfold W3 at r;split at r
 ·rename_i a b;have I:=h a rfl;have J:=k b rfl;cases t:decide (a≤b)<;>rw [t] at r<;>cases r<;>assumption
 ·exact h l r
 ·exact k l r
theorem LoB.some {a n:Int} (h:a≤n):LoB (some a) n:=fun l r=>by cases r;exact h
theorem HiB.some {a n:Int} (h:n≤a):HiB (some a) n:=fun l r=>by cases r;exact h
theorem LoB.none {n:Int}:LoB none n:=fun l r=>by cases r
theorem HiB.none {n:Int}:HiB none n:=fun l r=>by cases r
theorem Wv {V:Val} {e:SE} {p:SB×Bool} (d:Ah V p.1=p.2):LoB (UB e p) (Ac V e):=by
 intro l c;obtain ⟨x,b⟩:=p
 have g:∀{a:SE} {r:Int},(match a.same e with|true=>some r|false=>none)=some l→a=e∧l=r:=by
  intro a r h;split at h
  ·rename_i i;cases h;exact ⟨SE.same_ok i,rfl⟩
  ·cases h
 unfold UB at c;split at c<;>first | (cases c;done)|skip
 all_goals
  rename_i a m f;obtain ⟨rfl,rfl⟩:=g c;cases f;simp [Ay,B7,B0] at d
  first|omega | (have:=of_decide_eq_false d;omega) | (have:=of_decide_eq_true d;omega)
theorem WG {V:Val} {e:SE} {p:SB×Bool} (d:Ah V p.1=p.2):HiB (Tc e p) (Ac V e):=by
 intro l c;obtain ⟨x,b⟩:=p
 have g:∀{a:SE} {r:Int},(match a.same e with|true=>some r|false=>none)=some l→a=e∧l=r:=by
  intro a r h;split at h
  ·rename_i i;cases h;exact ⟨SE.same_ok i,rfl⟩
  ·cases h
 unfold Tc at c;split at c<;>first | (cases c;done)|skip
 all_goals
  rename_i a m f;obtain ⟨rfl,rfl⟩:=g c;cases f;simp [Ay,B7,B0] at d
  first|omega | (have:=of_decide_eq_false d;omega) | (have:=of_decide_eq_true d;omega)
theorem CV {V:Val} {e:SE}:∀{F:List (SB×Bool)},(∀e b,(e,b)∈F→Ah V e=b)→LoB (CK e F) (Ac V e)
 |[],_=>LoB.none
 |p::r,h=>LoB.max (Wv (h p.1 p.2 (by simp))) (CV fun e b a=>h e b (by simp [a]))
theorem CU {V:Val} {e:SE}:∀{F:List (SB×Bool)},(∀e b,(e,b)∈F→Ah V e=b)→HiB (CI e F) (Ac V e)
 |[],_=>HiB.none
 |p::r,h=>HiB.min (WG (h p.1 p.2 (by simp))) (CU fun e b a=>h e b (by simp [a]))
theorem GY (k:IntKind) (n:Int) (a:k.min≤n) (b:n≤k.max):k.wrap n=n:=by
 cases k<;>simp only [IntKind.wrap,IntKind.min,IntKind.max,IntKind.bits,IntKind.signed] at *<;>simp at *<;>omega
theorem TE (k:IntKind) (n:Int):k.min≤k.wrap n∧k.wrap n≤k.max:=by
 cases k<;>simp only [IntKind.wrap,IntKind.min,IntKind.max,IntKind.bits,IntKind.signed]<;>simp<;>omega
theorem CQ {V:Val}:∀x:SE,(Ab V (Ca x)).rows.length=(Ab V x).rows.length:=by
 intro x
 induction x
 case upd a i j x ih _ _=>rw [Ca,ih];simp only [Ab,D.rows,List.length_modify]
 case nilIs a b ih _=>rw [Ca,ih];simp only [Ab,D.rows]
 all_goals rfl
theorem T7 {V:Val} {n y:SE} (h:LC n y=true):Ac V n=Ac V (.lenL y):=by
 cases n<;>simp only [LC,ei] at h
 rename_i x;rw [Aq,Aq,←CQ x,←CQ y,SE.same_ok h]
theorem QQ {V:Val}:∀{x:SE} {n:Nat},Hc x=some n→(Ab V x).rows.length=n:=by
 intro x
 induction x<;>intro n h<;>simp only [Hc,reduceCtorEq] at h
 case nilL=>cases h;rfl
 case emptyL=>cases h;rfl
 case nilIs a b ih _=>exact ih h
 case snoc a r ih _=>
  split at h
  ·rename_i k c;cases h;have:=ih c;simp only [Ab,D.rows,la,List.length_singleton] at this ⊢;rw [this]
  ·cases h
theorem PO {V:Val} {x:SE} {l b:Nat}:∀{F:List (SB×Bool)},(∀e b,(e,b)∈F→Ah V e=b)→R4 x F=some (l,b)→Ah V (.eqS x l b)=true
 |[],_,h=>by cases h
 | (e,c)::r,d,h=>by
  unfold R4 at h;have ih:R4 x r=some (l,b)→Ah V (.eqS x l b)=true:=PO (F:=r) (fun e b g=>d e b (by simp [g]))
  split at h
  ·rename_i a j k;split at h
   ·rename_i f;cases h;simp only [F4] at f;obtain ⟨rfl,i⟩:=f;rw [←SE.same_ok i];exact d _ _ (by simp)
   ·exact ih h
  ·exact ih h
theorem ZH {V:Val} {x:SE} {l b:Nat} {F:List (SB×Bool)} (a:∀e b,(e,b)∈F→Ah V e=b) (h:R4 x F=some (l,b)):Ac V (.lenS x)=(l:Int):=by
 have h:=PO a h;rw [JU] at h;unfold strEq at h;simp only [F4] at h;have c:=L2 h.1;rw [←c];exact CR
theorem HV {V:Val} {F:List (SB×Bool)} (d:∀e b,(e,b)∈F→Ah V e=b):∀e:SE,LoB (bnd F e).1 (Ac V e)∧HiB (bnd F e).2 (Ac V e):=by
 intro e
 induction e with
 |c n=>exact ⟨LoB.some (Aeg _),HiB.some (Aeg _)⟩
 |lenS i=>
  unfold bnd;split
  ·rename_i l b p;have:=ZH d p;exact ⟨LoB.some (by rw [this];exact Aeg _),HiB.some (by rw [this];exact Aeg _)⟩
  ·exact ⟨LoB.max (LoB.some (by simp only [CR,Aq];omega)) (CV d),CU d⟩
 |lenL i=>
  unfold bnd;split
  ·rename_i n q;have:=QQ (V:=V) q;exact ⟨LoB.some (by rw [Aq,this];exact Aeg _),HiB.some (by rw [Aq,this];exact Aeg _)⟩
  ·exact ⟨LoB.max (LoB.some (by simp only [CR,Aq];omega)) (CV d),CU d⟩
 |conv k a ih=>
  unfold bnd;split;rename_i lo hi o;rw [o] at ih;split
  ·rename_i g;unfold Qe at g;split at g
   ·rename_i l h;simp only [F4,ll] at g;have r:=ih.1 l rfl;have w:=ih.2 h rfl;have e:Ac V (.conv k a)=Ac V a:=GY k (Ac V a) (by omega) (by omega)
    exact ⟨LoB.max (e▸ih.1) (CV d),HiB.min (e▸ih.2) (CU d)⟩
   ·cases g
  ·have e:k.min≤Ac V (.conv k a)∧Ac V (.conv k a)≤k.max:=TE k _;exact ⟨LoB.max (LoB.some e.1) (CV d),HiB.min (HiB.some e.2) (CU d)⟩
 |arith j k a b f s=>
  have base:LoB (CK (.arith j k a b) F) (Ac V (.arith j k a b))∧HiB (CI (.arith j k a b) F) (Ac V (.arith j k a b)):=⟨CV d,CU d⟩;unfold bnd;split
  ·rename_i m;split
   ·rename_i l hi o;rw [o] at f;split
    ·rename_i t;simp only [F4,ll] at t;have r:=f.1 l rfl;have u:(m==0)=false:=by simp;omega
     have e:Ac V (.arith .rem k a (.c m))=(Ac V a).tmod m:=by
      simp only [DG,B0,CS,u]
     have v:0≤(Ac V a).tmod m:=Int.tmod_nonneg _ (by omega)
     have x:(Ac V a).tmod m<m:=Int.tmod_lt_of_pos _ (by omega)
     refine ⟨LoB.max (LoB.some (by rw [e];exact v)) base.1,HiB.min (HiB.some (by rw [e];omega)) base.2⟩
    ·exact base
   ·exact base
  ·exact base
 |_=>exact ⟨CV d,CU d⟩
theorem IF {V:Val} {e:SB} {b:Bool}:∀{F:List (SB×Bool)},(∀e b,(e,b)∈F→Ah V e=b)→Jr e F=some b→Ah V e=b
 |[],_,h=>by cases h
 | (x,c)::r,a,h=>by
  unfold Jr at h;split at h
  ·rename_i d;cases h;rw [SB.same_ok d];exact a x b (by simp)
  ·exact IF (fun e b f=>a e b (by simp [f])) h
theorem TX {a b:Option Int} (h:ltO a b=true):∃x y,a=some x∧b=some y∧x<y:=by
 unfold ltO at h;split at h
 ·exact ⟨_,_,rfl,rfl,by simpa using h⟩
 ·cases h
theorem jH {a b:Option Int} (h:leO a b=true):∃x y,a=some x∧b=some y∧x≤y:=by
 unfold leO at h;split at h
 ·exact ⟨_,_,rfl,rfl,by simpa using h⟩
 ·cases h
theorem TQ {V:Val} {F:List (SB×Bool)} (j:∀e b,(e,b)∈F→Ah V e=b) {e:SB} {b:Bool} (h:PM F e=some b):Ah V e=b:=by
 unfold PM at h;cases e with
 |lss x y=>
  simp only at h;have g:=HV j x;have i:=HV j y;split at h
  ·rename_i a;cases h;obtain ⟨p,q,d,f,k⟩:=TX a;have:=g.2 p d;have:=i.1 q f;simp only [Ay,ll];omega
  ·split at h
   ·rename_i a;cases h;obtain ⟨p,q,d,f,k⟩:=jH a;have:=i.2 p d;have:=g.1 q f;simp only [Ay,tl];omega
   ·cases h
 |eql x y=>
  simp only at h;have g:=HV j x;have i:=HV j y;split at h
  ·rename_i a;cases h;simp only [B7,beq_eq_false_iff_ne,ne_eq];simp only [vy] at a;rcases a with a|a
   ·obtain ⟨p,q,d,f,k⟩:=TX a;have:=g.2 p d;have:=i.1 q f;omega
   ·obtain ⟨p,q,d,f,k⟩:=TX a;have:=i.2 p d;have:=g.1 q f;omega
  ·split at h
   ·rename_i l;cases h;rw [SE.same_eq l];simp [B7]
   ·cases h
 |bc c=>cases h;rfl
 |_=>cases h
theorem Ut {V:Val} {F:List (SB×Bool)} (i:∀e b,(e,b)∈F→Ah V e=b):∀(e:SB) (b:Bool),Dy F e=some b→Ah V e=b:=by
 intro e
 have WW:∀(a:SB),(∀b,Dy F a=some b→Ah V a=b)→∀b,(match Jr a F with
   |some c=>some c
   |none=>Dy F a)=some b→Ah V a=b:=by
  intro a ih b h;split at h
  ·rename_i c d;cases h;exact IF i d
  ·exact ih b h
 induction e with
 |neg a ih=>
  intro b h;simp only [Dy] at h;show (!Ah V a)=b;split at h
  ·rename_i c d;cases h;rw [IF i d]
  ·split at h
   ·rename_i c d;cases h;rw [ih c d]
   ·cases h
 |and x y f g=>
  intro b h;simp only [Dy] at h;show (Ah V x&&Ah V y)=b;split at h
  ·rename_i d;cases h;rw [WW x f _ d];rfl
  ·rename_i d;rw [WW x f _ d,WW y g _ h];rfl
  ·split at h
   ·rename_i d;cases h;rw [WW y g _ d];simp
   ·cases h
 |_=>
  intro b h;exact TQ i h
theorem Av {V:Val} {F:List (SB×Bool)} (a:∀e b,(e,b)∈F→Ah V e=b) {e:SB} {b:Bool} (h:AO F e=some b):Ah V e=b:=by
 unfold AO at h;split at h
 ·rename_i c d;cases h;exact IF a d
 ·exact Ut a e b h
theorem GV (ρ:Ren) (pos:Bool) (e:SB):VR ρ (mkB pos e) (.bool (Ah U.V e==pos)):=by
 unfold mkB;split
 ·rename_i b h;rw [Av U.ok h];exact .bool _
 ·exact .sb pos e
theorem Cb (ρ:Ren) (k:IntKind) (e:SE):VR ρ (mkI k e) (.int k (Ac U.V e)):=by
 have a:=HV U.ok e;unfold mkI;split
 ·rename_i l h b;rw [b] at a;split
  ·rename_i c;have d:=a.1 l rfl;have f:=a.2 h rfl;have g:l=h:=by simpa using c
   have:Ac U.V e=l:=by omega
   rw [this];exact .int k l
  ·exact .si k e
 ·exact .si k e
theorem Ku {n y:SE} (h:Fc n y=true):Ac U.V n=Ac U.V (.lenL y):=by
 unfold Fc at h;rw [vy] at h;rcases h with h|h
 ·exact T7 h
 ·unfold Nl at h;split at h
  ·rename_i a;have:=Av U.ok a;rw [B7] at this;exact eq_of_beq this
  ·cases h
theorem JN {ρ:Ren} {b c:Nat} {n y nl:SE} {v:Value} (h:Fc n y=true) (i:VR ρ (.asl b c n nl) v):VR ρ (.asl b c (.lenL y) nl) v:=by
 have e:=Ku h;cases i with
 |asl _ _ _ _ d base j f k l g=>
  have:=VR.asl (ρ:=ρ) b c (.lenL y) nl d base j (e▸f) (e▸k) l g;rw [←e] at this;exact this
 |aslEnd _ _ _ _ a f g=>exact .aslEnd _ _ _ _ a (e▸f) g
section
variable {E:Env} {ρ:Ren} {w:World}
theorem Cl {x:AV} {a:Value} {k:IntKind} {e:SE} (b:VR ρ x a) (h:toI x=some (k,e)):a=.int k (Ac U.V e):=by
 cases b<;>simp only [toI] at h<;>cases h<;>rfl
theorem I6 {x:AV} {c:Value} (b:VR ρ x c):VR ρ (LS x) c:=by
 unfold LS;split
 ·rename_i k e;split
  ·rename_i l h g;split
   ·rename_i a;have a:l=h:=by simpa using a
    subst a;cases b with
    |si _ _=>
     obtain ⟨d,f⟩:=HV U.ok e;rw [g] at d f;have i:=d l rfl;have j:=f l rfl;have:Ac U.V e=l:=by omega
     rw [this];exact .int k l
   ·exact b
  ·exact b
 ·exact b
theorem MP {f:BinOp} {k g:IntKind} {a b:SE} {r:AV} (t:TypeId) (h:QS f k a b=some r) :
  ∃v,(binOp f t (.int k (Ac U.V a)) (.int g (Ac U.V b))).run E.P w=.ok v w∧VR ρ r v:=by
 unfold QS at h;split at h
 ·rename_i c;have c:=Av U.ok c
  have d:¬Ac U.V b<0:=by
   rw [Ay,B0] at c;simpa using c
  split at h
  ·cases h;have e:Ac U.V (.arith .shl k a b)=k.wrap (Ac U.V a*2^min (Ac U.V b).toNat k.bits):=by simp only [DG,CS,d,decide_false]
   have:=Cb ρ k (.arith .shl k a b);rw [e] at this;exact ⟨_,by simp only [binOp,Op.shift,d,ws,LE],this⟩
  ·cases h;have e:Ac U.V (.arith .shr k a b)=(Ac U.V a).fdiv (2^min (Ac U.V b).toNat k.bits):=by simp only [DG,CS,d,decide_false]
   have:=Cb ρ k (.arith .shr k a b);rw [e] at this;exact ⟨_,by simp only [binOp,Op.shift,d,ws,LE],this⟩
  ·cases h
 ·cases h
theorem dy {d:BinOp} {k:IntKind} {a b:SE} {r:AV} (t:TypeId) (h:iq d k a b=some r) :
  ∃v,(binOp d t (.int k (Ac U.V a)) (.int k (Ac U.V b))).run E.P w=.ok v w∧VR ρ r v:=by
 have j:∀{d:BinOp} {n:Int},d≠.shl→d≠.shr→CS d k (Ac U.V a) (Ac U.V b)=some (.int k n)→∃v,(binOp d t (.int k (Ac U.V a)) (.int k (Ac U.V b))).run E.P w=.ok v w∧VR ρ (mkI k (.arith d k a b)) v:=by
  intro d n l m i;obtain ⟨v,o,p⟩:=JO (E:=E) (w:=w) (ρ:=ρ) t l m i;cases p;refine ⟨_,o,?_⟩;have e:Ac U.V (.arith d k a b)=n:=by simp only [DG,i]
  have:=Cb ρ k (.arith d k a b);rw [e] at this;exact this
 have g:∀{d:BinOp} {c:Bool} {pos:Bool} {e:SB},d≠.shl→d≠.shr→CS d k (Ac U.V a) (Ac U.V b)=some (.bool c)→(Ah U.V e==pos)=c→∃v,(binOp d t (.int k (Ac U.V a)) (.int k (Ac U.V b))).run E.P w=.ok v w∧VR ρ (mkB pos e) v:=by
  intro d c pos e l m i s;obtain ⟨v,o,p⟩:=JO (E:=E) (w:=w) (ρ:=ρ) t l m i;cases p;exact ⟨_,o,s▸GV ρ pos e⟩
 have q:∀{b:SE},V1 b=true→(Ac U.V b==0)=false:=by
  intro b f;unfold V1 at f;rw [vy] at f;rcases f with f|f
  ·cases b<;>simp [eA] at f
   simpa [B0] using f
  ·split at f
   ·rename_i u;have:=Av U.ok u
    rwa [B7,B0] at this
   ·cases f
 cases d<;>simp only [iq] at h<;>first | (cases h;done)|skip
 case quo=>
  split at h
  ·rename_i f;cases h;exact j (by simp) (by simp) (by simp only [CS,q f];rfl)
  ·cases h
 case rem=>
  split at h
  ·rename_i f;cases h;exact j (by simp) (by simp) (by simp only [CS,q f];rfl)
  ·cases h
 case shl=>exact MP t h
 case shr=>exact MP t h
 case eql=>cases h;exact g (by simp) (by simp) rfl (by simp [Ay,B7])
 case neq=>cases h;exact g (by simp) (by simp) rfl (by simp only [B7,bne];cases (Ac U.V a==Ac U.V b)<;>rfl)
 case lss=>cases h;exact g (by simp) (by simp) rfl (by simp [Ay,B7])
 case leq=>cases h;exact g (by simp) (by simp) rfl (by simp only [Ay];by_cases h:Ac U.V a≤Ac U.V b<;>simp [h]<;>omega)
 case gtr=>cases h;exact g (by simp) (by simp) rfl (by simp [Ay,B7])
 case geq=>cases h;exact g (by simp) (by simp) rfl (by simp only [Ay];by_cases h:Ac U.V a≥Ac U.V b<;>simp [h]<;>omega)
 all_goals cases h;exact j (by simp) (by simp) rfl
theorem Pl {a:BinOp} {s b:ByteArray} {e:SB} {r:AV} (t:TypeId) (h:YW a e=some r) (d:Ah U.V e=strEq s.data.toList.length (AB s.data.toList) b.data.toList.length (AB b.data.toList)) :
  ∃v,(binOp a t (.string s) (.string b)).run E.P w=.ok v w∧VR ρ r v:=by
 have f:∀{a:BinOp} {c:Bool} {pos:Bool},PC a s.data.toList.length (AB s.data.toList) b.data.toList.length (AB b.data.toList)=some (.bool c)→(Ah U.V e==pos)=c→∃v,(binOp a t (.string s) (.string b)).run E.P w=.ok v w∧VR ρ (mkB pos e) v:=by
  intro a c pos g i;obtain ⟨v,j,k⟩:=NX (E:=E) (w:=w) (ρ:=ρ) t g;cases k;exact ⟨_,j,i▸GV ρ pos e⟩
 cases a<;>simp only [YW] at h<;>first | (cases h;done)|skip
 case eql=>cases h;exact f rfl (by rw [d];simp)
 case neq=>cases h;exact f rfl (by rw [d];cases strEq _ _ _ _<;>rfl)
theorem S1 (l a c b:Nat):strEq l a c b=strEq c b l a:=by
 unfold strEq
 have:∀i j:Nat,Nat.beq i j=Nat.beq j i:=fun i j=>by
  cases h:Nat.beq i j with
  |true=>rw [Ax h,Fr]
  |false=>exact (GO (fun e=>WY h e.symm)).symm
 rw [this l,this a]
theorem aW {d:BinOp} {t:TypeId} {ox j:Operand} {x y r:AV} {l m:Value} (e:VR ρ x l) (f:VR ρ y m) (c:gm d x y=some r) :
  ∃v,(do eqGuard d t ox j l m;binOp d t l m:Sem Value).run E.P w=.ok v w∧VR ρ r v:=by
 have fin:∀{a b:Value},(¬(a=.nilIface∧b=.nilIface))→(¬∃o,a=.agg o)→(∃v,(binOp d t a b).run E.P w=.ok v w∧VR ρ r v)→∃v,(do eqGuard d t ox j a b;binOp d t a b:Sem Value).run E.P w=.ok v w∧VR ρ r v:=by
  intro a b g i ⟨v,p,q⟩;have s:(eqGuard d t ox j a b).run E.P w=.ok () w:=B2 g (fun h _=>absurd h i)
  exact ⟨v,by simp only [F9,s,E1,p],q⟩
 unfold gm at c;split at c
 ·cases e;cases f;exact fin (by simp) (by simp) (Pl t c rfl)
 ·cases e;cases f;exact fin (by simp) (by simp) (Pl t c rfl)
 ·cases e;cases f;exact fin (by simp) (by simp) (Pl t c (by rw [JU];exact S1 _ _ _ _))
 ·split at c
  ·rename_i k a u b g i;split at c
   ·rename_i n;have n:k=u:=by simpa using n
    subst n;rw [Cl e g,Cl f i];exact fin (by simp) (by simp) (dy t c)
   ·rw [Cl e g,Cl f i];exact fin (by simp) (by simp) (MP t c)
  ·cases c
end
end Go.AE
namespace Go.AE
variable [Gl:AC]
variable [U:Unk]
theorem ER.length {ρ:Ren}:∀{l:List AA} {r:List MapEntry},ER ρ l r→l.length=r.length
 |[],[],_=>rfl
 |_::_,_::_,⟨_,_,_,h⟩=>by simp [ER.length h]
section
variable {E:Env} (hE:OK E) {ρ:Ren} {h:Aa} {w:World}
include hE
theorem ED (C:Bool) (k:Nat):∀(d:Nat) (t:TypeId) (v:AV) (l:Value),Co E d t v=true→VR ρ v l→(Instr.checkKey C (d+k) t l).run E.P w=.ok () w:=by
 intro d
 induction d with
 |zero=>intro t v l h;simp [Co] at h
 |succ d ih=>
  intro t v l h z;rw [show d+1+k=(d+k)+1 from by omega,Instr.checkKey]
  simp only [Co] at h;cases g:E.desc t with
  |none=>simp [g] at h
  |some D=>
   simp only [F9,hE.run_und g,E1];cases D with
   |int q=>simp
   |string=>simp
   |bool=>simp
   |struct fs=>
    simp only [g] at h;cases z<;>simp only [ei] at h
    rename_i cs m o p;simp only [ne_eq,F9];rw [←Array.forIn_toList];generalize fs.toList=A at h
    induction A with
    |nil=>simp
    |cons f A j=>
     simp only [Kk] at h;cases b:CC E f.type cs f.offset with
     |none=>simp [b] at h
     |some a=>
      simp only [b] at h;cases c:Co E d f.type a with
      |false=>simp [c] at h
      |true=>
       simp only [c] at h;obtain ⟨F,r,s⟩:=hE.run_part b ⟨o,p⟩ w;have u:=ih _ _ _ c s;simp only [List.forIn_cons,F9];by_cases B:f.name = "_"
       ·simp only [B,not_true_eq_false,ws,LE,E1];exact j h
       ·simp only [B,not_false_eq_true,if_true,F9,r,u,E1,LE];exact j h
   |array n e=>
    simp only [g] at h;cases z<;>simp only [ei] at h
    rename_i cs m o p;cases x:E.has e with
    |false=>simp [x] at h
    |true=>
     simp only [x] at h;simp only [Std.Legacy.Range.forIn_eq_forIn_range',Std.Legacy.Range.size,Nat.sub_zero,Nat.add_one_sub_one,Nat.div_one];generalize hi:(0:Nat)=i at h ⊢;clear hi g;simp only [F9]
     induction n generalizing i with
     |zero=>simp
     |succ n y=>
      simp only [Ma] at h;cases b:CC E e cs (i*E.size e) with
      |none=>simp [b] at h
      |some a=>
       simp only [b] at h;cases c:Co E d e a with
       |false=>simp [c] at h
       |true=>
        simp only [c] at h;obtain ⟨F,r,s⟩:=hE.run_part b ⟨o,p⟩ w;have u:=ih _ _ _ c s;simp only [List.range'_succ,List.forIn_cons,F9,hE.run_has x,E1,r,u,LE];exact y (i+1) h
   |_=>simp [g] at h
def FR (ρ:Ren):Option (Nat×AV)→Option (Nat×Value)→Prop
 |none,none=>True
 |some (i,a),some (j,v)=>i=j∧VR ρ a v
 |_,_=>False
theorem HI {t:TypeId} {k:AV} {d:Value} (m:VR ρ k d):∀{j:List AA} {c:List MapEntry} {i:Nat} {r:Option (Nat×AV)},ER ρ j c→Eo E t k j i=some r→
  ∃f,FR ρ r f∧(Instr.findAsking t d c i).run E.P w=.ok f w
 |[],[],i,r,_,h=>by
  simp only [Eo,C2] at h;subst h;exact ⟨none,trivial,by simp [Instr.findAsking]⟩
 |e::j,l::c,i,r,⟨n,o,u,p⟩,h=>by
  simp only [Eo] at h;cases g:aeq E 10000 t k e.key with
  |none=>simp [g] at h
  |some b=>
   have a:(Op.equal t d l.key).run E.P w=.ok b w:=T0 (w:=w) hE 10000 t k e.key b d l.key g m n;cases b with
   |true=>
    simp only [g,C2] at h;subst h;exact ⟨some (i,l.val),⟨rfl,o⟩,by simp [Instr.findAsking,a]⟩
   |false=>
    simp only [g] at h;obtain ⟨f,q,s⟩:=HI m p h;exact ⟨f,q,by simp [Instr.findAsking,a,s]⟩
omit hE in
theorem MX {t:TypeId} {ds:TypeDesc} (hd:E.desc t=some ds) {x y:AV} {b:Bool} {xv yv:Value} {d:Nat} (ha:aeq E (d+1) t x y=some b) (hx:VR ρ x xv) (hy:VR ρ y yv) :
  Instr.sameNow ds xv yv=some b∨∀u v,Instr.sameNow ds u v=none:=by
 simp only [aeq,hd] at ha;cases ds with
 |int q=>
  cases hx<;>first | (cases ha;done)|skip
  cases hy<;>first | (cases ha;done)|skip
  rename_i k n k' n';by_cases hk:k=k'
  ·subst hk;simp only [decide_true,C2] at ha;subst ha;exact .inl (by simp [Instr.sameNow])
  ·simp [hk] at ha
 |string=>
  cases hx<;>first | (cases ha;done)|skip
  cases hy<;>first | (cases ha;done)|skip
  rename_i s s';simp only [C2] at ha;subst ha;rw [Cq];exact .inl (by simp only [Instr.sameNow];rw [beq_toListBytes])
 |bool=>
  cases hx<;>first | (cases ha;done)|skip
  cases hy<;>first | (cases ha;done)|skip
  simp only [C2] at ha;subst ha;exact .inl (by simp [Instr.sameNow])
 |_=>exact .inr (fun u v=>by cases u<;>cases v<;>rfl)
omit hE in
theorem Ng {t:TypeId} {ds:TypeDesc} (hd:E.desc t=some ds) {k:AV} {kv:Value} (hk:VR ρ k kv) (hq:¬∀u v,Instr.sameNow ds u v=none):∀{es:List AA} {es':List MapEntry} {i:Nat} {r:Option (Nat×AV)},ER ρ es es'→Eo E t k es i=some r→
  ∃r',FR ρ r r'∧Instr.findNow ds kv es' i=some r'
 |[],[],i,r,_,h=>by
  simp only [Eo,C2] at h;subst h;exact ⟨none,trivial,rfl⟩
 |e::es,e'::es',i,r,⟨h1,h2,h3,h4⟩,h=>by
  simp only [Eo] at h;cases ha:aeq E 10000 t k e.key with
  |none=>simp [ha] at h
  |some b=>
   have hs:Instr.sameNow ds kv e'.key=some b:=(MX hd ha hk h1).resolve_right hq;cases b with
   |true=>
    simp only [ha,C2] at h;subst h;exact ⟨some (i,e'.val),⟨rfl,h2⟩,by simp [Instr.findNow,hs]⟩
   |false=>
    simp only [ha] at h;obtain ⟨r',q1,q2⟩:=Ng hd hk hq h4 h;exact ⟨r',q1,by simp [Instr.findNow,hs,q2]⟩
theorem Gh {t:TypeId} {ds:TypeDesc} (hd:E.desc t=some ds) {k:AV} {kv:Value} (hk:VR ρ k kv) {es:List AA} {es':List MapEntry} {r:Option (Nat×AV)} (a:ER ρ es es') (h:Eo E t k es 0=some r) :
  ∃r',FR ρ r r'∧(Instr.findKey t kv es').run E.P w=.ok r' w:=by
 by_cases hq:∀u v,Instr.sameNow ds u v=none
 ·cases es' with
  |nil=>
   cases es with
   |nil=>
    simp only [Eo,C2] at h;subst h;exact ⟨none,trivial,by simp [Instr.findKey,hE.run_und hd,Instr.findNow]⟩
   |cons e es=>cases a
  |cons e' es'=>
   obtain ⟨r',q1,q2⟩:=HI (w:=w) hE hk a h;exact ⟨r',q1,by simp [Instr.findKey,hE.run_und hd,Instr.findNow,hq,q2]⟩
 ·obtain ⟨r',q1,q2⟩:=Ng hd hk hq a h;exact ⟨r',q1,by simp [Instr.findKey,hE.run_und hd,q2]⟩
theorem Ur (M:HR ρ h.blk.get w) {t:TypeId} {m k a:AV} {J kv:Value} {ok:Bool} (N:VR ρ m J) (hk:VR ρ k kv) (ha:Pu E t m k ok h=some a) :
  ∃v,(Instr.lookup t J kv ok).run E.P w=.ok v w∧VR ρ a v:=by
 unfold Pu at ha;cases hd:E.desc t with
 |none=>simp [hd] at ha
 |some d=>
  cases d with
  |map l O=>
   simp only [hd] at ha;cases c:Co E 20 l k with
   |false=>simp [c] at ha
   |true=>
    cases G:E.zero O with
    |none=>simp [c,G] at ha
    |some z=>
     simp only [c,G] at ha;obtain ⟨K,z1,z2⟩:=hE.run_zero ρ G w;have C:=AZ ρ z2;have o:∀H,(Instr.checkKey H 10000 l kv).run E.P w=.ok () w:=fun H=>ED (w:=w) hE H 9980 20 l k kv c hk
     have f:∃ds,E.desc l=some ds:=by
      simp only [Co] at c;cases hq:E.desc l with
      |none=>simp [hq] at c
      |some ds=>exact ⟨ds,rfl⟩
     obtain ⟨ds,f⟩:=f
     have fin:∀(v:AV) (b:Bool) (A:Value),VR ρ v A→VR ρ (Nr ok v b) (if ok then .tuple #[A,.bool b] else A):=by
      intro v b A L;cases ok with
      |true=>
       have:=VL.cons L (VL.cons (VR.bool (ρ:=ρ) b) (VL.nil ρ));exact .tuple _ [A,.bool b] this.1 this.2
      |false=>exact L
     have I:(Instr.findKey l kv []).run E.P w=.ok none w:=by
      obtain ⟨r',q1,q2⟩:=Gh (w:=w) hE f hk (es:=[]) (es':=[]) (r:=none) trivial rfl;cases r' with
      |none=>exact q2
      |some p=>cases q1
     cases N with
     |map0=>
      simp only [C2] at ha;subst ha;refine ⟨_,?_,fin z false K C⟩;simp [Instr.lookup,hE.run_und hd,o,I,z1]
     |map b base Q=>
      simp only [] at ha;cases D:h.blk.get b with
      |none=>simp [D] at ha
      |some y=>
       cases y with
       |map es B=>
        simp only [D] at ha;obtain ⟨es',R,S⟩:=M.blk b base _ Q D;have g:(getObj base.cb).run E.P w=.ok (.map es'.toArray B) w:=by simp [getObj,Sem.run,R]
        cases F:Eo E l k es 0 with
        |none=>simp [F] at ha
        |some r=>
         obtain ⟨r',q1,q2⟩:=Gh (w:=w) hE f hk S F;cases r with
         |none=>
          simp only [F,C2] at ha;subst ha;cases r' with
          |some p=>cases q1
          |none=>
           refine ⟨_,?_,fin z false K C⟩;simp [Instr.lookup,hE.run_und hd,g,o,q2,z1]
         |some p=>
          obtain ⟨i,v⟩:=p;simp only [F,C2] at ha;subst ha;cases r' with
          |none=>cases q1
          |some T=>
           obtain ⟨j,A⟩:=T;refine ⟨_,?_,fin v true A q1.2⟩;simp [Instr.lookup,hE.run_und hd,g,o,q2]
       |_=>simp [D] at ha
     |_=>simp at ha
  |_=>simp [hd] at ha
end
end Go.AE
namespace Go.AE
variable [Gl:AC]
variable [U:Unk]
theorem ER.get {ρ:Ren}:∀{l:List AA} {l':List MapEntry} {i:Nat} {e:AA},ER ρ l l'→l[i]?=some e→∃r,l'[i]?=some r∧VR ρ e.key r.key∧VR ρ e.val r.val∧r.born=e.born
 |[],[],i,e,_,h=>by simp at h
 |a::l,t::l',0,e,⟨I,J,h3,h4⟩,h=>by simp at h;subst h;exact ⟨t,rfl,I,J,h3⟩
 |a::l,t::l',i+1,e,⟨I,J,h3,h4⟩,h=>by simpa using ER.get h4 (by simpa using h)
theorem ER.setVal {ρ:Ren}:∀{l:List AA} {I:List MapEntry} {i:Nat} {k v:AV} {r t:Value},ER ρ l I→VR ρ k r→VR ρ v t→ER ρ (setVal l i k v) (I.modify i fun e=>{e with key:=r,val:=t})
 |[],[],i,k,v,r,t,_,_,_=>by simp [AE.setVal,ER]
 |a::l,a'::I,0,k,v,r,t,⟨h1,h2,J,h4⟩,hk,hv=>by
  simp only [AE.setVal,List.modify_zero_cons];exact ⟨hk,hv,J,h4⟩
 |a::l,a'::I,i+1,k,v,r,t,⟨h1,h2,J,h4⟩,hk,hv=>by
  simp only [AE.setVal,List.modify_succ_cons];exact ⟨h1,h2,J,ER.setVal h4 hk hv⟩
theorem ER.append {ρ:Ren}:∀{l:List AA} {l':List MapEntry} {m:List AA} {r:List MapEntry},ER ρ l l'→ER ρ m r→ER ρ (l++m) (l'++r)
 |[],[],_,_,_,h=>h
 |_::_,_::_,_,_,⟨t,I,J,h4⟩,h=>⟨t,I,J,ER.append h4 h⟩
theorem ER.eraseIdx {ρ:Ren}:∀{l:List AA} {r:List MapEntry} (i:Nat),ER ρ l r→ER ρ (l.eraseIdx i) (r.eraseIdx i)
 |[],[],i,_=>by simp [ER]
 |_::_,_::_,0,⟨_,_,_,h⟩=>by simpa using h
 |_::_,_::_,i+1,⟨t,I,J,h4⟩=>by
  simp only [List.eraseIdx_cons_succ];exact ⟨t,I,J,ER.eraseIdx i h4⟩
section
variable {E:Env} (hE:OK E) {ρ:Ren} {h:Aa} {w:World}
theorem Bg (P:Program) {r:Nat} {o o':Obj} (a:w.heap[r]?=some o) (b:∀c e f,o≠.cells c e f) :
  (setObj r o').run P w=.ok () {w with heap:=w.heap.setIfInBounds r o'}:=by
 cases o<;>simp only [setObj,Sem.run,a]
 exact absurd rfl (b _ _ _)
theorem A7 (P:Program) {r:Nat} {o:Obj} (a:w.heap[r]?=some o) (b:∀c e f,o≠.cells c e f) :
  (getObj r).run P w=.ok o w:=by
 cases o<;>simp only [getObj,Sem.run,a]
 exact absurd rfl (b _ _ _)
theorem HR.setObj (t:HR ρ h.blk.get w) {r:Nat} {base:Cr} (I:ρ r=some base) (J:h.blk.get r≠none) (x:Am) (o':Obj) (hx:BR ρ x base (some o')) :
  HR ρ (h.put r x).blk.get {w with heap:=w.heap.setIfInBounds base.cb o'}∧Ext ρ ρ h (h.put r x) w {w with heap:=w.heap.setIfInBounds base.cb o'}:=by
 have l:=t.lt r base I;refine t.put I J x _ ?_ (by simp) (fun k hk=>by simp [pv (Ne.symm hk)]) rfl rfl rfl
 have:({w with heap:=w.heap.setIfInBounds base.cb o'}:World).heap[base.cb]?=some o':=by simp [l]
 rw [this];exact hx
theorem QN:∀{a b:AV},SD a b=true→a=b:=by
 intro a b h;cases a<;>cases b<;>simp only [SD] at h<;>first | (cases h;done)|skip
 ·rename_i x y;cases x<;>cases y<;>first|rfl|cases h
 ·rename_i k x d y;by_cases c:k=d
  ·subst c;simp only [decide_true] at h;rw [eq_of_beq h]
  ·simp [c] at h
 ·rename_i l x g y;obtain ⟨e,f⟩:=Au h;rw [Ax e,Ax f]
theorem NM:∀{l m:List AV},J4 l m=true→l=m
 |[],[],_=>rfl
 |[],_::_,h=>by simp [J4] at h
 |_::_,[],h=>by simp [J4] at h
 |a::l,b::m,h=>by
  simp only [J4] at h;cases c:SD a b with
  |false=>simp [c] at h
  |true=>simp only [c] at h;rw [QN c,NM h]
theorem KI {a b:AV} (h:GW a b=true):a=b:=by
 cases a<;>cases b<;>first|exact congrArg AV.agg (NM h)|exact QN h
theorem D0 (P:Program) (b nv:Value) :
  ∃v a,(Instr.keyThatStays b nv).run P w=.ok v a∧(v=nv∨v=b)∧a.heap=w.heap∧a.os=w.os∧a.tape=w.tape∧a.output=w.output:=by
 unfold Instr.keyThatStays;by_cases c:Instr.sameBits 10000 b nv=true
 ·exact ⟨nv,w,by simp [c],.inl rfl,rfl,rfl,rfl,rfl⟩
 ·simp only [c,ei,ws,F9,run_choose,Question.forced,LE];exact ⟨_,_,rfl,by split<;>simp,rfl,rfl,rfl,rfl⟩
include hE
theorem It (G:HR ρ h.blk.get w) {t:TypeId} {m k v:AV} {V n q:Value} {h':Aa} (Z:VR ρ m V) (A:VR ρ k n) (W:VR ρ v q) (c:JC E t m k v h=some h') :
  ∃H,(Instr.mapUpdate t V n q).run E.P w=.ok () H∧HR ρ h'.blk.get H∧Ext ρ ρ h h' w H:=by
 unfold JC at c;cases x:E.desc t with
 |none=>simp [x] at c
 |some d=>
  cases d with
  |map s et=>
   simp only [x] at c;cases f:Co E 20 s k with
   |false=>simp [f] at c
   |true=>
    simp only [f] at c;have z:∀I,(Instr.checkKey I 10000 s n).run E.P w=.ok () w:=fun I=>ED (w:=w) hE I 9980 20 s k n f A
    have o:∃B,E.desc s=some B:=by
     simp only [Co] at f;cases hq:E.desc s with
     |none=>simp [hq] at f
     |some B=>exact ⟨B,rfl⟩
    obtain ⟨B,o⟩:=o;cases Z with
    |map b base J=>
     simp only [] at c;cases u:h.blk.get b with
     |none=>simp [u] at c
     |some y=>
      cases y with
      |map C a=>
       simp only [u] at c;obtain ⟨g,K,D⟩:=G.blk b base _ J u;have l:=A7 (w:=w) E.P K (by simp)
       cases F:Eo E s k C 0 with
       |none=>simp [F] at c
       |some r=>
        obtain ⟨X,L,Y⟩:=Gh (w:=w) hE o A D F;cases r with
        |none=>
         simp only [F,C2] at c;subst c;cases X with
         |some p=>cases L
         |none=>
          obtain ⟨p1,p2⟩:=G.setObj J (by rw [u];simp) (.map (C++[{key:=k,val:=v,born:=a}]) (a+1)) (.map (g.toArray.push {key:=n,val:=q,born:=a}) (a+1))
           ⟨g++[{key:=n,val:=q,born:=a}],by simp,D.append ⟨A,W,rfl,trivial⟩⟩
          refine ⟨_,?_,p1,p2⟩;simp [Instr.mapUpdate,hE.run_und x,l,z,Y,Bg (w:=w) E.P K (by simp)]
        |some p=>
         obtain ⟨i,v0⟩:=p;simp only [F] at c;cases X with
         |none=>cases L
         |some p'=>
          obtain ⟨j,aa⟩:=p';obtain ⟨rfl,q3⟩:=L;cases hi:C[i]? with
          |none=>simp [hi] at c
          |some e=>
           simp only [hi] at c;cases M:GW k e.key with
           |false=>simp [M] at c
           |true=>
            simp only [M,C2] at c;subst c;have N:=KI M;obtain ⟨e',g1,g2,g3,g4⟩:=D.get hi;obtain ⟨O,w1,s1,s2,Q,s4,s5,s6⟩:=D0 (w:=w) E.P e'.key n
            have R:VR ρ k O:=by
             rcases s2 with rfl|rfl
             ·exact A
             ·rw [N];exact g2
            have S:HR ρ h.blk.get w1:=G.same Q
            obtain ⟨p1,p2⟩:=S.setObj J (by rw [u];simp) (.map (setVal C i k v) a) (.map (g.toArray.modify i fun e=>{e with key:=O,val:=q}) a)
             ⟨g.modify i fun e=>{e with key:=O,val:=q},by simp [List.modify_toArray],D.setVal R W⟩
            refine ⟨_,?_,p1,p2.drawn Q s4 s5 s6⟩;have T:w1.heap[base.cb]?=some (.map g.toArray a):=by rw [Q];exact K
            simp only [Instr.mapUpdate,F9,hE.run_und x,E1,l,z,Y,sf,g1,pl,Aen,s1];rw [Bg (w:=w1) E.P T (by simp)]
      |_=>simp [u] at c
    |_=>simp at c
  |_=>simp [x] at c
theorem TY (g:HR ρ h.blk.get w) {t ty:TypeId} {m k:AV} {c d:Value} {h':Aa} (i:VR ρ m c) (j:VR ρ k d) (e:Lr E t m k h=some h') (a:Array TypeId) (f:a[0]?=some t) :
  ∃b,(Builtin.delete_ a ty #[c,d]).run E.P w=.ok (.tuple #[]) b∧HR ρ h'.blk.get b∧Ext ρ ρ h h' w b:=by unfold Lr at e;cases e
end
end Go.AE
namespace Go.AE
variable [Gl:AC]
variable [U:Unk]
theorem Jy {g:Ren} {n:Nat} {v:AV} {k:Value} (l:VR g v k):∀{c b:List AA} {a:List MapEntry},ER g c a→Dt c n v=some b→
  ∃i,a.findIdx? (fun e=>(e.born:Int)==(n:Int))=some i∧ER g b (a.modify i fun e=>{e with val:=k})
 |[],_,[],_,h=>by simp [Dt] at h
 |e::c,b,p::a,⟨m,q,d,o⟩,h=>by
  simp only [Dt] at h;cases f:Nat.beq e.born n with
  |true=>
   simp only [f,C2] at h;subst h;have:=Ax f;exact ⟨0,by simp [List.findIdx?_cons,d,this],by simp only [List.modify_zero_cons];exact ⟨m,l,d,o⟩⟩
  |false=>
   simp only [f] at h;cases j:Dt c n v with
   |none=>simp [j] at h
   |some r=>
    simp only [j,C2] at h;subst h;obtain ⟨i,s,t⟩:=Jy l o j;have u:=WY f;refine ⟨i+1,?_,by simp only [List.modify_succ_cons];exact ⟨m,q,d,t⟩⟩
    have:((p.born:Int)==(n:Int))=false:=by rw [d];simp;omega
    simp [List.findIdx?_cons,this,s]
theorem ER.setKey {ρ:Ren} {k:AV} {kv:Value} (hk:VR ρ k kv):∀{l:List AA} {r:List MapEntry} {i:Nat} {e:AA},ER ρ l r→l[i]?=some e→ER ρ (AE.setVal l i k e.val) (r.modify i fun e=>{e with key:=kv})
 |[],[],i,e,_,h=>by simp at h
 |a::l,a'::r,0,e,⟨h1,t,I,J⟩,h=>by
  simp at h;subst h;simp only [AE.setVal,List.modify_zero_cons];exact ⟨hk,t,I,J⟩
 |a::l,a'::r,i+1,e,⟨h1,t,I,J⟩,h=>by
  simp only [AE.setVal,List.modify_succ_cons];exact ⟨h1,t,I,ER.setKey hk J (by simpa using h)⟩
section
variable {E:Env} (hE:OK E) {ρ:Ren} {h:Aa} {w:World}
theorem MS (r:HR ρ h.blk.get w) {t:TypeId} {m s v:AV} {u x j:Value} {h':Aa} (B:VR ρ m u) (C:VR ρ s x) (D:VR ρ v j) (c:GN m s v h=some h') :
  ∃l,(Instr.entryStore t u x j).run E.P w=.ok () l∧HR ρ h'.blk.get l∧Ext ρ ρ h h' w l:=by
 unfold GN at c;cases o:D3 s with
 |none=>cases m<;>simp [o] at c
 |some n=>
  obtain ⟨k,rfl⟩:=C1 C o;cases B with
  |map b base z=>
   simp only [o] at c;cases f:h.blk.get b with
   |none=>simp [f] at c
   |some y=>
    cases y with
    |map F a=>
     simp only [f] at c;obtain ⟨p,A,G⟩:=r.blk b base _ z f;have g:=A7 (w:=w) E.P A (by simp)
     cases d:Dt F n v with
     |none=>simp [d] at c
     |some q=>
      simp only [d,C2] at c;subst c;obtain ⟨i,H,I⟩:=Jy D G d;obtain ⟨p1,p2⟩:=r.setObj z (by rw [f];simp) (.map q a) (.map (p.toArray.modify i fun e=>{e with val:=j}) a) ⟨_,by simp [List.modify_toArray],I⟩
      refine ⟨_,?_,p1,p2⟩;simp [Instr.entryStore,g,asInt,asIntOf,H,Bg (w:=w) E.P A (by simp)]
    |_=>simp [f] at c
  |_=>simp at c
include hE
theorem Od (L:HR ρ h.blk.get w) {t:TypeId} {m k a:AV} {mv s:Value} {h':Aa} (hm:VR ρ m mv) (F:VR ρ k s) (f:Qf E t m k h=some (a,h')) :
  A4 E ρ h h' w (Instr.mapEntry t mv s) a:=by
 unfold Qf at f;cases B:E.desc t with
 |none=>simp [B] at f
 |some d=>
  cases d with
  |map x et=>
   simp only [B] at f;cases g:Co E 20 x k with
   |false=>simp [g] at f
   |true=>
    cases M:E.zero et with
    |none=>simp [g,M] at f
    |some z=>
     simp only [g,M] at f;obtain ⟨N,z1,z2⟩:=hE.run_zero ρ M w;have C:=AZ ρ z2;have D:∀O,(Instr.checkKey O 10000 x s).run E.P w=.ok () w:=fun O=>ED (w:=w) hE O 9980 20 x k s g F
     have u:∃G,E.desc x=some G:=by
      simp only [Co] at g;cases hq:E.desc x with
      |none=>simp [hq] at g
      |some G=>exact ⟨G,rfl⟩
     obtain ⟨G,u⟩:=u
     have o:∀(v:AV) (H:Value) (n:Nat),VR ρ v H→VR ρ (.tuple [v,.int .i64 (n:Int)]) (.tuple #[H,goInt n]):=by
      intro v H n hv;have:=VL.cons hv (VL.cons (VR.int (ρ:=ρ) .i64 (n:Int)) (VL.nil ρ));exact .tuple _ [H,goInt n] this.1 this.2
     cases hm with
     |map b base Q=>
      simp only [] at f;cases A:h.blk.get b with
      |none=>simp [A] at f
      |some y=>
       cases y with
       |map I c=>
        simp only [A] at f;obtain ⟨l,R,J⟩:=L.blk b base _ Q A;have q:=A7 (w:=w) E.P R (by simp)
        cases K:Eo E x k I 0 with
        |none=>simp [K] at f
        |some r=>
         obtain ⟨r',S,q2⟩:=Gh (w:=w) hE u F J K;cases r with
         |none=>
          simp only [K,C2,hS] at f;obtain ⟨rfl,rfl⟩:=f;cases r' with
          |some p=>cases S
          |none=>
           obtain ⟨p1,p2⟩:=L.setObj Q (by rw [A];simp) (.map (I++[{key:=k,val:=z,born:=c}]) (c+1)) (.map (l.toArray.push {key:=s,val:=N,born:=c}) (c+1))
            ⟨l++[{key:=s,val:=N,born:=c}],by simp,J.append ⟨F,C,rfl,trivial⟩⟩
           refine ⟨ρ,_,_,?_,o z N c C,p1,p2⟩;simp [Instr.mapEntry,hE.run_und B,q,D,q2,z1,Bg (w:=w) E.P R (by simp)]
         |some p=>
          obtain ⟨i,v0⟩:=p;simp only [K] at f;cases r' with
          |none=>cases S
          |some p'=>
           obtain ⟨j,T⟩:=p';obtain ⟨rfl,q3⟩:=S;cases hi:I[i]? with
           |none=>simp [hi] at f
           |some e=>
            simp only [hi] at f;cases V:GW k e.key with
            |false=>simp [V] at f
            |true=>
             simp only [V,C2,hS] at f;obtain ⟨rfl,rfl⟩:=f;have W:=KI V;obtain ⟨e',g1,g2,g3,g4⟩:=J.get hi;obtain ⟨X,w1,s1,s2,Y,s4,s5,s6⟩:=D0 (w:=w) E.P e'.key s
             have Z:VR ρ k X:=by
              rcases s2 with rfl|rfl
              ·exact F
              ·rw [W];exact g2
             have aa:HR ρ h.blk.get w1:=L.same Y
             obtain ⟨p1,p2⟩:=aa.setObj Q (by rw [A];simp) (.map (setVal I i k e.val) c) (.map (l.toArray.modify i fun e=>{e with key:=X}) c)
              ⟨l.modify i fun e=>{e with key:=X},by simp [List.modify_toArray],ER.setKey Z J hi⟩
             refine ⟨ρ,_,_,?_,o v0 T e.born q3,p1,p2.drawn Y s4 s5 s6⟩;have ab:w1.heap[base.cb]?=some (.map l.toArray c):=by rw [Y];exact R
             simp only [Instr.mapEntry,F9,hE.run_und B,E1,q,D,q2,sf,g1,pl,Aen,s1,g4];rw [Bg (w:=w1) E.P ab (by simp)]
             rfl
       |_=>simp [A] at f
     |_=>simp at f
  |_=>simp [B] at f
omit hE in
theorem cp (hE:OK E) (hr:HR ρ h.blk.get w) {t ty:TypeId} {x a:AV} {xv:Value} (hx:VR ρ x xv) (ha:kV E t x h=some a) (ats:Array TypeId) (hat:ats[0]?=some t) (args:Array Value) (harg:args[0]?=some xv) :
    ∃v,(Builtin.len_ ats ty args).run E.P w=.ok v w∧VR ρ a v:=by
  unfold kV at ha;cases hd:E.desc t with
  |none=>simp [hd] at ha
  |some d=>
    cases d with
    |string=>
      cases hx<;>simp only [hd] at ha<;>first | (cases ha;done)|skip
      · simp only [C2] at ha
        subst ha;rename_i s;refine ⟨goInt s.size,by simp [Builtin.len_,hat,harg,hE.run_und hd],?_⟩
        have:s.data.toList.length=s.size:=by simp
        rw [this];exact .int _ _
      · simp only [C2] at ha
        subst ha;rename_i i;refine ⟨goInt (AT U.V i).size,by simp [Builtin.len_,hat,harg,hE.run_und hd],?_⟩
        have h1:(AT U.V i).data.toList.length=(AT U.V i).size:=by simp
        have h2:=Cb ρ .i64 (.lenS i);have h3:Ac U.V (.lenS i)=((AT U.V i).data.toList.length:Nat):=rfl;rw [h3,h1] at h2;exact h2
    |array n e=>
      simp only [hd,C2] at ha;subst ha;refine ⟨goInt n,?_,.int _ _⟩;cases hx<;>simp [Builtin.len_,hat,harg,hE.run_und hd]
    |slice e=>
      cases hx<;>simp only [hd] at ha<;>first | (cases ha;done)|skip
      all_goals
        simp only [C2] at ha;subst ha
        first
          |exact ⟨_,by simp [Builtin.len_,hat,harg,hE.run_und hd];rfl,.int _ _⟩
          | (rename_i e' x a n c hdv
             obtain ⟨_,_,_,e1,e2⟩:=hdv.slice_inv;cases e1;have q:=Cb ρ .i64 (.lenL x);rw [Aq,e2] at q;exact ⟨_,by simp [Builtin.len_,hat,harg,hE.run_und hd];rfl,q⟩)
          | (rename_i b es n nl cap base hb h0 hc hz hnl
             have q:=Cb ρ .i64 n;refine ⟨goInt (Ac U.V n).toNat,by simp [Builtin.len_,hat,harg,hE.run_und hd],?_⟩
             have e:goInt ((Ac U.V n).toNat:Nat)=.int .i64 (Ac U.V n):=by simp [goInt];omega
             rw [e];exact q)
          | (rename_i b es n nl a h0 hnl
             have q:=Cb ρ .i64 n;rw [h0] at q;exact ⟨_,by simp [Builtin.len_,hat,harg,hE.run_und hd];rfl,q⟩)
    |map k e=>
      cases hx<;>simp only [hd] at ha<;>first | (cases ha;done)|skip
      · simp only [C2] at ha
        subst ha;exact ⟨goInt 0,by simp [Builtin.len_,hat,harg,hE.run_und hd],.int _ _⟩
      · rename_i b base hb
        cases hg:h.blk.get b with
        |none=>simp [hg] at ha
        |some y=>
          cases y with
          |map es clock=>
            simp only [hg,C2] at ha;subst ha;obtain ⟨es',e1,e2⟩:=hr.blk b base _ hb hg;have hget:=A7 (w:=w) E.P e1 (by simp)
            refine ⟨goInt es'.length,by simp [Builtin.len_,hat,harg,hE.run_und hd,hget],?_⟩
            rw [e2.length];exact .int _ _
          |dmap kt vt x=>
            simp only [hg,C2] at ha;subst ha;obtain ⟨kks,vks,es',clock,_,_,e1,e2,_⟩:=hr.blk b base _ hb hg;have hget:=A7 (w:=w) E.P e1 (by simp)
            refine ⟨goInt es'.length,by simp [Builtin.len_,hat,harg,hE.run_und hd,hget],?_⟩
            have q:=Cb ρ .i64 (.lenL x);rw [Aq,←e2.length] at q;exact q
          |_=>simp [hg] at ha
    |_=>cases hx<;>simp [hd] at ha
end
end Go.AE
namespace Go.AE
variable [Gl:AC]
variable [U:Unk]
theorem Uu {d:Ren} (P:Program) (w:World) (k:IntKind):∀{l:List AV} {b:List Value} {x:Int} {a:AV},VL d l b→JF k x l=some a→∃v,(b.foldlM Builtin.max2 (.int k x)).run P w=.ok v w∧VR d a v:=by
 intro l
 induction l with
 |nil=>intro b x a c h;rw [c.nil_inv];simp only [JF,C2] at h;subst h;exact ⟨_,by simp,.int _ _⟩
 |cons y r ih=>
  intro b x a c h;obtain ⟨v,j,rfl,e,f⟩:=c.cons_inv;cases e<;>simp only [JF] at h<;>first | (cases h;done)|skip
  obtain ⟨u,g,i⟩:=ih f h;exact ⟨u,by simp only [List.foldlM_cons,Builtin.max2,F9,LE,E1];exact g,i⟩
theorem Um {d:Ren} (P:Program) (w:World) (k:IntKind):∀{l:List AV} {b:List Value} {x:Int} {a:AV},VL d l b→I4 k x l=some a→∃v,(b.foldlM Builtin.min2 (.int k x)).run P w=.ok v w∧VR d a v:=by
 intro l
 induction l with
 |nil=>intro b x a c h;rw [c.nil_inv];simp only [I4,C2] at h;subst h;exact ⟨_,by simp,.int _ _⟩
 |cons y r ih=>
  intro b x a c h;obtain ⟨v,j,rfl,e,f⟩:=c.cons_inv;cases e<;>simp only [I4] at h<;>first | (cases h;done)|skip
  obtain ⟨u,g,i⟩:=ih f h;exact ⟨u,by simp only [List.foldlM_cons,Builtin.min2,F9,LE,E1];exact g,i⟩
theorem KL {b:Type} (a:Array b) (x:b) (f:b→b):(a.push x).modify a.size f=a.push (f x):=by
 apply Array.ext_getElem?;intro i;simp only [Array.getElem?_modify,Array.getElem?_push];by_cases h:i=a.size
 ·subst h;simp
 ·rw [if_neg (fun e=>h e.symm),if_neg h,if_neg h]
section
variable {E:Env} (hE:OK E) {ρ:Ren} {h:Aa} {w:World}
include hE
theorem Q4 (q:HR ρ h.blk.get w) {s d:TypeId} {x a:AV} {K:Value} {h':Aa} (L:VR ρ x K) (c:Vb E s d x h=some (a,h')) (M:AX ρ h.nx h'.nx) :
  A4 E ρ h h' w (convert s d K) a:=by
 unfold Vb at c;cases z:E.desc s with
 |none=>rw [z] at c;cases c
 |some g=>
  cases A:E.desc d with
  |none=>rw [z,A] at c;cases g<;>cases c
  |some m=>
   rw [z,A] at c;have us:=hE.run_und z w;have r:=hE.run_und A w;cases L with
   |int k n=>
    cases m<;>first | (cases c;done) | (cases g<;>(cases c;done))|skip
    simp only [C2,hS] at c;obtain ⟨rfl,rfl⟩:=c;exact Bt q ⟨_,by simp [convert,us,r,Conv.intToInt],.int _ _⟩
   |si k e=>
    cases m<;>first | (cases c;done) | (cases g<;>(cases c;done))|skip
    simp only [C2,hS] at c;obtain ⟨rfl,rfl⟩:=c;exact Bt q ⟨_,by simp [convert,us,r,Conv.intToInt,LV],Cb ρ _ (.conv _ e)⟩
   |ss i=>
    cases m<;>first | (cases c;done) | (cases g<;>(cases c;done))|skip
    simp only [C2,hS] at c;obtain ⟨rfl,rfl⟩:=c;refine Bt q ⟨.string (AT U.V i),?_,.ss i⟩;cases g<;>simp [convert,us,r]
   |str t=>
    cases m<;>first | (cases c;done) | (cases g<;>(cases c;done))|skip
    ·simp only [C2,hS] at c;obtain ⟨rfl,rfl⟩:=c;refine Bt q ⟨.string t,?_,.str t⟩;cases g<;>simp [convert,us,r]
    ·rename_i e;simp only [] at c;cases B:E.desc e with
     |none=>rw [B] at c;cases c
     |some N=>
      have O:=hE.run_und B w;rw [B] at c;cases N<;>first | (cases c;done)|skip
      rename_i k;cases k<;>first | (cases c;done)|skip
      simp only [C2,hS] at c;obtain ⟨rfl,rfl⟩:=c;have o:ρ h.nx=none:=M h.nx (IqQ _) (by simp [Aa.new])
      generalize j:grownCap w t.size 0 e=f;have u:t.size≤f:=by rw [←j];exact grownCap_ge w _ _ _
      generalize l:(t.data.map (fun b=>Value.int .u8 b.toNat)++Array.replicate (f-t.size) (.int .u8 0))=arr
      have y:arr.size=f:=by rw [←l];simp;omega
      have C:HR ρ h.blk.get {w with drawn:=w.drawn+1}:=q.same rfl
      obtain ⟨p1,p2⟩:=C.new o (.cells t.data.toList.length (.ofList (Hn t.data.toList.length (AB t.data.toList)))) (.cells arr e (arr.size,arr.size+1)) arr.size (by
       refine ⟨arr,e,_,rfl,rfl,?_,.inr (IqQ _),?_⟩
       ·show 0+_≤arr.size;simp;omega
       ·intro i a hi c;rw [T.get_ofList,Gj] at c;obtain ⟨v,Q,D⟩:=(Sn (ρ.upd h.nx ⟨w.heap.size,0,arr.size⟩) t.data.toList).get c;refine ⟨v,?_,D⟩;rw [←l];have F:i<t.size:=by simpa using hi
        simp only [pc];rw [Ad7 (by simpa using F)]
        simpa using Q) {w with drawn:=w.drawn+1,heap:=w.heap.push (.cells arr e (arr.size,arr.size+1))} rfl rfl rfl rfl
      refine ⟨_,.slice (some ⟨w.heap.size,0,none⟩) t.size f,_,?_,?_,p1,p2.drawn rfl rfl rfl rfl⟩
      ·have G:(choose (.appendCap t.size 0 e)).run E.P w=.ok f {w with drawn:=w.drawn+1}:=by rw [←j];simp [Question.forced,grownCap]
       have p:(convert s d (.string t)).run E.P w=(Conv.stringToBytes e t).run E.P w:=by
        cases g<;>simp [convert,us,r,O]
       rw [p];simp only [Conv.stringToBytes,F9,G,E1,newRow,Aee,LE,l];simp only [markStringish,F9,run_shape,E1];have H:({w with drawn:=w.drawn+1,heap:=w.heap.push (.cells arr e)}:World).shape? w.heap.size=some (e,arr.size):=by simp [World.shape?]
       rw [H];simp only [run_freeze,E1]
       have I:({w with drawn:=w.drawn+1,heap:=w.heap.push (.cells arr e)}:World).freeze ⟨w.heap.size,arr.size,none⟩ 1={w with drawn:=w.drawn+1,heap:=w.heap.push (.cells arr e (arr.size,arr.size+1))}:=by
        simp [World.freeze,KL]
       rw [I]
      ·have J:t.size=t.data.toList.length:=by simp
       rw [J] at u ⊢;exact VR.slice h.nx 0 _ 1 f _ (Ren.upd_same _ _ _) u (by simp [y])
   |slice0=>cases m<;>cases g<;>cases c
   |slice b off len R f base S j W=>cases m<;>cases g<;>cases c
   |_=>cases m<;>first | (cases c;done) | (cases g<;>(cases c;done))
end
end Go.AE
namespace Go.AE
variable [Gl:AC]
variable [U:Unk]
section
variable {E:Env} (hE:OK E) {ρ:Ren} {h:Aa} {w:World}
include hE
theorem UF {x a:AV} {q:Value} {n t:TypeId} {ok:Bool} (s:VR ρ x q) (c:Pw E x t ok=some a) :
  ∃v,(Instr.typeAssert q n t ok).run E.P w=.ok v w∧VR ρ a v:=by
 unfold Pw at c;cases o:E.desc t with
 |none=>rw [o] at c;cases c
 |some d=>
  rw [o] at c;have r:=hE.run_und o w
  have e:∀(v:AV) (g:Value) (b:Bool),VR ρ v g→VR ρ (.tuple [v,.bool b]) (.tuple #[g,.bool b]):=by
   intro v g b l;have:=VL.cons l (VL.cons (VR.bool (ρ:=ρ) b) (VL.nil ρ));exact .tuple _ [g,.bool b] this.1 this.2
  simp only [] at c;cases i:RH d with
  |true=>simp [i] at c
  |false=>
   simp only [i] at c;cases s<;>first | (cases c;done)|skip
   ·rename_i m v g l;simp only [PX] at c
    have f:(Instr.typeAssert (.iface m g) n t ok).run E.P w=(if m=t then (pure (if ok then .tuple #[g,.bool true] else g):Sem Value) else
      (if ok then (do pure (.tuple #[←zeroValue t,.bool false])) else runtimePanic (.typeAssertion (some n) (some m) t ""))).run E.P w:=by
     cases d<;>first | (cases i;done)|simp only [Instr.typeAssert,F9,r,E1]
    cases k:Nat.beq m t with
    |true=>
     have:=Ax k;cases ok with
     |true=>
      simp only [k,C2] at c;subst c;exact ⟨_,by rw [f,if_pos this];rfl,e v g true l⟩
     |false=>
      simp only [k,C2] at c;subst c;exact ⟨_,by rw [f,if_pos this];rfl,l⟩
    |false=>
     have:=WY k;cases ok with
     |true=>
      cases j:E.zero t with
      |none=>simp [k,j] at c
      |some z=>
       simp only [k,j,C2] at c;subst c;obtain ⟨p,z1,z2⟩:=hE.run_zero ρ j w;exact ⟨_,by rw [f,if_neg this];simp [z1],e z p false (AZ ρ z2)⟩
     |false=>simp [k] at c
   ·simp only [PX] at c;cases ok with
    |false=>cases j:E.zero t<;>simp at c
    |true=>
     cases j:E.zero t with
     |none=>simp [j] at c
     |some z=>
      simp only [j,C2] at c;subst c;obtain ⟨p,z1,z2⟩:=hE.run_zero ρ j w;refine ⟨_,?_,e z p false (AZ ρ z2)⟩;cases d<;>first | (cases i;done)|simp [Instr.typeAssert,r,z1]
theorem Xo (d:HR ρ h.blk.get w) {t:TypeId} {x a:AV} {b:Value} {h':Aa} (e:VR ρ x b) (c:UD E t x h=some (a,h')) (f:AX ρ h.nx h'.nx) :
  A4 E ρ h h' w (Instr.range t b) a:=by unfold UD at c;cases c
end
end Go.AE
namespace Go.AE
variable [Gl:AC]
variable [U:Unk]
section
variable {E:Env} (hE:OK E) {ρ:Ren} {h:Aa} {w:World}
theorem Xz (e:HR ρ h.blk.get w) {it a:AV} {c:Value} {b:Bool} {ty:TypeId} {h':Aa} (hi:VR ρ it c) (d:ZB it b h=some (a,h')) :
  A4 E ρ h h' w (Instr.next c b ty) a:=by unfold ZB at d;cases d
theorem Nz (d:HR ρ h.blk.get w) {it a:AV} {b:Value} (hi:VR ρ it b) (c:H4 it h=some a) :
  ∃v,(Instr.entry b).run E.P w=.ok v w∧VR ρ a v:=by unfold H4 at c;cases c
theorem Js {nt:Nat} {tmps:T AV} {tm:Array Value} (b:TR ρ nt tmps tm) (o:Operand):VR ρ (Ak tmps o) (match o with
  |.tmp t=>tm.getD t Go.undef
  |.const v=>v
  |.global g=>.pointer (some ⟨g,0,none⟩)
  |.func f=>.func (.func f) #[] #[]):=by
 cases o with
 |tmp t=>
  simp only [Ak];cases c:tmps.get t with
  |none=>exact .top _
  |some a=>exact b.get t a c
 |const v=>
  simp only [Ak];cases d:ofValue v with
  |none=>exact .top v
  |some a=>exact AZ ρ d
 |global g=>exact .glob g 0
 |func f=>exact .func _ _ [] [] [] [] rfl rfl (by simp) rfl (by simp)
def EvR (ρ:Ren) (tmps:T AV) (a:Operand→Value):Prop:=∀o,VR ρ (Ak tmps o) (a o)
theorem EvR.list {tmps:T AV} {t:Operand→Value} (r:EvR ρ tmps t):∀(l:List Operand),VL ρ (l.map (Ak tmps)) (l.map t)
 |[]=>VL.nil ρ
 |o::l=>VL.cons (r o) (EvR.list r l)
theorem EvR.parts {tmps:T AV} {t:Operand→Value} (r:EvR ρ tmps t):∀(l:List (Nat×Operand)),PL ρ (l.map fun (i,x)=>(i,Ak tmps x)) (l.map fun (i,x)=>(i,t x))
 |[]=>trivial
 | (i,x)::l=>⟨rfl,r x,EvR.parts r l⟩
end
end Go.AE
namespace Go.AE
variable [Gl:AC]
variable [U:Unk]
def FH (E:Env) (b:Ren) (h:Aa) (w:World) (s:Sem Next):Res→Prop
 |.val v h'=>AX b h.nx h'.nx→∃g c e,(s.run E.P w=.ok (.value c) e∨(s.run E.P w=.ok .skip e∧c=Go.undef))∧VR g v c∧HR g h'.blk.get e∧Ext b g h h' w e
 |.enter f args h'=>h'=h∧∃a:List Value,VL b args a∧s.run E.P w=.ok (.enter f a.toArray) w
 |.round l args h'=>h'=h∧∃base,∃a:List Value,b l=some base∧VL b args a∧s.run E.P w=(Instr.yield base.cb a.toArray).run E.P w
 |.defer d h'=>h'=h∧∃i,DR b d i∧s.run E.P w=.ok (.defer i) w
 |.recover h'=>h'=h∧s.run E.P w=.ok .recover w
 |.panic v h'=>h'=h∧∃c,VR b v c∧s.run E.P w=.halt (.panic c) w
 |.bad _=>True
section
variable {E:Env} (hE:OK E) {ρ:Ren} {h:Aa} {w:World}
theorem BD {s:Sem Value} {b:String} {o:Option (AV×Aa)} (c:∀a h',o=some (a,h')→AX ρ h.nx h'.nx→A4 E ρ h h' w s a) :
  FH E ρ h w (do pure (.value (←s))) (Df b o):=by
 cases o with
 |none=>trivial
 |some p=>
  obtain ⟨a,h'⟩:=p;intro d;obtain ⟨e,v,f,g,i,j,k⟩:=c a h' rfl d;exact ⟨e,v,f,.inl (by simp [g]),i,j,k⟩
theorem Be (c:HR ρ h.blk.get w) {s:Sem Value} {b:String} {o:Option AV} (d:∀a,o=some a→∃v,s.run E.P w=.ok v w∧VR ρ a v) :
  FH E ρ h w (do pure (.value (←s))) (BQ h b o):=by
 cases o with
 |none=>trivial
 |some a=>
  intro g;obtain ⟨v,e,f⟩:=d a rfl;exact ⟨ρ,v,w,.inl (by simp [e]),f,c,Ext.refl ρ h w⟩
theorem Km {s:Sem Unit} {b:String} {o:Option Aa} (c:∀h',o=some h'→∃a,s.run E.P w=.ok () a∧HR ρ h'.blk.get a∧Ext ρ ρ h h' w a) :
  FH E ρ h w (do s;pure .skip) (Ew b o):=by
 cases o with
 |none=>trivial
 |some h'=>
  intro g;obtain ⟨a,d,e,f⟩:=c h' rfl;exact ⟨ρ,Go.undef,a,.inr ⟨by simp [d],rfl⟩,VR.undef ρ,e,f⟩
include hE
theorem Tf (c:HR ρ h.blk.get w) {f:FuncId} {fn:Func} (b:E.fn.get f=some fn) (d:fn.body=none) {args:List AV} {a:List Value} (e:VL ρ args a) :
  FH E ρ h w (callFunc f a.toArray) (Lk fn.name args h):=trivial
theorem X0 (g:HR ρ h.blk.get w) {f:FuncId} {args:List AV} {a:List Value} (e:VL ρ args a):FH E ρ h w (callFunc f a.toArray) (RA E f args h):=by
 unfold RA;cases d:E.fn.get f with
 |none=>trivial
 |some fn=>
  cases b:fn.body with
  |none=>simp only [];rw [b];exact Tf hE g d b e
  |some c=>
   simp only [];rw [b];refine ⟨rfl,a,e,?_⟩;simp only [callFunc,F9,run_program,E1,hE.fn f fn d,hE.num f fn d,b,Option.isNone_some,ei,ws,LE]
theorem Ei (e:HR ρ h.blk.get w) {fn fn':Fn} {captured args:List AV} {captured' a:List Value} (b:FnR ρ fn fn') (g:VL ρ captured captured') (c:VL ρ args a) :
  FH E ρ h w (invoke (.fn fn' captured'.toArray) a.toArray) (B9 E fn captured args h):=by
 cases fn with
 |func f=>
  simp only [FnR] at b;subst b;simp only [B9,invoke];have:=X0 (w:=w) hE e (f:=f) (c.append g);simpa using this
 |yield l=>
  obtain ⟨base,i,rfl⟩:=b;simp only [B9];exact ⟨rfl,base,a,i,c,rfl⟩
 |methodOf t name=>trivial
 |via t d f ptr=>trivial
 |method name=>trivial
end
end Go.AE

