/- What is proved here: an evaluator of the model's steps that the kernel can run, and that whatever it answers is what the model does (part 2 of 7: AeStr, AeOps3, AeOps4, AeOps5, AeOps6, AeOps7, AeOps8, AeOps9, AeOps10, AeOps11, AeSym, AeOps12, AeOps13, AeOps14, AeOps15, AeOps16, AeOps17, AeOps18). Conditions: those that each theorem states; they hold of no one program. -/
import Derived.Test.YtojjaeaohjlfnaaGreatBeA
import Derived.Laws.Strings
import Derived.IntWalk
import Derived.Laws.Append
import Derived.Laws.AppendOwn
import Derived.Laws.StructEq
import Derived.ChangeKeysEq
import Derived.Laws.Closers25b
import Derived.Laws.BytesString
import Derived.Lib.Bytealg
set_option linter.unusedVariables false
set_option linter.unusedSectionVars false
set_option linter.unusedSimpArgs false
namespace Go.AE
variable [Gl:AG]
variable [U:Unk]
theorem QW:∀(l:List UInt8),AC l<256^l.length
 |[]=>by simp[AC]
 |b::r=>by
  have a:=QW r;have c:b.toNat<256:=b.toNat_lt;simp only[AC,n0,Nat.pow_succ];omega
theorem FM:∀(l m:List UInt8),AC (l++m)=AC l+AC m*256^l.length
 |[],m=>by simp[AC]
 |b::r,m=>by
  have:=FM r m;simp only[List.cons_append,AC,this,n0,Nat.pow_succ,Nat.mul_add];rw[Ae3,Nat.mul_left_comm,Nat.mul_comm 256 (256^r.length)]
theorem Ov:∀(l m:List UInt8),l.length=m.length→AC l=AC m→l=m
 |[],[],_,_=>rfl
 |[],_::_,h,_=>by simp at h
 |_::_,[],h,_=>by simp at h
 |a::l,b::m,h,e=>by
  simp only[AC]at e;have f:a.toNat<256:=a.toNat_lt;have g:b.toNat<256:=b.toNat_lt;have c:a.toNat=b.toNat:=by omega
  have d:AC l=AC m:=by omega
  rw[Ov l m (by simpa using h) d,UInt8.toNat_inj.1 c]
theorem PN(n:Nat):2^(8*n)=256^n:=by rw[Nat.pow_mul]
theorem Iu:∀(n:Nat)(l:List UInt8),AC l/256^n=AC (l.drop n)
 |0,l=>by simp
 |n+1,[]=>by simp[AC]
 |n+1,b::r=>by
  have a:b.toNat<256:=b.toNat_lt;simp only[AC,List.drop_succ_cons,Nat.pow_succ];rw[←Iu n r,Nat.mul_comm (256^n) 256,←Nat.div_div_eq_div_mul]
  congr 1
  omega
theorem UY:∀(n:Nat)(l:List UInt8),n≤l.length→AC l%256^n=AC (l.take n):=by
 intro n l h;have e:=FM (l.take n) (l.drop n);rw[List.take_append_drop]at e;have a:(l.take n).length=n:=by simp;omega
 rw[a]at e;rw[e,Nat.add_mul_mod_self_right,Nat.mod_eq_of_lt];have:=QW (l.take n)
 rwa [a]at this
theorem Xq{l:List UInt8}{n:Nat}(h:n<l.length):AC l/2^(8*n)%256=l[n].toNat:=by
 rw[PN,Iu,List.drop_eq_getElem_cons h];simp only[AC];have:=l[n].toNat_lt;omega
theorem Nt{l:List UInt8}{a b:Nat}(c:a≤b)(d:b≤l.length):AC l/2^(8*a)%2^(8*(b-a))=AC ((l.drop a).take (b-a)):=by
 rw[PN,PN,Iu,UY];simp;omega
theorem Hv(b:UInt8)(r:List UInt8):AC (b::r)%256=b.toNat∧AC (b::r)/256=AC r:=by
 have:=b.toNat_lt;simp only[AC];omega
theorem Ct(s t:ByteArray):strEq s.data.toList.length (AC s.data.toList) t.data.toList.length (AC t.data.toList)=(s.toList==t.toList):=by
 have a:∀u:ByteArray,u.toList=u.data.toList:=fun u=>ByteArray.toList_eq u
 rw[a,a];unfold strEq;rw[Bool.eq_iff_iff];simp only[F9,beq_iff_eq];constructor
 ·rintro ⟨b,c⟩
  exact Ov _ _ (Ay b) (Ay c)
 ·intro h;rw[h];exact⟨Fw _,Fw _⟩
theorem PG:∀(f:Nat)(l m:List UInt8),l.length<f→D5 f l.length (AC l) m.length (AC m)=Op.bytesLess l m:=by
 intro f
 induction f with
 |zero=>intro l m h;omega
 |succ f ih=>
  intro l m h;cases m with
  |nil=>cases l<;>simp[D5,Op.bytesLess]
  |cons b m=>
   cases l with
   |nil=>simp[D5,Op.bytesLess]
   |cons a l=>
    obtain⟨i,j⟩:=Hv a l;obtain⟨k,n⟩:=Hv b m;simp only[D5,n0,Op.bytesLess,i,j,k,n];simp only[n0]at h;by_cases c:a.toNat<b.toNat
    ·have e:Nat.blt a.toNat b.toNat=true:=by simp[Nat.blt];omega
     have g:a<b:=UInt8.lt_iff_toNat_lt.2 c;simp[e,g]
    ·have e:Nat.blt a.toNat b.toNat=false:=by
      cases q:Nat.blt a.toNat b.toNat with
      |false=>rfl
      |true=>exact absurd (Io q) c
     have g:¬a<b:=fun q=>c (UInt8.lt_iff_toNat_lt.1 q)
     simp only[e,g,decide_false,Bool.false_or];by_cases d:a=b
     ·subst d;rw[Fw];simp[ih l m (by omega)]
     ·have o:Nat.beq a.toNat b.toNat=false:=GN (fun q=>d (UInt8.toNat_inj.1 q))
      simp[o,d]
end Go.AE
namespace Go.AE
variable [Gl:AG]
variable [U:Unk]
section
variable {E:Env}(hE:OK E){ρ:Ren}{h:Aa}{w:World}
include hE
theorem Su(p:HR ρ h.blk.get w){t:TypeId}{x a:AV}{q:Value}(s:VR ρ x q)(e:OY E t x h=some a) :
  ∃v,(Instr.loadAt t q).run E.P w=.ok v w∧VR ρ a v:=by
 unfold OY at e;cases j:E.desc t with
 |none=>simp[j]at e
 |some d=>
  cases s with
  |ptr b off base r=>
   simp only[j]at e;unfold Instr.loadAt loadVar;simp only[Instr.sureAddr,L1,Ts,F0,hE.run_isAgg j];cases k:Dv d with
   |true=>
    simp only[k]at e;cases f:C0 h b off (E.size t)with
    |none=>simp[f]at e
    |some l=>
     simp only[f,vx,C2]at e;subst e;unfold C0 at f;cases g:h.blk.get b with
     |none=>simp[g]at f
     |some y=>
      cases y with
      |cells n c=>
       simp only[g]at f;cases i:Nat.ble (off+E.size t) n with
       |false=>simp[i]at f
       |true=>
        simp only[i]at f;obtain⟨u,m,o,_⟩:=p.loadCells E.P r g (C7 i) f;simp only[if_true,L1,hE.run_size j,F0,o,Ts];exact⟨_,rfl,.agg _ _ m.1 m.2⟩
      |_=>simp[g]at f
   |false=>
    simp only[k]at e;cases g:h.blk.get b with
    |none=>simp[g]at e
    |some y=>
     cases y with
     |cells n c=>
      simp only[g]at e;cases i:Nat.blt off n with
      |false=>simp[i]at e
      |true=>
       simp only[i]at e;obtain⟨v,m,o⟩:=p.cell r g (Io i) e;simp only[ie,Aey,run_load,m];exact⟨v,rfl,o⟩
     |_=>simp[g]at e
  |_=>simp[j]at e
theorem Xn(k:HR ρ h.blk.get w){t:TypeId}{x a:AV}{i v:Value}{h':Aa}(l:VR ρ x i)(m:VR ρ a v)(c:J4 E t x a h=some h') :
  ∃d,(Instr.storeAt t i v).run E.P w=.ok () d∧HR ρ h'.blk.get d∧Ext ρ ρ h h' w d:=by
 unfold J4 at c;cases l with
 |ptr b off base n=>
  simp only[]at c;cases g:E.szIs t a.cells.length with
  |false=>simp[g]at c
  |true=>
   simp only[g]at c
   have o:a≠.top:=by
    rintro rfl
    unfold storeN at c;cases j:h.blk.get b with
    |none=>simp[j]at c
    |some y=>cases y<;>simp[j,AV.cells,EA,AV.one]at c
   have f:=m.cells o;obtain⟨d,p,q,r⟩:=k.storeN E.P n f c;refine⟨d,?_,q,r⟩;unfold Instr.storeAt storeVar;have e:v.cells.size=a.cells.length:=by have:=f.1;simp at this;omega
   simp[Instr.sureAddr,hE.run_szIs g,e,p]
 |_=>simp at c
theorem NA{t:TypeId}{x a:AV}{f:Nat}{o:Value}(p:VR ρ x o)(c:HW E t x f=some a) :
  ∃v,(Instr.fieldAt t o f).run E.P w=.ok v w∧VR ρ a v:=by
 unfold HW at c;cases g:E.desc t with
 |none=>simp[g]at c
 |some d=>
  cases d with
  |struct fs=>
   cases p with
   |ptr b off base q=>
    simp only[g]at c;cases k:fs.toList[f]? with
    |none=>simp[k]at c
    |some j=>
     simp only[k]at c;have l:fs[f]?=some j:=by simpa using k
     cases e:E.size j.type with
     |zero=>simp[e]at c
     |succ n=>
      simp only[e,C2]at c;subst c
      have m:∀w,(sizeOf j.type).run E.P w=.ok (n+1) w:=by
       intro w;unfold Env.size at e;cases hi:E.ty.get j.type with
       |none=>simp[hi]at e
       |some i=>simp only[hi]at e;rw[hE.run_sz hi,e]
      refine⟨.pointer (some ⟨base.cb,base.co+(off+j.offset),none⟩),?_,.ptr b _ base q⟩;simp[Instr.fieldAt,hE.run_und g,l,Instr.sureAddr,fieldPlace,m,B2,Ae3]
   |_=>simp[g]at c
  |_=>cases p<;>simp[g]at c
theorem XU{t:TypeId}{x a:AV}{f:Nat}{i:Value}(j:VR ρ x i)(b:PC E t x f=some a) :
  ∃v,(Instr.field t i f).run E.P w=.ok v w∧VR ρ a v:=by
 unfold PC at b;cases c:E.desc t with
 |none=>simp[c]at b
 |some d=>
  cases d with
  |struct fs=>
   cases j with
   |agg l l' k m=>
    simp only[c]at b;cases e:fs.toList[f]? with
    |none=>simp[e]at b
    |some n=>
     simp only[e]at b;have g:fs[f]?=some n:=by simpa using e
     obtain⟨v,o,p⟩:=hE.run_part (cs':=l') b ⟨k,m⟩ w;exact⟨v,by simp[Instr.field,hE.run_und c,g,asAgg,o],p⟩
   |_=>simp[c]at b
  |_=>cases j<;>simp[c]at b
omit hE in
theorem C3{ρ:Ren}{a:AV}{v:Value}{n:Nat}(hv:VR ρ a v)(h:D2 a=some n):∃k,v=.int k (n:Int):=by
 cases hv with
 |int k m=>
  cases m with
  |ofNat m=>simp only[D2,C2]at h;subst h;exact⟨k,rfl⟩
  |negSucc m=>simp[D2]at h
 |_=>simp[D2]at h
theorem Nv{t:TypeId}{x i a:AV}{r s:Value}(o:VR ρ x r)(hi:VR ρ i s)(c:Ih E t x i=some a) :
  ∃v,(Instr.indexAt t r s).run E.P w=.ok v w∧VR ρ a v:=by
 unfold Ih at c;cases g:E.desc t with
 |none=>simp[g]at c
 |some d=>
  cases j:D2 i with
  |none=>cases d<;>cases x<;>simp[g,j]at c
  |some n=>
   obtain⟨k,rfl⟩:=C3 hi j;cases d with
   |slice e=>
    cases o with
    |slice b off len p u base q z A=>
     simp only[g,j]at c;cases f:(Nat.blt n len&&E.szIs e p)with
     |false=>simp[f]at c
     |true=>
      simp only[f,C2]at c;subst c;obtain⟨c1,c2⟩:=Av f;have l:=Io c1;refine⟨.pointer (some ⟨base.cb,base.co+(off+n*p),none⟩),?_,.ptr b _ base q⟩;simp[Instr.indexAt,asIntOf,hE.run_und g,hE.run_szIs c2,l,B2,Ae3]
    |sliceEnd b off p a=>
     have y:Nat.blt n 0=false:=rfl;simp[g,j,y]at c
    |_=>simp[g,j]at c
   |array len e=>
    cases o with
    |ptr b off base q=>
     simp only[g,j]at c;cases f:(Nat.blt n len&&E.has e)with
     |false=>simp[f]at c
     |true=>
      simp only[f,C2]at c;subst c;obtain⟨c1,c2⟩:=Av f;have l:=Io c1;refine⟨.pointer (some ⟨base.cb,base.co+(off+n*E.size e),none⟩),?_,.ptr b _ base q⟩;simp[Instr.indexAt,asIntOf,hE.run_und g,hE.run_has c2,Instr.sureAddr,l,B2,Ae3]
    |_=>simp[g,j]at c
   |_=>cases o<;>simp[g,j]at c
theorem Xv{t:TypeId}{x i a:AV}{u y:Value}(p:VR ρ x u)(hi:VR ρ i y)(b:TU E t x i=some a) :
  ∃v,(Instr.index t u y).run E.P w=.ok v w∧VR ρ a v:=by
 unfold TU at b;cases c:E.desc t with
 |none=>simp[c]at b
 |some d=>
  cases g:D2 i with
  |none=>cases d<;>cases x<;>simp[c,g]at b
  |some n=>
   obtain⟨k,rfl⟩:=C3 hi g;cases d with
   |string=>
    cases p with
    |str s=>
     simp only[c,g]at b;cases q:Nat.blt n s.data.toList.length with
     |false=>simp only[q]at b;cases b
     |true=>
      simp only[q,C2]at b;subst b;have f:=Io q;have r:n<s.size:=by simpa using f
      have e:s[n]?=some s.data.toList[n]:=by
       rw[getElem?_pos s n r];rfl
      rw[Xq f];refine⟨.int .u8 (s.data.toList[n].toNat:Nat),?_,.int _ _⟩;simp only[Instr.index,asIntOf,L1,Ts,F0,hE.run_und c];rw[if_pos (by omega),Afa,e]
      rfl
    |_=>simp[c,g]at b
   |array len e=>
    cases p with
    |agg l z A B=>
     simp only[c,g]at b;cases j:Nat.blt n len with
     |false=>simp[j]at b
     |true=>
      simp only[j]at b;have f:=Io j;obtain⟨v,C,D⟩:=hE.run_part (cs':=z) b ⟨A,B⟩ w
      have o:∃d,E.desc e=some d:=by
       unfold CF at b;cases F:E.desc e with
       |none=>simp[F]at b
       |some d=>exact⟨d,rfl⟩
      obtain⟨d,o⟩:=o;refine⟨v,?_,D⟩;simp[Instr.index,asIntOf,hE.run_und c,f,hE.run_size o,C]
    |_=>simp[c,g]at b
   |_=>cases p<;>simp[c,g]at b
end
end Go.AE
namespace Go.AE
variable [Gl:AG]
variable [U:Unk]
section
variable {E:Env}(hE:OK E){ρ:Ren}{h:Aa}{w:World}
include hE
omit hE in
theorem Jg{len cap:Nat}{lo hi mx:Option AV}{lo' hi' mx':Option Value}{l hh:Nat}(P:Program)(w:World)(isSlice:Bool)
 (hlo:∀a,lo=some a→∃v,lo'=some v∧VR ρ a v)(hlo0:lo=none→lo'=none)
 (hhi:∀a,hi=some a→∃v,hi'=some v∧VR ρ a v)(hhi0:hi=none→hi'=none)
 (hmx:∀a,mx=some a→∃v,mx'=some v∧VR ρ a v)(hmx0:mx=none→mx'=none)
 (hmh:mx≠none→hi≠none)(hc:len≤cap)
 (hb:CJ len lo hi mx=some (l,hh)):∃m,(Instr.sliceBounds isSlice len cap lo' hi' mx').run P w=.ok (l,hh,m) w∧l≤hh∧hh≤m∧m≤cap∧hh≤len∧(mx≠none→D0 mx len=some m):=by
 unfold CJ at hb
 have getb:∀(o:Option AV)(o':Option Value)(d k:Nat),(∀a,o=some a→∃v,o'=some v∧VR ρ a v)→(o=none→o'=none)→D0 o d=some k→(o=none∧o'=none∧k=d)∨(o≠none∧∃kd,o'=some (.int kd (k:Int))):=by
  intro o o' d k h1 h2 h3;cases o with
  |none=>simp[D0]at h3;exact .inl ⟨rfl,h2 rfl,h3.symm⟩
  |some a=>
   obtain⟨v,hv,hvr⟩:=h1 a rfl;simp only[D0]at h3;obtain⟨kd,rfl⟩:=C3 hvr h3;exact .inr ⟨by simp,kd,hv⟩
 cases hm:D0 mx len with
 |none=>simp[hm]at hb
 |some m=>
  simp only[hm]at hb;cases h1:D0 hi len with
  |none=>simp[h1]at hb
  |some H=>
   cases h2:D0 lo 0 with
   |none=>simp[h1,h2]at hb
   |some L=>
    simp only[h1,h2]at hb;cases hcc:(Nat.ble L H&&Nat.ble H m&&Nat.ble m len)with
    |false=>simp[hcc]at hb
    |true=>
     simp only[hcc,C2,k0]at hb;obtain⟨rfl,rfl⟩:=hb;obtain⟨c12,c3⟩:=Av hcc;obtain⟨c1,c2⟩:=Av c12;have b1:=C7 c1;have b2:=C7 c2;have b3:=C7 c3
     have EL:∀(kd:IntKind)(x y:Nat)(code:BoundsCode),x≤y→(Instr.sliceBound (.int kd (x:Int)) y code).run P w=.ok x w:=by
      intro kd x y code hxy;simp[Instr.sliceBound,asIntOf,hxy]
     rcases getb mx mx' len m hmx hmx0 hm with⟨e1,e2,e3⟩|⟨e1,kd1,e2⟩
     ·subst e1;subst e2;subst e3;rcases getb hi hi' m H hhi hhi0 h1 with⟨f1,f2,f3⟩|⟨f1,kd2,f2⟩
      ·subst f2;rcases getb lo lo' 0 L hlo hlo0 h2 with⟨g1,g2,g3⟩|⟨g1,kd3,g2⟩
       ·subst g2;subst g3;subst f3;exact⟨cap,by simp[Instr.sliceBounds],by omega,by omega,by omega,by omega,fun h=>absurd rfl h⟩
       ·subst g2;subst f3;exact⟨cap,by simp[Instr.sliceBounds,EL _ _ _ _ b1],by omega,by omega,by omega,by omega,fun h=>absurd rfl h⟩
      ·subst f2;rcases getb lo lo' 0 L hlo hlo0 h2 with⟨g1,g2,g3⟩|⟨g1,kd3,g2⟩
       ·subst g2;subst g3;exact⟨cap,by simp[Instr.sliceBounds,EL _ H cap _ (by omega)],by omega,by omega,by omega,by omega,fun h=>absurd rfl h⟩
       ·subst g2;exact⟨cap,by simp[Instr.sliceBounds,EL _ H cap _ (by omega),EL _ L H _ b1],by omega,by omega,by omega,by omega,fun h=>absurd rfl h⟩
     ·subst e2;rcases getb hi hi' len H hhi hhi0 h1 with⟨f1,f2,f3⟩|⟨f1,kd2,f2⟩
      ·exact absurd f1 (hmh e1)
      ·subst f2;rcases getb lo lo' 0 L hlo hlo0 h2 with⟨g1,g2,g3⟩|⟨g1,kd3,g2⟩
       ·subst g2;subst g3;exact⟨m,by simp[Instr.sliceBounds,EL _ m cap _ (by omega),EL _ H m _ b2],by omega,by omega,by omega,by omega,fun _=>rfl⟩
       ·subst g2;exact⟨m,by simp[Instr.sliceBounds,EL _ m cap _ (by omega),EL _ H m _ b2,EL _ L H _ b1],by omega,by omega,by omega,by omega,fun _=>rfl⟩
omit hE in
theorem Ge{len cap:Nat}{lo hi mx:Option AV}{lo' hi' mx':Option Value}{l hh:Nat}(P:Program)(w:World)(isSlice:Bool)
 (hlo:∀a,lo=some a→∃v,lo'=some v∧VR ρ a v)(hlo0:lo=none→lo'=none)
 (hhi:∀a,hi=some a→∃v,hi'=some v∧VR ρ a v)(hhi0:hi=none→hi'=none)
 (hmx:∀a,mx=some a→∃v,mx'=some v∧VR ρ a v)(hmx0:mx=none→mx'=none)
 (hmh:mx≠none→hi≠none)(hc:len≤cap)
 (hb:CJ len lo hi mx=some (l,hh)):∃m,(Instr.sliceBounds isSlice len cap lo' hi' mx').run P w=.ok (l,hh,m) w∧l≤hh∧hh≤m∧m≤cap∧hh≤len:=by
 obtain⟨m,q1,q2,q3,q4,q5,_⟩:=Jg P w isSlice hlo hlo0 hhi hhi0 hmx hmx0 hmh hc hb;exact⟨m,q1,q2,q3,q4,q5⟩
theorem XP(J:HR ρ h.blk.get w){t:TypeId}{x a:AV}{G:Value}{lo hi mx:Option AV}{lo' hi' mx':Option Value}(z:VR ρ x G)
 (hlo:∀a,lo=some a→∃v,lo'=some v∧VR ρ a v)(hlo0:lo=none→lo'=none)
 (hhi:∀a,hi=some a→∃v,hi'=some v∧VR ρ a v)(hhi0:hi=none→hi'=none)
 (hmx:∀a,mx=some a→∃v,mx'=some v∧VR ρ a v)(hmx0:mx=none→mx'=none)
 (hmh:mx≠none→hi≠none)
 (f:S2 E t x lo hi mx h=some a):∃v,(Instr.sliceAt t G lo' hi' mx').run E.P w=.ok v w∧VR ρ a v:=by
 unfold S2 at f;cases i:E.desc t with
 |none=>simp[i]at f
 |some d=>
  cases d with
  |string=>
   cases z with
   |str s=>
    simp only[i]at f;cases mx with
    |some m=>simp at f
    |none=>
     simp only[]at f;cases hb:CJ s.data.toList.length lo hi none with
     |none=>simp only[hb]at f;cases f
     |some p=>
      obtain⟨L,H⟩:=p;simp only[hb,C2]at f;subst f;obtain⟨m,q1,q2,q3,q4,q5⟩:=Ge E.P w false hlo hlo0 hhi hhi0 hmx hmx0 hmh (R2 _) hb;have K:=hmx0 rfl;subst K;have D:s.size=s.data.toList.length:=by simp
      rw[Nt q2 q5]
      have z:(s.extract L H).data.toList=(s.data.toList.drop L).take (H-L):=by
       simp[ByteArray.data_extract]
      have A:H-L=((s.data.toList.drop L).take (H-L)).length:=by simp;omega
      refine⟨.string (s.extract L H),?_,?_⟩
      ·simp only[Instr.sliceAt,L1,hE.run_und i,F0,Instr.slice];rw[←D]at q1;simp[q1]
      ·have:=VR.str (ρ:=ρ) (s.extract L H);rw[z]at this;rw[←A]at this;exact this
   |_=>simp[i]at f
  |slice e=>
   cases z with
   |slice0=>
    simp only[i]at f;cases hb:CJ 0 lo hi mx with
    |none=>simp[hb]at f
    |some p=>
     obtain⟨L,H⟩:=p;cases g:E.has e with
     |false=>simp[hb,g]at f
     |true=>
      simp only[hb,g,C2]at f;subst f;obtain⟨m,q1,q2,q3,q4,q5⟩:=Ge E.P w true hlo hlo0 hhi hhi0 hmx hmx0 hmh (R2 0) hb;have:L=0∧H=0∧m=0:=by omega
      obtain⟨rfl,rfl,rfl⟩:=this;exact⟨.slice none 0 0,by simp[Instr.sliceAt,Instr.slice,hE.run_und i,q1,hE.run_has g],.slice0⟩
   |slice b off len j cap base u hc R=>
    simp only[i]at f;cases hb:CJ len lo hi mx with
    |none=>simp[hb]at f
    |some p=>
     obtain⟨L,H⟩:=p;simp only[hb]at f;cases g:E.szIs e j with
     |false=>simp[g]at f
     |true=>
      simp only[g]at f;obtain⟨m,q1,q2,q3,q4,q5,M⟩:=Jg E.P w true hlo hlo0 hhi hhi0 hmx hmx0 hmh hc hb;cases q:RW mx len L H with
      |true=>
       simp only[q,C2]at f;subst f;unfold RW at q;cases mx with
       |none=>cases q
       |some I=>
        have F:=M (by simp)
        simp only[F]at q;obtain⟨f1,f2⟩:=Av q;have g1:=Ay f1;have g2:=Io f2;subst g1;refine⟨.slice (some ⟨base.cb,base.co+(off+L*j),none⟩) (m-L) (m-L),?_,?_⟩
        ·have r:¬m=L:=by omega
         simp[Instr.sliceAt,Instr.slice,hE.run_und i,q1,hE.run_szIs g,r,B2,Ae3]
        ·refine .fsl b _ _ j base u ?_;have h1:L*j+(m-L)*j=m*j:=by rw[←Aen];congr 1;omega
         have h2:m*j≤cap*j:=ll _ q4;omega
      |false=>
      simp only[q,C2]at f;subst f;by_cases r:m=L
      ·have:H=L:=by omega
       subst this;subst r;refine⟨.slice (some ⟨base.cb,base.co+off,none⟩) 0 0,?_,?_⟩
       ·simp[Instr.sliceAt,Instr.slice,hE.run_und i,q1,hE.run_szIs g]
       ·rw[Nat.sub_self];exact .sliceEnd _ _ _ _
      ·refine⟨.slice (some ⟨base.cb,base.co+(off+L*j),none⟩) (H-L) (m-L),?_,?_⟩
       ·simp[Instr.sliceAt,Instr.slice,hE.run_und i,q1,hE.run_szIs g,r,B2,Ae3]
       ·refine .slice b _ _ j _ base u (by omega) ?_
        have h1:L*j+(m-L)*j=m*j:=by rw[←Aen];congr 1;omega
        have h2:m*j≤cap*j:=ll _ q4;omega
   |sliceEnd b off j a=>
    simp only[i]at f;cases hb:CJ 0 lo hi mx with
    |none=>simp[hb]at f
    |some p=>
     obtain⟨L,H⟩:=p;simp only[hb]at f;cases g:E.szIs e j with
     |false=>simp[g]at f
     |true=>
      obtain⟨m,q1,q2,q3,q4,q5⟩:=Ge E.P w true hlo hlo0 hhi hhi0 hmx hmx0 hmh (R2 0) hb
      have q:RW mx 0 L H=false:=by
       unfold RW;cases mx with
       |none=>rfl
       |some I=>
        simp only;cases D0 (some I) 0 with
        |none=>rfl
        |some S=>
         have:Nat.blt L H=false:=by
          cases B:Nat.blt L H with
          |false=>rfl
          |true=>have:=Io B;omega
         simp[this]
      simp only[g,q,C2]at f;subst f;have:L=0∧H=0∧m=0:=by omega
      obtain⟨rfl,rfl,rfl⟩:=this;refine⟨.slice (some a) 0 0,?_,?_⟩
      ·simp[Instr.sliceAt,Instr.slice,hE.run_und i,q1,hE.run_szIs g]
      ·rw[Nat.sub_self];exact .sliceEnd _ _ _ _
   |_=>simp[i]at f
  |array n e=>
   cases z with
   |ptr b off base u=>
    simp only[i]at f;cases hb:CJ n lo hi mx with
    |none=>simp[hb]at f
    |some p=>
     obtain⟨L,H⟩:=p;cases g:E.has e with
     |false=>simp[hb,g]at f
     |true=>
      cases C:h.blk.get b with
      |none=>simp[hb,g,C]at f
      |some y=>
       cases y with
       |cells N c=>
        simp only[hb,g,C]at f;cases B:Nat.ble (off+n*E.size e) N with
        |false=>simp[B]at f
        |true=>
         simp only[B,C2]at f;subst f;have O:=C7 B;obtain⟨Q,e1,T,h1,h2,h3,V,W⟩:=J.blk b base _ u C;obtain⟨m,q1,q2,q3,q4,q5⟩:=Ge E.P w false hlo hlo0 hhi hhi0 hmx hmx0 hmh (R2 n) hb;by_cases r:m=L
         ·have:H=L:=by omega
          subst this;subst r;refine⟨.slice (some ⟨base.cb,base.co+off,none⟩) 0 0,?_,?_⟩
          ·simp[Instr.sliceAt,Instr.sureAddr,hE.run_und i,q1,hE.run_has g]
          ·rw[Nat.sub_self];exact .sliceEnd _ _ _ _
         ·refine⟨.slice (some ⟨base.cb,base.co+(off+L*E.size e),none⟩) (H-L) (m-L),?_,?_⟩
          ·simp[Instr.sliceAt,Instr.sureAddr,hE.run_und i,q1,hE.run_has g,r,B2,Ae3]
          ·refine .slice b _ _ _ _ base u (by omega) ?_
           have g1:L*E.size e+(m-L)*E.size e=m*E.size e:=by rw[←Aen];congr 1;omega
           have g2:m*E.size e≤n*E.size e:=ll _ q4;omega
       |_=>simp[hb,g,C]at f
   |_=>simp[i]at f
  |_=>cases z<;>simp[i]at f
end
end Go.AE
namespace Go.AE
variable [Gl:AG]
variable [U:Unk]
def Z5{a:Type}(l:List a)(off:Nat)(r l2:List a):Prop:=l2.length=l.length∧∀j,l2[j]?=if off≤j∧j<off+r.length then r[j-off]? else l[j]?
theorem FC:∀(l:List AV)(off:Nat)(r:List AV),off+r.length≤l.length→Z5 l off r (AU l off r):=by
 intro l
 induction l with
 |nil=>
  intro off r h;have:r=[]:=la (by simp only[Ae6]at h;omega)
  subst this;exact⟨by simp[AU],fun j=>by simp[AU]⟩
 |cons x l ih=>
  intro off r h;cases r with
  |nil=>exact⟨by simp[AU],fun j=>by rw[if_neg (by simp)];simp[AU]⟩
  |cons v r=>
   simp only[n0]at h;cases off with
   |zero=>
    obtain⟨a,b⟩:=ih 0 r (by omega)
    refine⟨by simp[AU,a],fun j=>?_⟩
    cases j with
    |zero=>simp[AU]
    |succ j=>
     simp only[AU,iv,b j,n0,s0,Aex,true_and,Nat.sub_zero];by_cases c:j<r.length
     ·rw[if_pos c,if_pos (by omega)]
     ·rw[if_neg c,if_neg (by omega)]
   |succ off=>
    obtain⟨a,b⟩:=ih off (v::r) (by simp;omega)
    refine⟨by simp[AU,a],fun j=>?_⟩
    cases j with
    |zero=>rw[if_neg (by omega)];simp[AU]
    |succ j=>
     simp only[AU,iv,b j,n0];by_cases c:off≤j∧j<off+(r.length+1)
     ·rw[if_pos c,if_pos (by omega)];congr 1;omega
     ·rw[if_neg c,if_neg (by omega)]
theorem Td(off:Nat):∀(r:List Value)(k:Nat)(cs:Array Value),off+k+r.length≤cs.size→
  Z5 cs.toList (off+k) r ((r.zipIdx k).foldl (fun cs (p:Value×Nat)=>cs.setIfInBounds (off+p.2) p.1) cs).toList:=by
 intro r
 induction r with
 |nil=>intro k cs h;exact⟨rfl,fun j=>by rw[if_neg (by simp)];rfl⟩
 |cons v r ih=>
  intro k cs h;simp only[n0]at h;simp only[List.zipIdx_cons,List.foldl_cons];obtain⟨a,b⟩:=ih (k+1) (cs.setIfInBounds (off+k) v) (by simp;omega)
  refine⟨by rw[a];simp,fun j=>?_⟩
  rw[b j];simp only[n0];by_cases c1:off+(k+1)≤j∧j<off+(k+1)+r.length
  ·rw[if_pos c1,if_pos (by omega)]
   have:j-(off+k)=(j-(off+(k+1)))+1:=by omega
   rw[this,iv]
  ·rw[if_neg c1];by_cases c2:j=off+k
   ·subst c2;rw[if_pos (by omega)]
    have:off+k<cs.size:=by omega
    simp[this]
   ·rw[if_neg (by omega)]
    simp only[oj];rw[vy (fun e=>c2 e.symm)]
theorem Z5.vl{J:Ren}{l r l2:List AV}{l' r' t:List Value}{off:Nat}(h:Z5 l off r l2)(h':Z5 l' off r' t)(hl:VL J l l')(hr:VL J r r'):VL J l2 t:=by
 refine⟨by rw[h.1,h'.1,hl.1],fun i a v I hv=>?_⟩
 rw[h.2 i]at I;rw[h'.2 i,←hr.1]at hv;by_cases c:off≤i∧i<off+r.length
 ·rw[if_pos c]at I hv;exact hr.2 _ a v I hv
 ·rw[if_neg c]at I hv;exact hl.2 _ a v I hv
def PL(b:Ren):List (Nat×AV)→List (Nat×Value)→Prop
 |[],[]=>True
 | (i,a)::r,(j,v)::c=>i=j∧VR b a v∧PL b r c
 |_,_=>False
theorem IU{k:Ren}{c:Nat→Option (Nat×Nat)}:∀{q:List (Nat×AV)} {e:List (Nat×Value)} {cells out:List AV} {b:Array Value},PL k q e→VL k cells b.toList→
  FA c cells q=some out→∃d,Instr.fill c b e=some d∧VL k out d.toList
 |[],[],cells,out,b,_,g,h=>by
  simp only[FA,C2]at h;subst h;exact⟨b,rfl,g⟩
 | (i,a)::r,(j,v)::E,cells,out,b,⟨t,u,w⟩,g,h=>by
  subst t;simp only[FA]at h;cases l:c i with
  |none=>simp[l]at h
  |some p=>
   obtain⟨off,size⟩:=p;simp only[l]at h;cases m:(Nat.beq a.cells.length size&&Nat.ble (off+size) cells.length && !a.isTop)with
   |false=>simp[m]at h
   |true=>
    simp only[m]at h;obtain⟨n,x⟩:=Av m;obtain⟨y,z⟩:=Av n;have o:a≠.top:=by rintro rfl;simp[AV.isTop]at x
    have F:=Ay y;have G:=C7 z;have hv:=u.cells o;have f:v.cells.size=size:=by have:=hv.1;simp at this;omega
    have A:cells.length=b.size:=by simpa using g.1
    have B:=FC cells off a.cells (by omega)
    have s:=Td off v.cells.toList 0 b (by simp;omega)
    simp only[qs]at s;obtain⟨d,C,D⟩:=IU w (B.vl s g hv) h;refine⟨d,?_,D⟩;simp only[Instr.fill,l];rw[if_neg (by simp[f];omega),←C]
    congr 1
    rw[←Array.foldl_toList];simp[Array.toList_zipIdx]
theorem Jt{b:Nat→Option (Nat×Nat)}:∀{f:List (Nat×AV)} {cells out:List AV},FA b cells f=some out→out.length=cells.length
 |[],cells,out,h=>by simp only[FA,C2]at h;subst h;rfl
 | (i,a)::r,cells,out,h=>by
  simp only[FA]at h;cases e:b i with
  |none=>simp[e]at h
  |some p=>
   obtain⟨off,size⟩:=p;simp only[e]at h;cases c:(Nat.beq a.cells.length size&&Nat.ble (off+size) cells.length && !a.isTop)with
   |false=>simp[c]at h
   |true=>
    simp only[c]at h;obtain⟨d,k⟩:=Av c;obtain⟨g,j⟩:=Av d;have l:=Ay g;have m:=C7 j;rw[Jt h,(FC cells off a.cells (by omega)).1]
section
variable {E:Env}(hE:OK E){ρ:Ren}{h:Aa}{w:World}
include hE
omit hE in
theorem BW{v:Value}{z:AV}(h:ofValue v=some z):z≠.top:=by
 rintro rfl
 cases v with
 |agg c=>simp only[ofValue]at h;cases hc:C1 c.toList<;>simp[hc]at h
 |pointer p=>cases p<;>simp[ofValue,A1]at h
 |slice p l c=>cases p<;>cases l<;>cases c<;>simp[ofValue,A1]at h
 |map r=>cases r<;>simp[ofValue,A1]at h
 |_=>simp[ofValue,A1]at h
theorem Ln(fs:List Field)(a:fs.all (fun f=>E.has f.type)=true)(w:World) :
  (fs.mapM fun f=>do pure (f.offset,←sizeOf f.type):Sem (List (Nat×Nat))).run E.P w=.ok (fs.map fun f=>(f.offset,E.size f.type)) w:=by
 induction fs with
 |nil=>simp
 |cons f r ih=>
  simp only[List.all_cons,F9]at a;simp only[List.mapM_cons,L1,hE.run_has a.1,F0,Ts,ih a.2,Ae2]
theorem Xs{t:TypeId}{u:List (Nat×AV)}{q:List (Nat×Value)}{a:AV}(B:PL ρ u q)(b:Pi E t u=some a) :
  ∃v,(Instr.build t q.toArray).run E.P w=.ok v w∧VR ρ a v:=by
 unfold Pi at b;cases m:E.zero t with
 |none=>simp[m]at b
 |some z=>
  obtain⟨F,z1,z2⟩:=hE.run_zero ρ m w;have C:=(AO ρ z2).cells (BW z2);cases o:E.desc t with
  |none=>simp[m,o]at b
  |some d=>
   cases d with
   |struct fs=>
    simp only[m,o]at b;cases j:fs.toList.all (fun f=>E.has f.type)with
    |false=>simp only[j]at b;cases b
    |true=>
     simp only[j]at b;cases k:FA (Pq E fs.toList) z.cells u with
     |none=>simp only[k,Option.map_none]at b;cases b
     |some out=>
      simp only[k,vx,C2]at b;subst b
      have x:Pq E fs.toList=(fun i=>((fs.toList.map fun f=>(f.offset,E.size f.type)).toArray)[i]?):=by
       funext i
       simp only[Pq,Aep,Aeo];cases fs.toList[i]?<;>rfl
      rw[x]at k;obtain⟨g,y,s⟩:=IU B C k;refine⟨.agg g,?_,?_⟩
      ·have D:=Ln hE fs.toList j w;simp only[Instr.build,L1,z1,F0,hE.run_und o];rw[Array.mapM_eq_mapM_toList];simp only[Sem.run_map,D,F0];rw[y];rfl
      ·exact .agg out g.toList s.1 s.2
   |array n e=>
    simp only[m,o]at b;cases A:E.has e with
    |false=>simp[A]at b
    |true=>
     simp only[A]at b;cases k:FA (fun i=>some (i*E.size e,E.size e)) z.cells u with
     |none=>simp[k]at b
     |some out=>
      simp only[k,vx,C2]at b;subst b;obtain⟨g,y,s⟩:=IU B C k;refine⟨.agg g,?_,.agg out g.toList s.1 s.2⟩;simp[Instr.build,z1,hE.run_und o,hE.run_has A,y]
   |_=>simp[m,o]at b
end
end Go.AE
namespace Go.AE
variable [Gl:AG]
variable [U:Unk]
theorem Iq(n:Nat)(h:n≤4611686018427387904):IntKind.i64.wrap (n:Int)=n:=IntWalk.i64_in _ (by omega)
theorem KO(z:List AV):∀(n i:Nat),i<n*z.length→(BJ z n)[i]?=z[i%z.length]?
 |0,i,h=>by simp at h
 |n+1,i,h=>by
  simp only[BJ];by_cases hi:i<z.length
  ·rw[hP hi,Nat.mod_eq_of_lt hi]
  ·rw[hS (by omega),KO z n (i-z.length) (by rw[Aen]at h;omega)]
   congr 1
   rw[←Nat.mod_eq_sub_mod (by omega)]
theorem Cl(z:List AV):∀n,(BJ z n).length=n*z.length
 |0=>by simp[BJ]
 |n+1=>by simp only[BJ,pc,Cl z n,Aen];omega
theorem Iy{ρ:Ren}{z:List AV}{zero:Array Value}(g:VL ρ z zero.toList)(n:Nat)(b:Array Value)(h:n*z.length=0∨b=zero) :
  VL ρ (BJ z n) ((Array.range (n*z.length)).map (b[· % b.size]!)).toList:=by
 have j:z.length=zero.size:=by simpa using g.1
 refine⟨by simp[Cl],fun i a v c hv=>?_⟩
 have hi:i<n*z.length:=by
  have:=(L2.1 c).1
  rwa [Cl]at this
 rcases h with h|rfl
 ·omega
 ·have d:0<z.length:=by
   rcases Nat.eq_zero_or_pos z.length with e|e
   ·rw[e]at hi;simp at hi
   ·exact e
  rw[KO z n i hi]at c;have k:i%z.length<z.length:=Nat.mod_lt _ d;simp only[Array.toList_map,Array.toList_range,Aeo,Afb hi,vx,C2]at hv;subst hv;obtain⟨v,hv,f⟩:=g.get c;rw[j]at hv
  have:b[i%b.size]! = v:=by
   rw[oj]at hv;simp[Array.getElem!_eq_getD,gg,hv]
  rw[this];exact f
section
variable {E:Env}(hE:OK E){ρ:Ren}{h:Aa}{w:World}
include hE
def AY(E:Env)(ρ:Ren)(h h':Aa)(w:World)(s:Sem Value)(a:AV):Prop:=
 ∃b v c,s.run E.P w=.ok v c∧VR b a v∧HR b h'.blk.get c∧Ext ρ b h h' w c
omit hE in
theorem Bs(hr:HR ρ h.blk.get w){s:Sem Value}{a:AV}(hs:∃v,s.run E.P w=.ok v w∧VR ρ a v):AY E ρ h h w s a:=by
 obtain⟨v,h1,h2⟩:=hs;exact⟨ρ,v,w,h1,h2,hr,Ext.refl ρ h w⟩
theorem Yg(hr:HR ρ h.blk.get w)(b:ρ h.nx=none){t:TypeId}{z:AV}(c:E.zero t=some z) :
  AY E ρ h (Bw h z.cells) w (Instr.alloc t true (.tuple #[])) (.ptr h.nx 0):=by
 obtain⟨d,z1,z2⟩:=hE.run_zero ρ c w;have e:=(AO ρ z2).cells (BW z2);obtain⟨f,g,i,j⟩:=hr.newList b t d.cells e;refine⟨f,.pointer (some ⟨w.heap.size,0,none⟩),_,?_,.ptr h.nx 0 _ g,i,j⟩;simp only[Instr.alloc,L1,z1,F0,newVar,newRow,Aez,Ts]
omit hE in
theorem gt(hr:HR ρ h.blk.get w)(hf:ρ h.nx=none){t:TypeId}{a:AV}{v:Value}(ha:VR ρ a v)(ht:a≠.top) :
  AY E ρ h (Bw h a.cells) w (Instr.box t v) (.ptr h.nx 0):=by
 obtain⟨σ,s1,q1,q2⟩:=hr.newList hf t v.cells (ha.cells ht);refine⟨σ,.pointer (some ⟨w.heap.size,0,none⟩),_,?_,.ptr h.nx 0 _ s1,q1,q2⟩;simp only[Instr.box,L1,F0,newVar,newRow,Aez,Ts]
theorem L6(hr:HR ρ h.blk.get w){t:TypeId}{len:Nat}{r:List (Nat×AV)}{n:List (Nat×Value)}{a:AV}{h':Aa}(y:PL ρ r n)(c:EZ E t len r h=some (a,h'))(hf:AW ρ h.nx h'.nx) :
  AY E ρ h h' w (Instr.buildSlice t len n.toArray) a:=by
 unfold EZ at c;cases o:E.desc t with
 |none=>simp[o]at c
 |some d=>
  cases d with
  |slice e=>
   simp only[o]at c;cases p:Nat.ble (len*E.size e) 16777216 with
   |false=>simp[p]at c
   |true=>
    cases q:E.zero e with
    |none=>simp[p,q]at c
    |some z=>
     simp only[p,q]at c;cases k:Nat.beq z.cells.length (E.size e)with
     |false=>simp[k]at c
     |true=>
      simp only[k]at c;cases g:FA (fun i=>some (i*E.size e,E.size e)) (BJ z.cells len) r with
      |none=>simp[g]at c
      |some cells=>
       simp only[g,C2,k0]at c;obtain⟨rfl,rfl⟩:=c;have f:=Ay k;have A:=C7 p;obtain⟨i,v,i1,i2,H⟩:=GE q;have u:∀w,(sizeOf e).run E.P w=.ok (E.size e) w:=fun w=>by rw[hE.run_sz i1];simp[Env.size,i1]
       obtain⟨x,z1,z2⟩:=hE.run_zero ρ q w;have B:=(AO ρ z2).cells (BW z2);have l:ρ h.nx=none:=hf h.nx (R2 _) (by simp[Bw,Aa.new])
       have C:len*z.cells.length=0∨(if len*E.size e=0 then #[]else x.cells)=x.cells:=by
        rw[f];by_cases m:len*E.size e=0
        ·exact .inl m
        ·exact .inr (by rw[if_neg m])
       have b:=Iy B len (if len*E.size e=0 then #[]else x.cells) C
       rw[f]at b;obtain⟨j,o1,o2⟩:=IU y b g;obtain⟨σ,s1,q1,q2⟩:=hr.newList l e j o2
       have D:j.size=len*E.size e:=by
        have F:=Jt g;rw[Cl,f]at F;have G:=o2.1;simp at G;omega
       refine⟨σ,.slice (some ⟨w.heap.size,0,none⟩) len len,_,?_,?_,q1,q2⟩
       ·simp only[Instr.buildSlice,L1,hE.run_und o,F0,u];rw[if_neg (by omega)]
        by_cases m:len*E.size e=0
        ·simp only[m,if_true]at o1;simp only[m,if_true,L1,Ts,F0];rw[o1];simp only[newRow,L1,Aez,F0,Ts]
        ·rw[if_neg m]at o1;rw[if_neg m];simp only[L1,z1,Ts,F0];rw[o1];simp only[newRow,L1,Aez,F0,Ts]
       ·exact VR.slice h.nx 0 len (E.size e) len _ s1 (R2 _) (by simp only[s0];omega)
  |_=>simp[o]at c
theorem NN(hr:HR ρ h.blk.get w){t:TypeId}{l c a:AV}{lv b:Value}{h':Aa}(f:VR ρ l lv)(e:VR ρ c b)(d:Iz E t l c h=some (a,h'))(hf:AW ρ h.nx h'.nx) :
  AY E ρ h h' w (Instr.makeSlice t lv b) a:=by unfold Iz at d;cases d
end
end Go.AE
namespace Go.AE
variable [Gl:AG]
variable [U:Unk]
theorem HR.strike{ρ:Ren}{h:Aa}{w:World}(r:HR ρ h.blk.get w)(b:Nat):HR ρ (h.strike b).blk.get w∧Ext ρ ρ h (h.strike b) w w:=by
 refine⟨r.restrict fun c=>?_,⟨Ren.le_refl ρ,R2 _,fun _ _ e=>.inl e,G8.refl w,fun _ _ _=>rfl,⟨[b],rfl,?_⟩,?_,fun _ _ e=>.inl e⟩⟩
 ·simp only[Aa.strike,T.get_del];by_cases e:b=c
  ·exact .inl (by rw[if_pos e])
  ·exact .inr (by rw[if_neg e])
 ·intro c l _;simp only[Aa.strike,T.get_del];rw[if_neg (fun e=>l (by simp[e]))]
 ·intro c l;simp only[Aa.strike,T.get_del]at l;by_cases e:b=c
  ·rw[if_pos e]at l;exact absurd rfl l
  ·rw[if_neg e]at l;exact .inl l
theorem HR.move{ρ:Ren}{h:Aa}{w:World}(hr:HR ρ h.blk.get w){b:Nat}{base base':Cu}(hb:ρ b=some base)(hl:h.blk.get b≠none)(hf:ρ h.nx=none)(al:base'.cb=base.cb)(x:An)
 (w':World)(hx:BR (ρ.upd h.nx base') x base' w'.heap[base.cb]?)(av:w'.heap.size=w.heap.size)(an:∀k,k≠base.cb→w'.heap[k]?=w.heap[k]?)(bm:w'.os=w.os)(ht:w'.tape=w.tape)(ho:w'.output=w.output) :
  HR (ρ.upd h.nx base') ((h.strike b).new x).blk.get w'∧Ext ρ (ρ.upd h.nx base') h ((h.strike b).new x) w w':=by
 have bd:=Ren.le_upd hf base';have bs:b≠h.nx:=by rintro rfl;rw[hf]at hb;cases hb
 have t:∀c d,ρ.upd h.nx base' c=some d→(c=h.nx∧d=base')∨(c≠h.nx∧ρ c=some d):=by
  intro c d l;simp only[Ren.upd]at l;by_cases e:c=h.nx
  ·rw[if_pos e]at l;exact .inl ⟨e,by simpa using l.symm⟩
  ·rw[if_neg e]at l;exact .inr ⟨e,l⟩
 have get:∀c,((h.strike b).new x).blk.get c=if h.nx=c then some x else if b=c then none else h.blk.get c:=by
  intro c;simp only[Aa.new,Aa.strike,T.get_set,T.get_del]
 refine⟨⟨?_,?_,?_,?_,?_,hr.glob⟩,⟨bd,Nat.le_succ _,?_,⟨bm,ht,ho,by omega⟩,?_,⟨[b],rfl,?_⟩,?_,fun _ _ e=>.inl e⟩⟩
 ·intro c d l;rcases t c d l with⟨_,rfl⟩|⟨_,I⟩
  ·rw[al,av];exact hr.lt b base hb
  ·rw[av];exact hr.lt c d I
 ·intro c d y l hy;rw[get]at hy;rcases t c d l with⟨rfl,rfl⟩|⟨J,I⟩
  ·rw[if_pos rfl]at hy;cases hy;rw[al];exact hx
  ·rw[if_neg (fun e=>J e.symm)]at hy
   by_cases e:b=c
   ·rw[if_pos e]at hy;cases hy
   ·rw[if_neg e]at hy;rw[an _ (hr.apart c b d base (fun q=>e q.symm) I hb (by rw[hy];simp) hl)]
    exact(hr.blk c d y I hy).mono bd
 ·have one:∀c d,c≠h.nx→ρ c=some d→((h.strike b).new x).blk.get c≠none→base'.cb≠d.cb:=by
   intro c d J I r;rw[get,if_neg (fun e=>J e.symm)]at r
   by_cases e:b=c
   ·rw[if_pos e]at r;exact absurd rfl r
   ·rw[if_neg e]at r;rw[al];exact hr.apart b c base d e hb I hl r
  intro c c' d d' J l be I r;rcases t c d l with⟨rfl,rfl⟩|⟨hn,h3⟩
  ·rcases t c' d' be with⟨e,_⟩|⟨ar,h4⟩
   ·exact absurd e.symm J
   ·exact one c' d' ar h4 r
  ·rcases t c' d' be with⟨rfl,rfl⟩|⟨ar,h4⟩
   ·exact(one c d hn h3 I).symm
   ·rw[get,if_neg (fun e=>hn e.symm)]at I
    rw[get,if_neg (fun e=>ar e.symm)]at r
    by_cases e:b=c
    ·rw[if_pos e]at I;exact absurd rfl I
    ·by_cases e':b=c'
     ·rw[if_pos e']at r;exact absurd rfl r
     ·rw[if_neg e]at I;rw[if_neg e']at r;exact hr.apart c c' d d' J h3 h4 I r
 ·intro k arr hk;rw[an k (hr.off k arr b base hk hb hl).symm];exact hr.imm k arr hk
 ·intro k arr c d hk l r;rcases t c d l with⟨rfl,rfl⟩|⟨hn,h3⟩
  ·rw[al];exact hr.off k arr b base hk hb hl
  ·rw[get,if_neg (fun e=>hn e.symm)]at r
   by_cases e:b=c
   ·rw[if_pos e]at r;exact absurd rfl r
   ·rw[if_neg e]at r;exact hr.off k arr c d hk h3 r
 ·intro c d l;rcases t c d l with⟨rfl,rfl⟩|⟨_,I⟩
  ·exact .inr ⟨R2 _,Nat.lt_succ_self _,.inr ⟨b,base,hb,hl,al.symm⟩⟩
  ·exact .inl I
 ·intro k hk hn;exact an k (fun e=>hn b base hb hl e.symm)
 ·intro c l bn;rw[get,if_neg (by simp only[Aa.new,Aa.strike]at bn;omega),if_neg (fun e=>l (by simp[e]))]
 ·intro c l;rw[get]at l;by_cases e:h.nx=c
  ·exact .inr ⟨by omega,by simp only[Aa.new,Aa.strike];omega⟩
  ·rw[if_neg e]at l;by_cases e':b=c
   ·rw[if_pos e']at l;exact absurd rfl l
   ·rw[if_neg e']at l;exact .inl l
theorem Ext.drawn{ρ t:Ren}{h h':Aa}{w w1 I:World}(e:Ext ρ t h h' w1 I)(l:w1.heap=w.heap)(r:w1.os=w.os)(J:w1.tape=w.tape)(ho:w1.output=w.output):Ext ρ t h h' w I:=
 ⟨e.le,e.nx,l▸e.new,⟨e.calm.os.trans r,e.calm.tape.trans J,e.calm.output.trans ho,l▸e.calm.size⟩,l▸e.kept,e.log,e.live,l▸e.imm⟩
theorem AT(P:Program)(w:World)(b o k:Nat)(a:Array Value)(e:TypeId)(f:Nat×Nat)(g:w.heap[b]?=some (.cells a e f))(i:o+k≤a.size) :
  (Go.loadCells ⟨b,o,none⟩ k).run P w=.ok ((a.toList.drop o).take k).toArray w:=by
 have h:((a.toList.drop o).take k).length=k:=by simp;omega
 have:=C8 (w:=w) P b o ((a.toList.drop o).take k) 0 #[] (by
  intro j v d;rw[vv]at d;by_cases c:j<k
  ·rw[if_pos c]at d;simp only[q0,oj]at d;simp[World.cell?,g,d]
  ·rw[if_neg c]at d;cases d)
 rw[h]at this;simpa[Go.loadCells]using this
theorem Gm:∀(l:List UInt8),Hn l.length (AC l)=l.map fun b=>AV.int .u8 (b.toNat:Nat)
 |[]=>rfl
 |b::r=>by
  obtain⟨a,c⟩:=Hv b r;simp only[n0,Hn,a,c,Gm r,Ae2]
theorem Sv(e:Ren)(l:List UInt8):VL e (l.map fun b=>AV.int .u8 (b.toNat:Nat)) (l.map fun b=>Value.int .u8 (b.toNat:Nat)):=by
 refine⟨by simp,fun i a v c hv=>?_⟩
 simp only[Aeo]at c hv;cases d:l[i]? with
 |none=>simp[d]at c
 |some b=>
  simp only[d,vx,C2]at c hv;subst c;subst hv;exact .int _ _
section
variable {E:Env}(hE:OK E){ρ:Ren}{h:Aa}{w:World}
theorem cz(A:HR ρ h.blk.get w)(P:Program){i n m:Nat}{x:AV}{u:Value}{l:List AV}(D:VR ρ x u)(e:Ny x=some m)(M:n≤m)(d:PI h i n x=some l) :
  ∃r:List Value,VL ρ l r∧l.length=n*i∧(Builtin.lenOf u).run P w=.ok m w∧∀g:World,g.heap=w.heap→(Builtin.firstCells i n u).run P g=.ok r.toArray g:=by
 cases D with
 |slice0=>
  simp only[Ny,C2]at e;simp only[PI,C2]at d;subst d;have:n=0:=by omega
  subst this;exact⟨[],VL.nil ρ,by simp,by simp[Builtin.lenOf,e.symm],fun g _=>by simp[Builtin.firstCells]⟩
 |slice b off k q F base G N O=>
  simp only[Ny,C2]at e;subst e;simp only[PI]at d;cases f:Nat.beq i q with
  |false=>simp[f]at d
  |true=>
   simp only[f]at d;have:=Ay f;subst this;unfold C0 at d;cases o:h.blk.get b with
   |none=>simp[o]at d
   |some y=>
    cases y with
    |cells z c=>
     simp only[o]at d;cases t:Nat.ble (off+n*i) z with
     |false=>simp[t]at d
     |true=>
      simp only[t]at d;have p:=(T.range_spec c _ _ _ d).1;obtain⟨r,B,Q,H⟩:=A.loadCells P G o (C7 t) d;refine⟨r,B,p,by simp[Builtin.lenOf],fun g C=>?_⟩
      have I:HR ρ h.blk.get g:=A.same C;have hv:r.length=n*i:=by rw[←B.1,p]
      have J:=C8 (w:=g) P base.cb (base.co+off) r 0 #[] (fun j v K=>by
       have:=H j v K;simp only[s0];rw[←this];simp[World.cell?,C])
      simp only[Builtin.firstCells,Go.loadCells];rw[←hv,J];simp
    |_=>simp[o]at d
 |sliceEnd b off q a=>
  simp only[Ny,C2]at e;have:n=0:=by omega
  subst this;simp only[PI]at d;cases f:Nat.beq i q with
  |false=>simp[f]at d
  |true=>
   simp only[f,Nat.zero_mul]at d
   have L:l=[]:=by
    unfold C0 at d;cases o:h.blk.get b with
    |none=>simp[o]at d
    |some y=>
     cases y with
     |cells z c=>
      simp only[o]at d;cases t:Nat.ble (off+0) z with
      |false=>simp only[t]at d;cases d
      |true=>simp only[t,T.range,C2]at d;exact d.symm
     |_=>simp[o]at d
   subst L;exact⟨[],VL.nil ρ,by simp,by simp[Builtin.lenOf,e.symm],fun g _=>by simp[Builtin.firstCells,Go.loadCells,loadCellsFrom]⟩
 |str s=>
  simp only[Ny,C2]at e;simp only[PI]at d;cases f:Nat.beq i 1 with
  |false=>simp[f]at d
  |true=>
   simp only[f,C2]at d;have:=Ay f;subst this;subst d;rw[Gm];refine⟨(s.data.toList.map fun b=>Value.int .u8 (b.toNat:Nat)).take n,(Sv ρ _).take n,by simp at e ⊢;omega,by simp[Builtin.lenOf];simpa using e,fun g _=>?_⟩
   simp only[Builtin.firstCells,Ts]
   congr 1
   apply Array.ext';simp[ByteArray.data_extract]
 |_=>simp[Ny]at e
end
end Go.AE
namespace Go.AE
variable [Gl:AG]
variable [U:Unk]
section
variable {P:Program}{w:World}
inductive Yl(P:Program)(w:World)(t' e:TypeId)(inf:TypeInfo)(xv:Value)(m:Nat)(nv:List Value):Prop
 |cells (d:TypeDesc) (hu:P.underlying t'=some d) (hd:(∃e',d=.slice e')∨d=.string) (hl:(Builtin.lenOf xv).run P w=.ok m w)
   (hf:∀w':World,w'.heap=w.heap→(Builtin.firstCells inf.size m xv).run P w'=.ok nv.toArray w')
 |zeros (k k':IntKind) (hu:P.underlying t'=some (.int k)) (hx:xv=.int k' (m:Int)) (hm:m≤1048576) (hb:m*inf.bytes≤140737488355328)
   (z:Value) (hz:inf.zero=some z) (hzs:z.cells.size=inf.size) (hn:nv.toArray=Builtin.zeroCells z.cells m)
theorem C4(t l ty e:TypeId)(b:TypeInfo)(x:P.underlying t=some (.slice e))(hi:P.info? e=some b)(y:Value)(m:Nat)(nv:List Value)(B:Yl P w l e b y m nv)
 (base:Option Addr)(c f:Nat)(g:c+m≤f) :
  (Builtin.append_ #[t,l] ty #[.slice base c f,y]).run P w =
   ((match base with|some a=>storeCells (a.add (c*b.size)) nv|none=>pure ()).run P w).andThen fun _ C=>.ok (.slice base (c+m) f) C:=by
 cases B with
 |cells d n D E F=>
  have o:=F w rfl;have p:(underlying l).run P w=.ok d w:=by simp[underlying,n]
  have q:(underlying t).run P w=.ok (.slice e) w:=by simp[underlying,x]
  have r:(sizeOf e).run P w=.ok b.size w:=by simp[sizeOf,typeInfo,hi]
  unfold Builtin.append_
  rcases D with⟨M,rfl⟩|rfl<;>
   simp only[Aep,gy,iv,L1,q,F0,r,p,ie,Aey,E,if_pos g,Bool.not_false,if_true,o,Ts]<;>
   cases base<;>simp
 |zeros k N n G O Q z H s A=>
  subst G;have I:=Iq m (by omega)
  have J:¬((m:Int)<0):=by omega
  have u:¬((m:Int)*(b.bytes:Int)>2^48):=by
   have:((m*b.bytes:Nat):Int)≤140737488355328:=by omega
   rw[Int.natCast_mul]at this;omega
  have p:(underlying l).run P w=.ok (.int k) w:=by simp[underlying,n]
  have q:(underlying t).run P w=.ok (.slice e) w:=by simp[underlying,x]
  have r:(sizeOf e).run P w=.ok b.size w:=by simp[sizeOf,typeInfo,hi]
  have K:(typeInfo e).run P w=.ok b w:=by simp[typeInfo,hi]
  have L:(zeroValue e).run P w=.ok z w:=by simp[zeroValue,typeInfo,hi,H]
  have i:nv=[]∨m*b.size≠0:=by
   by_cases j:m*b.size=0
   ·left;have:nv.toArray.size=0:=by rw[A];simp[Builtin.zeroCells,s,j]
    simpa using this
   ·exact .inr j
  unfold Builtin.append_;simp only[Aep,gy,iv,L1,q,F0,r,p,Ts,if_true,asInt,asIntOf,I,if_neg J,K,if_neg u,Afa,if_pos g,Bool.not_true,ie,Aey];by_cases j:m*b.size=0
  ·have v:nv=[]:=by
    rcases i with h|h
    ·exact h
    ·exact absurd j h
   subst v;rw[if_pos j];cases base<;>simp[storeCells]
  ·rw[if_neg j];simp only[L1,L,F0,Ts,←A];cases base<;>simp
theorem DM(t s ty e:TypeId)(c:TypeInfo)(K:P.underlying t=some (.slice e))(hi:P.info? e=some c)(z:Value)(o:c.zero=some z)(F:Value)(m:Nat)(nv:List Value)(L:Yl P w s e c F m nv)
 (base:Option Addr)(a b:Nat)(i:b<a+m)(M:a+m≤4611686018427387904)(u:(a+m)*c.bytes≤140737488355328)(ov:Array Value)
 (G:∀v:World,v.heap=w.heap→(Builtin.firstCells c.size a (.slice base a b)).run P v=.ok ov v) :
  ∃j,a+m≤j∧(Builtin.append_ #[t,s] ty #[.slice base a b,F]).run P w =
   .ok (.slice (some ⟨w.heap.size,0,none⟩) (a+m) j) {w with drawn:=w.drawn+1,heap:=w.heap.push (.cells (ov++nv.toArray++Builtin.zeroCells z.cells (j-(a+m))) e)}:=by
 refine⟨grownCap w (a+m) b e,grownCap_ge w _ _ _,?_⟩;have p:¬(a+m≤b):=by omega
 have f:¬(((a+m:Nat):Int)>IntKind.i64.max):=by simp only[IntKind.max,IntKind.signed,IntKind.bits];omega
 have g:¬(Builtin.nextslicecap (a+m) b*c.bytes>2^48):=by have:=growslice_fits i u;omega
 have l:({w with drawn:=w.drawn+1}:World).heap=w.heap:=rfl
 have H:∀w:World,(underlying t).run P w=.ok (.slice e) w:=fun w=>by simp[underlying,K]
 have I:∀w:World,(sizeOf e).run P w=.ok c.size w:=fun w=>by simp[sizeOf,typeInfo,hi]
 have n:∀w:World,(typeInfo e).run P w=.ok c w:=fun w=>by simp[typeInfo,hi]
 have x:∀w:World,(zeroValue e).run P w=.ok z w:=fun w=>by simp[zeroValue,typeInfo,hi,o]
 have q:(choose (.appendCap (a+m) b e)).run P w=.ok (grownCap w (a+m) b e) {w with drawn:=w.drawn+1}:=by simp[Question.forced,grownCap]
 cases L with
 |cells d y N O Q=>
  have A:(underlying s).run P w=.ok d w:=by simp[underlying,y]
  unfold Builtin.append_;rcases N with⟨V,rfl⟩|rfl
  all_goals
   simp only[Aep,gy,iv,L1,H,F0,I,A,ie,Aey,O,if_neg p,Bool.not_false,if_true,n,Ts];rw[if_neg (fun h=>f h.1)]
   simp only[L1,n,F0];rw[if_neg g];simp only[L1,q,F0,n,run_askRoom,G _ l,Q _ l,x,newRow,Aez,Ts]
 |zeros k W y R X Y Z r B J=>
  subst R;rw[o]at r;cases r;have S:=Iq m (by omega)
  have T:¬((m:Int)<0):=by omega
  have C:¬((m:Int)*(c.bytes:Int)>2^48):=by
   have:((m*c.bytes:Nat):Int)≤140737488355328:=by omega
   rw[Int.natCast_mul]at this;omega
  have A:(underlying s).run P w=.ok (.int k) w:=by simp[underlying,y]
  unfold Builtin.append_;simp only[Aep,gy,iv,L1,H,F0,I,A,Ts,if_true,asInt,asIntOf,S,if_neg T,n,if_neg C,Afa,if_neg p,Bool.not_true,ie,Aey];rw[if_neg (fun h=>f h.1)]
  simp only[L1,n,F0];rw[if_neg g];simp only[L1,q,F0,n,run_askRoom,G _ l];by_cases D:m*c.size=0
  ·rw[if_pos D]
   have E:nv.toArray = #[]:=by
    rw[J];apply Array.eq_empty_of_size_eq_zero;simp[Builtin.zeroCells,B,D]
   simp only[Ts,F0,L1,x,newRow,Aez,E]
  ·rw[if_neg D];simp only[Ts,F0,L1,x,newRow,Aez,J]
end
end Go.AE
namespace Go.AE
variable [Gl:AG]
variable [U:Unk]
section
variable {E:Env}(hE:OK E){ρ:Ren}{h:Aa}{w:World}
include hE
omit hE in
theorem I6(hr:HR ρ h.blk.get w)(hf:ρ h.nx=none)(e:TypeId){news olds:List AV}{nv ov:List Value}(hn:VL ρ news nv)(k sLen m cap es:Nat)(hov:ov.length=k){c:T AV}
 (hc:∀i a,i<k+news.length→c.get i=some a→(∃v,i<k∧ov[i]?=some v∧VR ρ a v)∨(k≤i∧news[i-k]?=some a))
 (rest:Array Value)(hsz:(sLen+m)*es=k+news.length)(hrest:rest.size=(cap-(sLen+m))*es)(hcap:sLen+m≤cap) :
  ∃σ,HR σ (h.new (.cells (k+news.length) c)).blk.get {w with drawn:=w.drawn+1,heap:=w.heap.push (.cells (ov.toArray++nv.toArray++rest) e)}∧
   Ext ρ σ h (h.new (.cells (k+news.length) c)) w {w with drawn:=w.drawn+1,heap:=w.heap.push (.cells (ov.toArray++nv.toArray++rest) e)}∧
   VR σ (.slice h.nx 0 (sLen+m) es) (.slice (some ⟨w.heap.size,0,none⟩) (sLen+m) cap):=by
 have hnl:=hn.1;have hr1:HR ρ h.blk.get {w with drawn:=w.drawn+1}:=hr.same rfl
 have hasz:(ov.toArray++nv.toArray++rest).size=cap*es:=by
  simp only[Array.size_append,List.size_toArray,hov,←hnl,hrest];have:cap*es=(sLen+m)*es+(cap-(sLen+m))*es:=by rw[←Aen];congr 1;omega
  omega
 obtain⟨σ,s1,q1,q2⟩:=hr1.newRow hf e (n:=k+news.length) (c:=c) (ov.toArray++nv.toArray++rest) (by
  simp only[Array.size_append,List.size_toArray,hov,←hnl];omega) (by
  intro i a hi ha;rcases hc i a hi ha with⟨v,h1,h2,h3⟩|⟨h1,h2⟩
  ·exact⟨v,by rw[Array.append_assoc,Ae0 (by simp;omega)];simpa using h2,h3⟩
  ·obtain⟨v,hv,hvr⟩:=hn.get h2;refine⟨v,?_,hvr⟩;rw[Ae0 (by simp;omega),Array.getElem?_append_right (by simp;omega)]
   simpa[hov]using hv)
 refine⟨σ,q1,Ext.drawn q2 rfl rfl rfl rfl,?_⟩;have hv:=VR.slice (ρ:=σ) h.nx 0 (sLen+m) es cap _ s1 hcap (by simp only[s0];omega)
 exact hv
theorem KM(hr:HR ρ h.blk.get w){t D ty e:TypeId}{d:TypeInfo}(N:E.P.underlying t=some (.slice e))(hi:E.ty.get e=some d){z:AV}(hz:E.zero e=some z)(af:z.cells.length=d.size){s a:AV}{sv F:Value}{m:Nat}{news:List AV}{nv:List Value}{h':Aa}
 (hs:VR ρ s sv)(g:Yl E.P w D e d F m nv)(hn:VL ρ news nv)(hnl:news.length=m*d.size)(ha:CE d s m news h=some (a,h'))(hf:AW ρ h.nx h'.nx) :
  AY E ρ h h' w (Builtin.append_ #[t,D] ty #[sv,F]) a:=by
 obtain⟨i',I,i1,i2,i3⟩:=GE hz;rw[hi]at i1;cases i1;have j:=hE.ty e d hi
 have J:I.cells.size=d.size:=by
  have:=((AO ρ i3).cells (BW i3)).1;simp at this;omega
 cases hs with
 |slice0=>
  simp only[CE]at ha;cases hc:(Nat.ble m 4611686018427387904&&Nat.ble (m*d.bytes) 140737488355328)with
  |false=>simp[hc]at ha
  |true=>
   simp only[hc]at ha;obtain⟨c1,c2⟩:=Av hc;have d1:=C7 c1;have d2:=C7 c2;cases m with
   |zero=>
    simp only[C2,k0]at ha;obtain⟨rfl,rfl⟩:=ha;refine Bs hr ⟨.slice none 0 0,?_,.slice0⟩;rw[C4 t D ty e d N j F 0 nv g none 0 0 (by omega)]
    rfl
   |succ m=>
    simp only[C2,k0]at ha;obtain⟨rfl,rfl⟩:=ha;have f:ρ h.nx=none:=hf h.nx (R2 _) (by simp[Bw,Aa.new])
    obtain⟨cap,k1,k2⟩:=DM t D ty e d N j I i2 F (m+1) nv g none 0 0 (by omega) (by omega) (by simpa using d2) #[] (fun K _=>by simp[Builtin.firstCells])
    obtain⟨σ,q1,q2,G⟩:=I6 hr f e (olds:=[]) (ov:=[]) hn 0 0 (m+1) cap d.size rfl (c:=.ofList news) (by
     intro i a hi ha;rw[T.get_ofList]at ha;exact .inr ⟨Aex _,by simpa using ha⟩) (Builtin.zeroCells I.cells (cap-(0+(m+1)))) (by simp[hnl]) (by simp[Builtin.zeroCells,J]) k1
    simp only[s0]at q1 q2 G k2;exact⟨σ,_,_,k2,G,q1,q2⟩
 |slice b off n es cap base Y hcap Z=>
  simp only[CE]at ha;cases hc:(Nat.beq d.size es&&EA news&&Nat.ble (n+m) 4611686018427387904&&Nat.ble ((n+m)*d.bytes) 140737488355328)with
  |false=>simp[hc]at ha
  |true=>
   simp only[hc]at ha;obtain⟨A,c4⟩:=Av hc;obtain⟨c12,c3⟩:=Av A;obtain⟨c1,c2⟩:=Av c12;have d1:=Ay c1;have d3:=C7 c3;have d4:=C7 c4;subst d1;cases m with
   |zero=>
    simp only[C2,k0]at ha;obtain⟨rfl,rfl⟩:=ha
    have S:nv=[]:=by
     have x:=hn.1;rw[hnl]at x;simpa using x.symm
    subst S;refine Bs hr ⟨.slice (some ⟨base.cb,base.co+off,none⟩) n cap,?_,.slice b off n d.size cap base Y hcap Z⟩;rw[C4 t D ty e d N j F 0 [] g _ n cap (by omega)]
    simp[storeCells]
   |succ m=>
    simp only[]at ha;cases r:h.blk.get b with
    |none=>simp[r]at ha
    |some y=>
     cases y with
     |cells O c=>
      simp only[r]at ha
      have B:∃H,a=.slice h.nx 0 (n+(m+1)) d.size∧h'=(h.strike b).new (.cells (n*d.size+news.length) H)∧off+n*d.size≤O∧
        ∀i a,i<n*d.size+news.length→H.get i=some a→(i<n*d.size∧c.get (off+i)=some a)∨(n*d.size≤i∧news[i-n*d.size]?=some a):=by
       cases W:(Nat.beq off 0&&Nat.beq (n*d.size) O)with
       |true=>
        simp only[W,C2,k0]at ha;obtain⟨rfl,rfl⟩:=ha;obtain⟨Q,L⟩:=Av W;have x:=Ay Q;have e2:=Ay L;subst x;refine⟨_,rfl,rfl,by omega,?_⟩
        intro i a hi ha;rw[FU]at ha;by_cases c:n*d.size≤i∧i<n*d.size+news.length
        ·rw[if_pos c]at ha;exact .inr ⟨c.1,ha⟩
        ·rw[if_neg c]at ha;exact .inl ⟨by omega,by simpa using ha⟩
       |false=>
        simp only[W]at ha;cases o:C0 h b off (n*d.size)with
        |none=>simp[o]at ha
        |some olds=>
         simp only[o,C2,k0]at ha;obtain⟨rfl,rfl⟩:=ha;unfold C0 at o;simp only[r]at o;cases p:Nat.ble (off+n*d.size) O with
         |false=>simp[p]at o
         |true=>
          simp only[p]at o;obtain⟨l1,l2⟩:=T.range_spec c _ _ _ o;refine⟨_,rfl,rfl,C7 p,?_⟩;intro i a hi ha;rw[T.get_ofList]at ha;by_cases c:i<n*d.size
          ·rw[hP (by omega)]at ha
           exact .inl ⟨c,by rw[l2 i c];exact ha⟩
          ·rw[hS (by omega),l1]at ha
           exact .inr ⟨by omega,ha⟩
      clear ha;obtain⟨H,rfl,rfl,aa,M⟩:=B;have f:ρ h.nx=none:=hf h.nx (R2 _) (by simp[Aa.new,Aa.strike])
      obtain⟨q,x,fz,r1,X,r3,r4,r5⟩:=hr.blk b base _ Y r;have R:nv.length=(m+1)*d.size:=by rw[←hn.1,hnl]
      have ae:n*d.size≤cap*d.size:=ll _ hcap;by_cases u:n+(m+1)≤cap
      ·
       have ab:(n+(m+1))*d.size≤cap*d.size:=ll _ u;rw[Aen]at ab;obtain⟨K,ac,q1,q2,G,q4,q5,q6,q7,q8,q9⟩:=BM E.P base.cb (base.co+off+n*d.size) x fz nv 0 w q r1 (by rw[R,X];omega) (by rw[X];exact r4) (Ia c2 hn)
       have hx:BR (ρ.upd h.nx ⟨base.cb,base.co+off,base.csz⟩) (.cells (n*d.size+news.length) H) ⟨base.cb,base.co+off,base.csz⟩ K.heap[base.cb]?:=by
        refine⟨ac,x,fz,q2,by rw[G,X],?_,r4,?_⟩
        ·show base.co+off+(n*d.size+news.length)≤base.csz;rw[hnl];omega
        ·intro i a hi ha;rw[q4];simp only[qs];rcases M i a hi ha with⟨Q,L⟩|⟨Q,L⟩
         ·rw[if_neg (by omega)]
          obtain⟨v,hv,hvr⟩:=r5 (off+i) a (by omega) L
          exact⟨v,by rw[←hv];congr 1;omega,hvr.mono (Ren.le_upd f _)⟩
         ·rw[if_pos (by rw[R,←hnl];omega)]
          obtain⟨v,hv,hvr⟩:=hn.get L;exact⟨v,by rw[←hv];congr 1;omega,hvr.mono (Ren.le_upd f _)⟩
       obtain⟨p1,p2⟩:=hr.move Y (by rw[r];simp) f (base':=⟨base.cb,base.co+off,base.csz⟩) rfl _ K hx q5 q6 q7 q8 q9
       refine⟨_,.slice (some ⟨base.cb,base.co+off,none⟩) (n+(m+1)) cap,K,?_,?_,p1,p2⟩
       ·rw[C4 t D ty e d N j F (m+1) nv g _ n cap u];simp only[B2];rw[q1];rfl
       ·have:=VR.slice (ρ:=ρ.upd h.nx ⟨base.cb,base.co+off,base.csz⟩) h.nx 0 (n+(m+1)) d.size cap _ (Ren.upd_same _ _ _) u (by simp only[qs];omega)
        simpa using this
      ·
       have hov:=AT E.P
       obtain⟨l,k1,k2⟩:=DM t D ty e d N j I i2 F (m+1) nv g (some ⟨base.cb,base.co+off,none⟩) n cap (by omega) (by omega) d4 ((q.toList.drop (base.co+off)).take (n*d.size)).toArray (fun K hw=>by
        simp only[Builtin.firstCells];exact AT E.P K base.cb (base.co+off) (n*d.size) q x fz (by rw[hw];exact r1) (by rw[X];omega))
       obtain⟨p1,p2⟩:=hr.strike b;have C:((q.toList.drop (base.co+off)).take (n*d.size)).length=n*d.size:=by simp;omega
       obtain⟨σ,q1,q2,G⟩:=I6 p1 f e (olds:=[]) (ov:=(q.toList.drop (base.co+off)).take (n*d.size)) hn (n*d.size) n (m+1) l d.size C (c:=H) (by
        intro i a hi ha;rcases M i a hi ha with⟨Q,L⟩|⟨Q,L⟩
        ·obtain⟨v,hv,hvr⟩:=r5 (off+i) a (by omega) L
         refine .inl ⟨v,Q,?_,hvr⟩;rw[vv,if_pos Q,q0,oj,←hv]
         congr 1;omega
        ·exact .inr ⟨Q,L⟩) (Builtin.zeroCells I.cells (l-(n+(m+1)))) (by rw[hnl,Aen]) (by simp[Builtin.zeroCells,J]) k1
       refine⟨σ,_,_,k2,G,q1,p2.trans q2 ?_⟩;exact hf
     |_=>simp[r]at ha
 |fsl b off n es base Y Z=>
  simp only[CE]at ha;cases hc:(Nat.beq d.size es&&Nat.ble (n+m) 4611686018427387904&&Nat.ble ((n+m)*d.bytes) 140737488355328)with
  |false=>simp[hc]at ha
  |true=>
   simp only[hc]at ha;obtain⟨c12,c4⟩:=Av hc;obtain⟨c1,c3⟩:=Av c12;have d1:=Ay c1;have d3:=C7 c3;have d4:=C7 c4;subst d1;cases m with
   |zero=>cases ha
   |succ m=>
    simp only[]at ha;cases r:h.blk.get b with
    |none=>simp[r]at ha
    |some y=>
     cases y with
     |cells O c=>
      simp only[r]at ha;cases o:C0 h b off (n*d.size)with
      |none=>simp[o]at ha
      |some olds=>
       simp only[o,C2,k0]at ha;obtain⟨rfl,rfl⟩:=ha;unfold C0 at o;simp only[r]at o;cases p:Nat.ble (off+n*d.size) O with
       |false=>simp[p]at o
       |true=>
        simp only[p]at o;obtain⟨l1,l2⟩:=T.range_spec c _ _ _ o;have aa:=C7 p;have f:ρ h.nx=none:=hf h.nx (R2 _) (by simp[Aa.new])
        obtain⟨q,x,fz,r1,X,r3,r4,r5⟩:=hr.blk b base _ Y r
        obtain⟨l,k1,k2⟩:=DM t D ty e d N j I i2 F (m+1) nv g (some ⟨base.cb,base.co+off,none⟩) n n (by omega) (by omega) d4 ((q.toList.drop (base.co+off)).take (n*d.size)).toArray (fun K hw=>by
         simp only[Builtin.firstCells];exact AT E.P K base.cb (base.co+off) (n*d.size) q x fz (by rw[hw];exact r1) (by rw[X];omega))
        have C:((q.toList.drop (base.co+off)).take (n*d.size)).length=n*d.size:=by simp;omega
        obtain⟨σ,q1,q2,G⟩:=I6 hr f e (olds:=[]) (ov:=(q.toList.drop (base.co+off)).take (n*d.size)) hn (n*d.size) n (m+1) l d.size C (c:=.ofList (olds++news)) (by
         intro i a hi ha;rw[T.get_ofList]at ha;by_cases V:i<n*d.size
         ·rw[hP (by omega)]at ha
          have h2:c.get (off+i)=some a:=by rw[l2 i V];exact ha
          obtain⟨v,hv,hvr⟩:=r5 (off+i) a (by omega) h2
          refine .inl ⟨v,V,?_,hvr⟩;rw[vv,if_pos V,q0,oj,←hv]
          congr 1;omega
         ·rw[hS (by omega),l1]at ha
          exact .inr ⟨by omega,ha⟩) (Builtin.zeroCells I.cells (l-(n+(m+1)))) (by rw[hnl,Aen]) (by simp[Builtin.zeroCells,J]) k1
        exact⟨σ,_,_,k2,G,q1,q2⟩
     |_=>simp[r]at ha
 |sliceEnd b off es ad=>
  simp only[CE]at ha;cases hc:(Nat.beq d.size es&&EA news&&Nat.ble (0+m) 4611686018427387904&&Nat.ble ((0+m)*d.bytes) 140737488355328)with
  |false=>simp only[hc]at ha;cases ha
  |true=>
   simp only[hc]at ha;obtain⟨A,c4⟩:=Av hc;obtain⟨c12,c3⟩:=Av A;obtain⟨c1,c2⟩:=Av c12;have d1:=Ay c1;have d3:=C7 c3;have d4:=C7 c4;subst d1;cases m with
   |zero=>
    simp only[C2,k0]at ha;obtain⟨rfl,rfl⟩:=ha
    have S:nv=[]:=by
     have x:=hn.1;rw[hnl]at x;simpa using x.symm
    subst S;refine Bs hr ⟨.slice (some ad) 0 0,?_,.sliceEnd b off d.size ad⟩;rw[C4 t D ty e d N j F 0 [] g _ 0 0 (by omega)]
    simp[storeCells]
   |succ m=>
    simp only[]at ha;cases r:h.blk.get b with
    |none=>simp[r]at ha
    |some y=>
     cases y with
     |cells O c=>
      simp only[r]at ha
      have B:∃H,a=.slice h.nx 0 (0+(m+1)) d.size∧h'=(h.strike b).new (.cells (0*d.size+news.length) H)∧
        ∀i a,i<0+news.length→H.get i=some a→news[i]?=some a:=by
       cases W:(Nat.beq off 0&&Nat.beq (0*d.size) O)with
       |true=>
        simp only[W,C2,k0]at ha;obtain⟨rfl,rfl⟩:=ha;refine⟨_,rfl,rfl,?_⟩;intro i a hi ha;rw[FU]at ha;rw[if_pos (by simp only[Nat.zero_mul];omega)]at ha
        simpa using ha
       |false=>
        simp only[W]at ha;cases o:C0 h b off (0*d.size)with
        |none=>simp only[o]at ha;cases ha
        |some olds=>
         simp only[o,C2,k0]at ha;obtain⟨rfl,rfl⟩:=ha
         have ho:olds=[]:=by
          unfold C0 at o;simp only[r,Nat.zero_mul]at o;cases p:Nat.ble (off+0) O with
          |false=>simp only[p]at o;cases o
          |true=>simp only[p,T.range,C2]at o;exact o.symm
         subst ho;refine⟨_,rfl,rfl,?_⟩;intro i a hi ha;rw[T.get_ofList]at ha;simpa using ha
      clear ha;obtain⟨H,rfl,rfl,M⟩:=B;have f:ρ h.nx=none:=hf h.nx (R2 _) (by simp[Aa.new,Aa.strike])
      obtain⟨l,k1,k2⟩:=DM t D ty e d N j I i2 F (m+1) nv g (some ad) 0 0 (by omega) (by omega) d4 #[] (fun K hw=>by simp[Builtin.firstCells,Go.loadCells,loadCellsFrom])
      obtain⟨p1,p2⟩:=hr.strike b
      obtain⟨σ,q1,q2,G⟩:=I6 p1 f e (olds:=[]) (ov:=[]) hn 0 0 (m+1) l d.size rfl (c:=H) (by
       intro i a hi ha;exact .inr ⟨Aex _,by simpa using M i a hi ha⟩) (Builtin.zeroCells I.cells (l-(0+(m+1)))) (by simp[hnl]) (by simp[Builtin.zeroCells,J]) k1
      simp only[Nat.zero_mul]at hf ⊢;exact⟨σ,_,_,k2,G,q1,p2.trans q2 hf⟩
     |_=>simp[r]at ha
 |_=>simp[CE]at ha
theorem MK(hr:HR ρ h.blk.get w){t t' ty:TypeId}{s x a:AV}{B C:Value}{h':Aa}(H:VR ρ s B)(I:VR ρ x C)(ha:Jp E t t' s x h=some (a,h'))(hf:AW ρ h.nx h'.nx) :
  AY E ρ h h' w (Builtin.append_ #[t,t'] ty #[B,C]) a:=by
 unfold Jp at ha;cases r:E.desc t with
 |none=>simp[r]at ha
 |some d=>
  cases d with
  |slice e=>
   simp only[r]at ha;cases hi:E.ty.get e with
   |none=>simp[hi]at ha
   |some g=>
    simp only[hi]at ha;cases u:E.zero e with
    |none=>simp[u]at ha
    |some z=>
     simp only[u]at ha;cases l:Nat.beq z.cells.length g.size with
     |false=>simp[l]at ha
     |true=>
     simp only[l]at ha;have j:=Ay l
     have f:∀(o:TypeDesc),E.desc t'=some o→((∃D,o=.slice D)∨o=.string)→(match Ny x with
       |none=>none
       |some m=>match PI h g.size m x with
        |none=>none
        |some news=>CE g s m news h)=some (a,h')→AY E ρ h h' w (Builtin.append_ #[t,t'] ty #[B,C]) a:=by
      intro o b L y;cases F:Ny x with
      |none=>simp[F]at y
      |some m=>
       simp only[F]at y;cases p:PI h g.size m x with
       |none=>simp[p]at y
       |some news=>
        simp only[p]at y;obtain⟨S,M,N,O,Q⟩:=cz hr E.P I F (R2 m) p;exact KM hE hr (hE.und r) hi u j H (.cells o (hE.und b) L O Q) M N y hf
     cases b:E.desc t' with
     |none=>simp[b]at ha
     |some o=>
      cases o with
      |int k=>
       simp only[b]at ha;cases hn:D2 x with
       |none=>simp[hn]at ha
       |some m=>
        simp only[hn]at ha;cases hc:(Nat.ble m 1048576&&Nat.ble (m*g.bytes) 140737488355328)with
        |false=>simp[hc]at ha
        |true=>
         simp only[hc]at ha;obtain⟨c1,c2⟩:=Av hc;obtain⟨R,rfl⟩:=C3 I hn;obtain⟨V,q,i1,i2,J⟩:=GE u;rw[hi]at i1;cases i1;have K:=(AO ρ J).cells (BW J);have A:q.cells.size=g.size:=by have:=K.1;simp at this;omega
         have hv:=Iy K m q.cells (.inr rfl)
         have G:((Array.range (m*z.cells.length)).map (q.cells[· % q.cells.size]!)).toList.toArray=Builtin.zeroCells q.cells m:=by
          rw[Array.toArray_toList,Builtin.zeroCells,A,j]
         refine KM hE hr (hE.und r) hi u j H (.zeros k R (hE.und b) rfl (C7 c1) (C7 c2) q i2 A G) hv (by rw[Cl,j]) ha hf
      |slice D=>simp only[b]at ha;exact f _ b (.inl ⟨D,rfl⟩) ha
      |string=>simp only[b]at ha;exact f _ b (.inr rfl) ha
      |_=>simp[b]at ha
  |_=>simp[r]at ha
end
end Go.AE
namespace Go.AE
variable [Gl:AG]
variable [U:Unk]
section
variable {E:Env}(hE:OK E){ρ:Ren}{w:World}
include hE
theorem K6{d:Nat}(ih:∀(t:TypeId)(x y:AV)(r:Bool)(o p:Value),aeq E d t x y=some r→VR ρ x o→VR ρ y p→(Op.equalIn d t o p).run E.P w=.ok r w)
 {j k:List AV}{c e:List Value}(q:VL ρ j c)(s:VL ρ k e):∀{fs:List Field}{r:Bool},eqFields E (aeq E d) j k fs=some r→
  (Op.eqFields d c.toArray e.toArray fs).run E.P w=.ok r w
 |[],r,h=>by simp only[eqFields,C2]at h;subst h;simp[Op.eqFields]
 |f::fs,r,h=>by
  simp only[eqFields]at h;cases l:(f.name == "_")with
  |true=>simp[l]at h
  |false=>
   simp only[l]at h;have m:f.name≠ "_":=by simpa using l
   cases g:CF E f.type j f.offset with
   |none=>simp[g]at h
   |some a=>
    cases n:CF E f.type k f.offset with
    |none=>simp[g,n]at h
    |some b=>
     simp only[g,n]at h;obtain⟨D,u,v⟩:=hE.run_part g q w;obtain⟨F,z,A⟩:=hE.run_part n s w;cases i:aeq E d f.type a b with
     |none=>simp[i]at h
     |some B=>
      have C:=ih _ _ _ _ _ _ i v A;simp only[Op.eqFields,ne_eq,m,not_false_eq_true,if_true,L1,u,z,C,F0];cases B with
      |true=>simp only[i]at h;simp only[Bool.not_true,ie,Aey];exact K6 ih q s h
      |false=>simp only[i,C2]at h;subst h;simp
theorem Nm{d:Nat}(ih:∀(t:TypeId)(x y:AV)(r:Bool)(p q:Value),aeq E d t x y=some r→VR ρ x p→VR ρ y q→(Op.equalIn d t p q).run E.P w=.ok r w)
 {l m:List AV}{c f:List Value}(s:VL ρ l c)(u:VL ρ m f){e:TypeId}{n:Nat}:∀{k i:Nat}{r:Bool},Je E (aeq E d) e n l m k i=some r→
  (Op.eqItems d e n c.toArray f.toArray (List.range' i k)).run E.P w=.ok r w
 |0,i,r,h=>by simp only[Je,C2]at h;subst h;simp[Op.eqItems]
 |k+1,i,r,h=>by
  simp only[Je]at h;cases g:CF E e l (i*n)with
  |none=>simp[g]at h
  |some a=>
   cases o:CF E e m (i*n)with
   |none=>simp[g,o]at h
   |some b=>
    simp only[g,o]at h;obtain⟨F,v,z⟩:=hE.run_part g s w;obtain⟨G,A,B⟩:=hE.run_part o u w;cases j:aeq E d e a b with
    |none=>simp[j]at h
    |some C=>
     have D:=ih _ _ _ _ _ _ j z B;simp only[List.range'_succ,Op.eqItems,L1,v,A,D,F0];cases C with
     |true=>simp only[j]at h;simp only[Bool.not_true,ie,Aey];exact Nm ih s u h
     |false=>simp only[j,C2]at h;subst h;simp
set_option maxHeartbeats 1000000 in
theorem Uj:∀(d:Nat)(t:TypeId)(x y:AV)(r:Bool)(p q:Value),aeq E d t x y=some r→VR ρ x p→VR ρ y q→(Op.equalIn d t p q).run E.P w=.ok r w:=by
 intro d
 induction d with
 |zero=>intro t x y r p q h;simp[aeq]at h
 |succ d ih=>
  intro t x y r p q h f c;simp only[aeq]at h;cases n:E.desc t with
  |none=>rw[n]at h;cases h
  |some I=>
   rw[n]at h;have g:=hE.run_und n w;have fin:∀b:Bool,some b=some r→b=r:=fun b e=>by simpa using e
   cases I with
   |bool=>
    cases f<;>first | (cases h;done)|skip
    cases c<;>first | (cases h;done)|skip
    rw[←fin _ h];simp[Op.equalIn,g]
   |int M=>
    cases f<;>first | (cases h;done)|skip
    cases c<;>first | (cases h;done)|skip
    rename_i k a J b;by_cases H:k=J
    ·subst H;simp only[decide_true,C2]at h;subst h;simp[Op.equalIn,g]
    ·simp[H]at h
   |string=>
    cases f<;>first | (cases h;done)|skip
    cases c<;>first | (cases h;done)|skip
    rename_i s N;simp only[C2]at h;subst h;rw[Ct];simp only[Op.equalIn,L1,g,F0,Ts];rw[beq_toListBytes]
   |pointer e=>
    cases f<;>first | (cases h;done)|skip
    all_goals
     cases c<;>first | (cases h;done)|skip
    all_goals (rw[←fin _ h];simp[Op.equalIn,g])
   |interface O=>
    cases f<;>first | (cases h;done)|skip
    ·rename_i tx a v hv;cases c<;>first | (cases h;done)|skip
     ·rename_i ty b Q A;simp only[]at h;cases u:Nat.beq tx ty with
      |false=>
       simp only[u,C2]at h;subst h;have:=Xy u;simp[Op.equalIn,g,this]
      |true=>
       simp only[u]at h;have:=Ay u;subst this;cases hi:E.ty.get tx with
       |none=>simp[hi]at h
       |some i=>
        simp only[hi]at h;cases B:i.comparable with
        |false=>simp[B]at h
        |true=>
         simp only[B]at h;have:=ih _ _ _ _ _ _ h hv A;simp[Op.equalIn,g,hE.run_info hi,B,this]
     ·rw[←fin _ h];simp[Op.equalIn,g]
    ·cases c<;>first | (cases h;done)|skip
     all_goals (rw[←fin _ h];simp[Op.equalIn,g])
   |struct fs=>
    cases f<;>first | (cases h;done)|skip
    cases c<;>first | (cases h;done)|skip
    rename_i K l a1 a2 L m C D;simp only[]at h;cases F:E.P.stoodInHeld t with
    |true=>simp[F]at h
    |false=>
     simp only[F]at h;have j:=hE.und n;have o:E.P.fieldsOf t=fs:=by simp[Program.fieldsOf,j]
     rw[run_equalIn_struct w d t l.toArray m.toArray (by rw[o];exact j) F,o]
     exact K6 hE ih ⟨a1,a2⟩ ⟨C,D⟩ h
   |array len e=>
    cases f<;>first | (cases h;done)|skip
    cases c<;>first | (cases h;done)|skip
    rename_i K l a1 a2 L m C D;simp only[]at h;cases z:E.has e with
    |false=>simp[z]at h
    |true=>
     simp only[z]at h;unfold Env.has at z;cases hi:E.ty.get e with
     |none=>simp[hi]at z
     |some i=>
      have G:E.P.cellsOf e=E.size e:=by simp[Program.cellsOf,hE.ty e i hi,Env.size,hi]
      rw[run_equalIn_array w d l.toArray m.toArray (hE.und n) (hE.ty e i hi),G,List.range_eq_range'];exact Nm hE ih ⟨a1,a2⟩ ⟨C,D⟩ h
   |slice e=>
    cases f<;>first | (cases h;done)|skip
    all_goals
     cases c<;>first | (cases h;done)|skip
    all_goals (rw[←fin _ h];simp[Op.equalIn,g])
   |map k e=>
    cases f<;>first | (cases h;done)|skip
    all_goals
     cases c<;>first | (cases h;done)|skip
    all_goals (rw[←fin _ h];simp[Op.equalIn,g])
   |func R S v=>
    cases f<;>first | (cases h;done)|skip
    all_goals
     cases c<;>first | (cases h;done)|skip
    all_goals (rw[←fin _ h];simp[Op.equalIn,g])
   |_=>cases f<;>first | (cases h;done) | (cases c<;>(cases h;done))
end
end Go.AE
namespace Go.AE
variable [Gl:AG]
variable [U:Unk]
theorem Dq(k:IntKind)(x:Int):(BitVec.ofInt k.bits x).toNat=bits k x:=by
 simp[bits,BitVec.toNat_ofInt]
section
variable {E:Env}(hE:OK E){ρ:Ren}{h:Aa}{w:World}
theorem J0{f:BinOp}{k:IntKind}{a b:Int}{r:AV}(t:TypeId)(i:f≠.shl)(g:f≠.shr)(c:CU f k a b=some r) :
    ∃v,(binOp f t (.int k a) (.int k b)).run E.P w=.ok v w∧VR ρ r v:=by
  cases f<;>simp only[CU]at c<;>first | (cases c;done)|exact absurd rfl i|exact absurd rfl g|skip
  case quo=>
    cases d:(b==0)with
    |true=>simp[d]at c
    |false=>
      simp only[d,C2]at c;have:b≠0:=by simpa using d
      subst c;exact⟨_,by simp[binOp,Op.intDiv,this],.int _ _⟩
  case rem=>
    cases d:(b==0)with
    |true=>simp[d]at c
    |false=>
      simp only[d,C2]at c;have:b≠0:=by simpa using d
      subst c;exact⟨_,by simp[binOp,Op.intDiv,this],.int _ _⟩
  case and=>
    simp only[C2]at c;subst c;refine⟨_,by simp only[binOp,Op.intBits,ne_eq,not_true_eq_false,Aey,Ts];rfl,?_⟩
    rw[BitVec.toNat_and,Dq,Dq];exact .int _ _
  case or=>
    simp only[C2]at c;subst c;refine⟨_,by simp only[binOp,Op.intBits,ne_eq,not_true_eq_false,Aey,Ts];rfl,?_⟩
    rw[BitVec.toNat_or,Dq,Dq];exact .int _ _
  case xor=>
    simp only[C2]at c;subst c;refine⟨_,by simp only[binOp,Op.intBits,ne_eq,not_true_eq_false,Aey,Ts];rfl,?_⟩
    rw[BitVec.toNat_xor,Dq,Dq];exact .int _ _
  all_goals
    simp only[C2]at c;subst c;refine⟨_,by simp only[binOp,Op.intArith,Op.intCmp,ne_eq,not_true_eq_false,Aey,Ts];rfl,?_⟩
    first
      |exact .int _ _
      |exact .bool _
      | (rename_i pos e;have h:=VR.sb (ρ:=ρ) (!pos) e;have j:(!(Ah U.V e==pos))=(Ah U.V e == !pos):=by cases Ah U.V e<;>cases pos<;>rfl
         rw[j];exact h)
theorem Kg(d:Nat)(t:TypeId)(x y:AV)(a:x.isSym=true):aeq E d t x y=none:=by
 cases d with
 |zero=>rfl
 |succ d=>
  simp only[aeq];cases E.desc t with
  |none=>rfl
  |some b=>cases x<;>first | (cases a;done) | (cases b<;>rfl)
theorem Ko(d:Nat)(t:TypeId)(x y:AV)(a:y.isSym=true):aeq E d t x y=none:=by
 cases d with
 |zero=>rfl
 |succ d=>
  simp only[aeq];cases E.desc t with
  |none=>rfl
  |some b=>cases y<;>first | (cases a;done) | (cases b<;>cases x<;>rfl)
theorem Xt{d:BinOp}{k k':IntKind}{a b:Int}{r:AV}(t:TypeId)(f:d=.shl∨d=.shr)(c:Ng d k a b=some r) :
  ∃v,(binOp d t (.int k a) (.int k' b)).run E.P w=.ok v w∧VR ρ r v:=by
 unfold Ng at c;by_cases e:b<0
 ·simp[e]at c
 ·simp only[e,decide_false]at c;rcases f with rfl|rfl
  ·simp only[C2]at c;subst c;exact⟨_,by simp only[binOp,Op.shift,e,Aey,Ts],.int _ _⟩
  ·simp only[C2]at c;subst c;exact⟨_,by simp only[binOp,Op.shift,e,Aey,Ts],.int _ _⟩
theorem Od{e:BinOp}{s a:ByteArray}{r:AV}(t:TypeId)(c:PT e s.data.toList.length (AC s.data.toList) a.data.toList.length (AC a.data.toList)=some r) :
  ∃v,(binOp e t (.string s) (.string a)).run E.P w=.ok v w∧VR ρ r v:=by
 have b:=PG (s.data.toList.length+1) s.data.toList a.data.toList (Nat.lt_succ_self _);have g:=ByteArray.toList_eq s;have i:=ByteArray.toList_eq a;cases e<;>simp only[PT]at c<;>first | (cases c;done)|skip
 case add=>
  cases f:Nat.ble (s.data.toList.length+a.data.toList.length) 4611686018427387904 with
  |false=>simp only[f]at c;cases c
  |true=>
   simp only[f,C2]at c;subst c;have k:=C7 f;have l:s.size=s.data.toList.length:=by simp
   have j:a.size=a.data.toList.length:=by simp
   refine⟨.string (s++a),?_,?_⟩
   ·have d:¬(((s.size+a.size:Nat):Int)>IntKind.i64.max):=by
     simp only[IntKind.max,IntKind.signed,IntKind.bits];omega
    simp only[binOp,Op.stringOp];rw[if_neg d];rfl
   ·have hv:=VR.str (ρ:=ρ) (s++a);have m:(s++a).data.toList=s.data.toList++a.data.toList:=by simp[ByteArray.data_append]
    rw[m,pc,FM,←PN]at hv;exact hv
 all_goals
  simp only[C2]at c;subst c;refine⟨_,by simp only[binOp,Op.stringOp,Ts];rfl,?_⟩
  first
   | (rw[Ct];exact .bool _)
   | (rw[b,Ct,g,i];exact .bool _)
   | (rw[b,g,i];exact .bool _)
theorem iM{b:UnOp}{x r:AV}{c:Value}(d:VR ρ x c)(a:unA b x=some r):∃v,(Op.unary b c).run E.P w=.ok v w∧VR ρ r v:=by
  cases b<;>cases d<;>simp only[unA]at a<;>first | (cases a;done)|skip
  all_goals
    simp only[C2]at a;subst a;refine⟨_,by simp only[Op.unary,Op.intArith,Ts];rfl,?_⟩
    first
      |exact .int _ _
      |exact .bool _
      | (rename_i pos e;have h:=VR.sb (ρ:=ρ) (!pos) e;have f:(!(Ah U.V e==pos))=(Ah U.V e == !pos):=by cases Ah U.V e<;>cases pos<;>rfl
         rw[f];exact h)
theorem B5{e:BinOp}{t:TypeId}{x y:Operand}{a b:Value}(f:¬(a=.nilIface∧b=.nilIface))(g:(∃c,a=.agg c)→(∃d,b=.agg d)→E.P.eqGuardType E.P.depth t=false) :
  (eqGuard e t x y a b).run E.P w=.ok () w:=by
 unfold eqGuard;cases e<;>(try (simp;done))
 all_goals
  cases a<;>cases b<;>first
   | (simp;done)
   | (exact absurd ⟨rfl,rfl⟩ f)
   | (rename_i c d;simp[g ⟨c,rfl⟩ ⟨d,rfl⟩])
theorem Pe(d:Nat)(t:TypeId)(y:AV):aeq E d t .top y=none:=by
 cases d with
 |zero=>rfl
 |succ d=>
  simp only[aeq];cases E.desc t with
  |none=>rfl
  |some a=>cases a<;>rfl
theorem NV(d:Nat)(t:TypeId)(x:AV):aeq E d t x .top=none:=by
 cases d with
 |zero=>rfl
 |succ d=>
  simp only[aeq];cases E.desc t with
  |none=>rfl
  |some a=>cases a<;>cases x<;>rfl
theorem Ei(t:TypeId)(e f:Value)(i:¬∃k a g b,e=.int k a∧f=.int g b)(j:¬∃k a g b,e=.float k a∧f=.float g b)(l:¬∃k a b g c d,e=.complex k a b∧f=.complex g c d)(m:¬∃a b,e=.string a∧f=.string b) :
  binOp .eql t e f=(do pure (.bool (←Op.equal t e f)))∧binOp .neq t e f=(do pure (.bool (!(←Op.equal t e f)))):=by
 cases e<;>cases f<;>first
  |exact⟨rfl,rfl⟩
  |exact absurd ⟨_,_,_,_,rfl,rfl⟩ i
  |exact absurd ⟨_,_,_,_,rfl,rfl⟩ j
  |exact absurd ⟨_,_,_,_,_,_,rfl,rfl⟩ l
  |exact absurd ⟨_,_,rfl,rfl⟩ m
include hE
theorem ZM{t:TypeId}{x y:AV}{j m:Value}{b:Bool}(n:VR ρ x j)(q:VR ρ y m)(f:aeq E 10000 t x y=some b)(hi:¬∃k a k' b,x=.int k a∧y=.int k' b)(r:¬∃l a s b,x=.str l a∧y=.str s b) :
  (binOp .eql t j m).run E.P w=.ok (.bool b) w∧(binOp .neq t j m).run E.P w=.ok (.bool (!b)) w:=by
 have g:x≠.top:=by rintro rfl;rw[Pe]at f;cases f
 have o:y≠.top:=by rintro rfl;rw[NV]at f;cases f
 have p:=Uj (w:=w) hE 10000 t x y b j m f n q
 obtain⟨u,v⟩:=Ei t j m (by
   rintro ⟨k,a,k',c,rfl,rfl⟩
   cases n with
   |top=>exact g rfl
   |si k e=>rw[Kg _ _ _ _ rfl]at f;cases f
   |stamp=>rw[Kg _ _ _ _ rfl]at f;cases f
   |int=>cases q with
    |top=>exact o rfl
    |stamp=>rw[Ko _ _ _ _ rfl]at f;cases f
    |si k e=>rw[Ko _ _ _ _ rfl]at f;cases f
    |int=>exact hi ⟨_,_,_,_,rfl,rfl⟩) (by
   rintro ⟨k,a,k',c,rfl,rfl⟩
   cases n;exact g rfl) (by
   rintro ⟨k,a,z,k',c,d,rfl,rfl⟩
   cases n;exact g rfl) (by
   rintro ⟨a,c,rfl,rfl⟩
   cases n with
   |top=>exact g rfl
   |ss i=>rw[Kg _ _ _ _ rfl]at f;cases f
   |str=>cases q with
    |top=>exact o rfl
    |ss i=>rw[Ko _ _ _ _ rfl]at f;cases f
    |str=>exact r ⟨_,_,_,_,rfl,rfl⟩)
 rw[u,v];simp only[Op.equal,Op.maxDepth,L1,p,F0,Ts];exact⟨trivial,trivial⟩
theorem WO{c:BinOp}{t:TypeId}{ox oy:Operand}{x y r:AV}{p q:Value}(z:VR ρ x p)(A:VR ρ y q)(d:T3 E c t x y=some r) :
  ∃v,(do eqGuard c t ox oy p q;binOp c t p q:Sem Value).run E.P w=.ok v w∧VR ρ r v:=by
 have f:(¬∃k a k' b,x=.int k a∧y=.int k' b)→(¬∃l a l' b,x=.str l a∧y=.str l' b)→(¬(x=.nilIface∧y=.nilIface))→((∃B,x=.agg B)→(∃I,y=.agg I)→E.P.eqGuardType E.P.depth t=false)→
   (match c with
    |.eql=>(aeq E 10000 t x y).map AV.bool
    |.neq=>(aeq E 10000 t x y).map fun b=>AV.bool (!b)
    |_=>none)=some r→∃v,(do eqGuard c t ox oy p q;binOp c t p q:Sem Value).run E.P w=.ok v w∧VR ρ r v:=by
  intro J K O Q u
  have L:∃b,aeq E 10000 t x y=some b:=by
   cases j:aeq E 10000 t x y with
   |some b=>exact⟨b,rfl⟩
   |none=>cases c<;>simp[j]at u
  obtain⟨b,j⟩:=L;have C:x≠.top:=by rintro rfl;rw[Pe]at j;cases j
  have D:y≠.top:=by rintro rfl;rw[NV]at j;cases j
  have m:(eqGuard c t ox oy p q).run E.P w=.ok () w:=B5 (by
    rintro ⟨rfl,rfl⟩
    cases z with
    |top=>exact C rfl
    |nilIface=>cases A with
     |top=>exact D rfl
     |nilIface=>exact O ⟨rfl,rfl⟩) (by
    rintro ⟨B,rfl⟩ ⟨I,rfl⟩
    cases z with
    |top=>exact absurd rfl C
    |agg=>cases A with
     |top=>exact absurd rfl D
     |agg=>exact Q ⟨_,rfl⟩ ⟨_,rfl⟩)
  obtain⟨n,o⟩:=ZM (w:=w) hE z A j J K;rw[j]at u;cases c<;>simp only[vx,C2]at u<;>first | (cases u;done)|skip
  ·subst u;exact⟨_,by simp only[L1,m,F0,n],.bool _⟩
  ·subst u;exact⟨_,by simp only[L1,m,F0,o],.bool _⟩
 have F:∀{a b:Value},(¬(a=.nilIface∧b=.nilIface))→(¬∃B,a=.agg B)→(eqGuard c t ox oy a b).run E.P w=.ok () w:=
  fun J K=>B5 J (fun h _=>absurd h K)
 cases x with
 |int k a=>
  cases y with
  |int k' b=>
   cases z;cases A;have m:=F (a:=.int k a) (b:=.int k' b) (by simp) (by simp)
   by_cases i:c=.shl∨c=.shr
   ·have g:Ng c k a b=some r:=by rcases i with rfl|rfl<;>simpa[T3]using d
    obtain⟨v,n,o⟩:=Xt (E:=E) (w:=w) (ρ:=ρ) (k':=k') t i g;exact⟨v,by simp only[L1,m,F0,n],o⟩
   ·have G:c≠.shl:=fun e=>i (.inl e)
    have H:c≠.shr:=fun e=>i (.inr e)
    have g:(match decide (k=k')with|true=>CU c k a b|false=>none)=some r:=by
     cases c<;>first|exact d|exact absurd rfl G|exact absurd rfl H
    by_cases N:k=k'
    ·subst N;simp only[decide_true]at g;obtain⟨v,n,o⟩:=J0 (E:=E) (w:=w) (ρ:=ρ) t G H g;exact⟨v,by simp only[L1,m,F0,n],o⟩
    ·simp[N]at g
  |_=>exact f (by simp) (by simp) (by simp) (by simp) (by cases c<;>exact d)
 |str l a=>
  cases y with
  |str l' b=>
   cases z;cases A;rename_i s R;have m:=F (a:=.string s) (b:=.string R) (by simp) (by simp)
   simp only[T3]at d;obtain⟨v,n,o⟩:=Od (E:=E) (w:=w) (ρ:=ρ) t d;exact⟨v,by simp only[L1,m,F0,n],o⟩
  |_=>exact f (by simp) (by simp) (by simp) (by simp) (by cases c<;>exact d)
 |agg B=>
  cases y with
  |agg I=>
   simp only[T3]at d;cases M:E.P.eqGuardType E.P.depth t with
   |true=>simp[M]at d
   |false=>simp only[M]at d;exact f (by simp) (by simp) (by simp) (fun _ _=>M) (by cases c<;>exact d)
  |_=>exact f (by simp) (by simp) (by simp) (by simp) (by cases c<;>exact d)
 |nilIface=>
  cases y with
  |nilIface=>simp[T3]at d
  |_=>exact f (by simp) (by simp) (by simp) (by simp) (by cases c<;>exact d)
 |_=>exact f (by simp) (by simp) (by simp) (by simp) (by cases c<;>exact d)
end
end Go.AE
namespace Go.AE
variable [Gl:AG]
theorem SE.same_eq{a b:SE}(h:a.same b=true):a=b:=by
 induction a generalizing b<;>cases b<;>simp only[SE.same,F9,l0,beq_iff_eq,ie,Nat.beq_eq]at h<;>grind
theorem ey{a b:Fn}(h:iu a b=true):a=b:=by
 cases a<;>cases b<;>simp_all[iu]
mutual
theorem D7:∀(a b:AV),Bx a b=true→a=b
 |.top,b,h=>by cases b<;>simp_all[Bx]
 |.bool _,b,h=>by cases b<;>simp_all[Bx]
 |.int _ _,b,h=>by cases b<;>simp_all[Bx]
 |.str _ _,b,h=>by cases b<;>simp_all[Bx]
 |.ptr0,b,h=>by cases b<;>simp_all[Bx]
 |.ptr _ _,b,h=>by cases b<;>simp_all[Bx]
 |.slice0,b,h=>by cases b<;>simp_all[Bx]
 |.slice _ _ _ _,b,h=>by cases b<;>simp_all[Bx]
 |.map0,b,h=>by cases b<;>simp_all[Bx]
 |.map _,b,h=>by cases b<;>simp_all[Bx]
 |.func fn f c,b,h=>by
  cases b with
  |func i j o=>
   simp only[Bx,F9]at h;rw[ey h.1.1,Fo f j h.1.2,Fo c o h.2]
  |_=>simp[Bx]at h
 |.nilFunc,b,h=>by cases b<;>simp_all[Bx]
 |.iface t v,b,h=>by
  cases b with
  |iface q r=>
   simp only[Bx,F9]at h;rw[gk h.1,D7 v r h.2]
  |_=>simp[Bx]at h
 |.nilIface,b,h=>by cases b<;>simp_all[Bx]
 |.agg l,b,h=>by
  cases b with
  |agg g=>
   simp only[Bx]at h;rw[Fo l g h]
  |_=>simp[Bx]at h
 |.tuple l,b,h=>by
  cases b with
  |tuple g=>
   simp only[Bx]at h;rw[Fo l g h]
  |_=>simp[Bx]at h
 |.sb p e,b,h=>by
  cases b with
  |sb y d=>
   simp only[Bx,F9]at h;rw[eq_of_beq h.1,SE.same_eq h.2]
  |_=>simp[Bx]at h
 |.si k e,b,h=>by
  cases b with
  |si z d=>
   simp only[Bx,F9,l0]at h;rw[h.1,SE.same_eq h.2]
  |_=>simp[Bx]at h
 |.ss e,b,h=>by
  cases b with
  |ss d=>
   simp only[Bx]at h;rw[SE.same_eq h]
  |_=>simp[Bx]at h
 |.dat t e,b,h=>by
  cases b with
  |dat q d=>
   simp only[Bx,F9]at h;rw[gk h.1,SE.same_eq h.2]
  |_=>simp[Bx]at h
 |.dptr _ _ _ _,b,h=>by cases b<;>simp[Bx]at h
 |.asl s A n nl,b,h=>by
  cases b with
  |asl u w B x=>
   simp only[Bx,F9]at h;rw[gk h.1.1.1,gk h.1.1.2,SE.same_eq h.1.2,SE.same_eq h.2]
  |_=>simp[Bx]at h
 |.eslc e,b,h=>by
  cases b with
  |eslc d=>
   simp only[Bx]at h;rw[SE.same_eq h]
  |_=>simp[Bx]at h
 |.aptr _ _ _ _,b,h=>by cases b<;>simp[Bx]at h
 |.nmap s e,b,h=>by
  cases b with
  |nmap u d=>
   simp only[Bx,F9]at h;rw[gk h.1,SE.same_eq h.2]
  |_=>simp[Bx]at h
theorem Fo:∀(a b:List AV),HN a b=true→a=b
 |[],b,h=>by cases b<;>simp_all[HN]
 |a::l,b,h=>by
  cases b with
  |nil=>simp[HN]at h
  |cons b m=>
   simp only[HN,F9]at h;rw[D7 a b h.1,Fo l m h.2]
end
theorem Yq{c:Type}{d:c→c→Bool}(e:∀a b,d a b=true→a=b){a b:Option c}(h:eqO d a b=true):a=b:=by
 cases a<;>cases b<;>simp[eqO]at h ⊢
 exact e _ _ h
theorem Ut{c:Type}{e:c→c→Bool}(d:∀a b,e a b=true→a=b):∀(a b:T c),eqT e a b=true→a=b
 |.nil,.nil,_=>rfl
 |.node v l r,.node i f g,h=>by
  simp only[eqT,F9]at h;rw[Yq d h.1.1,Ut d l f h.1.2,Ut d r g h.2]
 |.nil,.node _ _ _,h=>by simp[eqT]at h
 |.node _ _ _,.nil,h=>by simp[eqT]at h
theorem U6:∀(a b:List AA),Xx a b=true→a=b
 |[],[],_=>rfl
 |a::l,b::m,h=>by
  simp only[Xx,F9]at h;obtain⟨⟨⟨c,d⟩,e⟩,f⟩:=h;cases a;cases b;simp only at c d e;rw[D7 _ _ c,D7 _ _ d,gk e,U6 l m f]
 |[],_::_,h=>by simp[Xx]at h
 |_::_,[],h=>by simp[Xx]at h
theorem Ra{a b:An}(h:VZ a b=true):a=b:=by
 cases a<;>cases b<;>simp only[VZ,F9,ie]at h
 ·rw[gk h.1,Ut D7 _ _ h.2]
 ·rw[gk h.1,SE.same_eq h.2]
 ·rw[gk h.1,U6 _ _ h.2]
 ·rw[gk h.1.1,gk h.1.2,SE.same_eq h.2]
variable [U:Unk]
section
variable {V:Val}{a b:SE}
theorem BE{n:Int}:Ad V (.c n)=n:=rfl
theorem Ma{k:IntKind}:Ad V (.conv k a)=k.wrap (Ad V a):=rfl
theorem DG{c:BinOp}{k:IntKind}:Ad V (.arith c k a b)=match CU c k (Ad V a) (Ad V b)with
  |some (.int _ n)=>n
  |_=>0:=rfl
theorem CT:Ad V (.lenS a)=((AR V a).data.toList.length:Nat):=rfl
theorem Ar:Ad V (.lenL a)=((Ab V a).rows.length:Nat):=rfl
theorem Ax:Ah V (.lss a b)=decide (Ad V a<Ad V b):=rfl
theorem Cb:Ah V (.eql a b)=(Ad V a==Ad V b):=rfl
theorem J8{l c:Nat}:Ah V (.eqS a l c)=strEq (AR V a).data.toList.length (AC (AR V a).data.toList) l c:=rfl
theorem M9:Ah V (.eqSS a b)=strEq (AR V a).data.toList.length (AC (AR V a).data.toList) (AR V b).data.toList.length (AC (AR V b).data.toList):=rfl
end
theorem SE.same_ok{a b:SE}(h:a.same b=true):a=b:=by
 induction a generalizing b<;>cases b<;>simp only[SE.same,F9,l0,beq_iff_eq,ie,Nat.beq_eq]at h<;>grind
theorem SB.same_ok{a b:SB}(h:a.same b=true):a=b:=SE.same_ok h
def LoB(o:Option Int)(n:Int):Prop:=∀l,o=some l→l≤n
def HiB(o:Option Int)(n:Int):Prop:=∀l,o=some l→n≤l
theorem LoB.max{a b:Option Int}{n:Int}(h:LoB a n)(k:LoB b n):LoB (Sg a b) n:=by
 intro l r;unfold Sg at r;split at r
 ·rename_i a b;have I:=h a rfl;have J:=k b rfl;cases t:decide (a≤b)<;>rw[t]at r<;>cases r<;>assumption
 ·exact h l r
 ·exact k l r
theorem HiB.min{a b:Option Int}{n:Int}(h:HiB a n)(k:HiB b n):HiB (XD a b) n:=by
 intro l r;unfold XD at r;split at r
 ·rename_i a b;have I:=h a rfl;have J:=k b rfl;cases t:decide (a≤b)<;>rw[t]at r<;>cases r<;>assumption
 ·exact h l r
 ·exact k l r
theorem LoB.some{a n:Int}(h:a≤n):LoB (some a) n:=fun l r=>by cases r;exact h
theorem HiB.some{a n:Int}(h:n≤a):HiB (some a) n:=fun l r=>by cases r;exact h
theorem LoB.none{n:Int}:LoB none n:=fun l r=>by cases r
theorem HiB.none{n:Int}:HiB none n:=fun l r=>by cases r
theorem W8{V:Val}{e:SE}{p:SB×Bool}(d:Ah V p.1=p.2):LoB (UT e p) (Ad V e):=by
 intro l c;obtain⟨x,b⟩:=p
 have g:∀{a:SE}{r:Int},(match a.same e with|true=>some r|false=>none)=some l→a=e∧l=r:=by
  intro a r h;split at h
  ·rename_i i;cases h;exact⟨SE.same_ok i,rfl⟩
  ·cases h
 unfold UT at c;split at c<;>first | (cases c;done)|skip
 all_goals
  rename_i a m f;obtain⟨rfl,rfl⟩:=g c;cases f;simp[Ax,Cb,BE]at d
  first|omega | (have:=of_decide_eq_false d;omega) | (have:=of_decide_eq_true d;omega)
theorem Xi{V:Val}{e:SE}{p:SB×Bool}(d:Ah V p.1=p.2):HiB (Tz e p) (Ad V e):=by
 intro l c;obtain⟨x,b⟩:=p
 have g:∀{a:SE}{r:Int},(match a.same e with|true=>some r|false=>none)=some l→a=e∧l=r:=by
  intro a r h;split at h
  ·rename_i i;cases h;exact⟨SE.same_ok i,rfl⟩
  ·cases h
 unfold Tz at c;split at c<;>first | (cases c;done)|skip
 all_goals
  rename_i a m f;obtain⟨rfl,rfl⟩:=g c;cases f;simp[Ax,Cb,BE]at d
  first|omega | (have:=of_decide_eq_false d;omega) | (have:=of_decide_eq_true d;omega)
theorem CW{V:Val}{e:SE}:∀{F:List (SB×Bool)},(∀e b,(e,b)∈F→Ah V e=b)→LoB (CO e F) (Ad V e)
 |[],_=>LoB.none
 |p::r,h=>LoB.max (W8 (h p.1 p.2 (by simp))) (CW fun e b a=>h e b (by simp[a]))
theorem CV{V:Val}{e:SE}:∀{F:List (SB×Bool)},(∀e b,(e,b)∈F→Ah V e=b)→HiB (CK e F) (Ad V e)
 |[],_=>HiB.none
 |p::r,h=>HiB.min (Xi (h p.1 p.2 (by simp))) (CV fun e b a=>h e b (by simp[a]))
theorem GY(k:IntKind)(n:Int)(a:k.min≤n)(b:n≤k.max):k.wrap n=n:=by
 cases k<;>simp only[IntKind.wrap,IntKind.min,IntKind.max,IntKind.bits,IntKind.signed]at *<;>simp at *<;>omega
theorem T0(k:IntKind)(n:Int):k.min≤k.wrap n∧k.wrap n≤k.max:=by
 cases k<;>simp only[IntKind.wrap,IntKind.min,IntKind.max,IntKind.bits,IntKind.signed]<;>simp<;>omega
theorem CS{V:Val}:∀x:SE,(Ab V (Cf x)).rows.length=(Ab V x).rows.length:=by
 intro x
 induction x
 case upd a i j x ih _ _=>rw[Cf,ih];simp only[Ab,D.rows,List.length_modify]
 case nilIs a b ih _=>rw[Cf,ih];simp only[Ab,D.rows]
 all_goals rfl
theorem Up{V:Val}{n y:SE}(h:LS n y=true):Ad V n=Ad V (.lenL y):=by
 cases n<;>simp only[LS,ie]at h
 rename_i x;rw[Ar,Ar,←CS x,←CS y,SE.same_ok h]
theorem Q0{V:Val}:∀{x:SE}{n:Nat},Hb x=some n→(Ab V x).rows.length=n:=by
 intro x
 induction x<;>intro n h<;>simp only[Hb,reduceCtorEq]at h
 case nilL=>cases h;rfl
 case emptyL=>cases h;rfl
 case nilIs a b ih _=>exact ih h
 case snoc a r ih _=>
  split at h
  ·rename_i k c;cases h;have:=ih c;simp only[Ab,D.rows,pc,List.length_singleton]at this ⊢;rw[this]
  ·cases h
theorem P2{V:Val}{x:SE}{l b:Nat}:∀{F:List (SB×Bool)},(∀e b,(e,b)∈F→Ah V e=b)→Sb x F=some (l,b)→Ah V (.eqS x l b)=true
 |[],_,h=>by cases h
 | (e,c)::r,d,h=>by
  unfold Sb at h;have ih:Sb x r=some (l,b)→Ah V (.eqS x l b)=true:=P2 (F:=r) (fun e b g=>d e b (by simp[g]))
  split at h
  ·rename_i a j k;split at h
   ·rename_i f;cases h;simp only[F9]at f;obtain⟨rfl,i⟩:=f;rw[←SE.same_ok i];exact d _ _ (by simp)
   ·exact ih h
  ·exact ih h
theorem ae{V:Val}{x:SE}{l b:Nat}{F:List (SB×Bool)}(a:∀e b,(e,b)∈F→Ah V e=b)(h:Sb x F=some (l,b)):Ad V (.lenS x)=(l:Int):=by
 have h:=P2 a h;rw[J8]at h;unfold strEq at h;simp only[F9]at h;have c:=gk h.1;rw[←c];exact CT
theorem HX{V:Val}{F:List (SB×Bool)}(d:∀e b,(e,b)∈F→Ah V e=b):∀e:SE,LoB (bnd F e).1 (Ad V e)∧HiB (bnd F e).2 (Ad V e):=by
 intro e
 induction e with
 |c n=>exact⟨LoB.some (Ae8 _),HiB.some (Ae8 _)⟩
 |lenS i=>
  unfold bnd;split
  ·rename_i l b p;have:=ae d p;exact⟨LoB.some (by rw[this];exact Ae8 _),HiB.some (by rw[this];exact Ae8 _)⟩
  ·exact⟨LoB.max (LoB.some (by simp only[CT,Ar];omega)) (CW d),CV d⟩
 |lenL i=>
  unfold bnd;split
  ·rename_i n q;have:=Q0 (V:=V) q;exact⟨LoB.some (by rw[Ar,this];exact Ae8 _),HiB.some (by rw[Ar,this];exact Ae8 _)⟩
  ·exact⟨LoB.max (LoB.some (by simp only[CT,Ar];omega)) (CW d),CV d⟩
 |conv k a ih=>
  unfold bnd;split;rename_i lo hi o;rw[o]at ih;split
  ·rename_i g;unfold Qt at g;split at g
   ·rename_i l h;simp only[F9,l0]at g;have r:=ih.1 l rfl;have w:=ih.2 h rfl;have e:Ad V (.conv k a)=Ad V a:=GY k (Ad V a) (by omega) (by omega)
    exact⟨LoB.max (e▸ih.1) (CW d),HiB.min (e▸ih.2) (CV d)⟩
   ·cases g
  ·have e:k.min≤Ad V (.conv k a)∧Ad V (.conv k a)≤k.max:=T0 k _;exact⟨LoB.max (LoB.some e.1) (CW d),HiB.min (HiB.some e.2) (CV d)⟩
 |arith j k a b f s=>
  have base:LoB (CO (.arith j k a b) F) (Ad V (.arith j k a b))∧HiB (CK (.arith j k a b) F) (Ad V (.arith j k a b)):=⟨CW d,CV d⟩;unfold bnd;split
  ·rename_i m;split
   ·rename_i l hi o;rw[o]at f;split
    ·rename_i t;simp only[F9,l0]at t;have r:=f.1 l rfl;have u:(m==0)=false:=by simp;omega
     have e:Ad V (.arith .rem k a (.c m))=(Ad V a).tmod m:=by
      simp only[DG,BE,CU,u]
     have v:0≤(Ad V a).tmod m:=Int.tmod_nonneg _ (by omega)
     have x:(Ad V a).tmod m<m:=Int.tmod_lt_of_pos _ (by omega)
     refine⟨LoB.max (LoB.some (by rw[e];exact v)) base.1,HiB.min (HiB.some (by rw[e];omega)) base.2⟩
    ·exact base
   ·exact base
  ·exact base
 |_=>exact⟨CW d,CV d⟩
theorem IP{V:Val}{e:SB}{b:Bool}:∀{F:List (SB×Bool)},(∀e b,(e,b)∈F→Ah V e=b)→JF e F=some b→Ah V e=b
 |[],_,h=>by cases h
 | (x,c)::r,a,h=>by
  unfold JF at h;split at h
  ·rename_i d;cases h;rw[SB.same_ok d];exact a x b (by simp)
  ·exact IP (fun e b f=>a e b (by simp[f])) h
theorem Ug{a b:Option Int}(h:ltO a b=true):∃x y,a=some x∧b=some y∧x<y:=by
 unfold ltO at h;split at h
 ·exact⟨_,_,rfl,rfl,by simpa using h⟩
 ·cases h
theorem jG{a b:Option Int}(h:leO a b=true):∃x y,a=some x∧b=some y∧x≤y:=by
 unfold leO at h;split at h
 ·exact⟨_,_,rfl,rfl,by simpa using h⟩
 ·cases h
theorem Ub{V:Val}{F:List (SB×Bool)}(j:∀e b,(e,b)∈F→Ah V e=b){e:SB}{b:Bool}(h:P0 F e=some b):Ah V e=b:=by
 unfold P0 at h;cases e with
 |lss x y=>
  simp only at h;have g:=HX j x;have i:=HX j y;split at h
  ·rename_i a;cases h;obtain⟨p,q,d,f,k⟩:=Ug a;have:=g.2 p d;have:=i.1 q f;simp only[Ax,l0];omega
  ·split at h
   ·rename_i a;cases h;obtain⟨p,q,d,f,k⟩:=jG a;have:=i.2 p d;have:=g.1 q f;simp only[Ax,ud];omega
   ·cases h
 |eql x y=>
  simp only at h;have g:=HX j x;have i:=HX j y;split at h
  ·rename_i a;cases h;simp only[Cb,beq_eq_false_iff_ne,ne_eq];simp only[Aew]at a;rcases a with a|a
   ·obtain⟨p,q,d,f,k⟩:=Ug a;have:=g.2 p d;have:=i.1 q f;omega
   ·obtain⟨p,q,d,f,k⟩:=Ug a;have:=i.2 p d;have:=g.1 q f;omega
  ·split at h
   ·rename_i l;cases h;rw[SE.same_eq l];simp[Cb]
   ·cases h
 |bc c=>cases h;rfl
 |_=>cases h
theorem UL{V:Val}{F:List (SB×Bool)}(i:∀e b,(e,b)∈F→Ah V e=b):∀(e:SB)(b:Bool),Dx F e=some b→Ah V e=b:=by
 intro e
 have Xw:∀(a:SB),(∀b,Dx F a=some b→Ah V a=b)→∀b,(match JF a F with
   |some c=>some c
   |none=>Dx F a)=some b→Ah V a=b:=by
  intro a ih b h;split at h
  ·rename_i c d;cases h;exact IP i d
  ·exact ih b h
 induction e with
 |neg a ih=>
  intro b h;simp only[Dx]at h;show(!Ah V a)=b;split at h
  ·rename_i c d;cases h;rw[IP i d]
  ·split at h
   ·rename_i c d;cases h;rw[ih c d]
   ·cases h
 |and x y f g=>
  intro b h;simp only[Dx]at h;show(Ah V x&&Ah V y)=b;split at h
  ·rename_i d;cases h;rw[Xw x f _ d];rfl
  ·rename_i d;rw[Xw x f _ d,Xw y g _ h];rfl
  ·split at h
   ·rename_i d;cases h;rw[Xw y g _ d];simp
   ·cases h
 |_=>
  intro b h;exact Ub i h
theorem Aw{V:Val}{F:List (SB×Bool)}(a:∀e b,(e,b)∈F→Ah V e=b){e:SB}{b:Bool}(h:AN F e=some b):Ah V e=b:=by
 unfold AN at h;split at h
 ·rename_i c d;cases h;exact IP a d
 ·exact UL a e b h
theorem GU(ρ:Ren)(pos:Bool)(e:SB):VR ρ (mkB pos e) (.bool (Ah U.V e==pos)):=by
 unfold mkB;split
 ·rename_i b h;rw[Aw U.ok h];exact .bool _
 ·exact .sb pos e
theorem Cg(ρ:Ren)(k:IntKind)(e:SE):VR ρ (mkI k e) (.int k (Ad U.V e)):=by
 have a:=HX U.ok e;unfold mkI;split
 ·rename_i l h b;rw[b]at a;split
  ·rename_i c;have d:=a.1 l rfl;have f:=a.2 h rfl;have g:l=h:=by simpa using c
   have:Ad U.V e=l:=by omega
   rw[this];exact .int k l
  ·exact .si k e
 ·exact .si k e
theorem KG{n y:SE}(h:Ff n y=true):Ad U.V n=Ad U.V (.lenL y):=by
 unfold Ff at h;rw[Aew]at h;rcases h with h|h
 ·exact Up h
 ·unfold Mi at h;split at h
  ·rename_i a;have:=Aw U.ok a;rw[Cb]at this;exact eq_of_beq this
  ·cases h
theorem JZ{ρ:Ren}{b c:Nat}{n y nl:SE}{v:Value}(h:Ff n y=true)(hv:VR ρ (.asl b c n nl) v):VR ρ (.asl b c (.lenL y) nl) v:=by
 have e:=KG h;cases hv with
 |asl _ _ _ _ d base i f j k g=>
  have:=VR.asl (ρ:=ρ) b c (.lenL y) nl d base i (e▸f) (e▸j) k g;rw[←e]at this;exact this
 |aslEnd _ _ _ _ a f g=>exact .aslEnd _ _ _ _ a (e▸f) g
section
variable {E:Env}{ρ:Ren}{w:World}
theorem Cp{x:AV}{a:Value}{k:IntKind}{e:SE}(b:VR ρ x a)(h:toI x=some (k,e)):a=.int k (Ad U.V e):=by
 cases b<;>simp only[toI]at h<;>cases h<;>rfl
theorem Jf{x:AV}{c:Value}(b:VR ρ x c):VR ρ (L8 x) c:=by
 unfold L8;split
 ·rename_i k e;split
  ·rename_i l h g;split
   ·rename_i a;have a:l=h:=by simpa using a
    subst a;cases b with
    |si _ _=>
     obtain⟨d,f⟩:=HX U.ok e;rw[g]at d f;have i:=d l rfl;have j:=f l rfl;have:Ad U.V e=l:=by omega
     rw[this];exact .int k l
   ·exact b
  ·exact b
 ·exact b
theorem MZ{f:BinOp}{k g:IntKind}{a b:SE}{r:AV}(t:TypeId)(h:Q4 f k a b=some r) :
  ∃v,(binOp f t (.int k (Ad U.V a)) (.int g (Ad U.V b))).run E.P w=.ok v w∧VR ρ r v:=by
 unfold Q4 at h;split at h
 ·rename_i c;have c:=Aw U.ok c
  have d:¬Ad U.V b<0:=by
   rw[Ax,BE]at c;simpa using c
  split at h
  ·cases h;have e:Ad U.V (.arith .shl k a b)=k.wrap (Ad U.V a*2^min (Ad U.V b).toNat k.bits):=by simp only[DG,CU,d,decide_false]
   have:=Cg ρ k (.arith .shl k a b);rw[e]at this;exact⟨_,by simp only[binOp,Op.shift,d,Aey,Ts],this⟩
  ·cases h;have e:Ad U.V (.arith .shr k a b)=(Ad U.V a).fdiv (2^min (Ad U.V b).toNat k.bits):=by simp only[DG,CU,d,decide_false]
   have:=Cg ρ k (.arith .shr k a b);rw[e]at this;exact⟨_,by simp only[binOp,Op.shift,d,Aey,Ts],this⟩
  ·cases h
 ·cases h
theorem dP{d:BinOp}{k:IntKind}{a b:SE}{r:AV}(t:TypeId)(h:iC d k a b=some r) :
  ∃v,(binOp d t (.int k (Ad U.V a)) (.int k (Ad U.V b))).run E.P w=.ok v w∧VR ρ r v:=by
 have j:∀{d:BinOp}{n:Int},d≠.shl→d≠.shr→CU d k (Ad U.V a) (Ad U.V b)=some (.int k n)→∃v,(binOp d t (.int k (Ad U.V a)) (.int k (Ad U.V b))).run E.P w=.ok v w∧VR ρ (mkI k (.arith d k a b)) v:=by
  intro d n l m i;obtain⟨v,o,p⟩:=J0 (E:=E) (w:=w) (ρ:=ρ) t l m i;cases p;refine⟨_,o,?_⟩;have e:Ad U.V (.arith d k a b)=n:=by simp only[DG,i]
  have:=Cg ρ k (.arith d k a b);rw[e]at this;exact this
 have g:∀{d:BinOp}{c:Bool}{pos:Bool}{e:SB},d≠.shl→d≠.shr→CU d k (Ad U.V a) (Ad U.V b)=some (.bool c)→(Ah U.V e==pos)=c→∃v,(binOp d t (.int k (Ad U.V a)) (.int k (Ad U.V b))).run E.P w=.ok v w∧VR ρ (mkB pos e) v:=by
  intro d c pos e l m i s;obtain⟨v,o,p⟩:=J0 (E:=E) (w:=w) (ρ:=ρ) t l m i;cases p;exact⟨_,o,s▸GU ρ pos e⟩
 have q:∀{b:SE},WB b=true→(Ad U.V b==0)=false:=by
  intro b f;unfold WB at f;rw[Aew]at f;rcases f with f|f
  ·cases b<;>simp[eO]at f
   simpa[BE]using f
  ·split at f
   ·rename_i u;have:=Aw U.ok u
    rwa [Cb,BE]at this
   ·cases f
 cases d<;>simp only[iC]at h<;>first | (cases h;done)|skip
 case quo=>
  split at h
  ·rename_i f;cases h;exact j (by simp) (by simp) (by simp only[CU,q f];rfl)
  ·cases h
 case rem=>
  split at h
  ·rename_i f;cases h;exact j (by simp) (by simp) (by simp only[CU,q f];rfl)
  ·cases h
 case shl=>exact MZ t h
 case shr=>exact MZ t h
 case eql=>cases h;exact g (by simp) (by simp) rfl (by simp[Ax,Cb])
 case neq=>cases h;exact g (by simp) (by simp) rfl (by simp only[Cb,bne];cases (Ad U.V a==Ad U.V b)<;>rfl)
 case lss=>cases h;exact g (by simp) (by simp) rfl (by simp[Ax,Cb])
 case leq=>cases h;exact g (by simp) (by simp) rfl (by simp only[Ax];by_cases h:Ad U.V a≤Ad U.V b<;>simp[h]<;>omega)
 case gtr=>cases h;exact g (by simp) (by simp) rfl (by simp[Ax,Cb])
 case geq=>cases h;exact g (by simp) (by simp) rfl (by simp only[Ax];by_cases h:Ad U.V a≥Ad U.V b<;>simp[h]<;>omega)
 all_goals cases h;exact j (by simp) (by simp) rfl
theorem PB{a:BinOp}{s b:ByteArray}{e:SB}{r:AV}(t:TypeId)(h:Zq a e=some r)(d:Ah U.V e=strEq s.data.toList.length (AC s.data.toList) b.data.toList.length (AC b.data.toList)) :
  ∃v,(binOp a t (.string s) (.string b)).run E.P w=.ok v w∧VR ρ r v:=by
 have f:∀{a:BinOp}{c:Bool}{pos:Bool},PT a s.data.toList.length (AC s.data.toList) b.data.toList.length (AC b.data.toList)=some (.bool c)→(Ah U.V e==pos)=c→∃v,(binOp a t (.string s) (.string b)).run E.P w=.ok v w∧VR ρ (mkB pos e) v:=by
  intro a c pos g i;obtain⟨v,j,k⟩:=Od (E:=E) (w:=w) (ρ:=ρ) t g;cases k;exact⟨_,j,i▸GU ρ pos e⟩
 cases a<;>simp only[Zq]at h<;>first | (cases h;done)|skip
 case eql=>cases h;exact f rfl (by rw[d];simp)
 case neq=>cases h;exact f rfl (by rw[d];cases strEq _ _ _ _<;>rfl)
theorem Tj(l a c b:Nat):strEq l a c b=strEq c b l a:=by
 unfold strEq
 have:∀i j:Nat,Nat.beq i j=Nat.beq j i:=fun i j=>by
  cases h:Nat.beq i j with
  |true=>rw[Ay h,Fw]
  |false=>exact(GN (fun e=>Xy h e.symm)).symm
 rw[this l,this a]
theorem bJ{d:BinOp}{t:TypeId}{ox j:Operand}{x y r:AV}{l m:Value}(e:VR ρ x l)(f:VR ρ y m)(c:gB d x y=some r) :
  ∃v,(do eqGuard d t ox j l m;binOp d t l m:Sem Value).run E.P w=.ok v w∧VR ρ r v:=by
 have fin:∀{a b:Value},(¬(a=.nilIface∧b=.nilIface))→(¬∃o,a=.agg o)→(∃v,(binOp d t a b).run E.P w=.ok v w∧VR ρ r v)→∃v,(do eqGuard d t ox j a b;binOp d t a b:Sem Value).run E.P w=.ok v w∧VR ρ r v:=by
  intro a b g i ⟨v,p,q⟩;have s:(eqGuard d t ox j a b).run E.P w=.ok () w:=B5 g (fun h _=>absurd h i)
  exact⟨v,by simp only[L1,s,F0,p],q⟩
 unfold gB at c;split at c
 ·cases e;cases f;exact fin (by simp) (by simp) (PB t c rfl)
 ·cases e;cases f;exact fin (by simp) (by simp) (PB t c rfl)
 ·cases e;cases f;exact fin (by simp) (by simp) (PB t c (by rw[J8];exact Tj _ _ _ _))
 ·split at c
  ·rename_i k a u b g i;split at c
   ·rename_i n;have n:k=u:=by simpa using n
    subst n;rw[Cp e g,Cp f i];exact fin (by simp) (by simp) (dP t c)
   ·rw[Cp e g,Cp f i];exact fin (by simp) (by simp) (MZ t c)
  ·cases c
end
end Go.AE
namespace Go.AE
variable [Gl:AG]
variable [U:Unk]
theorem ER.length{ρ:Ren}:∀{l:List AA}{r:List MapEntry},ER ρ l r→l.length=r.length
 |[],[],_=>rfl
 |_::_,_::_,⟨_,_,_,h⟩=>by simp[ER.length h]
section
variable {E:Env}(hE:OK E){ρ:Ren}{h:Aa}{w:World}
include hE
theorem EG(B:Bool)(k:Nat):∀(d:Nat)(t:TypeId)(v:AV)(l:Value),Cr E d t v=true→VR ρ v l→(Instr.checkKey B (d+k) t l).run E.P w=.ok () w:=by
 intro d
 induction d with
 |zero=>intro t v l h;simp[Cr]at h
 |succ d ih=>
  intro t v l h hv;rw[show d+1+k=(d+k)+1 from by omega,Instr.checkKey]
  simp only[Cr]at h;cases g:E.desc t with
  |none=>simp[g]at h
  |some C=>
   simp only[L1,hE.run_und g,F0];cases C with
   |int q=>simp
   |string=>simp
   |bool=>simp
   |struct fs=>
    simp only[g]at h;cases hv<;>simp only[ie]at h
    rename_i cs m o p;simp only[ne_eq,L1];rw[←Array.forIn_toList];generalize fs.toList=z at h
    induction z with
    |nil=>simp
    |cons f z j=>
     simp only[Kx]at h;cases b:CF E f.type cs f.offset with
     |none=>simp[b]at h
     |some a=>
      simp only[b]at h;cases c:Cr E d f.type a with
      |false=>simp[c]at h
      |true=>
       simp only[c]at h;obtain⟨D,r,s⟩:=hE.run_part b ⟨o,p⟩ w;have u:=ih _ _ _ c s;simp only[List.forIn_cons,L1];by_cases A:f.name = "_"
       ·simp only[A,not_true_eq_false,Aey,Ts,F0];exact j h
       ·simp only[A,not_false_eq_true,if_true,L1,r,u,F0,Ts];exact j h
   |array n e=>
    simp only[g]at h;cases hv<;>simp only[ie]at h
    rename_i cs m o p;cases x:E.has e with
    |false=>simp[x]at h
    |true=>
     simp only[x]at h;simp only[Std.Legacy.Range.forIn_eq_forIn_range',Std.Legacy.Range.size,Nat.sub_zero,Nat.add_one_sub_one,Nat.div_one];generalize hi:(0:Nat)=i at h ⊢;clear hi g;simp only[L1]
     induction n generalizing i with
     |zero=>simp
     |succ n y=>
      simp only[Mn]at h;cases b:CF E e cs (i*E.size e)with
      |none=>simp[b]at h
      |some a=>
       simp only[b]at h;cases c:Cr E d e a with
       |false=>simp[c]at h
       |true=>
        simp only[c]at h;obtain⟨D,r,s⟩:=hE.run_part b ⟨o,p⟩ w;have u:=ih _ _ _ c s;simp only[List.range'_succ,List.forIn_cons,L1,hE.run_has x,F0,r,u,Ts];exact y (i+1) h
   |_=>simp[g]at h
def FR(ρ:Ren):Option (Nat×AV)→Option (Nat×Value)→Prop
 |none,none=>True
 |some (i,a),some (j,v)=>i=j∧VR ρ a v
 |_,_=>False
theorem HJ{t:TypeId}{k:AV}{d:Value}(m:VR ρ k d):∀{j:List AA} {c:List MapEntry} {i:Nat} {r:Option (Nat×AV)},ER ρ j c→Eo E t k j i=some r→
  ∃f,FR ρ r f∧(Instr.findAsking t d c i).run E.P w=.ok f w
 |[],[],i,r,_,h=>by
  simp only[Eo,C2]at h;subst h;exact⟨none,trivial,by simp[Instr.findAsking]⟩
 |e::j,l::c,i,r,⟨n,o,u,p⟩,h=>by
  simp only[Eo]at h;cases g:aeq E 10000 t k e.key with
  |none=>simp[g]at h
  |some b=>
   have a:(Op.equal t d l.key).run E.P w=.ok b w:=Uj (w:=w) hE 10000 t k e.key b d l.key g m n;cases b with
   |true=>
    simp only[g,C2]at h;subst h;exact⟨some (i,l.val),⟨rfl,o⟩,by simp[Instr.findAsking,a]⟩
   |false=>
    simp only[g]at h;obtain⟨f,q,s⟩:=HJ m p h;exact⟨f,q,by simp[Instr.findAsking,a,s]⟩
omit hE in
theorem M6{t:TypeId}{ds:TypeDesc}(hd:E.desc t=some ds){x y:AV}{b:Bool}{xv yv:Value}{d:Nat}(ha:aeq E (d+1) t x y=some b)(hx:VR ρ x xv)(hy:VR ρ y yv) :
  Instr.sameNow ds xv yv=some b∨∀u v,Instr.sameNow ds u v=none:=by
 simp only[aeq,hd]at ha;cases ds with
 |int q=>
  cases hx<;>first | (cases ha;done)|skip
  cases hy<;>first | (cases ha;done)|skip
  rename_i k n k' n';by_cases hk:k=k'
  ·subst hk;simp only[decide_true,C2]at ha;subst ha;exact .inl (by simp[Instr.sameNow])
  ·simp[hk]at ha
 |string=>
  cases hx<;>first | (cases ha;done)|skip
  cases hy<;>first | (cases ha;done)|skip
  rename_i s s';simp only[C2]at ha;subst ha;rw[Ct];exact .inl (by simp only[Instr.sameNow];rw[beq_toListBytes])
 |bool=>
  cases hx<;>first | (cases ha;done)|skip
  cases hy<;>first | (cases ha;done)|skip
  simp only[C2]at ha;subst ha;exact .inl (by simp[Instr.sameNow])
 |_=>exact .inr (fun u v=>by cases u<;>cases v<;>rfl)
omit hE in
theorem Nr{t:TypeId}{ds:TypeDesc}(hd:E.desc t=some ds){k:AV}{kv:Value}(hk:VR ρ k kv)(hq:¬∀u v,Instr.sameNow ds u v=none):∀{es:List AA} {es':List MapEntry} {i:Nat} {r:Option (Nat×AV)},ER ρ es es'→Eo E t k es i=some r→
  ∃r',FR ρ r r'∧Instr.findNow ds kv es' i=some r'
 |[],[],i,r,_,h=>by
  simp only[Eo,C2]at h;subst h;exact⟨none,trivial,rfl⟩
 |e::es,e'::es',i,r,⟨h1,h2,h3,h4⟩,h=>by
  simp only[Eo]at h;cases ha:aeq E 10000 t k e.key with
  |none=>simp[ha]at h
  |some b=>
   have hs:Instr.sameNow ds kv e'.key=some b:=(M6 hd ha hk h1).resolve_right hq;cases b with
   |true=>
    simp only[ha,C2]at h;subst h;exact⟨some (i,e'.val),⟨rfl,h2⟩,by simp[Instr.findNow,hs]⟩
   |false=>
    simp only[ha]at h;obtain⟨r',q1,q2⟩:=Nr hd hk hq h4 h;exact⟨r',q1,by simp[Instr.findNow,hs,q2]⟩
theorem Gj{t:TypeId}{ds:TypeDesc}(hd:E.desc t=some ds){k:AV}{kv:Value}(hk:VR ρ k kv){es:List AA}{es':List MapEntry}{r:Option (Nat×AV)}(a:ER ρ es es')(h:Eo E t k es 0=some r) :
  ∃r',FR ρ r r'∧(Instr.findKey t kv es').run E.P w=.ok r' w:=by
 by_cases hq:∀u v,Instr.sameNow ds u v=none
 ·cases es' with
  |nil=>
   cases es with
   |nil=>
    simp only[Eo,C2]at h;subst h;exact⟨none,trivial,by simp[Instr.findKey,hE.run_und hd,Instr.findNow]⟩
   |cons e es=>cases a
  |cons e' es'=>
   obtain⟨r',q1,q2⟩:=HJ (w:=w) hE hk a h;exact⟨r',q1,by simp[Instr.findKey,hE.run_und hd,Instr.findNow,hq,q2]⟩
 ·obtain⟨r',q1,q2⟩:=Nr hd hk hq a h;exact⟨r',q1,by simp[Instr.findKey,hE.run_und hd,q2]⟩
theorem UJ(L:HR ρ h.blk.get w){t:TypeId}{m k a:AV}{J kv:Value}{ok:Bool}(M:VR ρ m J)(hk:VR ρ k kv)(ha:PM E t m k ok h=some a) :
  ∃v,(Instr.lookup t J kv ok).run E.P w=.ok v w∧VR ρ a v:=by
 unfold PM at ha;cases hd:E.desc t with
 |none=>simp[hd]at ha
 |some d=>
  cases d with
  |map l N=>
   simp only[hd]at ha;cases c:Cr E 20 l k with
   |false=>simp[c]at ha
   |true=>
    cases G:E.zero N with
    |none=>simp[c,G]at ha
    |some z=>
     simp only[c,G]at ha;obtain⟨K,z1,z2⟩:=hE.run_zero ρ G w;have C:=AO ρ z2;have o:∀H,(Instr.checkKey H 10000 l kv).run E.P w=.ok () w:=fun H=>EG (w:=w) hE H 9980 20 l k kv c hk
     have f:∃ds,E.desc l=some ds:=by
      simp only[Cr]at c;cases hq:E.desc l with
      |none=>simp[hq]at c
      |some ds=>exact⟨ds,rfl⟩
     obtain⟨ds,f⟩:=f
     have fin:∀(v:AV)(b:Bool)(A:Value),VR ρ v A→VR ρ (NB ok v b) (if ok then .tuple #[A,.bool b]else A):=by
      intro v b A hv;cases ok with
      |true=>
       have:=VL.cons hv (VL.cons (VR.bool (ρ:=ρ) b) (VL.nil ρ));exact .tuple _ [A,.bool b] this.1 this.2
      |false=>exact hv
     have I:(Instr.findKey l kv []).run E.P w=.ok none w:=by
      obtain⟨r',q1,q2⟩:=Gj (w:=w) hE f hk (es:=[]) (es':=[]) (r:=none) trivial rfl;cases r' with
      |none=>exact q2
      |some p=>cases q1
     cases M with
     |map0=>
      simp only[C2]at ha;subst ha;refine⟨_,?_,fin z false K C⟩;simp[Instr.lookup,hE.run_und hd,o,I,z1]
     |map b base O=>
      simp only[]at ha;cases D:h.blk.get b with
      |none=>simp[D]at ha
      |some y=>
       cases y with
       |map es B=>
        simp only[D]at ha;obtain⟨es',Q,R⟩:=L.blk b base _ O D;have g:(getObj base.cb).run E.P w=.ok (.map es'.toArray B) w:=by simp[getObj,Sem.run,Q]
        cases F:Eo E l k es 0 with
        |none=>simp[F]at ha
        |some r=>
         obtain⟨r',q1,q2⟩:=Gj (w:=w) hE f hk R F;cases r with
         |none=>
          simp only[F,C2]at ha;subst ha;cases r' with
          |some p=>cases q1
          |none=>
           refine⟨_,?_,fin z false K C⟩;simp[Instr.lookup,hE.run_und hd,g,o,q2,z1]
         |some p=>
          obtain⟨i,v⟩:=p;simp only[F,C2]at ha;subst ha;cases r' with
          |none=>cases q1
          |some S=>
           obtain⟨j,A⟩:=S;refine⟨_,?_,fin v true A q1.2⟩;simp[Instr.lookup,hE.run_und hd,g,o,q2]
       |_=>simp[D]at ha
     |_=>simp at ha
  |_=>simp[hd]at ha
end
end Go.AE
namespace Go.AE
variable [Gl:AG]
variable [U:Unk]
theorem ER.get{ρ:Ren}:∀{l:List AA}{l':List MapEntry}{i:Nat}{e:AA},ER ρ l l'→l[i]?=some e→∃r,l'[i]?=some r∧VR ρ e.key r.key∧VR ρ e.val r.val∧r.born=e.born
 |[],[],i,e,_,h=>by simp at h
 |a::l,t::l',0,e,⟨I,J,h3,h4⟩,h=>by simp at h;subst h;exact⟨t,rfl,I,J,h3⟩
 |a::l,t::l',i+1,e,⟨I,J,h3,h4⟩,h=>by simpa using ER.get h4 (by simpa using h)
theorem ER.setVal{ρ:Ren}:∀{l:List AA}{I:List MapEntry}{i:Nat}{k v:AV}{r t:Value},ER ρ l I→VR ρ k r→VR ρ v t→ER ρ (setVal l i k v) (I.modify i fun e=>{e with key:=r,val:=t})
 |[],[],i,k,v,r,t,_,_,_=>by simp[AE.setVal,ER]
 |a::l,a'::I,0,k,v,r,t,⟨h1,h2,J,h4⟩,hk,hv=>by
  simp only[AE.setVal,List.modify_zero_cons];exact⟨hk,hv,J,h4⟩
 |a::l,a'::I,i+1,k,v,r,t,⟨h1,h2,J,h4⟩,hk,hv=>by
  simp only[AE.setVal,List.modify_succ_cons];exact⟨h1,h2,J,ER.setVal h4 hk hv⟩
theorem ER.append{ρ:Ren}:∀{l:List AA}{l':List MapEntry}{m:List AA}{r:List MapEntry},ER ρ l l'→ER ρ m r→ER ρ (l++m) (l'++r)
 |[],[],_,_,_,h=>h
 |_::_,_::_,_,_,⟨t,I,J,h4⟩,h=>⟨t,I,J,ER.append h4 h⟩
theorem ER.eraseIdx{ρ:Ren}:∀{l:List AA}{r:List MapEntry}(i:Nat),ER ρ l r→ER ρ (l.eraseIdx i) (r.eraseIdx i)
 |[],[],i,_=>by simp[ER]
 |_::_,_::_,0,⟨_,_,_,h⟩=>by simpa using h
 |_::_,_::_,i+1,⟨t,I,J,h4⟩=>by
  simp only[List.eraseIdx_cons_succ];exact⟨t,I,J,ER.eraseIdx i h4⟩
section
variable {E:Env}(hE:OK E){ρ:Ren}{h:Aa}{w:World}
theorem Be(P:Program){r:Nat}{o o':Obj}(a:w.heap[r]?=some o)(b:∀c e f,o≠.cells c e f) :
  (setObj r o').run P w=.ok () {w with heap:=w.heap.setIfInBounds r o'}:=by
 cases o<;>simp only[setObj,Sem.run,a]
 exact absurd rfl (b _ _ _)
theorem A5(P:Program){r:Nat}{o:Obj}(a:w.heap[r]?=some o)(b:∀c e f,o≠.cells c e f) :
  (getObj r).run P w=.ok o w:=by
 cases o<;>simp only[getObj,Sem.run,a]
 exact absurd rfl (b _ _ _)
theorem HR.setObj(t:HR ρ h.blk.get w){r:Nat}{base:Cu}(I:ρ r=some base)(J:h.blk.get r≠none)(x:An)(o':Obj)(hx:BR ρ x base (some o')) :
  HR ρ (h.put r x).blk.get {w with heap:=w.heap.setIfInBounds base.cb o'}∧Ext ρ ρ h (h.put r x) w {w with heap:=w.heap.setIfInBounds base.cb o'}:=by
 have l:=t.lt r base I;refine t.put I J x _ ?_ (by simp) (fun k hk=>by simp[vy (Ne.symm hk)]) rfl rfl rfl
 have:({w with heap:=w.heap.setIfInBounds base.cb o'}:World).heap[base.cb]?=some o':=by simp[l]
 rw[this];exact hx
theorem QY:∀{a b:AV},SQ a b=true→a=b:=by
 intro a b h;cases a<;>cases b<;>simp only[SQ]at h<;>first | (cases h;done)|skip
 ·rename_i x y;cases x<;>cases y<;>first|rfl|cases h
 ·rename_i k x d y;by_cases c:k=d
  ·subst c;simp only[decide_true]at h;rw[eq_of_beq h]
  ·simp[c]at h
 ·rename_i l x g y;obtain⟨e,f⟩:=Av h;rw[Ay e,Ay f]
theorem N2:∀{l m:List AV},Ki l m=true→l=m
 |[],[],_=>rfl
 |[],_::_,h=>by simp[Ki]at h
 |_::_,[],h=>by simp[Ki]at h
 |a::l,b::m,h=>by
  simp only[Ki]at h;cases c:SQ a b with
  |false=>simp[c]at h
  |true=>simp only[c]at h;rw[QY c,N2 h]
theorem KY{a b:AV}(h:GW a b=true):a=b:=by
 cases a<;>cases b<;>first|exact congrArg AV.agg (N2 h)|exact QY h
theorem DZ(P:Program)(b nv:Value) :
  ∃v a,(Instr.keyThatStays b nv).run P w=.ok v a∧(v=nv∨v=b)∧a.heap=w.heap∧a.os=w.os∧a.tape=w.tape∧a.output=w.output:=by
 unfold Instr.keyThatStays;by_cases c:Instr.sameBits 10000 b nv=true
 ·exact⟨nv,w,by simp[c],.inl rfl,rfl,rfl,rfl,rfl⟩
 ·simp only[c,ie,Aey,L1,run_choose,Question.forced,Ts];exact⟨_,_,rfl,by split<;>simp,rfl,rfl,rfl,rfl⟩
include hE
theorem IB(G:HR ρ h.blk.get w){t:TypeId}{m k v:AV}{V n q:Value}{h':Aa}(Y:VR ρ m V)(A:VR ρ k n)(hv:VR ρ v q)(c:JP E t m k v h=some h') :
  ∃H,(Instr.mapUpdate t V n q).run E.P w=.ok () H∧HR ρ h'.blk.get H∧Ext ρ ρ h h' w H:=by
 unfold JP at c;cases x:E.desc t with
 |none=>simp[x]at c
 |some d=>
  cases d with
  |map s et=>
   simp only[x]at c;cases f:Cr E 20 s k with
   |false=>simp[f]at c
   |true=>
    simp only[f]at c;have z:∀I,(Instr.checkKey I 10000 s n).run E.P w=.ok () w:=fun I=>EG (w:=w) hE I 9980 20 s k n f A
    have o:∃B,E.desc s=some B:=by
     simp only[Cr]at f;cases Z:E.desc s with
     |none=>simp[Z]at f
     |some B=>exact⟨B,rfl⟩
    obtain⟨B,o⟩:=o;cases Y with
    |map b base J=>
     simp only[]at c;cases u:h.blk.get b with
     |none=>simp[u]at c
     |some y=>
      cases y with
      |map C a=>
       simp only[u]at c;obtain⟨g,K,D⟩:=G.blk b base _ J u;have l:=A5 (w:=w) E.P K (by simp)
       cases F:Eo E s k C 0 with
       |none=>simp[F]at c
       |some r=>
        obtain⟨W,L,X⟩:=Gj (w:=w) hE o A D F;cases r with
        |none=>
         simp only[F,C2]at c;subst c;cases W with
         |some p=>cases L
         |none=>
          obtain⟨p1,p2⟩:=G.setObj J (by rw[u];simp) (.map (C++[{key:=k,val:=v,born:=a}]) (a+1)) (.map (g.toArray.push {key:=n,val:=q,born:=a}) (a+1))
           ⟨g++[{key:=n,val:=q,born:=a}],by simp,D.append ⟨A,hv,rfl,trivial⟩⟩
          refine⟨_,?_,p1,p2⟩;simp[Instr.mapUpdate,hE.run_und x,l,z,X,Be (w:=w) E.P K (by simp)]
        |some p=>
         obtain⟨i,v0⟩:=p;simp only[F]at c;cases W with
         |none=>cases L
         |some p'=>
          obtain⟨j,aa⟩:=p';obtain⟨rfl,q3⟩:=L;cases hi:C[i]? with
          |none=>simp[hi]at c
          |some e=>
           simp only[hi]at c;cases M:GW k e.key with
           |false=>simp[M]at c
           |true=>
            simp only[M,C2]at c;subst c;have N:=KY M;obtain⟨e',g1,g2,g3,g4⟩:=D.get hi;obtain⟨O,w1,s1,s2,Q,s4,s5,s6⟩:=DZ (w:=w) E.P e'.key n
            have R:VR ρ k O:=by
             rcases s2 with rfl|rfl
             ·exact A
             ·rw[N];exact g2
            have S:HR ρ h.blk.get w1:=G.same Q
            obtain⟨p1,p2⟩:=S.setObj J (by rw[u];simp) (.map (setVal C i k v) a) (.map (g.toArray.modify i fun e=>{e with key:=O,val:=q}) a)
             ⟨g.modify i fun e=>{e with key:=O,val:=q},by simp[List.modify_toArray],D.setVal R hv⟩
            refine⟨_,?_,p1,p2.drawn Q s4 s5 s6⟩;have T:w1.heap[base.cb]?=some (.map g.toArray a):=by rw[Q];exact K
            simp only[Instr.mapUpdate,L1,hE.run_und x,F0,l,z,X,Aep,g1,vx,Afd,s1];rw[Be (w:=w1) E.P T (by simp)]
      |_=>simp[u]at c
    |_=>simp at c
  |_=>simp[x]at c
theorem Uh(g:HR ρ h.blk.get w){t ty:TypeId}{m k:AV}{c d:Value}{h':Aa}(i:VR ρ m c)(j:VR ρ k d)(e:LC E t m k h=some h')(a:Array TypeId)(f:a[0]?=some t) :
  ∃b,(Builtin.delete_ a ty #[c,d]).run E.P w=.ok (.tuple #[]) b∧HR ρ h'.blk.get b∧Ext ρ ρ h h' w b:=by unfold LC at e;cases e
end
end Go.AE
namespace Go.AE
variable [Gl:AG]
variable [U:Unk]
theorem JL{g:Ren}{n:Nat}{v:AV}{k:Value}(hv:VR g v k):∀{c b:List AA}{a:List MapEntry},ER g c a→Dt c n v=some b→
  ∃i,a.findIdx? (fun e=>(e.born:Int)==(n:Int))=some i∧ER g b (a.modify i fun e=>{e with val:=k})
 |[],_,[],_,h=>by simp[Dt]at h
 |e::c,b,o::a,⟨l,p,d,m⟩,h=>by
  simp only[Dt]at h;cases f:Nat.beq e.born n with
  |true=>
   simp only[f,C2]at h;subst h;have:=Ay f;exact⟨0,by simp[List.findIdx?_cons,d,this],by simp only[List.modify_zero_cons];exact⟨l,hv,d,m⟩⟩
  |false=>
   simp only[f]at h;cases j:Dt c n v with
   |none=>simp[j]at h
   |some r=>
    simp only[j,C2]at h;subst h;obtain⟨i,q,s⟩:=JL hv m j;have t:=Xy f;refine⟨i+1,?_,by simp only[List.modify_succ_cons];exact⟨l,p,d,s⟩⟩
    have:((o.born:Int)==(n:Int))=false:=by rw[d];simp;omega
    simp[List.findIdx?_cons,this,q]
theorem ER.setKey{ρ:Ren}{k:AV}{kv:Value}(hk:VR ρ k kv):∀{l:List AA}{r:List MapEntry}{i:Nat}{e:AA},ER ρ l r→l[i]?=some e→ER ρ (AE.setVal l i k e.val) (r.modify i fun e=>{e with key:=kv})
 |[],[],i,e,_,h=>by simp at h
 |a::l,a'::r,0,e,⟨h1,t,I,J⟩,h=>by
  simp at h;subst h;simp only[AE.setVal,List.modify_zero_cons];exact⟨hk,t,I,J⟩
 |a::l,a'::r,i+1,e,⟨h1,t,I,J⟩,h=>by
  simp only[AE.setVal,List.modify_succ_cons];exact⟨h1,t,I,ER.setKey hk J (by simpa using h)⟩
section
variable {E:Env}(hE:OK E){ρ:Ren}{h:Aa}{w:World}
theorem M2(r:HR ρ h.blk.get w){t:TypeId}{m s v:AV}{u x j:Value}{h':Aa}(B:VR ρ m u)(C:VR ρ s x)(hv:VR ρ v j)(c:GM m s v h=some h') :
  ∃l,(Instr.entryStore t u x j).run E.P w=.ok () l∧HR ρ h'.blk.get l∧Ext ρ ρ h h' w l:=by
 unfold GM at c;cases o:D2 s with
 |none=>cases m<;>simp[o]at c
 |some n=>
  obtain⟨k,rfl⟩:=C3 C o;cases B with
  |map b base z=>
   simp only[o]at c;cases f:h.blk.get b with
   |none=>simp[f]at c
   |some y=>
    cases y with
    |map D a=>
     simp only[f]at c;obtain⟨p,A,F⟩:=r.blk b base _ z f;have g:=A5 (w:=w) E.P A (by simp)
     cases d:Dt D n v with
     |none=>simp[d]at c
     |some q=>
      simp only[d,C2]at c;subst c;obtain⟨i,G,H⟩:=JL hv F d;obtain⟨p1,p2⟩:=r.setObj z (by rw[f];simp) (.map q a) (.map (p.toArray.modify i fun e=>{e with val:=j}) a) ⟨_,by simp[List.modify_toArray],H⟩
      refine⟨_,?_,p1,p2⟩;simp[Instr.entryStore,g,asInt,asIntOf,G,Be (w:=w) E.P A (by simp)]
    |_=>simp[f]at c
  |_=>simp at c
include hE
theorem Ow(L:HR ρ h.blk.get w){t:TypeId}{m k a:AV}{mv s:Value}{h':Aa}(hm:VR ρ m mv)(F:VR ρ k s)(f:Qu E t m k h=some (a,h')) :
  AY E ρ h h' w (Instr.mapEntry t mv s) a:=by
 unfold Qu at f;cases B:E.desc t with
 |none=>simp[B]at f
 |some d=>
  cases d with
  |map x et=>
   simp only[B]at f;cases g:Cr E 20 x k with
   |false=>simp[g]at f
   |true=>
    cases M:E.zero et with
    |none=>simp[g,M]at f
    |some z=>
     simp only[g,M]at f;obtain⟨N,z1,z2⟩:=hE.run_zero ρ M w;have C:=AO ρ z2;have D:∀O,(Instr.checkKey O 10000 x s).run E.P w=.ok () w:=fun O=>EG (w:=w) hE O 9980 20 x k s g F
     have u:∃G,E.desc x=some G:=by
      simp only[Cr]at g;cases hq:E.desc x with
      |none=>simp[hq]at g
      |some G=>exact⟨G,rfl⟩
     obtain⟨G,u⟩:=u
     have o:∀(v:AV)(H:Value)(n:Nat),VR ρ v H→VR ρ (.tuple [v,.int .i64 (n:Int)]) (.tuple #[H,goInt n]):=by
      intro v H n hv;have:=VL.cons hv (VL.cons (VR.int (ρ:=ρ) .i64 (n:Int)) (VL.nil ρ));exact .tuple _ [H,goInt n] this.1 this.2
     cases hm with
     |map b base Q=>
      simp only[]at f;cases A:h.blk.get b with
      |none=>simp[A]at f
      |some y=>
       cases y with
       |map I c=>
        simp only[A]at f;obtain⟨l,R,J⟩:=L.blk b base _ Q A;have q:=A5 (w:=w) E.P R (by simp)
        cases K:Eo E x k I 0 with
        |none=>simp[K]at f
        |some r=>
         obtain⟨r',S,q2⟩:=Gj (w:=w) hE u F J K;cases r with
         |none=>
          simp only[K,C2,k0]at f;obtain⟨rfl,rfl⟩:=f;cases r' with
          |some p=>cases S
          |none=>
           obtain⟨p1,p2⟩:=L.setObj Q (by rw[A];simp) (.map (I++[{key:=k,val:=z,born:=c}]) (c+1)) (.map (l.toArray.push {key:=s,val:=N,born:=c}) (c+1))
            ⟨l++[{key:=s,val:=N,born:=c}],by simp,J.append ⟨F,C,rfl,trivial⟩⟩
           refine⟨ρ,_,_,?_,o z N c C,p1,p2⟩;simp[Instr.mapEntry,hE.run_und B,q,D,q2,z1,Be (w:=w) E.P R (by simp)]
         |some p=>
          obtain⟨i,v0⟩:=p;simp only[K]at f;cases r' with
          |none=>cases S
          |some p'=>
           obtain⟨j,T⟩:=p';obtain⟨rfl,q3⟩:=S;cases hi:I[i]? with
           |none=>simp[hi]at f
           |some e=>
            simp only[hi]at f;cases V:GW k e.key with
            |false=>simp[V]at f
            |true=>
             simp only[V,C2,k0]at f;obtain⟨rfl,rfl⟩:=f;have W:=KY V;obtain⟨e',g1,g2,g3,g4⟩:=J.get hi;obtain⟨X,w1,s1,s2,Y,s4,s5,s6⟩:=DZ (w:=w) E.P e'.key s
             have Z:VR ρ k X:=by
              rcases s2 with rfl|rfl
              ·exact F
              ·rw[W];exact g2
             have aa:HR ρ h.blk.get w1:=L.same Y
             obtain⟨p1,p2⟩:=aa.setObj Q (by rw[A];simp) (.map (setVal I i k e.val) c) (.map (l.toArray.modify i fun e=>{e with key:=X}) c)
              ⟨l.modify i fun e=>{e with key:=X},by simp[List.modify_toArray],ER.setKey Z J hi⟩
             refine⟨ρ,_,_,?_,o v0 T e.born q3,p1,p2.drawn Y s4 s5 s6⟩;have ab:w1.heap[base.cb]?=some (.map l.toArray c):=by rw[Y];exact R
             simp only[Instr.mapEntry,L1,hE.run_und B,F0,q,D,q2,Aep,g1,vx,Afd,s1,g4];rw[Be (w:=w1) E.P ab (by simp)]
             rfl
       |_=>simp[A]at f
     |_=>simp at f
  |_=>simp[B]at f
omit hE in
theorem cM(hE:OK E)(hr:HR ρ h.blk.get w){t ty:TypeId}{x a:AV}{xv:Value}(hx:VR ρ x xv)(ha:kN E t x h=some a)(ats:Array TypeId)(hat:ats[0]?=some t)(args:Array Value)(harg:args[0]?=some xv) :
    ∃v,(Builtin.len_ ats ty args).run E.P w=.ok v w∧VR ρ a v:=by
  unfold kN at ha;cases hd:E.desc t with
  |none=>simp[hd]at ha
  |some d=>
    cases d with
    |string=>
      cases hx<;>simp only[hd]at ha<;>first | (cases ha;done)|skip
      · simp only[C2]at ha
        subst ha;rename_i s;refine⟨goInt s.size,by simp[Builtin.len_,hat,harg,hE.run_und hd],?_⟩
        have:s.data.toList.length=s.size:=by simp
        rw[this];exact .int _ _
      · simp only[C2]at ha
        subst ha;rename_i i;refine⟨goInt (AR U.V i).size,by simp[Builtin.len_,hat,harg,hE.run_und hd],?_⟩
        have h1:(AR U.V i).data.toList.length=(AR U.V i).size:=by simp
        have h2:=Cg ρ .i64 (.lenS i);have h3:Ad U.V (.lenS i)=((AR U.V i).data.toList.length:Nat):=rfl;rw[h3,h1]at h2;exact h2
    |array n e=>
      simp only[hd,C2]at ha;subst ha;refine⟨goInt n,?_,.int _ _⟩;cases hx<;>simp[Builtin.len_,hat,harg,hE.run_und hd]
    |slice e=>
      cases hx<;>simp only[hd]at ha<;>first | (cases ha;done)|skip
      all_goals
        simp only[C2]at ha;subst ha
        first
          |exact⟨_,by simp[Builtin.len_,hat,harg,hE.run_und hd];rfl,.int _ _⟩
          | (rename_i e' x a n c hdv
             obtain⟨_,_,_,e1,e2⟩:=hdv.slice_inv;cases e1;have q:=Cg ρ .i64 (.lenL x);rw[Ar,e2]at q;exact⟨_,by simp[Builtin.len_,hat,harg,hE.run_und hd];rfl,q⟩)
          | (rename_i b es n nl cap base hb h0 hc hz hnl
             have q:=Cg ρ .i64 n;refine⟨goInt (Ad U.V n).toNat,by simp[Builtin.len_,hat,harg,hE.run_und hd],?_⟩
             have e:goInt ((Ad U.V n).toNat:Nat)=.int .i64 (Ad U.V n):=by simp[goInt];omega
             rw[e];exact q)
          | (rename_i b es n nl a h0 hnl
             have q:=Cg ρ .i64 n;rw[h0]at q;exact⟨_,by simp[Builtin.len_,hat,harg,hE.run_und hd];rfl,q⟩)
    |map k e=>
      cases hx<;>simp only[hd]at ha<;>first | (cases ha;done)|skip
      · simp only[C2]at ha
        subst ha;exact⟨goInt 0,by simp[Builtin.len_,hat,harg,hE.run_und hd],.int _ _⟩
      · rename_i b base hb
        cases hg:h.blk.get b with
        |none=>simp[hg]at ha
        |some y=>
          cases y with
          |map es clock=>
            simp only[hg,C2]at ha;subst ha;obtain⟨es',e1,e2⟩:=hr.blk b base _ hb hg;have hget:=A5 (w:=w) E.P e1 (by simp)
            refine⟨goInt es'.length,by simp[Builtin.len_,hat,harg,hE.run_und hd,hget],?_⟩
            rw[e2.length];exact .int _ _
          |dmap kt vt x=>
            simp only[hg,C2]at ha;subst ha;obtain⟨kks,vks,es',clock,_,_,e1,e2,_⟩:=hr.blk b base _ hb hg;have hget:=A5 (w:=w) E.P e1 (by simp)
            refine⟨goInt es'.length,by simp[Builtin.len_,hat,harg,hE.run_und hd,hget],?_⟩
            have q:=Cg ρ .i64 (.lenL x);rw[Ar,←e2.length]at q;exact q
          |_=>simp[hg]at ha
    |_=>cases hx<;>simp[hd]at ha
end
end Go.AE
namespace Go.AE
variable [Gl:AG]
variable [U:Unk]
theorem UM{d:Ren}(P:Program)(w:World)(k:IntKind):∀{l:List AV}{b:List Value}{x:Int}{a:AV},VL d l b→JR k x l=some a→∃v,(b.foldlM Builtin.max2 (.int k x)).run P w=.ok v w∧VR d a v:=by
 intro l
 induction l with
 |nil=>intro b x a c h;rw[c.nil_inv];simp only[JR,C2]at h;subst h;exact⟨_,by simp,.int _ _⟩
 |cons y r ih=>
  intro b x a c h;obtain⟨v,i,rfl,hv,e⟩:=c.cons_inv;cases hv<;>simp only[JR]at h<;>first | (cases h;done)|skip
  obtain⟨u,f,g⟩:=ih e h;exact⟨u,by simp only[List.foldlM_cons,Builtin.max2,L1,Ts,F0];exact f,g⟩
theorem UE{d:Ren}(P:Program)(w:World)(k:IntKind):∀{l:List AV}{b:List Value}{x:Int}{a:AV},VL d l b→Jd k x l=some a→∃v,(b.foldlM Builtin.min2 (.int k x)).run P w=.ok v w∧VR d a v:=by
 intro l
 induction l with
 |nil=>intro b x a c h;rw[c.nil_inv];simp only[Jd,C2]at h;subst h;exact⟨_,by simp,.int _ _⟩
 |cons y r ih=>
  intro b x a c h;obtain⟨v,i,rfl,hv,e⟩:=c.cons_inv;cases hv<;>simp only[Jd]at h<;>first | (cases h;done)|skip
  obtain⟨u,f,g⟩:=ih e h;exact⟨u,by simp only[List.foldlM_cons,Builtin.min2,L1,Ts,F0];exact f,g⟩
theorem K1{b:Type}(a:Array b)(x:b)(f:b→b):(a.push x).modify a.size f=a.push (f x):=by
 apply Array.ext_getElem?;intro i;simp only[Array.getElem?_modify,Array.getElem?_push];by_cases h:i=a.size
 ·subst h;simp
 ·rw[if_neg (fun e=>h e.symm),if_neg h,if_neg h]
section
variable {E:Env}(hE:OK E){ρ:Ren}{h:Aa}{w:World}
include hE
theorem Rj(q:HR ρ h.blk.get w){s d:TypeId}{x a:AV}{K:Value}{h':Aa}(L:VR ρ x K)(c:VB E s d x h=some (a,h'))(M:AW ρ h.nx h'.nx) :
  AY E ρ h h' w (convert s d K) a:=by
 unfold VB at c;cases z:E.desc s with
 |none=>rw[z]at c;cases c
 |some g=>
  cases A:E.desc d with
  |none=>rw[z,A]at c;cases g<;>cases c
  |some m=>
   rw[z,A]at c;have us:=hE.run_und z w;have r:=hE.run_und A w;cases L with
   |int k n=>
    cases m<;>first | (cases c;done) | (cases g<;>(cases c;done))|skip
    simp only[C2,k0]at c;obtain⟨rfl,rfl⟩:=c;exact Bs q ⟨_,by simp[convert,us,r,Conv.intToInt],.int _ _⟩
   |si k e=>
    cases m<;>first | (cases c;done) | (cases g<;>(cases c;done))|skip
    simp only[C2,k0]at c;obtain⟨rfl,rfl⟩:=c;exact Bs q ⟨_,by simp[convert,us,r,Conv.intToInt,Ma],Cg ρ _ (.conv _ e)⟩
   |ss i=>
    cases m<;>first | (cases c;done) | (cases g<;>(cases c;done))|skip
    simp only[C2,k0]at c;obtain⟨rfl,rfl⟩:=c;refine Bs q ⟨.string (AR U.V i),?_,.ss i⟩;cases g<;>simp[convert,us,r]
   |str t=>
    cases m<;>first | (cases c;done) | (cases g<;>(cases c;done))|skip
    ·simp only[C2,k0]at c;obtain⟨rfl,rfl⟩:=c;refine Bs q ⟨.string t,?_,.str t⟩;cases g<;>simp[convert,us,r]
    ·rename_i e;simp only[]at c;cases B:E.desc e with
     |none=>rw[B]at c;cases c
     |some N=>
      have O:=hE.run_und B w;rw[B]at c;cases N<;>first | (cases c;done)|skip
      rename_i k;cases k<;>first | (cases c;done)|skip
      simp only[C2,k0]at c;obtain⟨rfl,rfl⟩:=c;have o:ρ h.nx=none:=M h.nx (R2 _) (by simp[Aa.new])
      generalize j:grownCap w t.size 0 e=f;have u:t.size≤f:=by rw[←j];exact grownCap_ge w _ _ _
      generalize l:(t.data.map (fun b=>Value.int .u8 b.toNat)++Array.replicate (f-t.size) (.int .u8 0))=arr
      have y:arr.size=f:=by rw[←l];simp;omega
      have C:HR ρ h.blk.get {w with drawn:=w.drawn+1}:=q.same rfl
      obtain⟨p1,p2⟩:=C.new o (.cells t.data.toList.length (.ofList (Hn t.data.toList.length (AC t.data.toList)))) (.cells arr e (arr.size,arr.size+1)) arr.size (by
       refine⟨arr,e,_,rfl,rfl,?_,.inr (R2 _),?_⟩
       ·show 0+_≤arr.size;simp;omega
       ·intro i a hi c;rw[T.get_ofList,Gm]at c;obtain⟨v,hv,D⟩:=(Sv (ρ.upd h.nx ⟨w.heap.size,0,arr.size⟩) t.data.toList).get c;refine⟨v,?_,D⟩;rw[←l];have F:i<t.size:=by simpa using hi
        simp only[s0];rw[Ae0 (by simpa using F)]
        simpa using hv) {w with drawn:=w.drawn+1,heap:=w.heap.push (.cells arr e (arr.size,arr.size+1))} rfl rfl rfl rfl
      refine⟨_,.slice (some ⟨w.heap.size,0,none⟩) t.size f,_,?_,?_,p1,p2.drawn rfl rfl rfl rfl⟩
      ·have G:(choose (.appendCap t.size 0 e)).run E.P w=.ok f {w with drawn:=w.drawn+1}:=by rw[←j];simp[Question.forced,grownCap]
       have p:(convert s d (.string t)).run E.P w=(Conv.stringToBytes e t).run E.P w:=by
        cases g<;>simp[convert,us,r,O]
       rw[p];simp only[Conv.stringToBytes,L1,G,F0,newRow,Aez,Ts,l];simp only[markStringish,L1,run_shape,F0];have H:({w with drawn:=w.drawn+1,heap:=w.heap.push (.cells arr e)}:World).shape? w.heap.size=some (e,arr.size):=by simp[World.shape?]
       rw[H];simp only[run_freeze,F0]
       have I:({w with drawn:=w.drawn+1,heap:=w.heap.push (.cells arr e)}:World).freeze ⟨w.heap.size,arr.size,none⟩ 1={w with drawn:=w.drawn+1,heap:=w.heap.push (.cells arr e (arr.size,arr.size+1))}:=by
        simp[World.freeze,K1]
       rw[I]
      ·have J:t.size=t.data.toList.length:=by simp
       rw[J]at u ⊢;exact VR.slice h.nx 0 _ 1 f _ (Ren.upd_same _ _ _) u (by simp[y])
   |slice0=>cases m<;>cases g<;>cases c
   |slice b off len Q f base R j S=>cases m<;>cases g<;>cases c
   |_=>cases m<;>first | (cases c;done) | (cases g<;>(cases c;done))
end
end Go.AE
namespace Go.AE
variable [Gl:AG]
variable [U:Unk]
section
variable {E:Env}(hE:OK E){ρ:Ren}{h:Aa}{w:World}
include hE
theorem UX{x a:AV}{p:Value}{m t:TypeId}{ok:Bool}(r:VR ρ x p)(c:PO E x t ok=some a) :
  ∃v,(Instr.typeAssert p m t ok).run E.P w=.ok v w∧VR ρ a v:=by
 unfold PO at c;cases n:E.desc t with
 |none=>rw[n]at c;cases c
 |some d=>
  rw[n]at c;have q:=hE.run_und n w
  have e:∀(v:AV)(g:Value)(b:Bool),VR ρ v g→VR ρ (.tuple [v,.bool b]) (.tuple #[g,.bool b]):=by
   intro v g b hv;have:=VL.cons hv (VL.cons (VR.bool (ρ:=ρ) b) (VL.nil ρ));exact .tuple _ [g,.bool b] this.1 this.2
  simp only[]at c;cases i:RV d with
  |true=>simp[i]at c
  |false=>
   simp only[i]at c;cases r<;>first | (cases c;done)|skip
   ·rename_i l v g hv;simp only[Qa]at c
    have f:(Instr.typeAssert (.iface l g) m t ok).run E.P w=(if l=t then (pure (if ok then .tuple #[g,.bool true]else g):Sem Value)else
      (if ok then (do pure (.tuple #[←zeroValue t,.bool false]))else runtimePanic (.typeAssertion (some m) (some l) t ""))).run E.P w:=by
     cases d<;>first | (cases i;done)|simp only[Instr.typeAssert,L1,q,F0]
    cases k:Nat.beq l t with
    |true=>
     have:=Ay k;cases ok with
     |true=>
      simp only[k,C2]at c;subst c;exact⟨_,by rw[f,if_pos this];rfl,e v g true hv⟩
     |false=>
      simp only[k,C2]at c;subst c;exact⟨_,by rw[f,if_pos this];rfl,hv⟩
    |false=>
     have:=Xy k;cases ok with
     |true=>
      cases j:E.zero t with
      |none=>simp[k,j]at c
      |some z=>
       simp only[k,j,C2]at c;subst c;obtain⟨o,z1,z2⟩:=hE.run_zero ρ j w;exact⟨_,by rw[f,if_neg this];simp[z1],e z o false (AO ρ z2)⟩
     |false=>simp[k]at c
   ·simp only[Qa]at c;cases ok with
    |false=>cases j:E.zero t<;>simp at c
    |true=>
     cases j:E.zero t with
     |none=>simp[j]at c
     |some z=>
      simp only[j,C2]at c;subst c;obtain⟨o,z1,z2⟩:=hE.run_zero ρ j w;refine⟨_,?_,e z o false (AO ρ z2)⟩;cases d<;>first | (cases i;done)|simp[Instr.typeAssert,q,z1]
theorem XX(d:HR ρ h.blk.get w){t:TypeId}{x a:AV}{b:Value}{h':Aa}(e:VR ρ x b)(c:UV E t x h=some (a,h'))(f:AW ρ h.nx h'.nx) :
  AY E ρ h h' w (Instr.range t b) a:=by unfold UV at c;cases c
end
end Go.AE
namespace Go.AE
variable [Gl:AG]
variable [U:Unk]
section
variable {E:Env}(hE:OK E){ρ:Ren}{h:Aa}{w:World}
theorem X8(e:HR ρ h.blk.get w){it a:AV}{c:Value}{b:Bool}{ty:TypeId}{h':Aa}(hi:VR ρ it c)(d:Z8 it b h=some (a,h')) :
  AY E ρ h h' w (Instr.next c b ty) a:=by unfold Z8 at d;cases d
theorem NM(d:HR ρ h.blk.get w){it a:AV}{b:Value}(hi:VR ρ it b)(c:Ib it h=some a) :
  ∃v,(Instr.entry b).run E.P w=.ok v w∧VR ρ a v:=by unfold Ib at c;cases c
theorem JG{nt:Nat}{tmps:T AV}{tm:Array Value}(b:TR ρ nt tmps tm)(o:Operand):VR ρ (Aj tmps o) (match o with
  |.tmp t=>tm.getD t Go.undef
  |.const v=>v
  |.global g=>.pointer (some ⟨g,0,none⟩)
  |.func f=>.func (.func f) #[] #[]):=by
 cases o with
 |tmp t=>
  simp only[Aj];cases c:tmps.get t with
  |none=>exact .top _
  |some a=>exact b.get t a c
 |const v=>
  simp only[Aj];cases hv:ofValue v with
  |none=>exact .top v
  |some a=>exact AO ρ hv
 |global g=>exact .glob g 0
 |func f=>exact .func _ _ [] [] [] [] rfl rfl (by simp) rfl (by simp)
def EvR(ρ:Ren)(tmps:T AV)(a:Operand→Value):Prop:=∀o,VR ρ (Aj tmps o) (a o)
theorem EvR.list{tmps:T AV}{t:Operand→Value}(r:EvR ρ tmps t):∀(l:List Operand),VL ρ (l.map (Aj tmps)) (l.map t)
 |[]=>VL.nil ρ
 |o::l=>VL.cons (r o) (EvR.list r l)
theorem EvR.parts{tmps:T AV}{t:Operand→Value}(r:EvR ρ tmps t):∀(l:List (Nat×Operand)),PL ρ (l.map fun(i,x)=>(i,Aj tmps x)) (l.map fun(i,x)=>(i,t x))
 |[]=>trivial
 | (i,x)::l=>⟨rfl,r x,EvR.parts r l⟩
end
end Go.AE
namespace Go.AE
variable [Gl:AG]
variable [U:Unk]
def FI(E:Env)(b:Ren)(h:Aa)(w:World)(s:Sem Next):Res→Prop
 |.val v h'=>AW b h.nx h'.nx→∃g c e,(s.run E.P w=.ok (.value c) e∨(s.run E.P w=.ok .skip e∧c=Go.undef))∧VR g v c∧HR g h'.blk.get e∧Ext b g h h' w e
 |.enter f args h'=>h'=h∧∃a:List Value,VL b args a∧s.run E.P w=.ok (.enter f a.toArray) w
 |.round l args h'=>h'=h∧∃base,∃a:List Value,b l=some base∧VL b args a∧s.run E.P w=(Instr.yield base.cb a.toArray).run E.P w
 |.defer d h'=>h'=h∧∃i,DR b d i∧s.run E.P w=.ok (.defer i) w
 |.recover h'=>h'=h∧s.run E.P w=.ok .recover w
 |.panic v h'=>h'=h∧∃c,VR b v c∧s.run E.P w=.halt (.panic c) w
 |.bad _=>True
section
variable {E:Env}(hE:OK E){ρ:Ren}{h:Aa}{w:World}
theorem BB{s:Sem Value}{b:String}{o:Option (AV×Aa)}(c:∀a h',o=some (a,h')→AW ρ h.nx h'.nx→AY E ρ h h' w s a) :
  FI E ρ h w (do pure (.value (←s))) (Df b o):=by
 cases o with
 |none=>trivial
 |some p=>
  obtain⟨a,h'⟩:=p;intro d;obtain⟨e,v,f,g,i,j,k⟩:=c a h' rfl d;exact⟨e,v,f,.inl (by simp[g]),i,j,k⟩
theorem Bb(c:HR ρ h.blk.get w){s:Sem Value}{b:String}{o:Option AV}(d:∀a,o=some a→∃v,s.run E.P w=.ok v w∧VR ρ a v) :
  FI E ρ h w (do pure (.value (←s))) (BP h b o):=by
 cases o with
 |none=>trivial
 |some a=>
  intro g;obtain⟨v,e,f⟩:=d a rfl;exact⟨ρ,v,w,.inl (by simp[e]),f,c,Ext.refl ρ h w⟩
theorem Kz{s:Sem Unit}{b:String}{o:Option Aa}(c:∀h',o=some h'→∃a,s.run E.P w=.ok () a∧HR ρ h'.blk.get a∧Ext ρ ρ h h' w a) :
  FI E ρ h w (do s;pure .skip) (Ex b o):=by
 cases o with
 |none=>trivial
 |some h'=>
  intro g;obtain⟨a,d,e,f⟩:=c h' rfl;exact⟨ρ,Go.undef,a,.inr ⟨by simp[d],rfl⟩,VR.undef ρ,e,f⟩
include hE
theorem TE(c:HR ρ h.blk.get w){f:FuncId}{fn:Func}(b:E.fn.get f=some fn)(d:fn.body=none){args:List AV}{a:List Value}(e:VL ρ args a) :
  FI E ρ h w (callFunc f a.toArray) (Lv fn.name args h):=trivial
theorem Yw(g:HR ρ h.blk.get w){f:FuncId}{args:List AV}{a:List Value}(e:VL ρ args a):FI E ρ h w (callFunc f a.toArray) (RM E f args h):=by
 unfold RM;cases d:E.fn.get f with
 |none=>trivial
 |some fn=>
  cases b:fn.body with
  |none=>simp only[];rw[b];exact TE hE g d b e
  |some c=>
   simp only[];rw[b];refine⟨rfl,a,e,?_⟩;simp only[callFunc,L1,run_program,F0,hE.fn f fn d,hE.num f fn d,b,Option.isNone_some,ie,Aey,Ts]
theorem Ej(e:HR ρ h.blk.get w){fn fn':Fn}{captured args:List AV}{captured' a:List Value}(b:FnR ρ fn fn')(g:VL ρ captured captured')(c:VL ρ args a) :
  FI E ρ h w (invoke (.fn fn' captured'.toArray) a.toArray) (Ce E fn captured args h):=by
 cases fn with
 |func f=>
  simp only[FnR]at b;subst b;simp only[Ce,invoke];have:=Yw (w:=w) hE e (f:=f) (c.append g);simpa using this
 |yield l=>
  obtain⟨base,i,rfl⟩:=b;simp only[Ce];exact⟨rfl,base,a,i,c,rfl⟩
 |methodOf t name=>trivial
 |via t d f ptr=>trivial
 |method name=>trivial
end
end Go.AE

