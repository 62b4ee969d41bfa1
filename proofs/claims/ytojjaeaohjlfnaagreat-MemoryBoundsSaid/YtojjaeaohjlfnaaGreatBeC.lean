/- What is proved here: an evaluator of the model's steps that the kernel can run, and that whatever it answers is what the model does (part 3 of 7: AeDat1, AeDat2, AeDat3, AeDat4, AeFrz, AeDat5, AeSlc, AeEqS, AeMap). Conditions: those that each theorem states; they hold of no one program. -/
import Derived.Test.YtojjaeaohjlfnaaGreatBeB
import Derived.Laws.BytesString
set_option linter.unusedVariables false
set_option linter.unusedSectionVars false
set_option linter.unusedSimpArgs false
namespace Go.AE
variable [Gl:AG]
variable [U:Unk]
theorem JC{e:SB}(h:Mi e=true):Ah U.V e=true:=by
 unfold Mi at h;split at h
 ·rename_i a;exact Aw U.ok a
 ·cases h
theorem IZ{e:SB}(h:TC e=true):Ah U.V e=false:=by
 unfold TC at h;split at h
 ·rename_i a;exact Aw U.ok a
 ·cases h
theorem KD{i n:SE}(h:inR i n=true):0≤Ad U.V i∧Ad U.V i<Ad U.V n:=by
 unfold inR at h;obtain⟨c,d⟩:=Av h;have a:=IZ c;have b:=JC d;rw[Ax,ud,BE]at a;rw[Ax,l0]at b;omega
theorem Oh{ρ:Ren}{x i:SE}{j:Nat}{kd:Kd}{v:Value}(h:DV U.K ρ.imm kd v (Ab U.V (.cell x i j))):VR ρ (QF x i j kd) v:=by
 cases h with
 |int k n _ p e=>
  have e:Ad U.V (.cell x i j)=n:=e;simp only[QF];split
  ·have:=Cg ρ k (.cell x i j);rw[e]at this;exact this
  ·rename_i g;have o:=p.resolve_left (by simpa using g)
   have:=Cg ρ k (.conv k (.cell x i j));rw[Ma,e,GY k n o.1 o.2]at this;exact this
 |bool b _ e=>
  have:=GU ρ true (.cell x i j);have e:(Ah U.V (.cell x i j)==true)=b:=by unfold Ah;rw[e];cases b<;>rfl
  rw[e]at this;exact this
 |str s _ e=>
  have:=VR.ss (ρ:=ρ) (.cell x i j);have e:AR U.V (.cell x i j)=s:=e;rw[e]at this;exact this
 |nil e _ d l=>exact .dat e _ _ _ _ (.nil e _ d l)
 |empty e a c _ d l=>exact .dat e _ _ _ _ (.empty e a c _ d l)
 |slc e b off n c _ ks arr g q r t d m f hv=>exact .dat e _ _ _ _ (.slc e b off n c _ ks arr g q r t d m f hv)
omit U in
theorem kinds_size{E:Env}{ar:Bool}{n:Nat}{t:TypeId}{ks:List Kd}(h:Ks ar E.desc E.szIs n t=some ks):E.szIs t ks.length=true∧∃m,n=m+1∧PA ar E.szIs (Ks ar E.desc E.szIs m) (E.desc t)=some ks:=by
 cases n with
 |zero=>cases h
 |succ m=>
  simp only[Ks]at h;split at h
  ·rename_i l hl;split at h
   ·rename_i hs;cases h;exact⟨hs,m,rfl,hl⟩
   ·cases h
  ·cases h
omit U in
theorem Env.kinds_size{E:Env}{t:TypeId}{ks:List Kd}(h:E.kinds t=some ks):E.szIs t ks.length=true:=(AE.kinds_size h).1
omit U in
theorem DV.at{K:TypeId→Option (List Kd)}{M:Nat→Option (Array Value)}{e:TypeId}{a:Option Addr}{n cap:Nat}{d:D}(h:DV K M (.slice e) (.slice a n cap) d)(hn:0<n):∃b o,a=some ⟨b,o,none⟩∧n≤cap:=by
 cases h
 ·omega
 ·omega
 ·exact⟨_,_,rfl,by assumption⟩
omit U in
theorem DV.row{K:TypeId→Option (List Kd)}{M:Nat→Option (Array Value)}{e:TypeId}{b o n cap i:Nat}{d:D}{ks:List Kd}(h:DV K M (.slice e) (.slice (some ⟨b,o,none⟩) n cap) d)(hk:K e=some ks)(hi:i<n) :
  ∃arr,M b=some arr∧o+n*ks.length≤arr.size∧d.rows.length=n∧∀j kd,ks[j]?=some kd→DV K M kd (arr.getD (o+i*ks.length+j) Go.undef) ((d.rows.getD i default).cells.getD j default):=by
 cases h with
 |empty=>omega
 |slc _ _ _ _ _ _ ks' arr hk' ha hn hc h1 hin hrow hv=>
  rw[hk]at hk';cases hk';exact⟨arr,ha,hin,hn,fun j kd hj=>hv i j kd hi hj⟩
omit U in
theorem Bp.row{K:TypeId→Option (List Kd)}{M:Nat→Option (Array Value)}{ks:List Kd}{cur:Array Value}{o i:Nat}{rows:List D}(h:Bp K M ks cur o rows)(hi:i<rows.length) :
  o+rows.length*ks.length≤cur.size∧∀j kd,ks[j]?=some kd→DV K M kd (cur.getD (o+i*ks.length+j) Go.undef) ((rows.getD i default).cells.getD j default):=
 ⟨h.1,fun j kd hj=>h.2.2 i j kd hi hj⟩
section
variable {E:Env}(hE:OK E){ρ:Ren}{h:Aa}{w:World}
include hE
omit hE in
theorem Ip{ks:List Kd}{y i:SE}{arr:Array Value}{p:Nat}(hv:∀j kd,ks[j]?=some kd→DV U.K ρ.imm kd (arr.getD (p+j) Go.undef) (Ab U.V (.cell y i j))) :
  ∀(n j:Nat)(l:List AV),Hj y i ks j n=some l→(n=0∨j+n≤ks.length)∧l.length=n∧∀q a,l[q]?=some a→VR ρ a (arr.getD (p+j+q) Go.undef)
 |0,j,l,hl=>by
  simp only[Hj,C2]at hl;subst hl;exact⟨.inl rfl,rfl,fun q a hq=>by simp at hq⟩
 |n+1,j,l,hl=>by
  simp only[Hj]at hl;split at hl
  ·rename_i k l' hk hl';cases hl;obtain⟨h1,h2,h3⟩:=Ip hv n (j+1) l' hl';have hjl:j<ks.length:=(L2.1 hk).1;refine⟨.inr (by omega),by simp[h2],fun q a hq=>?_⟩
   cases q with
   |zero=>
    simp only[gy,C2]at hq;subst hq;exact Oh (hv j k hk)
   |succ q=>
    simp only[iv]at hq;have:=h3 q a hq;rw[show p+j+(q+1)=p+(j+1)+q by omega]
    exact this
  ·cases hl
theorem Md{t e:TypeId}{ks:List Kd}{y i:SE}{off b p:Nat}{u:Nat×Nat}{arr:Array Value}{a:AV}(z:w.heap[b]?=some (.cells arr e u))(B:p+ks.length≤arr.size)
 (hv:∀j kd,ks[j]?=some kd→DV U.K ρ.imm kd (arr.getD (p+j) Go.undef) (Ab U.V (.cell y i j)))(hl:LO E t ks y i off=some a) :
  ∃v,(Instr.loadAt t (.pointer (some ⟨b,p+off,none⟩))).run E.P w=.ok v w∧VR ρ a v:=by
 unfold LO at hl;split at hl
 ·rename_i d A;unfold Instr.loadAt loadVar;simp only[Instr.sureAddr,L1,Ts,F0,hE.run_isAgg A];split at hl
  ·rename_i c;split at hl
   ·rename_i l hc;cases hl;obtain⟨h1,h2,h3⟩:=Ip hv _ _ _ hc;simp only[c,if_true,L1,hE.run_size A,F0];by_cases g:E.size t=0
    ·rw[g];refine⟨.agg #[],by simp[loadCells,loadCellsFrom],?_⟩
     have:l=[]:=by rw[g]at h2;exact la h2
     subst this;exact .agg [] [] rfl (by simp)
    ·have C:off+E.size t≤ks.length:=h1.resolve_left g;rw[AT E.P w b (p+off) (E.size t) arr e u z (by omega)]
     simp only[F0,Ts];refine⟨_,rfl,.agg _ _ (by simp;omega) ?_⟩
     intro q x v hq f;have r:q<E.size t:=by have:=(L2.1 hq).1;omega
     have:=h3 q x hq;rw[vv,if_pos r,q0,oj]at f;have F:arr.getD (p+off+q) Go.undef=v:=by simp[gg,f]
     rw[F]at this;exact this
   ·cases hl
  ·rename_i c;split at hl
   ·rename_i k hk;cases hl;have G:off<ks.length:=(L2.1 hk).1;have s:p+off<arr.size:=by omega
    have hc:w.cell? ⟨b,p+off,none⟩=some (arr.getD (p+off) Go.undef):=by
     simp[World.cell?,z,gg,s]
    simp only[c,ie,Aey,run_load,hc];exact⟨_,rfl,Oh (hv off k hk)⟩
   ·cases hl
 ·cases hl
theorem Yu(A:HR ρ h.blk.get w){t:TypeId}{x a:AV}{R:Value}(B:VR ρ x R)(hl:Wl E t x h=some a) :
  ∃v,(Instr.loadAt t R).run E.P w=.ok v w∧VR ρ a v:=by
 unfold Wl at hl;split at hl
 ·rename_i e y i off;split at hl
  ·rename_i ks hk;cases B with
   |dptr _ _ _ _ b o n cap ks' C hk' S hi ho=>
    have c:U.K e=some ks:=by rw[hE.kd,←hE.ke];exact hk
    rw[c]at hk';cases hk';obtain⟨arr,a1,a2,a3,a4⟩:=C.row c hi;obtain⟨H,I,J⟩:=A.imm b arr a1;have f:((Ad U.V i).toNat+1)*ks.length≤n*ks.length:=ll _ hi;rw[Aen,Nat.one_mul]at f;exact Md hE (p:=o+(Ad U.V i).toNat*ks.length) J (by omega) a4 hl
  ·cases hl
 ·rename_i b es i off;split at hl
  ·rename_i e y L;split at hl
   ·rename_i ks hk;split at hl
    ·rename_i hc;obtain⟨c1,c2⟩:=Av hc;have r:=Ay c1;subst r;obtain⟨r0,T⟩:=KD c2
     try rw[Ar,CS,←Ar]at T
     rw[Ar]at T;cases B with
     |aptr _ _ _ _ base s S=>
      obtain⟨ks',cur,H,I,F,N,b3,b4,W⟩:=A.blk b base _ s L;have c:U.K e=some ks:=by rw[hE.kd,←hE.ke];exact hk
      rw[c]at F;cases F;have hi:(Ad U.V i).toNat<(Ab U.V y).rows.length:=by omega
      obtain⟨a2,a4⟩:=W.row hi;have f:((Ad U.V i).toNat+1)*ks.length≤(Ab U.V y).rows.length*ks.length:=ll _ hi;rw[Aen,Nat.one_mul]at f;exact Md hE (p:=base.co+(Ad U.V i).toNat*ks.length) N (by omega) a4 hl
    ·cases hl
   ·cases hl
  ·rename_i e y i' j a0 L;split at hl
   ·rename_i ks d hk C;split at hl
    ·rename_i hc;cases hl;obtain⟨G,c4⟩:=Av hc;obtain⟨c12,c3⟩:=Av G;obtain⟨c1,c2⟩:=Av c12;have r:=Ay c1;have O:=Ay c2;have Q:=SE.same_ok c3;subst r;subst O;subst Q;cases B with
     |aptr _ _ _ _ base s S=>
      obtain⟨ks',cur,H,I,u,v,F,N,b3,b4,W,b6,b7,X,Y⟩:=A.blk b base _ s L;have c:U.K e=some ks:=by rw[hE.kd,←hE.ke];exact hk
      rw[c]at F;cases F;refine⟨v,?_,Y⟩;have hc:w.cell? ⟨base.cb,base.co+(Ad U.V i).toNat*ks.length+off,none⟩=some v:=by simp[World.cell?,N,X]
      have z:Dv d=false:=by simpa using c4
      unfold Instr.loadAt loadVar;simp only[Instr.sureAddr,L1,Ts,F0,hE.run_isAgg C,z,ie,Aey,run_load,hc]
    ·cases hl
   ·cases hl
  ·cases hl
 ·rename_i g off;split at hl
  ·rename_i d C;split at hl
   ·rename_i z;split at hl
    ·rename_i l Z;cases B;obtain⟨arr,m1,m2⟩:=A.glob g l (by rw[←hE.gl];exact Z)
     obtain⟨v,v1,v2⟩:=m2 off a hl;obtain⟨H,I,J⟩:=A.imm g arr m1;refine⟨v,?_,v2.vr⟩;have hc:w.cell? ⟨g,off,none⟩=some v:=by simp[World.cell?,J,v1]
     unfold Instr.loadAt loadVar;simp only[Instr.sureAddr,L1,Ts,F0,hE.run_isAgg C,z,ie,Aey,run_load,hc]
    ·cases hl
   ·cases hl
  ·cases hl
 ·exact Su hE A B hl
theorem NC{t:TypeId}{x i a:AV}{T W:Value}(B:VR ρ x T)(hi:VR ρ i W)(hl:Gh E t x i=some a) :
  ∃v,(Instr.indexAt t T W).run E.P w=.ok v w∧VR ρ a v:=by
 unfold Gh at hl;split at hl
 ·rename_i I y;split at hl
  ·rename_i e k r s z;split at hl
   ·rename_i X Y hk;split at hl
    ·rename_i hc;cases hl;obtain⟨c1,c2⟩:=Av hc;have Z:=Ay c1;subst Z;obtain⟨J,C⟩:=KD c2
     try rw[Ar,CS,←Ar]at C
     rw[Ar]at C;have A:=Cp hi z;subst A;have u:U.K e=some (X::Y):=by rw[hE.kd,←hE.ke];exact hk
     cases B with
     |dat _ _ ad n cap f=>
      obtain⟨_,_,_,q1,q2⟩:=f.slice_inv;cases q1;rw[q2]at C;obtain⟨b,o,rfl,F⟩:=f.at (by omega)
      refine⟨.pointer (some ⟨b,o+(Ad U.V r).toNat*(X::Y).length+0,none⟩),?_,.dptr e y r 0 b o n cap _ f u J (by omega) (by simp)⟩
      have c:0≤Ad U.V r∧Ad U.V r<n:=by omega
      simp[Instr.indexAt,asIntOf,hE.run_und s,hE.run_szIs (Env.kinds_size hk),c,B2]
    ·cases hl
   ·cases hl
  ·cases hl
 ·rename_i b H n nl;split at hl
  ·rename_i e k r s z;split at hl
   ·rename_i hc;cases hl;obtain⟨c1,c2⟩:=Av hc;obtain⟨J,C⟩:=KD c2
    try rw[Ar,CS,←Ar]at C
    have A:=Cp hi z;subst A;cases B with
    |asl _ _ _ _ cap base L G F hz O=>
     refine⟨.pointer (some ⟨base.cb,base.co+(Ad U.V r).toNat*H+0,none⟩),?_,.aptr b H r 0 base L J⟩;have c:0≤Ad U.V r∧Ad U.V r<((Ad U.V n).toNat:Int):=by omega
     generalize (Ad U.V n).toNat=N at c;simp[Instr.indexAt,asIntOf,hE.run_und s,hE.run_szIs c1,c,B2]
    |aslEnd _ _ _ _ ad G O=>omega
   ·cases hl
  ·cases hl
 ·rename_i b H Q off;split at hl
  ·rename_i len e n s hn;split at hl
   ·rename_i hc;cases hl;obtain⟨c1,c2⟩:=Av hc;obtain⟨k,rfl⟩:=C3 (Jf hi) hn;have c:=Io c1;cases B with
    |aptr _ _ _ _ base L G=>
     have:=VR.aptr (ρ:=ρ) b H Q (off+n*E.size e) base L G;rw[←Ae3]at this;refine⟨_,?_,this⟩;simp[Instr.indexAt,asIntOf,hE.run_und s,hE.run_has c2,Instr.sureAddr,c,B2]
   ·cases hl
  ·cases hl
 ·rename_i I y Q off;split at hl
  ·rename_i len e n ks s hn hk;split at hl
   ·rename_i hc;cases hl;obtain⟨c0,c3⟩:=Av hc;obtain⟨c1,c2⟩:=Av c0;obtain⟨k,rfl⟩:=C3 (Jf hi) hn;have c:=Io c1;cases B with
    |dptr _ _ _ _ b o n' cap ks' f hk' G R ho=>
     have u:U.K I=some ks:=by rw[hE.kd,←hE.ke];exact hk
     rw[u]at hk';cases hk';have:=VR.dptr (ρ:=ρ) I y Q (off+n*E.size e) b o n' cap ks f u G R (Io c3);rw[←Ae3]at this;refine⟨_,?_,this⟩;simp[Instr.indexAt,asIntOf,hE.run_und s,hE.run_has c2,Instr.sureAddr,c,B2]
   ·cases hl
  ·cases hl
 ·rename_i g off;split at hl
  ·rename_i len e n s hn;split at hl
   ·rename_i S;cases hl;cases B;obtain⟨k,rfl⟩:=C3 hi hn;obtain⟨c1,c2⟩:=Av S;have c:=Io c1;refine⟨.pointer (some ⟨g,off+n*E.size e,none⟩),?_,.glob g _⟩;simp[Instr.indexAt,asIntOf,hE.run_und s,hE.run_has c2,Instr.sureAddr,c,B2]
   ·cases hl
  ·cases hl
 ·exact Nv hE B (Jf hi) hl
theorem K4{t:TypeId}{fs:Array Field}{f:Nat}{c:Field}(s:E.desc t=some (.struct fs))(u:fs.toList[f]?=some c){n:Nat}(hs:E.size c.type=n+1)(b o:Nat) :
  (Instr.fieldAt t (.pointer (some ⟨b,o,none⟩)) f).run E.P w=.ok (.pointer (some ⟨b,o+c.offset,none⟩)) w:=by
 have g:fs[f]?=some c:=by simpa using u
 have r:∀w,(sizeOf c.type).run E.P w=.ok (n+1) w:=by
  intro w;unfold Env.size at hs;cases hi:E.ty.get c.type with
  |none=>simp[hi]at hs
  |some i=>simp only[hi]at hs;rw[hE.run_sz hi,hs]
 simp[Instr.fieldAt,hE.run_und s,g,Instr.sureAddr,fieldPlace,r,B2]
theorem NK{t:TypeId}{x a:AV}{f:Nat}{C:Value}(r:VR ρ x C)(hl:FV E t x f=some a) :
  ∃v,(Instr.fieldAt t C f).run E.P w=.ok v w∧VR ρ a v:=by
 unfold FV at hl;split at hl
 ·rename_i e y i off;split at hl
  ·rename_i fs ks s hk;split at hl
   ·rename_i c u;split at hl
    ·rename_i n hs z;cases hl;cases r with
     |dptr _ _ _ _ b o F cap ks' A hk' B hi I=>
      have g:U.K e=some ks:=by rw[hE.kd,←hE.ke];exact hk
      rw[g]at hk';cases hk';have:=VR.dptr (ρ:=ρ) e y i (off+c.offset) b o F cap ks A g B hi (Io z);rw[←Ae3]at this;exact⟨_,K4 hE s u hs b _,this⟩
    ·cases hl
   ·cases hl
  ·cases hl
 ·rename_i b G i off;split at hl
  ·rename_i fs s;split at hl
   ·rename_i c u;split at hl
    ·cases hl
    ·rename_i n hs;cases hl;cases r with
     |aptr _ _ _ _ base z B=>
      have:=VR.aptr (ρ:=ρ) b G i (off+c.offset) base z B;rw[←Ae3]at this
      obtain⟨m,H⟩:∃m,E.size c.type=m+1:=by
       cases hq:E.size c.type with
       |zero=>exact absurd hq hs
       |succ m=>exact⟨m,rfl⟩
      exact⟨_,K4 hE s u H base.cb _,this⟩
   ·cases hl
  ·cases hl
 ·exact NA hE r hl
end
end Go.AE
namespace Go.AE
variable [Gl:AG]
variable [U:Unk]
omit U in
theorem lD{a:AV}(h:a.isTop=false):a≠.top:=by rintro rfl;cases h
theorem D4:∀(l:List UInt8),C9 l.length (AC l)=l
 |[]=>rfl
 |b::r=>by
  have h:=Hv b r;simp only[n0,C9,h.1,h.2,D4 r]
  congr 1
  simp
theorem LB{j:Ren}{kd:Kd}{a:AV}{v:Value}{x:SE}(h:VR j a v)(d:dU kd a=some x):DV U.K j.imm kd v (Ab U.V x):=by
 unfold dU at d;split at d
 ·rename_i k g n;split at d
  ·rename_i f;cases d;cases h;obtain⟨c1,c2⟩:=Av f;have i:k=g:=by simpa using c1
   subst i;refine .int k n _ ?_ rfl;simpa using c2
  ·cases d
 ·rename_i k g e;split at d
  ·rename_i f;cases d;cases h;obtain⟨c1,c2⟩:=Av f;have i:k=g:=by simpa using c1
   subst i;refine .int k _ _ ?_ rfl;rcases Bool.or_eq_true_iff.1 c2 with c|c
   ·exact .inl (by simpa using c)
   ·right;have m:=HX U.ok x;unfold Qt at c;split at c
    ·rename_i l h o p;simp only[F9,l0]at c;have q:=m.1 l o;have r:=m.2 h p;omega
    ·cases c
  ·cases d
 ·rename_i b;cases d;cases h;exact .bool b _ rfl
 ·rename_i pos e;cases d;cases h;refine .bool _ _ ?_;cases pos with
  |true=>show(Ab U.V e).toBool=_;unfold Ah;cases (Ab U.V e).toBool<;>rfl
  |false=>show(!(Ab U.V e).toBool)=_;unfold Ah;cases (Ab U.V e).toBool<;>rfl
 ·rename_i l b;cases d;cases h;refine .str _ _ ?_;show(⟨(C9 _ _).toArray⟩:ByteArray)=_;rw[D4]
 ·cases d;cases h;exact .str _ _ rfl
 ·rename_i e s y;split at d
  ·rename_i f;cases d;have:=Ay f;subst this;cases h
   assumption
  ·cases d
 ·cases d;cases h;exact .nil _ _ rfl rfl
 ·cases d
omit U in
theorem List.getD_modify(l:List D)(i:Nat)(f:D→D)(q:Nat)(hq:q<l.length):(l.modify i f).getD q default=if i=q then f (l.getD q default)else l.getD q default:=by
 simp only[F4,List.getElem?_modify];split
 ·rename_i h;subst h;simp[hq]
 ·simp[hq]
theorem Bp.upd{ρ:Ren}{ks:List Kd}{t cur':Array Value}{o j:Nat}{y i x:SE}{kd:Kd}{v:Value}(h:Bp U.K ρ.imm ks t o (Ab U.V y).rows)(hi:(Ad U.V i).toNat<(Ab U.V y).rows.length)(hj:ks[j]?=some kd)
 (hd:DV U.K ρ.imm kd v (Ab U.V x))(hs:cur'.size=t.size)(hg:∀p,cur'[p]?=if p=o+(Ad U.V i).toNat*ks.length+j then some v else t[p]?):Bp U.K ρ.imm ks cur' o (Ab U.V (.upd y i j x)).rows:=by
 have er:(Ab U.V (.upd y i j x)).rows=(Ab U.V y).rows.modify (Ad U.V i).toNat fun r=>.row (r.cells.set j (Ab U.V x)):=rfl
 have el:(Ab U.V (.upd y i j x)).rows.length=(Ab U.V y).rows.length:=by rw[er];simp
 obtain⟨h1,h2,h3⟩:=h;have bd:j<ks.length:=(L2.1 hj).1;refine⟨by rw[el,hs];exact h1,fun q hq=>?_,fun q c ar hq hc=>?_⟩
 ·rw[el]at hq;rw[er,List.getD_modify _ _ _ _ hq];split
  ·simp only[D.cells,List.length_set];exact h2 q hq
  ·exact h2 q hq
 ·rw[el]at hq;have av:c<ks.length:=(L2.1 hc).1;have I:=h3 q c ar hq hc;rw[er,List.getD_modify _ _ _ _ hq];by_cases al:(Ad U.V i).toNat=q
  ·rw[if_pos al];simp only[D.cells];by_cases an:c=j
   ·subst an;rw[hj]at hc;cases hc;have e1:cur'.getD (o+q*ks.length+c) Go.undef=v:=by simp[gg,hg,al]
    have e2:((((Ab U.V y).rows.getD q default).cells.set c (Ab U.V x)).getD c default)=Ab U.V x:=by
     have:=h2 q hq;generalize ((Ab U.V y).rows.getD q default).cells=cl at this ⊢;simp[F4,this,av]
    rw[e1];simp only[D.cells]at e2;rw[e2];exact hd
   ·have e1:cur'.getD (o+q*ks.length+c) Go.undef=t.getD (o+q*ks.length+c) Go.undef:=by
     simp only[gg,hg,al];rw[if_neg (by omega)]
    have e2:((((Ab U.V y).rows.getD q default).cells.set j (Ab U.V x)).getD c default)=((Ab U.V y).rows.getD q default).cells.getD c default:=by
     simp only[F4];rw[List.getElem?_set_ne (fun e=>an e.symm)]
    rw[e1];simp only[D.cells]at e2 I ⊢;rw[e2];exact I
  ·rw[if_neg al]
   have e1:cur'.getD (o+q*ks.length+c) Go.undef=t.getD (o+q*ks.length+c) Go.undef:=by
    simp only[gg,hg];rw[if_neg ?_];intro e;have J:(Ad U.V i).toNat<q∨q<(Ad U.V i).toNat:=by omega
    rcases J with J|J
    ·have:=ll ks.length J;rw[Nat.succ_mul]at this;omega
    ·have:=ll ks.length J;rw[Nat.succ_mul]at this;omega
   rw[e1];exact I
theorem Oa{n:Ren}{ks:List Kd}{o:Nat}{i:SE}:∀(l:List AV)(g:List Value)(j:Nat)(y m:SE)(b cur':Array Value),Bp U.K n.imm ks b o (Ab U.V y).rows→(Ad U.V i).toNat<(Ab U.V y).rows.length→Da i ks y j l=some m→VL n l g→
  cur'.size=b.size→(∀p,cur'[p]?=if o+(Ad U.V i).toNat*ks.length+j≤p∧p<o+(Ad U.V i).toNat*ks.length+j+g.length then g[p-(o+(Ad U.V i).toNat*ks.length+j)]? else b[p]?)→
  Bp U.K n.imm ks cur' o (Ab U.V m).rows
 |[],g,j,y,m,b,cur',h,hi,d,hv,u,s=>by
  simp only[Da,C2]at d;subst d;have:=hv.nil_inv;subst this
  have:cur'=b:=by
   apply Array.ext_getElem?;intro p;rw[s,if_neg (by simp)]
  rw[this];exact h
 |a::r,g,j,y,m,b,cur',h,hi,d,hv,u,s=>by
  obtain⟨v,vr,rfl,z,A⟩:=hv.cons_inv;simp only[Da]at d;split at d
  ·rename_i k w;split at d
   ·rename_i x B;have C:=LB z B;have E:j<ks.length:=(L2.1 w).1;have t:((Ad U.V i).toNat+1)*ks.length≤(Ab U.V y).rows.length*ks.length:=ll _ hi;rw[Aen,Nat.one_mul]at t;have F:=h.1
    have G:=h.upd (cur':=b.setIfInBounds (o+(Ad U.V i).toNat*ks.length+j) v) hi w C (by simp) (fun p=>by
     rw[Array.getElem?_setIfInBounds];by_cases e:o+(Ad U.V i).toNat*ks.length+j=p
     ·rw[if_pos e,if_pos e.symm,if_pos (by omega)]
     ·rw[if_neg e,if_neg (fun q=>e q.symm)])
    have el:(Ab U.V (.upd y i j x)).rows.length=(Ab U.V y).rows.length:=by
     have H:(Ab U.V (.upd y i j x)).rows=(Ab U.V y).rows.modify (Ad U.V i).toNat fun r=>.row (r.cells.set j (Ab U.V x)):=rfl
     rw[H];simp
    refine Oa r vr (j+1) _ m _ cur' G (by rw[el];exact hi) d A (by rw[u];simp) (fun p=>?_)
    rw[s];simp only[n0];by_cases e:p=o+(Ad U.V i).toNat*ks.length+j
    ·subst e;rw[if_pos (by omega),if_neg (by omega),Array.getElem?_setIfInBounds_self]
     rw[if_pos (by omega)]
     simp
    ·by_cases c:o+(Ad U.V i).toNat*ks.length+j≤p∧p<o+(Ad U.V i).toNat*ks.length+j+(vr.length+1)
     ·rw[if_pos c,if_pos (by omega)]
      rw[show p-(o+(Ad U.V i).toNat*ks.length+j)=(p-(o+(Ad U.V i).toNat*ks.length+(j+1)))+1 by omega]
      simp
     ·rw[if_neg c,if_neg (by omega),vy (fun q=>e q.symm)]
   ·cases d
  ·cases d
section
variable {E:Env}(hE:OK E){ρ:Ren}{h:Aa}{w:World}
include hE
omit hE in
theorem Na{i:SE}{ks:List Kd}:∀(l:List AV)(j:Nat)(y y':SE),Da i ks y j l=some y'→j+l.length≤ks.length∨l=[]
 |[],_,_,_,_=>.inr rfl
 |a::r,j,y,y',hu=>by
  simp only[Da]at hu;split at hu
  ·rename_i k hk;split at hu
   ·rename_i x hx;have hjl:j<ks.length:=(L2.1 hk).1;rcases Na r (j+1) _ _ hu with h|h
    ·left;simp only[n0];omega
    ·left;subst h;simp;omega
   ·cases hu
  ·cases hu
omit hE in
theorem GR{i:SE}{ks:List Kd}:∀(l:List AV)(vs:List Value)(j:Nat)(y y':SE),Da i ks y j l=some y'→VL ρ l vs→∀v∈vs,v.oneCell'=true
 |[],vs,_,_,_,_,hv,v,hm=>by have:=hv.nil_inv;subst this;cases hm
 |a::r,vs,j,y,y',hu,hv,v,hm=>by
  obtain⟨v0,vr,rfl,ha,hr⟩:=hv.cons_inv;simp only[Da]at hu;split at hu
  ·rename_i k hk;split at hu
   ·rename_i x hx;rcases i0.1 hm with rfl|hm
    ·have:=LB ha hx;cases this<;>rfl
    ·exact GR r vr (j+1) _ _ hu hr v hm
   ·cases hu
  ·cases hu
theorem J2(hr:HR ρ h.blk.get w){t:TypeId}{x a:AV}{J v:Value}{h':Aa}(hx:VR ρ x J)(ha:VR ρ a v)(m:DW E t x a h=some h') :
  ∃d,(Instr.storeAt t J v).run E.P w=.ok () d∧HR ρ h'.blk.get d∧Ext ρ ρ h h' w d:=by
 unfold DW at m;split at m
 ·rename_i b es i off;split at m
  ·rename_i e y L;split at m
   ·rename_i ks hk;split at m
    ·rename_i S;split at m
     ·rename_i y' hu;cases m;obtain⟨u,c4⟩:=Av S;obtain⟨c12,c3⟩:=Av u;obtain⟨c1,c2⟩:=Av c12;have C:=Ay c1;subst C;obtain⟨r0,M⟩:=KD c2
      try rw[Ar,CS,←Ar]at M
      rw[Ar]at M;have o:=ha.cells (lD (by simpa using c4))
      cases hx with
      |aptr _ _ _ _ base z h0=>
       obtain⟨T,g,F,G,N,O,b3,b4,Q⟩:=hr.blk b base _ z L;have A:U.K e=some ks:=by rw[hE.kd,←hE.ke];exact hk
       rw[A]at N;cases N;have hi:(Ad U.V i).toNat<(Ab U.V y).rows.length:=by omega
       have H:((Ad U.V i).toNat+1)*ks.length≤(Ab U.V y).rows.length*ks.length:=ll _ hi;rw[Aen,Nat.one_mul]at H;have W:=Q.1;have p:a.cells.length=v.cells.toList.length:=o.1
       have n:base.co+(Ad U.V i).toNat*ks.length+off+0+v.cells.toList.length≤g.size∨v.cells.toList=[]:=by
        rcases Na _ _ _ _ hu with q|q
        ·left;omega
        ·right;rw[q]at p;exact la p.symm
       have I:∃d c,(storeCells ⟨base.cb,base.co+(Ad U.V i).toNat*ks.length+off,none⟩ v.cells.toList 0).run E.P w=.ok () d∧d.heap[base.cb]?=some (.cells c F G)∧c.size=g.size∧
         (∀j,c[j]?=if base.co+(Ad U.V i).toNat*ks.length+off≤j∧j<base.co+(Ad U.V i).toNat*ks.length+off+v.cells.toList.length then v.cells.toList[j-(base.co+(Ad U.V i).toNat*ks.length+off)]? else g[j]?)∧
         d.heap.size=w.heap.size∧(∀k,k≠base.cb→d.heap[k]?=w.heap[k]?)∧d.os=w.os∧d.tape=w.tape∧d.output=w.output:=by
        rcases n with n|B
        ·exact BM E.P base.cb (base.co+(Ad U.V i).toNat*ks.length+off) F G v.cells.toList 0 w g O n (by rw[b3];exact b4) (GR _ _ _ _ _ hu o)
        ·rw[B];exact⟨w,g,by simp[storeCells],O,rfl,fun j=>by rw[if_neg (by simp)],rfl,fun _ _=>rfl,rfl,rfl,rfl⟩
       obtain⟨d,c,X,Y,R,Z,q5,q6,q7,q8,q9⟩:=I;have s:=Oa a.cells v.cells.toList off y y' g c Q hi hu o R Z;obtain⟨p1,p2⟩:=hr.put z (by rw[L];exact F2 _) (.arr e y') d ⟨ks,c,F,G,A,Y,by rw[R,b3],b4,s⟩ q5 q6 q7 q8 q9
       refine⟨d,?_,p1,p2⟩;unfold Instr.storeAt storeVar;have e:v.cells.size=a.cells.length:=by have:=o.1;simp at this;omega
       simp[Instr.sureAddr,hE.run_szIs c3,e,X]
     ·cases m
    ·cases m
   ·cases m
  ·cases m
 ·exact Xn hE hr hx ha m
end
end Go.AE
namespace Go.AE
variable [Gl:AG]
variable [U:Unk]
def Bm(K:TypeId→Option (List Kd))(M:Nat→Option (Array Value))(ks:List Kd)(a:List Value)(rows:List D):Prop:=
 a.length=rows.length*ks.length∧(∀i,i<rows.length→(rows.getD i default).cells.length=ks.length)∧
  ∀i j kd,i<rows.length→ks[j]?=some kd→DV K M kd (a.getD (i*ks.length+j) Go.undef) ((rows.getD i default).cells.getD j default)
section
variable {K:TypeId→Option (List Kd)}{M:Nat→Option (Array Value)}{ks:List Kd}
omit U
theorem Bm.nil:Bm K M ks [] []:=⟨by simp,fun i h=>by simp at h,fun i j kd h=>by simp at h⟩
theorem Q6{l m:List D}{i:Nat}:(l++m).getD i default=if i<l.length then l.getD i default else m.getD (i-l.length) default:=by
 simp only[F4];by_cases h:i<l.length
 ·rw[if_pos h,hP h]
 ·rw[if_neg h,hS (by omega)]
theorem XL{l m:List Value}{i:Nat}:(l++m).getD i Go.undef=if i<l.length then l.getD i Go.undef else m.getD (i-l.length) Go.undef:=by
 simp only[F4];by_cases h:i<l.length
 ·rw[if_pos h,hP h]
 ·rw[if_neg h,hS (by omega)]
theorem S7{i n l j:Nat}(hi:i<n)(a:j<l):i*l+j<n*l:=by
 have:=ll l hi;rw[Nat.succ_mul]at this;omega
theorem Bm.append{I J:List Value}{r s:List D}(h:Bm K M ks I r)(k:Bm K M ks J s):Bm K M ks (I++J) (r++s):=by
 refine⟨by simp[h.1,k.1,Aen],fun i hi=>?_,fun i j kd hi l=>?_⟩
 ·rw[Q6];simp only[pc]at hi;split
  ·rename_i c;exact h.2.1 i c
  ·exact k.2.1 _ (by omega)
 ·have t:j<ks.length:=(L2.1 l).1;simp only[pc]at hi;rw[Q6,XL,h.1];by_cases c:i<r.length
  ·rw[if_pos c,if_pos (S7 c t)];exact h.2.2 i j kd c l
  ·rw[if_neg c,if_neg (by
    have:=ll ks.length (Nat.le_of_not_lt c);omega)]
   have e:i*ks.length+j-r.length*ks.length=(i-r.length)*ks.length+j:=by
    have:=ll ks.length (Nat.le_of_not_lt c);rw[Nat.sub_mul];omega
   rw[e];exact k.2.2 _ j kd (by omega) l
theorem Bm.at{r:List Value}{rows:List D}{l:Array Value}{off:Nat}(h:Bm K M ks r rows)(J:off+r.length≤l.size)(hg:∀q,q<r.length→l[off+q]?=r[q]?):Bp K M ks l off rows:=by
 refine⟨by rw[←h.1];exact J,h.2.1,fun i j kd hi I=>?_⟩
 have t:j<ks.length:=(L2.1 I).1;have:=h.2.2 i j kd hi I;have hq:i*ks.length+j<r.length:=by rw[h.1];exact S7 hi t
 have e:l.getD (off+i*ks.length+j) Go.undef=r.getD (i*ks.length+j) Go.undef:=by
  simp only[gg,F4];rw[Ae3,hg _ hq]
 rw[e];exact this
theorem Bp.vals{rows:List D}{l:Array Value}{off:Nat}(h:Bp K M ks l off rows):Bm K M ks ((l.toList.drop off).take (rows.length*ks.length)) rows:=by
 refine⟨by have:=h.1;simp;omega,h.2.1,fun i j kd hi t=>?_⟩
 have r:j<ks.length:=(L2.1 t).1;have:=h.2.2 i j kd hi t
 have e:((l.toList.drop off).take (rows.length*ks.length)).getD (i*ks.length+j) Go.undef=l.getD (off+i*ks.length+j) Go.undef:=by
  simp only[gg,F4];rw[vv,if_pos (S7 hi r),q0,oj,Ae3]
 rw[e];exact this
theorem Bm.mono{N:Nat→Option (Array Value)}(l:∀k a,M k=some a→N k=some a){r:List Value}{rows:List D}(h:Bm K M ks r rows):Bm K N ks r rows:=
 ⟨h.1,h.2.1,fun i j kd a b=>(h.2.2 i j kd a b).mono l⟩
end
section
variable {ρ:Ren}
theorem Fm:∀(ks:List Kd)(l:List AV)(c:List Value)(r:SE),GT ks l=some r→VL ρ l c→(Ab U.V r).cells.length=ks.length∧c.length=ks.length∧∀j kd,ks[j]?=some kd→DV U.K ρ.imm kd (c.getD j Go.undef) ((Ab U.V r).cells.getD j default)
 |[],[],c,r,h,hv=>by
  simp only[GT,C2]at h;subst h;have:=hv.nil_inv;subst this;exact⟨rfl,rfl,fun j kd b=>by simp at b⟩
 |k::ks,a::l,c,r,h,hv=>by
  obtain⟨v,vr,rfl,d,e⟩:=hv.cons_inv;simp only[GT]at h;split at h
  ·rename_i x y f g;cases h;obtain⟨i,m,n⟩:=Fm ks l vr y g e;have o:(Ab U.V (.rcons x y)).cells=Ab U.V x::(Ab U.V y).cells:=rfl;rw[o];refine⟨by simp[i],by simp[m],fun j kd b=>?_⟩
   cases j with
   |zero=>
    simp only[gy,C2]at b;subst b;exact LB d f
   |succ j=>
    simp only[iv]at b;exact n j kd b
  ·cases h
 |[],_::_,_,_,h,_=>by cases h
 |_::_,[],_,_,h,_=>by cases h
theorem Bm.one{ks:List Kd}{l:List Value}{r:D}(t:r.cells.length=ks.length)(I:l.length=ks.length)(J:∀j kd,ks[j]?=some kd→DV U.K ρ.imm kd (l.getD j Go.undef) (r.cells.getD j default)):Bm U.K ρ.imm ks l [r]:=by
 refine⟨by simp[I],fun i hi=>?_,fun i j kd hi hj=>?_⟩
 ·have:i=0:=by simpa using hi
  subst this;exact t
 ·have:i=0:=by simpa using hi
  subst this;simpa using J j kd hj
theorem Fs{ks:List Kd}:∀(n:Nat)(y b:SE)(l:List AV)(a:List Value),DX ks n y l=some b→VL ρ l a→∃c:List D,c.length=n∧(Ab U.V b).rows=(Ab U.V y).rows++c∧Bm U.K ρ.imm ks a c
 |0,y,b,[],a,h,hv=>by
  simp only[DX,C2]at h;subst h;have:=hv.nil_inv;subst this;exact⟨[],rfl,by simp,.nil⟩
 |0,y,b,_::_,a,h,hv=>by cases h
 |n+1,y,b,l,a,h,hv=>by
  simp only[DX]at h;split at h
  ·rename_i r d;obtain⟨e,f,g⟩:=Fm ks _ (a.take ks.length) r d (hv.take _);obtain⟨c,i,j,k⟩:=Fs n _ b _ (a.drop ks.length) h (hv.drop _);refine⟨Ab U.V r::c,by simp[i],?_,?_⟩
   ·rw[j];show((Ab U.V y).rows++[Ab U.V r])++c=_;simp
   ·have:=(Bm.one e f g).append k;simpa using this
  ·cases h
variable {E:Env}(hE:OK E){h:Aa}{w:World}
include hE
theorem J6{e:TypeId}{ks:List Kd}{b off n j:Nat}{l:List AV}{r:Value}(v:HR ρ h.blk.get w)(z:VR ρ (.slice b off n j) r)(d:C0 h b off (n*j)=some l) :
  ∃i,VL ρ l i∧i.length=n*j∧((n=0∧∃a,r=.slice (some a) 0 0)∨∃base f s k g o c,ρ b=some base∧h.blk.get b=some (.cells o c)∧r=.slice (some ⟨base.cb,base.co+off,none⟩) n g∧n≤g∧base.co+off+g*j≤base.csz∧w.heap[base.cb]?=some (.cells f s k)∧f.size=base.csz∧(k.1=k.2∨base.csz≤k.1)∧
   ∀q,q<i.length→f[base.co+off+q]?=i[q]?):=by
 cases z with
 |slice _ _ _ _ g base t A B=>
  unfold C0 at d;split at d
  ·rename_i o c p;split at d
   ·rename_i u;obtain⟨i,x,I,C⟩:=v.loadCells E.P t p (C7 u) d;obtain⟨f,s,k,y,D,J,F,K⟩:=v.blk b base _ t p;have m:i.length=n*j:=by rw[←x.1];exact(T.range_spec c _ _ _ d).1
    refine⟨i,x,m,.inr ⟨base,f,s,k,g,o,c,t,p,rfl,A,B,y,D,F,fun q G=>?_⟩⟩
    have hv:i[q]?=some i[q]:=by simp[G]
    have:=C q _ hv;rw[hv];simpa[World.cell?,y]using this
   ·cases d
  ·cases d
 |sliceEnd _ _ _ a=>
  unfold C0 at d;split at d
  ·rename_i o c p;split at d
   ·have H:0*j=0:=by simp
    rw[H]at d;simp only[T.range,C2]at d;subst d;exact⟨[],VL.nil ρ,by simp,.inl ⟨rfl,a,rfl⟩⟩
   ·cases d
  ·cases d
theorem dh(X:HR ρ h.blk.get w){Y e B:TypeId}{r:TypeInfo}{ks:List Kd}(hk:E.kinds e=some ks)(s:ks.length=r.size)(k:E.P.underlying Y=some (.slice B)){y Z m:SE}{x:AV}{xv:Value}(t:VR ρ x xv)(f:bT e ks h y x=some (Z,m)) :
  ∃C nv,(Ab U.V Z).rows=(Ab U.V y).rows++C∧Ad U.V m=(C.length:Nat)∧Bm U.K ρ.imm ks nv C∧Yl E.P w Y e r xv C.length nv:=by
 have D:U.K e=some ks:=by rw[hE.kd,←hE.ke];exact hk
 have g:∀a:Option Addr,Yl E.P w Y e r (.slice a 0 0) 0 []:=by
  intro a;refine .cells _ k (.inl ⟨B,rfl⟩) (by simp[Builtin.lenOf]) (fun u _=>?_)
  cases a with
  |none=>simp[Builtin.firstCells]
  |some a=>simp[Builtin.firstCells,loadCells,loadCellsFrom]
 unfold bT at f;split at f
 ·cases f;cases t;exact⟨[],[],by simp,rfl,.nil,g none⟩
 ·cases f;cases t;exact⟨[],[],by simp,rfl,.nil,g _⟩
 ·rename_i e1 S;split at f
  ·rename_i hc;cases f;have:=Ay hc;subst this;cases t with
   |dat _ _ a n c T=>
    obtain⟨_,_,_,W,q2⟩:=T.slice_inv;cases W;have F:(Ab U.V (.cat y S)).rows=(Ab U.V y).rows++(Ab U.V S).rows:=rfl;by_cases hn:n=0
    ·subst hn;have G:(Ab U.V S).rows=[]:=la q2;refine⟨[],[],by rw[F,G],by rw[Ar,G],.nil,?_⟩
     refine .cells _ k (.inl ⟨B,rfl⟩) (by simp[Builtin.lenOf]) (fun u _=>?_)
     cases a with
     |none=>simp[Builtin.firstCells]
     |some a=>simp[Builtin.firstCells,loadCells,loadCellsFrom]
    ·obtain⟨b,o,rfl,H⟩:=T.at (by omega)
     generalize I:Ab U.V S=d at T;cases T with
     |slc _ _ _ _ _ _ aa arr J ha L ae h1 M N hv=>
      rw[D]at J;cases J;obtain⟨O,Q,hw⟩:=X.imm b arr ha;have ab:Bp U.K ρ.imm ks arr o d.rows:=⟨by rw[L];exact M,fun i hi=>N i (by omega),fun i j kd hi hj=>hv i j kd (by omega) hj⟩
      refine⟨d.rows,_,by rw[F,I],by rw[Ar,I],ab.vals,?_⟩
      rw[L];refine .cells _ k (.inl ⟨B,rfl⟩) (by simp[Builtin.lenOf]) (fun u p=>?_)
      simp only[Builtin.firstCells,←s];exact AT E.P u b o (n*ks.length) arr O Q (by rw[p];exact hw) M
     |empty=>omega
  ·cases f
 ·rename_i b es n nl;split at f
  ·rename_i e1 z v hb;split at f
   ·rename_i hc;cases f;obtain⟨c1,c2⟩:=Av hc;have:=Ay c1;subst this;have:=Ay v;subst this;have t:=JZ c2 t;clear c2;have F:(Ab U.V (.cat y z)).rows=(Ab U.V y).rows++(Ab U.V z).rows:=rfl;cases t with
    |asl _ _ _ _ R base ac h0 H hz ad=>
     obtain⟨aa,A,O,Q,b1,b2,b3,b4,b5⟩:=X.blk b base _ ac hb;rw[D]at b1;cases b1;refine⟨(Ab U.V z).rows,_,F,Ar,b5.vals,?_⟩;have e2:(Ad U.V (.lenL z)).toNat=(Ab U.V z).rows.length:=by rw[Ar];simp
     rw[e2];refine .cells _ k (.inl ⟨B,rfl⟩) (by simp[Builtin.lenOf]) (fun u p=>?_)
     simp only[Builtin.firstCells,←s];exact AT E.P u base.cb base.co _ A O Q (by rw[p];exact b2) b5.1
    |aslEnd _ _ _ _ a h0 ad=>
     rw[Ar]at h0;have G:(Ab U.V z).rows=[]:=la (by omega)
     exact⟨[],[],by rw[F,G],by rw[Ar,G],.nil,g a⟩
   ·cases f
  ·cases f
 ·rename_i b off n es;split at f
  ·rename_i v;split at f
   ·rename_i l hl;split at f
    ·rename_i y1 hy;cases f;have:=Ay v;subst this;obtain⟨vs,v1,v2,v3⟩:=J6 hE (e:=e) (ks:=ks) X t hl;obtain⟨C,W,q2,q3⟩:=Fs n y Z l vs hy v1;refine⟨C,vs,q2,by rw[W];rfl,q3,?_⟩
     rw[W];rcases v3 with⟨rfl,a,rfl⟩|⟨base,A,O,Q,R,sz,c,p1,p2,rfl,p4,p5,p6,p7,p8,p9⟩
     ·have:vs=[]:=la (by simpa using v2)
      subst this;exact g (some a)
     ·refine .cells _ k (.inl ⟨B,rfl⟩) (by simp[Builtin.lenOf]) (fun u p=>?_)
      have af:n*ks.length≤R*ks.length:=ll _ p4;have:=AT E.P u base.cb (base.co+off) (n*ks.length) A O Q (by rw[p];exact p6) (by rw[p7];omega)
      simp only[Builtin.firstCells,←s,this]
      congr 2
      apply List.ext_getElem?;intro q;rw[vv];by_cases hq:q<n*ks.length
      ·rw[if_pos hq,q0,oj,p9 q (by omega)]
      ·rw[if_neg hq,Aeq (by omega)]
    ·cases f
   ·cases f
  ·cases f
 ·cases f
inductive Mb(ρ:Ren)(h:Aa)(w:World)(ks:List Kd)(ys nls:SE):Option Nat→Value→Prop
 |none (b:Option Nat) (a:Option Addr) (hy:(Ab U.V ys).rows=[]) (hn:a.isNone=Ah U.V nls):Mb ρ h w ks ys nls b (.slice a 0 0)
 |blk (b off cap:Nat) (base:Cu) (cur:Array Value) (et:TypeId) (fz:Nat×Nat) (hb:ρ b=some base) (hl:h.blk.get b≠.none) (hc:(Ab U.V ys).rows.length≤cap) (hz:base.co+off+cap*ks.length≤base.csz)
   (hw:w.heap[base.cb]?=some (.cells cur et fz)) (hs:cur.size=base.csz) (hf:fz.1=fz.2∨base.csz≤fz.1) (hv:Bp U.K ρ.imm ks cur (base.co+off) (Ab U.V ys).rows) (hn:Ah U.V nls=false) :
   Mb ρ h w ks ys nls (some b) (.slice (some ⟨base.cb,base.co+off,.none⟩) (Ab U.V ys).rows.length cap)
theorem Y9(x:HR ρ h.blk.get w){e:TypeId}{ks:List Kd}(F:E.kinds e=some ks){s:AV}{A:Value}{ys nls:SE}{B:Option Nat}(m:VR ρ s A)(d:WC e ks h s=some (ys,nls,B)):Mb ρ h w ks ys nls B A:=by
 have r:U.K e=some ks:=by rw[hE.kd,←hE.ke];exact F
 unfold WC at d;split at d
 ·cases d;cases m;exact .none _ _ rfl rfl
 ·cases d;cases m;rename_i a G;exact .none _ _ rfl G
 ·rename_i b off n H;split at d
  ·rename_i i;split at d
   ·rename_i l I;split at d
    ·rename_i y J;cases d;have:=Ay i;subst this;obtain⟨L,M,N,O⟩:=J6 hE (e:=e) (ks:=ks) x m I;obtain⟨P,t,Q,R⟩:=Fs n .emptyL ys l L J M;have q:(Ab U.V ys).rows=P:=by rw[Q];rfl
     rcases O with⟨rfl,a,rfl⟩|⟨base,j,u,v,f,sz,c,p1,p2,rfl,p4,p5,p6,p7,p8,p9⟩
     ·exact .none _ _ (by rw[q];exact la t) rfl
     ·have S:n*ks.length≤f*ks.length:=ll _ p4
      have:=Mb.blk (ρ:=ρ) (h:=h) (w:=w) (ks:=ks) (ys:=ys) (nls:=.bc false) b off f base j u v p1 (by rw[p2];exact F2 _) (by rw[q,t];exact p4) p5 p6 p7 p8
       (by rw[q];exact R.at (by rw[N,p7];omega) p9) rfl
      rw[q,t]at this;exact this
    ·cases d
   ·cases d
  ·cases d
 ·rename_i b H n nl;split at d
  ·rename_i e1 z i o;split at d
   ·rename_i T;cases d;obtain⟨c1,c2⟩:=Av T;have:=Ay c1;subst this;have:=Ay i;subst this;have m:=JZ c2 m;clear c2;cases m with
    |asl _ _ _ _ f base p C g W k=>
     obtain⟨X,j,u,v,D,Y,b3,b4,Z⟩:=x.blk b base _ p o;rw[r]at D;cases D;have e2:(Ad U.V (.lenL ys)).toNat=(Ab U.V ys).rows.length:=by rw[Ar];simp
     rw[e2]at g ⊢;exact Mb.blk (ρ:=ρ) (h:=h) (w:=w) (ks:=ks) b 0 f base j u v p (by rw[o];exact F2 _) g (by simpa using W) Y b3 b4 (by simpa using Z) k
    |aslEnd _ _ _ _ a C k=>
     rw[Ar]at C;exact .none _ _ (la (by omega)) k
   ·cases d
  ·cases d
 ·cases d
omit hE in
theorem HR.phantom(hr:HR ρ h.blk.get w)(hf:ρ h.nx=none)(x:An):HR ρ (h.new x).blk.get w∧Ext ρ ρ h (h.new x) w w:=by
 have live:∀b base,ρ b=some base→(h.new x).blk.get b=h.blk.get b:=by
  intro b base hb;simp only[Aa.new,T.get_set];rw[if_neg (by rintro rfl;rw[hf]at hb;cases hb)]
 refine⟨⟨hr.lt,fun b base y hb hy=>hr.blk b base y hb (by rw[←live b base hb];exact hy),fun b b' base base' hne hb hb' h1 h2=>hr.apart b b' base base' hne hb hb' (by rw[←live b base hb];exact h1) (by rw[←live b' base' hb'];exact h2),hr.imm,fun k arr b base hk hb hl=>hr.off k arr b base hk hb (by rw[←live b base hb];exact hl),hr.glob⟩,
  ⟨Ren.le_refl ρ,Nat.le_succ _,fun _ _ e=>.inl e,G8.refl w,fun _ _ _=>rfl,⟨[],rfl,fun b _ hb=>?_⟩,fun b hb=>?_,fun _ _ e=>.inl e⟩⟩
 ·simp only[Aa.new,T.get_set];simp only[Aa.new]at hb;rw[if_neg (by omega)]
 ·simp only[Aa.new,T.get_set]at hb ⊢;by_cases e:h.nx=b
  ·exact .inr ⟨by omega,by omega⟩
  ·rw[if_neg e]at hb;exact .inl hb
omit hE in
theorem Uq(hr:HR ρ h.blk.get w)(o:Option Nat):HR ρ (EP h o).blk.get w∧Ext ρ ρ h (EP h o) w w∧(EP h o).nx=h.nx:=by
 cases o with
 |none=>exact⟨hr,Ext.refl _ _ _,rfl⟩
 |some b=>obtain⟨p1,p2⟩:=hr.strike b;exact⟨p1,p2,rfl⟩
theorem It(hr:HR ρ h.blk.get w){t O ty:TypeId}{s x a:AV}{sv Y:Value}{h':Aa}(hs:VR ρ s sv)(hx:VR ρ x Y)(n:IV E t O s x h=some (a,h'))(hf:AW ρ h.nx h'.nx)
 (hA:∀a h',Jp E t O s x h=some (a,h')→AW ρ h.nx h'.nx→AY E ρ h h' w (Builtin.append_ #[t,O] ty #[sv,Y]) a) :
  AY E ρ h h' w (Builtin.append_ #[t,O] ty #[sv,Y]) a:=by
 unfold IV at n;split at n
 ·exact hA a h' n hf
 ·split at n
  ·rename_i e e' hd ar;split at n
   ·rename_i f ks z hi hk hz;split at n
    ·rename_i hc;split at n
     ·rename_i A C bs Z;split at n
      ·rename_i y m ae;split at n
       ·rename_i hb;cases n;obtain⟨c12,c3⟩:=Av hc;obtain⟨c1,c2⟩:=Av c12;have B:=Ay c1;have a6:=Ay c2;have as:=C7 c3;have D:=hE.ty e f hi;have af:U.K e=some ks:=by rw[hE.kd,←hE.ke];exact hk
        obtain⟨b1,b2⟩:=Av hb;have b1:=JC b1;have b2:=JC b2;rw[Ax,l0,Ar,BE]at b1;rw[Ax,l0,BE]at b2;have ht:=hE.und hd;have au:=hE.und ar;obtain⟨l,nv,s1,s2,Q,s4⟩:=dh hE hr hk B au hx ae;have hB:=Y9 hE hr hk hs Z;obtain⟨i',zv,i1,i2,i3⟩:=GE hz;rw[hi]at i1;cases i1
        have av:zv.cells.size=f.size:=by
         have:=((AO ρ i3).cells (BW i3)).1;simp at this;omega
        have R:nv.length=l.length*f.size:=by rw[Q.1,B]
        have a7:l.length<1048576:=by omega
        have F:Ad U.V (.lenL y)=(((Ab U.V A).rows.length+l.length:Nat):Int):=by rw[Ar,s1];simp
        have aa:Ah U.V (.and C (.eql m (.c 0)))=(Ah U.V C&&(Ad U.V m==0)):=rfl;have p:ρ h.nx=none:=hf h.nx (R2 _) (by cases bs<;>simp[Aa.new,EP,Aa.strike])
        obtain⟨o1,o2,o3⟩:=Uq hr bs
        have S:∀(base:Option Addr)(d i:Nat)(I:List Value),sv=.slice base d i→d=(Ab U.V A).rows.length→d≤i→i<d+l.length→Bm U.K ρ.imm ks I (Ab U.V A).rows→
          (∀J:World,J.heap=w.heap→(Builtin.firstCells f.size d (.slice base d i)).run E.P J=.ok I.toArray J)→
          AY E ρ h ((EP h bs).new (.arr e y)) w (Builtin.append_ #[t,O] ty #[sv,Y]) (.asl h.nx f.size (.lenL y) (.and C (.eql m (.c 0)))):=by
         intro base d i I aw ag a8 ab ah ax;subst aw;have a9:(d+l.length)*f.bytes≤1074790400*1024:=Nat.mul_le_mul (by omega) as
         obtain⟨g,k1,k2⟩:=DM t O ty e f ht D zv i2 Y l.length nv s4 base d i ab (by omega) (by omega) I.toArray ax
         generalize ac:Builtin.zeroCells zv.cells (g-(d+l.length))=zs at k2;have ai:zs.size=(g-(d+l.length))*f.size:=by rw[←ac];simp[Builtin.zeroCells,av]
         have aj:(I.toArray++nv.toArray++zs).size=g*f.size:=by
          have W:I.length=d*f.size:=by rw[ah.1,B,ag]
          simp only[Array.size_append,List.size_toArray,W,R,ai];rw[←Aen,←Aen]
          congr 1;omega
         have j:=ah.append Q;rw[←s1]at j
         have r:Bp U.K ρ.imm ks (I.toArray++nv.toArray++zs) 0 (Ab U.V y).rows:=j.at (by simp) (fun q L=>by
          have ay:q<I.length+nv.length:=by simpa using L
          rw[s0,Ae0 (by simpa using ay)]
          simp only[List.append_toArray,Aep])
         have az:HR ρ (EP h bs).blk.get {w with drawn:=w.drawn+1}:=o1.same rfl
         have a0:ρ (EP h bs).nx=none:=by rw[o3];exact p
         obtain⟨p1,p2⟩:=az.new a0 (.arr e y) (.cells (I.toArray++nv.toArray++zs) e) (g*f.size) ⟨ks,_,e,_,af,rfl,aj,.inl rfl,r⟩ {w with drawn:=w.drawn+1,heap:=w.heap.push (.cells (I.toArray++nv.toArray++zs) e)} rfl rfl rfl rfl
         refine⟨_,_,_,k2,?_,p1,(o2.trans (Ext.drawn p2 rfl rfl rfl rfl) hf)⟩;rw[o3];have G:(Ad U.V (.lenL y)).toNat=d+l.length:=by rw[F,ag];exact Afa _
         have:=VR.asl (ρ:=ρ.upd h.nx ⟨w.heap.size,0,g*f.size⟩) h.nx f.size (.lenL y) (.and C (.eql m (.c 0))) g ⟨w.heap.size,0,g*f.size⟩ (Ren.upd_same _ _ _) (by rw[F];exact Int.natCast_nonneg _) (by rw[G];exact k1) (by show 0+g*f.size≤g*f.size;rw[s0];exact R2 _) (by
          rw[aa,s2];have:((l.length:Int)==0)=false:=by simp;intro e;rw[e]at ab;simp at ab;omega
          rw[this,Bool.and_false])
         rw[G]at this;exact this
        cases hB with
        |none _ ad hy hn=>
         have ak:(Ab U.V A).rows.length=0:=by rw[hy];rfl
         by_cases hm:l.length=0
         ·
          have a1:nv=[]:=la (by rw[R,hm];simp)
          subst a1;obtain⟨p1,p2⟩:=HR.phantom o1 (by rw[o3];exact p) (.arr e y)
          refine⟨ρ,.slice ad 0 0,w,?_,.aslEnd _ _ _ _ _ (by rw[F,ak,hm];rfl) ?_,p1,o2.trans p2 hf⟩
          ·rw[C4 t O ty e f ht D Y l.length [] s4 ad 0 0 (by omega)]
           cases ad with
           |none=>simp[hm]
           |some ad=>simp[storeCells,hm]
          ·rw[aa,s2,hm,hn];simp
         ·exact S ad 0 0 [] rfl ak.symm (R2 _) (by omega) (by rw[hy];exact .nil) (fun J _=>by
           cases ad with
           |none=>simp[Builtin.firstCells]
           |some ad=>simp[Builtin.firstCells,loadCells,loadCellsFrom])
        |blk b off i base M et fz hb hl al ac hw N am hv hn=>
         by_cases u:(Ab U.V A).rows.length+l.length≤i
         ·
          have an:((Ab U.V A).rows.length+l.length)*ks.length≤i*ks.length:=ll _ u;rw[Aen]at an
          have ao:∀v∈nv,v.oneCell'=true:=by
           intro v a2;obtain⟨q,L,rfl⟩:=sd a2
           have ap:0<ks.length:=by
            rcases Nat.eq_zero_or_pos ks.length with h0|h0
            ·rw[Q.1,h0]at L;simp at L
            ·exact h0
           have a3:q/ks.length<l.length:=by
            rw[Q.1]at L;exact Nat.div_lt_of_lt_mul (by rw[Nat.mul_comm];exact L)
           have a4:q%ks.length<ks.length:=Nat.mod_lt _ ap;have:=Q.2.2 (q/ks.length) (q%ks.length) (ks[q%ks.length]) a3 (by simp[a4])
           have e1:q/ks.length*ks.length+q%ks.length=q:=by rw[Nat.mul_comm];exact Nat.div_add_mod _ _
           rw[e1]at this;have e2:nv.getD q Go.undef=nv[q]:=by simp[F4,L]
           rw[e2]at this;generalize nv[q]=v0 at this;generalize ks[q%ks.length]=kq at this;cases this<;>rfl
          obtain⟨J,X,q1,q2,q3,q4,q5,q6,q7,q8,q9⟩:=BM E.P base.cb (base.co+off+(Ab U.V A).rows.length*ks.length) et fz nv 0 w M hw (by rw[Q.1,N];omega) (by rw[N];exact am) ao
          have r:Bp U.K ρ.imm ks X (base.co+off) (Ab U.V y).rows:=by
           have j:=hv.vals.append Q;rw[←s1]at j
           have H:((M.toList.drop (base.co+off)).take ((Ab U.V A).rows.length*ks.length)).length=(Ab U.V A).rows.length*ks.length:=by
            have:=hv.1;simp;omega
           refine j.at (by rw[pc,H,Q.1,q3,N];omega) (fun q L=>?_)
           rw[pc,H]at L;rw[q4];simp only[qs];by_cases aq:q<(Ab U.V A).rows.length*ks.length
           ·rw[if_neg (by omega),hP (by rw[H];exact aq),vv,if_pos aq,q0,oj]
           ·rw[if_pos (by omega),hS (by rw[H];omega),H]
            congr 1;omega
          obtain⟨p1,p2⟩:=hr.move hb hl p (base':=⟨base.cb,base.co+off,base.csz⟩) rfl (.arr e y) J ⟨ks,X,et,fz,af,q2,by rw[q3,N],am,r⟩ q5 q6 q7 q8 q9
          refine⟨_,.slice (some ⟨base.cb,base.co+off,none⟩) ((Ab U.V A).rows.length+l.length) i,J,?_,?_,p1,p2⟩
          ·rw[C4 t O ty e f ht D Y l.length nv s4 _ _ i u];simp only[B2,←B];rw[q1];rfl
          ·have G:(Ad U.V (.lenL y)).toNat=(Ab U.V A).rows.length+l.length:=by rw[F];exact Afa _
           have:=VR.asl (ρ:=ρ.upd h.nx ⟨base.cb,base.co+off,base.csz⟩) h.nx f.size (.lenL y) (.and C (.eql m (.c 0))) i ⟨base.cb,base.co+off,base.csz⟩ (Ren.upd_same _ _ _) (by rw[F];omega) (by rw[G];exact u) (by rw[←B];exact ac) (by rw[aa,hn];rfl)
           rw[G]at this;exact this
         ·have W:((M.toList.drop (base.co+off)).take ((Ab U.V A).rows.length*ks.length)).length=(Ab U.V A).rows.length*ks.length:=by
           have:=hv.1;simp;omega
          exact S (some ⟨base.cb,base.co+off,none⟩) _ i _ rfl rfl al (by omega) hv.vals (fun J a5=>by
           simp only[Builtin.firstCells,←B];exact AT E.P J base.cb (base.co+off) _ M et fz (by rw[a5];exact hw) hv.1)
       ·cases n
      ·cases n
     ·cases n
    ·cases n
   ·cases n
  ·cases n
end
end Go.AE
namespace Go.AE
variable [Gl:AG]
variable [U:Unk]
section
variable {E:Env}{ρ:Ren}{w:World}(hE:OK E)
include hE
theorem af{t:TypeId}(c:E.desc t=some .bool)(n:Nat)(a b:Bool):aeq E (n+1) t (.bool a) (.bool b)=some (a==b):=by
 simp only[aeq,c]
theorem H6{c:BinOp}{t:TypeId}{ox oy:Operand}(f:E.desc t=some .bool)(a b q:Bool)(d:BN c (a==b)=some q) :
  (do eqGuard c t ox oy (.bool a) (.bool b);binOp c t (.bool a) (.bool b):Sem Value).run E.P w=.ok (.bool q) w:=by
 have g:T3 E c t (.bool a) (.bool b)=some (.bool q):=by
  have e:=af hE f 9999 a b;cases c<;>simp only[BN,reduceCtorEq,C2]at d
  ·subst d;show(aeq E 10000 t _ _).map AV.bool=_;rw[e];rfl
  ·subst d;show((aeq E 10000 t _ _).map fun b=>AV.bool (!b))=_;rw[e];rfl
 obtain⟨v,h,i⟩:=WO (ρ:=Ren.empty) (w:=w) (ox:=ox) (oy:=oy) hE (.bool a) (.bool b) g;cases i;exact h
omit hE in
theorem Fv{x:AV}{xv:Value}(hx:VR ρ x xv):(∀b,Q3 x=some (.inl b)→xv=.bool b)∧(∀p e,Q3 x=some (.inr (p,e))→xv=.bool (Ah U.V e==p)):=by
 cases x<;>simp only[Q3,reduceCtorEq,false_imp_iff,implies_true,and_self]
 ·rename_i b;cases hx;exact⟨fun c h=>(by cases h;rfl),fun p e h=>(by cases h)⟩
 ·rename_i p e;cases hx;refine⟨fun b h=>?_,fun p' e' h=>?_⟩
  ·split at h
   ·rename_i c hc;cases h;rw[Aw U.ok hc]
   ·cases h
  ·split at h
   ·cases h
   ·cases h;rfl
theorem IE{d:BinOp}{t e:TypeId}{ox f:Operand}(r:E.desc t=some (.slice e))(a:Option Addr)(n c:Nat)(q:Bool)(g:BN d a.isNone=some q)(z:a=none→n=0∧c=0) :
  (do eqGuard d t ox f (.slice a n c) (.slice none 0 0);binOp d t (.slice a n c) (.slice none 0 0):Sem Value).run E.P w=.ok (.bool q) w∧
  (do eqGuard d t ox f (.slice none 0 0) (.slice a n c);binOp d t (.slice none 0 0) (.slice a n c):Sem Value).run E.P w=.ok (.bool q) w:=by
 have i:=hE.run_und r w;have j:(eqGuard d t ox f (.slice a n c) (.slice none 0 0)).run E.P w=.ok () w:=B5 (by simp) (by simp)
 have k:(eqGuard d t ox f (.slice none 0 0) (.slice a n c)).run E.P w=.ok () w:=B5 (by simp) (by simp)
 obtain⟨s,u⟩:=Ei t (.slice a n c) (.slice none 0 0) (by simp) (by simp) (by simp) (by simp)
 obtain⟨b3,b4⟩:=Ei t (.slice none 0 0) (.slice a n c) (by simp) (by simp) (by simp) (by simp)
 have v:∀m:Nat,(Op.equalIn (m+1) t (.slice a n c) (.slice none 0 0)).run E.P w=.ok a.isNone w:=by
  intro m;cases a<;>simp[Op.equalIn,i]
 have y:∀m:Nat,(Op.equalIn (m+1) t (.slice none 0 0) (.slice a n c)).run E.P w=.ok a.isNone w:=by
  intro m;cases a<;>simp[Op.equalIn,i]
 have l:(Op.equal t (.slice a n c) (.slice none 0 0)).run E.P w=.ok a.isNone w:=v 9999;have o:(Op.equal t (.slice none 0 0) (.slice a n c)).run E.P w=.ok a.isNone w:=y 9999;cases d<;>simp only[BN,reduceCtorEq,C2]at g
 ·subst g;refine⟨?_,?_⟩
  ·simp only[L1,j,F0,s,l];rfl
  ·simp only[L1,k,F0,b3,o];rfl
 ·subst g;refine⟨?_,?_⟩
  ·simp only[L1,j,F0,u,l];rfl
  ·simp only[L1,k,F0,b4,o];rfl
theorem M7{d:BinOp}{t o r:TypeId}{ox f:Operand}(s:E.desc t=some (.map o r))(a:Option Nat)(q:Bool)(g:BN d a.isNone=some q) :
  (do eqGuard d t ox f (.map a) (.map none);binOp d t (.map a) (.map none):Sem Value).run E.P w=.ok (.bool q) w∧
  (do eqGuard d t ox f (.map none) (.map a);binOp d t (.map none) (.map a):Sem Value).run E.P w=.ok (.bool q) w:=by
 have i:=hE.run_und s w;have j:(eqGuard d t ox f (.map a) (.map none)).run E.P w=.ok () w:=B5 (by simp) (by simp)
 have k:(eqGuard d t ox f (.map none) (.map a)).run E.P w=.ok () w:=B5 (by simp) (by simp)
 obtain⟨u,v⟩:=Ei t (.map a) (.map none) (by simp) (by simp) (by simp) (by simp)
 obtain⟨b3,b4⟩:=Ei t (.map none) (.map a) (by simp) (by simp) (by simp) (by simp)
 have y:∀m:Nat,(Op.equalIn (m+1) t (.map a) (.map none)).run E.P w=.ok a.isNone w:=by
  intro m;cases a<;>simp[Op.equalIn,i]
 have z:∀m:Nat,(Op.equalIn (m+1) t (.map none) (.map a)).run E.P w=.ok a.isNone w:=by
  intro m;cases a<;>simp[Op.equalIn,i]
 have l:(Op.equal t (.map a) (.map none)).run E.P w=.ok a.isNone w:=y 9999;have n:(Op.equal t (.map none) (.map a)).run E.P w=.ok a.isNone w:=z 9999;cases d<;>simp only[BN,reduceCtorEq,C2]at g
 ·subst g;refine⟨?_,?_⟩
  ·simp only[L1,j,F0,u,l];rfl
  ·simp only[L1,k,F0,b3,n];rfl
 ·subst g;refine⟨?_,?_⟩
  ·simp only[L1,j,F0,v,l];rfl
  ·simp only[L1,k,F0,b4,n];rfl
omit hE in
theorem V0{x:AV}{xv:Value}{s:SE}(hx:VR ρ x xv)(h:bW x=some s):∃a,xv=.map a∧Ah U.V s=a.isNone:=by
 cases hx<;>simp only[bW,reduceCtorEq,C2]at h<;>subst h
 ·exact⟨none,rfl,rfl⟩
 ·exact⟨_,rfl,rfl⟩
 ·rename_i hn;exact⟨_,rfl,by rw[hn];rfl⟩
 ·rename_i hn;exact⟨_,rfl,by rw[hn];rfl⟩
omit hE in
theorem VE{x:AV}{xv:Value}{s:SE}(hx:VR ρ x xv)(h:dW x=some s):∃a n c,xv=.slice a n c∧(a=none→n=0∧c=0)∧Ah U.V s=a.isNone:=by
 cases hx<;>simp only[dW,reduceCtorEq,C2]at h<;>subst h
 ·exact⟨none,0,0,rfl,fun _=>⟨rfl,rfl⟩,rfl⟩
 ·exact⟨_,_,_,rfl,fun h=>(by cases h),rfl⟩
 ·exact⟨_,_,_,rfl,fun h=>(by cases h),rfl⟩
 ·rename_i e x a n c hd;refine⟨a,n,c,rfl,?_,?_⟩
  ·rintro rfl
   cases hd;exact⟨rfl,rfl⟩
  ·have:Ah U.V (.isNil x)=(Ab U.V x).isNil:=rfl;rw[this];cases hd with
   |nil _ _ h1=>rw[h1];rfl
   |empty _ _ _ _ h1=>rw[h1];rfl
   |slc _ _ _ _ _ _ _ _ _ _ _ _ h1=>rw[h1];rfl
 ·rename_i hn;exact⟨_,_,_,rfl,fun h=>(by cases h),by rw[hn];rfl⟩
 ·rename_i a h0 hn;exact⟨a,0,0,rfl,fun _=>⟨rfl,rfl⟩,hn.symm⟩
 ·rename_i a hn;exact⟨a,0,0,rfl,fun _=>⟨rfl,rfl⟩,hn.symm⟩
omit hE in
theorem IY{op:BinOp}{p q:Bool}(h:BN op p=some q)(x:Bool):BN op (x==p)=some (x==q):=by
 cases op<;>simp only[BN,reduceCtorEq,C2]at h ⊢<;>subst h<;>cases x<;>cases p<;>rfl
theorem iU{op:BinOp}{t:TypeId}{ox z:Operand}{x y r:AV}{xv u:Value}(hx:VR ρ x xv)(j:VR ρ y u)(d:eqV (E.desc t) op x y=some r) :
  ∃v,(do eqGuard op t ox z xv u;binOp op t xv u:Sem Value).run E.P w=.ok v w∧VR ρ r v:=by
 unfold eqV at d;split at d
 ·rename_i hd;split at d
  ·rename_i a b h1 o;rw[(Fv hx).1 _ h1,(Fv j).1 _ o];cases f:BN op (a==b)with
   |none=>rw[f]at d;cases d
   |some q=>rw[f]at d;cases d;exact⟨_,H6 hE hd a b q f,.bool q⟩
  ·rename_i p e b h1 o;rw[(Fv hx).2 _ _ h1,(Fv j).1 _ o];cases f:BN op (p==b)with
   |none=>rw[f]at d;cases d
   |some q=>
    rw[f]at d;cases d;refine⟨_,H6 hE hd _ _ (Ah U.V e==q) ?_,.sb q e⟩;have:=IY f (Ah U.V e);rw[←this];congr 1;cases Ah U.V e<;>cases p<;>cases b<;>rfl
  ·rename_i b p e h1 o;rw[(Fv hx).1 _ h1,(Fv j).2 _ _ o];cases f:BN op (p==b)with
   |none=>rw[f]at d;cases d
   |some q=>
    rw[f]at d;cases d;refine⟨_,H6 hE hd _ _ (Ah U.V e==q) ?_,.sb q e⟩;have:=IY f (Ah U.V e);rw[←this];congr 1;cases Ah U.V e<;>cases p<;>cases b<;>rfl
  ·cases d
 ·rename_i e hd
  have one:∀{s:SE}{a:Option Addr},Ah U.V s=a.isNone→(BN op true).map (fun q=>mkB q s)=some r→∃q,BN op a.isNone=some q∧VR ρ r (.bool q):=by
   intro s a g i;cases f:BN op true with
   |none=>rw[f]at i;cases i
   |some q=>
    rw[f]at i;cases i;have:=IY f a.isNone;refine⟨a.isNone==q,?_,g▸GU ρ q s⟩;rw[←this];congr 1;cases a.isNone<;>rfl
  split at d
  ·split at d
   ·rename_i s g;cases hx;obtain⟨a,n,c,rfl,h0,k⟩:=VE j g;obtain⟨q,l,m⟩:=one k d;exact⟨_,(IE hE hd a n c q l h0).2,m⟩
   ·cases d
  ·split at d
   ·rename_i s g;cases j;obtain⟨a,n,c,rfl,h0,k⟩:=VE hx g;obtain⟨q,l,m⟩:=one k d;exact⟨_,(IE hE hd a n c q l h0).1,m⟩
   ·cases d
  ·cases d
 ·rename_i A B hd
  have one:∀{s:SE}{a:Option Nat},Ah U.V s=a.isNone→(BN op true).map (fun q=>mkB q s)=some r→∃q,BN op a.isNone=some q∧VR ρ r (.bool q):=by
   intro s a g i;cases f:BN op true with
   |none=>rw[f]at i;cases i
   |some q=>
    rw[f]at i;cases i;have:=IY f a.isNone;refine⟨a.isNone==q,?_,g▸GU ρ q s⟩;rw[←this];congr 1;cases a.isNone<;>rfl
  split at d
  ·split at d
   ·rename_i s g;cases hx;obtain⟨a,rfl,k⟩:=V0 j g;obtain⟨q,l,m⟩:=one k d;exact⟨_,(M7 hE hd a q l).2,m⟩
   ·cases d
  ·split at d
   ·rename_i s g;cases j;obtain⟨a,rfl,k⟩:=V0 hx g;obtain⟨q,l,m⟩:=one k d;exact⟨_,(M7 hE hd a q l).1,m⟩
   ·cases d
  ·cases d
 ·cases d
omit hE in
theorem LX(P:Program)(k:IntKind):∀{l:List AV}{l':List Value}{x:SE}{a:AV},VL ρ l l'→O0 k x l=some a→∃v,(l'.foldlM Builtin.max2 (.int k (Ad U.V x))).run P w=.ok v w∧VR ρ a v
 |[],l',x,a,hl,h=>by
  rw[hl.nil_inv];simp only[O0,C2]at h;subst h;exact⟨_,by simp,Cg ρ k x⟩
 |y::r,l',x,a,hl,h=>by
  obtain⟨v,r',rfl,hv,hr⟩:=hl.cons_inv;simp only[O0]at h;split at h
  ·rename_i k' b hb;have ev:=Cp hv hb;subst ev;split at h
   ·rename_i hd;have:=Aw U.ok hd;rw[Ax,l0]at this;obtain⟨u,q1,q2⟩:=LX P k hr h;refine⟨u,?_,q2⟩;simp only[List.foldlM_cons,Builtin.max2,L1,Ts,F0];rw[if_pos (by omega)];exact q1
   ·rename_i hd;have:=Aw U.ok hd;rw[Ax,ud]at this;obtain⟨u,q1,q2⟩:=LX P k hr h;refine⟨u,?_,q2⟩;simp only[List.foldlM_cons,Builtin.max2,L1,Ts,F0];rw[if_neg (by omega)];exact q1
   ·cases h
  ·cases h
omit hE in
theorem Nj(P:Program)(k:IntKind):∀{l:List AV}{l':List Value}{x:SE}{a:AV},VL ρ l l'→OU k x l=some a→∃v,(l'.foldlM Builtin.min2 (.int k (Ad U.V x))).run P w=.ok v w∧VR ρ a v
 |[],l',x,a,hl,h=>by
  rw[hl.nil_inv];simp only[OU,C2]at h;subst h;exact⟨_,by simp,Cg ρ k x⟩
 |y::r,l',x,a,hl,h=>by
  obtain⟨v,r',rfl,hv,hr⟩:=hl.cons_inv;simp only[OU]at h;split at h
  ·rename_i k' b hb;have ev:=Cp hv hb;subst ev;split at h
   ·rename_i hd;have:=Aw U.ok hd;rw[Ax,l0]at this;obtain⟨u,q1,q2⟩:=Nj P k hr h;refine⟨u,?_,q2⟩;simp only[List.foldlM_cons,Builtin.min2,L1,Ts,F0];rw[if_pos (by omega)];exact q1
   ·rename_i hd;have:=Aw U.ok hd;rw[Ax,ud]at this;obtain⟨u,q1,q2⟩:=Nj P k hr h;refine⟨u,?_,q2⟩;simp only[List.foldlM_cons,Builtin.min2,L1,Ts,F0];rw[if_neg (by omega)];exact q1
   ·cases h
  ·cases h
omit hE in
theorem Yr{ats:Array TypeId}{ty:TypeId}{args:List AV}{args':List Value}{a:AV}(ha:VL ρ args args')(hq:ZV args=some a):∃v,(Builtin.max_ ats ty args'.toArray).run E.P w=.ok v w∧VR ρ a v:=by
 cases args with
 |nil=>cases hq
 |cons x r=>
  obtain⟨v,r',rfl,hv,hl⟩:=ha.cons_inv;simp only[ZV]at hq;split at hq
  ·rename_i k e he;have ev:=Cp hv he;subst ev;obtain⟨u,q1,q2⟩:=LX (w:=w) E.P k hl hq;exact⟨u,by simpa[Builtin.max_]using q1,q2⟩
  ·cases hq
omit hE in
theorem Zf{ats:Array TypeId}{ty:TypeId}{args:List AV}{args':List Value}{a:AV}(ha:VL ρ args args')(hq:Y3 args=some a):∃v,(Builtin.min_ ats ty args'.toArray).run E.P w=.ok v w∧VR ρ a v:=by
 cases args with
 |nil=>cases hq
 |cons x r=>
  obtain⟨v,r',rfl,hv,hl⟩:=ha.cons_inv;simp only[Y3]at hq;split at hq
  ·rename_i k e he;have ev:=Cp hv he;subst ev;obtain⟨u,q1,q2⟩:=Nj (w:=w) E.P k hl hq;exact⟨u,by simpa[Builtin.min_]using q1,q2⟩
  ·cases hq
omit hE in
theorem jg{op:UnOp}{x r:AV}{xv:Value}(hx:VR ρ x xv)(hr:unB op x=some r):∃v,(Op.unary op xv).run E.P w=.ok v w∧VR ρ r v:=by
 unfold unB at hr;split at hr
 ·rename_i k e;cases hr;cases hx;refine⟨_,by simp only[Op.unary,Op.intArith,Ts];rfl,?_⟩
  have:=Cg ρ k (.arith .sub k (.c 0) e);rw[DG]at this;simpa[CU,BE]using this
 ·exact iM hx hr
omit hE in
theorem WR{ks:List Kd}{z:List AV}{r:SE}(hrow:GT ks z=some r):∀(n:Nat)(vs:List Value),VL ρ (BJ z n) vs→Bm U.K ρ.imm ks vs (List.replicate n (Ab U.V r))
 |0,vs,h=>by
  have:=h.nil_inv;subst this;exact .nil
 |n+1,vs,h=>by
  have hzl:z.length=ks.length:=by
   have:∀(ks:List Kd)(l:List AV)(r:SE),GT ks l=some r→l.length=ks.length:=by
    intro ks
    induction ks with
    |nil=>intro l r h;cases l with|nil=>rfl|cons=>cases h
    |cons k ks ih=>
     intro l r h;cases l with
     |nil=>cases h
     |cons a l=>
      simp only[GT]at h;split at h
      ·rename_i x y hx hy;simp[ih l y hy]
      ·cases h
   exact this ks z r hrow
  have h1:=h.take z.length;have h2:=h.drop z.length;have e1:(BJ z (n+1)).take z.length=z:=by simp[BJ]
  have e2:(BJ z (n+1)).drop z.length=BJ z n:=by simp[BJ]
  rw[e1]at h1;rw[e2]at h2;obtain⟨q1,q2,q3⟩:=Fm ks z _ r hrow h1;have:=(Bm.one (ρ:=ρ) q1 q2 q3).append (WR hrow n _ h2);rw[List.take_append_drop]at this;simpa[List.replicate_succ]using this
theorem Nx{h h':Aa}(hr:HR ρ h.blk.get w){t:TypeId}{l c a:AV}{lv S:Value}(hl:VR ρ l lv)(D:VR ρ c S)(hb:H4 E t l c h=some (a,h'))(T:AW ρ h.nx h'.nx) :
  AY E ρ h h' w (Instr.makeSlice t lv S) a:=by
 unfold H4 at hb;split at hb
 ·rename_i k i;split at hb
  ·rename_i k2 im;split at hb
   ·rename_i e I hd;split at hb
    ·rename_i d ks z hi Y Z;split at hb
     ·rename_i r hc hrow;cases hb;obtain⟨J,j⟩:=Av I;have L:k=.i64:=by simpa using J
      have M:=SE.same_ok j;subst L;subst M;obtain⟨hc,c5⟩:=Av hc;obtain⟨hc,c4⟩:=Av hc;obtain⟨hc,c3⟩:=Av hc;obtain⟨c1,c2⟩:=Av hc;have e1:=Ay c1;have e2:=Ay c2;have e3:=C7 c3;have b4:=IZ c4;have b5:=JC c5;rw[Ax,ud,BE]at b4;rw[Ax,l0,BE]at b5;cases hl;cases D;generalize hN:Ad U.V i=N at *;obtain⟨n,rfl⟩:∃n:Nat,N=n:=⟨N.toNat,by omega⟩
      obtain⟨F,z1,z2⟩:=hE.run_zero ρ Z w;have zc:=(AO ρ z2).cells (BW z2);have m:ρ h.nx=none:=T h.nx (R2 _) (by simp[Aa.new])
      have h0:n*z.cells.length=0∨(if n*d.size=0 then #[]else F.cells)=F.cells:=by
       rw[e2];by_cases o:n*d.size=0
       ·exact .inl o
       ·exact .inr (by rw[if_neg o])
      have f:=Iy zc n (if n*d.size=0 then #[]else F.cells) h0
      have G:=WR (ρ:=ρ) hrow n _ f;rw[e2]at f G;have O:U.K e=some ks:=by rw[hE.kd,←hE.ke];exact Y
      generalize H:(Array.range (n*d.size)).map ((if n*d.size=0 then #[]else F.cells)[· % (if n*d.size=0 then #[]else F.cells).size]!)=X at *
      have Q:X.size=n*d.size:=by rw[←H];simp
      have W:(Ab U.V (.rep i r)).rows=List.replicate n (Ab U.V r):=by
       show List.replicate (Ab U.V i).toInt.toNat _=_;have:(Ab U.V i).toInt=(n:Int):=hN;rw[this];rfl
      have A:Bp U.K ρ.imm ks X 0 (Ab U.V (.rep i r)).rows:=by
       rw[W];exact G.at (by simp) (fun q hq=>by rw[s0,oj])
      obtain⟨p1,p2⟩:=hr.new m (.arr e (.rep i r)) (.cells X e) X.size ⟨ks,_,e,_,O,rfl,rfl,.inl rfl,A⟩ {w with heap:=w.heap.push (.cells X e)} rfl rfl rfl rfl
      have B:=Iq n (by omega)
      refine⟨_,.slice (some ⟨w.heap.size,0,none⟩) n n,_,?_,?_,p1,p2⟩
      ·have aa:d.bytes*n≤1024*1048577:=Nat.mul_le_mul e3 (by omega)
       simp only[Instr.makeSlice,L1,hE.run_und hd,F0,asInt,asIntOf,Ts,hE.run_info hi,B]
       have R:¬((d.bytes:Int)*(n:Int)>2^48):=by
        have:((d.bytes*n:Nat):Int)≤1024*1048577:=by omega
        rw[Int.natCast_mul]at this;omega
       have C:(decide ((n:Int)<0)||decide ((d.bytes:Int)*(n:Int)>2^48)||decide ((n:Int)<0)||decide ((n:Int)>(n:Int)))=false:=by
        rw[lp R,lp (show ¬((n:Int)<0) by omega),lp (show ¬((n:Int)>(n:Int)) by omega)]
        rfl
       rw[if_neg (by rw[C];exact Bool.false_ne_true)]
       simp only[L1,run_askRoom,F0,Afa,hE.run_sz hi];by_cases o:n*d.size=0
       ·rw[if_pos o]at H;rw[if_pos o];simp only[L1,Ts,F0,newRow,Aez,H]
       ·rw[if_neg o]at H;rw[if_neg o];simp only[L1,z1,Ts,F0,newRow,Aez,H]
      ·have g:Ad U.V (.lenL (.rep i r))=(n:Int):=by rw[Ar,W];simp
       have:=VR.asl (ρ:=ρ.upd h.nx ⟨w.heap.size,0,X.size⟩) h.nx d.size (.lenL (.rep i r)) (.bc false) n ⟨w.heap.size,0,X.size⟩ (Ren.upd_same _ _ _) (by rw[g];exact Int.natCast_nonneg _) (by rw[g];simp) (by show 0+n*d.size≤X.size;rw[Q];omega) rfl
       rw[g]at this;simpa using this
     ·cases hb
    ·cases hb
   ·cases hb
  ·cases hb
 ·exact NN hE hr hl D hb T
end
end Go.AE
namespace Go.AE
variable [Gl:AG]
variable [U:Unk]
section
variable {E:Env}{w:World}(hE:OK E)
include hE
theorem HR.freeze{ρ:Ren}{h:Aa}(hr:HR ρ h.blk.get w){b:Nat}{base:Cu}(hb:ρ b=some base)(hl:h.blk.get b≠none){r:Array Value}{e:TypeId}{fz:Nat×Nat}(hw:w.heap[base.cb]?=some (.cells r e fz)) :
  ∃σ:Ren,ρ.le σ∧σ.imm base.cb=some r∧HR σ (h.strike b).blk.get w∧Ext ρ σ h (h.strike b) w w:=by
 let σ:Ren:=⟨ρ.m,fun k=>if k=base.cb then some r else ρ.imm k⟩
 have al:ρ.le σ:=⟨fun _ _ h=>h,fun k a hk=>by
  show(if k=base.cb then some r else ρ.imm k)=some a
  rw[if_neg (fun e=>hr.off k a b base hk hb hl e.symm)]
  exact hk⟩
 have I:∀c,(h.strike b).blk.get c≠none→c≠b∧h.blk.get c≠none:=by
  intro c t;simp only[Aa.strike,T.get_del]at t;by_cases e:b=c
  ·rw[if_pos e]at t;exact absurd rfl t
  ·rw[if_neg e]at t;exact⟨fun e'=>e e'.symm,t⟩
 have an:∀c,c≠b→(h.strike b).blk.get c=h.blk.get c:=by
  intro c t;simp only[Aa.strike,T.get_del];rw[if_neg (fun e=>t e.symm)]
 obtain⟨p1,p2⟩:=hr.strike b;refine⟨σ,al,?_,⟨hr.lt,?_,?_,?_,?_,hr.glob.mono al.imm⟩,⟨al,p2.nx,fun c bs t=>.inl t,p2.calm,fun _ _ _=>rfl,p2.log,p2.live,?_⟩⟩
 ·show(if base.cb=base.cb then some r else _)=_
  rw[if_pos rfl]
 ·intro c bs x t hx;have J:=I c (by rw[hx];exact F2 _)
  rw[an c J.1]at hx;exact(hr.blk c bs x t hx).mono al
 ·intro c c' bs ar av t bd h1 h2;exact hr.apart c c' bs ar av t bd (I c h1).2 (I c' h2).2
 ·intro k arr hk;have l:(if k=base.cb then some r else ρ.imm k)=some arr:=hk
  by_cases c:k=base.cb
  ·rw[if_pos c]at l;cases l;subst c;exact⟨e,fz,hw⟩
  ·rw[if_neg c]at l;exact hr.imm k arr l
 ·intro k arr c bs hk t be;have J:=I c be;have l:(if k=base.cb then some r else ρ.imm k)=some arr:=hk
  by_cases d:k=base.cb
  ·subst d;exact hr.apart c b bs base J.1 t hb J.2 hl
  ·rw[if_neg d]at l;exact hr.off k arr c bs l t J.2
 ·intro k arr hk;have l:(if k=base.cb then some r else ρ.imm k)=some arr:=hk
  by_cases d:k=base.cb
  ·exact .inr (.inr ⟨b,base,hb,hl,d.symm⟩)
  ·rw[if_neg d]at l;exact .inl l
theorem JU{ρ:Ren}{h h':Aa}{kd:Kd}{a F:AV}{v:Value}(s:HR ρ h.blk.get w)(B:VR ρ a v)(f:Ky E kd a h=(F,h')) :
  ∃m:Ren,VR m F v∧HR m h'.blk.get w∧Ext ρ m h h' w w:=by
 have same:(a,h)=(F,h')→∃m:Ren,VR m F v∧HR m h'.blk.get w∧Ext ρ m h h' w w:=by
  intro e;cases e;exact⟨ρ,B,s,Ext.refl _ _ _⟩
 unfold Ky at f;split at f
 ·rename_i e;split at f
  ·rename_i b J n nl;split at f
   ·rename_i e' x ks G L;split at f
    ·rename_i M;cases f;obtain⟨M,c3⟩:=Av M;obtain⟨c1,c2⟩:=Av M;have e1:=Ay c1;subst e1;have e2:=Ay c2;have B:=JZ c3 B;have p:U.K e=some ks:=by rw[hE.kd,←hE.ke];exact L
     have d:(Ab U.V (.nilIs x nl)).isNil=Ah U.V nl:=rfl;have u:(Ab U.V (.nilIs x nl)).rows=(Ab U.V x).rows:=rfl;cases B with
     |asl _ _ _ _ cap base H z g hz N=>
      obtain⟨ab,q,et,fz,X,b2,b3,b4,b5⟩:=s.blk b base _ H G;rw[p]at X;cases X;obtain⟨m,O,P,Q,R⟩:=HR.freeze hE s H (by rw[G];exact F2 _) b2
      have k:(Ad U.V (.lenL x)).toNat=(Ab U.V x).rows.length:=by rw[Ar];simp
      refine⟨m,.dat e _ _ _ _ ?_,Q,R⟩;have t:=b5.mono O.imm;exact .slc e base.cb base.co _ cap _ ks q p P (by rw[u,k]) g (by rw[d,N]) (by rw[k];exact t.1) (fun i hi=>t.2.1 i (by rw[k]at hi;exact hi)) (fun i j kd hi S=>t.2.2 i j kd (by rw[k]at hi;exact hi) S)
     |aslEnd _ _ _ _ ad z o=>
      obtain⟨p1,p2⟩:=s.strike b
      have C:(Ab U.V x).rows=[]:=by
       rw[Ar]at z;exact la (by omega)
      refine⟨ρ,.dat e _ _ _ _ ?_,p1,p2⟩;cases ad with
      |none=>exact .nil e _ (by rw[d,←o];rfl) (by rw[u];exact C)
      |some ad=>exact .empty e ad 0 _ (by rw[d,←o];rfl) (by rw[u];exact C)
    ·exact same f
   ·exact same f
  ·rename_i nl;cases f;cases B with
   |eslc _ ad o=>
    have d:(Ab U.V (.nilIs .nilL nl)).isNil=Ah U.V nl:=rfl;refine⟨ρ,.dat e _ _ _ _ ?_,s,Ext.refl _ _ _⟩;cases ad with
    |none=>exact .nil e _ (by rw[d,←o];rfl) rfl
    |some ad=>exact .empty e ad 0 _ (by rw[d,←o];rfl) rfl
  ·rename_i b off n J;split at f
   ·rename_i ks L;split at f
    ·rename_i l D hl;split at f
     ·rename_i y Y;cases f;have D:=Ay D;have p:U.K e=some ks:=by rw[hE.kd,←hE.ke];exact L
      obtain⟨vs,v1,v2,v3⟩:=J6 hE (e:=e) (ks:=ks) s B hl;obtain⟨Z,r1,r2,r3⟩:=Fs (ρ:=ρ) n .emptyL y l vs Y v1;have T:(Ab U.V y).rows=Z:=by rw[r2];rfl
      have d:(Ab U.V y).isNil=false:=by
       have:∀(n:Nat)(I y:SE)(l:List AV),DX ks n I l=some y→(Ab U.V I).isNil=false→(Ab U.V y).isNil=false:=by
        intro n
        induction n with
        |zero=>intro I y l h z;cases l with
         |nil=>simp only[DX,C2]at h;subst h;exact z
         |cons=>cases h
        |succ n ih=>
         intro I y l h z;simp only[DX]at h;split at h
         ·exact ih _ _ _ h rfl
         ·cases h
       exact this n .emptyL y l Y rfl
      rcases v3 with⟨z,ad,rfl⟩|⟨base,q,et,fz,cap,sz,c,H,G,rfl,g,hz,hw,W,ac,hv⟩
      ·obtain⟨p1,p2⟩:=s.strike b;exact⟨ρ,.dat e _ _ _ _ (.empty e ad 0 _ d (by rw[T];exact la (by rw[r1,z]))),p1,p2⟩
      ·obtain⟨m,O,P,Q,R⟩:=HR.freeze hE s H (by rw[G];exact F2 _) hw
       have aa:n*J≤cap*J:=ll _ g;have A:Bp U.K ρ.imm ks q (base.co+off) Z:=r3.at (by rw[v2,W];omega) hv
       have t:=A.mono O.imm;rw[←T]at t;have r:(Ab U.V y).rows.length=n:=by rw[T,r1]
       refine⟨m,.dat e _ _ _ _ (.slc e base.cb (base.co+off) n cap _ ks q p P r g d ?_ (fun i hi=>t.2.1 i (by rw[r];exact hi)) (fun i j kd hi S=>t.2.2 i j kd (by rw[r];exact hi) S)),Q,R⟩
       have:=t.1;rw[r]at this;exact this
     ·exact same f
    ·exact same f
   ·exact same f
  ·exact same f
 ·exact same f
omit hE in
theorem P1{kd:Kd}{a a':AV}{h h':Aa}(hx:Ky E kd a h=(a',h')):h'.nx=h.nx:=by
 unfold Ky at hx
 repeat' split at hx
 all_goals (cases hx;rfl)
theorem LU:∀{ks:List Kd}{l d:List AV}{e:List Value}{c:Ren}{h h':Aa},HR c h.blk.get w→VL c l e→HC E ks l h=(d,h')→
  h'.nx=h.nx∧∃i:Ren,VL i d e∧HR i h'.blk.get w∧Ext c i h h' w w
 |[],l,d,e,c,h,h',f,hv,hx=>by
  cases l<;>(simp only[HC]at hx;cases hx;exact⟨rfl,c,hv,f,Ext.refl _ _ _⟩)
 |k::ks,[],d,e,c,h,h',f,hv,hx=>by
  simp only[HC]at hx;cases hx;exact⟨rfl,c,hv,f,Ext.refl _ _ _⟩
 |k::ks,a::l,d,e,c,h,h',f,hv,hx=>by
  obtain⟨v,r,rfl,o,p⟩:=hv.cons_inv;simp only[HC]at hx;generalize g:Ky E k a h=p1 at hx;obtain⟨a1,q⟩:=p1;simp only at hx;generalize j:HC E ks l q=p2 at hx;obtain⟨C,D⟩:=p2;simp only at hx;cases hx;have s:=P1 g;obtain⟨i,t,u,m⟩:=JU hE f o g;obtain⟨x,y,z,A,n⟩:=LU u (p.mono m.le) j;refine⟨by omega,y,VL.cons (t.mono n.le) z,A,m.trans n (fun b F B=>by omega)⟩
omit hE in
theorem Zk{kd:Kd}{a a':AV}{h h':Aa}(hx:Ky E kd a h=(a',h')):h'=h∨∃b,h'=h.strike b:=by
 unfold Ky at hx
 repeat' split at hx
 all_goals (cases hx;first|exact .inl rfl|exact .inr ⟨_,rfl⟩)
omit hE in
theorem Ml:∀{ks:List Kd}{l l':List AV}{h h':Aa},HC E ks l h=(l',h')→h'.nx=h.nx∧(∃m,h'.log=m++h.log∧∀c,c∉m→h'.blk.get c=h.blk.get c)∧∀c,h'.blk.get c=none∨h'.blk.get c=h.blk.get c
 |[],l,l',h,h',hx=>by
  cases l<;>(simp only[HC]at hx;cases hx;exact⟨rfl,⟨[],rfl,fun _ _=>rfl⟩,fun _=>.inr rfl⟩)
 |k::ks,[],l',h,h',hx=>by
  simp only[HC]at hx;cases hx;exact⟨rfl,⟨[],rfl,fun _ _=>rfl⟩,fun _=>.inr rfl⟩
 |k::ks,a::l,l',h,h',hx=>by
  simp only[HC]at hx;generalize hf1:Ky E k a h=p1 at hx;obtain⟨a1,h3⟩:=p1;simp only at hx;generalize hf2:HC E ks l h3=p2 at hx;obtain⟨l1,h4⟩:=p2;simp only at hx;cases hx;obtain⟨q1,⟨m,q2,q3⟩,q4⟩:=Ml hf2;rcases Zk hf1 with rfl|⟨b,rfl⟩
  ·exact⟨q1,⟨m,q2,q3⟩,q4⟩
  ·have hget:∀c,(h.strike b).blk.get c=if b=c then none else h.blk.get c:=fun c=>by simp only[Aa.strike,T.get_del]
   refine⟨q1,⟨m++[b],by rw[q2];simp[Aa.strike],fun c hc=>?_⟩,fun c=>?_⟩
   ·simp only[Aes,Aeu,not_or]at hc;rw[q3 c hc.1,hget,if_neg (fun e=>hc.2 e.symm)]
   ·rcases q4 c with r|r
    ·exact .inl r
    ·rw[r,hget];by_cases e:b=c
     ·rw[if_pos e];exact .inl rfl
     ·rw[if_neg e];exact .inr rfl
theorem K9{g:Ren}{h:Aa}{ks:List Kd}{b:Nat}(s:HR g h.blk.get w):(En E ks b h).nx=h.nx∧∃j:Ren,HR j (En E ks b h).blk.get w∧Ext g j h (En E ks b h) w w:=by
 have same:h.nx=h.nx∧∃j:Ren,HR j h.blk.get w∧Ext g j h h w w:=⟨rfl,g,s,Ext.refl _ _ _⟩
 unfold En;split
 ·rename_i n c I;split
  ·rename_i l t;split;rename_i l' h' J;split
   ·rename_i m y z;split
    ·rename_i hc;obtain⟨c1,c2⟩:=Av hc;have L:=Ay c1;have e2:=Ay c2;subst L;cases A:g b with
     |none=>
      obtain⟨M,⟨N,O,P⟩,K⟩:=Ml J;have f:HR g h'.blk.get w:=s.restrict (fun c=>K c)
      have hget:∀c,c≠b→(h'.put b (.cells m (.ofList l'))).blk.get c=h'.blk.get c:=fun c hc=>by
       simp only[Aa.put,T.get_set];rw[if_neg (fun e=>hc e.symm)]
      have ne:∀{c:Nat}{o:Cu},g c=some o→c≠b:=fun hc e=>by subst e;rw[A]at hc;cases hc
      refine⟨M,g,⟨f.lt,fun c o x hc hx=>?_,fun c y o B C hc p D u=>?_,f.imm,fun k arr c o Q hc t=>?_,f.glob⟩,⟨Ren.le_refl g,by show h.nx≤h'.nx;omega,fun _ _ e=>.inl e,G8.refl w,fun _ _ _=>rfl,⟨b::N,by simp[Aa.put,O],fun c hc _=>?_⟩,fun c hc=>?_,fun _ _ e=>.inl e⟩⟩
      ·rw[hget c (ne hc)]at hx;exact f.blk c o x hc hx
      ·rw[hget c (ne hc)]at D;rw[hget y (ne p)]at u;exact f.apart c y o B C hc p D u
      ·rw[hget c (ne hc)]at t;exact f.off k arr c o Q hc t
      ·simp only[i0,not_or]at hc;rw[hget c hc.1];exact P c hc.2
      ·by_cases e:c=b
       ·subst e;exact .inl (by rw[I];exact F2 _)
       ·rw[hget c e]at hc;rcases K c with r|r
        ·rw[r]at hc;exact absurd rfl hc
        ·rw[r]at hc;exact .inl hc
     |some base=>
      obtain⟨d,R,S,V,W,b3,b4,X⟩:=s.blk b base _ A I;obtain⟨l1,l2⟩:=T.range_spec c _ _ _ t
      have F:VL g l ((d.toList.drop base.co).take m):=by
       refine⟨by simp[l1];omega,fun i a v q hv=>?_⟩
       have hi:i<m:=by have:=(L2.1 q).1;omega
       have:=l2 i hi;rw[s0,q]at this;obtain⟨v',Y,Z⟩:=X i a hi this;rw[vv,if_pos hi,q0,oj,Y]at hv;cases hv;exact Z
      obtain⟨hn,j,q1,q2,q3⟩:=LU hE s F J;have G:j b=some base:=q3.le.m b base A
      obtain⟨r1,r2⟩:=q2.put G (by rw[z];exact F2 _) (.cells m (.ofList l')) w ⟨d,R,S,V,W,b3,b4,fun i a hi q=>by
       rw[T.get_ofList]at q
       have hv:((d.toList.drop base.co).take m)[i]?=d[base.co+i]?:=by
        rw[vv,if_pos hi,q0,oj]
       have H:base.co+i<d.size:=by omega
       have hc:d[base.co+i]?=some d[base.co+i]:=by simp[H]
       exact⟨_,hc,q1.2 i a _ q (by rw[hv,hc])⟩⟩ rfl (fun _ _=>rfl) rfl rfl rfl
      exact⟨hn,j,r1,q3.trans r2 (fun c D u=>by simp only[Aa.put]at u;omega)⟩
    ·exact same
   ·exact same
  ·exact same
 ·exact same
theorem O9{d:Ren}{h:Aa}{e:TypeId}{b:Nat}(f:HR d h.blk.get w):(Ic E e b h).nx=h.nx∧∃g:Ren,HR g (Ic E e b h).blk.get w∧Ext d g h (Ic E e b h) w w:=by
 unfold Ic;split
 ·exact K9 hE f
 ·exact⟨rfl,d,f,Ext.refl _ _ _⟩
omit hE in
theorem W4{t:TypeId}{x a:AV}{h h':Aa}(hx:DW E t x a h=some h'):h'.nx=h.nx:=by
 unfold DW J4 storeN at hx
 repeat' split at hx
 all_goals first | (cases hx;done) | (cases hx;rfl)
theorem XJ{f:Ren}{h:Aa}{b:Nat}(B:HR f h.blk.get w):(Kt E b h).nx=h.nx∧∃o:Ren,HR o (Kt E b h).blk.get w∧Ext f o h (Kt E b h) w w:=by
 have same:h.nx=h.nx∧∃o:Ren,HR o h.blk.get w∧Ext f o h h w w:=⟨rfl,f,B,Ext.refl _ _ _⟩
 unfold Kt;split
 ·rename_i e y i j a Q;split
  ·rename_i ks F;split
   ·rename_i e3 hj;split
    ·rename_i t z g R;split
     ·rename_i x0 G ht;have H:HC E [Kd.slice e3] [a] h=([AV.dat t z],g):=by unfold HC;rw[R];rfl
      obtain⟨S,⟨mm,s2,s3⟩,W⟩:=Ml H;have I:=Ay ht;subst I;cases J:f b with
      |none=>
       have d:HR f g.blk.get w:=B.restrict (fun c=>W c)
       have hget:∀c,c≠b→(g.put b (.arr e (.upd y i j z))).blk.get c=g.blk.get c:=fun c hc=>by
        simp only[Aa.put,T.get_set];rw[if_neg (fun e=>hc e.symm)]
       have ne:∀{c:Nat}{q:Cu},f c=some q→c≠b:=fun hc e=>by subst e;rw[J]at hc;cases hc
       refine⟨S,f,⟨d.lt,fun c q x hc hx=>?_,fun c X q L M hc s g C=>?_,d.imm,fun k arr c q F hc Y=>?_,d.glob⟩,⟨Ren.le_refl f,by show h.nx≤g.nx;omega,fun _ _ e=>.inl e,G8.refl w,fun _ _ _=>rfl,⟨b::mm,by simp[Aa.put,s2],fun c hc _=>?_⟩,fun c hc=>?_,fun _ _ e=>.inl e⟩⟩
       ·rw[hget c (ne hc)]at hx;exact d.blk c q x hc hx
       ·rw[hget c (ne hc)]at g;rw[hget X (ne s)]at C;exact d.apart c X q L M hc s g C
       ·rw[hget c (ne hc)]at Y;exact d.off k arr c q F hc Y
       ·simp only[i0,not_or]at hc;rw[hget c hc.1];exact s3 c hc.2
       ·by_cases e:c=b
        ·subst e;exact .inl (by rw[Q];exact F2 _)
        ·rw[hget c e]at hc;rcases W c with r|r
         ·rw[r]at hc;exact absurd rfl hc
         ·rw[r]at hc;exact .inl hc
      |some base=>
       obtain⟨aa,N,I,fz,u,v,Z,b2,b3,b4,b5,b6,b7,b8,b9⟩:=B.blk b base _ J Q;have A:U.K e=some ks:=by rw[hE.kd,←hE.ke];exact F
       rw[A]at Z;cases Z;obtain⟨o,q1,q2,q3⟩:=JU hE B b9 R;have O:=q3.le.m b base J
       have P:DV U.K o.imm (.slice t) v (Ab U.V z):=by
        cases q1 with
        |dat _ _ a n c P=>exact P
       obtain⟨r1,r2⟩:=q2.put O (by rw[G];exact F2 _) (.arr e (.upd y i j z)) w ⟨ks,N,I,fz,A,b2,b3,b4,Bp.upd (v:=v) (b5.mono q3.le.imm) b6 hj P (by simp) (fun p=>by
        rw[Array.getElem?_setIfInBounds];by_cases D:p=base.co+(Ad U.V i).toNat*ks.length+j
        ·rw[if_pos D,D];exact b8
        ·rw[if_neg D,if_neg (fun e=>D e.symm)])⟩ rfl (fun _ _=>rfl) rfl rfl rfl
       exact⟨S,o,r1,q3.trans r2 (fun c g C=>by simp only[Aa.put]at C;omega)⟩
     ·exact same
    ·exact same
   ·exact same
  ·exact same
 ·exact same
theorem YE{A:Ren}{h h':Aa}(X:HR A h.blk.get w){t:TypeId}{b Y off:Nat}{i:SE}{a:AV}{Z v:Value}(hx:VR A (.aptr b Y i off) Z)(ha:VR A a v)(f:ZT E t b Y i off a h=some h') :
  ∃σ B,(Instr.storeAt t Z v).run E.P w=.ok () B∧HR σ h'.blk.get B∧Ext A σ h h' w B:=by
 unfold ZT at f;split at f
 ·rename_i M o N s;split at f
  ·rename_i e y e2 y2 hb ab;split at f
   ·rename_i ks ac hk aa;split at f
    ·rename_i hc;cases f;obtain⟨u,c5⟩:=Av hc;obtain⟨C,c4⟩:=Av u;obtain⟨c12,c3⟩:=Av C;obtain⟨c1,c2⟩:=Av c12;have O:=Ay c2;subst O;have D:off<ks.length:=Io c5;obtain⟨r0,r1⟩:=KD c3
     try rw[Ar,CS,←Ar]at r1
     rw[Ar]at r1;have g:=ha.cells (by simp)
     have F:∀x∈v.cells.toList,x.oneCell'=true:=by
      intro x hx;obtain⟨q,hq,rfl⟩:=sd hx
      have Q:q=0:=by
       have:=g.1;simp only[AV.cells,List.length_singleton]at this;omega
      subst Q;exact VR.one (g.2 0 (.asl M o N s) _ rfl (Aev hq)) rfl
     have G:v.cells.toList.length=1:=by have:=g.1;simp only[AV.cells,List.length_singleton]at this;omega
     obtain⟨L,H⟩:∃L,v.cells.toList[0]?=some L:=⟨_,Aev (by omega)⟩
     have R:VR A (.asl M o N s) L:=g.2 0 _ _ (by simp[AV.cells]) H
     cases hx with
     |aptr _ _ _ _ base I h0=>
      obtain⟨ad,d,et,fz,b1,S,b3,b4,b5⟩:=X.blk b base _ I hb;have J:U.K e=some ks:=by rw[hE.kd,←hE.ke];exact hk
      rw[J]at b1;cases b1;have hi:(Ad U.V i).toNat<(Ab U.V y).rows.length:=by omega
      have W:((Ad U.V i).toNat+1)*ks.length≤(Ab U.V y).rows.length*ks.length:=ll _ hi;rw[Aen,Nat.one_mul]at W;have ae:=b5.1;have j:base.co+(Ad U.V i).toNat*ks.length+off<d.size:=by omega
      obtain⟨B,n,q1,q2,q3,q4,q5,q6,q7,q8,q9⟩:=BM E.P base.cb (base.co+(Ad U.V i).toNat*ks.length+off) et fz v.cells.toList 0 w d S (by omega) (by rw[b3];exact b4) F
      have z:n.setIfInBounds (base.co+(Ad U.V i).toNat*ks.length+off) d[base.co+(Ad U.V i).toNat*ks.length+off]=d:=by
       apply Array.ext_getElem?;intro p;rw[Array.getElem?_setIfInBounds,q3,q4];by_cases hp:base.co+(Ad U.V i).toNat*ks.length+off=p
       ·subst hp;rw[if_pos rfl,if_pos j];simp[j]
       ·rw[if_neg hp,if_neg (by omega)]
      obtain⟨p1,p2⟩:=X.put I (by rw[hb];exact F2 _) (.hole e y i off (.asl M o N s)) B ⟨ks,n,et,fz,d[base.co+(Ad U.V i).toNat*ks.length+off],L,J,q2,by rw[q3,b3],b4,by rw[z];exact b5,hi,D,by rw[q4,if_pos (by omega)];simpa using H,R⟩ q5 q6 q7 q8 q9
      refine⟨A,B,?_,p1,p2⟩;unfold Instr.storeAt storeVar;have e:v.cells.size=1:=by have:=G;simp at this;omega
      simp[Instr.sureAddr,hE.run_szIs c4,e,q1]
    ·cases f
   ·cases f
  ·cases f
 ·cases f
theorem RQ{j:Ren}{h h':Aa}(o:HR j h.blk.get w){t:TypeId}{x a:AV}{s v:Value}(hx:VR j x s)(p:VR j a v)(f:JA E t x a h=some h') :
  ∃i g,(Instr.storeAt t s v).run E.P w=.ok () g∧HR i h'.blk.get g∧Ext j i h h' w g:=by
 have d:DW E t x a h=some h'→∃i g,(Instr.storeAt t s v).run E.P w=.ok () g∧HR i h'.blk.get g∧Ext j i h h' w g:=by
  intro B;obtain⟨g,q1,q2,q3⟩:=J2 hE o hx p B;exact⟨j,g,q1,q2,q3⟩
 have n:∀{t:TypeId}{x a:AV}{h h':Aa},DW E t x a h=some h'→h'.nx=h.nx:=W4
 unfold JA at f;split at f
 ·split at f
  ·rename_i C;cases f;exact YE hE o hx p C
  ·split at f
   ·split at f
    ·split at f
     ·split at f
      ·rename_i l;split at f;rename_i l1 D q;cases p with
       |agg _ l' F G=>
        obtain⟨I,i,q1,q2,q3⟩:=LU hE o ⟨F,G⟩ q;obtain⟨g,u,y,z⟩:=J2 hE q2 (hx.mono q3.le) (.agg l1 l' q1.1 q1.2) f;have:=n f;exact⟨i,g,u,y,q3.trans z (fun b H A=>by omega)⟩
      ·split at f;rename_i J D q;obtain⟨i,q1,q2,q3⟩:=JU hE o p q;obtain⟨g,u,y,z⟩:=J2 hE q2 (hx.mono q3.le) q1 f;have:=n f;have:=P1 q;exact⟨i,g,u,y,q3.trans z (fun b H A=>by omega)⟩
     ·exact d f
    ·exact d f
   ·exact d f
 ·exact d f
theorem R7{f:Ren}{h:Aa}{e:TypeId}{a:AV}(g:HR f h.blk.get w):(Gs E e a h).nx=h.nx∧∃d:Ren,HR d (Gs E e a h).blk.get w∧Ext f d h (Gs E e a h) w w:=by
 have same:h.nx=h.nx∧∃d:Ren,HR d h.blk.get w∧Ext f d h h w w:=⟨rfl,f,g,Ext.refl _ _ _⟩
 unfold Gs;split
 ·split
  ·split
   ·exact O9 hE g
   ·exact same
  ·exact same
 ·exact same
theorem PU{f:Ren}{h h':Aa}(n:HR f h.blk.get w){t t' ty:TypeId}{s x a:AV}{o p:Value}(j:VR f s o)(hx:VR f x p)(g:Ka E t t' s x h=some (a,h'))(i:AW f h.nx h'.nx)
 (y:∀a h',Jp E t t' s x h=some (a,h')→AW f h.nx h'.nx→AY E f h h' w (Builtin.append_ #[t,t'] ty #[o,p]) a) :
  AY E f h h' w (Builtin.append_ #[t,t'] ty #[o,p]) a:=by
 unfold Ka at g;split at g
 ·rename_i A;split at g
  ·rename_i e L;obtain⟨M,N,q1,q2⟩:=R7 (e:=e) (a:=s) hE n;obtain⟨O,B,z,q⟩:=R7 (e:=e) (a:=x) hE q1;have d:=q2.le.trans q.le;have u:AW B (Gs E e x (Gs E e s h)).nx h'.nx:=Ext.free q (Ext.free q2 i);obtain⟨C,v,D,F,G,H,I⟩:=It hE z (j.mono d) (hx.mono d) g u (fun a J K hf2=>MK hE z (j.mono d) (hx.mono d) K hf2)
   exact⟨C,v,D,F,G,H,q2.trans (q.trans I (Ext.free q2 i)) i⟩
  ·exact It hE n j hx g i y
 ·exact It hE n j hx g i y
end
end Go.AE
namespace Go.AE
variable [Gl:AG]
variable [U:Unk]
theorem bE{d:Option TypeDesc}(h:iz d=true):d=some (.int .u8):=by
 unfold iz at h;split at h
 ·rfl
 ·cases h
theorem Xc{d:Option (List Kd)}(h:UO d=true):d=some [.int .u8]:=by
 unfold UO at h;split at h
 ·rfl
 ·cases h
theorem bM{s:ByteArray}{n:Nat}(h:n<s.data.toList.length):s[n]?=some s.data.toList[n]:=by
 have a:n<s.size:=by simpa using h
 rw[getElem?_pos s n a];rfl
theorem ah{l:List UInt8}{i:Nat}(hi:i<l.length):((l.map fun b=>D.row [.int b.toNat]).getD i default)=.row [.int l[i].toNat]:=by
 rw[F4,Aeo,Aev hi];rfl
theorem dg{t:ByteArray}{m i:Nat}(hi:i<t.data.toList.length):(t.data.map (fun(b:UInt8)=>Value.int .u8 b.toNat)++Array.replicate m (Value.int .u8 0)).getD i Go.undef=.int .u8 (t.data.toList[i].toNat:Nat):=by
 have a:i<t.data.size:=by rw[←Array.length_toList];exact hi
 have:(t.data.map (fun(b:UInt8)=>Value.int .u8 b.toNat)++Array.replicate m (Value.int .u8 0))[i]?=some (.int .u8 (t.data.toList[i].toNat:Nat)):=by
  rw[Ae0 (by simpa using a),Array.getElem?_map,Array.getElem?_eq_getElem a]
  simp
 rw[gg,this];rfl
section
variable {E:Env}(hE:OK E){ρ:Ren}{h:Aa}{w:World}
include hE
theorem W6{t:TypeId}{x i a:AV}{l m:Value}(o:VR ρ x l)(hi:VR ρ i m)(b:Pl E t x i=some a) :
  ∃v,(Instr.index t l m).run E.P w=.ok v w∧VR ρ a v:=by
 unfold Pl at b;split at b
 ·rename_i y;split at b
  ·rename_i k c r g;split at b
   ·rename_i s;cases b;obtain⟨u,p⟩:=KD s;have j:=Cp hi g;subst j;rw[CT]at p;cases o with
    |ss _=>
     obtain⟨n,q⟩:∃n:Nat,Ad U.V c=n:=⟨(Ad U.V c).toNat,by omega⟩
     rw[q]at u p ⊢;have d:n<(AR U.V y).data.toList.length:=by omega
     refine⟨.int .u8 ((AR U.V y).data.toList[n].toNat:Nat),?_,?_⟩
     ·simp only[Instr.index,asIntOf,L1,Ts,F0,hE.run_und r];rw[if_pos (by omega),Afa,bM d]
      rfl
     ·have:=Cg ρ .u8 (.strAt y c)
      have e:Ad U.V (.strAt y c)=((AR U.V y).data.toList[n].toNat:Nat):=by
       show((((Ab U.V y).toStr.data.toList[(Ab U.V c).toInt.toNat]?).getD 0).toNat:Int)=_
       have z:(Ab U.V c).toInt.toNat=n:=by
        have:(Ab U.V c).toInt=n:=q;omega
       have f:n<(Ab U.V y).toStr.data.toList.length:=d;rw[z,Aev f];rfl
      rw[e]at this;exact this
   ·cases b
  ·cases b
 ·exact Xv hE o (Jf hi) b
theorem ba(r:HR ρ h.blk.get w){s d:TypeId}{x a:AV}{L:Value}{h':Aa}(u:VR ρ x L)(l:Va E s d x h=some (a,h'))(v:AW ρ h.nx h'.nx) :
  AY E ρ h h' w (convert s d L) a:=by
 unfold Va at l;split at l
 ·rename_i y;split at l
  ·rename_i e N;split at l
   ·rename_i z;cases l;obtain⟨z,c3⟩:=Av z;obtain⟨c1,c2⟩:=Av z;have O:=bE c1;have Q:=Xc c2;obtain⟨R,S⟩:=Option.isSome_iff_exists.1 c3;have us:=hE.run_und S w;have T:=hE.run_und N w;have W:=hE.run_und O w;cases u with
    |ss _=>
     generalize X:AR U.V y=t;have n:ρ h.nx=none:=v h.nx (R2 _) (by simp[Aa.new])
     generalize m:grownCap w t.size 0 e=c;have A:t.size≤c:=by rw[←m];exact grownCap_ge w _ _ _
     generalize f:(t.data.map (fun b=>Value.int .u8 b.toNat)++Array.replicate (c-t.size) (.int .u8 0))=arr
     have q:arr.size=c:=by rw[←f];simp;omega
     have B:HR ρ h.blk.get {w with drawn:=w.drawn+1}:=r.same rfl
     have C:U.K e=some [.int .u8]:=by rw[hE.kd,←hE.ke];exact Q
     have M:(Ab U.V (.bytes y)).rows=t.data.toList.map fun b=>.row [.int b.toNat]:=by
      show((Ab U.V y).toStr.data.toList.map _)=_;have:(Ab U.V y).toStr=t:=X;rw[this]
     have D:t.size=t.data.toList.length:=by simp
     have o:Bp U.K ρ.imm [.int .u8] arr 0 (Ab U.V (.bytes y)).rows:=by
      rw[M];refine⟨by simp only[List.length_map,List.length_singleton];omega,fun i hi=>?_,fun i j kd hi F=>?_⟩
      ·have k:i<t.data.toList.length:=by simpa using hi
       rw[ah k];rfl
      ·have k:i<t.data.toList.length:=by simpa using hi
       have G:j=0:=by
        cases j with
        |zero=>rfl
        |succ j=>simp at F
       subst G;simp only[gy,C2]at F;subst F;rw[ah k];show DV U.K ρ.imm (.int .u8) (arr.getD (0+i*1+0) Go.undef) (.int (t.data.toList[i].toNat:Nat));rw[show 0+i*1+0=i by omega,←f,dg k]
       have Y:=t.data.toList[i].toNat_lt;exact .int .u8 _ _ (.inr ⟨by show(0:Int)≤_;omega,by show _≤(255:Int);omega⟩) rfl
     obtain⟨p1,p2⟩:=B.new n (.arr e (.bytes y)) (.cells arr e (arr.size,arr.size+1)) arr.size ⟨_,_,e,_,C,rfl,rfl,.inr (R2 _),o⟩ {w with drawn:=w.drawn+1,heap:=w.heap.push (.cells arr e (arr.size,arr.size+1))} rfl rfl rfl rfl
     refine⟨_,.slice (some ⟨w.heap.size,0,none⟩) t.size c,_,?_,?_,p1,p2.drawn rfl rfl rfl rfl⟩
     ·have H:(choose (.appendCap t.size 0 e)).run E.P w=.ok c {w with drawn:=w.drawn+1}:=by rw[←m];simp[Question.forced,grownCap]
      have p:(convert s d (.string t)).run E.P w=(Conv.stringToBytes e t).run E.P w:=by
       cases R<;>simp[convert,us,T,W]
      rw[p];simp only[Conv.stringToBytes,L1,H,F0,newRow,Aez,Ts,f];simp only[markStringish,L1,run_shape,F0];have I:({w with drawn:=w.drawn+1,heap:=w.heap.push (.cells arr e)}:World).shape? w.heap.size=some (e,arr.size):=by simp[World.shape?]
      rw[I];simp only[run_freeze,F0]
      have J:({w with drawn:=w.drawn+1,heap:=w.heap.push (.cells arr e)}:World).freeze ⟨w.heap.size,arr.size,none⟩ 1={w with drawn:=w.drawn+1,heap:=w.heap.push (.cells arr e (arr.size,arr.size+1))}:=by
       simp[World.freeze,K1]
      rw[J]
     ·have g:Ad U.V (.lenL (.bytes y))=(t.size:Nat):=by rw[Ar,M,D];simp
      have:=VR.asl (ρ:=ρ.upd h.nx ⟨w.heap.size,0,arr.size⟩) h.nx 1 (.lenL (.bytes y)) (.bc false) c ⟨w.heap.size,0,arr.size⟩ (Ren.upd_same _ _ _) (by rw[g];exact Int.natCast_nonneg _) (by rw[g];simpa using A) (by show 0+c*1≤arr.size;rw[q];omega) rfl
      rw[g]at this;simpa using this
   ·cases l
  ·exact Rj hE r u l v
 ·exact Rj hE r u l v
end
end Go.AE
namespace Go.AE
variable [Gl:AG]
variable [U:Unk]
theorem Km{l u n:SE}(h:inB l u n=true):0≤Ad U.V l∧Ad U.V l≤Ad U.V u∧Ad U.V u≤Ad U.V n:=by
 unfold inB at h;obtain⟨d,e⟩:=Av h;obtain⟨f,g⟩:=Av d;have a:=IZ f;have b:=IZ g;have c:=IZ e;rw[Ax,ud]at a b c;have z:Ad U.V (.c 0)=0:=rfl;rw[z]at a;omega
theorem ES{c:Ren}{d e:SE}{o:Option AV}{b:Option Value}(f:∀a,o=some a→∃v,b=some v∧VR c a v)(g:o=none→b=none)(h:HA d o=some e) :
  (b=none∧e=d)∨∃k,b=some (.int k (Ad U.V e)):=by
 cases o with
 |none=>cases h;exact .inl ⟨g rfl,rfl⟩
 |some a=>
  obtain⟨v,hv,i⟩:=f a rfl;simp only[HA]at h;split at h
  ·rename_i k l j;cases h;exact .inr ⟨k,by rw[hv,Cp i j]⟩
  ·cases h
theorem iI{d:Ren}{o:Option AV}{e:Option Value}(f:∀a,o=some a→∃v,e=some v∧VR d a v):∀a,o.map L8=some a→∃v,e=some v∧VR d a v:=by
 intro a c;cases o with
 |none=>cases c
 |some b=>
  simp only[vx,C2]at c;subst c;obtain⟨v,g,h⟩:=f b rfl;exact⟨v,g,Jf h⟩
omit U in
theorem Zy[Facts]{o:Option AV}{o':Option Value}(h0:o=none→o'=none):o.map L8=none→o'=none:=by
 intro h;cases o with
 |none=>exact h0 rfl
 |some b=>cases h
theorem EL{P:Program}{w:World}{kd:IntKind}{x:Int}{y:Nat}{code:BoundsCode}(h0:0≤x)(a:x≤y):(Instr.sliceBound (.int kd x) y code).run P w=.ok x.toNat w:=by
 simp[Instr.sliceBound,asIntOf,h0,a]
theorem Hy{P:Program}{w:World}{b:Bool}{len cap:Nat}{l u dl du:SE}{f hi':Option Value}(j:(f=none∧l=dl)∨∃k,f=some (.int k (Ad U.V l)))(n:(hi'=none∧u=du)∨∃k,hi'=some (.int k (Ad U.V u)))
 (g:Ad U.V dl=0)(i:Ad U.V du=len)(h0:0≤Ad U.V l)(q:Ad U.V l≤Ad U.V u)(r:Ad U.V u≤len)(s:len≤cap) :
  (Instr.sliceBounds b len cap f hi' none).run P w=.ok ((Ad U.V l).toNat,(Ad U.V u).toNat,cap) w:=by
 rcases n with⟨a,c⟩|⟨k,a⟩
 ·subst a;subst c;rcases j with⟨d,e⟩|⟨k,d⟩
  ·subst d;subst e;simp[Instr.sliceBounds,g,i]
  ·subst d;have:=EL (P:=P) (w:=w) (kd:=k) (code:=.sliceB) h0 (show Ad U.V l≤(len:Int) by omega)
   simp[Instr.sliceBounds,i,this]
 ·subst a;have m:∀code,(Instr.sliceBound (.int k (Ad U.V u)) cap code).run P w=.ok (Ad U.V u).toNat w:=fun code=>EL (by omega) (by omega)
  rcases j with⟨d,e⟩|⟨p,d⟩
  ·subst d;subst e;simp[Instr.sliceBounds,g,m]
  ·subst d;have:=EL (P:=P) (w:=w) (kd:=p) (code:=.sliceB) h0 (show Ad U.V l≤((Ad U.V u).toNat:Int) by omega)
   simp[Instr.sliceBounds,m,this]
theorem Ep{y l u:SE}:(Ab U.V (.sub y l u)).rows=((Ab U.V y).rows.drop (Ad U.V l).toNat).take ((Ad U.V u).toNat-(Ad U.V l).toNat):=rfl
theorem Me{rows:List D}{l n i:Nat}(hi:i<n):((rows.drop l).take n).getD i default=rows.getD (l+i) default:=by
 rw[F4,F4,List.getElem?_take_of_lt hi,q0]
theorem HR.swap{ρ:Ren}{h:Aa}{w:World}(t:HR ρ h.blk.get w){r:Nat}(hl:h.blk.get r≠none)(x:An)(hx:∀base,ρ r=some base→BR ρ x base w.heap[base.cb]?) :
  HR ρ (h.put r x).blk.get w∧Ext ρ ρ h (h.put r x) w w:=by
 have live:∀b,(h.put r x).blk.get b≠none→h.blk.get b≠none:=by
  intro b l;simp only[Aa.put,T.get_set]at l;by_cases e:r=b
  ·subst e;exact hl
  ·rw[if_neg e]at l;exact l
 refine⟨⟨t.lt,?_,fun b b' c c' al I an l h2=>t.apart b b' c c' al I an (live b l) (live b' h2),t.imm,fun k arr b c hk I l=>t.off k arr b c hk I (live b l),t.glob⟩,
  ⟨Ren.le_refl ρ,R2 _,fun _ _ e=>.inl e,G8.refl w,fun _ _ _=>rfl,⟨[r],rfl,?_⟩,fun b l=>.inl (live b l),fun _ _ e=>.inl e⟩⟩
 ·intro b c y I J;simp only[Aa.put,T.get_set]at J;by_cases e:r=b
  ·subst e;rw[if_pos rfl]at J;cases J;exact hx c I
  ·rw[if_neg e]at J;exact t.blk b c y I J
 ·intro b ar _;simp only[Aa.put,T.get_set];rw[if_neg (fun e=>ar (by simp[e]))]
section
variable {E:Env}(hE:OK E){ρ:Ren}{h:Aa}{w:World}
include hE
theorem Ot(hr:HR ρ h.blk.get w){t:TypeId}{x a:AV}{T:Value}{lo hi:Option AV}{f g:Option Value}{h':Aa}(Z:VR ρ x T)
 (J:∀a,lo=some a→∃v,f=some v∧VR ρ a v)(p:lo=none→f=none)
 (M:∀a,hi=some a→∃v,g=some v∧VR ρ a v)(r:hi=none→g=none)
 (d:QJ E t x lo hi h=some (a,h')):h'=h∧∃v,(Instr.sliceAt t T f g none).run E.P w=.ok v w∧VR ρ a v:=by
 unfold QJ at d;split at d
 ·rename_i e' y;split at d
  ·rename_i e l u hd N O;split at d
   ·rename_i ks hk;split at d
    ·rename_i Q;cases d;refine⟨rfl,?_⟩;obtain⟨c12,c3⟩:=Av Q;obtain⟨c1,c2⟩:=Av c12;have h0:=Ay c1;subst h0;obtain⟨b0,b1,W⟩:=Km c3;have s:U.K e=some ks:=by rw[hE.kd,←hE.ke];exact hk
     have p1:=ES J p N;have p2:=ES M r O;rw[Ar]at W;cases Z with
     |dat _ _ ad n cap A=>
      have I:(Ab U.V y).rows.length=n∧n≤cap:=by
       cases A with
       |nil _ _ k B=>rw[B];exact⟨rfl,R2 _⟩
       |empty _ _ _ _ k B=>rw[B];exact⟨rfl,Aex _⟩
       |slc _ _ _ _ _ _ _ _ _ _ q1 q2=>exact⟨q1,q2⟩
      obtain⟨I,Q⟩:=I;have q:=Hy (P:=E.P) (w:=w) (b:=true) (cap:=cap) p1 p2 rfl (by rw[Ar,I]) b0 b1 (by rw[←I];exact W) Q
      have C:(Instr.sliceAt t (.slice ad n cap) f g none).run E.P w=.ok (.slice (if cap=(Ad U.V l).toNat then ad else ad.map (·.add ((Ad U.V l).toNat*ks.length))) ((Ad U.V u).toNat-(Ad U.V l).toNat) (cap-(Ad U.V l).toNat)) w:=by
       simp[Instr.sliceAt,Instr.slice,hE.run_und hd,q,hE.run_szIs c2]
      refine⟨_,C,?_⟩;refine .dat _ _ _ _ _ ?_;generalize X:(Ad U.V l).toNat=L at *;generalize Y:(Ad U.V u).toNat=H at *;have aa:L≤H:=by omega
      have R:H≤n:=by omega
      have c:(Ab U.V (.sub y l u)).rows.length=H-L:=by
       rw[Ep,X,Y];simp;omega
      cases A with
      |nil _ _ k B=>
       have z:L=0∧H=0:=by omega
       obtain⟨rfl,rfl⟩:=z;simp only[Nat.sub_self,if_true];exact .nil _ _ k (la c)
      |empty _ a1 _ _ k B=>
       have z:L=0∧H=0:=by omega
       obtain⟨rfl,rfl⟩:=z;have m:=la c;split
       ·exact .empty _ _ _ _ k m
       ·exact .empty _ _ _ _ k m
      |slc _ b o _ _ _ ab arr D S ac ae k af F hv=>
       rw[s]at D;cases D;by_cases G:cap=L
       ·rw[if_pos G];have z:H-L=0:=by omega
        rw[z]at c ⊢;exact .empty _ _ _ _ k (la c)
       ·rw[if_neg G];simp only[vx,B2]
        have key:∀i,i<H-L→(Ab U.V (.sub y l u)).rows.getD i default=(Ab U.V y).rows.getD (L+i) default:=by
         intro i hi;rw[Ep,X,Y,Me hi]
        refine .slc _ _ _ _ _ _ ks arr s S c (by omega) k ?_ ?_ ?_
        ·have e1:L*ks.length+(H-L)*ks.length=H*ks.length:=by rw[←Aen];congr 1;omega
         have e2:H*ks.length≤n*ks.length:=ll _ R;omega
        ·intro i hi;rw[key i hi];exact F _ (by omega)
        ·intro i j kd hi hj;rw[key i hi];have:=hv (L+i) j kd (by omega) hj
         rw[show o+L*ks.length+i*ks.length+j=o+(L+i)*ks.length+j by rw[Aen];omega]
         exact this
    ·cases d
   ·cases d
  ·cases d
 ·cases d
theorem OH(J:HR ρ h.blk.get w){t e:TypeId}{b z:Nat}{n nl y l u K:SE}{L:Value}{a d:Option Value}(M:E.desc t=some (.slice e))(c2:E.szIs e z=true)(N:h.blk.get b=some (.arr e y))(S:VR ρ (.asl b z n nl) L)
 (p1:(a=none∧l=.c 0)∨∃k,a=some (.int k (Ad U.V l)))(p2:(d=none∧u=K)∨∃k,d=some (.int k (Ad U.V u)))(B:Ad U.V K=Ad U.V n)(r:Ad U.V l=0)(T:0≤Ad U.V u)(bn:Ad U.V u≤Ad U.V n)(W:Ad U.V u≤Ad U.V (.lenL y)) :
  AY E ρ h (h.put b (.arr e (.sub y (.c 0) u))) w (Instr.sliceAt t L a d none) (.asl b z (.lenL (.sub y (.c 0) u)) nl):=by
 have A:Ad U.V (.lenL (.sub y (.c 0) u))=Ad U.V u:=by
  rw[Ar,Ep];rw[Ar]at W;have:Ad U.V (.c 0)=0:=rfl;rw[this];simp;omega
 have s:∀base,ρ b=some base→BR ρ (.arr e (.sub y (.c 0) u)) base w.heap[base.cb]?:=by
  intro base g;obtain⟨v,C,X,Y,D,F,G,H,m⟩:=J.blk b base _ g N;refine⟨v,C,X,Y,D,F,G,H,?_⟩
  have x:(Ab U.V (.sub y (.c 0) u)).rows.length≤(Ab U.V y).rows.length:=by
   rw[Ep];simp;omega
  have key:∀i,i<(Ab U.V (.sub y (.c 0) u)).rows.length→(Ab U.V (.sub y (.c 0) u)).rows.getD i default=(Ab U.V y).rows.getD i default:=by
   intro i hi;rw[Ep]at hi ⊢;have:Ad U.V (.c 0)=0:=rfl;rw[this]at hi ⊢;rw[Me (by simp at hi;omega)]
   congr 1
   simp
  refine⟨?_,?_,?_⟩
  ·have:=m.1;have:=ll v.length x;omega
  ·intro i hi;rw[key i hi];exact m.2.1 i (by omega)
  ·intro i j kd hi Z;rw[key i hi];exact m.2.2 i j kd (by omega) Z
 obtain⟨O,Q⟩:=J.swap (show h.blk.get b≠none by rw[N];exact F2 _) _ s
 cases S with
 |asl _ _ _ _ cap base g R qc qz I=>
  have q:=Hy (P:=E.P) (w:=w) (b:=true) (len:=(Ad U.V n).toNat) (cap:=cap) p1 p2 rfl (by omega) (by omega) (by omega) (by omega) qc
  rw[r]at q
  have f:(Instr.sliceAt t (.slice (some ⟨base.cb,base.co,none⟩) (Ad U.V n).toNat cap) a d none).run E.P w=.ok (.slice (some ⟨base.cb,base.co,none⟩) (Ad U.V u).toNat cap) w:=by
   simp[Instr.sliceAt,Instr.slice,hE.run_und M,q,hE.run_szIs c2,B2]
  refine⟨ρ,_,w,f,?_,O,Q⟩;have:=VR.asl (ρ:=ρ) b z (.lenL (.sub y (.c 0) u)) nl cap base g (by rw[A];exact T) (by rw[A];omega) qz I
  rw[A]at this;exact this
 |aslEnd _ _ _ _ ad R I=>
  have p:Ad U.V u=0:=by omega
  have q:=Hy (P:=E.P) (w:=w) (b:=true) (len:=0) (cap:=0) p1 p2 rfl (by rw[B,R];rfl) (by omega) (by omega) (by rw[p];exact Ae8 _) (R2 _)
  rw[r,p]at q
  have f:(Instr.sliceAt t (.slice ad 0 0) a d none).run E.P w=.ok (.slice ad 0 0) w:=by
   simp[Instr.sliceAt,Instr.slice,hE.run_und M,q,hE.run_szIs c2]
  exact⟨ρ,_,w,f,.aslEnd _ _ _ _ _ (by rw[A];exact p) I,O,Q⟩
theorem XQ(s:HR ρ h.blk.get w){t:TypeId}{x a:AV}{T:Value}{lo hi mx:Option AV}{z A B:Option Value}{h':Aa}(H:VR ρ x T)
 (i:∀a,lo=some a→∃v,z=some v∧VR ρ a v)(d:lo=none→z=none)
 (j:∀a,hi=some a→∃v,A=some v∧VR ρ a v)(f:hi=none→A=none)
 (N:∀a,mx=some a→∃v,B=some v∧VR ρ a v)(g:mx=none→B=none)
 (O:mx≠none→hi≠none)
 (c:sliceB E t x lo hi mx h=some (a,h')):AY E ρ h h' w (Instr.sliceAt t T z A B) a:=by
 unfold sliceB at c;split at c
 ·have I:=g rfl;subst I;obtain⟨rfl,q⟩:=Ot hE s H i d j f c;exact Bs s q
 ·rename_i y;have I:=g rfl;subst I;split at c
  ·rename_i l u M k m;split at c
   ·rename_i r;cases c;obtain⟨J,C,D⟩:=Km r;have p1:=ES i d k;have p2:=ES j f m;cases H with
    |ss _=>
     refine Bs s ⟨_,?_,.ss (.strSub y l u)⟩;rw[CT]at D;have K:(AR U.V y).size=(AR U.V y).data.toList.length:=by simp
     have q:=Hy (P:=E.P) (w:=w) (b:=false) (len:=(AR U.V y).size) (cap:=(AR U.V y).size) p1 p2 rfl (by rw[CT,K]) J C (by rw[K];exact D) (R2 _)
     have e:AR U.V (.strSub y l u)=(AR U.V y).extract (Ad U.V l).toNat (Ad U.V u).toNat:=rfl;rw[e];simp[Instr.sliceAt,Instr.slice,hE.run_und M,q]
   ·cases c
  ·cases c
 ·rename_i b es n nl;have I:=g rfl;subst I;split at c
  ·rename_i e e' y M W;split at c
   ·rename_i r;obtain⟨c12,c3⟩:=Av r;obtain⟨c1,c2⟩:=Av c12;have h0:=Ay c1;subst h0;have L:=KG c3;split at c
    ·rename_i l u k m;split at c
     ·rename_i F;split at c
      ·rename_i Q;cases c;obtain⟨J,C,D⟩:=Km Q;rw[BE]at J C
       have G:Ad U.V l=0:=by
        cases l<;>simp only[cP]at F<;>first|cases F|skip
        simpa[BE]using F
       exact OH hE s M c2 W H (ES i d k) (ES j f m) L.symm G C (by rw[L];exact D) D
      ·cases c
     ·split at c;rename_i x' h1 Y;obtain⟨Z,g1,X,R⟩:=JU hE s H Y;obtain⟨rfl,v,q1,q2⟩:=Ot hE X g1 (fun a S=>let ⟨v,p,q⟩:=i a S;⟨v,p,q.mono R.le⟩) d (fun a S=>let ⟨v,p,q⟩:=j a S;⟨v,p,q.mono R.le⟩) f c
      exact⟨Z,v,w,q1,q2,X,R⟩
    ·cases c
   ·split at c
    ·rename_i l hv u k m;split at c
     ·rename_i r;cases c;obtain⟨c1,r⟩:=Av r;obtain⟨c2,r⟩:=Av r;obtain⟨F,r⟩:=Av r;obtain⟨c3,c4⟩:=Av r;have h0:=Ay c1;subst h0;obtain⟨J,C,D⟩:=Km c3;obtain⟨_,_,b3⟩:=Km c4;rw[BE]at J C
      have G:Ad U.V l=0:=by
       cases l<;>simp only[cP]at F<;>first|cases F|skip
       simpa[BE]using F
      exact OH hE s M c2 W H (ES i d k) (ES j f m) rfl G C D b3
     ·cases c
    ·cases c
  ·cases c
 ·split at c
  ·rename_i a' hs;cases c
   exact Bs s (XP hE s H (iI i) (Zy d) (iI j) (Zy f) (iI N) (Zy g) (fun q=>by cases hi with
    |none=>exact absurd rfl (O (fun e=>q (by rw[e];rfl)))
    |some a=>simp) hs)
  ·cases c
end
end Go.AE
namespace Go.AE
variable [Gl:AG]
variable [U:Unk]
theorem Hw{b:Ren}{x:AV}{a:Value}{e:SE}(c:VR b x a)(h:Sy x=some e):a=.string (AR U.V e):=by
 cases c<;>simp only[Sy]at h<;>first | (cases h;done)|skip
 ·rename_i s;cases h
  have d:AR U.V (.strc s.data.toList.length (AC s.data.toList))=s:=by
   show(⟨(C9 _ _).toArray⟩:ByteArray)=s;rw[D4 (U:=U)]
  rw[d]
 ·cases h;rfl
theorem JX{d:Ren}{x:AV}{c:Value}{e:SE}(f:VR d x c)(h:My x=some e):c=.bool (Ah U.V e):=by
 cases f
 case bool b=>simp only[My,C2]at h;subst h;rfl
 case sb p a=>
  cases p with
  |true=>
   simp only[My,C2]at h;subst h;have:Ah U.V (.and a (.bc true))=(Ah U.V a&&true):=rfl;rw[this];cases Ah U.V a<;>rfl
  |false=>
   simp only[My,C2]at h;subst h;have:Ah U.V (.neg a)=(!Ah U.V a):=rfl;rw[this];cases Ah U.V a<;>rfl
 all_goals (simp only[My]at h;cases h)
theorem We(a b:SE):Ah U.V (ek a b)=(Ah U.V a&&Ah U.V b):=by
 unfold ek;split
 ·show Ah U.V a=(Ah U.V a&&true);rw[Bool.and_true]
 ·rfl
theorem Wc(a b:SE):Ah U.V (kg a b)=(Ad U.V a==Ad U.V b):=by
 unfold kg;split<;>rfl
theorem Wx(a b:SE):Ah U.V (hQ a b)=(Ah U.V a==Ah U.V b):=by
 show(!((!(Ah U.V a&&Ah U.V b))&&(!((!Ah U.V a)&&(!Ah U.V b)))))=_;cases Ah U.V a<;>cases Ah U.V b<;>rfl
section
variable {E:Env}(hE:OK E){ρ:Ren}{w:World}
include hE
theorem IJ{d:Nat}(ih:∀(t:TypeId)(x y:AV)(r:SE)(j k:Value),Ik E d t x y=some r→VR ρ x j→VR ρ y k→(Op.equalIn d t j k).run E.P w=.ok (Ah U.V r) w)
 {l m:List AV}{c g:List Value}(n:VL ρ l c)(o:VL ρ m g):∀{fs:List Field}{r:SE},Fy E (Ik E d) l m fs=some r→
  (Op.eqFields d c.toArray g.toArray fs).run E.P w=.ok (Ah U.V r) w
 |[],r,h=>by simp only[Fy,C2]at h;subst h;simp only[Op.eqFields,Ts];rfl
 |f::fs,r,h=>by
  simp only[Fy]at h;split at h
  ·cases h
  ·rename_i p;have i:f.name≠ "_":=by simpa using p
   split at h
   ·rename_i a b q s;split at h
    ·rename_i e G u v;cases h;obtain⟨H,z,A⟩:=hE.run_part q n w;obtain⟨I,B,C⟩:=hE.run_part s o w;have D:=ih _ _ _ _ _ _ u A C;have F:=IJ ih n o v;simp only[Op.eqFields,ne_eq,i,not_false_eq_true,if_true,L1,z,B,D,F0,We];cases Ah U.V e with
     |true=>simp only[Bool.not_true,ie,Aey,Aff];exact F
     |false=>simp
    ·cases h
   ·cases h
theorem Li{d:Nat}(ih:∀(t:TypeId)(x y:AV)(r:SE)(g j:Value),Ik E d t x y=some r→VR ρ x g→VR ρ y j→(Op.equalIn d t g j).run E.P w=.ok (Ah U.V r) w)
 {l m:List AV}{c f:List Value}(o:VL ρ l c)(p:VL ρ m f){e:TypeId}{n:Nat}:∀{k i:Nat}{r:SE},GS E (Ik E d) e n l m k i=some r→
  (Op.eqItems d e n c.toArray f.toArray (List.range' i k)).run E.P w=.ok (Ah U.V r) w
 |0,i,r,h=>by simp only[GS,C2]at h;subst h;simp only[List.range'_zero,Op.eqItems,Ts];rfl
 |k+1,i,r,h=>by
  simp only[GS]at h;split at h
  ·rename_i a b q s;split at h
   ·rename_i x y u v;cases h;obtain⟨G,z,A⟩:=hE.run_part q o w;obtain⟨H,B,C⟩:=hE.run_part s p w;have D:=ih _ _ _ _ _ _ u A C;have F:=Li ih o p v;simp only[List.range'_succ,Op.eqItems,L1,z,B,D,F0,We];cases Ah U.V x with
    |true=>simp only[Bool.not_true,ie,Aey,Aff];exact F
    |false=>simp
   ·cases h
  ·cases h
theorem Qc:∀(d:Nat)(t:TypeId)(x y:AV)(r:SE)(s u:Value),Ik E d t x y=some r→VR ρ x s→VR ρ y u→(Op.equalIn d t s u).run E.P w=.ok (Ah U.V r) w:=by
 intro d
 induction d with
 |zero=>intro t x y r s u h;simp[Ik]at h
 |succ d ih=>
  intro t x y r s u h j l;simp only[Ik]at h;split at h
  ·rename_i c;have m:=hE.run_und c w;split at h
   ·rename_i a b n o;cases h;rw[JX j n,JX l o,Wx];simp[Op.equalIn,m]
   ·cases h
  ·rename_i I c;have m:=hE.run_und c w;split at h
   ·rename_i k a D b n o;split at h
    ·rename_i v;cases h;have v:k=D:=by simpa using v
     subst v;rw[Cp j n,Cp l o,Wc];simp[Op.equalIn,m]
    ·cases h
   ·cases h
  ·rename_i c;have m:=hE.run_und c w;split at h
   ·rename_i a b n o;cases h;rw[Hw j n,Hw l o]
    have e:Ah U.V (.eqSS a b)=((AR U.V a).toList==(AR U.V b).toList):=by
     rw[M9,Ct]
    rw[e];simp only[Op.equalIn,L1,m,F0,Ts];rw[beq_toListBytes]
   ·cases h
  ·rename_i fs c;split at h
   ·rename_i F G;split at h
    ·cases h
    ·rename_i H;cases j with
     |agg _ g a1 a2=>
      cases l with
      |agg _ i z A=>
       have f:=hE.und c;have p:E.P.fieldsOf t=fs:=by simp[Program.fieldsOf,f]
       rw[run_equalIn_struct w d t g.toArray i.toArray (by rw[p];exact f) H,p]
       exact IJ hE ih ⟨a1,a2⟩ ⟨z,A⟩ h
   ·cases h
  ·rename_i len e c;split at h
   ·rename_i F G;split at h
    ·rename_i C;cases j with
     |agg _ g a1 a2=>
      cases l with
      |agg _ i z A=>
       unfold Env.has at C;cases hi:E.ty.get e with
       |none=>simp[hi]at C
       |some q=>
        have B:E.P.cellsOf e=E.size e:=by simp[Program.cellsOf,hE.ty e q hi,Env.size,hi]
        rw[run_equalIn_array w d g.toArray i.toArray (hE.und c) (hE.ty e q hi),B,List.range_eq_range'];exact Li hE ih ⟨a1,a2⟩ ⟨z,A⟩ h
    ·cases h
   ·cases h
  ·cases h
theorem Yx{c:BinOp}{t:TypeId}{ox k:Operand}{x y r:AV}{g h:Value}(l:VR ρ x g)(m:VR ρ y h)(a:Ym E c t x y=some r) :
  ∃v,(do eqGuard c t ox k g h;binOp c t g h:Sem Value).run E.P w=.ok v w∧VR ρ r v:=by
 unfold Ym at a;split at a
 ·rename_i z A;split at a
  ·cases a
  ·rename_i j;split at a
   ·rename_i e p;have b:=Qc (w:=w) hE 10000 t _ _ e g h p l m;cases l with
    |agg _ d a1 a2=>
     cases m with
     |agg _ f B C=>
      have n:(eqGuard c t ox k (.agg d.toArray) (.agg f.toArray)).run E.P w=.ok () w:=B5 (by simp) (fun _ _=>j)
      obtain⟨s,u⟩:=Ei t (.agg d.toArray) (.agg f.toArray) (by simp) (by simp) (by simp) (by simp)
      split at a
      ·rename_i q i;cases a;have o:=GU ρ q e;cases c<;>simp only[BN,C2]at i<;>first | (cases i;done)|skip
       ·subst i;refine⟨.bool (Ah U.V e),?_,?_⟩
        ·simp only[L1,n,F0,s,Op.equal,Op.maxDepth,b,Ts]
        ·rwa [show(Ah U.V e==true)=Ah U.V e by cases Ah U.V e<;>rfl]at o
       ·subst i;refine⟨.bool (!Ah U.V e),?_,?_⟩
        ·simp only[L1,n,F0,u,Op.equal,Op.maxDepth,b,Ts]
        ·rwa [show(Ah U.V e == !true) = !Ah U.V e by cases Ah U.V e<;>rfl]at o
      ·cases a
   ·cases a
 ·cases a
theorem j7{t:TypeId}{k key:AV}{d a:Value}{b:Bool}(h:eqK E t k key=some b)(f:VR ρ k d)(g:VR ρ key a):(Op.equal t d a).run E.P w=.ok b w:=by
 unfold eqK at h;split at h
 ·rename_i c i;cases h;exact Uj (w:=w) hE 10000 t k key b d a i f g
 ·split at h
  ·rename_i e j;have:=Qc (w:=w) hE 10000 t k key e d a j f g;rw[Aw U.ok h]at this;exact this
  ·cases h
theorem K3{t:TypeId}{k:AV}{g:Value}(l:VR ρ k g):∀{j:List AA} {c:List MapEntry} {i:Nat} {r:Option (Nat×AV)},ER ρ j c→E9 E t k j i=some r→
  ∃d,FR ρ r d∧(Instr.findAsking t g c i).run E.P w=.ok d w
 |[],[],i,r,_,h=>by
  simp only[E9,C2]at h;subst h;exact⟨none,trivial,by simp[Instr.findAsking]⟩
 |e::j,m::c,i,r,⟨n,o,u,p⟩,h=>by
  simp only[E9]at h;cases f:eqK E t k e.key with
  |none=>simp[f]at h
  |some b=>
   have a:(Op.equal t g m.key).run E.P w=.ok b w:=j7 hE f l n;cases b with
   |true=>
    simp only[f,C2]at h;subst h;exact⟨some (i,m.val),⟨rfl,o⟩,by simp[Instr.findAsking,a]⟩
   |false=>
    simp only[f]at h;obtain⟨d,q,s⟩:=K3 l p h;exact⟨d,q,by simp[Instr.findAsking,a,s]⟩
omit hE in
theorem JN{d:Nat}{t:TypeId}{ds:TypeDesc}(hd:E.desc t=some ds){x y:AV}{e:SE}{b:Bool}{xv yv:Value}(he:Ik E (d+1) t x y=some e)(hb:Ah U.V e=b)(hx:VR ρ x xv)(hy:VR ρ y yv) :
  Instr.sameNow ds xv yv=some b∨∀u v,Instr.sameNow ds u v=none:=by
 simp only[Ik,hd]at he;cases ds with
 |int q=>
  simp only at he;split at he
  ·rename_i k a k' c h1 h2;split at he
   ·rename_i hk;cases he;have hk:k=k':=by simpa using hk
    subst hk;rw[Cp hx h1,Cp hy h2];rw[Wc]at hb;exact .inl (by simp[Instr.sameNow,hb])
   ·cases he
  ·cases he
 |string=>
  simp only at he;split at he
  ·rename_i a c h1 h2;cases he;rw[Hw hx h1,Hw hy h2];rw[M9,Ct]at hb;exact .inl (by simp only[Instr.sameNow];rw[beq_toListBytes,hb])
  ·cases he
 |bool=>
  simp only at he;split at he
  ·rename_i a c h1 h2;cases he;rw[JX hx h1,JX hy h2];rw[Wx]at hb;exact .inl (by simp[Instr.sameNow,hb])
  ·cases he
 |_=>exact .inr (fun u v=>by cases u<;>cases v<;>rfl)
omit hE in
theorem Rp{t:TypeId}{ds:TypeDesc}(hd:E.desc t=some ds){x y:AV}{b:Bool}{xv yv:Value}(ha:eqK E t x y=some b)(hx:VR ρ x xv)(hy:VR ρ y yv) :
  Instr.sameNow ds xv yv=some b∨∀u v,Instr.sameNow ds u v=none:=by
 unfold eqK at ha;split at ha
 ·rename_i c hc;cases ha;exact M6 (d:=9999) hd hc hx hy
 ·split at ha
  ·rename_i e he;have hb:=Aw U.ok ha;exact JN (d:=9999) hd he hb hx hy
  ·cases ha
omit hE in
theorem Lc{t:TypeId}{ds:TypeDesc}(hd:E.desc t=some ds){k:AV}{kv:Value}(hk:VR ρ k kv)(hq:¬∀u v,Instr.sameNow ds u v=none):∀{es:List AA} {es':List MapEntry} {i:Nat} {r:Option (Nat×AV)},ER ρ es es'→E9 E t k es i=some r→
  ∃r',FR ρ r r'∧Instr.findNow ds kv es' i=some r'
 |[],[],i,r,_,h=>by
  simp only[E9,C2]at h;subst h;exact⟨none,trivial,rfl⟩
 |e::es,e'::es',i,r,⟨h1,h2,h3,h4⟩,h=>by
  simp only[E9]at h;cases ha:eqK E t k e.key with
  |none=>simp[ha]at h
  |some b=>
   have hs:Instr.sameNow ds kv e'.key=some b:=(Rp hd ha hk h1).resolve_right hq;cases b with
   |true=>
    simp only[ha,C2]at h;subst h;exact⟨some (i,e'.val),⟨rfl,h2⟩,by simp[Instr.findNow,hs]⟩
   |false=>
    simp only[ha]at h;obtain⟨r',q1,q2⟩:=Lc hd hk hq h4 h;exact⟨r',q1,by simp[Instr.findNow,hs,q2]⟩
theorem KZ{t:TypeId}{ds:TypeDesc}(hd:E.desc t=some ds){k:AV}{kv:Value}(hk:VR ρ k kv){es:List AA}{es':List MapEntry}{r:Option (Nat×AV)}(he:ER ρ es es')(h:E9 E t k es 0=some r) :
  ∃r',FR ρ r r'∧(Instr.findKey t kv es').run E.P w=.ok r' w:=by
 by_cases hq:∀u v,Instr.sameNow ds u v=none
 ·cases es' with
  |nil=>
   cases es with
   |nil=>
    simp only[E9,C2]at h;subst h;exact⟨none,trivial,by simp[Instr.findKey,hE.run_und hd,Instr.findNow]⟩
   |cons e es=>cases he
  |cons e' es'=>
   obtain⟨r',q1,q2⟩:=K3 (w:=w) hE hk he h;exact⟨r',q1,by simp[Instr.findKey,hE.run_und hd,Instr.findNow,hq,q2]⟩
 ·obtain⟨r',q1,q2⟩:=Lc hd hk hq he h;exact⟨r',q1,by simp[Instr.findKey,hE.run_und hd,q2]⟩
end
end Go.AE
namespace Go.AE
variable [Gl:AG]
section
variable [U:Unk]
theorem ZD(V:Val):∀e:SE,Ah V e=(LZ e).all (Ah V):=by
 intro e
 induction e with
 |and a b c d=>
  show(Ah V a&&Ah V b)=(LZ a++LZ b).all (Ah V);rw[List.all_append,←c,←d]
 |bc b=>
  cases b with
  |true=>rfl
  |false=>rfl
 |_=>simp[LZ]
theorem Nl:∀{l m:List SE},Lw l m=true→l=m
 |[],[],_=>rfl
 |a::l,b::m,h=>by
  simp only[Lw]at h;obtain⟨c,d⟩:=Av h;rw[SE.same_eq c,Nl d]
 |[],_::_,h=>by cases h
 |_::_,[],h=>by cases h
theorem OS(l b a c:Nat):strEq l b a c=strEq a c l b:=by
 simp only[strEq];rw[Bool.eq_iff_iff];simp only[F9,Nat.beq_eq];constructor<;>(rintro ⟨rfl,rfl⟩;exact⟨rfl,rfl⟩)
theorem C6{b:Type}{a:b}{l:List b}{d:b}(q:Nat):(a::l).getD (q+1) d=l.getD q d:=by
 simp[F4]
theorem Oc{b:Type}{a:b}{l:List b}{d:b}:(a::l).getD 0 d=a:=rfl
theorem Sp(V:Val):∀(ks:List Kd)(i j:Nat)(c1 c2:List D),Kv ks=true→ks.length≤c1.length→ks.length≤c2.length→(∀q,q<ks.length→V.d (j+q)=c1.getD q default)→(∀q,q<ks.length→V.d (i+q)=c2.getD q default)→
  (Vc i j ks).all (Ah V)=Ea ks c1 c2
 |[],i,j,c1,c2,_,_,_,_,_=>by cases c1<;>cases c2<;>rfl
 |k::ks,i,j,[],c2,_,h,_,_,_=>by simp at h
 |k::ks,i,j,_::_,[],_,_,h,_,_=>by simp at h
 |k::ks,i,j,a::c1,b::c2,c,p,r,n,o=>by
  have f:V.d j=a:=by have:=n 0 (by simp);simpa using this
  have g:V.d i=b:=by have:=o 0 (by simp);simpa using this
  have l:=fun m=>Sp V ks (i+1) (j+1) c1 c2 m (by simpa using p) (by simpa using r)
   (fun q s=>by have:=n (q+1) (by simp;omega);rw[C6]at this;rw[←this];congr 1;omega)
   (fun q s=>by have:=o (q+1) (by simp;omega);rw[C6]at this;rw[←this];congr 1;omega)
  simp only[Vc,List.all_cons];cases k with
  |int k=>
   rw[l c];show(((V.d i).toInt==(V.d j).toInt)&&_)=((a.toInt==b.toInt)&&_);rw[f,g,Bool.beq_comm]
  |bool=>
   rw[l c]
   have:Ah V (iZ i j .bool)=(a.toBool==b.toBool):=by
    show(!((!(((V.d i).toBool&&true)&&((V.d j).toBool&&true)))&&(!((!((V.d i).toBool&&true))&&(!((V.d j).toBool&&true))))))=_;rw[f,g];cases a.toBool<;>cases b.toBool<;>rfl
   rw[this];rfl
  |str=>
   rw[l c]
   have:Ah V (iZ i j .str)=D.strEq a b:=by
    show strEq (V.d i).toStr.data.toList.length (AC (V.d i).toStr.data.toList) (V.d j).toStr.data.toList.length (AC (V.d j).toStr.data.toList)=_;rw[f,g,OS];rfl
   rw[this];rfl
  |slice e=>simp[Kv]at c
theorem dz{ρ:Ren}{j:Nat}{kd:Kd}{v:Value}{K:TypeId→Option (List Kd)}{M:Nat→Option (Array Value)}(h:DV K M kd v (U.V.d j)):VR ρ (pC j kd) v:=by
 cases h with
 |int k n _ a e=>
  have:Ad U.V (.var j)=n:=e;rw[←this];exact .si k (.var j)
 |bool b _ e=>
  have:Ah U.V (.var j)=b:=e;have q:=VR.sb (ρ:=ρ) true (.var j);rw[this,show(b==true)=b by cases b<;>rfl]at q
  exact q
 |str s _ e=>
  have:AR U.V (.var j)=s:=e;rw[←this];exact .ss (.var j)
 |_=>exact .top _
theorem M3{a:Ren}{K:TypeId→Option (List Kd)}{M:Nat→Option (Array Value)}:∀(ks:List Kd)(j:Nat)(l:List Value),l.length=ks.length→(∀q kd,ks[q]?=some kd→DV K M kd (l.getD q Go.undef) (U.V.d (j+q)))→VL a (N0 j ks) l
 |[],j,[],_,_=>VL.nil a
 |k::ks,j,v::l,h,g=>by
  refine VL.cons (dz (g 0 k rfl)) (M3 (K:=K) (M:=M) ks (j+1) l (by simpa using h) fun q kd b=>?_)
  have:=g (q+1) kd (by simpa using b)
  rw[C6]at this
  rwa [show j+(q+1)=j+1+q by omega]at this
theorem QB{ρ:Ren}{l:List AV}{c:List Value}(h:VL ρ l c):VR ρ (N7 l) (Vk c):=by
 cases l with
 |nil=>
  have:=h.nil_inv;subst this;exact .agg [] [] h.1 h.2
 |cons a l=>
  obtain⟨v,r,rfl,e,d⟩:=h.cons_inv;cases l with
  |nil=>
   have:=d.nil_inv;subst this;exact e
  |cons b l=>
   obtain⟨f,g,rfl,_,_⟩:=d.cons_inv;exact .agg _ _ h.1 h.2
theorem WH{K:TypeId→Option (List Kd)}{M:Nat→Option (Array Value)}:∀(ks:List Kd)(c l2:List Value)(c1 c2:List D),Kv ks=true→c.length=ks.length→l2.length=ks.length→(∀(j:Nat) kd,ks[j]?=some kd→DV K M kd (c.getD j Go.undef) (c1.getD j default))→(∀(j:Nat) kd,ks[j]?=some kd→DV K M kd (l2.getD j Go.undef) (c2.getD j default))→
  Ea ks c1 c2=true→c=l2
 |[],[],[],_,_,_,_,_,_,_,_=>rfl
 |k::ks,v::c,u::l2,[],c2,d,r,f,o,p,h=>by cases k<;>simp[Ea]at h
 |k::ks,v::c,u::l2,_::_,[],d,r,f,o,p,h=>by cases k<;>simp[Ea]at h
 |k::ks,v::c,u::l2,a::c1,b::c2,d,r,f,o,p,h=>by
  have s:=fun t z=>WH ks c l2 c1 c2 t (by simpa using r) (by simpa using f)
   (fun q kd w=>by have:=o (q+1) kd (by simpa using w);rwa [C6,C6]at this)
   (fun q kd w=>by have:=p (q+1) kd (by simpa using w);rwa [C6,C6]at this) z
  have d1:=o 0 k rfl;have d2:=p 0 k rfl;simp only[Oc]at d1 d2;cases k with
  |slice e=>simp[Kv]at d
  |int k=>
   simp only[Ea]at h;obtain⟨g,i⟩:=Av h;rw[s d i];cases d1 with
   |int _ x _ _ l=>
    cases d2 with
    |int _ y _ _ m=>
     have:a.toInt=b.toInt:=by simpa using g
     rw[l,m]at this;rw[this]
  |bool=>
   simp only[Ea]at h;obtain⟨g,i⟩:=Av h;rw[s d i];cases d1 with
   |bool x _ l=>
    cases d2 with
    |bool y _ m=>
     have:a.toBool=b.toBool:=by simpa using g
     rw[l,m]at this;rw[this]
  |str=>
   simp only[Ea]at h;obtain⟨g,i⟩:=Av h;rw[s d i];cases d1 with
   |str x _ l=>
    cases d2 with
    |str y _ m=>
     have:a.toStr.toList=b.toStr.toList:=by
      have n:strEq a.toStr.data.toList.length (AC a.toStr.data.toList) b.toStr.data.toList.length (AC b.toStr.data.toList)=true:=g;rw[Ct]at n;simpa using n
     have f:a.toStr=b.toStr:=by
      rw[ByteArray.toList_eq,ByteArray.toList_eq]at this;exact ByteArray.ext (Array.toList_inj.1 this)
     rw[l,m]at f;rw[f]
theorem gV{E:Env}(hE:OK E){m:Ren}{w:World}{j:TypeId}{ks:List Kd}(k:Hq E j ks=true){a b:Value}{c1 c2:List D}{K:TypeId→Option (List Kd)}{M:Nat→Option (Array Value)}(y:KV K M ks a c1)(z:KV K M ks b c2)
 (A:ks.length≤c1.length)(B:ks.length≤c2.length)(c:∀q,q<ks.length→U.V.d (0+q)=c1.getD q default)(f:∀q,q<ks.length→U.V.d (ks.length+q)=c2.getD q default) :
  (Op.equal j b a).run E.P w=.ok (Ea ks c1 c2) w∧(∀l,E.desc j=some l→Instr.sameNow l b a=some (Ea ks c1 c2)∨∀u v,Instr.sameNow l u v=none)∧(Ea ks c1 c2=true→a=b):=by
 unfold Hq at k;split at k
 ·rename_i e n;obtain⟨o,C⟩:=Av k
  have g:Ah U.V e=Ea ks c1 c2:=by
   rw[ZD,Nl C];exact Sp U.V ks ks.length 0 c1 c2 o A B c f
  obtain⟨p,a1,a2,a3,a4⟩:=y;obtain⟨l2,r,s,b3,b4⟩:=z;have lt:∀{q:Nat}{kd:Kd},ks[q]?=some kd→q<ks.length:=fun h=>(L2.1 h).1
  have t:VR m (N7 (N0 0 ks)) a:=by
   rw[a1];exact QB (M3 (K:=K) (M:=M) ks 0 p a2 fun q kd i=>by rw[c q (lt i)];exact a4 q kd i)
  have x:VR m (N7 (N0 ks.length ks)) b:=by
   rw[r];exact QB (M3 (K:=K) (M:=M) ks ks.length l2 s fun q kd i=>by rw[f q (lt i)];exact b4 q kd i)
  refine⟨?_,?_,?_⟩
  ·have:=Qc (w:=w) hE 10000 j _ _ e b a n x t;rw[g]at this;exact this
  ·intro l F;exact JN (d:=9999) F n g x t
  ·intro G;rw[a1,r,WH ks p l2 c1 c2 o a2 s a4 b4 G]
 ·cases k
@[reducible] def pL(U:Unk)(n:Nat)(c1 c2:List D):Unk where
 facts:=[]
 V:={d:=fun i=>if i<n then c1.getD i default else c2.getD (i-n) default,fn:=U.V.fn}
 K:=U.K
 R:=U.R
 hR:=U.hR
 ok:=by intro e b h;cases h
theorem Zs{E:Env}(hE:OK E){w:World}{c:TypeId}{ks:List Kd}(e:Hq E c ks=true){a b:Value}{c1 c2:List D}{K:TypeId→Option (List Kd)}{M:Nat→Option (Array Value)}(f:KV K M ks a c1)(g:KV K M ks b c2)
 (h:ks.length≤c1.length)(i:ks.length≤c2.length) :
  (Op.equal c b a).run E.P w=.ok (Ea ks c1 c2) w∧(∀d,E.desc c=some d→Instr.sameNow d b a=some (Ea ks c1 c2)∨∀u v,Instr.sameNow d u v=none)∧(Ea ks c1 c2=true→a=b):=by
 refine @gV _ (pL U ks.length c1 c2) E (@OK.mk _ (pL U ks.length c1 c2) E hE.ty hE.fn hE.num hE.clone hE.ixb hE.cnt hE.mixed hE.kd hE.ke hE.gl hE.ox) {m:=fun _=>none,imm:=fun _=>none} w c ks e a b c1 c2 K M f g h i ?_ ?_
 ·intro q j;show(if 0+q<ks.length then c1.getD (0+q) default else _)=_
  rw[if_pos (by omega),s0]
 ·intro q j;show(if ks.length+q<ks.length then _ else c2.getD (ks.length+q-ks.length) default)=_
  rw[if_neg (by omega),Ae9]
def Lo(ks:List Kd)(k:List D):List MapEntry→List D→Nat→Option (Nat×Value)
 |e::a,r::b,i=>match Ea ks r.cells k with
  |true=>some (i,e.val)
  |false=>Lo ks k a b (i+1)
 |_,_,_=>none
section
variable {E:Env}(hE:OK E){w:World}{kt:TypeId}{ks vks:List Kd}(ht:Hq E kt ks=true){K:TypeId→Option (List Kd)}{M:Nat→Option (Array Value)}{kv:Value}{k:List D}(hk:KV K M ks kv k)(hkl:ks.length≤k.length)
include hE ht hk hkl w
theorem La:∀{a:List MapEntry}{b:List D}{i:Nat},Bo K M ks vks a b→(Instr.findAsking kt kv a i).run E.P w=.ok (Lo ks k a b i) w
 |[],[],i,_=>by simp[Instr.findAsking,Lo]
 |e::a,r::b,i,⟨g,c,j,d⟩=>by
  obtain⟨q,_,_⟩:=Zs (w:=w) hE ht c hk (by omega) hkl
  have f:=La (i:=i+1) d;simp only[Instr.findAsking,Lo,L1,q,F0];cases Ea ks r.cells k with
  |true=>simp
  |false=>simpa using f
 |[],_::_,_,h=>h.elim
 |_::_,[],_,h=>h.elim
theorem Lg{a:TypeDesc}(d:E.desc kt=some a)(f:¬∀u v,Instr.sameNow a u v=none):∀{b:List MapEntry}{c:List D}{i:Nat},Bo K M ks vks b c→Instr.findNow a kv b i=some (Lo ks k b c i)
 |[],[],i,_=>rfl
 |e::b,r::c,i,⟨m,g,n,j⟩=>by
  obtain⟨_,q,_⟩:=Zs (w:=w) hE ht g hk (by omega) hkl
  have s:=(q a d).resolve_right f;have l:=Lg d f (i:=i+1) j;simp only[Instr.findNow,Lo,s];cases Ea ks r.cells k with
  |true=>rfl
  |false=>exact l
 |[],_::_,_,h=>h.elim
 |_::_,[],_,h=>h.elim
theorem GJ{d:TypeDesc}(b:E.desc kt=some d){a:List MapEntry}{c:List D}(h:Bo K M ks vks a c):(Instr.findKey kt kv a).run E.P w=.ok (Lo ks k a c 0) w:=by
 by_cases f:∀u v,Instr.sameNow d u v=none
 ·cases a with
  |nil=>cases c with
   |nil=>simp[Instr.findKey,hE.run_und b,Instr.findNow,Lo]
   |cons _ _=>exact h.elim
  |cons e a=>simp[Instr.findKey,hE.run_und b,Instr.findNow,f,La (w:=w) hE ht hk hkl h]
 ·simp[Instr.findKey,hE.run_und b,Lg (w:=w) hE ht hk hkl b f h]
end
omit U in
theorem Hk{ks vks:List Kd}{K:TypeId→Option (List Kd)}{M:Nat→Option (Array Value)}{k:List D}:∀{es:List MapEntry}{rs:List D}(i:Nat),Bo K M ks vks es rs→
  (Lo ks k es rs i=none∧Fh ks k rs i = -1)∨∃n e r,Lo ks k es rs i=some (i+n,e.val)∧Fh ks k rs i=((i+n:Nat):Int)∧es[n]?=some e∧rs[n]?=some r∧Ea ks r.cells k=true
 |[],[],i,_=>.inl ⟨rfl,rfl⟩
 |e::es,r::rs,i,⟨h1,h2,h3,h4⟩=>by
  simp only[Lo,Fh];cases hk:Ea ks r.cells k with
  |true=>exact .inr ⟨0,e,r,by simp,by simp,rfl,rfl,hk⟩
  |false=>
   rcases Hk (k:=k) (i+1) h4 with⟨a,b⟩|⟨n,e',r',a,b,c,d,f⟩
   ·exact .inl ⟨a,b⟩
   ·exact .inr ⟨n+1,e',r',by show Lo ks k es rs (i+1)=_;rw[a,show i+1+n=i+(n+1) by omega],by show Fh ks k rs (i+1)=_;rw[b,show i+1+n=i+(n+1) by omega],by simpa using c,by simpa using d,f⟩
 |[],_::_,_,h=>h.elim
 |_::_,[],_,h=>h.elim
omit U in
theorem Bo.get{ks vks:List Kd}{K:TypeId→Option (List Kd)}{M:Nat→Option (Array Value)}:∀{es:List MapEntry}{rs:List D}{n:Nat}{e:MapEntry}{r:D},Bo K M ks vks es rs→es[n]?=some e→rs[n]?=some r→
  r.cells.length=ks.length+vks.length∧KV K M ks e.key r.cells∧KV K M vks e.val (r.cells.drop ks.length)
 |e::es,r::rs,0,e',r',⟨h1,h2,h3,h4⟩,g1,g2=>by
  simp only[gy,C2]at g1 g2;subst g1;subst g2;exact⟨h1,h2,h3⟩
 |e::es,r::rs,n+1,e',r',⟨h1,h2,h3,h4⟩,g1,g2=>h4.get (by simpa using g1) (by simpa using g2)
 |[],[],n,_,_,_,g1,_=>by simp at g1
 |[],_::_,_,_,_,h,_,_=>h.elim
 |_::_,[],_,_,_,h,_,_=>h.elim
omit U in
theorem Bo.push{ks vks:List Kd}{K:TypeId→Option (List Kd)}{M:Nat→Option (Array Value)}{x:MapEntry}{y:D}(h1:y.cells.length=ks.length+vks.length)(h2:KV K M ks x.key y.cells)(h3:KV K M vks x.val (y.cells.drop ks.length)):∀{es:List MapEntry}{rs:List D},Bo K M ks vks es rs→Bo K M ks vks (es++[x]) (rs++[y])
 |[],[],_=>⟨h1,h2,h3,trivial⟩
 |e::es,r::rs,⟨g1,g2,g3,g4⟩=>⟨g1,g2,g3,Bo.push h1 h2 h3 g4⟩
 |[],_::_,h=>h.elim
 |_::_,[],h=>h.elim
omit U in
theorem Bo.change{ks vks:List Kd}{K:TypeId→Option (List Kd)}{M:Nat→Option (Array Value)}{x:MapEntry}{y:D}(h1:y.cells.length=ks.length+vks.length)(h2:KV K M ks x.key y.cells)(h3:KV K M vks x.val (y.cells.drop ks.length)):∀{es es':List MapEntry}{rs rs':List D}(n:Nat),Bo K M ks vks es rs→es'.length=es.length→rs'.length=rs.length→
  (∀q,q≠n→es'[q]?=es[q]?)→(∀q,q≠n→rs'[q]?=rs[q]?)→(n<es.length→es'[n]?=some x)→(n<rs.length→rs'[n]?=some y)→Bo K M ks vks es' rs'
 |[],[],[],[],n,_,_,_,_,_,_,_=>trivial
 |e::es,e'::es',r::rs,r'::rs',0,⟨g1,g2,g3,g4⟩,l1,l2,a1,a2,a3,a4=>by
  have b1:=a3 (by simp)
  have b2:=a4 (by simp)
  simp only[gy,C2]at b1 b2;subst b1;subst b2;have c1:es'=es:=List.ext_getElem? fun q=>by have:=a1 (q+1) (by omega);simpa using this
  have c2:rs'=rs:=List.ext_getElem? fun q=>by have:=a2 (q+1) (by omega);simpa using this
  rw[c1,c2];exact⟨h1,h2,h3,g4⟩
 |e::es,e'::es',r::rs,r'::rs',n+1,⟨g1,g2,g3,g4⟩,l1,l2,a1,a2,a3,a4=>by
  have b1:=a1 0 (by omega)
  have b2:=a2 0 (by omega)
  simp only[gy,C2]at b1 b2;subst b1;subst b2
  exact⟨g1,g2,g3,Bo.change h1 h2 h3 n g4 (by simpa using l1) (by simpa using l2) (fun q hq=>by have:=a1 (q+1) (by omega);simpa using this) (fun q hq=>by have:=a2 (q+1) (by omega);simpa using this)
   (fun hn=>by have:=a3 (by simp;omega);simpa using this) (fun hn=>by have:=a4 (by simp;omega);simpa using this)⟩
 |[],_::_,_,_,_,_,l1,_,_,_,_,_=>by simp at l1
 |_::_,[],_,_,_,_,l1,_,_,_,_,_=>by simp at l1
 |[],[],_::_,_,_,h,_,_,_,_,_,_=>h.elim
 |[],[],[],_::_,_,_,_,l2,_,_,_,_=>by simp at l2
 |_::_,_::_,[],_,_,h,_,_,_,_,_,_=>h.elim
 |_::_,_::_,_::_,[],_,_,_,l2,_,_,_,_=>by simp at l2
end
end Go.AE

