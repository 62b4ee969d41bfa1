/- What is proved here: an evaluator of the model's steps that the kernel can run, and that whatever it answers is what the model does (part 3 of 7: AeDat1, AeDat2, AeDat3, AeDat4, AeFrz, AeDat5, AeSlc, AeEqS, AeMap). Conditions: those that each theorem states; they hold of no one program. -/
import Derived.Test.YtojjaeaohjlfnaaGreatBeB
import Derived.Laws.BytesString
set_option linter.unusedVariables false
set_option linter.unusedSectionVars false
set_option linter.unusedSimpArgs false
namespace Go.AE
variable [Gl:AC]
variable [U:Unk]
theorem Ly {e:SB} (h:Nl e=true):Ah U.V e=true:=by
 unfold Nl at h;split at h
 ·rename_i a;exact Av U.ok a
 ·cases h
theorem Lm {e:SB} (h:WH e=true):Ah U.V e=false:=by
 unfold WH at h;split at h
 ·rename_i a;exact Av U.ok a
 ·cases h
theorem Ks {i n:SE} (h:inR i n=true):0≤Ac U.V i∧Ac U.V i<Ac U.V n:=by
 unfold inR at h;obtain ⟨c,d⟩:=Au h;have a:=Lm c;have b:=Ly d;rw [Ay,tl,B0] at a;rw [Ay,ll] at b;omega
theorem N1 {ρ:Ren} {x i:SE} {j:Nat} {kd:Kd} {v:Value} (h:DV U.K ρ.imm kd v (Ab U.V (.cell x i j))):VR ρ (Qr x i j kd) v:=by
 cases h with
 |int k n _ p e=>
  have e:Ac U.V (.cell x i j)=n:=e;simp only [Qr];split
  ·have:=Cb ρ k (.cell x i j);rw [e] at this;exact this
  ·rename_i g;have o:=p.resolve_left (by simpa using g)
   have:=Cb ρ k (.conv k (.cell x i j));rw [LV,e,GY k n o.1 o.2] at this;exact this
 |bool b _ e=>
  have:=GV ρ true (.cell x i j);have e:(Ah U.V (.cell x i j)==true)=b:=by unfold Ah;rw [e];cases b<;>rfl
  rw [e] at this;exact this
 |str s _ e=>
  have:=VR.ss (ρ:=ρ) (.cell x i j);have e:AT U.V (.cell x i j)=s:=e;rw [e] at this;exact this
 |nil e _ d l=>exact .dat e _ _ _ _ (.nil e _ d l)
 |empty e a c _ d l=>exact .dat e _ _ _ _ (.empty e a c _ d l)
 |slc e b off n c _ ks arr g q r t d m f u=>exact .dat e _ _ _ _ (.slc e b off n c _ ks arr g q r t d m f u)
omit U in
theorem kinds_size {E:Env} {ar:Bool} {n:Nat} {t:TypeId} {ks:List Kd} (h:DZ ar E.desc E.szIs n t=some ks):E.szIs t ks.length=true∧∃m,n=m+1∧JY ar E.szIs (DZ ar E.desc E.szIs m) (E.desc t)=some ks:=by
 cases n with
 |zero=>cases h
 |succ m=>
  simp only [DZ] at h;split at h
  ·rename_i l hl;split at h
   ·rename_i hs;cases h;exact ⟨hs,m,rfl,hl⟩
   ·cases h
  ·cases h
omit U in
theorem Env.kinds_size {E:Env} {t:TypeId} {ks:List Kd} (h:E.kinds t=some ks):E.szIs t ks.length=true:=(AE.kinds_size h).1
omit U in
theorem DV.at {K:TypeId→Option (List Kd)} {M:Nat→Option (Array Value)} {e:TypeId} {a:Option Addr} {n cap:Nat} {d:D} (h:DV K M (.slice e) (.slice a n cap) d) (hn:0<n):∃b o,a=some ⟨b,o,none⟩∧n≤cap:=by
 cases h
 ·omega
 ·omega
 ·exact ⟨_,_,rfl,by assumption⟩
omit U in
theorem DV.row {K:TypeId→Option (List Kd)} {M:Nat→Option (Array Value)} {e:TypeId} {b o n cap i:Nat} {d:D} {ks:List Kd} (h:DV K M (.slice e) (.slice (some ⟨b,o,none⟩) n cap) d) (hk:K e=some ks) (hi:i<n) :
  ∃arr,M b=some arr∧o+n*ks.length≤arr.size∧d.rows.length=n∧∀j kd,ks[j]?=some kd→DV K M kd (arr.getD (o+i*ks.length+j) Go.undef) ((d.rows.getD i default).cells.getD j default):=by
 cases h with
 |empty=>omega
 |slc _ _ _ _ _ _ ks' arr hk' ha hn hc h1 hin hrow hv=>
  rw [hk] at hk';cases hk';exact ⟨arr,ha,hin,hn,fun j kd hj=>hv i j kd hi hj⟩
omit U in
theorem Br.row {K:TypeId→Option (List Kd)} {M:Nat→Option (Array Value)} {ks:List Kd} {cur:Array Value} {o i:Nat} {rows:List D} (h:Br K M ks cur o rows) (hi:i<rows.length) :
  o+rows.length*ks.length≤cur.size∧∀j kd,ks[j]?=some kd→DV K M kd (cur.getD (o+i*ks.length+j) Go.undef) ((rows.getD i default).cells.getD j default):=
 ⟨h.1,fun j kd hj=>h.2.2 i j kd hi hj⟩
section
variable {E:Env} (hE:OK E) {ρ:Ren} {h:Aa} {w:World}
include hE
omit hE in
theorem Il {ks:List Kd} {y i:SE} {arr:Array Value} {p:Nat} (hv:∀j kd,ks[j]?=some kd→DV U.K ρ.imm kd (arr.getD (p+j) Go.undef) (Ab U.V (.cell y i j))) :
  ∀(n j:Nat) (l:List AV),Hj y i ks j n=some l→(n=0∨j+n≤ks.length)∧l.length=n∧∀q a,l[q]?=some a→VR ρ a (arr.getD (p+j+q) Go.undef)
 |0,j,l,hl=>by
  simp only [Hj,C2] at hl;subst hl;exact ⟨.inl rfl,rfl,fun q a hq=>by simp at hq⟩
 |n+1,j,l,hl=>by
  simp only [Hj] at hl;split at hl
  ·rename_i k l' hk hl';cases hl;obtain ⟨h1,h2,h3⟩:=Il hv n (j+1) l' hl';have hjl:j<ks.length:=(Id.1 hk).1;refine ⟨.inr (by omega),by simp [h2],fun q a hq=>?_⟩
   cases q with
   |zero=>
    simp only [No,C2] at hq;subst hq;exact N1 (hv j k hk)
   |succ q=>
    simp only [eq] at hq;have:=h3 q a hq;rw [show p+j+(q+1)=p+(j+1)+q by omega]
    exact this
  ·cases hl
theorem LY {t e:TypeId} {ks:List Kd} {y i:SE} {off b p:Nat} {u:Nat×Nat} {arr:Array Value} {a:AV} (z:w.heap[b]?=some (.cells arr e u)) (B:p+ks.length≤arr.size)
  (hv:∀j kd,ks[j]?=some kd→DV U.K ρ.imm kd (arr.getD (p+j) Go.undef) (Ab U.V (.cell y i j))) (hl:LB E t ks y i off=some a) :
  ∃v,(Instr.loadAt t (.pointer (some ⟨b,p+off,none⟩))).run E.P w=.ok v w∧VR ρ a v:=by
 unfold LB at hl;split at hl
 ·rename_i d A;unfold Instr.loadAt loadVar;simp only [Instr.sureAddr,F9,LE,E1,hE.run_isAgg A];split at hl
  ·rename_i c;split at hl
   ·rename_i l hc;cases hl;obtain ⟨h1,h2,h3⟩:=Il hv _ _ _ hc;simp only [c,if_true,F9,hE.run_size A,E1];by_cases g:E.size t=0
    ·rw [g];refine ⟨.agg #[],by simp [loadCells,loadCellsFrom],?_⟩
     have:l=[]:=by rw [g] at h2;exact ie h2
     subst this;exact .agg [] [] rfl (by simp)
    ·have C:off+E.size t≤ks.length:=h1.resolve_left g;rw [AU E.P w b (p+off) (E.size t) arr e u z (by omega)]
     simp only [E1,LE];refine ⟨_,rfl,.agg _ _ (by simp;omega) ?_⟩
     intro q x v hq f;have r:q<E.size t:=by have:=(Id.1 hq).1;omega
     have:=h3 q x hq;rw [pi,if_pos r,l0,lv] at f;have F:arr.getD (p+off+q) Go.undef=v:=by simp [L1,f]
     rw [F] at this;exact this
   ·cases hl
  ·rename_i c;split at hl
   ·rename_i k hk;cases hl;have G:off<ks.length:=(Id.1 hk).1;have s:p+off<arr.size:=by omega
    have hc:w.cell? ⟨b,p+off,none⟩=some (arr.getD (p+off) Go.undef):=by
     simp [World.cell?,z,L1,s]
    simp only [c,ei,ws,run_load,hc];exact ⟨_,rfl,N1 (hv off k hk)⟩
   ·cases hl
 ·cases hl
theorem XZ (A:HR ρ h.blk.get w) {t:TypeId} {x a:AV} {R:Value} (B:VR ρ x R) (hl:VJ E t x h=some a) :
  ∃v,(Instr.loadAt t R).run E.P w=.ok v w∧VR ρ a v:=by
 unfold VJ at hl;split at hl
 ·rename_i e y i off;split at hl
  ·rename_i ks hk;cases B with
   |dptr _ _ _ _ b o n cap ks' C hk' S hi ho=>
    have c:U.K e=some ks:=by rw [hE.kd,←hE.ke];exact hk
    rw [c] at hk';cases hk';obtain ⟨arr,a1,a2,a3,a4⟩:=C.row c hi;obtain ⟨H,I,J⟩:=A.imm b arr a1;have f:((Ac U.V i).toNat+1)*ks.length≤n*ks.length:=iv _ hi;rw [q0,Nat.one_mul] at f;exact LY hE (p:=o+(Ac U.V i).toNat*ks.length) J (by omega) a4 hl
  ·cases hl
 ·rename_i b es i off;split at hl
  ·rename_i e y L;split at hl
   ·rename_i ks hk;split at hl
    ·rename_i hc;obtain ⟨c1,c2⟩:=Au hc;have r:=Ax c1;subst r;obtain ⟨r0,T⟩:=Ks c2
     try rw [Aq,CQ,←Aq] at T
     rw [Aq] at T;cases B with
     |aptr _ _ _ _ base s S=>
      obtain ⟨ks',cur,H,I,F,N,b3,b4,W⟩:=A.blk b base _ s L;have c:U.K e=some ks:=by rw [hE.kd,←hE.ke];exact hk
      rw [c] at F;cases F;have hi:(Ac U.V i).toNat<(Ab U.V y).rows.length:=by omega
      obtain ⟨a2,a4⟩:=W.row hi;have f:((Ac U.V i).toNat+1)*ks.length≤(Ab U.V y).rows.length*ks.length:=iv _ hi;rw [q0,Nat.one_mul] at f;exact LY hE (p:=base.co+(Ac U.V i).toNat*ks.length) N (by omega) a4 hl
    ·cases hl
   ·cases hl
  ·rename_i e y i' j a0 L;split at hl
   ·rename_i ks d hk C;split at hl
    ·rename_i hc;cases hl;obtain ⟨G,c4⟩:=Au hc;obtain ⟨c12,c3⟩:=Au G;obtain ⟨c1,c2⟩:=Au c12;have r:=Ax c1;have O:=Ax c2;have Q:=SE.same_ok c3;subst r;subst O;subst Q;cases B with
     |aptr _ _ _ _ base s S=>
      obtain ⟨ks',cur,H,I,u,v,F,N,b3,b4,W,b6,b7,X,Y⟩:=A.blk b base _ s L;have c:U.K e=some ks:=by rw [hE.kd,←hE.ke];exact hk
      rw [c] at F;cases F;refine ⟨v,?_,Y⟩;have hc:w.cell? ⟨base.cb,base.co+(Ac U.V i).toNat*ks.length+off,none⟩=some v:=by simp [World.cell?,N,X]
      have z:Fd d=false:=by simpa using c4
      unfold Instr.loadAt loadVar;simp only [Instr.sureAddr,F9,LE,E1,hE.run_isAgg C,z,ei,ws,run_load,hc]
    ·cases hl
   ·cases hl
  ·cases hl
 ·rename_i g off;split at hl
  ·rename_i d C;split at hl
   ·rename_i z;split at hl
    ·rename_i l Z;cases B;obtain ⟨arr,m1,m2⟩:=A.glob g l (by rw [←hE.gl];exact Z)
     obtain ⟨v,v1,v2⟩:=m2 off a hl;obtain ⟨H,I,J⟩:=A.imm g arr m1;refine ⟨v,?_,v2.vr⟩;have hc:w.cell? ⟨g,off,none⟩=some v:=by simp [World.cell?,J,v1]
     unfold Instr.loadAt loadVar;simp only [Instr.sureAddr,F9,LE,E1,hE.run_isAgg C,z,ei,ws,run_load,hc]
    ·cases hl
   ·cases hl
  ·cases hl
 ·exact Sl hE A B hl
theorem Ns {t:TypeId} {x i a:AV} {T W:Value} (B:VR ρ x T) (hi:VR ρ i W) (hl:Gf E t x i=some a) :
  ∃v,(Instr.indexAt t T W).run E.P w=.ok v w∧VR ρ a v:=by
 unfold Gf at hl;split at hl
 ·rename_i I y;split at hl
  ·rename_i e k r s z;split at hl
   ·rename_i X Y hk;split at hl
    ·rename_i hc;cases hl;obtain ⟨c1,c2⟩:=Au hc;have Z:=Ax c1;subst Z;obtain ⟨J,C⟩:=Ks c2
     try rw [Aq,CQ,←Aq] at C
     rw [Aq] at C;have A:=Cl hi z;subst A;have u:U.K e=some (X::Y):=by rw [hE.kd,←hE.ke];exact hk
     cases B with
     |dat _ _ ad n cap f=>
      obtain ⟨_,_,_,q1,q2⟩:=f.slice_inv;cases q1;rw [q2] at C;obtain ⟨b,o,rfl,F⟩:=f.at (by omega)
      refine ⟨.pointer (some ⟨b,o+(Ac U.V r).toNat*(X::Y).length+0,none⟩),?_,.dptr e y r 0 b o n cap _ f u J (by omega) (by simp)⟩
      have c:0≤Ac U.V r∧Ac U.V r<n:=by omega
      simp [Instr.indexAt,asIntOf,hE.run_und s,hE.run_szIs (Env.kinds_size hk),c,BZ]
    ·cases hl
   ·cases hl
  ·cases hl
 ·rename_i b H n nl;split at hl
  ·rename_i e k r s z;split at hl
   ·rename_i hc;cases hl;obtain ⟨c1,c2⟩:=Au hc;obtain ⟨J,C⟩:=Ks c2
    try rw [Aq,CQ,←Aq] at C
    have A:=Cl hi z;subst A;cases B with
    |asl _ _ _ _ cap base L G F hz O=>
     refine ⟨.pointer (some ⟨base.cb,base.co+(Ac U.V r).toNat*H+0,none⟩),?_,.aptr b H r 0 base L J⟩;have c:0≤Ac U.V r∧Ac U.V r<((Ac U.V n).toNat:Int):=by omega
     generalize (Ac U.V n).toNat=N at c;simp [Instr.indexAt,asIntOf,hE.run_und s,hE.run_szIs c1,c,BZ]
    |aslEnd _ _ _ _ ad G O=>omega
   ·cases hl
  ·cases hl
 ·rename_i b H Q off;split at hl
  ·rename_i len e n s hn;split at hl
   ·rename_i hc;cases hl;obtain ⟨c1,c2⟩:=Au hc;obtain ⟨k,rfl⟩:=C1 (I6 hi) hn;have c:=Ik c1;cases B with
    |aptr _ _ _ _ base L G=>
     have:=VR.aptr (ρ:=ρ) b H Q (off+n*E.size e) base L G;rw [←Aea] at this;refine ⟨_,?_,this⟩;simp [Instr.indexAt,asIntOf,hE.run_und s,hE.run_has c2,Instr.sureAddr,c,BZ]
   ·cases hl
  ·cases hl
 ·rename_i I y Q off;split at hl
  ·rename_i len e n ks s hn hk;split at hl
   ·rename_i hc;cases hl;obtain ⟨c0,c3⟩:=Au hc;obtain ⟨c1,c2⟩:=Au c0;obtain ⟨k,rfl⟩:=C1 (I6 hi) hn;have c:=Ik c1;cases B with
    |dptr _ _ _ _ b o n' cap ks' f hk' G R ho=>
     have u:U.K I=some ks:=by rw [hE.kd,←hE.ke];exact hk
     rw [u] at hk';cases hk';have:=VR.dptr (ρ:=ρ) I y Q (off+n*E.size e) b o n' cap ks f u G R (Ik c3);rw [←Aea] at this;refine ⟨_,?_,this⟩;simp [Instr.indexAt,asIntOf,hE.run_und s,hE.run_has c2,Instr.sureAddr,c,BZ]
   ·cases hl
  ·cases hl
 ·rename_i g off;split at hl
  ·rename_i len e n s hn;split at hl
   ·rename_i S;cases hl;cases B;obtain ⟨k,rfl⟩:=C1 hi hn;obtain ⟨c1,c2⟩:=Au S;have c:=Ik c1;refine ⟨.pointer (some ⟨g,off+n*E.size e,none⟩),?_,.glob g _⟩;simp [Instr.indexAt,asIntOf,hE.run_und s,hE.run_has c2,Instr.sureAddr,c,BZ]
   ·cases hl
  ·cases hl
 ·exact Nk hE B (I6 hi) hl
theorem KO {t:TypeId} {fs:Array Field} {f:Nat} {c:Field} (s:E.desc t=some (.struct fs)) (u:fs.toList[f]?=some c) {n:Nat} (hs:E.size c.type=n+1) (b o:Nat) :
  (Instr.fieldAt t (.pointer (some ⟨b,o,none⟩)) f).run E.P w=.ok (.pointer (some ⟨b,o+c.offset,none⟩)) w:=by
 have g:fs[f]?=some c:=by simpa using u
 have r:∀w,(sizeOf c.type).run E.P w=.ok (n+1) w:=by
  intro w;unfold Env.size at hs;cases hi:E.ty.get c.type with
  |none=>simp [hi] at hs
  |some i=>simp only [hi] at hs;rw [hE.run_sz hi,hs]
 simp [Instr.fieldAt,hE.run_und s,g,Instr.sureAddr,fieldPlace,r,BZ]
theorem Ny {t:TypeId} {x a:AV} {f:Nat} {C:Value} (r:VR ρ x C) (hl:FP E t x f=some a) :
  ∃v,(Instr.fieldAt t C f).run E.P w=.ok v w∧VR ρ a v:=by
 unfold FP at hl;split at hl
 ·rename_i e y i off;split at hl
  ·rename_i fs ks s hk;split at hl
   ·rename_i c u;split at hl
    ·rename_i n hs z;cases hl;cases r with
     |dptr _ _ _ _ b o F cap ks' A hk' B hi I=>
      have g:U.K e=some ks:=by rw [hE.kd,←hE.ke];exact hk
      rw [g] at hk';cases hk';have:=VR.dptr (ρ:=ρ) e y i (off+c.offset) b o F cap ks A g B hi (Ik z);rw [←Aea] at this;exact ⟨_,KO hE s u hs b _,this⟩
    ·cases hl
   ·cases hl
  ·cases hl
 ·rename_i b G i off;split at hl
  ·rename_i fs s;split at hl
   ·rename_i c u;split at hl
    ·cases hl
    ·rename_i n hs;cases hl;cases r with
     |aptr _ _ _ _ base z B=>
      have:=VR.aptr (ρ:=ρ) b G i (off+c.offset) base z B;rw [←Aea] at this
      obtain ⟨m,H⟩:∃m,E.size c.type=m+1:=by
       cases hq:E.size c.type with
       |zero=>exact absurd hq hs
       |succ m=>exact ⟨m,rfl⟩
      exact ⟨_,KO hE s u H base.cb _,this⟩
   ·cases hl
  ·cases hl
 ·exact Nq hE r hl
end
end Go.AE
namespace Go.AE
variable [Gl:AC]
variable [U:Unk]
omit U in
theorem lX {a:AV} (h:a.isTop=false):a≠.top:=by rintro rfl;cases h
theorem D4:∀(l:List UInt8),C9 l.length (AB l)=l
 |[]=>rfl
 |b::r=>by
  have h:=Hv b r;simp only [kp,C9,h.1,h.2,D4 r]
  congr 1
  simp
theorem Lq {j:Ren} {kd:Kd} {a:AV} {v:Value} {x:SE} (h:VR j a v) (d:dH kd a=some x):DV U.K j.imm kd v (Ab U.V x):=by
 unfold dH at d;split at d
 ·rename_i k g n;split at d
  ·rename_i f;cases d;cases h;obtain ⟨c1,c2⟩:=Au f;have i:k=g:=by simpa using c1
   subst i;refine .int k n _ ?_ rfl;simpa using c2
  ·cases d
 ·rename_i k g e;split at d
  ·rename_i f;cases d;cases h;obtain ⟨c1,c2⟩:=Au f;have i:k=g:=by simpa using c1
   subst i;refine .int k _ _ ?_ rfl;rcases Bool.or_eq_true_iff.1 c2 with c|c
   ·exact .inl (by simpa using c)
   ·right;have m:=HV U.ok x;unfold Qe at c;split at c
    ·rename_i l h o p;simp only [F4,ll] at c;have q:=m.1 l o;have r:=m.2 h p;omega
    ·cases c
  ·cases d
 ·rename_i b;cases d;cases h;exact .bool b _ rfl
 ·rename_i pos e;cases d;cases h;refine .bool _ _ ?_;cases pos with
  |true=>show (Ab U.V e).toBool=_;unfold Ah;cases (Ab U.V e).toBool<;>rfl
  |false=>show (!(Ab U.V e).toBool)=_;unfold Ah;cases (Ab U.V e).toBool<;>rfl
 ·rename_i l b;cases d;cases h;refine .str _ _ ?_;show (⟨(C9 _ _).toArray⟩:ByteArray)=_;rw [D4]
 ·cases d;cases h;exact .str _ _ rfl
 ·rename_i e s y;split at d
  ·rename_i f;cases d;have:=Ax f;subst this;cases h
   assumption
  ·cases d
 ·cases d;cases h;exact .nil _ _ rfl rfl
 ·cases d
omit U in
theorem List.getD_modify (l:List D) (i:Nat) (f:D→D) (q:Nat) (hq:q<l.length):(l.modify i f).getD q default=if i=q then f (l.getD q default) else l.getD q default:=by
 simp only [F2,List.getElem?_modify];split
 ·rename_i h;subst h;simp [hq]
 ·simp [hq]
theorem Br.upd {ρ:Ren} {ks:List Kd} {t cur':Array Value} {o j:Nat} {y i x:SE} {kd:Kd} {v:Value} (h:Br U.K ρ.imm ks t o (Ab U.V y).rows) (hi:(Ac U.V i).toNat<(Ab U.V y).rows.length) (hj:ks[j]?=some kd)
  (hd:DV U.K ρ.imm kd v (Ab U.V x)) (hs:cur'.size=t.size) (hg:∀p,cur'[p]?=if p=o+(Ac U.V i).toNat*ks.length+j then some v else t[p]?):Br U.K ρ.imm ks cur' o (Ab U.V (.upd y i j x)).rows:=by
 have er:(Ab U.V (.upd y i j x)).rows=(Ab U.V y).rows.modify (Ac U.V i).toNat fun r=>.row (r.cells.set j (Ab U.V x)):=rfl
 have el:(Ab U.V (.upd y i j x)).rows.length=(Ab U.V y).rows.length:=by rw [er];simp
 obtain ⟨h1,h2,h3⟩:=h;have bd:j<ks.length:=(Id.1 hj).1;refine ⟨by rw [el,hs];exact h1,fun q hq=>?_,fun q c ar hq hc=>?_⟩
 ·rw [el] at hq;rw [er,List.getD_modify _ _ _ _ hq];split
  ·simp only [D.cells,List.length_set];exact h2 q hq
  ·exact h2 q hq
 ·rw [el] at hq;have av:c<ks.length:=(Id.1 hc).1;have I:=h3 q c ar hq hc;rw [er,List.getD_modify _ _ _ _ hq];by_cases al:(Ac U.V i).toNat=q
  ·rw [if_pos al];simp only [D.cells];by_cases an:c=j
   ·subst an;rw [hj] at hc;cases hc;have e1:cur'.getD (o+q*ks.length+c) Go.undef=v:=by simp [L1,hg,al]
    have e2:((((Ab U.V y).rows.getD q default).cells.set c (Ab U.V x)).getD c default)=Ab U.V x:=by
     have:=h2 q hq;generalize ((Ab U.V y).rows.getD q default).cells=cl at this ⊢;simp [F2,this,av]
    rw [e1];simp only [D.cells] at e2;rw [e2];exact hd
   ·have e1:cur'.getD (o+q*ks.length+c) Go.undef=t.getD (o+q*ks.length+c) Go.undef:=by
     simp only [L1,hg,al];rw [if_neg (by omega)]
    have e2:((((Ab U.V y).rows.getD q default).cells.set j (Ab U.V x)).getD c default)=((Ab U.V y).rows.getD q default).cells.getD c default:=by
     simp only [F2];rw [List.getElem?_set_ne (fun e=>an e.symm)]
    rw [e1];simp only [D.cells] at e2 I ⊢;rw [e2];exact I
  ·rw [if_neg al]
   have e1:cur'.getD (o+q*ks.length+c) Go.undef=t.getD (o+q*ks.length+c) Go.undef:=by
    simp only [L1,hg];rw [if_neg ?_];intro e;have J:(Ac U.V i).toNat<q∨q<(Ac U.V i).toNat:=by omega
    rcases J with J|J
    ·have:=iv ks.length J;rw [Nat.succ_mul] at this;omega
    ·have:=iv ks.length J;rw [Nat.succ_mul] at this;omega
   rw [e1];exact I
theorem NS {n:Ren} {ks:List Kd} {o:Nat} {i:SE}:∀(l:List AV) (g:List Value) (j:Nat) (y m:SE) (b cur':Array Value),Br U.K n.imm ks b o (Ab U.V y).rows→(Ac U.V i).toNat<(Ab U.V y).rows.length→Da i ks y j l=some m→VL n l g→
  cur'.size=b.size→(∀p,cur'[p]?=if o+(Ac U.V i).toNat*ks.length+j≤p∧p<o+(Ac U.V i).toNat*ks.length+j+g.length then g[p-(o+(Ac U.V i).toNat*ks.length+j)]? else b[p]?)→
  Br U.K n.imm ks cur' o (Ab U.V m).rows
 |[],g,j,y,m,b,cur',h,hi,d,s,w,t=>by
  simp only [Da,C2] at d;subst d;have:=s.nil_inv;subst this
  have:cur'=b:=by
   apply Array.ext_getElem?;intro p;rw [t,if_neg (by simp)]
  rw [this];exact h
 |a::r,g,j,y,m,b,cur',h,hi,d,s,w,t=>by
  obtain ⟨v,vr,rfl,A,B⟩:=s.cons_inv;simp only [Da] at d;split at d
  ·rename_i k z;split at d
   ·rename_i x C;have E:=Lq A C;have F:j<ks.length:=(Id.1 z).1;have u:((Ac U.V i).toNat+1)*ks.length≤(Ab U.V y).rows.length*ks.length:=iv _ hi;rw [q0,Nat.one_mul] at u;have G:=h.1
    have H:=h.upd (cur':=b.setIfInBounds (o+(Ac U.V i).toNat*ks.length+j) v) hi z E (by simp) (fun p=>by
     rw [Array.getElem?_setIfInBounds];by_cases e:o+(Ac U.V i).toNat*ks.length+j=p
     ·rw [if_pos e,if_pos e.symm,if_pos (by omega)]
     ·rw [if_neg e,if_neg (fun q=>e q.symm)])
    have el:(Ab U.V (.upd y i j x)).rows.length=(Ab U.V y).rows.length:=by
     have I:(Ab U.V (.upd y i j x)).rows=(Ab U.V y).rows.modify (Ac U.V i).toNat fun r=>.row (r.cells.set j (Ab U.V x)):=rfl
     rw [I];simp
    refine NS r vr (j+1) _ m _ cur' H (by rw [el];exact hi) d B (by rw [w];simp) (fun p=>?_)
    rw [t];simp only [kp];by_cases e:p=o+(Ac U.V i).toNat*ks.length+j
    ·subst e;rw [if_pos (by omega),if_neg (by omega),Array.getElem?_setIfInBounds_self]
     rw [if_pos (by omega)]
     simp
    ·by_cases c:o+(Ac U.V i).toNat*ks.length+j≤p∧p<o+(Ac U.V i).toNat*ks.length+j+(vr.length+1)
     ·rw [if_pos c,if_pos (by omega)]
      rw [show p-(o+(Ac U.V i).toNat*ks.length+j)=(p-(o+(Ac U.V i).toNat*ks.length+(j+1)))+1 by omega]
      simp
     ·rw [if_neg c,if_neg (by omega),pv (fun q=>e q.symm)]
   ·cases d
  ·cases d
section
variable {E:Env} (hE:OK E) {ρ:Ren} {h:Aa} {w:World}
include hE
omit hE in
theorem M1 {i:SE} {ks:List Kd}:∀(l:List AV) (j:Nat) (y y':SE),Da i ks y j l=some y'→j+l.length≤ks.length∨l=[]
 |[],_,_,_,_=>.inr rfl
 |a::r,j,y,y',hu=>by
  simp only [Da] at hu;split at hu
  ·rename_i k hk;split at hu
   ·rename_i x hx;have hjl:j<ks.length:=(Id.1 hk).1;rcases M1 r (j+1) _ _ hu with h|h
    ·left;simp only [kp];omega
    ·left;subst h;simp;omega
   ·cases hu
  ·cases hu
omit hE in
theorem GT {i:SE} {ks:List Kd}:∀(l:List AV) (vs:List Value) (j:Nat) (y y':SE),Da i ks y j l=some y'→VL ρ l vs→∀v∈vs,v.oneCell'=true
 |[],vs,_,_,_,_,hv,v,hm=>by have:=hv.nil_inv;subst this;cases hm
 |a::r,vs,j,y,y',hu,hv,v,hm=>by
  obtain ⟨v0,vr,rfl,ha,hr⟩:=hv.cons_inv;simp only [Da] at hu;split at hu
  ·rename_i k hk;split at hu
   ·rename_i x hx;rcases gk.1 hm with rfl|hm
    ·have:=Lq ha hx;cases this<;>rfl
    ·exact GT r vr (j+1) _ _ hu hr v hm
   ·cases hu
  ·cases hu
theorem JQ (hr:HR ρ h.blk.get w) {t:TypeId} {x a:AV} {J v:Value} {h':Aa} (hx:VR ρ x J) (ha:VR ρ a v) (m:DW E t x a h=some h') :
  ∃d,(Instr.storeAt t J v).run E.P w=.ok () d∧HR ρ h'.blk.get d∧Ext ρ ρ h h' w d:=by
 unfold DW at m;split at m
 ·rename_i b es i off;split at m
  ·rename_i e y L;split at m
   ·rename_i ks hk;split at m
    ·rename_i S;split at m
     ·rename_i y' hu;cases m;obtain ⟨u,c4⟩:=Au S;obtain ⟨c12,c3⟩:=Au u;obtain ⟨c1,c2⟩:=Au c12;have C:=Ax c1;subst C;obtain ⟨r0,M⟩:=Ks c2
      try rw [Aq,CQ,←Aq] at M
      rw [Aq] at M;have o:=ha.cells (lX (by simpa using c4))
      cases hx with
      |aptr _ _ _ _ base z h0=>
       obtain ⟨T,g,F,G,N,O,b3,b4,Q⟩:=hr.blk b base _ z L;have A:U.K e=some ks:=by rw [hE.kd,←hE.ke];exact hk
       rw [A] at N;cases N;have hi:(Ac U.V i).toNat<(Ab U.V y).rows.length:=by omega
       have H:((Ac U.V i).toNat+1)*ks.length≤(Ab U.V y).rows.length*ks.length:=iv _ hi;rw [q0,Nat.one_mul] at H;have W:=Q.1;have p:a.cells.length=v.cells.toList.length:=o.1
       have n:base.co+(Ac U.V i).toNat*ks.length+off+0+v.cells.toList.length≤g.size∨v.cells.toList=[]:=by
        rcases M1 _ _ _ _ hu with q|q
        ·left;omega
        ·right;rw [q] at p;exact ie p.symm
       have I:∃d c,(storeCells ⟨base.cb,base.co+(Ac U.V i).toNat*ks.length+off,none⟩ v.cells.toList 0).run E.P w=.ok () d∧d.heap[base.cb]?=some (.cells c F G)∧c.size=g.size∧
         (∀j,c[j]?=if base.co+(Ac U.V i).toNat*ks.length+off≤j∧j<base.co+(Ac U.V i).toNat*ks.length+off+v.cells.toList.length then v.cells.toList[j-(base.co+(Ac U.V i).toNat*ks.length+off)]? else g[j]?)∧
         d.heap.size=w.heap.size∧(∀k,k≠base.cb→d.heap[k]?=w.heap[k]?)∧d.os=w.os∧d.tape=w.tape∧d.output=w.output:=by
        rcases n with n|B
        ·exact BN E.P base.cb (base.co+(Ac U.V i).toNat*ks.length+off) F G v.cells.toList 0 w g O n (by rw [b3];exact b4) (GT _ _ _ _ _ hu o)
        ·rw [B];exact ⟨w,g,by simp [storeCells],O,rfl,fun j=>by rw [if_neg (by simp)],rfl,fun _ _=>rfl,rfl,rfl,rfl⟩
       obtain ⟨d,c,X,Y,R,Z,q5,q6,q7,q8,q9⟩:=I;have s:=NS a.cells v.cells.toList off y y' g c Q hi hu o R Z;obtain ⟨p1,p2⟩:=hr.put z (by rw [L];exact F0 _) (.arr e y') d ⟨ks,c,F,G,A,Y,by rw [R,b3],b4,s⟩ q5 q6 q7 q8 q9
       refine ⟨d,?_,p1,p2⟩;unfold Instr.storeAt storeVar;have e:v.cells.size=a.cells.length:=by have:=o.1;simp at this;omega
       simp [Instr.sureAddr,hE.run_szIs c3,e,X]
     ·cases m
    ·cases m
   ·cases m
  ·cases m
 ·exact WM hE hr hx ha m
end
end Go.AE
namespace Go.AE
variable [Gl:AC]
variable [U:Unk]
def BA (K:TypeId→Option (List Kd)) (M:Nat→Option (Array Value)) (ks:List Kd) (a:List Value) (rows:List D):Prop:=
 a.length=rows.length*ks.length∧(∀i,i<rows.length→(rows.getD i default).cells.length=ks.length)∧
  ∀i j kd,i<rows.length→ks[j]?=some kd→DV K M kd (a.getD (i*ks.length+j) Go.undef) ((rows.getD i default).cells.getD j default)
section
variable {K:TypeId→Option (List Kd)} {M:Nat→Option (Array Value)} {ks:List Kd}
omit U
theorem BA.nil:BA K M ks [] []:=⟨by simp,fun i h=>by simp at h,fun i j kd h=>by simp at h⟩
theorem QW {l m:List D} {i:Nat}:(l++m).getD i default=if i<l.length then l.getD i default else m.getD (i-l.length) default:=by
 simp only [F2];by_cases h:i<l.length
 ·rw [if_pos h,R2 h]
 ·rw [if_neg h,Ts (by omega)]
theorem Xa {l m:List Value} {i:Nat}:(l++m).getD i Go.undef=if i<l.length then l.getD i Go.undef else m.getD (i-l.length) Go.undef:=by
 simp only [F2];by_cases h:i<l.length
 ·rw [if_pos h,R2 h]
 ·rw [if_neg h,Ts (by omega)]
theorem SN {i n l j:Nat} (hi:i<n) (a:j<l):i*l+j<n*l:=by
 have:=iv l hi;rw [Nat.succ_mul] at this;omega
theorem BA.append {I J:List Value} {r s:List D} (h:BA K M ks I r) (k:BA K M ks J s):BA K M ks (I++J) (r++s):=by
 refine ⟨by simp [h.1,k.1,q0],fun i hi=>?_,fun i j kd hi l=>?_⟩
 ·rw [QW];simp only [la] at hi;split
  ·rename_i c;exact h.2.1 i c
  ·exact k.2.1 _ (by omega)
 ·have t:j<ks.length:=(Id.1 l).1;simp only [la] at hi;rw [QW,Xa,h.1];by_cases c:i<r.length
  ·rw [if_pos c,if_pos (SN c t)];exact h.2.2 i j kd c l
  ·rw [if_neg c,if_neg (by
    have:=iv ks.length (Nat.le_of_not_lt c);omega)]
   have e:i*ks.length+j-r.length*ks.length=(i-r.length)*ks.length+j:=by
    have:=iv ks.length (Nat.le_of_not_lt c);rw [Nat.sub_mul];omega
   rw [e];exact k.2.2 _ j kd (by omega) l
theorem BA.at {r:List Value} {rows:List D} {l:Array Value} {off:Nat} (h:BA K M ks r rows) (J:off+r.length≤l.size) (hg:∀q,q<r.length→l[off+q]?=r[q]?):Br K M ks l off rows:=by
 refine ⟨by rw [←h.1];exact J,h.2.1,fun i j kd hi I=>?_⟩
 have t:j<ks.length:=(Id.1 I).1;have:=h.2.2 i j kd hi I;have hq:i*ks.length+j<r.length:=by rw [h.1];exact SN hi t
 have e:l.getD (off+i*ks.length+j) Go.undef=r.getD (i*ks.length+j) Go.undef:=by
  simp only [L1,F2];rw [Aea,hg _ hq]
 rw [e];exact this
theorem Br.vals {rows:List D} {l:Array Value} {off:Nat} (h:Br K M ks l off rows):BA K M ks ((l.toList.drop off).take (rows.length*ks.length)) rows:=by
 refine ⟨by have:=h.1;simp;omega,h.2.1,fun i j kd hi t=>?_⟩
 have r:j<ks.length:=(Id.1 t).1;have:=h.2.2 i j kd hi t
 have e:((l.toList.drop off).take (rows.length*ks.length)).getD (i*ks.length+j) Go.undef=l.getD (off+i*ks.length+j) Go.undef:=by
  simp only [L1,F2];rw [pi,if_pos (SN hi r),l0,lv,Aea]
 rw [e];exact this
theorem BA.mono {N:Nat→Option (Array Value)} (l:∀k a,M k=some a→N k=some a) {r:List Value} {rows:List D} (h:BA K M ks r rows):BA K N ks r rows:=
 ⟨h.1,h.2.1,fun i j kd a b=>(h.2.2 i j kd a b).mono l⟩
end
section
variable {ρ:Ren}
theorem GH:∀(ks:List Kd) (l:List AV) (c:List Value) (r:SE),Mh ks l=some r→VL ρ l c→(Ab U.V r).cells.length=ks.length∧c.length=ks.length∧∀j kd,ks[j]?=some kd→DV U.K ρ.imm kd (c.getD j Go.undef) ((Ab U.V r).cells.getD j default)
 |[],[],c,r,h,d=>by
  simp only [Mh,C2] at h;subst h;have:=d.nil_inv;subst this;exact ⟨rfl,rfl,fun j kd b=>by simp at b⟩
 |k::ks,a::l,c,r,h,d=>by
  obtain ⟨v,vr,rfl,e,f⟩:=d.cons_inv;simp only [Mh] at h;split at h
  ·rename_i x y g i;cases h;obtain ⟨m,n,o⟩:=GH ks l vr y i f;have p:(Ab U.V (.rcons x y)).cells=Ab U.V x::(Ab U.V y).cells:=rfl;rw [p];refine ⟨by simp [m],by simp [n],fun j kd b=>?_⟩
   cases j with
   |zero=>
    simp only [No,C2] at b;subst b;exact Lq e g
   |succ j=>
    simp only [eq] at b;exact o j kd b
  ·cases h
 |[],_::_,_,_,h,_=>by cases h
 |_::_,[],_,_,h,_=>by cases h
theorem BA.one {ks:List Kd} {l:List Value} {r:D} (t:r.cells.length=ks.length) (I:l.length=ks.length) (J:∀j kd,ks[j]?=some kd→DV U.K ρ.imm kd (l.getD j Go.undef) (r.cells.getD j default)):BA U.K ρ.imm ks l [r]:=by
 refine ⟨by simp [I],fun i hi=>?_,fun i j kd hi hj=>?_⟩
 ·have:i=0:=by simpa using hi
  subst this;exact t
 ·have:i=0:=by simpa using hi
  subst this;simpa using J j kd hj
theorem Fo {ks:List Kd}:∀(n:Nat) (y b:SE) (l:List AV) (a:List Value),DX ks n y l=some b→VL ρ l a→∃c:List D,c.length=n∧(Ab U.V b).rows=(Ab U.V y).rows++c∧BA U.K ρ.imm ks a c
 |0,y,b,[],a,h,d=>by
  simp only [DX,C2] at h;subst h;have:=d.nil_inv;subst this;exact ⟨[],rfl,by simp,.nil⟩
 |0,y,b,_::_,a,h,d=>by cases h
 |n+1,y,b,l,a,h,d=>by
  simp only [DX] at h;split at h
  ·rename_i r e;obtain ⟨f,g,i⟩:=GH ks _ (a.take ks.length) r e (d.take _);obtain ⟨c,j,k,m⟩:=Fo n _ b _ (a.drop ks.length) h (d.drop _);refine ⟨Ab U.V r::c,by simp [j],?_,?_⟩
   ·rw [k];show ((Ab U.V y).rows++[Ab U.V r])++c=_;simp
   ·have:=(BA.one f g i).append m;simpa using this
  ·cases h
variable {E:Env} (hE:OK E) {h:Aa} {w:World}
include hE
theorem JT {e:TypeId} {ks:List Kd} {b off n j:Nat} {l:List AV} {r:Value} (v:HR ρ h.blk.get w) (A:VR ρ (.slice b off n j) r) (d:CZ h b off (n*j)=some l) :
  ∃i,VL ρ l i∧i.length=n*j∧((n=0∧∃a,r=.slice (some a) 0 0)∨∃base f s k g o c,ρ b=some base∧h.blk.get b=some (.cells o c)∧r=.slice (some ⟨base.cb,base.co+off,none⟩) n g∧n≤g∧base.co+off+g*j≤base.csz∧w.heap[base.cb]?=some (.cells f s k)∧f.size=base.csz∧(k.1=k.2∨base.csz≤k.1)∧
   ∀q,q<i.length→f[base.co+off+q]?=i[q]?):=by
 cases A with
 |slice _ _ _ _ g base t B C=>
  unfold CZ at d;split at d
  ·rename_i o c p;split at d
   ·rename_i u;obtain ⟨i,x,J,D⟩:=v.loadCells E.P t p (C8 u) d;obtain ⟨f,s,k,y,F,K,G,L⟩:=v.blk b base _ t p;have m:i.length=n*j:=by rw [←x.1];exact (T.range_spec c _ _ _ d).1
    refine ⟨i,x,m,.inr ⟨base,f,s,k,g,o,c,t,p,rfl,B,C,y,F,G,fun q H=>?_⟩⟩
    have z:i[q]?=some i[q]:=by simp [H]
    have:=D q _ z;rw [z];simpa [World.cell?,y] using this
   ·cases d
  ·cases d
 |sliceEnd _ _ _ a=>
  unfold CZ at d;split at d
  ·rename_i o c p;split at d
   ·have I:0*j=0:=by simp
    rw [I] at d;simp only [T.range,C2] at d;subst d;exact ⟨[],VL.nil ρ,by simp,.inl ⟨rfl,a,rfl⟩⟩
   ·cases d
  ·cases d
theorem cM (X:HR ρ h.blk.get w) {Y e B:TypeId} {r:TypeInfo} {ks:List Kd} (hk:E.kinds e=some ks) (s:ks.length=r.size) (k:E.P.underlying Y=some (.slice B)) {y Z m:SE} {x:AV} {xv:Value} (t:VR ρ x xv) (f:bu e ks h y x=some (Z,m)) :
  ∃C nv,(Ab U.V Z).rows=(Ab U.V y).rows++C∧Ac U.V m=(C.length:Nat)∧BA U.K ρ.imm ks nv C∧XQ E.P w Y e r xv C.length nv:=by
 have D:U.K e=some ks:=by rw [hE.kd,←hE.ke];exact hk
 have g:∀a:Option Addr,XQ E.P w Y e r (.slice a 0 0) 0 []:=by
  intro a;refine .cells _ k (.inl ⟨B,rfl⟩) (by simp [Builtin.lenOf]) (fun u _=>?_)
  cases a with
  |none=>simp [Builtin.firstCells]
  |some a=>simp [Builtin.firstCells,loadCells,loadCellsFrom]
 unfold bu at f;split at f
 ·cases f;cases t;exact ⟨[],[],by simp,rfl,.nil,g none⟩
 ·cases f;cases t;exact ⟨[],[],by simp,rfl,.nil,g _⟩
 ·rename_i e1 S;split at f
  ·rename_i hc;cases f;have:=Ax hc;subst this;cases t with
   |dat _ _ a n c T=>
    obtain ⟨_,_,_,W,q2⟩:=T.slice_inv;cases W;have F:(Ab U.V (.cat y S)).rows=(Ab U.V y).rows++(Ab U.V S).rows:=rfl;by_cases hn:n=0
    ·subst hn;have G:(Ab U.V S).rows=[]:=ie q2;refine ⟨[],[],by rw [F,G],by rw [Aq,G],.nil,?_⟩
     refine .cells _ k (.inl ⟨B,rfl⟩) (by simp [Builtin.lenOf]) (fun u _=>?_)
     cases a with
     |none=>simp [Builtin.firstCells]
     |some a=>simp [Builtin.firstCells,loadCells,loadCellsFrom]
    ·obtain ⟨b,o,rfl,H⟩:=T.at (by omega)
     generalize I:Ab U.V S=d at T;cases T with
     |slc _ _ _ _ _ _ aa arr J ha L ae h1 M N hv=>
      rw [D] at J;cases J;obtain ⟨O,Q,hw⟩:=X.imm b arr ha;have ab:Br U.K ρ.imm ks arr o d.rows:=⟨by rw [L];exact M,fun i hi=>N i (by omega),fun i j kd hi hj=>hv i j kd (by omega) hj⟩
      refine ⟨d.rows,_,by rw [F,I],by rw [Aq,I],ab.vals,?_⟩
      rw [L];refine .cells _ k (.inl ⟨B,rfl⟩) (by simp [Builtin.lenOf]) (fun u p=>?_)
      simp only [Builtin.firstCells,←s];exact AU E.P u b o (n*ks.length) arr O Q (by rw [p];exact hw) M
     |empty=>omega
  ·cases f
 ·rename_i b es n nl;split at f
  ·rename_i e1 z v hb;split at f
   ·rename_i hc;cases f;obtain ⟨c1,c2⟩:=Au hc;have:=Ax c1;subst this;have:=Ax v;subst this;have t:=JN c2 t;clear c2;have F:(Ab U.V (.cat y z)).rows=(Ab U.V y).rows++(Ab U.V z).rows:=rfl;cases t with
    |asl _ _ _ _ R base ac h0 H hz ad=>
     obtain ⟨aa,A,O,Q,b1,b2,b3,b4,b5⟩:=X.blk b base _ ac hb;rw [D] at b1;cases b1;refine ⟨(Ab U.V z).rows,_,F,Aq,b5.vals,?_⟩;have e2:(Ac U.V (.lenL z)).toNat=(Ab U.V z).rows.length:=by rw [Aq];simp
     rw [e2];refine .cells _ k (.inl ⟨B,rfl⟩) (by simp [Builtin.lenOf]) (fun u p=>?_)
     simp only [Builtin.firstCells,←s];exact AU E.P u base.cb base.co _ A O Q (by rw [p];exact b2) b5.1
    |aslEnd _ _ _ _ a h0 ad=>
     rw [Aq] at h0;have G:(Ab U.V z).rows=[]:=ie (by omega)
     exact ⟨[],[],by rw [F,G],by rw [Aq,G],.nil,g a⟩
   ·cases f
  ·cases f
 ·rename_i b off n es;split at f
  ·rename_i v;split at f
   ·rename_i l hl;split at f
    ·rename_i y1 hy;cases f;have:=Ax v;subst this;obtain ⟨vs,v1,v2,v3⟩:=JT hE (e:=e) (ks:=ks) X t hl;obtain ⟨C,W,q2,q3⟩:=Fo n y Z l vs hy v1;refine ⟨C,vs,q2,by rw [W];rfl,q3,?_⟩
     rw [W];rcases v3 with ⟨rfl,a,rfl⟩|⟨base,A,O,Q,R,sz,c,p1,p2,rfl,p4,p5,p6,p7,p8,p9⟩
     ·have:vs=[]:=ie (by simpa using v2)
      subst this;exact g (some a)
     ·refine .cells _ k (.inl ⟨B,rfl⟩) (by simp [Builtin.lenOf]) (fun u p=>?_)
      have af:n*ks.length≤R*ks.length:=iv _ p4;have:=AU E.P u base.cb (base.co+off) (n*ks.length) A O Q (by rw [p];exact p6) (by rw [p7];omega)
      simp only [Builtin.firstCells,←s,this]
      congr 2
      apply List.ext_getElem?;intro q;rw [pi];by_cases hq:q<n*ks.length
      ·rw [if_pos hq,l0,lv,p9 q (by omega)]
      ·rw [if_neg hq,s0 (by omega)]
    ·cases f
   ·cases f
  ·cases f
 ·cases f
inductive LW (ρ:Ren) (h:Aa) (w:World) (ks:List Kd) (ys nls:SE):Option Nat→Value→Prop
 |none (b:Option Nat) (a:Option Addr) (hy:(Ab U.V ys).rows=[]) (hn:a.isNone=Ah U.V nls):LW ρ h w ks ys nls b (.slice a 0 0)
 |blk (b off cap:Nat) (base:Cr) (cur:Array Value) (et:TypeId) (fz:Nat×Nat) (hb:ρ b=some base) (hl:h.blk.get b≠.none) (hc:(Ab U.V ys).rows.length≤cap) (hz:base.co+off+cap*ks.length≤base.csz)
   (hw:w.heap[base.cb]?=some (.cells cur et fz)) (hs:cur.size=base.csz) (hf:fz.1=fz.2∨base.csz≤fz.1) (hv:Br U.K ρ.imm ks cur (base.co+off) (Ab U.V ys).rows) (hn:Ah U.V nls=false) :
   LW ρ h w ks ys nls (some b) (.slice (some ⟨base.cb,base.co+off,.none⟩) (Ab U.V ys).rows.length cap)
theorem YI (x:HR ρ h.blk.get w) {e:TypeId} {ks:List Kd} (F:E.kinds e=some ks) {s:AV} {A:Value} {ys nls:SE} {B:Option Nat} (m:VR ρ s A) (d:V2 e ks h s=some (ys,nls,B)):LW ρ h w ks ys nls B A:=by
 have r:U.K e=some ks:=by rw [hE.kd,←hE.ke];exact F
 unfold V2 at d;split at d
 ·cases d;cases m;exact .none _ _ rfl rfl
 ·cases d;cases m;rename_i a G;exact .none _ _ rfl G
 ·rename_i b off n H;split at d
  ·rename_i i;split at d
   ·rename_i l I;split at d
    ·rename_i y J;cases d;have:=Ax i;subst this;obtain ⟨L,M,N,O⟩:=JT hE (e:=e) (ks:=ks) x m I;obtain ⟨P,t,Q,R⟩:=Fo n .emptyL ys l L J M;have q:(Ab U.V ys).rows=P:=by rw [Q];rfl
     rcases O with ⟨rfl,a,rfl⟩|⟨base,j,u,v,f,sz,c,p1,p2,rfl,p4,p5,p6,p7,p8,p9⟩
     ·exact .none _ _ (by rw [q];exact ie t) rfl
     ·have S:n*ks.length≤f*ks.length:=iv _ p4
      have:=LW.blk (ρ:=ρ) (h:=h) (w:=w) (ks:=ks) (ys:=ys) (nls:=.bc false) b off f base j u v p1 (by rw [p2];exact F0 _) (by rw [q,t];exact p4) p5 p6 p7 p8
       (by rw [q];exact R.at (by rw [N,p7];omega) p9) rfl
      rw [q,t] at this;exact this
    ·cases d
   ·cases d
  ·cases d
 ·rename_i b H n nl;split at d
  ·rename_i e1 z i o;split at d
   ·rename_i T;cases d;obtain ⟨c1,c2⟩:=Au T;have:=Ax c1;subst this;have:=Ax i;subst this;have m:=JN c2 m;clear c2;cases m with
    |asl _ _ _ _ f base p C g W k=>
     obtain ⟨X,j,u,v,D,Y,b3,b4,Z⟩:=x.blk b base _ p o;rw [r] at D;cases D;have e2:(Ac U.V (.lenL ys)).toNat=(Ab U.V ys).rows.length:=by rw [Aq];simp
     rw [e2] at g ⊢;exact LW.blk (ρ:=ρ) (h:=h) (w:=w) (ks:=ks) b 0 f base j u v p (by rw [o];exact F0 _) g (by simpa using W) Y b3 b4 (by simpa using Z) k
    |aslEnd _ _ _ _ a C k=>
     rw [Aq] at C;exact .none _ _ (ie (by omega)) k
   ·cases d
  ·cases d
 ·cases d
omit hE in
theorem HR.phantom (hr:HR ρ h.blk.get w) (hf:ρ h.nx=none) (x:Am):HR ρ (h.new x).blk.get w∧Ext ρ ρ h (h.new x) w w:=by
 have live:∀b base,ρ b=some base→(h.new x).blk.get b=h.blk.get b:=by
  intro b base hb;simp only [Aa.new,T.get_set];rw [if_neg (by rintro rfl;rw [hf] at hb;cases hb)]
 refine ⟨⟨hr.lt,fun b base y hb hy=>hr.blk b base y hb (by rw [←live b base hb];exact hy),fun b b' base base' hne hb hb' h1 h2=>hr.apart b b' base base' hne hb hb' (by rw [←live b base hb];exact h1) (by rw [←live b' base' hb'];exact h2),hr.imm,fun k arr b base hk hb hl=>hr.off k arr b base hk hb (by rw [←live b base hb];exact hl),hr.glob⟩,
  ⟨Ren.le_refl ρ,Nat.le_succ _,fun _ _ e=>.inl e,G8.refl w,fun _ _ _=>rfl,⟨[],rfl,fun b _ hb=>?_⟩,fun b hb=>?_,fun _ _ e=>.inl e⟩⟩
 ·simp only [Aa.new,T.get_set];simp only [Aa.new] at hb;rw [if_neg (by omega)]
 ·simp only [Aa.new,T.get_set] at hb ⊢;by_cases e:h.nx=b
  ·exact .inr ⟨by omega,by omega⟩
  ·rw [if_neg e] at hb;exact .inl hb
omit hE in
theorem T8 (hr:HR ρ h.blk.get w) (o:Option Nat):HR ρ (EM h o).blk.get w∧Ext ρ ρ h (EM h o) w w∧(EM h o).nx=h.nx:=by
 cases o with
 |none=>exact ⟨hr,Ext.refl _ _ _,rfl⟩
 |some b=>obtain ⟨p1,p2⟩:=hr.strike b;exact ⟨p1,p2,rfl⟩
theorem Io (hr:HR ρ h.blk.get w) {t O ty:TypeId} {s x a:AV} {sv Y:Value} {h':Aa} (hs:VR ρ s sv) (hx:VR ρ x Y) (n:IM E t O s x h=some (a,h')) (hf:AX ρ h.nx h'.nx)
  (hA:∀a h',Jg E t O s x h=some (a,h')→AX ρ h.nx h'.nx→A4 E ρ h h' w (Builtin.append_ #[t,O] ty #[sv,Y]) a) :
  A4 E ρ h h' w (Builtin.append_ #[t,O] ty #[sv,Y]) a:=by
 unfold IM at n;split at n
 ·exact hA a h' n hf
 ·split at n
  ·rename_i e e' hd ar;split at n
   ·rename_i f ks z hi hk hz;split at n
    ·rename_i hc;split at n
     ·rename_i A C bs Z;split at n
      ·rename_i y m ae;split at n
       ·rename_i hb;cases n;obtain ⟨c12,c3⟩:=Au hc;obtain ⟨c1,c2⟩:=Au c12;have B:=Ax c1;have a6:=Ax c2;have as:=C8 c3;have D:=hE.ty e f hi;have af:U.K e=some ks:=by rw [hE.kd,←hE.ke];exact hk
        obtain ⟨b1,b2⟩:=Au hb;have b1:=Ly b1;have b2:=Ly b2;rw [Ay,ll,Aq,B0] at b1;rw [Ay,ll,B0] at b2;have ht:=hE.und hd;have au:=hE.und ar;obtain ⟨l,nv,s1,s2,Q,s4⟩:=cM hE hr hk B au hx ae;have hB:=YI hE hr hk hs Z;obtain ⟨i',zv,i1,i2,i3⟩:=GF hz;rw [hi] at i1;cases i1
        have av:zv.cells.size=f.size:=by
         have:=((AZ ρ i3).cells (Cf i3)).1;simp at this;omega
        have R:nv.length=l.length*f.size:=by rw [Q.1,B]
        have a7:l.length<1048576:=by omega
        have F:Ac U.V (.lenL y)=(((Ab U.V A).rows.length+l.length:Nat):Int):=by rw [Aq,s1];simp
        have aa:Ah U.V (.and C (.eql m (.c 0)))=(Ah U.V C&&(Ac U.V m==0)):=rfl;have p:ρ h.nx=none:=hf h.nx (IqQ _) (by cases bs<;>simp [Aa.new,EM,Aa.strike])
        obtain ⟨o1,o2,o3⟩:=T8 hr bs
        have S:∀(base:Option Addr) (d i:Nat) (I:List Value),sv=.slice base d i→d=(Ab U.V A).rows.length→d≤i→i<d+l.length→BA U.K ρ.imm ks I (Ab U.V A).rows→
          (∀J:World,J.heap=w.heap→(Builtin.firstCells f.size d (.slice base d i)).run E.P J=.ok I.toArray J)→
          A4 E ρ h ((EM h bs).new (.arr e y)) w (Builtin.append_ #[t,O] ty #[sv,Y]) (.asl h.nx f.size (.lenL y) (.and C (.eql m (.c 0)))):=by
         intro base d i I aw ag a8 ab ah ax;subst aw;have a9:(d+l.length)*f.bytes≤1074790400*1024:=Nat.mul_le_mul (by omega) as
         obtain ⟨g,k1,k2⟩:=DM t O ty e f ht D zv i2 Y l.length nv s4 base d i ab (by omega) (by omega) I.toArray ax
         generalize ac:Builtin.zeroCells zv.cells (g-(d+l.length))=zs at k2;have ai:zs.size=(g-(d+l.length))*f.size:=by rw [←ac];simp [Builtin.zeroCells,av]
         have aj:(I.toArray++nv.toArray++zs).size=g*f.size:=by
          have W:I.length=d*f.size:=by rw [ah.1,B,ag]
          simp only [Array.size_append,List.size_toArray,W,R,ai];rw [←q0,←q0]
          congr 1;omega
         have j:=ah.append Q;rw [←s1] at j
         have r:Br U.K ρ.imm ks (I.toArray++nv.toArray++zs) 0 (Ab U.V y).rows:=j.at (by simp) (fun q L=>by
          have ay:q<I.length+nv.length:=by simpa using L
          rw [pc,Ad7 (by simpa using ay)]
          simp only [List.append_toArray,sf])
         have az:HR ρ (EM h bs).blk.get {w with drawn:=w.drawn+1}:=o1.same rfl
         have a0:ρ (EM h bs).nx=none:=by rw [o3];exact p
         obtain ⟨p1,p2⟩:=az.new a0 (.arr e y) (.cells (I.toArray++nv.toArray++zs) e) (g*f.size) ⟨ks,_,e,_,af,rfl,aj,.inl rfl,r⟩ {w with drawn:=w.drawn+1,heap:=w.heap.push (.cells (I.toArray++nv.toArray++zs) e)} rfl rfl rfl rfl
         refine ⟨_,_,_,k2,?_,p1,(o2.trans (Ext.drawn p2 rfl rfl rfl rfl) hf)⟩;rw [o3];have G:(Ac U.V (.lenL y)).toNat=d+l.length:=by rw [F,ag];exact Aep _
         have:=VR.asl (ρ:=ρ.upd h.nx ⟨w.heap.size,0,g*f.size⟩) h.nx f.size (.lenL y) (.and C (.eql m (.c 0))) g ⟨w.heap.size,0,g*f.size⟩ (Ren.upd_same _ _ _) (by rw [F];exact Int.natCast_nonneg _) (by rw [G];exact k1) (by show 0+g*f.size≤g*f.size;rw [pc];exact IqQ _) (by
          rw [aa,s2];have:((l.length:Int)==0)=false:=by simp;intro e;rw [e] at ab;simp at ab;omega
          rw [this,Bool.and_false])
         rw [G] at this;exact this
        cases hB with
        |none _ ad hy hn=>
         have ak:(Ab U.V A).rows.length=0:=by rw [hy];rfl
         by_cases hm:l.length=0
         ·
          have a1:nv=[]:=ie (by rw [R,hm];simp)
          subst a1;obtain ⟨p1,p2⟩:=HR.phantom o1 (by rw [o3];exact p) (.arr e y)
          refine ⟨ρ,.slice ad 0 0,w,?_,.aslEnd _ _ _ _ _ (by rw [F,ak,hm];rfl) ?_,p1,o2.trans p2 hf⟩
          ·rw [C3 t O ty e f ht D Y l.length [] s4 ad 0 0 (by omega)]
           cases ad with
           |none=>simp [hm]
           |some ad=>simp [storeCells,hm]
          ·rw [aa,s2,hm,hn];simp
         ·exact S ad 0 0 [] rfl ak.symm (IqQ _) (by omega) (by rw [hy];exact .nil) (fun J _=>by
           cases ad with
           |none=>simp [Builtin.firstCells]
           |some ad=>simp [Builtin.firstCells,loadCells,loadCellsFrom])
        |blk b off i base M et fz hb hl al ac hw N am hv hn=>
         by_cases u:(Ab U.V A).rows.length+l.length≤i
         ·
          have an:((Ab U.V A).rows.length+l.length)*ks.length≤i*ks.length:=iv _ u;rw [q0] at an
          have ao:∀v∈nv,v.oneCell'=true:=by
           intro v a2;obtain ⟨q,L,rfl⟩:=ud a2
           have ap:0<ks.length:=by
            rcases Nat.eq_zero_or_pos ks.length with h0|h0
            ·rw [Q.1,h0] at L;simp at L
            ·exact h0
           have a3:q/ks.length<l.length:=by
            rw [Q.1] at L;exact Nat.div_lt_of_lt_mul (by rw [Nat.mul_comm];exact L)
           have a4:q%ks.length<ks.length:=Nat.mod_lt _ ap;have:=Q.2.2 (q/ks.length) (q%ks.length) (ks[q%ks.length]) a3 (by simp [a4])
           have e1:q/ks.length*ks.length+q%ks.length=q:=by rw [Nat.mul_comm];exact Nat.div_add_mod _ _
           rw [e1] at this;have e2:nv.getD q Go.undef=nv[q]:=by simp [F2,L]
           rw [e2] at this;generalize nv[q]=v0 at this;generalize ks[q%ks.length]=kq at this;cases this<;>rfl
          obtain ⟨J,X,q1,q2,q3,q4,q5,q6,q7,q8,q9⟩:=BN E.P base.cb (base.co+off+(Ab U.V A).rows.length*ks.length) et fz nv 0 w M hw (by rw [Q.1,N];omega) (by rw [N];exact am) ao
          have r:Br U.K ρ.imm ks X (base.co+off) (Ab U.V y).rows:=by
           have j:=hv.vals.append Q;rw [←s1] at j
           have H:((M.toList.drop (base.co+off)).take ((Ab U.V A).rows.length*ks.length)).length=(Ab U.V A).rows.length*ks.length:=by
            have:=hv.1;simp;omega
           refine j.at (by rw [la,H,Q.1,q3,N];omega) (fun q L=>?_)
           rw [la,H] at L;rw [q4];simp only [n0];by_cases aq:q<(Ab U.V A).rows.length*ks.length
           ·rw [if_neg (by omega),R2 (by rw [H];exact aq),pi,if_pos aq,l0,lv]
           ·rw [if_pos (by omega),Ts (by rw [H];omega),H]
            congr 1;omega
          obtain ⟨p1,p2⟩:=hr.move hb hl p (base':=⟨base.cb,base.co+off,base.csz⟩) rfl (.arr e y) J ⟨ks,X,et,fz,af,q2,by rw [q3,N],am,r⟩ q5 q6 q7 q8 q9
          refine ⟨_,.slice (some ⟨base.cb,base.co+off,none⟩) ((Ab U.V A).rows.length+l.length) i,J,?_,?_,p1,p2⟩
          ·rw [C3 t O ty e f ht D Y l.length nv s4 _ _ i u];simp only [BZ,←B];rw [q1];rfl
          ·have G:(Ac U.V (.lenL y)).toNat=(Ab U.V A).rows.length+l.length:=by rw [F];exact Aep _
           have:=VR.asl (ρ:=ρ.upd h.nx ⟨base.cb,base.co+off,base.csz⟩) h.nx f.size (.lenL y) (.and C (.eql m (.c 0))) i ⟨base.cb,base.co+off,base.csz⟩ (Ren.upd_same _ _ _) (by rw [F];omega) (by rw [G];exact u) (by rw [←B];exact ac) (by rw [aa,hn];rfl)
           rw [G] at this;exact this
         ·have W:((M.toList.drop (base.co+off)).take ((Ab U.V A).rows.length*ks.length)).length=(Ab U.V A).rows.length*ks.length:=by
           have:=hv.1;simp;omega
          exact S (some ⟨base.cb,base.co+off,none⟩) _ i _ rfl rfl al (by omega) hv.vals (fun J a5=>by
           simp only [Builtin.firstCells,←B];exact AU E.P J base.cb (base.co+off) _ M et fz (by rw [a5];exact hw) hv.1)
       ·cases n
      ·cases n
     ·cases n
    ·cases n
   ·cases n
  ·cases n
end
end Go.AE
namespace Go.AE
variable [Gl:AC]
variable [U:Unk]
section
variable {E:Env} {ρ:Ren} {w:World} (hE:OK E)
include hE
theorem ZI {t:TypeId} (c:E.desc t=some .bool) (n:Nat) (a b:Bool):aeq E (n+1) t (.bool a) (.bool b)=some (a==b):=by
 simp only [aeq,c]
theorem HY {c:BinOp} {t:TypeId} {ox oy:Operand} (f:E.desc t=some .bool) (a b q:Bool) (d:BP c (a==b)=some q) :
  (do eqGuard c t ox oy (.bool a) (.bool b);binOp c t (.bool a) (.bool b):Sem Value).run E.P w=.ok (.bool q) w:=by
 have g:TG E c t (.bool a) (.bool b)=some (.bool q):=by
  have e:=ZI hE f 9999 a b;cases c<;>simp only [BP,reduceCtorEq,C2] at d
  ·subst d;show (aeq E 10000 t _ _).map AV.bool=_;rw [e];rfl
  ·subst d;show ((aeq E 10000 t _ _).map fun b=>AV.bool (!b))=_;rw [e];rfl
 obtain ⟨v,h,i⟩:=Wc (ρ:=Ren.empty) (w:=w) (ox:=ox) (oy:=oy) hE (.bool a) (.bool b) g;cases i;exact h
omit hE in
theorem Fq {x:AV} {xv:Value} (hx:VR ρ x xv):(∀b,QR x=some (.inl b)→xv=.bool b)∧(∀p e,QR x=some (.inr (p,e))→xv=.bool (Ah U.V e==p)):=by
 cases x<;>simp only [QR,reduceCtorEq,false_imp_iff,implies_true,and_self]
 ·rename_i b;cases hx;exact ⟨fun c h=>(by cases h;rfl),fun p e h=>(by cases h)⟩
 ·rename_i p e;cases hx;refine ⟨fun b h=>?_,fun p' e' h=>?_⟩
  ·split at h
   ·rename_i c hc;cases h;rw [Av U.ok hc]
   ·cases h
  ·split at h
   ·cases h
   ·cases h;rfl
theorem Iw {d:BinOp} {t e:TypeId} {ox f:Operand} (r:E.desc t=some (.slice e)) (a:Option Addr) (n c:Nat) (q:Bool) (g:BP d a.isNone=some q) (z:a=none→n=0∧c=0) :
  (do eqGuard d t ox f (.slice a n c) (.slice none 0 0);binOp d t (.slice a n c) (.slice none 0 0):Sem Value).run E.P w=.ok (.bool q) w∧
  (do eqGuard d t ox f (.slice none 0 0) (.slice a n c);binOp d t (.slice none 0 0) (.slice a n c):Sem Value).run E.P w=.ok (.bool q) w:=by
 have i:=hE.run_und r w;have j:(eqGuard d t ox f (.slice a n c) (.slice none 0 0)).run E.P w=.ok () w:=B2 (by simp) (by simp)
 have k:(eqGuard d t ox f (.slice none 0 0) (.slice a n c)).run E.P w=.ok () w:=B2 (by simp) (by simp)
 obtain ⟨s,u⟩:=Eh t (.slice a n c) (.slice none 0 0) (by simp) (by simp) (by simp) (by simp)
 obtain ⟨b3,b4⟩:=Eh t (.slice none 0 0) (.slice a n c) (by simp) (by simp) (by simp) (by simp)
 have v:∀m:Nat,(Op.equalIn (m+1) t (.slice a n c) (.slice none 0 0)).run E.P w=.ok a.isNone w:=by
  intro m;cases a<;>simp [Op.equalIn,i]
 have y:∀m:Nat,(Op.equalIn (m+1) t (.slice none 0 0) (.slice a n c)).run E.P w=.ok a.isNone w:=by
  intro m;cases a<;>simp [Op.equalIn,i]
 have l:(Op.equal t (.slice a n c) (.slice none 0 0)).run E.P w=.ok a.isNone w:=v 9999;have o:(Op.equal t (.slice none 0 0) (.slice a n c)).run E.P w=.ok a.isNone w:=y 9999;cases d<;>simp only [BP,reduceCtorEq,C2] at g
 ·subst g;refine ⟨?_,?_⟩
  ·simp only [F9,j,E1,s,l];rfl
  ·simp only [F9,k,E1,b3,o];rfl
 ·subst g;refine ⟨?_,?_⟩
  ·simp only [F9,j,E1,u,l];rfl
  ·simp only [F9,k,E1,b4,o];rfl
theorem MY {d:BinOp} {t o r:TypeId} {ox f:Operand} (s:E.desc t=some (.map o r)) (a:Option Nat) (q:Bool) (g:BP d a.isNone=some q) :
  (do eqGuard d t ox f (.map a) (.map none);binOp d t (.map a) (.map none):Sem Value).run E.P w=.ok (.bool q) w∧
  (do eqGuard d t ox f (.map none) (.map a);binOp d t (.map none) (.map a):Sem Value).run E.P w=.ok (.bool q) w:=by
 have i:=hE.run_und s w;have j:(eqGuard d t ox f (.map a) (.map none)).run E.P w=.ok () w:=B2 (by simp) (by simp)
 have k:(eqGuard d t ox f (.map none) (.map a)).run E.P w=.ok () w:=B2 (by simp) (by simp)
 obtain ⟨u,v⟩:=Eh t (.map a) (.map none) (by simp) (by simp) (by simp) (by simp)
 obtain ⟨b3,b4⟩:=Eh t (.map none) (.map a) (by simp) (by simp) (by simp) (by simp)
 have y:∀m:Nat,(Op.equalIn (m+1) t (.map a) (.map none)).run E.P w=.ok a.isNone w:=by
  intro m;cases a<;>simp [Op.equalIn,i]
 have z:∀m:Nat,(Op.equalIn (m+1) t (.map none) (.map a)).run E.P w=.ok a.isNone w:=by
  intro m;cases a<;>simp [Op.equalIn,i]
 have l:(Op.equal t (.map a) (.map none)).run E.P w=.ok a.isNone w:=y 9999;have n:(Op.equal t (.map none) (.map a)).run E.P w=.ok a.isNone w:=z 9999;cases d<;>simp only [BP,reduceCtorEq,C2] at g
 ·subst g;refine ⟨?_,?_⟩
  ·simp only [F9,j,E1,u,l];rfl
  ·simp only [F9,k,E1,b3,n];rfl
 ·subst g;refine ⟨?_,?_⟩
  ·simp only [F9,j,E1,v,l];rfl
  ·simp only [F9,k,E1,b4,n];rfl
omit hE in
theorem Vv {x:AV} {xv:Value} {s:SE} (hx:VR ρ x xv) (h:bA x=some s):∃a,xv=.map a∧Ah U.V s=a.isNone:=by
 cases hx<;>simp only [bA,reduceCtorEq,C2] at h<;>subst h
 ·exact ⟨none,rfl,rfl⟩
 ·exact ⟨_,rfl,rfl⟩
 ·rename_i hn;exact ⟨_,rfl,by rw [hn];rfl⟩
 ·rename_i hn;exact ⟨_,rfl,by rw [hn];rfl⟩
omit hE in
theorem Vd {x:AV} {xv:Value} {s:SE} (hx:VR ρ x xv) (h:dI x=some s):∃a n c,xv=.slice a n c∧(a=none→n=0∧c=0)∧Ah U.V s=a.isNone:=by
 cases hx<;>simp only [dI,reduceCtorEq,C2] at h<;>subst h
 ·exact ⟨none,0,0,rfl,fun _=>⟨rfl,rfl⟩,rfl⟩
 ·exact ⟨_,_,_,rfl,fun h=>(by cases h),rfl⟩
 ·exact ⟨_,_,_,rfl,fun h=>(by cases h),rfl⟩
 ·rename_i e x a n c hd;refine ⟨a,n,c,rfl,?_,?_⟩
  ·rintro rfl
   cases hd;exact ⟨rfl,rfl⟩
  ·have:Ah U.V (.isNil x)=(Ab U.V x).isNil:=rfl;rw [this];cases hd with
   |nil _ _ h1=>rw [h1];rfl
   |empty _ _ _ _ h1=>rw [h1];rfl
   |slc _ _ _ _ _ _ _ _ _ _ _ _ h1=>rw [h1];rfl
 ·rename_i hn;exact ⟨_,_,_,rfl,fun h=>(by cases h),by rw [hn];rfl⟩
 ·rename_i a h0 hn;exact ⟨a,0,0,rfl,fun _=>⟨rfl,rfl⟩,hn.symm⟩
 ·rename_i a hn;exact ⟨a,0,0,rfl,fun _=>⟨rfl,rfl⟩,hn.symm⟩
omit hE in
theorem IP {op:BinOp} {p q:Bool} (h:BP op p=some q) (x:Bool):BP op (x==p)=some (x==q):=by
 cases op<;>simp only [BP,reduceCtorEq,C2] at h ⊢<;>subst h<;>cases x<;>cases p<;>rfl
theorem iU {op:BinOp} {t:TypeId} {ox z:Operand} {x y r:AV} {xv u:Value} (hx:VR ρ x xv) (j:VR ρ y u) (d:eqV (E.desc t) op x y=some r) :
  ∃v,(do eqGuard op t ox z xv u;binOp op t xv u:Sem Value).run E.P w=.ok v w∧VR ρ r v:=by
 unfold eqV at d;split at d
 ·rename_i hd;split at d
  ·rename_i a b h1 o;rw [(Fq hx).1 _ h1,(Fq j).1 _ o];cases f:BP op (a==b) with
   |none=>rw [f] at d;cases d
   |some q=>rw [f] at d;cases d;exact ⟨_,HY hE hd a b q f,.bool q⟩
  ·rename_i p e b h1 o;rw [(Fq hx).2 _ _ h1,(Fq j).1 _ o];cases f:BP op (p==b) with
   |none=>rw [f] at d;cases d
   |some q=>
    rw [f] at d;cases d;refine ⟨_,HY hE hd _ _ (Ah U.V e==q) ?_,.sb q e⟩;have:=IP f (Ah U.V e);rw [←this];congr 1;cases Ah U.V e<;>cases p<;>cases b<;>rfl
  ·rename_i b p e h1 o;rw [(Fq hx).1 _ h1,(Fq j).2 _ _ o];cases f:BP op (p==b) with
   |none=>rw [f] at d;cases d
   |some q=>
    rw [f] at d;cases d;refine ⟨_,HY hE hd _ _ (Ah U.V e==q) ?_,.sb q e⟩;have:=IP f (Ah U.V e);rw [←this];congr 1;cases Ah U.V e<;>cases p<;>cases b<;>rfl
  ·cases d
 ·rename_i e hd
  have one:∀{s:SE} {a:Option Addr},Ah U.V s=a.isNone→(BP op true).map (fun q=>mkB q s)=some r→∃q,BP op a.isNone=some q∧VR ρ r (.bool q):=by
   intro s a g i;cases f:BP op true with
   |none=>rw [f] at i;cases i
   |some q=>
    rw [f] at i;cases i;have:=IP f a.isNone;refine ⟨a.isNone==q,?_,g▸GV ρ q s⟩;rw [←this];congr 1;cases a.isNone<;>rfl
  split at d
  ·split at d
   ·rename_i s g;cases hx;obtain ⟨a,n,c,rfl,h0,k⟩:=Vd j g;obtain ⟨q,l,m⟩:=one k d;exact ⟨_,(Iw hE hd a n c q l h0).2,m⟩
   ·cases d
  ·split at d
   ·rename_i s g;cases j;obtain ⟨a,n,c,rfl,h0,k⟩:=Vd hx g;obtain ⟨q,l,m⟩:=one k d;exact ⟨_,(Iw hE hd a n c q l h0).1,m⟩
   ·cases d
  ·cases d
 ·rename_i A B hd
  have one:∀{s:SE} {a:Option Nat},Ah U.V s=a.isNone→(BP op true).map (fun q=>mkB q s)=some r→∃q,BP op a.isNone=some q∧VR ρ r (.bool q):=by
   intro s a g i;cases f:BP op true with
   |none=>rw [f] at i;cases i
   |some q=>
    rw [f] at i;cases i;have:=IP f a.isNone;refine ⟨a.isNone==q,?_,g▸GV ρ q s⟩;rw [←this];congr 1;cases a.isNone<;>rfl
  split at d
  ·split at d
   ·rename_i s g;cases hx;obtain ⟨a,rfl,k⟩:=Vv j g;obtain ⟨q,l,m⟩:=one k d;exact ⟨_,(MY hE hd a q l).2,m⟩
   ·cases d
  ·split at d
   ·rename_i s g;cases j;obtain ⟨a,rfl,k⟩:=Vv hx g;obtain ⟨q,l,m⟩:=one k d;exact ⟨_,(MY hE hd a q l).1,m⟩
   ·cases d
  ·cases d
 ·cases d
omit hE in
theorem LH (P:Program) (k:IntKind):∀{l:List AV} {l':List Value} {x:SE} {a:AV},VL ρ l l'→ON k x l=some a→∃v,(l'.foldlM Builtin.max2 (.int k (Ac U.V x))).run P w=.ok v w∧VR ρ a v
 |[],l',x,a,hl,h=>by
  rw [hl.nil_inv];simp only [ON,C2] at h;subst h;exact ⟨_,by simp,Cb ρ k x⟩
 |y::r,l',x,a,hl,h=>by
  obtain ⟨v,r',rfl,hv,hr⟩:=hl.cons_inv;simp only [ON] at h;split at h
  ·rename_i k' b hb;have ev:=Cl hv hb;subst ev;split at h
   ·rename_i hd;have:=Av U.ok hd;rw [Ay,ll] at this;obtain ⟨u,q1,q2⟩:=LH P k hr h;refine ⟨u,?_,q2⟩;simp only [List.foldlM_cons,Builtin.max2,F9,LE,E1];rw [if_pos (by omega)];exact q1
   ·rename_i hd;have:=Av U.ok hd;rw [Ay,tl] at this;obtain ⟨u,q1,q2⟩:=LH P k hr h;refine ⟨u,?_,q2⟩;simp only [List.foldlM_cons,Builtin.max2,F9,LE,E1];rw [if_neg (by omega)];exact q1
   ·cases h
  ·cases h
omit hE in
theorem M9 (P:Program) (k:IntKind):∀{l:List AV} {l':List Value} {x:SE} {a:AV},VL ρ l l'→OC k x l=some a→∃v,(l'.foldlM Builtin.min2 (.int k (Ac U.V x))).run P w=.ok v w∧VR ρ a v
 |[],l',x,a,hl,h=>by
  rw [hl.nil_inv];simp only [OC,C2] at h;subst h;exact ⟨_,by simp,Cb ρ k x⟩
 |y::r,l',x,a,hl,h=>by
  obtain ⟨v,r',rfl,hv,hr⟩:=hl.cons_inv;simp only [OC] at h;split at h
  ·rename_i k' b hb;have ev:=Cl hv hb;subst ev;split at h
   ·rename_i hd;have:=Av U.ok hd;rw [Ay,ll] at this;obtain ⟨u,q1,q2⟩:=M9 P k hr h;refine ⟨u,?_,q2⟩;simp only [List.foldlM_cons,Builtin.min2,F9,LE,E1];rw [if_pos (by omega)];exact q1
   ·rename_i hd;have:=Av U.ok hd;rw [Ay,tl] at this;obtain ⟨u,q1,q2⟩:=M9 P k hr h;refine ⟨u,?_,q2⟩;simp only [List.foldlM_cons,Builtin.min2,F9,LE,E1];rw [if_neg (by omega)];exact q1
   ·cases h
  ·cases h
omit hE in
theorem XX {ats:Array TypeId} {ty:TypeId} {args:List AV} {args':List Value} {a:AV} (ha:VL ρ args args') (hq:Zr args=some a):∃v,(Builtin.max_ ats ty args'.toArray).run E.P w=.ok v w∧VR ρ a v:=by
 cases args with
 |nil=>cases hq
 |cons x r=>
  obtain ⟨v,r',rfl,hv,hl⟩:=ha.cons_inv;simp only [Zr] at hq;split at hq
  ·rename_i k e he;have ev:=Cl hv he;subst ev;obtain ⟨u,q1,q2⟩:=LH (w:=w) E.P k hl hq;exact ⟨u,by simpa [Builtin.max_] using q1,q2⟩
  ·cases hq
omit hE in
theorem YM {ats:Array TypeId} {ty:TypeId} {args:List AV} {args':List Value} {a:AV} (ha:VL ρ args args') (hq:YC args=some a):∃v,(Builtin.min_ ats ty args'.toArray).run E.P w=.ok v w∧VR ρ a v:=by
 cases args with
 |nil=>cases hq
 |cons x r=>
  obtain ⟨v,r',rfl,hv,hl⟩:=ha.cons_inv;simp only [YC] at hq;split at hq
  ·rename_i k e he;have ev:=Cl hv he;subst ev;obtain ⟨u,q1,q2⟩:=M9 (w:=w) E.P k hl hq;exact ⟨u,by simpa [Builtin.min_] using q1,q2⟩
  ·cases hq
omit hE in
theorem jj {op:UnOp} {x r:AV} {xv:Value} (hx:VR ρ x xv) (hr:unB op x=some r):∃v,(Op.unary op xv).run E.P w=.ok v w∧VR ρ r v:=by
 unfold unB at hr;split at hr
 ·rename_i k e;cases hr;cases hx;refine ⟨_,by simp only [Op.unary,Op.intArith,LE];rfl,?_⟩
  have:=Cb ρ k (.arith .sub k (.c 0) e);rw [DG] at this;simpa [CS,B0] using this
 ·exact iI hx hr
theorem Nm {h h':Aa} (hr:HR ρ h.blk.get w) {t:TypeId} {l c a:AV} {d f:Value} (hl:VR ρ l d) (g:VR ρ c f) (hb:HX E t l c h=some (a,h')) (i:AX ρ h.nx h'.nx) :
  A4 E ρ h h' w (Instr.makeSlice t d f) a:=by unfold HX at hb;cases hb
end
end Go.AE
namespace Go.AE
variable [Gl:AC]
variable [U:Unk]
section
variable {E:Env} {w:World} (hE:OK E)
include hE
theorem HR.freeze {ρ:Ren} {h:Aa} (hr:HR ρ h.blk.get w) {b:Nat} {base:Cr} (hb:ρ b=some base) (hl:h.blk.get b≠none) {r:Array Value} {e:TypeId} {fz:Nat×Nat} (hw:w.heap[base.cb]?=some (.cells r e fz)) :
  ∃σ:Ren,ρ.le σ∧σ.imm base.cb=some r∧HR σ (h.strike b).blk.get w∧Ext ρ σ h (h.strike b) w w:=by
 let σ:Ren:=⟨ρ.m,fun k=>if k=base.cb then some r else ρ.imm k⟩
 have al:ρ.le σ:=⟨fun _ _ h=>h,fun k a hk=>by
  show (if k=base.cb then some r else ρ.imm k)=some a
  rw [if_neg (fun e=>hr.off k a b base hk hb hl e.symm)]
  exact hk⟩
 have I:∀c,(h.strike b).blk.get c≠none→c≠b∧h.blk.get c≠none:=by
  intro c t;simp only [Aa.strike,T.get_del] at t;by_cases e:b=c
  ·rw [if_pos e] at t;exact absurd rfl t
  ·rw [if_neg e] at t;exact ⟨fun e'=>e e'.symm,t⟩
 have an:∀c,c≠b→(h.strike b).blk.get c=h.blk.get c:=by
  intro c t;simp only [Aa.strike,T.get_del];rw [if_neg (fun e=>t e.symm)]
 obtain ⟨p1,p2⟩:=hr.strike b;refine ⟨σ,al,?_,⟨hr.lt,?_,?_,?_,?_,hr.glob.mono al.imm⟩,⟨al,p2.nx,fun c bs t=>.inl t,p2.calm,fun _ _ _=>rfl,p2.log,p2.live,?_⟩⟩
 ·show (if base.cb=base.cb then some r else _)=_
  rw [if_pos rfl]
 ·intro c bs x t hx;have J:=I c (by rw [hx];exact F0 _)
  rw [an c J.1] at hx;exact (hr.blk c bs x t hx).mono al
 ·intro c c' bs ar av t bd h1 h2;exact hr.apart c c' bs ar av t bd (I c h1).2 (I c' h2).2
 ·intro k arr hk;have l:(if k=base.cb then some r else ρ.imm k)=some arr:=hk
  by_cases c:k=base.cb
  ·rw [if_pos c] at l;cases l;subst c;exact ⟨e,fz,hw⟩
  ·rw [if_neg c] at l;exact hr.imm k arr l
 ·intro k arr c bs hk t be;have J:=I c be;have l:(if k=base.cb then some r else ρ.imm k)=some arr:=hk
  by_cases d:k=base.cb
  ·subst d;exact hr.apart c b bs base J.1 t hb J.2 hl
  ·rw [if_neg d] at l;exact hr.off k arr c bs l t J.2
 ·intro k arr hk;have l:(if k=base.cb then some r else ρ.imm k)=some arr:=hk
  by_cases d:k=base.cb
  ·exact .inr (.inr ⟨b,base,hb,hl,d.symm⟩)
  ·rw [if_neg d] at l;exact .inl l
theorem JI {ρ:Ren} {h h':Aa} {kd:Kd} {a F:AV} {v:Value} (s:HR ρ h.blk.get w) (B:VR ρ a v) (f:Kl E kd a h=(F,h')) :
  ∃m:Ren,VR m F v∧HR m h'.blk.get w∧Ext ρ m h h' w w:=by
 have same:(a,h)=(F,h')→∃m:Ren,VR m F v∧HR m h'.blk.get w∧Ext ρ m h h' w w:=by
  intro e;cases e;exact ⟨ρ,B,s,Ext.refl _ _ _⟩
 unfold Kl at f;split at f
 ·rename_i e;split at f
  ·rename_i b J n nl;split at f
   ·rename_i e' x ks G L;split at f
    ·rename_i M;cases f;obtain ⟨M,c3⟩:=Au M;obtain ⟨c1,c2⟩:=Au M;have e1:=Ax c1;subst e1;have e2:=Ax c2;have B:=JN c3 B;have p:U.K e=some ks:=by rw [hE.kd,←hE.ke];exact L
     have d:(Ab U.V (.nilIs x nl)).isNil=Ah U.V nl:=rfl;have u:(Ab U.V (.nilIs x nl)).rows=(Ab U.V x).rows:=rfl;cases B with
     |asl _ _ _ _ cap base H z g hz N=>
      obtain ⟨ab,q,et,fz,X,b2,b3,b4,b5⟩:=s.blk b base _ H G;rw [p] at X;cases X;obtain ⟨m,O,P,Q,R⟩:=HR.freeze hE s H (by rw [G];exact F0 _) b2
      have k:(Ac U.V (.lenL x)).toNat=(Ab U.V x).rows.length:=by rw [Aq];simp
      refine ⟨m,.dat e _ _ _ _ ?_,Q,R⟩;have t:=b5.mono O.imm;exact .slc e base.cb base.co _ cap _ ks q p P (by rw [u,k]) g (by rw [d,N]) (by rw [k];exact t.1) (fun i hi=>t.2.1 i (by rw [k] at hi;exact hi)) (fun i j kd hi S=>t.2.2 i j kd (by rw [k] at hi;exact hi) S)
     |aslEnd _ _ _ _ ad z o=>
      obtain ⟨p1,p2⟩:=s.strike b
      have C:(Ab U.V x).rows=[]:=by
       rw [Aq] at z;exact ie (by omega)
      refine ⟨ρ,.dat e _ _ _ _ ?_,p1,p2⟩;cases ad with
      |none=>exact .nil e _ (by rw [d,←o];rfl) (by rw [u];exact C)
      |some ad=>exact .empty e ad 0 _ (by rw [d,←o];rfl) (by rw [u];exact C)
    ·exact same f
   ·exact same f
  ·rename_i nl;cases f;cases B with
   |eslc _ ad o=>
    have d:(Ab U.V (.nilIs .nilL nl)).isNil=Ah U.V nl:=rfl;refine ⟨ρ,.dat e _ _ _ _ ?_,s,Ext.refl _ _ _⟩;cases ad with
    |none=>exact .nil e _ (by rw [d,←o];rfl) rfl
    |some ad=>exact .empty e ad 0 _ (by rw [d,←o];rfl) rfl
  ·rename_i b off n J;split at f
   ·rename_i ks L;split at f
    ·rename_i l D hl;split at f
     ·rename_i y Y;cases f;have D:=Ax D;have p:U.K e=some ks:=by rw [hE.kd,←hE.ke];exact L
      obtain ⟨vs,v1,v2,v3⟩:=JT hE (e:=e) (ks:=ks) s B hl;obtain ⟨Z,r1,r2,r3⟩:=Fo (ρ:=ρ) n .emptyL y l vs Y v1;have T:(Ab U.V y).rows=Z:=by rw [r2];rfl
      have d:(Ab U.V y).isNil=false:=by
       have:∀(n:Nat) (I y:SE) (l:List AV),DX ks n I l=some y→(Ab U.V I).isNil=false→(Ab U.V y).isNil=false:=by
        intro n
        induction n with
        |zero=>intro I y l h z;cases l with
         |nil=>simp only [DX,C2] at h;subst h;exact z
         |cons=>cases h
        |succ n ih=>
         intro I y l h z;simp only [DX] at h;split at h
         ·exact ih _ _ _ h rfl
         ·cases h
       exact this n .emptyL y l Y rfl
      rcases v3 with ⟨z,ad,rfl⟩|⟨base,q,et,fz,cap,sz,c,H,G,rfl,g,hz,hw,W,ac,hv⟩
      ·obtain ⟨p1,p2⟩:=s.strike b;exact ⟨ρ,.dat e _ _ _ _ (.empty e ad 0 _ d (by rw [T];exact ie (by rw [r1,z]))),p1,p2⟩
      ·obtain ⟨m,O,P,Q,R⟩:=HR.freeze hE s H (by rw [G];exact F0 _) hw
       have aa:n*J≤cap*J:=iv _ g;have A:Br U.K ρ.imm ks q (base.co+off) Z:=r3.at (by rw [v2,W];omega) hv
       have t:=A.mono O.imm;rw [←T] at t;have r:(Ab U.V y).rows.length=n:=by rw [T,r1]
       refine ⟨m,.dat e _ _ _ _ (.slc e base.cb (base.co+off) n cap _ ks q p P r g d ?_ (fun i hi=>t.2.1 i (by rw [r];exact hi)) (fun i j kd hi S=>t.2.2 i j kd (by rw [r];exact hi) S)),Q,R⟩
       have:=t.1;rw [r] at this;exact this
     ·exact same f
    ·exact same f
   ·exact same f
  ·exact same f
 ·exact same f
omit hE in
theorem PN {kd:Kd} {a a':AV} {h h':Aa} (hx:Kl E kd a h=(a',h')):h'.nx=h.nx:=by
 unfold Kl at hx
 repeat' split at hx
 all_goals (cases hx;rfl)
theorem LD:∀{ks:List Kd} {l d:List AV} {e:List Value} {c:Ren} {h h':Aa},HR c h.blk.get w→VL c l e→HA E ks l h=(d,h')→
  h'.nx=h.nx∧∃j:Ren,VL j d e∧HR j h'.blk.get w∧Ext c j h h' w w
 |[],l,d,e,c,h,h',f,g,hx=>by
  cases l<;>(simp only [HA] at hx;cases hx;exact ⟨rfl,c,g,f,Ext.refl _ _ _⟩)
 |k::ks,[],d,e,c,h,h',f,g,hx=>by
  simp only [HA] at hx;cases hx;exact ⟨rfl,c,g,f,Ext.refl _ _ _⟩
 |k::ks,a::l,d,e,c,h,h',f,g,hx=>by
  obtain ⟨v,r,rfl,p,q⟩:=g.cons_inv;simp only [HA] at hx;generalize i:Kl E k a h=p1 at hx;obtain ⟨a1,s⟩:=p1;simp only at hx;generalize m:HA E ks l s=p2 at hx;obtain ⟨D,F⟩:=p2;simp only at hx;cases hx;have t:=PN i;obtain ⟨j,u,x,n⟩:=JI hE f p i;obtain ⟨y,z,A,B,o⟩:=LD x (q.mono n.le) m;refine ⟨by omega,z,VL.cons (u.mono o.le) A,B,n.trans o (fun b G C=>by omega)⟩
omit hE in
theorem YR {kd:Kd} {a a':AV} {h h':Aa} (hx:Kl E kd a h=(a',h')):h'=h∨∃b,h'=h.strike b:=by
 unfold Kl at hx
 repeat' split at hx
 all_goals (cases hx;first|exact .inl rfl|exact .inr ⟨_,rfl⟩)
omit hE in
theorem L7:∀{ks:List Kd} {l l':List AV} {h h':Aa},HA E ks l h=(l',h')→h'.nx=h.nx∧(∃m,h'.log=m++h.log∧∀c,c∉m→h'.blk.get c=h.blk.get c)∧∀c,h'.blk.get c=none∨h'.blk.get c=h.blk.get c
 |[],l,l',h,h',hx=>by
  cases l<;>(simp only [HA] at hx;cases hx;exact ⟨rfl,⟨[],rfl,fun _ _=>rfl⟩,fun _=>.inr rfl⟩)
 |k::ks,[],l',h,h',hx=>by
  simp only [HA] at hx;cases hx;exact ⟨rfl,⟨[],rfl,fun _ _=>rfl⟩,fun _=>.inr rfl⟩
 |k::ks,a::l,l',h,h',hx=>by
  simp only [HA] at hx;generalize hf1:Kl E k a h=p1 at hx;obtain ⟨a1,h3⟩:=p1;simp only at hx;generalize hf2:HA E ks l h3=p2 at hx;obtain ⟨l1,h4⟩:=p2;simp only at hx;cases hx;obtain ⟨q1,⟨m,q2,q3⟩,q4⟩:=L7 hf2;rcases YR hf1 with rfl|⟨b,rfl⟩
  ·exact ⟨q1,⟨m,q2,q3⟩,q4⟩
  ·have hget:∀c,(h.strike b).blk.get c=if b=c then none else h.blk.get c:=fun c=>by simp only [Aa.strike,T.get_del]
   refine ⟨q1,⟨m++[b],by rw [q2];simp [Aa.strike],fun c hc=>?_⟩,fun c=>?_⟩
   ·simp only [ue,vv,not_or] at hc;rw [q3 c hc.1,hget,if_neg (fun e=>hc.2 e.symm)]
   ·rcases q4 c with r|r
    ·exact .inl r
    ·rw [r,hget];by_cases e:b=c
     ·rw [if_pos e];exact .inl rfl
     ·rw [if_neg e];exact .inr rfl
theorem KU {g:Ren} {h:Aa} {ks:List Kd} {b:Nat} (s:HR g h.blk.get w):(Em E ks b h).nx=h.nx∧∃j:Ren,HR j (Em E ks b h).blk.get w∧Ext g j h (Em E ks b h) w w:=by
 have same:h.nx=h.nx∧∃j:Ren,HR j h.blk.get w∧Ext g j h h w w:=⟨rfl,g,s,Ext.refl _ _ _⟩
 unfold Em;split
 ·rename_i n c J;split
  ·rename_i l t;split;rename_i l' h' K;split
   ·rename_i m z A;split
    ·rename_i hc;obtain ⟨c1,c2⟩:=Au hc;have M:=Ax c1;have e2:=Ax c2;subst M;cases B:g b with
     |none=>
      obtain ⟨N,⟨O,P,Q⟩,L⟩:=L7 K;have f:HR g h'.blk.get w:=s.restrict (fun c=>L c)
      have hget:∀c,c≠b→(h'.put b (.cells m (.ofList l'))).blk.get c=h'.blk.get c:=fun c hc=>by
       simp only [Aa.put,T.get_set];rw [if_neg (fun e=>hc e.symm)]
      have ne:∀{c:Nat} {o:Cr},g c=some o→c≠b:=fun hc e=>by subst e;rw [B] at hc;cases hc
      refine ⟨N,g,⟨f.lt,fun c o x hc hx=>?_,fun c z o C D hc p F u=>?_,f.imm,fun k arr c o R hc t=>?_,f.glob⟩,⟨Ren.le_refl g,by show h.nx≤h'.nx;omega,fun _ _ e=>.inl e,G8.refl w,fun _ _ _=>rfl,⟨b::O,by simp [Aa.put,P],fun c hc _=>?_⟩,fun c hc=>?_,fun _ _ e=>.inl e⟩⟩
      ·rw [hget c (ne hc)] at hx;exact f.blk c o x hc hx
      ·rw [hget c (ne hc)] at F;rw [hget z (ne p)] at u;exact f.apart c z o C D hc p F u
      ·rw [hget c (ne hc)] at t;exact f.off k arr c o R hc t
      ·simp only [gk,not_or] at hc;rw [hget c hc.1];exact Q c hc.2
      ·by_cases e:c=b
       ·subst e;exact .inl (by rw [J];exact F0 _)
       ·rw [hget c e] at hc;rcases L c with r|r
        ·rw [r] at hc;exact absurd rfl hc
        ·rw [r] at hc;exact .inl hc
     |some base=>
      obtain ⟨d,S,V,W,X,b3,b4,Y⟩:=s.blk b base _ B J;obtain ⟨l1,l2⟩:=T.range_spec c _ _ _ t
      have G:VL g l ((d.toList.drop base.co).take m):=by
       refine ⟨by simp [l1];omega,fun i a v q y=>?_⟩
       have hi:i<m:=by have:=(Id.1 q).1;omega
       have:=l2 i hi;rw [pc,q] at this;obtain ⟨v',Z,v2⟩:=Y i a hi this;rw [pi,if_pos hi,l0,lv,Z] at y;cases y;exact v2
      obtain ⟨hn,j,q1,q2,q3⟩:=LD hE s G K;have H:j b=some base:=q3.le.m b base B
      obtain ⟨r1,r2⟩:=q2.put H (by rw [A];exact F0 _) (.cells m (.ofList l')) w ⟨d,S,V,W,X,b3,b4,fun i a hi q=>by
       rw [T.get_ofList] at q
       have y:((d.toList.drop base.co).take m)[i]?=d[base.co+i]?:=by
        rw [pi,if_pos hi,l0,lv]
       have I:base.co+i<d.size:=by omega
       have hc:d[base.co+i]?=some d[base.co+i]:=by simp [I]
       exact ⟨_,hc,q1.2 i a _ q (by rw [y,hc])⟩⟩ rfl (fun _ _=>rfl) rfl rfl rfl
      exact ⟨hn,j,r1,q3.trans r2 (fun c F u=>by simp only [Aa.put] at u;omega)⟩
    ·exact same
   ·exact same
  ·exact same
 ·exact same
theorem OU {d:Ren} {h:Aa} {e:TypeId} {b:Nat} (f:HR d h.blk.get w):(H6 E e b h).nx=h.nx∧∃g:Ren,HR g (H6 E e b h).blk.get w∧Ext d g h (H6 E e b h) w w:=by
 unfold H6;split
 ·exact KU hE f
 ·exact ⟨rfl,d,f,Ext.refl _ _ _⟩
omit hE in
theorem Wq {t:TypeId} {x a:AV} {h h':Aa} (hx:DW E t x a h=some h'):h'.nx=h.nx:=by
 unfold DW JR storeN at hx
 repeat' split at hx
 all_goals first | (cases hx;done) | (cases hx;rfl)
theorem W8 {f:Ren} {h:Aa} {b:Nat} (B:HR f h.blk.get w):(Kh E b h).nx=h.nx∧∃o:Ren,HR o (Kh E b h).blk.get w∧Ext f o h (Kh E b h) w w:=by
 have same:h.nx=h.nx∧∃o:Ren,HR o h.blk.get w∧Ext f o h h w w:=⟨rfl,f,B,Ext.refl _ _ _⟩
 unfold Kh;split
 ·rename_i e y i j a Q;split
  ·rename_i ks F;split
   ·rename_i e3 hj;split
    ·rename_i t z g R;split
     ·rename_i x0 G ht;have H:HA E [Kd.slice e3] [a] h=([AV.dat t z],g):=by unfold HA;rw [R];rfl
      obtain ⟨S,⟨mm,s2,s3⟩,W⟩:=L7 H;have I:=Ax ht;subst I;cases J:f b with
      |none=>
       have d:HR f g.blk.get w:=B.restrict (fun c=>W c)
       have hget:∀c,c≠b→(g.put b (.arr e (.upd y i j z))).blk.get c=g.blk.get c:=fun c hc=>by
        simp only [Aa.put,T.get_set];rw [if_neg (fun e=>hc e.symm)]
       have ne:∀{c:Nat} {q:Cr},f c=some q→c≠b:=fun hc e=>by subst e;rw [J] at hc;cases hc
       refine ⟨S,f,⟨d.lt,fun c q x hc hx=>?_,fun c X q L M hc s g C=>?_,d.imm,fun k arr c q F hc Y=>?_,d.glob⟩,⟨Ren.le_refl f,by show h.nx≤g.nx;omega,fun _ _ e=>.inl e,G8.refl w,fun _ _ _=>rfl,⟨b::mm,by simp [Aa.put,s2],fun c hc _=>?_⟩,fun c hc=>?_,fun _ _ e=>.inl e⟩⟩
       ·rw [hget c (ne hc)] at hx;exact d.blk c q x hc hx
       ·rw [hget c (ne hc)] at g;rw [hget X (ne s)] at C;exact d.apart c X q L M hc s g C
       ·rw [hget c (ne hc)] at Y;exact d.off k arr c q F hc Y
       ·simp only [gk,not_or] at hc;rw [hget c hc.1];exact s3 c hc.2
       ·by_cases e:c=b
        ·subst e;exact .inl (by rw [Q];exact F0 _)
        ·rw [hget c e] at hc;rcases W c with r|r
         ·rw [r] at hc;exact absurd rfl hc
         ·rw [r] at hc;exact .inl hc
      |some base=>
       obtain ⟨aa,N,I,fz,u,v,Z,b2,b3,b4,b5,b6,b7,b8,b9⟩:=B.blk b base _ J Q;have A:U.K e=some ks:=by rw [hE.kd,←hE.ke];exact F
       rw [A] at Z;cases Z;obtain ⟨o,q1,q2,q3⟩:=JI hE B b9 R;have O:=q3.le.m b base J
       have P:DV U.K o.imm (.slice t) v (Ab U.V z):=by
        cases q1 with
        |dat _ _ a n c P=>exact P
       obtain ⟨r1,r2⟩:=q2.put O (by rw [G];exact F0 _) (.arr e (.upd y i j z)) w ⟨ks,N,I,fz,A,b2,b3,b4,Br.upd (v:=v) (b5.mono q3.le.imm) b6 hj P (by simp) (fun p=>by
        rw [Array.getElem?_setIfInBounds];by_cases D:p=base.co+(Ac U.V i).toNat*ks.length+j
        ·rw [if_pos D,D];exact b8
        ·rw [if_neg D,if_neg (fun e=>D e.symm)])⟩ rfl (fun _ _=>rfl) rfl rfl rfl
       exact ⟨S,o,r1,q3.trans r2 (fun c g C=>by simp only [Aa.put] at C;omega)⟩
     ·exact same
    ·exact same
   ·exact same
  ·exact same
 ·exact same
theorem Ya {A:Ren} {h h':Aa} (X:HR A h.blk.get w) {t:TypeId} {b Y off:Nat} {i:SE} {a:AV} {Z v:Value} (hx:VR A (.aptr b Y i off) Z) (ha:VR A a v) (f:Zp E t b Y i off a h=some h') :
  ∃σ B,(Instr.storeAt t Z v).run E.P w=.ok () B∧HR σ h'.blk.get B∧Ext A σ h h' w B:=by
 unfold Zp at f;split at f
 ·rename_i M o N s;split at f
  ·rename_i e y e2 y2 hb ab;split at f
   ·rename_i ks ac hk aa;split at f
    ·rename_i hc;cases f;obtain ⟨u,c5⟩:=Au hc;obtain ⟨C,c4⟩:=Au u;obtain ⟨c12,c3⟩:=Au C;obtain ⟨c1,c2⟩:=Au c12;have O:=Ax c2;subst O;have D:off<ks.length:=Ik c5;obtain ⟨r0,r1⟩:=Ks c3
     try rw [Aq,CQ,←Aq] at r1
     rw [Aq] at r1;have g:=ha.cells (by simp)
     have F:∀x∈v.cells.toList,x.oneCell'=true:=by
      intro x hx;obtain ⟨q,hq,rfl⟩:=ud hx
      have Q:q=0:=by
       have:=g.1;simp only [AV.cells,List.length_singleton] at this;omega
      subst Q;exact VR.one (g.2 0 (.asl M o N s) _ rfl (vx hq)) rfl
     have G:v.cells.toList.length=1:=by have:=g.1;simp only [AV.cells,List.length_singleton] at this;omega
     obtain ⟨L,H⟩:∃L,v.cells.toList[0]?=some L:=⟨_,vx (by omega)⟩
     have R:VR A (.asl M o N s) L:=g.2 0 _ _ (by simp [AV.cells]) H
     cases hx with
     |aptr _ _ _ _ base I h0=>
      obtain ⟨ad,d,et,fz,b1,S,b3,b4,b5⟩:=X.blk b base _ I hb;have J:U.K e=some ks:=by rw [hE.kd,←hE.ke];exact hk
      rw [J] at b1;cases b1;have hi:(Ac U.V i).toNat<(Ab U.V y).rows.length:=by omega
      have W:((Ac U.V i).toNat+1)*ks.length≤(Ab U.V y).rows.length*ks.length:=iv _ hi;rw [q0,Nat.one_mul] at W;have ae:=b5.1;have j:base.co+(Ac U.V i).toNat*ks.length+off<d.size:=by omega
      obtain ⟨B,n,q1,q2,q3,q4,q5,q6,q7,q8,q9⟩:=BN E.P base.cb (base.co+(Ac U.V i).toNat*ks.length+off) et fz v.cells.toList 0 w d S (by omega) (by rw [b3];exact b4) F
      have z:n.setIfInBounds (base.co+(Ac U.V i).toNat*ks.length+off) d[base.co+(Ac U.V i).toNat*ks.length+off]=d:=by
       apply Array.ext_getElem?;intro p;rw [Array.getElem?_setIfInBounds,q3,q4];by_cases hp:base.co+(Ac U.V i).toNat*ks.length+off=p
       ·subst hp;rw [if_pos rfl,if_pos j];simp [j]
       ·rw [if_neg hp,if_neg (by omega)]
      obtain ⟨p1,p2⟩:=X.put I (by rw [hb];exact F0 _) (.hole e y i off (.asl M o N s)) B ⟨ks,n,et,fz,d[base.co+(Ac U.V i).toNat*ks.length+off],L,J,q2,by rw [q3,b3],b4,by rw [z];exact b5,hi,D,by rw [q4,if_pos (by omega)];simpa using H,R⟩ q5 q6 q7 q8 q9
      refine ⟨A,B,?_,p1,p2⟩;unfold Instr.storeAt storeVar;have e:v.cells.size=1:=by have:=G;simp at this;omega
      simp [Instr.sureAddr,hE.run_szIs c4,e,q1]
    ·cases f
   ·cases f
  ·cases f
 ·cases f
theorem RD {j:Ren} {h h':Aa} (o:HR j h.blk.get w) {t:TypeId} {x a:AV} {s v:Value} (hx:VR j x s) (p:VR j a v) (f:Jn E t x a h=some h') :
  ∃i g,(Instr.storeAt t s v).run E.P w=.ok () g∧HR i h'.blk.get g∧Ext j i h h' w g:=by
 have d:DW E t x a h=some h'→∃i g,(Instr.storeAt t s v).run E.P w=.ok () g∧HR i h'.blk.get g∧Ext j i h h' w g:=by
  intro B;obtain ⟨g,q1,q2,q3⟩:=JQ hE o hx p B;exact ⟨j,g,q1,q2,q3⟩
 have n:∀{t:TypeId} {x a:AV} {h h':Aa},DW E t x a h=some h'→h'.nx=h.nx:=Wq
 unfold Jn at f;split at f
 ·split at f
  ·rename_i C;cases f;exact Ya hE o hx p C
  ·split at f
   ·split at f
    ·split at f
     ·split at f
      ·rename_i l;split at f;rename_i l1 D q;cases p with
       |agg _ l' F G=>
        obtain ⟨I,i,q1,q2,q3⟩:=LD hE o ⟨F,G⟩ q;obtain ⟨g,u,y,z⟩:=JQ hE q2 (hx.mono q3.le) (.agg l1 l' q1.1 q1.2) f;have:=n f;exact ⟨i,g,u,y,q3.trans z (fun b H A=>by omega)⟩
      ·split at f;rename_i J D q;obtain ⟨i,q1,q2,q3⟩:=JI hE o p q;obtain ⟨g,u,y,z⟩:=JQ hE q2 (hx.mono q3.le) q1 f;have:=n f;have:=PN q;exact ⟨i,g,u,y,q3.trans z (fun b H A=>by omega)⟩
     ·exact d f
    ·exact d f
   ·exact d f
 ·exact d f
theorem RY {f:Ren} {h:Aa} {e:TypeId} {a:AV} (g:HR f h.blk.get w):(Gp E e a h).nx=h.nx∧∃d:Ren,HR d (Gp E e a h).blk.get w∧Ext f d h (Gp E e a h) w w:=by
 have same:h.nx=h.nx∧∃d:Ren,HR d h.blk.get w∧Ext f d h h w w:=⟨rfl,f,g,Ext.refl _ _ _⟩
 unfold Gp;split
 ·split
  ·split
   ·exact OU hE g
   ·exact same
  ·exact same
 ·exact same
theorem PD {f:Ren} {h h':Aa} (n:HR f h.blk.get w) {t t' ty:TypeId} {s x a:AV} {o p:Value} (j:VR f s o) (hx:VR f x p) (g:JW E t t' s x h=some (a,h')) (i:AX f h.nx h'.nx)
  (y:∀a h',Jg E t t' s x h=some (a,h')→AX f h.nx h'.nx→A4 E f h h' w (Builtin.append_ #[t,t'] ty #[o,p]) a) :
  A4 E f h h' w (Builtin.append_ #[t,t'] ty #[o,p]) a:=by
 unfold JW at g;split at g
 ·rename_i A;split at g
  ·rename_i e L;obtain ⟨M,N,q1,q2⟩:=RY (e:=e) (a:=s) hE n;obtain ⟨O,B,z,q⟩:=RY (e:=e) (a:=x) hE q1;have d:=q2.le.trans q.le;have u:AX B (Gp E e x (Gp E e s h)).nx h'.nx:=Ext.free q (Ext.free q2 i);obtain ⟨C,v,D,F,G,H,I⟩:=Io hE z (j.mono d) (hx.mono d) g u (fun a J K hf2=>Mz hE z (j.mono d) (hx.mono d) K hf2)
   exact ⟨C,v,D,F,G,H,q2.trans (q.trans I (Ext.free q2 i)) i⟩
  ·exact Io hE n j hx g i y
 ·exact Io hE n j hx g i y
end
end Go.AE
namespace Go.AE
variable [Gl:AC]
variable [U:Unk]
theorem aK {d:Option TypeDesc} (h:ij d=true):d=some (.int .u8):=by
 unfold ij at h;split at h
 ·rfl
 ·cases h
theorem Wz {d:Option (List Kd)} (h:Uw d=true):d=some [.int .u8]:=by
 unfold Uw at h;split at h
 ·rfl
 ·cases h
theorem bf {s:ByteArray} {n:Nat} (h:n<s.data.toList.length):s[n]?=some s.data.toList[n]:=by
 have a:n<s.size:=by simpa using h
 rw [getElem?_pos s n a];rfl
theorem ZK {l:List UInt8} {i:Nat} (hi:i<l.length):((l.map fun b=>D.row [.int b.toNat]).getD i default)=.row [.int l[i].toNat]:=by
 rw [F2,sd,vx hi];rfl
theorem cK {t:ByteArray} {m i:Nat} (hi:i<t.data.toList.length):(t.data.map (fun (b:UInt8)=>Value.int .u8 b.toNat)++Array.replicate m (Value.int .u8 0)).getD i Go.undef=.int .u8 (t.data.toList[i].toNat:Nat):=by
 have a:i<t.data.size:=by rw [←Array.length_toList];exact hi
 have:(t.data.map (fun (b:UInt8)=>Value.int .u8 b.toNat)++Array.replicate m (Value.int .u8 0))[i]?=some (.int .u8 (t.data.toList[i].toNat:Nat)):=by
  rw [Ad7 (by simpa using a),Array.getElem?_map,Array.getElem?_eq_getElem a]
  simp
 rw [L1,this];rfl
section
variable {E:Env} (hE:OK E) {ρ:Ren} {h:Aa} {w:World}
include hE
theorem Ws {t:TypeId} {x i a:AV} {l m:Value} (o:VR ρ x l) (hi:VR ρ i m) (b:O3 E t x i=some a) :
  ∃v,(Instr.index t l m).run E.P w=.ok v w∧VR ρ a v:=by
 unfold O3 at b;split at b
 ·rename_i y;split at b
  ·rename_i k c r g;split at b
   ·rename_i s;cases b;obtain ⟨u,p⟩:=Ks s;have j:=Cl hi g;subst j;rw [CR] at p;cases o with
    |ss _=>
     obtain ⟨n,q⟩:∃n:Nat,Ac U.V c=n:=⟨(Ac U.V c).toNat,by omega⟩
     rw [q] at u p ⊢;have d:n<(AT U.V y).data.toList.length:=by omega
     refine ⟨.int .u8 ((AT U.V y).data.toList[n].toNat:Nat),?_,?_⟩
     ·simp only [Instr.index,asIntOf,F9,LE,E1,hE.run_und r];rw [if_pos (by omega),Aep,bf d]
      rfl
     ·have:=Cb ρ .u8 (.strAt y c)
      have e:Ac U.V (.strAt y c)=((AT U.V y).data.toList[n].toNat:Nat):=by
       show ((((Ab U.V y).toStr.data.toList[(Ab U.V c).toInt.toNat]?).getD 0).toNat:Int)=_
       have z:(Ab U.V c).toInt.toNat=n:=by
        have:(Ab U.V c).toInt=n:=q;omega
       have f:n<(Ab U.V y).toStr.data.toList.length:=d;rw [z,vx f];rfl
      rw [e] at this;exact this
   ·cases b
  ·cases b
 ·exact WV hE o (I6 hi) b
theorem ah (r:HR ρ h.blk.get w) {s d:TypeId} {x a:AV} {L:Value} {h':Aa} (u:VR ρ x L) (l:UT E s d x h=some (a,h')) (v:AX ρ h.nx h'.nx) :
  A4 E ρ h h' w (convert s d L) a:=by
 unfold UT at l;split at l
 ·rename_i y;split at l
  ·rename_i e N;split at l
   ·rename_i z;cases l;obtain ⟨z,c3⟩:=Au z;obtain ⟨c1,c2⟩:=Au z;have O:=aK c1;have Q:=Wz c2;obtain ⟨R,S⟩:=Option.isSome_iff_exists.1 c3;have us:=hE.run_und S w;have T:=hE.run_und N w;have W:=hE.run_und O w;cases u with
    |ss _=>
     generalize X:AT U.V y=t;have n:ρ h.nx=none:=v h.nx (IqQ _) (by simp [Aa.new])
     generalize m:grownCap w t.size 0 e=c;have A:t.size≤c:=by rw [←m];exact grownCap_ge w _ _ _
     generalize f:(t.data.map (fun b=>Value.int .u8 b.toNat)++Array.replicate (c-t.size) (.int .u8 0))=arr
     have q:arr.size=c:=by rw [←f];simp;omega
     have B:HR ρ h.blk.get {w with drawn:=w.drawn+1}:=r.same rfl
     have C:U.K e=some [.int .u8]:=by rw [hE.kd,←hE.ke];exact Q
     have M:(Ab U.V (.bytes y)).rows=t.data.toList.map fun b=>.row [.int b.toNat]:=by
      show ((Ab U.V y).toStr.data.toList.map _)=_;have:(Ab U.V y).toStr=t:=X;rw [this]
     have D:t.size=t.data.toList.length:=by simp
     have o:Br U.K ρ.imm [.int .u8] arr 0 (Ab U.V (.bytes y)).rows:=by
      rw [M];refine ⟨by simp only [List.length_map,List.length_singleton];omega,fun i hi=>?_,fun i j kd hi F=>?_⟩
      ·have k:i<t.data.toList.length:=by simpa using hi
       rw [ZK k];rfl
      ·have k:i<t.data.toList.length:=by simpa using hi
       have G:j=0:=by
        cases j with
        |zero=>rfl
        |succ j=>simp at F
       subst G;simp only [No,C2] at F;subst F;rw [ZK k];show DV U.K ρ.imm (.int .u8) (arr.getD (0+i*1+0) Go.undef) (.int (t.data.toList[i].toNat:Nat));rw [show 0+i*1+0=i by omega,←f,cK k]
       have Y:=t.data.toList[i].toNat_lt;exact .int .u8 _ _ (.inr ⟨by show (0:Int)≤_;omega,by show _≤(255:Int);omega⟩) rfl
     obtain ⟨p1,p2⟩:=B.new n (.arr e (.bytes y)) (.cells arr e (arr.size,arr.size+1)) arr.size ⟨_,_,e,_,C,rfl,rfl,.inr (IqQ _),o⟩ {w with drawn:=w.drawn+1,heap:=w.heap.push (.cells arr e (arr.size,arr.size+1))} rfl rfl rfl rfl
     refine ⟨_,.slice (some ⟨w.heap.size,0,none⟩) t.size c,_,?_,?_,p1,p2.drawn rfl rfl rfl rfl⟩
     ·have H:(choose (.appendCap t.size 0 e)).run E.P w=.ok c {w with drawn:=w.drawn+1}:=by rw [←m];simp [Question.forced,grownCap]
      have p:(convert s d (.string t)).run E.P w=(Conv.stringToBytes e t).run E.P w:=by
       cases R<;>simp [convert,us,T,W]
      rw [p];simp only [Conv.stringToBytes,F9,H,E1,newRow,Aee,LE,f];simp only [markStringish,F9,run_shape,E1];have I:({w with drawn:=w.drawn+1,heap:=w.heap.push (.cells arr e)}:World).shape? w.heap.size=some (e,arr.size):=by simp [World.shape?]
      rw [I];simp only [run_freeze,E1]
      have J:({w with drawn:=w.drawn+1,heap:=w.heap.push (.cells arr e)}:World).freeze ⟨w.heap.size,arr.size,none⟩ 1={w with drawn:=w.drawn+1,heap:=w.heap.push (.cells arr e (arr.size,arr.size+1))}:=by
       simp [World.freeze,KL]
      rw [J]
     ·have g:Ac U.V (.lenL (.bytes y))=(t.size:Nat):=by rw [Aq,M,D];simp
      have:=VR.asl (ρ:=ρ.upd h.nx ⟨w.heap.size,0,arr.size⟩) h.nx 1 (.lenL (.bytes y)) (.bc false) c ⟨w.heap.size,0,arr.size⟩ (Ren.upd_same _ _ _) (by rw [g];exact Int.natCast_nonneg _) (by rw [g];simpa using A) (by show 0+c*1≤arr.size;rw [q];omega) rfl
      rw [g] at this;simpa using this
   ·cases l
  ·exact Q4 hE r u l v
 ·exact Q4 hE r u l v
end
end Go.AE
namespace Go.AE
variable [Gl:AC]
variable [U:Unk]
theorem Kb {l u n:SE} (h:inB l u n=true):0≤Ac U.V l∧Ac U.V l≤Ac U.V u∧Ac U.V u≤Ac U.V n:=by
 unfold inB at h;obtain ⟨d,e⟩:=Au h;obtain ⟨f,g⟩:=Au d;have a:=Lm f;have b:=Lm g;have c:=Lm e;rw [Ay,tl] at a b c;have z:Ac U.V (.c 0)=0:=rfl;rw [z] at a;omega
theorem EN {c:Ren} {d e:SE} {o:Option AV} {b:Option Value} (f:∀a,o=some a→∃v,b=some v∧VR c a v) (g:o=none→b=none) (h:Hz d o=some e) :
  (b=none∧e=d)∨∃k,b=some (.int k (Ac U.V e)):=by
 cases o with
 |none=>cases h;exact .inl ⟨g rfl,rfl⟩
 |some a=>
  obtain ⟨v,i,j⟩:=f a rfl;simp only [Hz] at h;split at h
  ·rename_i k m l;cases h;exact .inr ⟨k,by rw [i,Cl j l]⟩
  ·cases h
theorem iE {d:Ren} {o:Option AV} {e:Option Value} (f:∀a,o=some a→∃v,e=some v∧VR d a v):∀a,o.map LS=some a→∃v,e=some v∧VR d a v:=by
 intro a c;cases o with
 |none=>cases c
 |some b=>
  simp only [pl,C2] at c;subst c;obtain ⟨v,g,h⟩:=f b rfl;exact ⟨v,g,I6 h⟩
omit U in
theorem Y5 [Facts] {o:Option AV} {o':Option Value} (h0:o=none→o'=none):o.map LS=none→o'=none:=by
 intro h;cases o with
 |none=>exact h0 rfl
 |some b=>cases h
theorem EI {P:Program} {w:World} {kd:IntKind} {x:Int} {y:Nat} {code:BoundsCode} (h0:0≤x) (a:x≤y):(Instr.sliceBound (.int kd x) y code).run P w=.ok x.toNat w:=by
 simp [Instr.sliceBound,asIntOf,h0,a]
theorem Hy {P:Program} {w:World} {b:Bool} {len cap:Nat} {l u dl du:SE} {f hi':Option Value} (j:(f=none∧l=dl)∨∃k,f=some (.int k (Ac U.V l))) (n:(hi'=none∧u=du)∨∃k,hi'=some (.int k (Ac U.V u)))
  (g:Ac U.V dl=0) (i:Ac U.V du=len) (h0:0≤Ac U.V l) (q:Ac U.V l≤Ac U.V u) (r:Ac U.V u≤len) (s:len≤cap) :
  (Instr.sliceBounds b len cap f hi' none).run P w=.ok ((Ac U.V l).toNat,(Ac U.V u).toNat,cap) w:=by
 rcases n with ⟨a,c⟩|⟨k,a⟩
 ·subst a;subst c;rcases j with ⟨d,e⟩|⟨k,d⟩
  ·subst d;subst e;simp [Instr.sliceBounds,g,i]
  ·subst d;have:=EI (P:=P) (w:=w) (kd:=k) (code:=.sliceB) h0 (show Ac U.V l≤(len:Int) by omega)
   simp [Instr.sliceBounds,i,this]
 ·subst a;have m:∀code,(Instr.sliceBound (.int k (Ac U.V u)) cap code).run P w=.ok (Ac U.V u).toNat w:=fun code=>EI (by omega) (by omega)
  rcases j with ⟨d,e⟩|⟨p,d⟩
  ·subst d;subst e;simp [Instr.sliceBounds,g,m]
  ·subst d;have:=EI (P:=P) (w:=w) (kd:=p) (code:=.sliceB) h0 (show Ac U.V l≤((Ac U.V u).toNat:Int) by omega)
   simp [Instr.sliceBounds,m,this]
theorem Er {y l u:SE}:(Ab U.V (.sub y l u)).rows=((Ab U.V y).rows.drop (Ac U.V l).toNat).take ((Ac U.V u).toNat-(Ac U.V l).toNat):=rfl
theorem LZ {rows:List D} {l n i:Nat} (hi:i<n):((rows.drop l).take n).getD i default=rows.getD (l+i) default:=by
 rw [F2,F2,List.getElem?_take_of_lt hi,l0]
theorem HR.swap {ρ:Ren} {h:Aa} {w:World} (t:HR ρ h.blk.get w) {r:Nat} (hl:h.blk.get r≠none) (x:Am) (hx:∀base,ρ r=some base→BR ρ x base w.heap[base.cb]?) :
  HR ρ (h.put r x).blk.get w∧Ext ρ ρ h (h.put r x) w w:=by
 have live:∀b,(h.put r x).blk.get b≠none→h.blk.get b≠none:=by
  intro b l;simp only [Aa.put,T.get_set] at l;by_cases e:r=b
  ·subst e;exact hl
  ·rw [if_neg e] at l;exact l
 refine ⟨⟨t.lt,?_,fun b b' c c' al I an l h2=>t.apart b b' c c' al I an (live b l) (live b' h2),t.imm,fun k arr b c hk I l=>t.off k arr b c hk I (live b l),t.glob⟩,
  ⟨Ren.le_refl ρ,IqQ _,fun _ _ e=>.inl e,G8.refl w,fun _ _ _=>rfl,⟨[r],rfl,?_⟩,fun b l=>.inl (live b l),fun _ _ e=>.inl e⟩⟩
 ·intro b c y I J;simp only [Aa.put,T.get_set] at J;by_cases e:r=b
  ·subst e;rw [if_pos rfl] at J;cases J;exact hx c I
  ·rw [if_neg e] at J;exact t.blk b c y I J
 ·intro b ar _;simp only [Aa.put,T.get_set];rw [if_neg (fun e=>ar (by simp [e]))]
section
variable {E:Env} (hE:OK E) {ρ:Ren} {h:Aa} {w:World}
include hE
theorem N9 (hr:HR ρ h.blk.get w) {t:TypeId} {x a:AV} {T:Value} {lo hi:Option AV} {f g:Option Value} {h':Aa} (Z:VR ρ x T)
  (J:∀a,lo=some a→∃v,f=some v∧VR ρ a v) (p:lo=none→f=none)
  (M:∀a,hi=some a→∃v,g=some v∧VR ρ a v) (r:hi=none→g=none)
  (d:Qu E t x lo hi h=some (a,h')):h'=h∧∃v,(Instr.sliceAt t T f g none).run E.P w=.ok v w∧VR ρ a v:=by
 unfold Qu at d;split at d
 ·rename_i e' y;split at d
  ·rename_i e l u hd N O;split at d
   ·rename_i ks hk;split at d
    ·rename_i Q;cases d;refine ⟨rfl,?_⟩;obtain ⟨c12,c3⟩:=Au Q;obtain ⟨c1,c2⟩:=Au c12;have h0:=Ax c1;subst h0;obtain ⟨b0,b1,W⟩:=Kb c3;have s:U.K e=some ks:=by rw [hE.kd,←hE.ke];exact hk
     have p1:=EN J p N;have p2:=EN M r O;rw [Aq] at W;cases Z with
     |dat _ _ ad n cap A=>
      have I:(Ab U.V y).rows.length=n∧n≤cap:=by
       cases A with
       |nil _ _ k B=>rw [B];exact ⟨rfl,IqQ _⟩
       |empty _ _ _ _ k B=>rw [B];exact ⟨rfl,Aec _⟩
       |slc _ _ _ _ _ _ _ _ _ _ q1 q2=>exact ⟨q1,q2⟩
      obtain ⟨I,Q⟩:=I;have q:=Hy (P:=E.P) (w:=w) (b:=true) (cap:=cap) p1 p2 rfl (by rw [Aq,I]) b0 b1 (by rw [←I];exact W) Q
      have C:(Instr.sliceAt t (.slice ad n cap) f g none).run E.P w=.ok (.slice (if cap=(Ac U.V l).toNat then ad else ad.map (·.add ((Ac U.V l).toNat*ks.length))) ((Ac U.V u).toNat-(Ac U.V l).toNat) (cap-(Ac U.V l).toNat)) w:=by
       simp [Instr.sliceAt,Instr.slice,hE.run_und hd,q,hE.run_szIs c2]
      refine ⟨_,C,?_⟩;refine .dat _ _ _ _ _ ?_;generalize X:(Ac U.V l).toNat=L at *;generalize Y:(Ac U.V u).toNat=H at *;have aa:L≤H:=by omega
      have R:H≤n:=by omega
      have c:(Ab U.V (.sub y l u)).rows.length=H-L:=by
       rw [Er,X,Y];simp;omega
      cases A with
      |nil _ _ k B=>
       have z:L=0∧H=0:=by omega
       obtain ⟨rfl,rfl⟩:=z;simp only [Nat.sub_self,if_true];exact .nil _ _ k (ie c)
      |empty _ a1 _ _ k B=>
       have z:L=0∧H=0:=by omega
       obtain ⟨rfl,rfl⟩:=z;have m:=ie c;split
       ·exact .empty _ _ _ _ k m
       ·exact .empty _ _ _ _ k m
      |slc _ b o _ _ _ ab arr D S ac ae k af F hv=>
       rw [s] at D;cases D;by_cases G:cap=L
       ·rw [if_pos G];have z:H-L=0:=by omega
        rw [z] at c ⊢;exact .empty _ _ _ _ k (ie c)
       ·rw [if_neg G];simp only [pl,BZ]
        have key:∀i,i<H-L→(Ab U.V (.sub y l u)).rows.getD i default=(Ab U.V y).rows.getD (L+i) default:=by
         intro i hi;rw [Er,X,Y,LZ hi]
        refine .slc _ _ _ _ _ _ ks arr s S c (by omega) k ?_ ?_ ?_
        ·have e1:L*ks.length+(H-L)*ks.length=H*ks.length:=by rw [←q0];congr 1;omega
         have e2:H*ks.length≤n*ks.length:=iv _ R;omega
        ·intro i hi;rw [key i hi];exact F _ (by omega)
        ·intro i j kd hi hj;rw [key i hi];have:=hv (L+i) j kd (by omega) hj
         rw [show o+L*ks.length+i*ks.length+j=o+(L+i)*ks.length+j by rw [q0];omega]
         exact this
    ·cases d
   ·cases d
  ·cases d
 ·cases d
theorem Oq (J:HR ρ h.blk.get w) {t e:TypeId} {b z:Nat} {n nl y l u K:SE} {L:Value} {a d:Option Value} (M:E.desc t=some (.slice e)) (c2:E.szIs e z=true) (N:h.blk.get b=some (.arr e y)) (S:VR ρ (.asl b z n nl) L)
  (p1:(a=none∧l=.c 0)∨∃k,a=some (.int k (Ac U.V l))) (p2:(d=none∧u=K)∨∃k,d=some (.int k (Ac U.V u))) (B:Ac U.V K=Ac U.V n) (r:Ac U.V l=0) (T:0≤Ac U.V u) (bn:Ac U.V u≤Ac U.V n) (W:Ac U.V u≤Ac U.V (.lenL y)) :
  A4 E ρ h (h.put b (.arr e (.sub y (.c 0) u))) w (Instr.sliceAt t L a d none) (.asl b z (.lenL (.sub y (.c 0) u)) nl):=by
 have A:Ac U.V (.lenL (.sub y (.c 0) u))=Ac U.V u:=by
  rw [Aq,Er];rw [Aq] at W;have:Ac U.V (.c 0)=0:=rfl;rw [this];simp;omega
 have s:∀base,ρ b=some base→BR ρ (.arr e (.sub y (.c 0) u)) base w.heap[base.cb]?:=by
  intro base g;obtain ⟨v,C,X,Y,D,F,G,H,m⟩:=J.blk b base _ g N;refine ⟨v,C,X,Y,D,F,G,H,?_⟩
  have x:(Ab U.V (.sub y (.c 0) u)).rows.length≤(Ab U.V y).rows.length:=by
   rw [Er];simp;omega
  have key:∀i,i<(Ab U.V (.sub y (.c 0) u)).rows.length→(Ab U.V (.sub y (.c 0) u)).rows.getD i default=(Ab U.V y).rows.getD i default:=by
   intro i hi;rw [Er] at hi ⊢;have:Ac U.V (.c 0)=0:=rfl;rw [this] at hi ⊢;rw [LZ (by simp at hi;omega)]
   congr 1
   simp
  refine ⟨?_,?_,?_⟩
  ·have:=m.1;have:=iv v.length x;omega
  ·intro i hi;rw [key i hi];exact m.2.1 i (by omega)
  ·intro i j kd hi Z;rw [key i hi];exact m.2.2 i j kd (by omega) Z
 obtain ⟨O,Q⟩:=J.swap (show h.blk.get b≠none by rw [N];exact F0 _) _ s
 cases S with
 |asl _ _ _ _ cap base g R qc qz I=>
  have q:=Hy (P:=E.P) (w:=w) (b:=true) (len:=(Ac U.V n).toNat) (cap:=cap) p1 p2 rfl (by omega) (by omega) (by omega) (by omega) qc
  rw [r] at q
  have f:(Instr.sliceAt t (.slice (some ⟨base.cb,base.co,none⟩) (Ac U.V n).toNat cap) a d none).run E.P w=.ok (.slice (some ⟨base.cb,base.co,none⟩) (Ac U.V u).toNat cap) w:=by
   simp [Instr.sliceAt,Instr.slice,hE.run_und M,q,hE.run_szIs c2,BZ]
  refine ⟨ρ,_,w,f,?_,O,Q⟩;have:=VR.asl (ρ:=ρ) b z (.lenL (.sub y (.c 0) u)) nl cap base g (by rw [A];exact T) (by rw [A];omega) qz I
  rw [A] at this;exact this
 |aslEnd _ _ _ _ ad R I=>
  have p:Ac U.V u=0:=by omega
  have q:=Hy (P:=E.P) (w:=w) (b:=true) (len:=0) (cap:=0) p1 p2 rfl (by rw [B,R];rfl) (by omega) (by omega) (by rw [p];exact Aeg _) (IqQ _)
  rw [r,p] at q
  have f:(Instr.sliceAt t (.slice ad 0 0) a d none).run E.P w=.ok (.slice ad 0 0) w:=by
   simp [Instr.sliceAt,Instr.slice,hE.run_und M,q,hE.run_szIs c2]
  exact ⟨ρ,_,w,f,.aslEnd _ _ _ _ _ (by rw [A];exact p) I,O,Q⟩
theorem Xi (s:HR ρ h.blk.get w) {t:TypeId} {x a:AV} {W:Value} {lo hi M:Option AV} {z A B:Option Value} {h':Aa} (H:VR ρ x W)
  (i:∀a,lo=some a→∃v,z=some v∧VR ρ a v) (d:lo=none→z=none)
  (j:∀a,hi=some a→∃v,A=some v∧VR ρ a v) (f:hi=none→A=none)
  (O:∀a,M=some a→∃v,B=some v∧VR ρ a v) (g:M=none→B=none)
  (Q:M≠none→hi≠none)
  (c:sliceB E t x lo hi M h=some (a,h')):A4 E ρ h h' w (Instr.sliceAt t W z A B) a:=by
 unfold sliceB at c;split at c
 ·have I:=g rfl;subst I;obtain ⟨rfl,q⟩:=N9 hE s H i d j f c;exact Bt s q
 ·rename_i y;have I:=g rfl;subst I;split at c
  ·rename_i l u N k m;split at c
   ·rename_i r;cases c;obtain ⟨J,C,D⟩:=Kb r;have p1:=EN i d k;have p2:=EN j f m;cases H with
    |ss _=>
     refine Bt s ⟨_,?_,.ss (.strSub y l u)⟩;rw [CR] at D;have K:(AT U.V y).size=(AT U.V y).data.toList.length:=by simp
     have q:=Hy (P:=E.P) (w:=w) (b:=false) (len:=(AT U.V y).size) (cap:=(AT U.V y).size) p1 p2 rfl (by rw [CR,K]) J C (by rw [K];exact D) (IqQ _)
     have e:AT U.V (.strSub y l u)=(AT U.V y).extract (Ac U.V l).toNat (Ac U.V u).toNat:=rfl;rw [e];simp [Instr.sliceAt,Instr.slice,hE.run_und N,q]
   ·cases c
  ·cases c
 ·rename_i b es n nl;have I:=g rfl;subst I;split at c
  ·rename_i e e' y N X;split at c
   ·rename_i r;obtain ⟨c12,c3⟩:=Au r;obtain ⟨c1,c2⟩:=Au c12;have h0:=Ax c1;subst h0;have L:=Ku c3;split at c
    ·rename_i l u k m;split at c
     ·rename_i F;split at c
      ·rename_i R;cases c;obtain ⟨J,C,D⟩:=Kb R;rw [B0] at J C
       have G:Ac U.V l=0:=by
        cases l<;>simp only [cu] at F<;>first|cases F|skip
        simpa [B0] using F
       exact Oq hE s N c2 X H (EN i d k) (EN j f m) L.symm G C (by rw [L];exact D) D
      ·cases c
     ·split at c;rename_i x' h1 Z;obtain ⟨σ,g1,Y,S⟩:=JI hE s H Z;obtain ⟨rfl,v,q1,q2⟩:=N9 hE Y g1 (fun a T=>let ⟨v,p,q⟩:=i a T;⟨v,p,q.mono S.le⟩) d (fun a T=>let ⟨v,p,q⟩:=j a T;⟨v,p,q.mono S.le⟩) f c
      exact ⟨σ,v,w,q1,q2,Y,S⟩
    ·cases c
   ·split at c
    ·rename_i l hv u k m;split at c
     ·rename_i r;cases c;obtain ⟨c1,r⟩:=Au r;obtain ⟨c2,r⟩:=Au r;obtain ⟨F,r⟩:=Au r;obtain ⟨c3,c4⟩:=Au r;have h0:=Ax c1;subst h0;obtain ⟨J,C,D⟩:=Kb c3;obtain ⟨_,_,b3⟩:=Kb c4;rw [B0] at J C
      have G:Ac U.V l=0:=by
       cases l<;>simp only [cu] at F<;>first|cases F|skip
       simpa [B0] using F
      exact Oq hE s N c2 X H (EN i d k) (EN j f m) rfl G C D b3
     ·cases c
    ·cases c
  ·cases c
 ·split at c
  ·rename_i a' hs;cases c
   exact Bt s (Xe hE s H (iE i) (Y5 d) (iE j) (Y5 f) (iE O) (Y5 g) (fun q=>by cases hi with
    |none=>exact absurd rfl (Q (fun e=>q (by rw [e];rfl)))
    |some a=>simp) hs)
  ·cases c
end
end Go.AE
namespace Go.AE
variable [Gl:AC]
variable [U:Unk]
theorem Hw {b:Ren} {x:AV} {a:Value} {e:SE} (c:VR b x a) (h:Sp x=some e):a=.string (AT U.V e):=by
 cases c<;>simp only [Sp] at h<;>first | (cases h;done)|skip
 ·rename_i s;cases h
  have d:AT U.V (.strc s.data.toList.length (AB s.data.toList))=s:=by
   show (⟨(C9 _ _).toArray⟩:ByteArray)=s;rw [D4 (U:=U)]
  rw [d]
 ·cases h;rfl
theorem JK {d:Ren} {x:AV} {c:Value} {e:SE} (f:VR d x c) (h:Mm x=some e):c=.bool (Ah U.V e):=by
 cases f
 case bool b=>simp only [Mm,C2] at h;subst h;rfl
 case sb p a=>
  cases p with
  |true=>
   simp only [Mm,C2] at h;subst h;have:Ah U.V (.and a (.bc true))=(Ah U.V a&&true):=rfl;rw [this];cases Ah U.V a<;>rfl
  |false=>
   simp only [Mm,C2] at h;subst h;have:Ah U.V (.neg a)=(!Ah U.V a):=rfl;rw [this];cases Ah U.V a<;>rfl
 all_goals (simp only [Mm] at h;cases h)
theorem VG (a b:SE):Ah U.V (dR a b)=(Ah U.V a&&Ah U.V b):=by
 unfold dR;split
 ·show Ah U.V a=(Ah U.V a&&true);rw [Bool.and_true]
 ·rfl
theorem VF (a b:SE):Ah U.V (kw a b)=(Ac U.V a==Ac U.V b):=by
 unfold kw;split<;>rfl
theorem VX (a b:SE):Ah U.V (gS a b)=(Ah U.V a==Ah U.V b):=by
 show (!((!(Ah U.V a&&Ah U.V b))&&(!((!Ah U.V a)&&(!Ah U.V b)))))=_;cases Ah U.V a<;>cases Ah U.V b<;>rfl
section
variable {E:Env} (hE:OK E) {ρ:Ren} {w:World}
include hE
theorem IB {d:Nat} (ih:∀(t:TypeId) (x y:AV) (r:SE) (j k:Value),Ih E d t x y=some r→VR ρ x j→VR ρ y k→(Op.equalIn d t j k).run E.P w=.ok (Ah U.V r) w)
  {l m:List AV} {c g:List Value} (n:VL ρ l c) (o:VL ρ m g):∀{fs:List Field} {r:SE},Fv E (Ih E d) l m fs=some r→
  (Op.eqFields d c.toArray g.toArray fs).run E.P w=.ok (Ah U.V r) w
 |[],r,h=>by simp only [Fv,C2] at h;subst h;simp only [Op.eqFields,LE];rfl
 |f::fs,r,h=>by
  simp only [Fv] at h;split at h
  ·cases h
  ·rename_i p;have i:f.name≠ "_":=by simpa using p
   split at h
   ·rename_i a b q s;split at h
    ·rename_i e G u v;cases h;obtain ⟨H,z,A⟩:=hE.run_part q n w;obtain ⟨I,B,C⟩:=hE.run_part s o w;have D:=ih _ _ _ _ _ _ u A C;have F:=IB ih n o v;simp only [Op.eqFields,ne_eq,i,not_false_eq_true,if_true,F9,z,B,D,E1,VG];cases Ah U.V e with
     |true=>simp only [Bool.not_true,ei,ws,Bool.true_and];exact F
     |false=>simp
    ·cases h
   ·cases h
theorem K2 {d:Nat} (ih:∀(t:TypeId) (x y:AV) (r:SE) (g j:Value),Ih E d t x y=some r→VR ρ x g→VR ρ y j→(Op.equalIn d t g j).run E.P w=.ok (Ah U.V r) w)
  {l m:List AV} {c f:List Value} (o:VL ρ l c) (p:VL ρ m f) {e:TypeId} {n:Nat}:∀{k i:Nat} {r:SE},GU E (Ih E d) e n l m k i=some r→
  (Op.eqItems d e n c.toArray f.toArray (List.range' i k)).run E.P w=.ok (Ah U.V r) w
 |0,i,r,h=>by simp only [GU,C2] at h;subst h;simp only [List.range'_zero,Op.eqItems,LE];rfl
 |k+1,i,r,h=>by
  simp only [GU] at h;split at h
  ·rename_i a b q s;split at h
   ·rename_i x y u v;cases h;obtain ⟨G,z,A⟩:=hE.run_part q o w;obtain ⟨H,B,C⟩:=hE.run_part s p w;have D:=ih _ _ _ _ _ _ u A C;have F:=K2 ih o p v;simp only [List.range'_succ,Op.eqItems,F9,z,B,D,E1,VG];cases Ah U.V x with
    |true=>simp only [Bool.not_true,ei,ws,Bool.true_and];exact F
    |false=>simp
   ·cases h
  ·cases h
theorem PZ:∀(d:Nat) (t:TypeId) (x y:AV) (r:SE) (s u:Value),Ih E d t x y=some r→VR ρ x s→VR ρ y u→(Op.equalIn d t s u).run E.P w=.ok (Ah U.V r) w:=by
 intro d
 induction d with
 |zero=>intro t x y r s u h;simp [Ih] at h
 |succ d ih=>
  intro t x y r s u h j l;simp only [Ih] at h;split at h
  ·rename_i c;have m:=hE.run_und c w;split at h
   ·rename_i a b n o;cases h;rw [JK j n,JK l o,VX];simp [Op.equalIn,m]
   ·cases h
  ·rename_i I c;have m:=hE.run_und c w;split at h
   ·rename_i k a D b n o;split at h
    ·rename_i v;cases h;have v:k=D:=by simpa using v
     subst v;rw [Cl j n,Cl l o,VF];simp [Op.equalIn,m]
    ·cases h
   ·cases h
  ·rename_i c;have m:=hE.run_und c w;split at h
   ·rename_i a b n o;cases h;rw [Hw j n,Hw l o]
    have e:Ah U.V (.eqSS a b)=((AT U.V a).toList==(AT U.V b).toList):=by
     rw [M0,Cq]
    rw [e];simp only [Op.equalIn,F9,m,E1,LE];rw [beq_toListBytes]
   ·cases h
  ·rename_i fs c;split at h
   ·rename_i F G;split at h
    ·cases h
    ·rename_i H;cases j with
     |agg _ g a1 a2=>
      cases l with
      |agg _ i z A=>
       have f:=hE.und c;have p:E.P.fieldsOf t=fs:=by simp [Program.fieldsOf,f]
       rw [run_equalIn_struct w d t g.toArray i.toArray (by rw [p];exact f) H,p]
       exact IB hE ih ⟨a1,a2⟩ ⟨z,A⟩ h
   ·cases h
  ·rename_i len e c;split at h
   ·rename_i F G;split at h
    ·rename_i C;cases j with
     |agg _ g a1 a2=>
      cases l with
      |agg _ i z A=>
       unfold Env.has at C;cases hi:E.ty.get e with
       |none=>simp [hi] at C
       |some q=>
        have B:E.P.cellsOf e=E.size e:=by simp [Program.cellsOf,hE.ty e q hi,Env.size,hi]
        rw [run_equalIn_array w d g.toArray i.toArray (hE.und c) (hE.ty e q hi),B,List.range_eq_range'];exact K2 hE ih ⟨a1,a2⟩ ⟨z,A⟩ h
    ·cases h
   ·cases h
  ·cases h
theorem X1 {c:BinOp} {t:TypeId} {ox k:Operand} {x y r:AV} {g h:Value} (l:VR ρ x g) (m:VR ρ y h) (a:XS E c t x y=some r) :
  ∃v,(do eqGuard c t ox k g h;binOp c t g h:Sem Value).run E.P w=.ok v w∧VR ρ r v:=by
 unfold XS at a;split at a
 ·rename_i z A;split at a
  ·cases a
  ·rename_i j;split at a
   ·rename_i e p;have b:=PZ (w:=w) hE 10000 t _ _ e g h p l m;cases l with
    |agg _ d a1 a2=>
     cases m with
     |agg _ f B C=>
      have n:(eqGuard c t ox k (.agg d.toArray) (.agg f.toArray)).run E.P w=.ok () w:=B2 (by simp) (fun _ _=>j)
      obtain ⟨s,u⟩:=Eh t (.agg d.toArray) (.agg f.toArray) (by simp) (by simp) (by simp) (by simp)
      split at a
      ·rename_i q i;cases a;have o:=GV ρ q e;cases c<;>simp only [BP,C2] at i<;>first | (cases i;done)|skip
       ·subst i;refine ⟨.bool (Ah U.V e),?_,?_⟩
        ·simp only [F9,n,E1,s,Op.equal,Op.maxDepth,b,LE]
        ·rwa [show (Ah U.V e==true)=Ah U.V e by cases Ah U.V e<;>rfl] at o
       ·subst i;refine ⟨.bool (!Ah U.V e),?_,?_⟩
        ·simp only [F9,n,E1,u,Op.equal,Op.maxDepth,b,LE]
        ·rwa [show (Ah U.V e == !true) = !Ah U.V e by cases Ah U.V e<;>rfl] at o
      ·cases a
   ·cases a
 ·cases a
theorem ka {t:TypeId} {k key:AV} {d a:Value} {b:Bool} (h:eqK E t k key=some b) (f:VR ρ k d) (g:VR ρ key a):(Op.equal t d a).run E.P w=.ok b w:=by
 unfold eqK at h;split at h
 ·rename_i c i;cases h;exact T0 (w:=w) hE 10000 t k key b d a i f g
 ·split at h
  ·rename_i e j;have:=PZ (w:=w) hE 10000 t k key e d a j f g;rw [Av U.ok h] at this;exact this
  ·cases h
theorem KN {t:TypeId} {k:AV} {g:Value} (l:VR ρ k g):∀{j:List AA} {c:List MapEntry} {i:Nat} {r:Option (Nat×AV)},ER ρ j c→E7 E t k j i=some r→
  ∃d,FR ρ r d∧(Instr.findAsking t g c i).run E.P w=.ok d w
 |[],[],i,r,_,h=>by
  simp only [E7,C2] at h;subst h;exact ⟨none,trivial,by simp [Instr.findAsking]⟩
 |e::j,m::c,i,r,⟨n,o,u,p⟩,h=>by
  simp only [E7] at h;cases f:eqK E t k e.key with
  |none=>simp [f] at h
  |some b=>
   have a:(Op.equal t g m.key).run E.P w=.ok b w:=ka hE f l n;cases b with
   |true=>
    simp only [f,C2] at h;subst h;exact ⟨some (i,m.val),⟨rfl,o⟩,by simp [Instr.findAsking,a]⟩
   |false=>
    simp only [f] at h;obtain ⟨d,q,s⟩:=KN l p h;exact ⟨d,q,by simp [Instr.findAsking,a,s]⟩
omit hE in
theorem JA {d:Nat} {t:TypeId} {ds:TypeDesc} (hd:E.desc t=some ds) {x y:AV} {e:SE} {b:Bool} {xv yv:Value} (he:Ih E (d+1) t x y=some e) (hb:Ah U.V e=b) (hx:VR ρ x xv) (hy:VR ρ y yv) :
  Instr.sameNow ds xv yv=some b∨∀u v,Instr.sameNow ds u v=none:=by
 simp only [Ih,hd] at he;cases ds with
 |int q=>
  simp only at he;split at he
  ·rename_i k a k' c h1 h2;split at he
   ·rename_i hk;cases he;have hk:k=k':=by simpa using hk
    subst hk;rw [Cl hx h1,Cl hy h2];rw [VF] at hb;exact .inl (by simp [Instr.sameNow,hb])
   ·cases he
  ·cases he
 |string=>
  simp only at he;split at he
  ·rename_i a c h1 h2;cases he;rw [Hw hx h1,Hw hy h2];rw [M0,Cq] at hb;exact .inl (by simp only [Instr.sameNow];rw [beq_toListBytes,hb])
  ·cases he
 |bool=>
  simp only at he;split at he
  ·rename_i a c h1 h2;cases he;rw [JK hx h1,JK hy h2];rw [VX] at hb;exact .inl (by simp [Instr.sameNow,hb])
  ·cases he
 |_=>exact .inr (fun u v=>by cases u<;>cases v<;>rfl)
omit hE in
theorem Rb {t:TypeId} {ds:TypeDesc} (hd:E.desc t=some ds) {x y:AV} {b:Bool} {xv yv:Value} (ha:eqK E t x y=some b) (hx:VR ρ x xv) (hy:VR ρ y yv) :
  Instr.sameNow ds xv yv=some b∨∀u v,Instr.sameNow ds u v=none:=by
 unfold eqK at ha;split at ha
 ·rename_i c hc;cases ha;exact MX (d:=9999) hd hc hx hy
 ·split at ha
  ·rename_i e he;have hb:=Av U.ok ha;exact JA (d:=9999) hd he hb hx hy
  ·cases ha
omit hE in
theorem KY {t:TypeId} {ds:TypeDesc} (hd:E.desc t=some ds) {k:AV} {kv:Value} (hk:VR ρ k kv) (hq:¬∀u v,Instr.sameNow ds u v=none):∀{es:List AA} {es':List MapEntry} {i:Nat} {r:Option (Nat×AV)},ER ρ es es'→E7 E t k es i=some r→
  ∃r',FR ρ r r'∧Instr.findNow ds kv es' i=some r'
 |[],[],i,r,_,h=>by
  simp only [E7,C2] at h;subst h;exact ⟨none,trivial,rfl⟩
 |e::es,e'::es',i,r,⟨h1,h2,h3,h4⟩,h=>by
  simp only [E7] at h;cases ha:eqK E t k e.key with
  |none=>simp [ha] at h
  |some b=>
   have hs:Instr.sameNow ds kv e'.key=some b:=(Rb hd ha hk h1).resolve_right hq;cases b with
   |true=>
    simp only [ha,C2] at h;subst h;exact ⟨some (i,e'.val),⟨rfl,h2⟩,by simp [Instr.findNow,hs]⟩
   |false=>
    simp only [ha] at h;obtain ⟨r',q1,q2⟩:=KY hd hk hq h4 h;exact ⟨r',q1,by simp [Instr.findNow,hs,q2]⟩
theorem KJ {t:TypeId} {ds:TypeDesc} (hd:E.desc t=some ds) {k:AV} {kv:Value} (hk:VR ρ k kv) {es:List AA} {es':List MapEntry} {r:Option (Nat×AV)} (he:ER ρ es es') (h:E7 E t k es 0=some r) :
  ∃r',FR ρ r r'∧(Instr.findKey t kv es').run E.P w=.ok r' w:=by
 by_cases hq:∀u v,Instr.sameNow ds u v=none
 ·cases es' with
  |nil=>
   cases es with
   |nil=>
    simp only [E7,C2] at h;subst h;exact ⟨none,trivial,by simp [Instr.findKey,hE.run_und hd,Instr.findNow]⟩
   |cons e es=>cases he
  |cons e' es'=>
   obtain ⟨r',q1,q2⟩:=KN (w:=w) hE hk he h;exact ⟨r',q1,by simp [Instr.findKey,hE.run_und hd,Instr.findNow,hq,q2]⟩
 ·obtain ⟨r',q1,q2⟩:=KY hd hk hq he h;exact ⟨r',q1,by simp [Instr.findKey,hE.run_und hd,q2]⟩
end
end Go.AE
namespace Go.AE
variable [Gl:AC]
section
variable [U:Unk]
theorem Za (V:Val):∀e:SE,Ah V e=(LJ e).all (Ah V):=by
 intro e
 induction e with
 |and a b c d=>
  show (Ah V a&&Ah V b)=(LJ a++LJ b).all (Ah V);rw [List.all_append,←c,←d]
 |bc b=>
  cases b with
  |true=>rfl
  |false=>rfl
 |_=>simp [LJ]
theorem Nb:∀{l m:List SE},Ll l m=true→l=m
 |[],[],_=>rfl
 |a::l,b::m,h=>by
  simp only [Ll] at h;obtain ⟨c,d⟩:=Au h;rw [SE.same_eq c,Nb d]
 |[],_::_,h=>by cases h
 |_::_,[],h=>by cases h
theorem OB (l b a c:Nat):strEq l b a c=strEq a c l b:=by
 simp only [strEq];rw [Bool.eq_iff_iff];simp only [F4,Nat.beq_eq];constructor<;>(rintro ⟨rfl,rfl⟩;exact ⟨rfl,rfl⟩)
theorem C6 {b:Type} {a:b} {l:List b} {d:b} (q:Nat):(a::l).getD (q+1) d=l.getD q d:=by
 simp [F2]
theorem NW {b:Type} {a:b} {l:List b} {d:b}:(a::l).getD 0 d=a:=rfl
theorem Sf (V:Val):∀(ks:List Kd) (i j:Nat) (c1 c2:List D),Kj ks=true→ks.length≤c1.length→ks.length≤c2.length→(∀q,q<ks.length→V.d (j+q)=c1.getD q default)→(∀q,q<ks.length→V.d (i+q)=c2.getD q default)→
  (UU i j ks).all (Ah V)=Ea ks c1 c2
 |[],i,j,c1,c2,_,_,_,_,_=>by cases c1<;>cases c2<;>rfl
 |k::ks,i,j,[],c2,_,h,_,_,_=>by simp at h
 |k::ks,i,j,_::_,[],_,_,h,_,_=>by simp at h
 |k::ks,i,j,a::c1,b::c2,c,p,r,n,o=>by
  have f:V.d j=a:=by have:=n 0 (by simp);simpa using this
  have g:V.d i=b:=by have:=o 0 (by simp);simpa using this
  have l:=fun m=>Sf V ks (i+1) (j+1) c1 c2 m (by simpa using p) (by simpa using r)
   (fun q s=>by have:=n (q+1) (by simp;omega);rw [C6] at this;rw [←this];congr 1;omega)
   (fun q s=>by have:=o (q+1) (by simp;omega);rw [C6] at this;rw [←this];congr 1;omega)
  simp only [UU,List.all_cons];cases k with
  |int k=>
   rw [l c];show (((V.d i).toInt==(V.d j).toInt)&&_)=((a.toInt==b.toInt)&&_);rw [f,g,Bool.beq_comm]
  |bool=>
   rw [l c]
   have:Ah V (iZ i j .bool)=(a.toBool==b.toBool):=by
    show (!((!(((V.d i).toBool&&true)&&((V.d j).toBool&&true)))&&(!((!((V.d i).toBool&&true))&&(!((V.d j).toBool&&true))))))=_;rw [f,g];cases a.toBool<;>cases b.toBool<;>rfl
   rw [this];rfl
  |str=>
   rw [l c]
   have:Ah V (iZ i j .str)=D.strEq a b:=by
    show strEq (V.d i).toStr.data.toList.length (AB (V.d i).toStr.data.toList) (V.d j).toStr.data.toList.length (AB (V.d j).toStr.data.toList)=_;rw [f,g,OB];rfl
   rw [this];rfl
  |slice e=>simp [Kj] at c
theorem da {ρ:Ren} {j:Nat} {kd:Kd} {v:Value} {K:TypeId→Option (List Kd)} {M:Nat→Option (Array Value)} (h:DV K M kd v (U.V.d j)):VR ρ (pU j kd) v:=by
 cases h with
 |int k n _ a e=>
  have:Ac U.V (.var j)=n:=e;rw [←this];exact .si k (.var j)
 |bool b _ e=>
  have:Ah U.V (.var j)=b:=e;have q:=VR.sb (ρ:=ρ) true (.var j);rw [this,show (b==true)=b by cases b<;>rfl] at q
  exact q
 |str s _ e=>
  have:AT U.V (.var j)=s:=e;rw [←this];exact .ss (.var j)
 |_=>exact .top _
theorem MU {a:Ren} {K:TypeId→Option (List Kd)} {M:Nat→Option (Array Value)}:∀(ks:List Kd) (j:Nat) (l:List Value),l.length=ks.length→(∀q kd,ks[q]?=some kd→DV K M kd (l.getD q Go.undef) (U.V.d (j+q)))→VL a (NK j ks) l
 |[],j,[],_,_=>VL.nil a
 |k::ks,j,v::l,h,g=>by
  refine VL.cons (da (g 0 k rfl)) (MU (K:=K) (M:=M) ks (j+1) l (by simpa using h) fun q kd b=>?_)
  have:=g (q+1) kd (by simpa using b)
  rw [C6] at this
  rwa [show j+(q+1)=j+1+q by omega] at this
theorem Qo {ρ:Ren} {l:List AV} {c:List Value} (h:VL ρ l c):VR ρ (NQ l) (U0 c):=by
 cases l with
 |nil=>
  have:=h.nil_inv;subst this;exact .agg [] [] h.1 h.2
 |cons a l=>
  obtain ⟨v,r,rfl,e,d⟩:=h.cons_inv;cases l with
  |nil=>
   have:=d.nil_inv;subst this;exact e
  |cons b l=>
   obtain ⟨f,g,rfl,_,_⟩:=d.cons_inv;exact .agg _ _ h.1 h.2
theorem V6 {K:TypeId→Option (List Kd)} {M:Nat→Option (Array Value)}:∀(ks:List Kd) (c l2:List Value) (c1 c2:List D),Kj ks=true→c.length=ks.length→l2.length=ks.length→(∀(j:Nat) kd,ks[j]?=some kd→DV K M kd (c.getD j Go.undef) (c1.getD j default))→(∀(j:Nat) kd,ks[j]?=some kd→DV K M kd (l2.getD j Go.undef) (c2.getD j default))→
  Ea ks c1 c2=true→c=l2
 |[],[],[],_,_,_,_,_,_,_,_=>rfl
 |k::ks,v::c,u::l2,[],c2,d,r,f,o,p,h=>by cases k<;>simp [Ea] at h
 |k::ks,v::c,u::l2,_::_,[],d,r,f,o,p,h=>by cases k<;>simp [Ea] at h
 |k::ks,v::c,u::l2,a::c1,b::c2,d,r,f,o,p,h=>by
  have s:=fun t z=>V6 ks c l2 c1 c2 t (by simpa using r) (by simpa using f)
   (fun q kd w=>by have:=o (q+1) kd (by simpa using w);rwa [C6,C6] at this)
   (fun q kd w=>by have:=p (q+1) kd (by simpa using w);rwa [C6,C6] at this) z
  have d1:=o 0 k rfl;have d2:=p 0 k rfl;simp only [NW] at d1 d2;cases k with
  |slice e=>simp [Kj] at d
  |int k=>
   simp only [Ea] at h;obtain ⟨g,i⟩:=Au h;rw [s d i];cases d1 with
   |int _ x _ _ l=>
    cases d2 with
    |int _ y _ _ m=>
     have:a.toInt=b.toInt:=by simpa using g
     rw [l,m] at this;rw [this]
  |bool=>
   simp only [Ea] at h;obtain ⟨g,i⟩:=Au h;rw [s d i];cases d1 with
   |bool x _ l=>
    cases d2 with
    |bool y _ m=>
     have:a.toBool=b.toBool:=by simpa using g
     rw [l,m] at this;rw [this]
  |str=>
   simp only [Ea] at h;obtain ⟨g,i⟩:=Au h;rw [s d i];cases d1 with
   |str x _ l=>
    cases d2 with
    |str y _ m=>
     have:a.toStr.toList=b.toStr.toList:=by
      have n:strEq a.toStr.data.toList.length (AB a.toStr.data.toList) b.toStr.data.toList.length (AB b.toStr.data.toList)=true:=g;rw [Cq] at n;simpa using n
     have f:a.toStr=b.toStr:=by
      rw [ByteArray.toList_eq,ByteArray.toList_eq] at this;exact ByteArray.ext (Array.toList_inj.1 this)
     rw [l,m] at f;rw [f]
theorem gL {E:Env} (hE:OK E) {m:Ren} {w:World} {j:TypeId} {ks:List Kd} (k:Hq E j ks=true) {a b:Value} {c1 c2:List D} {K:TypeId→Option (List Kd)} {M:Nat→Option (Array Value)} (y:KV K M ks a c1) (z:KV K M ks b c2)
  (A:ks.length≤c1.length) (B:ks.length≤c2.length) (c:∀q,q<ks.length→U.V.d (0+q)=c1.getD q default) (f:∀q,q<ks.length→U.V.d (ks.length+q)=c2.getD q default) :
  (Op.equal j b a).run E.P w=.ok (Ea ks c1 c2) w∧(∀l,E.desc j=some l→Instr.sameNow l b a=some (Ea ks c1 c2)∨∀u v,Instr.sameNow l u v=none)∧(Ea ks c1 c2=true→a=b):=by
 unfold Hq at k;split at k
 ·rename_i e n;obtain ⟨o,C⟩:=Au k
  have g:Ah U.V e=Ea ks c1 c2:=by
   rw [Za,Nb C];exact Sf U.V ks ks.length 0 c1 c2 o A B c f
  obtain ⟨p,a1,a2,a3,a4⟩:=y;obtain ⟨l2,r,s,b3,b4⟩:=z;have lt:∀{q:Nat} {kd:Kd},ks[q]?=some kd→q<ks.length:=fun h=>(Id.1 h).1
  have t:VR m (NQ (NK 0 ks)) a:=by
   rw [a1];exact Qo (MU (K:=K) (M:=M) ks 0 p a2 fun q kd i=>by rw [c q (lt i)];exact a4 q kd i)
  have x:VR m (NQ (NK ks.length ks)) b:=by
   rw [r];exact Qo (MU (K:=K) (M:=M) ks ks.length l2 s fun q kd i=>by rw [f q (lt i)];exact b4 q kd i)
  refine ⟨?_,?_,?_⟩
  ·have:=PZ (w:=w) hE 10000 j _ _ e b a n x t;rw [g] at this;exact this
  ·intro l F;exact JA (d:=9999) F n g x t
  ·intro G;rw [a1,r,V6 ks p l2 c1 c2 o a2 s a4 b4 G]
 ·cases k
@[reducible] def qd (U:Unk) (n:Nat) (c1 c2:List D):Unk where
 facts:=[]
 V:={d:=fun i=>if i<n then c1.getD i default else c2.getD (i-n) default,fn:=U.V.fn}
 K:=U.K
 R:=U.R
 hR:=U.hR
 ok:=by intro e b h;cases h
theorem YZ {E:Env} (hE:OK E) {w:World} {c:TypeId} {ks:List Kd} (e:Hq E c ks=true) {a b:Value} {c1 c2:List D} {K:TypeId→Option (List Kd)} {M:Nat→Option (Array Value)} (f:KV K M ks a c1) (g:KV K M ks b c2)
  (h:ks.length≤c1.length) (i:ks.length≤c2.length) :
  (Op.equal c b a).run E.P w=.ok (Ea ks c1 c2) w∧(∀d,E.desc c=some d→Instr.sameNow d b a=some (Ea ks c1 c2)∨∀u v,Instr.sameNow d u v=none)∧(Ea ks c1 c2=true→a=b):=by
 refine @gL _ (qd U ks.length c1 c2) E (@OK.mk _ (qd U ks.length c1 c2) E hE.ty hE.fn hE.num hE.clone hE.ixb hE.cnt hE.mixed hE.kd hE.ke hE.gl hE.ox) {m:=fun _=>none,imm:=fun _=>none} w c ks e a b c1 c2 K M f g h i ?_ ?_
 ·intro q j;show (if 0+q<ks.length then c1.getD (0+q) default else _)=_
  rw [if_pos (by omega),pc]
 ·intro q j;show (if ks.length+q<ks.length then _ else c2.getD (ks.length+q-ks.length) default)=_
  rw [if_neg (by omega),Aeh]
def K9 (ks:List Kd) (k:List D):List MapEntry→List D→Nat→Option (Nat×Value)
 |e::a,r::b,i=>match Ea ks r.cells k with
  |true=>some (i,e.val)
  |false=>K9 ks k a b (i+1)
 |_,_,_=>none
section
variable {E:Env} (hE:OK E) {w:World} {kt:TypeId} {ks vks:List Kd} (ht:Hq E kt ks=true) {K:TypeId→Option (List Kd)} {M:Nat→Option (Array Value)} {kv:Value} {k:List D} (hk:KV K M ks kv k) (hkl:ks.length≤k.length)
include hE ht hk hkl w
theorem KW:∀{a:List MapEntry} {b:List D} {i:Nat},Bp K M ks vks a b→(Instr.findAsking kt kv a i).run E.P w=.ok (K9 ks k a b i) w
 |[],[],i,_=>by simp [Instr.findAsking,K9]
 |e::a,r::b,i,⟨g,c,j,d⟩=>by
  obtain ⟨q,_,_⟩:=YZ (w:=w) hE ht c hk (by omega) hkl
  have f:=KW (i:=i+1) d;simp only [Instr.findAsking,K9,F9,q,E1];cases Ea ks r.cells k with
  |true=>simp
  |false=>simpa using f
 |[],_::_,_,h=>h.elim
 |_::_,[],_,h=>h.elim
theorem K1 {a:TypeDesc} (d:E.desc kt=some a) (f:¬∀u v,Instr.sameNow a u v=none):∀{b:List MapEntry} {c:List D} {i:Nat},Bp K M ks vks b c→Instr.findNow a kv b i=some (K9 ks k b c i)
 |[],[],i,_=>rfl
 |e::b,r::c,i,⟨m,g,n,j⟩=>by
  obtain ⟨_,q,_⟩:=YZ (w:=w) hE ht g hk (by omega) hkl
  have s:=(q a d).resolve_right f;have l:=K1 d f (i:=i+1) j;simp only [Instr.findNow,K9,s];cases Ea ks r.cells k with
  |true=>rfl
  |false=>exact l
 |[],_::_,_,h=>h.elim
 |_::_,[],_,h=>h.elim
theorem GK {d:TypeDesc} (b:E.desc kt=some d) {a:List MapEntry} {c:List D} (h:Bp K M ks vks a c):(Instr.findKey kt kv a).run E.P w=.ok (K9 ks k a c 0) w:=by
 by_cases f:∀u v,Instr.sameNow d u v=none
 ·cases a with
  |nil=>cases c with
   |nil=>simp [Instr.findKey,hE.run_und b,Instr.findNow,K9]
   |cons _ _=>exact h.elim
  |cons e a=>simp [Instr.findKey,hE.run_und b,Instr.findNow,f,KW (w:=w) hE ht hk hkl h]
 ·simp [Instr.findKey,hE.run_und b,K1 (w:=w) hE ht hk hkl b f h]
end
omit U in
theorem Hk {ks vks:List Kd} {K:TypeId→Option (List Kd)} {M:Nat→Option (Array Value)} {k:List D}:∀{es:List MapEntry} {rs:List D} (i:Nat),Bp K M ks vks es rs→
  (K9 ks k es rs i=none∧Ff ks k rs i = -1)∨∃n e r,K9 ks k es rs i=some (i+n,e.val)∧Ff ks k rs i=((i+n:Nat):Int)∧es[n]?=some e∧rs[n]?=some r∧Ea ks r.cells k=true
 |[],[],i,_=>.inl ⟨rfl,rfl⟩
 |e::es,r::rs,i,⟨h1,h2,h3,h4⟩=>by
  simp only [K9,Ff];cases hk:Ea ks r.cells k with
  |true=>exact .inr ⟨0,e,r,by simp,by simp,rfl,rfl,hk⟩
  |false=>
   rcases Hk (k:=k) (i+1) h4 with ⟨a,b⟩|⟨n,e',r',a,b,c,d,f⟩
   ·exact .inl ⟨a,b⟩
   ·exact .inr ⟨n+1,e',r',by show K9 ks k es rs (i+1)=_;rw [a,show i+1+n=i+(n+1) by omega],by show Ff ks k rs (i+1)=_;rw [b,show i+1+n=i+(n+1) by omega],by simpa using c,by simpa using d,f⟩
 |[],_::_,_,h=>h.elim
 |_::_,[],_,h=>h.elim
omit U in
theorem Bp.get {ks vks:List Kd} {K:TypeId→Option (List Kd)} {M:Nat→Option (Array Value)}:∀{es:List MapEntry} {rs:List D} {n:Nat} {e:MapEntry} {r:D},Bp K M ks vks es rs→es[n]?=some e→rs[n]?=some r→
  r.cells.length=ks.length+vks.length∧KV K M ks e.key r.cells∧KV K M vks e.val (r.cells.drop ks.length)
 |e::es,r::rs,0,e',r',⟨h1,h2,h3,h4⟩,g1,g2=>by
  simp only [No,C2] at g1 g2;subst g1;subst g2;exact ⟨h1,h2,h3⟩
 |e::es,r::rs,n+1,e',r',⟨h1,h2,h3,h4⟩,g1,g2=>h4.get (by simpa using g1) (by simpa using g2)
 |[],[],n,_,_,_,g1,_=>by simp at g1
 |[],_::_,_,_,_,h,_,_=>h.elim
 |_::_,[],_,_,_,h,_,_=>h.elim
omit U in
theorem Bp.push {ks vks:List Kd} {K:TypeId→Option (List Kd)} {M:Nat→Option (Array Value)} {x:MapEntry} {y:D} (h1:y.cells.length=ks.length+vks.length) (h2:KV K M ks x.key y.cells) (h3:KV K M vks x.val (y.cells.drop ks.length)):∀{es:List MapEntry} {rs:List D},Bp K M ks vks es rs→Bp K M ks vks (es++[x]) (rs++[y])
 |[],[],_=>⟨h1,h2,h3,trivial⟩
 |e::es,r::rs,⟨g1,g2,g3,g4⟩=>⟨g1,g2,g3,Bp.push h1 h2 h3 g4⟩
 |[],_::_,h=>h.elim
 |_::_,[],h=>h.elim
omit U in
theorem Bp.change {ks vks:List Kd} {K:TypeId→Option (List Kd)} {M:Nat→Option (Array Value)} {x:MapEntry} {y:D} (h1:y.cells.length=ks.length+vks.length) (h2:KV K M ks x.key y.cells) (h3:KV K M vks x.val (y.cells.drop ks.length)):∀{es es':List MapEntry} {rs rs':List D} (n:Nat),Bp K M ks vks es rs→es'.length=es.length→rs'.length=rs.length→
  (∀q,q≠n→es'[q]?=es[q]?)→(∀q,q≠n→rs'[q]?=rs[q]?)→(n<es.length→es'[n]?=some x)→(n<rs.length→rs'[n]?=some y)→Bp K M ks vks es' rs'
 |[],[],[],[],n,_,_,_,_,_,_,_=>trivial
 |e::es,e'::es',r::rs,r'::rs',0,⟨g1,g2,g3,g4⟩,l1,l2,a1,a2,a3,a4=>by
  have b1:=a3 (by simp)
  have b2:=a4 (by simp)
  simp only [No,C2] at b1 b2;subst b1;subst b2;have c1:es'=es:=List.ext_getElem? fun q=>by have:=a1 (q+1) (by omega);simpa using this
  have c2:rs'=rs:=List.ext_getElem? fun q=>by have:=a2 (q+1) (by omega);simpa using this
  rw [c1,c2];exact ⟨h1,h2,h3,g4⟩
 |e::es,e'::es',r::rs,r'::rs',n+1,⟨g1,g2,g3,g4⟩,l1,l2,a1,a2,a3,a4=>by
  have b1:=a1 0 (by omega)
  have b2:=a2 0 (by omega)
  simp only [No,C2] at b1 b2;subst b1;subst b2
  exact ⟨g1,g2,g3,Bp.change h1 h2 h3 n g4 (by simpa using l1) (by simpa using l2) (fun q hq=>by have:=a1 (q+1) (by omega);simpa using this) (fun q hq=>by have:=a2 (q+1) (by omega);simpa using this)
   (fun hn=>by have:=a3 (by simp;omega);simpa using this) (fun hn=>by have:=a4 (by simp;omega);simpa using this)⟩
 |[],_::_,_,_,_,_,l1,_,_,_,_,_=>by simp at l1
 |_::_,[],_,_,_,_,l1,_,_,_,_,_=>by simp at l1
 |[],[],_::_,_,_,h,_,_,_,_,_,_=>h.elim
 |[],[],[],_::_,_,_,_,l2,_,_,_,_=>by simp at l2
 |_::_,_::_,[],_,_,h,_,_,_,_,_,_=>h.elim
 |_::_,_::_,_::_,[],_,_,_,l2,_,_,_,_=>by simp at l2
end
end Go.AE

