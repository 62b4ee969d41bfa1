/- What is proved here: an evaluator of the model's steps that the kernel can run, and that whatever it answers is what the model does (part 4 of 8: AeSlc, AeEqS, AeMap, AeMap2, AeCat, AeOps19, AeOps20, AeStep1, AeStep2, AeStep3, AeStep4, AeStep5, AeStep6, AeStep7). Conditions: those that each theorem states; they hold of no one program. -/
import Derived.Test.YtmjeljjkhblgeaaGreatDoorBeC
set_option linter.unusedVariables false
set_option linter.unusedSectionVars false
set_option linter.unusedSimpArgs false
namespace Go.AE
variable [Gl:Ax]
variable [U:Unk]
theorem H7 {l u n:SE} (h:inB l u n=true):0≤Ag U.V l∧Ag U.V l≤Ag U.V u∧Ag U.V u≤Ag U.V n:=by
 unfold inB at h;obtain ⟨d,e⟩:=Ao h;obtain ⟨f,g⟩:=Ao d;have a:=G2 f;have b:=G2 g;have c:=G2 e;rw [Ar,decide_eq_false_iff_not] at a b c;have z:Ag U.V (.c 0)=0:=rfl;rw [z] at a;omega
theorem D1 {c:Ren} {d e:SE} {o:Option AV} {b:Option Value} (f:∀a,o=some a→∃v,b=some v∧VR c a v) (h0:o=none→b=none) (h:FY d o=some e) :
  (b=none∧e=d)∨∃k,b=some (.int k (Ag U.V e)):=by
 cases o with
 |none=>cases h;exact .inl ⟨h0 rfl,rfl⟩
 |some a=>
  obtain ⟨v,g,hr⟩:=f a rfl;simp only [FY] at h;split at h
  ·rename_i k j i;cases h;exact .inr ⟨k,by rw [g,Cj hr i]⟩
  ·cases h
theorem Y7 {d:Ren} {o:Option AV} {e:Option Value} (f:∀a,o=some a→∃v,e=some v∧VR d a v):∀a,o.map JE=some a→∃v,e=some v∧VR d a v:=by
 intro a c;cases o with
 |none=>cases c
 |some b=>
  simp only [Option.map_some,Option.some.injEq] at c;subst c;obtain ⟨v,g,h⟩:=f b rfl;exact ⟨v,g,Ha h⟩
omit U in
theorem Tv [Facts] {o:Option AV} {o':Option Value} (h0:o=none→o'=none):o.map JE=none→o'=none:=by
 intro h;cases o with
 |none=>exact h0 rfl
 |some b=>cases h
theorem DU {P:Program} {w:World} {kd:IntKind} {x:Int} {y:Nat} {code:BoundsCode} (h0:0≤x) (a:x≤y):(Instr.sliceBound (.int kd x) y code).run P w=.ok x.toNat w:=by
 simp [Instr.sliceBound,asIntOf,h0,a]
theorem FU {P:Program} {w:World} {b:Bool} {len cap:Nat} {l u dl du:SE} {f hi':Option Value} (j:(f=none∧l=dl)∨∃k,f=some (.int k (Ag U.V l))) (n:(hi'=none∧u=du)∨∃k,hi'=some (.int k (Ag U.V u)))
  (g:Ag U.V dl=0) (i:Ag U.V du=len) (h0:0≤Ag U.V l) (q:Ag U.V l≤Ag U.V u) (r:Ag U.V u≤len) (s:len≤cap) :
  (Instr.sliceBounds b len cap f hi' none).run P w=.ok ((Ag U.V l).toNat,(Ag U.V u).toNat,cap) w:=by
 rcases n with ⟨a,c⟩|⟨k,a⟩
 ·subst a;subst c;rcases j with ⟨d,e⟩|⟨k,d⟩
  ·subst d;subst e;simp [Instr.sliceBounds,g,i]
  ·subst d;have:=DU (P:=P) (w:=w) (kd:=k) (code:=.sliceB) h0 (show Ag U.V l≤(len:Int) by omega)
   simp [Instr.sliceBounds,i,this]
 ·subst a;have m:∀code,(Instr.sliceBound (.int k (Ag U.V u)) cap code).run P w=.ok (Ag U.V u).toNat w:=fun code=>DU (by omega) (by omega)
  rcases j with ⟨d,e⟩|⟨p,d⟩
  ·subst d;subst e;simp [Instr.sliceBounds,g,m]
  ·subst d;have:=DU (P:=P) (w:=w) (kd:=p) (code:=.sliceB) h0 (show Ag U.V l≤((Ag U.V u).toNat:Int) by omega)
   simp [Instr.sliceBounds,m,this]
theorem DB {y l u:SE}:(Af U.V (.sub y l u)).rows=((Af U.V y).rows.drop (Ag U.V l).toNat).take ((Ag U.V u).toNat-(Ag U.V l).toNat):=rfl
theorem JL {rows:List D} {l n i:Nat} (hi:i<n):((rows.drop l).take n).getD i default=rows.getD (l+i) default:=by
 rw [List.getD_eq_getElem?_getD,List.getD_eq_getElem?_getD,List.getElem?_take_of_lt hi,List.getElem?_drop]
theorem HR.swap {ρ:Ren} {h:Aa} {w:World} (hr:HR ρ h.blk.get w) {r:Nat} (hl:h.blk.get r≠none) (x:Ab) (hx:∀base,ρ r=some base→BR ρ x base w.heap[base.cb]?) :
  HR ρ (h.put r x).blk.get w∧Ext ρ ρ h (h.put r x) w w:=by
 have live:∀b,(h.put r x).blk.get b≠none→h.blk.get b≠none:=by
  intro b i;simp only [Aa.put,T.get_set] at i;by_cases e:r=b
  ·subst e;exact hl
  ·rw [if_neg e] at i;exact i
 refine ⟨⟨hr.lt,?_,fun b J c c' t j C i h2=>hr.apart b J c c' t j C (live b i) (live J h2),hr.imm,fun k arr b c hk j i=>hr.off k arr b c hk j (live b i),hr.glob⟩,
  ⟨Ren.le_refl ρ,Nat.le_refl _,fun _ _ e=>.inl e,Fu.refl w,fun _ _ _=>rfl,⟨[r],rfl,?_⟩,fun b i=>.inl (live b i),fun _ _ e=>.inl e⟩⟩
 ·intro b c y j l;simp only [Aa.put,T.get_set] at l;by_cases e:r=b
  ·subst e;rw [if_pos rfl] at l;cases l;exact hx c j
  ·rw [if_neg e] at l;exact hr.blk b c y j l
 ·intro b I _;simp only [Aa.put,T.get_set];rw [if_neg (fun e=>I (by simp [e]))]
section
variable {E:Env} (hE:OK E) {ρ:Ren} {h:Aa} {w:World}
include hE
theorem Ln (hr:HR ρ h.blk.get w) {t:TypeId} {x a:AV} {X:Value} {lo hi:Option AV} {g k:Option Value} {h':Aa} (hx:VR ρ x X)
  (M:∀a,lo=some a→∃v,g=some v∧VR ρ a v) (r:lo=none→g=none)
  (N:∀a,hi=some a→∃v,k=some v∧VR ρ a v) (s:hi=none→k=none)
  (f:M0 E t x lo hi h=some (a,h')):h'=h∧∃v,(Instr.sliceAt t X g k none).run E.P w=.ok v w∧VR ρ a v:=by
 unfold M0 at f;split at f
 ·rename_i e' y;split at f
  ·rename_i e l u hd O Q;split at f
   ·rename_i c hk;split at f
    ·rename_i R;cases f;refine ⟨rfl,?_⟩;obtain ⟨S,c3⟩:=Ao R;obtain ⟨c1,c2⟩:=Ao S;have h0:=As c1;subst h0;obtain ⟨b0,b1,Y⟩:=H7 c3;have A:U.K e=some c:=by rw [hE.kd,←hE.ke];exact hk
     have p1:=D1 M r O;have p2:=D1 N s Q;rw [Ak] at Y;cases hx with
     |dat _ _ ad n cap B=>
      have J:(Af U.V y).rows.length=n∧n≤cap:=by
       cases B with
       |nil _ _ m C=>rw [C];exact ⟨rfl,Nat.le_refl _⟩
       |empty _ _ _ _ m C=>rw [C];exact ⟨rfl,Nat.zero_le _⟩
       |slc _ _ _ _ _ _ _ _ _ _ q1 q2=>exact ⟨q1,q2⟩
      obtain ⟨J,R⟩:=J;have q:=FU (P:=E.P) (w:=w) (b:=true) (cap:=cap) p1 p2 rfl (by rw [Ak,J]) b0 b1 (by rw [←J];exact Y) R
      have D:(Instr.sliceAt t (.slice ad n cap) g k none).run E.P w=.ok (.slice (if cap=(Ag U.V l).toNat then ad else ad.map (·.add ((Ag U.V l).toNat*c.length))) ((Ag U.V u).toNat-(Ag U.V l).toNat) (cap-(Ag U.V l).toNat)) w:=by
       simp [Instr.sliceAt,Instr.slice,hE.run_und hd,q,hE.run_szIs c2]
      refine ⟨_,D,?_⟩;refine .dat _ _ _ _ _ ?_;generalize Z:(Ag U.V l).toNat=L at *;generalize hH:(Ag U.V u).toNat=H at *;have aa:L≤H:=by omega
      have T:H≤n:=by omega
      have d:(Af U.V (.sub y l u)).rows.length=H-L:=by
       rw [DB,Z,hH];simp;omega
      cases B with
      |nil _ _ m C=>
       have z:L=0∧H=0:=by omega
       obtain ⟨rfl,rfl⟩:=z;simp only [Nat.sub_self,if_true];exact .nil _ _ m (List.eq_nil_of_length_eq_zero d)
      |empty _ a1 _ _ m C=>
       have z:L=0∧H=0:=by omega
       obtain ⟨rfl,rfl⟩:=z;have p:=List.eq_nil_of_length_eq_zero d;split
       ·exact .empty _ _ _ _ m p
       ·exact .empty _ _ _ _ m p
      |slc _ b o _ _ _ ab arr F W ac ae m af G hv=>
       rw [A] at F;cases F;by_cases I:cap=L
       ·rw [if_pos I];have z:H-L=0:=by omega
        rw [z] at d ⊢;exact .empty _ _ _ _ m (List.eq_nil_of_length_eq_zero d)
       ·rw [if_neg I];simp only [Option.map_some,BL]
        have key:∀i,i<H-L→(Af U.V (.sub y l u)).rows.getD i default=(Af U.V y).rows.getD (L+i) default:=by
         intro i hi;rw [DB,Z,hH,JL hi]
        refine .slc _ _ _ _ _ _ c arr A W d (by omega) m ?_ ?_ ?_
        ·have e1:L*c.length+(H-L)*c.length=H*c.length:=by rw [←Nat.add_mul];congr 1;omega
         have e2:H*c.length≤n*c.length:=Nat.mul_le_mul_right _ T;omega
        ·intro i hi;rw [key i hi];exact G _ (by omega)
        ·intro i j kd hi hj;rw [key i hi];have:=hv (L+i) j kd (by omega) hj
         rw [show o+L*c.length+i*c.length+j=o+(L+i)*c.length+j by rw [Nat.add_mul];omega]
         exact this
    ·cases f
   ·cases f
  ·cases f
 ·cases f
theorem LB (hr:HR ρ h.blk.get w) {t e:TypeId} {b A:Nat} {n C y l u L:SE} {M:Value} {d f:Option Value} (N:E.desc t=some (.slice e)) (O:E.szIs e A=true) (Q:h.blk.get b=some (.arr e y)) (Y:VR ρ (.asl b A n C) M)
  (R:(d=none∧l=.c 0)∨∃k,d=some (.int k (Ag U.V l))) (S:(f=none∧u=L)∨∃k,f=some (.int k (Ag U.V u))) (D:Ag U.V L=Ag U.V n) (s:Ag U.V l=0) (Z:0≤Ag U.V u) (bn:Ag U.V u≤Ag U.V n) (b2:Ag U.V u≤Ag U.V (.lenL y)) :
  AH E ρ h (h.put b (.arr e (.sub y (.c 0) u))) w (Instr.sliceAt t M d f none) (.asl b A (.lenL (.sub y (.c 0) u)) C):=by
 have B:Ag U.V (.lenL (.sub y (.c 0) u))=Ag U.V u:=by
  rw [Ak,DB];rw [Ak] at b2;have:Ag U.V (.c 0)=0:=rfl;rw [this];simp;omega
 have v:∀a,ρ b=some a→BR ρ (.arr e (.sub y (.c 0) u)) a w.heap[a.cb]?:=by
  intro a m;obtain ⟨x,F,et,fz,G,H,I,J,p⟩:=hr.blk b a _ m Q;refine ⟨x,F,et,fz,G,H,I,J,?_⟩
  have z:(Af U.V (.sub y (.c 0) u)).rows.length≤(Af U.V y).rows.length:=by
   rw [DB];simp;omega
  have key:∀i,i<(Af U.V (.sub y (.c 0) u)).rows.length→(Af U.V (.sub y (.c 0) u)).rows.getD i default=(Af U.V y).rows.getD i default:=by
   intro i hi;rw [DB] at hi ⊢;have:Ag U.V (.c 0)=0:=rfl;rw [this] at hi ⊢;rw [JL (by simp at hi;omega)]
   congr 1
   simp
  refine ⟨?_,?_,?_⟩
  ·have:=p.1;have:=Nat.mul_le_mul_right x.length z;omega
  ·intro i hi;rw [key i hi];exact p.2.1 i (by omega)
  ·intro i j kd hi hj;rw [key i hi];exact p.2.2 i j kd (by omega) hj
 obtain ⟨T,W⟩:=hr.swap (show h.blk.get b≠none by rw [Q];exact Option.some_ne_none _) _ v
 cases Y with
 |asl _ _ _ _ cap a m X qc qz K=>
  have q:=FU (P:=E.P) (w:=w) (b:=true) (len:=(Ag U.V n).toNat) (cap:=cap) R S rfl (by omega) (by omega) (by omega) (by omega) qc
  rw [s] at q
  have g:(Instr.sliceAt t (.slice (some ⟨a.cb,a.co,none⟩) (Ag U.V n).toNat cap) d f none).run E.P w=.ok (.slice (some ⟨a.cb,a.co,none⟩) (Ag U.V u).toNat cap) w:=by
   simp [Instr.sliceAt,Instr.slice,hE.run_und N,q,hE.run_szIs O,BL]
  refine ⟨ρ,_,w,g,?_,T,W⟩;have:=VR.asl (ρ:=ρ) b A (.lenL (.sub y (.c 0) u)) C cap a m (by rw [B];exact Z) (by rw [B];omega) qz K
  rw [B] at this;exact this
 |aslEnd _ _ _ _ ad X K=>
  have r:Ag U.V u=0:=by omega
  have q:=FU (P:=E.P) (w:=w) (b:=true) (len:=0) (cap:=0) R S rfl (by rw [D,X];rfl) (by omega) (by omega) (by rw [r];exact Int.le_refl _) (Nat.le_refl _)
  rw [s,r] at q
  have g:(Instr.sliceAt t (.slice ad 0 0) d f none).run E.P w=.ok (.slice ad 0 0) w:=by
   simp [Instr.sliceAt,Instr.slice,hE.run_und N,q,hE.run_szIs O]
  exact ⟨ρ,_,w,g,.aslEnd _ _ _ _ _ (by rw [B];exact r) K,T,W⟩
theorem RT (hr:HR ρ h.blk.get w) {t:TypeId} {x a:AV} {Z:Value} {lo hi L:Option AV} {s z A:Option Value} {h':Aa} (G:VR ρ x Z)
  (i:∀a,lo=some a→∃v,s=some v∧VR ρ a v) (d:lo=none→s=none)
  (j:∀a,hi=some a→∃v,z=some v∧VR ρ a v) (f:hi=none→z=none)
  (N:∀a,L=some a→∃v,A=some v∧VR ρ a v) (g:L=none→A=none)
  (O:L≠none→hi≠none)
  (c:sliceB E t x lo hi L h=some (a,h')):AH E ρ h h' w (Instr.sliceAt t Z s z A) a:=by
 unfold sliceB at c;split at c
 ·have H:=g rfl;subst H;obtain ⟨rfl,q⟩:=Ln hE hr G i d j f c;exact At hr q
 ·rename_i y;have H:=g rfl;subst H;split at c
  ·rename_i l u M k m;split at c
   ·rename_i r;cases c;obtain ⟨I,B,C⟩:=H7 r;have p1:=D1 i d k;have p2:=D1 j f m;cases G with
    |ss _=>
     refine At hr ⟨_,?_,.ss (.strSub y l u)⟩;rw [Cg] at C;have J:(AK U.V y).size=(AK U.V y).data.toList.length:=by simp
     have q:=FU (P:=E.P) (w:=w) (b:=false) (len:=(AK U.V y).size) (cap:=(AK U.V y).size) p1 p2 rfl (by rw [Cg,J]) I B (by rw [J];exact C) (Nat.le_refl _)
     have e:AK U.V (.strSub y l u)=(AK U.V y).extract (Ag U.V l).toNat (Ag U.V u).toNat:=rfl;rw [e];simp [Instr.sliceAt,Instr.slice,hE.run_und M,q]
   ·cases c
  ·cases c
 ·rename_i b es n nl;have H:=g rfl;subst H;split at c
  ·rename_i e e' y M hb;split at c
   ·rename_i r;obtain ⟨Q,R⟩:=Ao r;obtain ⟨S,T⟩:=Ao Q;have h0:=As S;subst h0;have K:=Ey R;split at c
    ·rename_i l u k m;split at c
     ·rename_i D;split at c
      ·rename_i W;cases c;obtain ⟨I,B,C⟩:=H7 W;rw [Bp] at I B
       have F:Ag U.V l=0:=by
        cases l<;>simp only [Vo] at D<;>first|cases D|skip
        simpa [Bp] using D
       exact LB hE hr M T hb G (D1 i d k) (D1 j f m) K.symm F B (by rw [K];exact C) C
      ·cases c
     ·split at c;rename_i x' h1 hf;obtain ⟨σ,g1,g2,X⟩:=Jn hE hr G hf;obtain ⟨rfl,v,q1,q2⟩:=Ln hE g2 g1 (fun a Y=>let ⟨v,p,q⟩:=i a Y;⟨v,p,q.mono X.le⟩) d (fun a Y=>let ⟨v,p,q⟩:=j a Y;⟨v,p,q.mono X.le⟩) f c
      exact ⟨σ,v,w,q1,q2,g2,X⟩
    ·cases c
   ·split at c
    ·rename_i l hv u k m;split at c
     ·rename_i r;cases c;obtain ⟨S,r⟩:=Ao r;obtain ⟨T,r⟩:=Ao r;obtain ⟨D,r⟩:=Ao r;obtain ⟨R,c4⟩:=Ao r;have h0:=As S;subst h0;obtain ⟨I,B,C⟩:=H7 R;obtain ⟨_,_,b3⟩:=H7 c4;rw [Bp] at I B
      have F:Ag U.V l=0:=by
       cases l<;>simp only [Vo] at D<;>first|cases D|skip
       simpa [Bp] using D
      exact LB hE hr M T hb G (D1 i d k) (D1 j f m) rfl F B C b3
     ·cases c
    ·cases c
  ·cases c
 ·split at c
  ·rename_i a' hs;cases c
   exact At hr (RP hE hr G (Y7 i) (Tv d) (Y7 j) (Tv f) (Y7 N) (Tv g) (fun q=>by cases hi with
    |none=>exact absurd rfl (O (fun e=>q (by rw [e];rfl)))
    |some a=>simp) hs)
  ·cases c
end
end Go.AE
namespace Go.AE
variable [Gl:Ax]
variable [U:Unk]
theorem FS {b:Ren} {x:AV} {a:Value} {e:SE} (c:VR b x a) (h:Od x=some e):a=.string (AK U.V e):=by
 cases c<;>simp only [Od] at h<;>first | (cases h;done)|skip
 ·rename_i s;cases h
  have d:AK U.V (.strc s.data.toList.length (Au s.data.toList))=s:=by
   show (⟨(CY _ _).toArray⟩:ByteArray)=s;rw [Dj (U:=U)]
  rw [d]
 ·cases h;rfl
theorem HH {d:Ren} {x:AV} {c:Value} {e:SE} (f:VR d x c) (h:J0 x=some e):c=.bool (Ai U.V e):=by
 cases f
 case bool b=>simp only [J0,Option.some.injEq] at h;subst h;rfl
 case sb p a=>
  cases p with
  |true=>
   simp only [J0,Option.some.injEq] at h;subst h;have:Ai U.V (.and a (.bc true))=(Ai U.V a&&true):=rfl;rw [this];cases Ai U.V a<;>rfl
  |false=>
   simp only [J0,Option.some.injEq] at h;subst h;have:Ai U.V (.neg a)=(!Ai U.V a):=rfl;rw [this];cases Ai U.V a<;>rfl
 all_goals (simp only [J0] at h;cases h)
theorem Qx (a b:SE):Ai U.V (Wc a b)=(Ai U.V a&&Ai U.V b):=by
 unfold Wc;split
 ·show Ai U.V a=(Ai U.V a&&true);rw [Bool.and_true]
 ·rfl
theorem Qw (a b:SE):Ai U.V (cC a b)=(Ag U.V a==Ag U.V b):=by
 unfold cC;split<;>rfl
theorem QF (a b:SE):Ai U.V (X7 a b)=(Ai U.V a==Ai U.V b):=by
 show (!((!(Ai U.V a&&Ai U.V b))&&(!((!Ai U.V a)&&(!Ai U.V b)))))=_;cases Ai U.V a<;>cases Ai U.V b<;>rfl
section
variable {E:Env} (hE:OK E) {ρ:Ren} {w:World}
include hE
theorem GP {d:Nat} (ih:∀(t:TypeId) (x y:AV) (r:SE) (k l:Value),Gv E d t x y=some r→VR ρ x k→VR ρ y l→(Op.equalIn d t k l).run E.P w=.ok (Ai U.V r) w)
  {m n:List AV} {c g:List Value} (o:VL ρ m c) (p:VL ρ n g):∀{i:List Field} {r:SE},Er E (Gv E d) m n i=some r→
  (Op.eqFields d c.toArray g.toArray i).run E.P w=.ok (Ai U.V r) w
 |[],r,h=>by simp only [Er,Option.some.injEq] at h;subst h;simp only [Op.eqFields,Sem.run_pure];rfl
 |f::i,r,h=>by
  simp only [Er] at h;split at h
  ·cases h
  ·rename_i q;have j:f.name≠ "_":=by simpa using q
   split at h
   ·rename_i a b s u;split at h
    ·rename_i e H v z;cases h;obtain ⟨I,A,B⟩:=hE.run_part s o w;obtain ⟨J,C,D⟩:=hE.run_part u p w;have F:=ih _ _ _ _ _ _ v B D;have G:=GP ih o p z;simp only [Op.eqFields,ne_eq,j,not_false_eq_true,if_true,Sem.run_bind,A,C,F,Result.andThen_ok,Qx];cases Ai U.V e with
     |true=>simp only [Bool.not_true,Bool.false_eq_true,if_false,Bool.true_and];exact G
     |false=>simp
    ·cases h
   ·cases h
theorem IP {d:Nat} (ih:∀(t:TypeId) (x y:AV) (r:SE) (g j:Value),Gv E d t x y=some r→VR ρ x g→VR ρ y j→(Op.equalIn d t g j).run E.P w=.ok (Ai U.V r) w)
  {l m:List AV} {c f:List Value} (o:VL ρ l c) (p:VL ρ m f) {e:TypeId} {n:Nat}:∀{k i:Nat} {r:SE},Fg E (Gv E d) e n l m k i=some r→
  (Op.eqItems d e n c.toArray f.toArray (List.range' i k)).run E.P w=.ok (Ai U.V r) w
 |0,i,r,h=>by simp only [Fg,Option.some.injEq] at h;subst h;simp only [List.range'_zero,Op.eqItems,Sem.run_pure];rfl
 |k+1,i,r,h=>by
  simp only [Fg] at h;split at h
  ·rename_i a b q s;split at h
   ·rename_i x y u v;cases h;obtain ⟨G,z,A⟩:=hE.run_part q o w;obtain ⟨H,B,C⟩:=hE.run_part s p w;have D:=ih _ _ _ _ _ _ u A C;have F:=IP ih o p v;simp only [List.range'_succ,Op.eqItems,Sem.run_bind,z,B,D,Result.andThen_ok,Qx];cases Ai U.V x with
    |true=>simp only [Bool.not_true,Bool.false_eq_true,if_false,Bool.true_and];exact F
    |false=>simp
   ·cases h
  ·cases h
theorem MF:∀(d:Nat) (t:TypeId) (x y:AV) (r:SE) (s u:Value),Gv E d t x y=some r→VR ρ x s→VR ρ y u→(Op.equalIn d t s u).run E.P w=.ok (Ai U.V r) w:=by
 intro d
 induction d with
 |zero=>intro t x y r s u h;simp [Gv] at h
 |succ d ih=>
  intro t x y r s u h j l;simp only [Gv] at h;split at h
  ·rename_i c;have m:=hE.run_und c w;split at h
   ·rename_i a b n o;cases h;rw [HH j n,HH l o,QF];simp [Op.equalIn,m]
   ·cases h
  ·rename_i L c;have m:=hE.run_und c w;split at h
   ·rename_i k a G b n o;split at h
    ·rename_i v;cases h;have v:k=G:=by simpa using v
     subst v;rw [Cj j n,Cj l o,Qw];simp [Op.equalIn,m]
    ·cases h
   ·cases h
  ·rename_i c;have m:=hE.run_und c w;split at h
   ·rename_i a b n o;cases h;rw [FS j n,FS l o]
    have e:Ai U.V (.eqSS a b)=((AK U.V a).toList==(AK U.V b).toList):=by
     rw [Kq,Cl]
    rw [e];simp only [Op.equalIn,Sem.run_bind,m,Result.andThen_ok,Sem.run_pure];rw [beq_toListBytes]
   ·cases h
  ·rename_i H c;split at h
   ·rename_i I J;split at h
    ·cases h
    ·rename_i K;cases j with
     |agg _ g z A=>
      cases l with
      |agg _ i B C=>
       have f:=hE.und c;have p:E.P.fieldsOf t=H:=by simp [Program.fieldsOf,f]
       rw [run_equalIn_struct w d t g.toArray i.toArray (by rw [p];exact f) K,p]
       exact GP hE ih ⟨z,A⟩ ⟨B,C⟩ h
   ·cases h
  ·rename_i len e c;split at h
   ·rename_i I J;split at h
    ·rename_i F;cases j with
     |agg _ g z A=>
      cases l with
      |agg _ i B C=>
       unfold Env.has at F;cases hi:E.ty.get e with
       |none=>simp [hi] at F
       |some q=>
        have D:E.P.cellsOf e=E.size e:=by simp [Program.cellsOf,hE.ty e q hi,Env.size,hi]
        rw [run_equalIn_array w d g.toArray i.toArray (hE.und c) (hE.ty e q hi),D,List.range_eq_range'];exact IP hE ih ⟨z,A⟩ ⟨B,C⟩ h
    ·cases h
   ·cases h
  ·cases h
theorem SA {b:BinOp} {t:TypeId} {ox j:Operand} {x y r:AV} {f g:Value} (k:VR ρ x f) (l:VR ρ y g) (hr:Sr E b t x y=some r) :
  ∃v,(do eqGuard b t ox j f g;binOp b t f g:Sem Value).run E.P w=.ok v w∧VR ρ r v:=by
 unfold Sr at hr;split at hr
 ·rename_i u z;split at hr
  ·cases hr
  ·rename_i i;split at hr
   ·rename_i e o;have a:=MF (w:=w) hE 10000 t _ _ e f g o k l;cases k with
    |agg _ c A B=>
     cases l with
     |agg _ d C D=>
      have m:(eqGuard b t ox j (.agg c.toArray) (.agg d.toArray)).run E.P w=.ok () w:=BC (by simp) (fun _ _=>i)
      obtain ⟨p,s⟩:=Dt t (.agg c.toArray) (.agg d.toArray) (by simp) (by simp) (by simp) (by simp)
      split at hr
      ·rename_i q h;cases hr;have n:=Fj ρ q e;cases b<;>simp only [Bw,Option.some.injEq] at h<;>first | (cases h;done)|skip
       ·subst h;refine ⟨.bool (Ai U.V e),?_,?_⟩
        ·simp only [Sem.run_bind,m,Result.andThen_ok,p,Op.equal,Op.maxDepth,a,Sem.run_pure]
        ·rwa [show (Ai U.V e==true)=Ai U.V e by cases Ai U.V e<;>rfl] at n
       ·subst h;refine ⟨.bool (!Ai U.V e),?_,?_⟩
        ·simp only [Sem.run_bind,m,Result.andThen_ok,s,Op.equal,Op.maxDepth,a,Sem.run_pure]
        ·rwa [show (Ai U.V e == !true) = !Ai U.V e by cases Ai U.V e<;>rfl] at n
      ·cases hr
   ·cases hr
 ·cases hr
theorem b8 {t:TypeId} {k key:AV} {d a:Value} {b:Bool} (h:eqK E t k key=some b) (f:VR ρ k d) (g:VR ρ key a):(Op.equal t d a).run E.P w=.ok b w:=by
 unfold eqK at h;split at h
 ·rename_i c i;cases h;exact Pn (w:=w) hE 10000 t k key b d a i f g
 ·split at h
  ·rename_i e j;have:=MF (w:=w) hE 10000 t k key e d a j f g;rw [Ap U.ok h] at this;exact this
  ·cases h
theorem Ix {t:TypeId} {k:AV} {g:Value} (l:VR ρ k g):∀{j:List Al} {c:List MapEntry} {i:Nat} {r:Option (Nat×AV)},ER ρ j c→D8 E t k j i=some r→
  ∃d,FR ρ r d∧(Instr.findAsking t g c i).run E.P w=.ok d w
 |[],[],i,r,_,h=>by
  simp only [D8,Option.some.injEq] at h;subst h;exact ⟨none,trivial,by simp [Instr.findAsking]⟩
 |e::j,m::c,i,r,⟨n,o,u,p⟩,h=>by
  simp only [D8] at h;cases f:eqK E t k e.key with
  |none=>simp [f] at h
  |some b=>
   have a:(Op.equal t g m.key).run E.P w=.ok b w:=b8 hE f l n;cases b with
   |true=>
    simp only [f,Option.some.injEq] at h;subst h;exact ⟨some (i,m.val),⟨rfl,o⟩,by simp [Instr.findAsking,a]⟩
   |false=>
    simp only [f] at h;obtain ⟨d,q,s⟩:=Ix l p h;exact ⟨d,q,by simp [Instr.findAsking,a,s]⟩
omit hE in
theorem Hy {d:Nat} {t:TypeId} {ds:TypeDesc} (hd:E.desc t=some ds) {x y:AV} {e:SE} {b:Bool} {xv yv:Value} (he:Gv E (d+1) t x y=some e) (hb:Ai U.V e=b) (hx:VR ρ x xv) (hy:VR ρ y yv) :
  Instr.sameNow ds xv yv=some b∨∀u v,Instr.sameNow ds u v=none:=by
 simp only [Gv,hd] at he;cases ds with
 |int q=>
  simp only at he;split at he
  ·rename_i k a k' c h1 h2;split at he
   ·rename_i hk;cases he;have hk:k=k':=by simpa using hk
    subst hk;rw [Cj hx h1,Cj hy h2];rw [Qw] at hb;exact .inl (by simp [Instr.sameNow,hb])
   ·cases he
  ·cases he
 |string=>
  simp only at he;split at he
  ·rename_i a c h1 h2;cases he;rw [FS hx h1,FS hy h2];rw [Kq,Cl] at hb;exact .inl (by simp only [Instr.sameNow];rw [beq_toListBytes,hb])
  ·cases he
 |bool=>
  simp only at he;split at he
  ·rename_i a c h1 h2;cases he;rw [HH hx h1,HH hy h2];rw [QF] at hb;exact .inl (by simp [Instr.sameNow,hb])
  ·cases he
 |_=>exact .inr (fun u v=>by cases u<;>cases v<;>rfl)
omit hE in
theorem Nu {t:TypeId} {ds:TypeDesc} (hd:E.desc t=some ds) {x y:AV} {b:Bool} {xv yv:Value} (ha:eqK E t x y=some b) (hx:VR ρ x xv) (hy:VR ρ y yv) :
  Instr.sameNow ds xv yv=some b∨∀u v,Instr.sameNow ds u v=none:=by
 unfold eqK at ha;split at ha
 ·rename_i c hc;cases ha;exact Kn (d:=9999) hd hc hx hy
 ·split at ha
  ·rename_i e he;have hb:=Ap U.ok ha;exact Hy (d:=9999) hd he hb hx hy
  ·cases ha
omit hE in
theorem II {t:TypeId} {ds:TypeDesc} (hd:E.desc t=some ds) {k:AV} {kv:Value} (hk:VR ρ k kv) (hq:¬∀u v,Instr.sameNow ds u v=none):∀{es:List Al} {es':List MapEntry} {i:Nat} {r:Option (Nat×AV)},ER ρ es es'→D8 E t k es i=some r→
  ∃r',FR ρ r r'∧Instr.findNow ds kv es' i=some r'
 |[],[],i,r,_,h=>by
  simp only [D8,Option.some.injEq] at h;subst h;exact ⟨none,trivial,rfl⟩
 |e::es,e'::es',i,r,⟨h1,h2,h3,h4⟩,h=>by
  simp only [D8] at h;cases ha:eqK E t k e.key with
  |none=>simp [ha] at h
  |some b=>
   have hs:Instr.sameNow ds kv e'.key=some b:=(Nu hd ha hk h1).resolve_right hq;cases b with
   |true=>
    simp only [ha,Option.some.injEq] at h;subst h;exact ⟨some (i,e'.val),⟨rfl,h2⟩,by simp [Instr.findNow,hs]⟩
   |false=>
    simp only [ha] at h;obtain ⟨r',q1,q2⟩:=II hd hk hq h4 h;exact ⟨r',q1,by simp [Instr.findNow,hs,q2]⟩
theorem Iu {t:TypeId} {ds:TypeDesc} (hd:E.desc t=some ds) {k:AV} {kv:Value} (hk:VR ρ k kv) {es:List Al} {es':List MapEntry} {r:Option (Nat×AV)} (he:ER ρ es es') (h:D8 E t k es 0=some r) :
  ∃r',FR ρ r r'∧(Instr.findKey t kv es').run E.P w=.ok r' w:=by
 by_cases hq:∀u v,Instr.sameNow ds u v=none
 ·cases es' with
  |nil=>
   cases es with
   |nil=>
    simp only [D8,Option.some.injEq] at h;subst h;exact ⟨none,trivial,by simp [Instr.findKey,hE.run_und hd,Instr.findNow]⟩
   |cons e es=>cases he
  |cons e' es'=>
   obtain ⟨r',q1,q2⟩:=Ix (w:=w) hE hk he h;exact ⟨r',q1,by simp [Instr.findKey,hE.run_und hd,Instr.findNow,hq,q2]⟩
 ·obtain ⟨r',q1,q2⟩:=II hd hk hq he h;exact ⟨r',q1,by simp [Instr.findKey,hE.run_und hd,q2]⟩
end
end Go.AE
namespace Go.AE
variable [Gl:Ax]
section
variable [U:Unk]
theorem TB (V:Val):∀e:SE,Ai V e=(Jv e).all (Ai V):=by
 intro e
 induction e with
 |and a b c d=>
  show (Ai V a&&Ai V b)=(Jv a++Jv b).all (Ai V);rw [List.all_append,←c,←d]
 |bc b=>
  cases b with
  |true=>rfl
  |false=>rfl
 |_=>simp [Jv]
theorem KC:∀{l m:List SE},I6 l m=true→l=m
 |[],[],_=>rfl
 |a::l,b::m,h=>by
  simp only [I6] at h;obtain ⟨c,d⟩:=Ao h;rw [SE.same_eq c,KC d]
 |[],_::_,h=>by cases h
 |_::_,[],h=>by cases h
theorem RQ (l b a c:Nat):strEq l b a c=strEq a c l b:=by
 simp only [strEq];rw [Bool.eq_iff_iff];simp only [Bool.and_eq_true,Nat.beq_eq];constructor<;>(rintro ⟨rfl,rfl⟩;exact ⟨rfl,rfl⟩)
theorem Cs {b:Type} {a:b} {l:List b} {d:b} (q:Nat):(a::l).getD (q+1) d=l.getD q d:=by
 simp [List.getD_eq_getElem?_getD]
theorem Le {b:Type} {a:b} {l:List b} {d:b}:(a::l).getD 0 d=a:=rfl
theorem N6 (V:Val):∀(c:List Kd) (i j:Nat) (g f:List D),Ib c=true→c.length≤g.length→c.length≤f.length→(∀q,q<c.length→V.d (j+q)=g.getD q default)→(∀q,q<c.length→V.d (i+q)=f.getD q default)→
  (P4 i j c).all (Ai V)=DK c g f
 |[],i,j,g,f,_,_,_,_,_=>by cases g<;>cases f<;>rfl
 |k::c,i,j,[],f,_,h,_,_,_=>by simp at h
 |k::c,i,j,_::_,[],_,_,h,_,_=>by simp at h
 |k::c,i,j,a::g,b::f,l,t,u,r,s=>by
  have m:V.d j=a:=by have:=r 0 (by simp);simpa using this
  have n:V.d i=b:=by have:=s 0 (by simp);simpa using this
  have o:=fun p=>N6 V c (i+1) (j+1) g f p (by simpa using t) (by simpa using u)
   (fun q v=>by have:=r (q+1) (by simp;omega);rw [Cs] at this;rw [←this];congr 1;omega)
   (fun q v=>by have:=s (q+1) (by simp;omega);rw [Cs] at this;rw [←this];congr 1;omega)
  simp only [P4,List.all_cons];cases k with
  |int k=>
   rw [o l];show (((V.d i).toInt==(V.d j).toInt)&&_)=((a.toInt==b.toInt)&&_);rw [m,n,Bool.beq_comm]
  |bool=>
   rw [o l]
   have:Ai V (ZI i j .bool)=(a.toBool==b.toBool):=by
    show (!((!(((V.d i).toBool&&true)&&((V.d j).toBool&&true)))&&(!((!((V.d i).toBool&&true))&&(!((V.d j).toBool&&true))))))=_;rw [m,n];cases a.toBool<;>cases b.toBool<;>rfl
   rw [this];rfl
  |str=>
   rw [o l]
   have:Ai V (ZI i j .str)=D.strEq a b:=by
    show strEq (V.d i).toStr.data.toList.length (Au (V.d i).toStr.data.toList) (V.d j).toStr.data.toList.length (Au (V.d j).toStr.data.toList)=_;rw [m,n,RQ];rfl
   rw [this];rfl
  |slice e=>simp [Ib] at l
theorem VM {ρ:Ren} {j:Nat} {kd:Kd} {v:Value} {K:TypeId→Option (List Kd)} {M:Nat→Option (Array Value)} (h:DV K M kd v (U.V.d j)):VR ρ (kT j kd) v:=by
 cases h with
 |int k n _ hr e=>
  have:Ag U.V (.var j)=n:=e;rw [←this];exact .si k (.var j)
 |bool b _ e=>
  have:Ai U.V (.var j)=b:=e;have q:=VR.sb (ρ:=ρ) true (.var j);rw [this,show (b==true)=b by cases b<;>rfl] at q
  exact q
 |str s _ e=>
  have:AK U.V (.var j)=s:=e;rw [←this];exact .ss (.var j)
 |_=>exact .top _
theorem Kk {b:Ren} {K:TypeId→Option (List Kd)} {M:Nat→Option (Array Value)}:∀(a:List Kd) (j:Nat) (l:List Value),l.length=a.length→(∀q kd,a[q]?=some kd→DV K M kd (l.getD q Go.undef) (U.V.d (j+q)))→VL b (K4 j a) l
 |[],j,[],_,_=>VL.nil b
 |k::a,j,v::l,h,g=>by
  refine VL.cons (VM (g 0 k rfl)) (Kk (K:=K) (M:=M) a (j+1) l (by simpa using h) fun q kd c=>?_)
  have:=g (q+1) kd (by simpa using c)
  rw [Cs] at this
  rwa [show j+(q+1)=j+1+q by omega] at this
theorem MX {ρ:Ren} {l:List AV} {c:List Value} (h:VL ρ l c):VR ρ (La l) (P8 c):=by
 cases l with
 |nil=>
  have:=h.nil_inv;subst this;exact .agg [] [] h.1 h.2
 |cons a l=>
  obtain ⟨v,r,rfl,e,d⟩:=h.cons_inv;cases l with
  |nil=>
   have:=d.nil_inv;subst this;exact e
  |cons b l=>
   obtain ⟨f,g,rfl,_,_⟩:=d.cons_inv;exact .agg _ _ h.1 h.2
theorem QM {K:TypeId→Option (List Kd)} {M:Nat→Option (Array Value)}:∀(c:List Kd) (d f:List Value) (s l:List D),Ib c=true→d.length=c.length→f.length=c.length→(∀(j:Nat) kd,c[j]?=some kd→DV K M kd (d.getD j Go.undef) (s.getD j default))→(∀(j:Nat) kd,c[j]?=some kd→DV K M kd (f.getD j Go.undef) (l.getD j default))→
  DK c s l=true→d=f
 |[],[],[],_,_,_,_,_,_,_,_=>rfl
 |k::c,v::d,u::f,[],l,g,z,i,t,w,h=>by cases k<;>simp [DK] at h
 |k::c,v::d,u::f,_::_,[],g,z,i,t,w,h=>by cases k<;>simp [DK] at h
 |k::c,v::d,u::f,a::s,b::l,g,z,i,t,w,h=>by
  have A:=fun B G=>QM c d f s l B (by simpa using z) (by simpa using i)
   (fun q kd C=>by have:=t (q+1) kd (by simpa using C);rwa [Cs,Cs] at this)
   (fun q kd C=>by have:=w (q+1) kd (by simpa using C);rwa [Cs,Cs] at this) G
  have x:=t 0 k rfl;have y:=w 0 k rfl;simp only [Le] at x y;cases k with
  |slice e=>simp [Ib] at g
  |int k=>
   simp only [DK] at h;obtain ⟨m,n⟩:=Ao h;rw [A g n];cases x with
   |int _ E _ _ o=>
    cases y with
    |int _ F _ _ p=>
     have:a.toInt=b.toInt:=by simpa using m
     rw [o,p] at this;rw [this]
  |bool=>
   simp only [DK] at h;obtain ⟨m,n⟩:=Ao h;rw [A g n];cases x with
   |bool E _ o=>
    cases y with
    |bool F _ p=>
     have:a.toBool=b.toBool:=by simpa using m
     rw [o,p] at this;rw [this]
  |str=>
   simp only [DK] at h;obtain ⟨m,n⟩:=Ao h;rw [A g n];cases x with
   |str E _ o=>
    cases y with
    |str F _ p=>
     have:a.toStr.toList=b.toStr.toList:=by
      have r:strEq a.toStr.data.toList.length (Au a.toStr.data.toList) b.toStr.data.toList.length (Au b.toStr.data.toList)=true:=m;rw [Cl] at r;simpa using r
     have i:a.toStr=b.toStr:=by
      rw [ByteArray.toList_eq,ByteArray.toList_eq] at this;exact ByteArray.ext (Array.toList_inj.1 this)
     rw [o,p] at i;rw [i]
theorem XX {E:Env} (hE:OK E) {p:Ren} {w:World} {m:TypeId} {a:List Kd} (n:FN E m a=true) {f g:Value} {b c:List D} {K:TypeId→Option (List Kd)} {M:Nat→Option (Array Value)} (H:KV K M a f b) (I:KV K M a g c)
  (J:a.length≤b.length) (L:a.length≤c.length) (i:∀q,q<a.length→U.V.d (0+q)=b.getD q default) (j:∀q,q<a.length→U.V.d (a.length+q)=c.getD q default) :
  (Op.equal m g f).run E.P w=.ok (DK a b c) w∧(∀o,E.desc m=some o→Instr.sameNow o g f=some (DK a b c)∨∀u v,Instr.sameNow o u v=none)∧(DK a b c=true→f=g):=by
 unfold FN at n;split at n
 ·rename_i e r;obtain ⟨s,N⟩:=Ao n
  have k:Ai U.V e=DK a b c:=by
   rw [TB,KC N];exact N6 U.V a a.length 0 b c s J L i j
  obtain ⟨t,x,y,a3,a4⟩:=H;obtain ⟨z,A,B,R,C⟩:=I;have lt:∀{q:Nat} {kd:Kd},a[q]?=some kd→q<a.length:=fun h=>(List.getElem?_eq_some_iff.1 h).1
  have F:VR p (La (K4 0 a)) f:=by
   rw [x];exact MX (Kk (K:=K) (M:=M) a 0 t y fun q kd l=>by rw [i q (lt l)];exact a4 q kd l)
  have G:VR p (La (K4 a.length a)) g:=by
   rw [A];exact MX (Kk (K:=K) (M:=M) a a.length z B fun q kd l=>by rw [j q (lt l)];exact C q kd l)
  refine ⟨?_,?_,?_⟩
  ·have:=MF (w:=w) hE 10000 m _ _ e g f r G F;rw [k] at this;exact this
  ·intro o O;exact Hy (d:=9999) O r k G F
  ·intro Q;rw [x,A,QM a t z b c s y B a4 C Q]
 ·cases n
@[reducible] def lj (U:Unk) (n:Nat) (a c:List D):Unk where
 facts:=[]
 V:={d:=fun i=>if i<n then a.getD i default else c.getD (i-n) default,fn:=U.V.fn}
 K:=U.K
 R:=U.R
 hR:=U.hR
 ok:=by intro e b h;cases h
theorem To {E:Env} (hE:OK E) {w:World} {f:TypeId} {a:List Kd} (h:FN E f a=true) {d e:Value} {b c:List D} {K:TypeId→Option (List Kd)} {M:Nat→Option (Array Value)} (i:KV K M a d b) (j:KV K M a e c)
  (k:a.length≤b.length) (l:a.length≤c.length) :
  (Op.equal f e d).run E.P w=.ok (DK a b c) w∧(∀g,E.desc f=some g→Instr.sameNow g e d=some (DK a b c)∨∀u v,Instr.sameNow g u v=none)∧(DK a b c=true→d=e):=by
 refine @XX _ (lj U a.length b c) E (@OK.mk _ (lj U a.length b c) E hE.ty hE.fn hE.num hE.clone hE.ixb hE.cnt hE.mixed hE.kd hE.ke hE.gl hE.ox) {m:=fun _=>none,imm:=fun _=>none} w f a h d e b c K M i j k l ?_ ?_
 ·intro q n;show (if 0+q<a.length then b.getD (0+q) default else _)=_
  rw [if_pos (by omega),Nat.zero_add]
 ·intro q n;show (if a.length+q<a.length then _ else c.getD (a.length+q-a.length) default)=_
  rw [if_neg (by omega),Nat.add_sub_cancel_left]
def IW (a:List Kd) (k:List D):List MapEntry→List D→Nat→Option (Nat×Value)
 |e::b,r::c,i=>match DK a r.cells k with
  |true=>some (i,e.val)
  |false=>IW a k b c (i+1)
 |_,_,_=>none
section
variable {E:Env} (hE:OK E) {w:World} {kt:TypeId} {ks vks:List Kd} (ht:FN E kt ks=true) {K:TypeId→Option (List Kd)} {M:Nat→Option (Array Value)} {kv:Value} {k:List D} (hk:KV K M ks kv k) (hkl:ks.length≤k.length)
include hE ht hk hkl w
theorem IE:∀{a:List MapEntry} {b:List D} {i:Nat},AY K M ks vks a b→(Instr.findAsking kt kv a i).run E.P w=.ok (IW ks k a b i) w
 |[],[],i,_=>by simp [Instr.findAsking,IW]
 |e::a,r::b,i,⟨g,c,j,d⟩=>by
  obtain ⟨q,_,_⟩:=To (w:=w) hE ht c hk (by omega) hkl
  have f:=IE (i:=i+1) d;simp only [Instr.findAsking,IW,Sem.run_bind,q,Result.andThen_ok];cases DK ks r.cells k with
  |true=>simp
  |false=>simpa using f
 |[],_::_,_,h=>h.elim
 |_::_,[],_,h=>h.elim
theorem IN {a:TypeDesc} (d:E.desc kt=some a) (f:¬∀u v,Instr.sameNow a u v=none):∀{b:List MapEntry} {c:List D} {i:Nat},AY K M ks vks b c→Instr.findNow a kv b i=some (IW ks k b c i)
 |[],[],i,_=>rfl
 |e::b,r::c,i,⟨m,g,n,j⟩=>by
  obtain ⟨_,q,_⟩:=To (w:=w) hE ht g hk (by omega) hkl
  have s:=(q a d).resolve_right f;have l:=IN d f (i:=i+1) j;simp only [Instr.findNow,IW,s];cases DK ks r.cells k with
  |true=>rfl
  |false=>exact l
 |[],_::_,_,h=>h.elim
 |_::_,[],_,h=>h.elim
theorem D0 {d:TypeDesc} (b:E.desc kt=some d) {a:List MapEntry} {c:List D} (h:AY K M ks vks a c):(Instr.findKey kt kv a).run E.P w=.ok (IW ks k a c 0) w:=by
 by_cases f:∀u v,Instr.sameNow d u v=none
 ·cases a with
  |nil=>cases c with
   |nil=>simp [Instr.findKey,hE.run_und b,Instr.findNow,IW]
   |cons _ _=>exact h.elim
  |cons e a=>simp [Instr.findKey,hE.run_und b,Instr.findNow,f,IE (w:=w) hE ht hk hkl h]
 ·simp [Instr.findKey,hE.run_und b,IN (w:=w) hE ht hk hkl b f h]
end
omit U in
theorem El {ks vks:List Kd} {K:TypeId→Option (List Kd)} {M:Nat→Option (Array Value)} {k:List D}:∀{es:List MapEntry} {rs:List D} (i:Nat),AY K M ks vks es rs→
  (IW ks k es rs i=none∧F5 ks k rs i = -1)∨∃n e r,IW ks k es rs i=some (i+n,e.val)∧F5 ks k rs i=((i+n:Nat):Int)∧es[n]?=some e∧rs[n]?=some r∧DK ks r.cells k=true
 |[],[],i,_=>.inl ⟨rfl,rfl⟩
 |e::es,r::rs,i,⟨h1,h2,h3,h4⟩=>by
  simp only [IW,F5];cases hk:DK ks r.cells k with
  |true=>exact .inr ⟨0,e,r,by simp,by simp,rfl,rfl,hk⟩
  |false=>
   rcases El (k:=k) (i+1) h4 with ⟨a,b⟩|⟨n,e',r',a,b,c,d,f⟩
   ·exact .inl ⟨a,b⟩
   ·exact .inr ⟨n+1,e',r',by show IW ks k es rs (i+1)=_;rw [a,show i+1+n=i+(n+1) by omega],by show F5 ks k rs (i+1)=_;rw [b,show i+1+n=i+(n+1) by omega],by simpa using c,by simpa using d,f⟩
 |[],_::_,_,h=>h.elim
 |_::_,[],_,h=>h.elim
omit U in
theorem AY.get {ks vks:List Kd} {K:TypeId→Option (List Kd)} {M:Nat→Option (Array Value)}:∀{es:List MapEntry} {rs:List D} {n:Nat} {e:MapEntry} {r:D},AY K M ks vks es rs→es[n]?=some e→rs[n]?=some r→
  r.cells.length=ks.length+vks.length∧KV K M ks e.key r.cells∧KV K M vks e.val (r.cells.drop ks.length)
 |e::es,r::rs,0,e',r',⟨h1,h2,h3,h4⟩,g1,g2=>by
  simp only [List.getElem?_cons_zero,Option.some.injEq] at g1 g2;subst g1;subst g2;exact ⟨h1,h2,h3⟩
 |e::es,r::rs,n+1,e',r',⟨h1,h2,h3,h4⟩,g1,g2=>h4.get (by simpa using g1) (by simpa using g2)
 |[],[],n,_,_,_,g1,_=>by simp at g1
 |[],_::_,_,_,_,h,_,_=>h.elim
 |_::_,[],_,_,_,h,_,_=>h.elim
omit U in
theorem AY.push {ks vks:List Kd} {K:TypeId→Option (List Kd)} {M:Nat→Option (Array Value)} {x:MapEntry} {y:D} (h1:y.cells.length=ks.length+vks.length) (h2:KV K M ks x.key y.cells) (h3:KV K M vks x.val (y.cells.drop ks.length)):∀{es:List MapEntry} {rs:List D},AY K M ks vks es rs→AY K M ks vks (es++[x]) (rs++[y])
 |[],[],_=>⟨h1,h2,h3,trivial⟩
 |e::es,r::rs,⟨g1,g2,g3,g4⟩=>⟨g1,g2,g3,AY.push h1 h2 h3 g4⟩
 |[],_::_,h=>h.elim
 |_::_,[],h=>h.elim
omit U in
theorem AY.erase {ks vks:List Kd} {K:TypeId→Option (List Kd)} {M:Nat→Option (Array Value)}:∀{es:List MapEntry} {rs:List D} (n:Nat),AY K M ks vks es rs→AY K M ks vks (es.eraseIdx n) (rs.eraseIdx n)
 |[],[],_,_=>by simp [AY]
 |e::es,r::rs,0,⟨g1,g2,g3,g4⟩=>g4
 |e::es,r::rs,n+1,⟨g1,g2,g3,g4⟩=>⟨g1,g2,g3,g4.erase n⟩
 |[],_::_,_,h=>h.elim
 |_::_,[],_,h=>h.elim
omit U in
theorem AY.change {ks vks:List Kd} {K:TypeId→Option (List Kd)} {M:Nat→Option (Array Value)} {x:MapEntry} {y:D} (h1:y.cells.length=ks.length+vks.length) (h2:KV K M ks x.key y.cells) (h3:KV K M vks x.val (y.cells.drop ks.length)):∀{es es':List MapEntry} {rs rs':List D} (n:Nat),AY K M ks vks es rs→es'.length=es.length→rs'.length=rs.length→
  (∀q,q≠n→es'[q]?=es[q]?)→(∀q,q≠n→rs'[q]?=rs[q]?)→(n<es.length→es'[n]?=some x)→(n<rs.length→rs'[n]?=some y)→AY K M ks vks es' rs'
 |[],[],[],[],n,_,_,_,_,_,_,_=>trivial
 |e::es,e'::es',r::rs,r'::rs',0,⟨g1,g2,g3,g4⟩,l1,l2,a1,a2,a3,a4=>by
  have b1:=a3 (by simp)
  have b2:=a4 (by simp)
  simp only [List.getElem?_cons_zero,Option.some.injEq] at b1 b2;subst b1;subst b2;have c1:es'=es:=List.ext_getElem? fun q=>by have:=a1 (q+1) (by omega);simpa using this
  have c2:rs'=rs:=List.ext_getElem? fun q=>by have:=a2 (q+1) (by omega);simpa using this
  rw [c1,c2];exact ⟨h1,h2,h3,g4⟩
 |e::es,e'::es',r::rs,r'::rs',n+1,⟨g1,g2,g3,g4⟩,l1,l2,a1,a2,a3,a4=>by
  have b1:=a1 0 (by omega)
  have b2:=a2 0 (by omega)
  simp only [List.getElem?_cons_zero,Option.some.injEq] at b1 b2;subst b1;subst b2
  exact ⟨g1,g2,g3,AY.change h1 h2 h3 n g4 (by simpa using l1) (by simpa using l2) (fun q hq=>by have:=a1 (q+1) (by omega);simpa using this) (fun q hq=>by have:=a2 (q+1) (by omega);simpa using this)
   (fun hn=>by have:=a3 (by simp;omega);simpa using this) (fun hn=>by have:=a4 (by simp;omega);simpa using this)⟩
 |[],_::_,_,_,_,_,l1,_,_,_,_,_=>by simp at l1
 |_::_,[],_,_,_,_,l1,_,_,_,_,_=>by simp at l1
 |[],[],_::_,_,_,h,_,_,_,_,_,_=>h.elim
 |[],[],[],_::_,_,_,_,l2,_,_,_,_=>by simp at l2
 |_::_,_::_,[],_,_,h,_,_,_,_,_,_=>h.elim
 |_::_,_::_,_::_,[],_,_,_,l2,_,_,_,_=>by simp at l2
end
end Go.AE
namespace Go.AE
variable [Gl:Ax]
variable [U:Unk]
theorem FL {a:Type} {l:List a} {n j:Nat} {d:a}:(l.drop n).getD j d=l.getD (n+j) d:=by
 rw [List.getD_eq_getElem?_getD,List.getD_eq_getElem?_getD,List.getElem?_drop]
theorem Ih {a:Type} {l:List a} {n q:Nat} {f:a→a} (h:q≠n):(l.modify n f)[q]?=l[q]?:=by
 rw [List.getElem?_modify];cases l[q]?<;>simp [Ne.symm h]
theorem Dw {j:Ren} {e:List Kd} {a:AV} {v:Value} (h:Gd e a=true) (f:VR j a v) (i:v.cells.toList.length=e.length) :
  v=P8 v.cells.toList∧∀u,v.cells.toList=[u]→∀x,u≠.agg x:=by
 have key:∀(b:List Value),b.length≠1→P8 b=.agg b.toArray:=by
  intro b g;rcases b with _|⟨x,_|⟨y,b⟩⟩
  ·rfl
  ·exact absurd rfl g
  ·rfl
 rcases e with _|⟨k,_|⟨k2,e⟩⟩
 ·cases f<;>simp only [Gd,Bool.false_eq_true] at h
  rename_i l b m n;have c:b.length=0:=i;exact ⟨(key b (by omega)).symm,fun u d=>by have:b=[u]:=d;rw [this] at c;simp at c⟩
 ·cases f<;>simp only [Gd,Bool.false_eq_true] at h<;>exact ⟨rfl,fun u d x o=>by
   subst o;simp only [Value.cells] at d;cases d⟩
 ·cases f<;>simp only [Gd,Bool.false_eq_true] at h
  rename_i l b m n;have c:b.length=e.length+2:=i;exact ⟨(key b (by omega)).symm,fun u d=>by have:b=[u]:=d;rw [this] at c;simp at c⟩
theorem CT {b:List Kd} {a:AV} (h:Gd b a=true):a≠.top:=by
 rintro rfl
 rcases b with _|⟨k,_|⟨k2,b⟩⟩<;>simp [Gd] at h
theorem I5 {ρ:Ren} {a:List Kd} {k:AV} {b:SE} {c:Value} (h:OF a k=some b) (d:VR ρ k c):(Af U.V b).cells.length=a.length∧KV U.K ρ.imm a c (Af U.V b).cells:=by
 unfold OF at h;split at h
 ·rename_i e;obtain ⟨g,f,i⟩:=Eh _ _ _ _ h (d.cells (CT e));obtain ⟨w1,w2⟩:=Dw e d f;exact ⟨g,_,w1,f,w2,i⟩
 ·cases h
theorem Mu {ρ:Ren} {a b:List Kd} {k v:AV} {r:SE} {e f:Value} (h:RU a b k v=some r) (l:VR ρ k e) (m:VR ρ v f) :
  (Af U.V r).cells.length=a.length+b.length∧KV U.K ρ.imm a e (Af U.V r).cells∧KV U.K ρ.imm b f ((Af U.V r).cells.drop a.length):=by
 unfold RU at h;split at h
 ·rename_i g;obtain ⟨g,n⟩:=Ao g;obtain ⟨o,p⟩:=Ao g;have n:=As n;have k1:=l.cells (CT o);have s:=m.cells (CT p);obtain ⟨t,u,q⟩:=Eh _ _ _ _ h (k1.append s);have i:e.cells.toList.length=a.length:=by have:=k1.1;omega
  have vl:f.cells.toList.length=b.length:=by simp only [List.length_append] at u;omega
  obtain ⟨w1,w2⟩:=Dw o l i;obtain ⟨w3,w4⟩:=Dw p m vl;refine ⟨by rw [t];simp,⟨_,w1,i,w2,fun j kd c=>?_⟩,⟨_,w3,vl,w4,fun j kd c=>?_⟩⟩
  ·have d:=(List.getElem?_eq_some_iff.1 c).1;have:=q j kd (by rw [List.getElem?_append_left d];exact c)
   rwa [List.getD_eq_getElem?_getD,List.getElem?_append_left (by omega),←List.getD_eq_getElem?_getD] at this
  ·have d:=(List.getElem?_eq_some_iff.1 c).1;have:=q (a.length+j) kd (by rw [List.getElem?_append_right (by omega),Nat.add_sub_cancel_left];exact c)
   rw [List.getD_eq_getElem?_getD,List.getElem?_append_right (by omega),i,Nat.add_sub_cancel_left,←List.getD_eq_getElem?_getD] at this
   rw [FL];exact this
 ·cases h
theorem HP {a r:SE}:(Af U.V (.snoc a r)).rows=(Af U.V a).rows++[Af U.V r]:=rfl
theorem Kw {ρ:Ren} {a b:List Kd}:∀{d:List Al} {c:List MapEntry} {y z:SE} {es0:List MapEntry},KG a b y d=some z→ER ρ d c→AY U.K ρ.imm a b es0 (Af U.V y).rows→AY U.K ρ.imm a b (es0++c) (Af U.V z).rows
 |[],[],y,z,es0,h,_,f=>by
  simp only [KG,Option.some.injEq] at h;subst h;simpa using f
 |e::d,g::c,y,z,es0,h,⟨i,j,p,k⟩,f=>by
  simp only [KG] at h;split at h
  ·rename_i x l;obtain ⟨m,n,o⟩:=Mu l i j;have:=Kw (es0:=es0++[g]) h k (by rw [HP];exact AY.push m n o f)
   simpa using this
  ·cases h
 |[],_::_,_,_,_,_,h,_=>h.elim
 |_::_,[],_,_,_,_,h,_=>h.elim
theorem Mf {ρ:Ren} {m n:TypeId} {d e:List Kd} {b:Option Ab} {x:SE} {f:Bh} {o:Option Obj} (h:R6 m n d e b=some x) (p:∀y,b=some y→BR ρ y f o) (q:U.K m=some d) (r:U.K n=some e) :
  ∃c:List MapEntry,∃a,o=some (.map c.toArray a)∧AY U.K ρ.imm d e c (Af U.V x).rows∧Inc c a:=by
 unfold R6 at h;split at h
 ·rename_i s t B;split at h
  ·rename_i u;cases h;obtain ⟨k,l⟩:=Ao u;have k:=As k;have l:=As l;subst k;subst l;obtain ⟨k1,C,c,a,j,g,v,w,z⟩:=p _ rfl;rw [q] at j;rw [r] at g;cases j;cases g;exact ⟨c,a,v,w,z⟩
  ·cases h
 ·rename_i A a;split at h
  ·rename_i i;obtain ⟨c,j,g⟩:=p _ rfl;have:=Kw (es0:=[]) h g trivial;exact ⟨c,a,j,by simpa using this,(Mp A c 0 a i g).2⟩
  ·cases h
 ·cases h
theorem Kg {a i:SE} {j:Nat} {x:SE}:(Af U.V (.upd a i j x)).rows=(Af U.V a).rows.modify (Ag U.V i).toNat fun r=>.row (r.cells.set j (Af U.V x)):=rfl
theorem E2 {n:Ren} {o:List Kd} {i:SE}:∀(l:List AV) (m:List Value) (j:Nat) (y d:SE) (r:D),Cx i o y j l=some d→VL n l m→(Af U.V y).rows[(Ag U.V i).toNat]?=some r→j+l.length≤r.cells.length→
  (Af U.V d).rows.length=(Af U.V y).rows.length∧(∀q,q≠(Ag U.V i).toNat→(Af U.V d).rows[q]?=(Af U.V y).rows[q]?)∧
  ∃e,(Af U.V d).rows[(Ag U.V i).toNat]?=some e∧e.cells.length=r.cells.length∧(∀p,p<j∨j+l.length≤p→e.cells.getD p default=r.cells.getD p default)∧
   ∀(q:Nat) kd,q<l.length→o[j+q]?=some kd→DV U.K n.imm kd (m.getD q Go.undef) (e.cells.getD (j+q) default)
 |[],m,j,y,d,r,h,s,hr,t=>by
  simp only [Cx,Option.some.injEq] at h;subst h;exact ⟨rfl,fun _ _=>rfl,r,hr,rfl,fun _ _=>rfl,fun q kd f=>absurd f (Nat.not_lt_zero q)⟩
 |a::l,m,j,y,d,r,h,s,hr,t=>by
  obtain ⟨v,vr,rfl,u,w⟩:=s.cons_inv;simp only [Cx] at h;split at h
  ·rename_i k z;split at h
   ·rename_i x A;have B:=Ja u A
    have g:(Af U.V (.upd y i j x)).rows[(Ag U.V i).toNat]?=some (.row (r.cells.set j (Af U.V x))):=by
     rw [Kg,List.getElem?_modify_eq,hr];rfl
    simp only [List.length_cons] at t;obtain ⟨C,E,e,a3,a4,a5,F⟩:=E2 l vr (j+1) _ d _ h w g (by show j+1+l.length≤(r.cells.set j (Af U.V x)).length;simp;omega)
    have b:(D.row (r.cells.set j (Af U.V x))).cells=r.cells.set j (Af U.V x):=rfl;rw [b] at a4 a5;refine ⟨by rw [C,Kg];simp,fun q f=>by rw [E q f,Kg,Ih f],e,a3,by rw [a4];simp,fun p G=>?_,fun q kd f c=>?_⟩
    ·simp only [List.length_cons] at G;rw [a5 p (by omega),List.getD_eq_getElem?_getD,List.getD_eq_getElem?_getD,List.getElem?_set_ne (by omega)]
    ·cases q with
     |zero=>
      rw [Nat.add_zero] at c ⊢;rw [z] at c;cases c;rw [a5 j (by omega),Le,List.getD_eq_getElem?_getD,List.getElem?_set_self (by omega)]
      exact B
     |succ q=>
      rw [Cs,show j+(q+1)=j+1+q by omega]
      exact F q kd (by simpa using f) (by rw [←c];congr 1;omega)
   ·cases h
  ·cases h
theorem E5 {E:Env} (hE:OK E) {t e f:TypeId} {c d:List Kd} (h:IH E t=some (e,f,c,d)):E.desc t=some (.map e f)∧U.K e=some c∧U.K f=some d∧FN E e c=true:=by
 unfold IH at h;split at h
 ·rename_i g i j;split at h
  ·rename_i a b k l;split at h
   ·rename_i m;cases h;exact ⟨j,by rw [hE.kd,←hE.ke];exact k,by rw [hE.kd,←hE.ke];exact l,m⟩
   ·cases h
  ·cases h
 ·cases h
theorem EI {E:Env} {b:TypeId} {k:AV} (a:By E 20 b k=true):∃c,E.desc b=some c:=by
 simp only [By] at a;cases d:E.desc b with
 |none=>simp [d] at a
 |some c=>exact ⟨c,rfl⟩
section
variable {E:Env} (hE:OK E) {ρ:Ren} {h:Aa} {w:World}
include hE
theorem PE (hr:HR ρ h.blk.get w) {t:TypeId} {m k a:AV} {mv O:Value} {ok:Bool} (hm:VR ρ m mv) (hk:VR ρ k O) (g:L7 E t m k ok h=some a) :
  ∃v,(Instr.lookup t mv O ok).run E.P w=.ok v w∧VR ρ a v:=by
 unfold L7 at g;split at g
 ·rename_i kt vt d I r ht;obtain ⟨hd,W,X,D⟩:=E5 hE ht;split at g
  ·rename_i aj ak x hg;split at g
   ·rename_i z F Y hz Z;obtain ⟨Y,c3⟩:=Ao Y;obtain ⟨c1,c2⟩:=Ao Y;have c1:=As c1;have c2:=As c2;subst c1;subst c2;obtain ⟨zv,z1,z2⟩:=hE.run_zero ρ hz w;have aa:=AB ρ z2;have J:∀em,(Instr.checkKey em 10000 kt O).run E.P w=.ok () w:=fun em=>Cz (w:=w) hE em 9980 20 kt k O c3 hk
    obtain ⟨ds,ab⟩:=EI c3;obtain ⟨kl,ac⟩:=I5 Z hk
    have fin:∀(v:AV) (b:Bool) (L:Value),VR ρ v L→VR ρ (KO ok v b) (if ok then .tuple #[L,.bool b] else L):=by
     intro v b L Q;cases ok with
     |true=>
      have:=VL.cons Q (VL.cons (VR.bool (ρ:=ρ) b) (VL.nil ρ));exact .tuple _ [L,.bool b] this.1 this.2
     |false=>exact Q
    cases hm with
    |map _ u hb=>
     obtain ⟨k1,v1,ad,G,e1,e2,e3,e4,_⟩:=hr.blk r u _ hb hg;rw [W] at e1;rw [X] at e2;cases e1;cases e2;have y:(getObj u.cb).run E.P w=.ok (.map ad.toArray G) w:=by simp [getObj,Sem.run,e3]
     have f:=D0 (w:=w) hE D ac (by omega) ab e4
     have A:=El (k:=(Af U.V F).cells) 0 e4;have i:Ag U.V (.mIdx d x F)=F5 d (Af U.V F).cells (Af U.V x).rows 0:=rfl;split at g
     ·rename_i o;cases g;have s:=Ap U.ok o;rw [Ar,decide_eq_true_eq] at s;have z0:Ag U.V (.c 0)=0:=rfl;rw [z0,i] at s;rcases A with ⟨M,R⟩|⟨n,e,r',M,R,a3⟩
      ·rw [M] at f;refine ⟨_,?_,fin z false zv aa⟩;simp [Instr.lookup,hE.run_und hd,y,J,f,z1]
      ·omega
     ·rename_i o;split at g
      ·rename_i l ae;cases g;have s:=Ap U.ok o;rw [Ar,decide_eq_false_iff_not] at s;have z0:Ag U.V (.c 0)=0:=rfl;rw [z0,i] at s;rcases A with ⟨M,R⟩|⟨n,e,r',M,R,a3,a4,a5⟩
       ·omega
       ·rw [M] at f;obtain ⟨q1,⟨lk,k1,k2,k3,k4⟩,⟨S,v1,v2,v3,v4⟩⟩:=e4.get a3 a4;have hn:(Ag U.V (.mIdx d x F)).toNat=n:=by rw [i,R];simp
        have N:(Af U.V x).rows.getD n default=r':=by rw [List.getD_eq_getElem?_getD,a4];rfl
        have H:∀j,Af U.V (.cell x (.mIdx d x F) j)=r'.cells.getD j default:=by
         intro j;show ((Af U.V x).rows.getD (Ag U.V (.mIdx d x F)).toNat default).cells.getD j default=_;rw [hn,N]
        have B:∀p,((lk++S).toArray).getD p Go.undef=(lk++S).getD p Go.undef:=by intro p;simp [Array.getD_eq_getD_getElem?,List.getD_eq_getElem?_getD]
        have Q:∀j kd,(d++I)[j]?=some kd→DV U.K ρ.imm kd ((lk++S).toArray.getD (0+j) Go.undef) (Af U.V (.cell x (.mIdx d x F) j)):=by
         intro j kd T;rw [H,B,Nat.zero_add,List.getD_eq_getElem?_getD];by_cases af:j<d.length
         ·rw [List.getElem?_append_left af] at T;rw [List.getElem?_append_left (by omega),←List.getD_eq_getElem?_getD]
          exact k4 j kd T
         ·rw [List.getElem?_append_right (by omega)] at T
          rw [List.getElem?_append_right (by omega),←List.getD_eq_getElem?_getD,k2]
          have:=v4 (j-d.length) kd T;rw [FL,show d.length+(j-d.length)=j by omega] at this
          exact this
        obtain ⟨p1,p2,p3⟩:=Gy Q I.length d.length l ae
        have ag:VL ρ l S:=by
         refine ⟨by omega,fun q a v ah ai=>?_⟩
         have:=p3 q a ah;rw [B,Nat.zero_add,List.getD_eq_getElem?_getD,List.getElem?_append_right (by omega),k2,Nat.add_sub_cancel_left,ai] at this
         exact this
        have C:=MX ag;rw [←v1] at C;refine ⟨_,?_,fin _ true e.val C⟩;simp [Instr.lookup,hE.run_und hd,y,J,f]
      ·cases g
     ·cases g
   ·cases g
  ·cases g
 ·cases g
theorem OQ (hr:HR ρ h.blk.get w) {t:TypeId} {m k v:AV} {mv C p:Value} {h':Aa} (hm:VR ρ m mv) (M:VR ρ k C) (hv:VR ρ v p) (s:Mv E t m k v h=some h') :
  ∃w',(Instr.mapUpdate t mv C p).run E.P w=.ok () w'∧HR ρ h'.blk.get w'∧Ext ρ ρ h h' w w':=by
 unfold Mv at s;split at s
 ·rename_i Y vt g l r ht;obtain ⟨hd,H,I,u⟩:=E5 hE ht;split at s
  ·rename_i x Z c3 J aa;have N:∀em,(Instr.checkKey em 10000 Y C).run E.P w=.ok () w:=fun em=>Cz (w:=w) hE em 9980 20 Y k C c3 M
   obtain ⟨ds,ab⟩:=EI c3;obtain ⟨kl,O⟩:=I5 aa M;cases hm with
   |map _ D hb=>
    have z:h.blk.get r≠none:=by
     intro e;rw [e] at J;cases J
    obtain ⟨o,a,e3,Q,e5⟩:=Mf J (fun y hy=>hr.blk r D y hb hy) H I
    have F:=Aq (w:=w) E.P e3 (by simp)
    have b:=D0 (w:=w) hE u O (by omega) ab Q
    have G:=El (k:=(Af U.V Z).cells) 0 Q;have A:Ag U.V (.mIdx g x Z)=F5 g (Af U.V Z).cells (Af U.V x).rows 0:=rfl;split at s
    ·rename_i row d B;cases s;have i:=Ap U.ok B;rw [Ar,decide_eq_true_eq] at i;have z0:Ag U.V (.c 0)=0:=rfl;rw [z0,A] at i;rcases G with ⟨R,a2⟩|⟨n,e,r',R,a2,a3⟩
     ·rw [R] at b;obtain ⟨q1,q2,q3⟩:=Mu d M hv;obtain ⟨p1,p2⟩:=hr.setObj hb z (.dmap Y vt (.snoc x row)) (.map (o.toArray.push {key:=C,val:=p,born:=a}) (a+1))
       ⟨g,l,o++[{key:=C,val:=p,born:=a}],a+1,H,I,by simp,by rw [HP];exact AY.push q1 q2 q3 Q,e5.push C p⟩
      refine ⟨_,?_,p1,p2⟩;simp [Instr.mapUpdate,hE.run_und hd,F,N,b,Av (w:=w) E.P e3 (by simp)]
     ·omega
    ·rename_i row d B;split at s
     ·rename_i y hy;cases s;have i:=Ap U.ok B;rw [Ar,decide_eq_false_iff_not] at i;have z0:Ag U.V (.c 0)=0:=rfl;rw [z0,A] at i;rcases G with ⟨R,a2⟩|⟨n,e,r',R,a2,a3,a4,a5⟩
      ·omega
      ·rw [R] at b;have hn:(Ag U.V (.mIdx g x Z)).toNat=n:=by rw [A,a2];simp
       obtain ⟨q1,q2,q3⟩:=Q.get a3 a4;obtain ⟨_,_,S⟩:=To (w:=w) hE u q2 O (by omega) (by omega)
       have ac:e.key=C:=S a5;unfold RU at d;split at d
       ·rename_i hc;obtain ⟨hc,c6⟩:=Ao hc;obtain ⟨c4,c5⟩:=Ao hc;have L:=hv.cells (CT c5);have ad:=Eh _ _ _ _ d ((M.cells (CT c4)).append L);have c6:=As c6;have aj:=(M.cells (CT c4)).1;have vl:p.cells.toList.length=l.length:=by have:=ad.2.1;simp only [List.length_append] at this;omega
        have ak:v.cells.length=l.length:=by have:=L.1;omega
        obtain ⟨u1,u2,r2,u3,u4,u5,u6⟩:=E2 _ _ _ _ _ r' hy L (by rw [hn];exact a4) (by omega)
        rw [hn] at u2 u3;obtain ⟨w3,w4⟩:=Dw c5 hv vl;obtain ⟨nk,w1,s1,s2,s3,s4,s5,s6⟩:=Db (w:=w) E.P e.key C;have ae:nk=e.key:=by rcases s2 with rfl|rfl;exact ac.symm;rfl
        subst ae;have af:HR ρ h.blk.get w1:=hr.same s3
        have ag:KV U.K ρ.imm g e.key r2.cells:=by
         obtain ⟨lk,k1,k2,k3,k4⟩:=q2;refine ⟨lk,k1,k2,k3,fun j kd T=>?_⟩
         have i:=(List.getElem?_eq_some_iff.1 T).1;rw [u5 j (.inl i)];exact k4 j kd T
        have ah:KV U.K ρ.imm l p (r2.cells.drop g.length):=by
         refine ⟨_,w3,vl,w4,fun j kd T=>?_⟩
         have i:=(List.getElem?_eq_some_iff.1 T).1;rw [FL];exact u6 j kd (by omega) (by rw [List.getElem?_append_right (by omega),Nat.add_sub_cancel_left];exact T)
        have al:n<o.length:=(List.getElem?_eq_some_iff.1 a3).1
        have W:AY U.K ρ.imm g l (o.modify n fun X=>{X with key:=e.key,val:=p}) (Af U.V y).rows:=by
         refine AY.change (x:={key:=e.key,val:=p,born:=e.born}) (y:=r2) (by rw [u4];exact q1) ag ah n Q (by simp) u1 (fun q hq=>Ih hq) (fun q hq=>u2 q hq) (fun _=>by rw [List.getElem?_modify_eq,a3];rfl) (fun _=>u3)
        obtain ⟨p1,p2⟩:=af.setObj hb z (.dmap Y vt y) (.map (o.toArray.modify n fun X=>{X with key:=e.key,val:=p}) a)
         ⟨g,l,_,a,H,I,by simp [List.modify_toArray],W,e5.modify (f:=fun X=>{X with key:=e.key,val:=p}) (fun _=>rfl) n⟩
        refine ⟨_,?_,p1,p2.drawn s3 s4 s5 s6⟩;have ai:w1.heap[D.cb]?=some (.map o.toArray a):=by rw [s3];exact e3
        simp only [Nat.zero_add] at b;simp only [Instr.mapUpdate,Sem.run_bind,hE.run_und hd,Result.andThen_ok,F,N,b,List.getElem?_toArray,a3,Option.map_some,Option.getD_some,s1];rw [Av (w:=w1) E.P ai (by simp)]
       ·cases d
     ·cases s
    ·cases s
  ·cases s
 ·cases s
theorem OG (hr:HR ρ h.blk.get w) {t:TypeId} {m k v:AV} {f g i:Value} {h':Aa} (b:VR ρ m f) (c:VR ρ k g) (d:VR ρ v i) (a:Ma E t m k v h=some h') :
  ∃e,(Instr.mapUpdate t f g i).run E.P w=.ok () e∧HR ρ h'.blk.get e∧Ext ρ ρ h h' w e:=by
 unfold Ma at a;split at a
 ·split at a
  ·rename_i q;cases a;exact OQ hE hr b c d q
  ·exact GH hE hr b c d a
 ·exact GH hE hr b c d a
theorem QU (hr:HR ρ h.blk.get w) {t:TypeId} {m k a:AV} {mv l:Value} {h':Aa} (hm:VR ρ m mv) (hk:VR ρ k l) (o:PZ E t m k h=some (a,h')) (hf:AA ρ h.nx h'.nx) :
  AH E ρ h h' w (Instr.mapEntry t mv l) a:=by
 unfold PZ at o;split at o
 ·rename_i p A i B r ht;obtain ⟨hd,C,D,F⟩:=E5 hE ht;split at o
  ·rename_i x kr z c3 G aa hz;have ab:∀em,(Instr.checkKey em 10000 p l).run E.P w=.ok () w:=fun em=>Cz (w:=w) hE em 9980 20 p k l c3 hk
   obtain ⟨ds,ac⟩:=EI c3;obtain ⟨kl,ad⟩:=I5 aa hk;obtain ⟨H,z1,z2⟩:=hE.run_zero ρ hz w;have L:=AB ρ z2;cases hm with
   |map _ f I=>
    have J:h.blk.get r≠none:=by
     intro e;rw [e] at G;cases G
    obtain ⟨q,d,e3,e4,e5⟩:=Mf G (fun y hy=>hr.blk r f y I hy) C D
    have M:=Aq (w:=w) E.P e3 (by simp)
    have j:=D0 (w:=w) hE F ad (by omega) ac e4
    have N:=El (k:=(Af U.V kr).cells) 0 e4;have O:Ag U.V (.mIdx i x kr)=F5 i (Af U.V kr).cells (Af U.V x).rows 0:=rfl;split at o
    ·rename_i row Q R;simp only [Option.some.injEq,Prod.mk.injEq] at o;obtain ⟨rfl,rfl⟩:=o;have s:=Ap U.ok R;rw [Ar,decide_eq_true_eq] at s;have z0:Ag U.V (.c 0)=0:=rfl;rw [z0,O] at s;rcases N with ⟨a1,a2⟩|⟨n,e,r',a1,a2,a3⟩
     ·rw [a1] at j;obtain ⟨q1,q2,q3⟩:=Mu Q hk L;have u:AY U.K ρ.imm i B (q++[{key:=l,val:=H,born:=d}]) (Af U.V (.snoc x row)).rows:=by rw [HP];exact AY.push q1 q2 q3 e4
      have v:=e5.push l H;obtain ⟨p1,p2⟩:=hr.setObj I J (.dmap p A (.snoc x row)) (.map (q.toArray.push {key:=l,val:=H,born:=d}) (d+1))
       ⟨i,B,q++[{key:=l,val:=H,born:=d}],d+1,C,D,by simp,u,v⟩
      have g:ρ h.nx=none:=hf h.nx (Nat.le_refl _) (by simp [Aa.put,Aa.stampN])
      have S:r≠h.nx:=by rintro rfl;rw [g] at I;cases I
      have W:(h.put r (.dmap p A (.snoc x row))).blk.get r≠none:=by simp [Aa.put,T.get_set]
      obtain ⟨s1,s2⟩:=p1.stamp (h:=h.put r (.dmap p A (.snoc x row))) g I W d;have ae:(ρ.upd h.nx ⟨f.cb,d,f.csz⟩) r=some f:=by simp [Ren.upd,S,I]
      have af:(h.put r (.dmap p A (.snoc x row))).stampN.blk.get r≠none:=by
       show ((h.put r (.dmap p A (.snoc x row))).blk.del h.nx).get r≠none;rw [T.get_del,if_neg (fun e=>S e.symm)]
       exact W
      have X:=Ren.le_upd g ⟨f.cb,d,f.csz⟩;have Y:=e4.length
      obtain ⟨t1,t2⟩:=HR.put (h:=(h.put r (.dmap p A (.snoc x row))).stampN) s1 ae af (.dmapS p A (.snoc x row) (.lenL x) h.nx) _ (by
       have s:=hr.lt r f I;show BR _ _ _ (w.heap.setIfInBounds f.cb _)[f.cb]?;rw [Array.getElem?_setIfInBounds_self_of_lt s];refine ⟨i,B,q++[(⟨l,H,d⟩:MapEntry)],d+1,C,D,by simp,u.mono X.imm,v,⟨f.cb,d,f.csz⟩,Ren.upd_same _ _ _,?_⟩
       rw [Ak,Int.toNat_natCast,←Y];simp) rfl (fun _ _=>rfl) rfl rfl rfl
      have Z:VR (ρ.upd h.nx ⟨f.cb,d,f.csz⟩) (.tuple [z,.stamp h.nx]) (.tuple #[H,goInt d]):=by
       have:=VL.cons (L.mono X) (VL.cons (VR.stamp (ρ:=ρ.upd h.nx ⟨f.cb,d,f.csz⟩) h.nx ⟨f.cb,d,f.csz⟩ (Ren.upd_same _ _ _)) (VL.nil _));exact .tuple _ [H,goInt d] this.1 this.2
      refine ⟨_,_,_,?_,Z,t1,(p2.trans s2 (fun b b1 b2=>hf b b1 (by simp only [Aa.put,Aa.stampN] at b2 ⊢;omega))).trans t2 (fun b b1 b2=>hf b b1 (by simp only [Aa.put,Aa.stampN] at b2 ⊢;omega))⟩
      simp [Instr.mapEntry,hE.run_und hd,M,ab,j,z1,Av (w:=w) E.P e3 (by simp)]
     ·omega
    ·cases o
  ·cases o
 ·cases o
theorem Rb (hr:HR ρ h.blk.get w) {t:TypeId} {m k a:AV} {e f:Value} {h':Aa} (c:VR ρ m e) (d:VR ρ k f) (b:OC E t m k h=some (a,h')) (g:AA ρ h.nx h'.nx) :
  AH E ρ h h' w (Instr.mapEntry t e f) a:=by
 unfold OC at b;split at b
 ·split at b
  ·rename_i r i;cases b;exact QU hE hr c d i g
  ·exact Lq hE hr c d b
 ·exact Lq hE hr c d b
omit hE in
theorem Oh {es:List MapEntry} {n s:Nat} (hp:(es.map (·.born)).Pairwise (· < ·)) (hn:(es[n]?).map (·.born)=some s):es.toArray.findIdx? (fun e=>(e.born:Int)==(s:Int))=some n:=by
 obtain ⟨e,he,hs⟩:=Option.map_eq_some_iff.1 hn;have hlt:=(List.getElem?_eq_some_iff.1 he).1;have hge:=(List.getElem?_eq_some_iff.1 he).2;rw [List.findIdx?_toArray,List.findIdx?_eq_some_iff_getElem];refine ⟨hlt,by rw [hge,hs];simp,fun j hj=>?_⟩
 have hj':j<es.length:=by omega
 have:=List.pairwise_iff_getElem.1 hp j n (by simpa using hj') (by simpa using hlt) hj
 simp only [List.getElem_map,hge,hs] at this;simp only [beq_iff_eq,Bool.not_eq_true,beq_eq_false_iff_ne,ne_eq];omega
theorem Kf (hr:HR ρ h.blk.get w) {t:TypeId} {m v:AV} {b:Nat} {mv sv g:Value} {h':Aa} (hm:VR ρ m mv) (hs:VR ρ (.stamp b) sv) (hv:VR ρ v g) (i:Fd E t m b v h=some h') :
  ∃G,(Instr.entryStore t mv sv g).run E.P w=.ok () G∧HR ρ h'.blk.get G∧Ext ρ ρ h h' w G:=by
 unfold Fd at i;split at i
 ·rename_i kt vt c d r ht;obtain ⟨hd,l,o,H⟩:=E5 hE ht;split at i
  ·rename_i ab ac x ne b' hg;split at i
   ·rename_i y k hy;cases i;obtain ⟨k,I⟩:=Ao k;obtain ⟨k,c4⟩:=Ao k;obtain ⟨k,J⟩:=Ao k;obtain ⟨L,M⟩:=Ao k;have L:=As L;have M:=As M;have J:=As J;have I:=As I;subst L;subst M;subst J;cases hm with
    |map _ p hb=>
     obtain ⟨k1,v1,u,a,e1,e2,e3,N,e5,bs,e6,O⟩:=hr.blk r p _ hb hg;rw [l] at e1;rw [o] at e2;cases e1;cases e2;cases hs with
     |stamp _ ad z=>
      rw [e6] at z;cases z;have A:=Aq (w:=w) E.P e3 (by simp)
      generalize hn:(Ag U.V ne).toNat=n at O;obtain ⟨e,he,Q⟩:=Option.map_eq_some_iff.1 O;have R:=Oh e5.1 O;have ae:=(List.getElem?_eq_some_iff.1 he).1;have aa:=N.length;have S:∃T,(Af U.V x).rows[n]?=some T:=⟨_,List.getElem?_eq_getElem (by omega)⟩
      obtain ⟨T,B⟩:=S;obtain ⟨q1,q2,q3⟩:=N.get he B;have C:=hv.cells (CT c4);have vl:g.cells.toList.length=d.length:=by rw [←C.1];exact I
      obtain ⟨u1,u2,W,u3,u4,u5,u6⟩:=E2 _ _ _ _ _ T hy C (by rw [hn];exact B) (by omega)
      rw [hn] at u2 u3;obtain ⟨w3,w4⟩:=Dw c4 hv vl
      have X:KV U.K ρ.imm c e.key W.cells:=by
       obtain ⟨lk,k1,k2,k3,k4⟩:=q2;refine ⟨lk,k1,k2,k3,fun j kd hj=>?_⟩
       have hlt:=(List.getElem?_eq_some_iff.1 hj).1;rw [u5 j (.inl hlt)];exact k4 j kd hj
      have Y:KV U.K ρ.imm d g (W.cells.drop c.length):=by
       refine ⟨_,w3,vl,w4,fun j kd hj=>?_⟩
       have hlt:=(List.getElem?_eq_some_iff.1 hj).1;rw [FL];exact u6 j kd (by omega) (by rw [List.getElem?_append_right (by omega),Nat.add_sub_cancel_left];exact hj)
      have D:AY U.K ρ.imm c d (u.modify n fun F=>{F with val:=g}) (Af U.V y).rows:=by
       refine AY.change (x:={key:=e.key,val:=g,born:=e.born}) (y:=W) (by rw [u4];exact q1) X Y n N (by simp) u1 (fun q Z=>Ih Z) (fun q Z=>u2 q Z) (fun _=>by rw [List.getElem?_modify_eq,he];rfl) (fun _=>u3)
      obtain ⟨p1,p2⟩:=hr.setObj hb (by rw [hg];simp) (.dmap kt vt y) (.map (u.toArray.modify n fun F=>{F with val:=g}) a)
       ⟨c,d,_,a,l,o,by simp [List.modify_toArray],D,e5.modify (f:=fun F=>{F with val:=g}) (fun _=>rfl) n⟩
      refine ⟨_,?_,p1,p2⟩;simp only [Instr.entryStore,Sem.run_bind,A,Result.andThen_ok,asInt,asIntOf,Sem.run_pure,R];rw [Av (w:=w) E.P e3 (by simp)]
   ·cases i
  ·cases i
 ·cases i
theorem J7 (hr:HR ρ h.blk.get w) {t:TypeId} {m s v:AV} {c d f:Value} {h':Aa} (g:VR ρ m c) (hs:VR ρ s d) (i:VR ρ v f) (a:E8 E t m s v h=some h') :
  ∃b,(Instr.entryStore t c d f).run E.P w=.ok () b∧HR ρ h'.blk.get b∧Ext ρ ρ h h' w b:=by
 unfold E8 at a;split at a
 ·exact Kf hE hr g hs i a
 ·exact Kj hr g hs i a
theorem OZ (hr:HR ρ h.blk.get w) {t ty:TypeId} {m k:AV} {mv J:Value} {h':Aa} (hm:VR ρ m mv) (hk:VR ρ k J) (l:M1 E t m k h=some h') (C:Array TypeId) (D:C[0]?=some t) :
  ∃N,(Builtin.delete_ C ty #[mv,J]).run E.P w=.ok (.tuple #[]) N∧HR ρ h'.blk.get N∧Ext ρ ρ h h' w N:=by
 unfold M1 at l;split at l
 ·rename_i K vt d F r ht;obtain ⟨hd,u,v,z⟩:=E5 hE ht;split at l
  ·rename_i x A c3 B O;have G:∀Q,(Instr.checkKey Q 10000 K J).run E.P w=.ok () w:=fun Q=>Cz (w:=w) hE Q 9980 20 K k J c3 hk
   obtain ⟨ds,R⟩:=EI c3;obtain ⟨kl,S⟩:=I5 O hk;cases hm with
   |map _ H T=>
    have f:h.blk.get r≠none:=by
     intro e;rw [e] at B;cases B
    obtain ⟨o,b,W,L,e5⟩:=Mf B (fun y hy=>hr.blk r H y T hy) u v
    have p:=Aq (w:=w) E.P W (by simp)
    have a:=D0 (w:=w) hE z S (by omega) R L
    have q:=El (k:=(Af U.V A).cells) 0 L;have g:Ag U.V (.mIdx d x A)=F5 d (Af U.V A).cells (Af U.V x).rows 0:=rfl;split at l
    ·rename_i i;cases l;have hlt:=Ap U.ok i;rw [Ar,decide_eq_true_eq] at hlt;have z0:Ag U.V (.c 0)=0:=rfl;rw [z0,g] at hlt;rcases q with ⟨I,M⟩|⟨n,e,r',I,M,a3⟩
     ·rw [I] at a;obtain ⟨X,Y⟩:=hr.setObj T f (.dmap K vt x) (.map o.toArray b) ⟨d,F,o,b,u,v,rfl,L,e5⟩;refine ⟨_,?_,X,Y⟩;simp [Builtin.delete_,D,hE.run_und hd,p,G,a,Av (w:=w) E.P W (by simp)]
     ·omega
    ·rename_i i;cases l;have hlt:=Ap U.ok i;rw [Ar,decide_eq_false_iff_not] at hlt;have z0:Ag U.V (.c 0)=0:=rfl;rw [z0,g] at hlt;rcases q with ⟨I,M⟩|⟨n,e,r',I,M,a3,a4,a5⟩
     ·omega
     ·rw [I] at a;have hn:(Ag U.V (.mIdx d x A)).toNat=n:=by rw [g,M];simp
      have Z:(Af U.V (.rmv x (.mIdx d x A))).rows=(Af U.V x).rows.eraseIdx n:=by
       show (Af U.V x).rows.eraseIdx (Ag U.V (.mIdx d x A)).toNat=_;rw [hn]
      obtain ⟨X,Y⟩:=hr.setObj T f (.dmap K vt (.rmv x (.mIdx d x A))) (.map (o.toArray.eraseIdxIfInBounds n) b) ⟨d,F,o.eraseIdx n,b,u,v,by simp,by rw [Z];exact L.erase n,e5.erase n⟩
      refine ⟨_,?_,X,Y⟩;simp only [Nat.zero_add] at a;simp [Builtin.delete_,D,hE.run_und hd,p,G,a,Av (w:=w) E.P W (by simp)]
    ·cases l
  ·cases l
 ·cases l
theorem OH (hr:HR ρ h.blk.get w) {t ty:TypeId} {m k:AV} {f g:Value} {h':Aa} (i:VR ρ m f) (l:VR ρ k g) (c:MY E t m k h=some h') (a:Array TypeId) (b:a[0]?=some t) :
  ∃d,(Builtin.delete_ a ty #[f,g]).run E.P w=.ok (.tuple #[]) d∧HR ρ h'.blk.get d∧Ext ρ ρ h h' w d:=by
 unfold MY at c;split at c
 ·rename_i q;cases c;exact Pm hE hr i l q a b
 ·exact OZ hE hr i l c a b
theorem Pj {h:Aa} (hr:HR ρ h.blk.get w) {t:TypeId} {m k a:AV} {M y:Value} {ok:Bool} (D:VR ρ m M) (u:VR ρ k y) (c:Je E t m k ok h=some a) :
  ∃v,(Instr.lookup t M y ok).run E.P w=.ok v w∧VR ρ a v:=by
 unfold Je at c;split at c
 ·rename_i r F;cases c;exact PG hE hr D u F
 ·split at c
  ·rename_i r F;cases c;exact PE hE hr D u F
  split at c
  ·rename_i A et r N _ _;split at c
   ·rename_i z es l o R S;obtain ⟨T,V,W⟩:=hE.run_zero ρ R w;have G:=AB ρ W;have x:∀H,(Instr.checkKey H 10000 A y).run E.P w=.ok () w:=fun H=>Cz (w:=w) hE H 9980 20 A k y o u
    have d:∃B,E.desc A=some B:=by
     simp only [By] at o;cases X:E.desc A with
     |none=>simp [X] at o
     |some B=>exact ⟨B,rfl⟩
    obtain ⟨B,d⟩:=d
    have fin:∀(v:AV) (b:Bool) (q:Value),VR ρ v q→VR ρ (KO ok v b) (if ok then .tuple #[q,.bool b] else q):=by
     intro v b q O;cases ok with
     |true=>
      have:=VL.cons O (VL.cons (VR.bool (ρ:=ρ) b) (VL.nil ρ));exact .tuple _ [q,.bool b] this.1 this.2
     |false=>exact O
    cases D with
    |map _ f Y=>
     obtain ⟨I,Z,Q⟩:=hr.blk r f _ Y S;have g:(getObj f.cb).run E.P w=.ok (.map I.toArray l) w:=by simp [getObj,Sem.run,Z]
     split at c
     ·rename_i i v J;cases c;obtain ⟨K,C,L⟩:=Iu (w:=w) hE d u Q J;cases K with
      |none=>cases C
      |some p'=>
       obtain ⟨j,q⟩:=p';refine ⟨_,?_,fin v true q C.2⟩;simp [Instr.lookup,hE.run_und N,g,x,L]
     ·rename_i J;cases c;obtain ⟨K,C,L⟩:=Iu (w:=w) hE d u Q J;cases K with
      |some p=>cases C
      |none=>
       refine ⟨_,?_,fin z false T G⟩;simp [Instr.lookup,hE.run_und N,g,x,L,V]
     ·cases c
   ·cases c
  ·cases c
end
end Go.AE
namespace Go.AE
variable [Gl:Ax]
variable [U:Unk]
omit U in
theorem Fz:∀(l b:Nat),(CY l b).length=l
 |0,_=>rfl
 |l+1,b=>by simp [CY,Fz l]
theorem LN {e:SE} (h:MZ e=true):(AK U.V e).data.toList.length<4611686018427387904:=by
 unfold MZ at h;split at h
 ·rename_i l b;have:=Ct h
  have e:(AK U.V (.strc l b)).data.toList.length=l:=by
   show ((CY l b).toArray).toList.length=l;simp [Fz]
  omega
 ·have:=Hp h;rw [Ar,decide_eq_true_eq,Cg] at this;have z:Ag U.V (.c 4611686018427387904)=4611686018427387904:=rfl;rw [z] at this;omega
section
variable {E:Env} (hE:OK E) {ρ:Ren} {h:Aa} {w:World}
omit U in
theorem dj [U:Unk] {t:TypeId} {s s':ByteArray} (h1:s.data.toList.length<4611686018427387904) (h2:s'.data.toList.length<4611686018427387904):(binOp .add t (.string s) (.string s')).run E.P w=.ok (.string (s++s')) w:=by
 have hsz:s.size=s.data.toList.length:=by simp
 have hsz':s'.size=s'.data.toList.length:=by simp
 have hmax:¬(((s.size+s'.size:Nat):Int)>IntKind.i64.max):=by
  simp only [IntKind.max,IntKind.signed,IntKind.bits];omega
 simp only [binOp,Op.stringOp];rw [if_neg hmax];rfl
theorem UY {c:BinOp} {t:TypeId} {ox f:Operand} {x y r:AV} {d e:Value} (g:VR ρ x d) (i:VR ρ y e) (hr:aE c x y=some r) :
  ∃v,(do eqGuard c t ox f d e;binOp c t d e:Sem Value).run E.P w=.ok v w∧VR ρ r v:=by
 unfold aE at hr;split at hr
 ·split at hr
  ·rename_i a b j k;split at hr
   ·rename_i m;cases hr;obtain ⟨n,o⟩:=Ao m;rw [FS g j,FS i k];have p:(eqGuard .add t ox f (.string (AK U.V a)) (.string (AK U.V b))).run E.P w=.ok () w:=BC (by simp) (fun h _=>by obtain ⟨q,h⟩:=h;cases h)
    refine ⟨.string (AK U.V a++AK U.V b),?_,.ss (.strCat a b)⟩;simp only [Sem.run_bind,p,Result.andThen_ok];exact dj (LN n) (LN o)
   ·cases hr
  ·cases hr
 ·cases hr
theorem U3 {L:SE} {n k:Nat} (h:WQ L n=some k) (h0:0≤Ag U.V L):k=min (Ag U.V L).toNat n:=by
 unfold WQ at h;split at h
 ·rename_i a;cases h;have:=Ap U.ok a;rw [Ar,decide_eq_false_iff_not] at this;have z:Ag U.V (.c (n:Int))=n:=rfl;rw [z] at this;omega
 ·rename_i a;have:=Ap U.ok a;rw [Ar,decide_eq_true_eq] at this;have z:Ag U.V (.c (n:Int))=n:=rfl;rw [z] at this;split at h
  ·rename_i l i j;split at h
   ·rename_i m;cases h;obtain ⟨d,e⟩:=Ao m;have d:l=i:=by simpa using d
    have e:0≤l:=by simpa using e
    subst d;obtain ⟨f,g⟩:=E7 U.ok L;rw [j] at f g;have o:=f l rfl;have p:=g l rfl;omega
   ·cases h
  ·cases h
 ·cases h
theorem D9 {y:SE} {kd:Kd}:∀(n i:Nat),(Ez y kd i n).length=n
 |0,_=>rfl
 |n+1,i=>by simp [Ez,D9 n]
theorem KA {y:SE} {kd:Kd}:∀(n i q:Nat),q<n→(Ez y kd i n)[q]?=some (If y (.c (i+q:Nat)) 0 kd)
 |0,_,q,h=>absurd h (Nat.not_lt_zero q)
 |n+1,i,0,h=>rfl
 |n+1,i,q+1,h=>by
  simp only [Ez,List.getElem?_cons_succ];rw [KA n (i+1) q (by omega),show i+1+q=i+(q+1) by omega]
theorem Nc {kd:Kd} {y:SE} {c:Array Value} {o k:Nat} (hr:A8 U.K ρ.imm [kd] c o (Af U.V y).rows) (i:k≤(Af U.V y).rows.length):VL ρ (Ez y kd 0 k) ((c.toList.drop o).take k):=by
 have h1:=hr.1;simp only [List.length_singleton,Nat.mul_one] at h1;refine ⟨by rw [D9];simp;omega,fun q a v d f=>?_⟩
 have g:q<k:=by have:=(List.getElem?_eq_some_iff.1 d).1;rwa [D9] at this
 rw [KA k 0 q g,Nat.zero_add] at d;cases d;have e:=hr.2.2 q 0 kd (by omega) rfl
 rw [List.getElem?_take,if_pos g,List.getElem?_drop,Array.getElem?_toList] at f;simp only [List.length_singleton,Nat.mul_one,Nat.add_zero] at e;rw [Array.getD_eq_getD_getElem?,f] at e;exact H3 e
include hE
theorem S0 (hr:HR ρ h.blk.get w) {t t' ty:TypeId} {d x a:AV} {dv T:Value} {h':Aa} (H:VR ρ d dv) (X:VR ρ x T) (q:TP E t d x h=some (a,h')) (A:Array TypeId) (B:A[0]?=some t) :
  AH E ρ h h' w (Builtin.copy_ A ty #[dv,T]) a:=by
 unfold TP at q;split at q
 ·rename_i r hq;cases q;exact Tu hE hr (t':=t) H X hq A B
 ·split at q
  ·rename_i e hd;split at q
   ·rename_i kd b off n es y z hsz u _;split at q
    ·rename_i k C I;split at q
     ·rename_i h2 m;cases q;have C:=As C;subst C
      have J:U.K e=some [kd]:=by
       rw [hE.kd,←hE.ke];revert z;cases E.kinds e with
       |none=>intro z;cases z
       |some l=>cases l with
        |nil=>intro z;cases z
        |cons p l=>cases l with
         |nil=>intro z;cases z;rfl
         |cons _ _=>intro z;cases z
      have g:=U3 I (by rw [Ak];exact Int.natCast_nonneg _)
      rw [Ak,Int.toNat_natCast] at g
      obtain ⟨Y,s1,s2,s3⟩:∃Y:List Value,VL ρ (Ez y kd 0 k) Y∧(Builtin.lenOf T).run E.P w=.ok (Af U.V y).rows.length w∧(Builtin.firstCells 1 k T).run E.P w=.ok Y.toArray w:=by
       unfold OE at u;split at u
       ·rename_i e' y';split at u
        ·rename_i Z;cases u;have Z:=As Z;subst Z;cases X with
         |dat _ _ ad n' L M=>
          cases M with
          |nil _ _ g1 N=>
           rw [N] at g;have:k=0:=by simpa using g
           subst this;exact ⟨[],VL.nil ρ,by rw [N];simp [Builtin.lenOf],by simp [Builtin.firstCells]⟩
          |empty _ a1 _ _ g1 N=>
           rw [N] at g;have:k=0:=by simpa using g
           subst this;exact ⟨[],VL.nil ρ,by rw [N];simp [Builtin.lenOf],by simp [Builtin.firstCells,Go.loadCells,loadCellsFrom]⟩
          |slc _ W o _ _ _ ks arr O aa hn ah g1 Q R hv=>
           rw [J] at O;cases O;obtain ⟨e1,fz,S⟩:=hr.imm W arr aa;have D:A8 U.K ρ.imm [kd] arr o (Af U.V y).rows:=⟨by rw [hn];exact Q,fun i hi=>R i (by omega),fun i j ab hi hj=>hv i j ab (by omega) hj⟩
           have v:k≤(Af U.V y).rows.length:=by rw [g];exact Nat.min_le_left _ _
           refine ⟨_,Nc D v,by rw [hn];simp [Builtin.lenOf],?_⟩
           simp only [Builtin.firstCells,Nat.mul_one];simp only [List.length_singleton,Nat.mul_one] at Q;exact Ay E.P w W o k arr e1 fz S (by omega)
        ·cases u
       ·rename_i W ai n' nl _;split at u
        ·rename_i e' y' S;split at u
         ·rename_i hc;cases u;obtain ⟨ac,c3⟩:=Ao hc;obtain ⟨c1,c2⟩:=Ao ac;have c1:=As c1;have c2:=As c2;subst c1;subst c2;have F:=Ey c3;rw [Ak] at F;have v:k≤(Af U.V y).rows.length:=by rw [g];exact Nat.min_le_left _ _
          cases X with
          |asl _ _ _ _ L f G q0 qc qz qn=>
           obtain ⟨aj,ae,et,fz,b1,b2,b3,b4,b5⟩:=hr.blk W f _ G S;rw [J] at b1;cases b1;refine ⟨_,Nc b5 v,by rw [F];simp [Builtin.lenOf],?_⟩
           simp only [Builtin.firstCells,Nat.mul_one];have:=b5.1;simp only [List.length_singleton,Nat.mul_one] at this;exact Ay E.P w f.cb f.co k ae et fz b2 (by omega)
          |aslEnd _ _ _ _ ad q0 qn=>
           have hz:(Af U.V y).rows.length=0:=by rw [q0] at F;omega
           have:k=0:=by omega
           subst this;refine ⟨[],VL.nil ρ,by rw [hz];simp [Builtin.lenOf],?_⟩
           cases ad with
           |none=>simp [Builtin.firstCells]
           |some ad=>simp [Builtin.firstCells,Go.loadCells,loadCellsFrom]
         ·cases u
        ·cases u
       ·cases u
      cases H with
      |slice _ _ _ _ L f S ag hz=>
       obtain ⟨w',q1,q2,q3⟩:=hr.storeN E.P S s1 m;refine ⟨ρ,goInt (k:Nat),w',?_,.int _ _,q2,q3⟩;unfold Builtin.copy_;have hm:Nat.min (Af U.V y).rows.length n=k:=g.symm;simp only [B,List.getElem?_toArray,List.getElem?_cons_zero,List.getElem?_cons_succ,Sem.run_bind,hE.run_und hd,Result.andThen_ok,s2,hE.run_szIs hsz,hm,s3,q1];simp
      |sliceEnd _ _ _ ad=>
       have af:k=0:=by rw [g];simp
       subst af;have:=s1.nil_inv;subst this;have hm:Nat.min (Af U.V y).rows.length 0=0:=Nat.min_zero _
       obtain ⟨q2,q3⟩:HR ρ h'.blk.get w∧Ext ρ ρ h h' w w:=by
        unfold storeN at m;simp only [Ez] at m;split at m
        ·rename_i sz c hg;split at m
         ·cases m;refine hr.swap (by rw [hg];exact Option.some_ne_none _) _ (fun f G=>?_)
          exact hr.blk b f _ G hg
         ·cases m
        ·cases m
       refine ⟨ρ,goInt (0:Nat),w,?_,.int _ _,q2,q3⟩;unfold Builtin.copy_;simp only [B,List.getElem?_toArray,List.getElem?_cons_zero,List.getElem?_cons_succ,Sem.run_bind,hE.run_und hd,Result.andThen_ok,s2,hE.run_szIs hsz,hm,s3];simp [storeCells]
     ·cases q
    ·cases q
   ·cases q
  ·cases q
end
end Go.AE
namespace Go.AE
variable [Gl:Ax]
variable [U:Unk]
section
variable {E:Env} (hE:OK E) {ρ:Ren} {h:Aa} {w:World}
theorem Ox {s:Sem Unit} {c:String} {o:Option Aa} (d:∀h',o=some h'→∃a b,s.run E.P w=.ok () b∧HR a h'.blk.get b∧Ext ρ a h h' w b) :
  DW E ρ h w (do s;pure .skip) (DD c o):=by
 cases o with
 |none=>trivial
 |some h'=>
  intro i;obtain ⟨a,b,e,f,g⟩:=d h' rfl;exact ⟨a,Go.undef,b,.inr ⟨by simp [e],rfl⟩,VR.undef a,f,g⟩
theorem JN {s:Sem Value} {b:String} {o:Option Aa} (c:∀h',o=some h'→∃a,s.run E.P w=.ok (.tuple #[]) a∧HR ρ h'.blk.get a∧Ext ρ ρ h h' w a) :
  DW E ρ h w (do pure (.value (←s))) (DD b o):=by
 cases o with
 |none=>trivial
 |some h'=>
  intro g;obtain ⟨a,d,e,f⟩:=c h' rfl;exact ⟨ρ,Go.undef,a,.inl (by simp [d,Go.undef]),VR.undef ρ,e,f⟩
theorem VQ {c:Array TypeId} {ty:TypeId} {args:List AV} {b:List Value} {a:AV} (e:VL ρ args b) (d:yb args=some a):∃v,(Builtin.max_ c ty b.toArray).run E.P w=.ok v w∧VR ρ a v:=by
 cases args with
 |nil=>cases d
 |cons x r=>
  obtain ⟨v,k,rfl,f,g⟩:=e.cons_inv;cases f<;>first | (cases d;done)|skip
  obtain ⟨u,i,j⟩:=PK E.P w _ g d;exact ⟨u,by simpa [Builtin.max_] using i,j⟩
theorem VF {c:Array TypeId} {ty:TypeId} {args:List AV} {b:List Value} {a:AV} (e:VL ρ args b) (d:l4 args=some a):∃v,(Builtin.min_ c ty b.toArray).run E.P w=.ok v w∧VR ρ a v:=by
 cases args with
 |nil=>cases d
 |cons x r=>
  obtain ⟨v,k,rfl,f,g⟩:=e.cons_inv;cases f<;>first | (cases d;done)|skip
  obtain ⟨u,i,j⟩:=PB E.P w _ g d;exact ⟨u,by simpa [Builtin.min_] using i,j⟩
include hE
theorem RW (hr:HR ρ h.blk.get w) {t ty:TypeId} {x:AV} {H:Value} {h':Aa} (M:VR ρ x H) (a:Ph E t x h=some h') (p:Array TypeId) (f:p[0]?=some t) :
  ∃q,(Builtin.clear_ p ty #[H]).run E.P w=.ok (.tuple #[]) q∧HR ρ h'.blk.get q∧Ext ρ ρ h h' w q:=by
 unfold Ph at a;cases u:E.desc t with
 |none=>rw [u] at a;cases a
 |some d=>
  rw [u] at a;have l:=hE.run_und u w;simp only [] at a;cases M<;>first | (cases a;done)|skip
  ·simp only [Option.some.injEq] at a;subst a;exact ⟨w,by cases d<;>simp [Builtin.clear_,f,l],hr,Ext.refl ρ h w⟩
  ·rename_i b off n v N g m I Z;cases n with
   |zero=>
    simp only [Option.some.injEq] at a;subst a;exact ⟨w,by cases d<;>simp [Builtin.clear_,f,l],hr,Ext.refl ρ h w⟩
   |succ n=>
    cases d<;>first | (cases a;done)|skip
    rename_i e;simp only [] at a;cases j:E.zero e with
    |none=>rw [j] at a;cases a
    |some z=>
     rw [j] at a;simp only [] at a;cases k:Nat.beq z.cells.length v with
     |false=>rw [k] at a;cases a
     |true=>
      rw [k] at a;simp only [] at a;have J:=As k;obtain ⟨r,O,K⟩:=hE.run_zero ρ j w;have L:=(AB ρ K).cells (Bc K);have Q:=DQ L (n+1) r.cells (.inr rfl);obtain ⟨q,R,S,T⟩:=hr.storeN E.P m Q a;refine ⟨q,?_,S,T⟩;have A:r.cells.size=z.cells.length:=by have:=L.1;simp at this;omega
      have V:(Builtin.zeroCells r.cells (n+1)).toList=((Array.range ((n+1)*z.cells.length)).map (r.cells[· % r.cells.size]!)).toList:=by
       rw [Builtin.zeroCells,A]
      simp only [Builtin.clear_,f,List.getElem?_toArray,List.getElem?_cons_zero,Sem.run_bind,l,Result.andThen_ok,O,V,R,Sem.run_pure]
  ·rename_i b off v ad;simp only [Option.some.injEq] at a;subst a;exact ⟨w,by cases d<;>simp [Builtin.clear_,f,l],hr,Ext.refl ρ h w⟩
  ·rename_i b g m;simp only [] at a;cases o:h.blk.get b with
   |none=>rw [o] at a;cases a
   |some y=>
    rw [o] at a;cases y<;>first | (cases a;done)|skip
    ·rename_i v c;simp only [Option.some.injEq] at a;subst a;obtain ⟨B,s,W⟩:=hr.blk b g _ m o;have i:=Aq (w:=w) E.P s (by simp)
     obtain ⟨C,D⟩:=hr.setObj m (by rw [o];simp) (.map [] c) (.map #[] c) ⟨[],rfl,trivial⟩
     refine ⟨_,?_,C,D⟩;cases d<;>simp [Builtin.clear_,f,l,i,Av (w:=w) E.P s (by simp)]
    ·rename_i X Y x;simp only [Option.some.injEq] at a;subst a;obtain ⟨F,G,B,c,k1,k2,s,W,e3⟩:=hr.blk b g _ m o;have i:=Aq (w:=w) E.P s (by simp)
     obtain ⟨C,D⟩:=hr.setObj m (by rw [o];simp) (.dmap X Y .emptyL) (.map #[] c) ⟨F,G,[],c,k1,k2,rfl,trivial,Inc.nil c⟩
     refine ⟨_,?_,C,D⟩;cases d<;>simp [Builtin.clear_,f,l,i,Av (w:=w) E.P s (by simp)]
theorem Ni (hr:HR ρ h.blk.get w) {b:Builtin} {ats:Array TypeId} {ty:TypeId} {consts:Array Bool} {args:List AV} {j:List Value} (n:VL ρ args j) :
  DW E ρ h w (builtin b ats ty consts j.toArray) (Ex E b ats.toList args h):=by
 unfold Ex;split
 ·rename_i t ts x B e;obtain ⟨v,r,rfl,g,o⟩:=n.cons_inv;have f:ats[0]?=some t:=by rw [←Array.getElem?_toList,e];rfl
  exact A1 hr fun a c=>Vk hE hr g c ats f _ (by simp)
 ·rename_i t t' s x e;obtain ⟨v,r,rfl,g,o⟩:=n.cons_inv;obtain ⟨z,A,rfl,i,l⟩:=o.cons_inv;have:=l.nil_inv;subst this;have p:ats = #[t,t']:=by cases ats;simp_all
  subst p;exact Bn fun a h' c q=>Mn hE hr g i c q (fun a h' c q=>J8 hE hr g i c q)
 ·rename_i t ts d x e;obtain ⟨v,r,rfl,g,o⟩:=n.cons_inv;obtain ⟨z,A,rfl,i,l⟩:=o.cons_inv;have:=l.nil_inv;subst this;have f:ats[0]?=some t:=by rw [←Array.getElem?_toList,e];rfl
  exact Bn fun a h' c q=>S0 hE hr (t':=t) g i c ats f
 ·rename_i t ts m k e;obtain ⟨v,r,rfl,g,o⟩:=n.cons_inv;obtain ⟨z,A,rfl,i,l⟩:=o.cons_inv;have:=l.nil_inv;subst this;have f:ats[0]?=some t:=by rw [←Array.getElem?_toList,e];rfl
  exact JN fun h' c=>OH hE hr g i c ats f
 ·exact A1 hr fun a c=>by
   unfold orA at c;split at c
   ·rename_i u;cases c;exact VQ n u
   ·exact Sx n c
 ·exact A1 hr fun a c=>by
   unfold orA at c;split at c
   ·rename_i u;cases c;exact VF n u
   ·exact Ta n c
 ·exact ⟨rfl,by simp [builtin]⟩
 ·obtain ⟨v,r,rfl,g,o⟩:=n.cons_inv;have:=o.nil_inv;subst this;have y:=g;cases g;exact ⟨rfl,_,y,by simp [builtin,Instr.panic]⟩
 ·rename_i t x e;obtain ⟨v,r,rfl,g,o⟩:=n.cons_inv;have:=o.nil_inv;subst this;have f:ats[0]?=some t:=by rw [←Array.getElem?_toList,e];rfl
  exact JN fun h' c=>RW hE hr g c ats f
 ·trivial
theorem QY (hr:HR ρ h.blk.get w) {tmps:T AV} {g:Operand→Value} (j:EvR ρ tmps g) (c:Call) (ty:TypeId) :
  DW E ρ h w (do let d ←resolve g c ty;invoke d.target d.args) (CP E tmps c h):=by
 have a:=j.list c.args.toList;have i:(c.args.map g)=(c.args.toList.map g).toArray:=by apply Array.ext';simp
 unfold CP;cases o:c.callee with
 |builtin b=>
  have e:∃cs,(do let d ←resolve g c ty;invoke d.target d.args)=builtin b c.argTypes ty cs (c.args.toList.map g).toArray:=
   ⟨_,by simp only [resolve,o,pure_bind,invoke,i];rfl⟩
  obtain ⟨cs,e⟩:=e;rw [e];exact Ni (w:=w) hE hr (b:=b) (ats:=c.argTypes) (ty:=ty) (consts:=cs) a
 |invoke r name=>
  have:=Du (w:=w) hE hr (fn:=.method name) (fn':=.method name) (captured:=[]) (captured':=[]) rfl (VL.nil ρ) (VL.cons (j r) a)
  have e:(do let d ←resolve g c ty;invoke d.target d.args)=invoke (.fn (.method name) #[]) (g r::c.args.toList.map g).toArray:=by
   simp only [resolve,o,pure_bind,i]
   congr 1
   simp
  rw [e];exact this
 |value f=>
  simp only [];have m:=j f;cases s:Ah tmps f with
  |func fn first captured=>
   rw [s] at m;cases k:g f with
   |func fn' n captured'=>
    rw [k] at m;cases m with
    |func _ _ _ _ p q t u v x y=>
     have:=Du (w:=w) hE hr t (captured:=captured) (captured':=q) ⟨x,y⟩ (VL.append (l:=first) (l':=p) ⟨u,v⟩ a)
     have e:(do let d ←resolve g c ty;invoke d.target d.args)=invoke (.fn fn' q.toArray) (p++c.args.toList.map g).toArray:=by
      simp only [resolve,o,k,Deferred.ofValue,pure_bind,i]
      congr 1
      simp
     rw [e];exact this
   |_=>rw [k] at m;cases m
  |_=>trivial
omit hE in
theorem Ow {tmps:T AV} {ev:Operand→Value} (hev:EvR ρ tmps ev) (c:Call) (ty:TypeId) :
  DW E ρ h w (do pure (.defer (←resolve ev c ty))) (FC tmps c h):=by
 have hargs:=hev.list c.args.toList;have hmap:(c.args.map ev)=(c.args.toList.map ev).toArray:=by apply Array.ext';simp
 unfold FC;cases hc:c.callee with
 |value f=>
  simp only [];have hf:=hev f;cases hv:Ah tmps f with
  |func fn first captured=>
   rw [hv] at hf;cases hvf:ev f with
   |func fn' first' captured'=>
    rw [hvf] at hf;cases hf with
    |func _ _ _ _ f' c' q1 q2 q3 q4 q5=>
     refine ⟨rfl,{target:=.fn fn' c'.toArray,args:=(f'++c.args.toList.map ev).toArray},?_,?_⟩
     ·exact ⟨fn',c',f'++c.args.toList.map ev,q1,⟨q4,q5⟩,VL.append (l:=first) (l':=f') ⟨q2,q3⟩ hargs,rfl⟩
     ·simp [resolve,hc,hvf,Deferred.ofValue,hmap]
   |_=>rw [hvf] at hf;cases hf
  |_=>trivial
 |_=>trivial
end
end Go.AE
namespace Go.AE
variable [Gl:Ax]
variable [U:Unk]
section
variable {E:Env} (hE:OK E) {ρ:Ren} {h:Aa} {w:World}
include hE
omit hE in
theorem BE (hr:HR ρ h.blk.get w) {s:Sem Next} {a:AV} {v:Value} (hs:s.run E.P w=.ok (.value v) w) (hv:VR ρ a v):DW E ρ h w s (.val a h):=
 fun _=>⟨ρ,v,w,.inl hs,hv,hr,Ext.refl ρ h w⟩
omit hE in
theorem GC {tmps:T AV} {ev:Operand→Value} (hev:EvR ρ tmps ev) (o:Option Operand):(∀a,AW tmps o=some a→∃v,o.map ev=some v∧VR ρ a v)∧(AW tmps o=none→o.map ev=none):=by
 cases o with
 |none=>exact ⟨(fun a h=>by cases h),fun _=>rfl⟩
 |some x=>exact ⟨fun a h=>by simp only [AW,Option.some.injEq] at h;subst h;exact ⟨ev x,rfl,hev x⟩,(fun h=>by cases h)⟩
theorem wR {t:TypeId} {b:Array (String×TypeId)} (c:E.desc t=some (.interface b)) (d:Nat):(Op.equalIn (d+1) t .nilIface .nilIface).run E.P w=.ok true w:=by
 simp [Op.equalIn,hE.run_und c]
theorem Ia (hr:HR ρ h.blk.get w) {tmps:T AV} {ev:Operand→Value} (hev:EvR ρ tmps ev) (o:Oper):DW E ρ h w (execOp ev o) (aop E tmps h o.op):=by
 unfold execOp aop;cases ag:o.op with
 |move x=>exact BE hr (by simp) (hev x)
 |assign x=>exact BE hr (by simp) (hev x)
 |pick c a b=>
  simp only [];have u:=hev c;cases hv:Ah tmps c with
  |bool t=>
   rw [hv] at u;cases B:ev c with
   |bool t'=>
    rw [B] at u;cases u;cases t with
    |true=>exact BE hr (by simp [asBool]) (hev a)
    |false=>exact BE hr (by simp [asBool]) (hev b)
   |_=>rw [B] at u;cases u
  |sb pos e=>
   rw [hv] at u;simp only [];split
   ·rename_i q g;have F:=Ap U.ok g;cases B:ev c with
    |bool t'=>
     rw [B] at u;cases u;rw [F];split
     ·rename_i H;rw [H];exact BE hr (by simp [asBool]) (hev a)
     ·rename_i H;rw [H];exact BE hr (by simp [asBool]) (hev b)
    |_=>rw [B] at u;cases u
   ·trivial
  |_=>trivial
 |alloc t=>
  simp only [];cases hz:E.zero t with
  |none=>trivial
  |some z=>
   intro p;obtain ⟨W,v,X,A,G,I,J⟩:=Sj hE hr (p h.nx (Nat.le_refl _) (by simp [A6,Aa.new])) hz
   exact ⟨W,v,X,.inl (by simp [A]),G,I,J⟩
 |box t x=>
  simp only [];cases ht:(Ah tmps x).isTop with
  |true=>trivial
  |false=>
   intro p;obtain ⟨W,v,X,A,G,I,J⟩:=WV (E:=E) (t:=t) hr (p h.nx (Nat.le_refl _) (by simp [A6,Aa.new])) (hev x) (by rintro e;rw [e] at ht;cases ht)
   exact ⟨W,v,X,.inl (by simp [A]),G,I,J⟩
 |build t K=>
  have H:=hev.parts K.toList;have C:(K.map fun (i,x)=>(i,ev x))=(K.toList.map fun (i,x)=>(i,ev x)).toArray:=by apply Array.ext';simp
  simp only [C];exact A1 hr fun a g=>Rv hE H g
 |buildSlice t len K=>
  have H:=hev.parts K.toList;have C:(K.map fun (i,x)=>(i,ev x))=(K.toList.map fun (i,x)=>(i,ev x)).toArray:=by apply Array.ext';simp
  simp only [C];exact Bn fun a h' g p=>JB hE hr H g p
 |load t a=>exact A1 hr fun x g=>Sy hE hr (hev a) g
 |store t a x=>exact Ox fun h' g=>NN hE hr (hev a) (hev x) g
 |nilCheck x=>
  simp only [];have n:=hev x;cases hv:Ah tmps x<;>try trivial
  all_goals (rw [hv] at n)
  ·cases j:ev x<;>rw [j] at n<;>cases n
   exact BE hr rfl (.ptr _ _ _ (by assumption))
  ·rename_i fn f c;cases fn<;>try trivial
   ·cases j:ev x with
    |func Y Z c'=>
     rw [j] at n;cases n with
     |func _ _ _ _ Z c' A G I J q5=>
      have L:=A;simp only [FnR] at A;subst A;exact BE hr rfl (.func _ _ _ _ _ _ L G I J q5)
    |_=>rw [j] at n;cases n
   ·cases j:ev x with
    |func Y Z c'=>
     rw [j] at n;cases n with
     |func _ _ _ _ Z c' A G I J q5=>
      have L:=A;obtain ⟨af,hb,rfl⟩:=A;exact BE hr rfl (.func _ _ _ _ _ _ L G I J q5)
    |_=>rw [j] at n;cases n
  ·cases j:ev x<;>rw [j] at n<;>cases n
   exact BE hr rfl (.iface _ _ _ (by assumption))
 |binOp N t x y ty=>
  refine A1 hr fun a g=>?_
  unfold ba at g;cases O:((Ah tmps x).isSym||(Ah tmps y).isSym) with
  |true=>
   rw [O] at g;simp only [] at g;split at g
   ·rename_i r D;cases g;exact Zz hE (hev x) (hev y) D
   ·split at g
    ·rename_i r D;cases g;exact UY (hev x) (hev y) D
    ·exact UH (hev x) (hev y) g
  |false=>
  rw [O] at g;simp only [] at g;cases hn:((Ah tmps x).isNil&&(Ah tmps y).isNil) with
  |false=>
   rw [hn] at g;simp only [] at g;split at g
   ·rename_i r D;cases g;exact QR hE (hev x) (hev y) D
   ·exact SA hE (hev x) (hev y) g
  |true=>
   rw [hn] at g;simp only [] at g;obtain ⟨n1,n2⟩:=Ao hn
   have e1:Ah tmps x=.nilIface:=by
    generalize Ah tmps x=a at n1;cases a<;>first|rfl|cases n1
   have e2:Ah tmps y=.nilIface:=by
    generalize Ah tmps y=a at n2;cases a<;>first|rfl|cases n2
   have v1:=hev x;have v2:=hev y;rw [e1] at v1;rw [e2] at v2;generalize n:ev x=xv at v1;generalize hy:ev y=yv at v2;cases v1;cases v2;cases u:(Region.isConst x||Region.isConst y) with
   |false=>rw [u] at g;cases g
   |true=>
    rw [u] at g;cases F:E.desc t with
    |none=>rw [F] at g;cases g
    |some d=>
     rw [F] at g;cases d<;>first | (cases g;done)|skip
     have hu:=hE.run_und F w
     have hg:(eqGuard N t x y .nilIface .nilIface).run E.P w=.ok () w:=by
      unfold eqGuard;rcases orF u with q|q
      ·cases x<;>simp only [Region.isConst,Bool.false_eq_true] at q
       cases N<;>simp
      ·cases y<;>simp only [Region.isConst,Bool.false_eq_true] at q
       cases N<;>cases x<;>simp
     have Q:(Op.equal t .nilIface .nilIface).run E.P w=.ok true w:=wR hE F 9999;have aa:binOp .eql t .nilIface .nilIface=(do pure (.bool (←Op.equal t .nilIface .nilIface))):=rfl
     have ab:binOp .neq t .nilIface .nilIface=(do pure (.bool (!(←Op.equal t .nilIface .nilIface)))):=rfl
     cases N<;>first | (cases g;done)|skip
     ·simp only [Option.some.injEq] at g;subst g;exact ⟨.bool true,by rw [aa];simp only [Sem.run_bind,hg,Result.andThen_ok,Q,Sem.run_pure],.bool _⟩
     ·simp only [Option.some.injEq] at g;subst g;exact ⟨.bool false,by rw [ab];simp only [Sem.run_bind,hg,Result.andThen_ok,Q,Sem.run_pure,Bool.not_true],.bool _⟩
 |unOp N t x=>exact A1 hr fun a g=>ae (hev x) g
 |convert s d x=>exact Bn fun a h' g p=>Uq hE hr (hev x) g p
 |makeInterface t x=>
  simp only [];cases F:E.desc t with
  |none=>trivial
  |some d=>
   cases d<;>first|trivial|exact BE hr (by simp [Instr.makeInterface,hE.run_und F]) (.iface t _ _ (hev x))
 |makeFunc fn first captured=>
  have S:=hev.list first.toList;have V:=hev.list captured.toList;have e1:first.map ev=(first.toList.map ev).toArray:=by apply Array.ext';simp
  have e2:captured.map ev=(captured.toList.map ev).toArray:=by apply Array.ext';simp
  cases fn with
  |yield l=>trivial
  |_=>exact BE hr (by simp only [Instr.makeFunc,Sem.run_bind,Sem.run_pure,Result.andThen_ok,e1,e2]) (.func _ _ _ _ _ _ rfl S.1 S.2 V.1 V.2)
 |makeMap t r=>
  have mk:∀{s:Sem Next},s.run E.P w=.ok (.value (.map (some w.heap.size))) {w with heap:=w.heap.push (.map #[] 0)}→DW E ρ h w s (.val (.map h.nx) (h.new (.map [] 0))):=by
   intro s hs p;have M:ρ h.nx=none:=p h.nx (Nat.le_refl _) (by simp [Aa.new])
   obtain ⟨p1,p2⟩:=hr.new M (.map [] 0) (.map #[] 0) 0 ⟨[],rfl,trivial⟩ {w with heap:=w.heap.push (.map #[] 0)} rfl rfl rfl rfl
   exact ⟨_,_,_,.inl hs,.map h.nx _ (Ren.upd_same _ _ _),p1,p2⟩
  cases r with
  |none=>exact mk (by simp [Instr.makeMap])
  |some r=>
   simp only [];have n:=hev r;cases F:E.desc t with
   |none=>trivial
   |some d=>
    cases d<;>try trivial
    cases hv:Ah tmps r<;>try trivial
    rw [hv] at n;cases j:ev r<;>rw [j] at n<;>cases n
    exact mk (by simp [Instr.makeMap,j,hE.run_und F,asInt,asIntOf])
 |makeSlice t l c=>exact Bn fun a h' g p=>KM hE hr (hev l) (hev c) g p
 |slice t x lo hi R=>
  refine Bn fun a h' g p=>?_
  obtain ⟨a1,a2⟩:=GC hev lo;obtain ⟨b1,b2⟩:=GC hev hi;obtain ⟨c1,c2⟩:=GC hev R
  have ac:AW tmps R≠none→AW tmps hi≠none:=by
   cases R with
   |none=>intro q;exact absurd rfl q
   |some m=>cases hi with
    |none=>cases g
    |some i=>intro _ q;cases q
  have ad:sliceB E t (Ah tmps x) (AW tmps lo) (AW tmps hi) (AW tmps R) h=some (a,h'):=by
   cases R<;>cases hi<;>first|exact g|cases g
  exact RT hE hr (hev x) a1 a2 b1 b2 c1 c2 ac ad
 |fieldAddr t x f=>exact A1 hr fun a g=>KS hE (hev x) g
 |field t x f=>exact A1 hr fun a g=>RY hE (hev x) g
 |indexAddr t x i=>exact A1 hr fun a g=>KP hE (hev x) (hev i) g
 |index t x i=>exact A1 hr fun a g=>Q3 hE (hev x) (hev i) g
 |lookup t m k ok=>exact A1 hr fun a g=>Pj hE hr (hev m) (hev k) g
 |mapUpdate t m k v=>exact Ie fun h' g=>OG hE hr (hev m) (hev k) (hev v) g
 |insert t m k v=>exact Ie fun h' g=>GH hE hr (hev m) (hev k) (hev v) g
 |mapEntry t m k=>exact Bn fun a h' g p=>Rb hE hr (hev m) (hev k) g p
 |entryStore t m s v=>exact Ie fun h' g=>J7 hE hr (hev m) (hev s) (hev v) g
 |range t x=>exact Bn fun a h' g p=>R0 hE hr (hev x) g p
 |next it ah=>exact Bn fun a h' g p=>Jy hr (hev it) g
 |entry it=>exact A1 hr fun a g=>KW hr (hev it) g
 |typeAssert x xt t ok=>exact A1 hr fun a g=>PU hE (hev x) g
 |extract t i=>
  simp only [];have n:=hev t;cases hv:Ah tmps t<;>try trivial
  rw [hv] at n;cases j:ev t<;>rw [j] at n<;>cases n
  rename_i l l' S V;refine A1 hr fun a g=>?_
  obtain ⟨v,A,G⟩:=VL.get (l:=l) (l':=l') ⟨S,V⟩ g;exact ⟨v,by simp [Instr.extract,A],G⟩
 |call c=>exact QY hE hr hev c o.type
 |defer c=>exact Ow hev c o.type
 |panic x=>
  simp only [];have n:=hev x;cases hv:Ah tmps x<;>try trivial
  rw [hv] at n;cases j:ev x<;>rw [j] at n<;>cases n
  exact ⟨rfl,_,.iface _ _ _ (by assumption),by simp [Instr.panic]⟩
 |_=>trivial
end
end Go.AE
namespace Go.AE
variable [Gl:Ax]
variable [U:Unk]
section
variable {P:Program} {fr:Frame} {k:List Item} {cs:List Frame} {w:World}
theorem eS {a b:Code} (c:fr.mode=.run) (d:fr.todo=.code (.seq a b)::k):step P (lone fr cs w)=.next (lone {fr with todo:=.code a::.code b::k} cs w):=
 step_lone_go (by cases fr;simp only at c d;subst c;subst d;simp [stepG,stepG.exec])
theorem UA (a:fr.mode=.run) (b:fr.todo=.code .skip::k):step P (lone fr cs w)=.next (lone {fr with todo:=k} cs w):=
 step_lone_go (by cases fr;simp only at a b;subst a;subst b;simp [stepG,stepG.exec])
theorem Se {l:Nat} (a:fr.mode=.run) (b:fr.todo=.code (.label l)::k):step P (lone fr cs w)=.next (lone {fr with todo:=k} cs w):=
 step_lone_go (by cases fr;simp only at a b;subst a;subst b;simp [stepG,stepG.exec])
theorem PQ {l:Nat} (a:fr.mode=.run) (b:fr.todo=.inBlock l::k):step P (lone fr cs w)=.next (lone {fr with todo:=k} cs w):=
 step_lone_go (by cases fr;simp only at a b;subst a;subst b;simp [stepG,stepG.exec])
theorem Py {l:Code} (a:fr.mode=.run) (b:fr.todo=.inScope l::k):step P (lone fr cs w)=.next (lone {fr with todo:=k} cs w):=
 step_lone_go (by cases fr;simp only at a b;subst a;subst b;simp [stepG,stepG.exec])
theorem I4 {c:Operand} {x y:Code} {b:Bool} (a:fr.mode=.run) (d:fr.todo=.code (.cond c x y)::k) (e:fr.eval c=.bool b):step P (lone fr cs w)=.next (lone {fr with todo:=.code (if b then x else y)::k} cs w):=
 step_lone_go (by cases fr;simp only at a d;subst a;subst d;simp [stepG,stepG.exec,e])
theorem TT {id:Nat} {c:Code} (a:fr.mode=.run) (b:fr.todo=.code (.block id c)::k):step P (lone fr cs w)=.next (lone {fr with todo:=.code c::.inBlock id::k} cs w):=
 step_lone_go (by cases fr;simp only at a b;subst a;subst b;simp [stepG,stepG.exec])
theorem Vh {c:Code} (a:fr.mode=.run) (b:fr.todo=.code (.loop c)::k):step P (lone fr cs w)=.next (lone {fr with todo:=.code c::.inLoop c::k} cs w):=
 step_lone_go (by cases fr;simp only at a b;subst a;subst b;simp [stepG,stepG.exec])
theorem QV {c:Code} (a:fr.mode=.run) (b:fr.todo=.inLoop c::k):step P (lone fr cs w)=.next (lone {fr with todo:=.code c::.inLoop c::k} cs w):=
 step_lone_go (by cases fr;simp only at a b;subst a;subst b;simp [stepG,stepG.exec])
theorem TA {c:Code} (a:fr.mode=.run) (b:fr.todo=.code (.scope c)::k):step P (lone fr cs w)=.next (lone {fr with todo:=.code c::.inScope c::k} cs w):=
 step_lone_go (by cases fr;simp only at a b;subst a;subst b;simp [stepG,stepG.exec])
theorem Ra {id:Nat} {ops:Array Oper} (a:fr.mode=.run) (b:fr.todo=.code (.region id ops false)::k):step P (lone fr cs w)=.next (lone {fr with todo:=.inRegion ops (List.range ops.size)::k} cs w):=
 step_lone_go (by cases fr;simp only at a b;subst a;subst b;simp [stepG,stepG.exec])
theorem UR {id:Nat} {ops:Array Oper} (a:fr.mode=.run) (b:fr.todo=.code (.region id ops true)::k) :
  step P (lone fr cs w)=.next (lone {fr with todo:=.inRegion ops (Region.schedule (P.follows .mixedOrders) ops (w.tape w.drawn (.order fr.fn id)))::k} cs {w with drawn:=w.drawn+1}):=
 step_lone_go (by cases fr;simp only at a b;subst a;subst b;simp [stepG,stepG.exec,choose,Sem.run,Question.forced,Question.cut])
theorem HC {ops:Array Oper} (a:fr.mode=.run) (b:fr.todo=.inRegion ops []::k):step P (lone fr cs w)=.next (lone {fr with todo:=k} cs w):=
 step_lone_go (by cases fr;simp only at a b;subst a;subst b;simp [stepG,stepG.exec])
theorem Vd {id:Nat} {a:List Item} (b:fr.mode=.run) (c:fr.todo=.code (.exit id)::k) (d:exitTo id k=some a):step P (lone fr cs w)=.next (lone {fr with todo:=a} cs w):=
 step_lone_go (by cases fr;simp only at b c;subst b;subst c;simp [stepG,stepG.exec,d])
theorem U6 {l:Nat} {a:List Item} (b:fr.mode=.run) (c:fr.todo=.code (.goto l)::k) (d:gotoIn l k=some a):step P (lone fr cs w)=.next (lone {fr with todo:=a} cs w):=
 step_lone_go (by cases fr;simp only at b c;subst b;subst c;simp [stepG,stepG.exec,d])
theorem bo (b:fr.mode=.run) (a:fr.todo=[]∨∃k,fr.todo=.code .ret::k) (hr:fr.roundOf=none):step P (lone fr cs w)=.next (lone {fr with mode:=.returning} cs w):=by
 rcases a with a|⟨k,a⟩<;>
 exact step_lone_go (by cases fr;simp only at b a hr;subst b;subst a;subst hr;simp [stepG,stepG.exec])
theorem NI {l:Nat} {a:Option Code} {c:Frame} {d:World} {v:Value} (e:fr.mode=.run) (hr:fr.roundOf=some l) (f:fr.kind=.normal)
  (b:(fr.todo=[]∧a=none)∨(∃k,fr.todo=.code .ret::k∧a=some .ret)∨(∃id k,fr.todo=.code (.exit id)::k∧exitTo id k=none∧a=some (.exit id))∨(∃l k,fr.todo=.code (.goto l)::k∧gotoIn l k=none∧a=some (.goto l)))
  (g:(Instr.endRound l a).run P w=.ok v d):step P (lone fr (c::cs) w)=.next (lone (c.finish v) cs d):=by
 rcases b with ⟨b,rfl⟩|⟨k,b,rfl⟩|⟨id,k,b,h,rfl⟩|⟨i,k,b,h,rfl⟩<;>
 exact step_lone_go (by cases fr;simp only at e b hr f;subst e;subst b;subst hr;subst f;simp [stepG,stepG.exec,Sem.runT_eq,doReturn, *])
theorem LG {ops:Array Oper} {i:Nat} {rest:List Nat} {o:Oper} (a:fr.mode=.run) (b:fr.todo=.inRegion ops (i::rest)::k) (d:ops[i]?=some o) (c:Region.wanted o (yielded ops fr.tmps)=false) :
  step P (lone fr cs w)=.next (lone (fr.finish undef) cs w):=
 step_lone_go (by cases fr;simp only at a b;subst a;subst b;simp at c;simp [stepG,stepG.exec,d,c])
theorem CQ {ops:Array Oper} {i:Nat} {rest:List Nat} {o:Oper} (e:fr.mode=.run) (f:fr.todo=.inRegion ops (i::rest)::k) (g:ops[i]?=some o) (b:Region.wanted o (yielded ops fr.tmps)=true)
  (a:fr.roundOf=none∨∀c,o.op≠.defer c) :
  stepG P true {frame:=fr,callers:=cs,status:=.running,dying:=none} w=stepG.apply P true fr cs none (execOp fr.eval o) w:=by
 cases fr;simp only at e f a;subst e;subst f;simp at b;rcases a with a|a
 ·subst a;simp [stepG,stepG.exec,stepG.oper,Frame.oper?,g,b]
 ·simp only [stepG,stepG.exec,g,Option.map_some,b,Option.getD_some,if_true,stepG.oper,Frame.oper?];split
  ·rename_i c d;exact absurd d (a c)
  ·rfl
theorem PW {ops:Array Oper} {i:Nat} {rest:List Nat} {o:Oper} {b:World} {v:Value} (d:fr.mode=.run) (e:fr.todo=.inRegion ops (i::rest)::k) (f:ops[i]?=some o) (g:Region.wanted o (yielded ops fr.tmps)=true)
  (h:fr.roundOf=none∨∀c,o.op≠.defer c) (a:(execOp fr.eval o).run P w=.ok (.value v) b∨((execOp fr.eval o).run P w=.ok .skip b∧v=undef)) :
  step P (lone fr cs w)=.next (lone (fr.finish v) cs b):=by
 refine step_lone_go ?_;rw [CQ d e f g h];rcases a with a|⟨a,rfl⟩<;>simp [stepG.apply,a]
theorem Kb {ops:Array Oper} {i:Nat} {rest:List Nat} {o:Oper} {f:FuncId} {args:Array Value} {b:World} (e:fr.mode=.run) (d:fr.todo=.inRegion ops (i::rest)::k) (g:ops[i]?=some o) (h:Region.wanted o (yielded ops fr.tmps)=true)
  (j:fr.roundOf=none∨∀c,o.op≠.defer c) (a:(execOp fr.eval o).run P w=.ok (.enter f args) b):step P (lone fr cs w)=.next (lone (Frame.enter P f args .normal) (fr::cs) b):=by
 refine step_lone_go ?_;rw [CQ e d g h j];simp [stepG.apply,a,d]
theorem Un {ops:Array Oper} {i:Nat} {rest:List Nat} {o:Oper} {l:Nat} {f:FuncId} {tmps:Array Value} {assign body:Code} {b:World} (d:fr.mode=.run) (e:fr.todo=.inRegion ops (i::rest)::k) (g:ops[i]?=some o) (h:Region.wanted o (yielded ops fr.tmps)=true)
  (j:fr.roundOf=none∨∀c,o.op≠.defer c) (a:(execOp fr.eval o).run P w=.ok (.round l f tmps assign body) b):step P (lone fr cs w)=.next (lone (Frame.round l f tmps assign body .normal) (fr::cs) b):=by
 refine step_lone_go ?_;rw [CQ d e g h j];simp [stepG.apply,a]
theorem KR {l:Nat} {b:World} (c:fr.mode=.run) (d:fr.todo=.beginRound::k) (hr:fr.roundOf=some l) (a:(Instr.beginRound l).run P w=.ok () b) :
  step P (lone fr cs w)=.next (lone {fr with todo:=k} cs b):=by
 refine step_lone_go ?_;cases fr;simp only at c d hr;subst c;subst d;subst hr;simp [stepG,stepG.exec,stepG.apply,a,Frame.finish]
theorem Pk {l:Nat} {c:World} {a:Option Code} (d:fr.mode=.run) (e:fr.todo=.endRangeFunc l::k) (b:(Instr.endLoop l).run P w=.ok a c) :
  step P (lone fr cs w)=.next (lone {fr with todo:=(a.map Item.code).toList++k} cs c):=by
 refine step_lone_go ?_;cases fr;simp only at d e;subst d;subst e;simp [stepG,stepG.exec,Sem.runT_eq,b]
theorem IJ {f:Operand} {params:Array Tmp} {assign body:Code} {l:Nat} {mark:List Deferred} {b:World} (c:fr.mode=.run) (e:fr.todo=.code (.rangeFunc f params assign body)::k)
  (a:(Instr.enterLoop fr.fn fr.tmps params assign body fr.roundOf).run P w=.ok (l,mark) b) :
  (stepG P true {frame:=fr,callers:=cs,status:=.running,dying:=none} w).bare =
  (stepG.apply P true {fr with todo:=.inRangeFunc l::k,defers:=mark++fr.defers} cs none (do let d ←resolve fr.eval {callee:=.value f,args:=#[.const (.func (.yield l) #[] #[])],argTypes:=#[]} 0;invoke d.target d.args) b).bare:=by
 cases fr;simp only at c e a;subst c;subst e;simp only [stepG,stepG.exec,Sem.runT_eq,a,GStep.bare_after]
 congr 2
theorem UT {d:Deferred} {i:List Deferred} {f:FuncId} {args:Array Value} {j:World} (l:fr.mode≠.run) (m:fr.defers=d::i) (e:∀b,d.target≠.collected b) (g:d.target≠.nil)
  (a:(invoke d.target d.args).run P w=.ok (.enter f args) j):step P (lone fr cs w)=.next (lone (Frame.enter P f args .deferred) ({fr with defers:=i}::cs) j):=by
 refine step_lone_go ?_;cases fr with|mk fn tmps todo defers mode kind c=>
 cases d with|mk target h=>
 simp only at l m e g a;subst m;cases mode with
 |run=>exact absurd rfl l
 |returning=>cases target<;>first|exact absurd rfl g|exact absurd rfl (e _)|simp [stepG,unwind,callDeferred,Sem.runT_eq,a]
 |panicking n=>cases target<;>first|exact absurd rfl g|exact absurd rfl (e _)|simp [stepG,unwind,callDeferred,Sem.runT_eq,a]
theorem SU {b:Nat} {args:Array Value} {d l:List Deferred} {e:World} (f:fr.mode≠.run) (g:fr.defers={target:=.collected b,args}::d)
  (a:(Instr.takeDeferred b).run P w=.ok l e):step P (lone fr cs w)=.next (lone {fr with defers:=l++d} cs e):=by
 refine step_lone_go ?_;cases fr with|mk fn tmps todo defers mode kind c=>
 simp only at f g;subst g;cases mode with
 |run=>exact absurd rfl f
 |returning=>simp [stepG,unwind,Sem.runT_eq,a]
 |panicking h=>simp [stepG,unwind,Sem.runT_eq,a]
end
end Go.AE
namespace Go.AE
variable [Gl:Ax]
section
variable [U:Vals]
inductive IR (ρ:Ren):AI→Item→Prop
 |code (c:Code):IR ρ (.code c) (.code c)
 |inBlock (id:Nat):IR ρ (.inBlock id) (.inBlock id)
 |inLoop (b:Code):IR ρ (.inLoop b) (.inLoop b)
 |inScope (b:Code):IR ρ (.inScope b) (.inScope b)
 |ops (all:Array Oper) (rest:List Oper) (idx:List Nat) (h:rest.map some=idx.map fun i=>all[i]?):IR ρ (.ops all rest) (.inRegion all idx)
 |inRange (l:Nat) (base:Bh) (h:ρ l=some base):IR ρ (.inRange l) (.inRangeFunc base.cb)
 |endRange (l:Nat) (base:Bh) (h:ρ l=some base):IR ρ (.endRange l) (.endRangeFunc base.cb)
 |beginRound:IR ρ .beginRound .beginRound
 |dead (all:Array Oper) (idx:List Nat):IR ρ .dead (.inRegion all idx)
inductive IL (ρ:Ren):List AI→List Item→Prop
 |nil:IL ρ [] []
 |cons {a:AI} {x:Item} {l:List AI} {l':List Item} (h:IR ρ a x) (k:IL ρ l l'):IL ρ (a::l) (x::l')
 |rest:IL ρ [.rest] U.R
def CL (b:Ren):List (AV×Bool)→List PanicEntry→Prop
 |[],[]=>True
 |a::r,e::c=>VR b a.1 e.v∧e.recovered=a.2∧e.goexit=false∧CL b r c
 |_,_=>False
inductive MR (ρ:Ren):F8→FrameMode→Prop
 |run:MR ρ .run .run
 |ret:MR ρ .ret .returning
 |panic (ch:List (AV×Bool)) (ch':List PanicEntry) (h:CL ρ ch ch'):MR ρ (.panic ch) (.panicking ch')
def RR (ρ:Ren):Option Nat→Option Nat→Prop
 |none,none=>True
 |some l,some c=>∃a,ρ l=some a∧c=a.cb
 |_,_=>False
structure FrR (ρ:Ren) (f:AF) (c:Frame):Prop where
 fn:c.fn=f.fn
 tm:TR ρ f.nt f.tmps c.tmps
 todo:IL ρ f.todo c.todo
 defers:DL ρ f.defers c.defers
 mode:MR ρ f.mode c.mode
 kind:c.kind=f.kind
 round:RR ρ f.round c.roundOf
inductive FrL (ρ:Ren):List AF→List Frame→Prop
 |nil:FrL ρ [] []
 |cons {f:AF} {c:Frame} {l:List AF} {l':List Frame} (h:FrR ρ f c) (k:FrL ρ l l'):FrL ρ (f::l) (c::l')
theorem IR.mono {ρ r:Ren} (j:ρ.le r) {a:AI} {x:Item} (h:IR ρ a x):IR r a x:=by
 cases h with
 |code c=>exact .code c
 |inBlock id=>exact .inBlock id
 |inLoop b=>exact .inLoop b
 |inScope b=>exact .inScope b
 |ops all rest i h=>exact .ops all rest i h
 |inRange l base h=>exact .inRange l base (j.m _ _ h)
 |endRange l base h=>exact .endRange l base (j.m _ _ h)
 |beginRound=>exact .beginRound
 |dead all i=>exact .dead all i
theorem IL.mono {ρ j:Ren} (i:ρ.le j) {a:List AI} {x:List Item} (h:IL ρ a x):IL j a x:=by
 induction h with
 |nil=>exact .nil
 |cons h _ ih=>exact .cons (h.mono i) ih
 |rest=>exact .rest
theorem CL.mono {ρ j:Ren} (i:ρ.le j):∀{l:List (AV×Bool)} {r:List PanicEntry},CL ρ l r→CL j l r
 |[],[],_=>trivial
 |_::_,_::_,⟨t,C,I,J⟩=>⟨t.mono i,C,I,J.mono i⟩
theorem MR.mono {ρ l:Ren} (i:ρ.le l) {a:F8} {x:FrameMode} (h:MR ρ a x):MR l a x:=by
 cases h with
 |run=>exact .run
 |ret=>exact .ret
 |panic r j h=>exact .panic r j (h.mono i)
theorem RR.mono {ρ j:Ren} (i:ρ.le j) {a x:Option Nat} (h:RR ρ a x):RR j a x:=by
 cases a<;>cases x<;>simp only [RR] at h ⊢
 obtain ⟨base,l,r⟩:=h;exact ⟨base,i.m _ _ l,r⟩
theorem FrR.mono {ρ j:Ren} (i:ρ.le j) {f:AF} {c:Frame} (h:FrR ρ f c):FrR j f c:=
 ⟨h.fn,h.tm.mono i,h.todo.mono i,h.defers.mono i,h.mode.mono i,h.kind,h.round.mono i⟩
theorem FrL.mono {ρ j:Ren} (i:ρ.le j) {f:List AF} {c:List Frame} (h:FrL ρ f c):FrL j f c:=by
 induction h with
 |nil=>exact .nil
 |cons h _ ih=>exact .cons (h.mono i) ih
end
variable [U:Unk]
theorem FrR.evR {ρ:Ren} {f:AF} {c:Frame} (h:FrR ρ f c):EvR ρ f.tmps c.eval:=by
 intro o;have:=Hs h.tm o;cases o<;>exact this
theorem TR.put {ρ:Ren} {nt:Nat} {t:T AV} {a:Array Value} (h:TR ρ nt t a) {d:Nat} {v:AV} {l:Value} (r:d<nt) (C:VR ρ v l):TR ρ nt (t.set d v) (a.setIfInBounds d l):=by
 refine ⟨by simp [h.size],fun i x j=>?_⟩
 rw [T.get_set] at j;by_cases e:d=i
 ·subst e;rw [if_pos rfl] at j;cases j;have:d<a.size:=by rw [h.size];exact r
  simpa [Array.getD_eq_getD_getElem?,this] using C
 ·rw [if_neg e] at j;have:=h.get i x j;simpa [Array.getD_eq_getD_getElem?,Array.getElem?_setIfInBounds_ne e] using this
def Hf (a:Array Value) (dst:Option Tmp) (v:Value):Array Value:=match dst with|some d=>a.setIfInBounds d v|none=>a
theorem UQ {c:Ren} {nt:Nat} {t f:T AV} {a:Array Value} (h:TR c nt t a) {dst:Option Tmp} {v:AV} {g:Value} (b:DE nt t dst v=some f) (i:VR c v g) :
  TR c nt f (Hf a dst g):=by
 cases dst with
 |none=>simp only [DE,Option.some.injEq] at b;subst b;exact h
 |some d=>
  simp only [DE] at b;cases e:Nat.blt d nt with
  |false=>rw [e] at b;cases b
  |true=>
   rw [e] at b;simp only [Option.some.injEq] at b;subst b;exact h.put (by simpa [Nat.blt_eq] using e) i
theorem VR.not_bool {ρ:Ren} {a:AV} {v:Value} (h:VR ρ a v) (i:∀b,a≠.bool b) (j:a≠.top) (l:∀p e,a≠.sb p e) (b:Bool):v≠.bool b:=by
 cases h with
 |sb p e=>exact absurd rfl (l p e)
 |top v=>exact absurd rfl j
 |bool c=>exact absurd rfl (i c)
 |_=>exact fun e=>by cases e
theorem Bg {w:Ren} {nt:Nat} {t:T AV} {a:Array Value} (h:TR w nt t a) {all:Array Oper} {o:Oper} {b:Bool} (f:A3 all o t=some b):Region.wanted o (yielded all a)=b:=by
 unfold A3 at f;unfold Region.wanted;cases r:o.guard with
 |none=>rw [r] at f;simpa using f
 |some p=>
  obtain ⟨j,l⟩:=p;rw [r] at f;simp only at f ⊢;unfold yielded;have y:all[j]?=all.toList[j]?:=by simp
  rw [y];cases s:all.toList[j]? with
  |none=>rw [s] at f;simp at f ⊢;exact f
  |some g=>
   rw [s] at f;simp only [Option.bind_some] at f ⊢;cases u:g.dst with
   |none=>rw [u] at f;simp at f ⊢;exact f
   |some d=>
    rw [u] at f;simp only [Option.bind_some] at f ⊢;cases m:t.get d with
    |none=>rw [m] at f;cases f
    |some v=>
     rw [m] at f;have i:=h.get d v m;rw [Array.getD_eq_getD_getElem?] at i
     have n:(∀b,v≠.bool b)→v≠.top→(∀p e,v≠.sb p e)→((match a[d]? with|some (.bool b)=>some b|_=>none)==some l)=false:=by
      intro z A B;cases k:a[d]? with
      |none=>rfl
      |some x=>
       rw [k] at i;cases x with
       |bool c=>exact absurd rfl (i.not_bool z A B c)
       |_=>rfl
     cases v with
     |top=>cases f
     |sb p e=>
      simp only at f;split at f
      ·rename_i q C;have D:=Ap U.ok C;simp only [Option.some.injEq] at f;cases k:a[d]? with
       |none=>rw [k] at i;cases i
       |some x=>
        rw [k] at i;cases i;rw [D];simpa using f
      ·cases f
     |bool e=>
      simp only [Option.some.injEq] at f;cases k:a[d]? with
      |none=>rw [k] at i;cases i
      |some x=>
       rw [k] at i;cases i;subst f;simp
     |_=>
      simp only [Option.some.injEq] at f;subst f;exact n (fun b e=>by cases e) (fun e=>by cases e) (fun p b e=>by cases e)
end Go.AE
namespace Go.AE
variable [Gl:Ax]
variable [U:Unk]
theorem IL.ops_inv {ρ:Ren} {all:Array Oper} {o:Oper} {rest:List Oper} {k:List AI} {l:List Item} (h:IL ρ (.ops all (o::rest)::k) l) :
  ∃i j r,l=.inRegion all (i::j)::r∧all[i]?=some o∧rest.map some=j.map (fun i=>all[i]?)∧IL ρ k r:=by
 cases h with
 |cons h t=>
  cases h with
  |ops all rest j h=>
   cases j with
   |nil=>cases h
   |cons i j=>
    simp only [List.map_cons,List.cons.injEq] at h;exact ⟨i,j,_,rfl,h.1.symm,h.2,t⟩
theorem Bs {n:Ren} {f r:AF} {c:Frame} (h:FrR n f c) {v:AV} {m:Value} (d:AT f v=some r) (u:VR n v m):FrR n r (c.finish m):=by
 have b:=h.todo;unfold AT at d;split at d
 ·rename_i all o rest k g;rw [g] at b;obtain ⟨i,p,w,e,x,y,j⟩:=b.ops_inv;split at d
  ·rename_i t z;simp only [Option.some.injEq] at d;subst d;have:=UQ h.tm z u
   have A:c.finish m={c with tmps:=Hf c.tmps o.dst m,todo:=.inRegion all p::w}:=by
    simp only [Frame.finish,e,x,Option.bind_some,Hf];cases o.dst<;>rfl
   rw [A];exact ⟨h.fn,this,.cons (.ops _ _ _ y) j,h.defers,h.mode,h.kind,h.round⟩
  ·cases d
 ·rename_i l k g;rw [g] at b;simp only [Option.some.injEq] at d;subst d;generalize q:c.todo=B at b;cases b with
  |cons a j=>
   cases a with
   |inRange l s C=>
    simp only [Frame.finish,q];exact ⟨h.fn,h.tm,.cons (.endRange _ _ C) j,h.defers,h.mode,h.kind,h.round⟩
 ·rename_i k g;rw [g] at b;simp only [Option.some.injEq] at d;subst d;generalize q:c.todo=B at b;cases b with
  |cons a j=>
   cases a with
   |beginRound=>
    simp only [Frame.finish,q];exact ⟨h.fn,h.tm,j,h.defers,h.mode,h.kind,h.round⟩
 ·cases d
theorem TR.ofArgs {ρ:Ren} {n:Nat} {args:List AV} {j:List Value} (r:VL ρ args j):TR ρ (max n args.length) (.ofList args) (j.toArray++Array.replicate (n-j.toArray.size) undef):=by
 have I:=r.1;refine ⟨by simp;omega,fun i x t=>?_⟩
 rw [T.get_ofList] at t;obtain ⟨v,C,l⟩:=r.get t;have hi:i<j.length:=(List.getElem?_eq_some_iff.1 C).1;rw [Array.getD_eq_getD_getElem?,Array.getElem?_append_left (by simpa using hi)]
 simpa [C] using l
theorem Cq {E:Env} (hE:OK E) {d:Ren} {f:FuncId} {args:List AV} {a:List Value} {kind:CallKind} {g:AF} (b:BQ E f args kind=some g) (h:VL d args a) :
  FrR d g (Frame.enter E.P f a.toArray kind):=by
 unfold BQ at b;split at b
 ·rename_i fn i;split at b
  ·rename_i c j;simp only [Option.some.injEq] at b;subst b
   have e:Frame.enter E.P f a.toArray kind={fn:=f,tmps:=a.toArray++Array.replicate (fn.ntmps-a.toArray.size) undef,todo:=[.code c],defers:=[],mode:=.run,kind}:=by
    simp [Frame.enter,hE.fn f fn i,j]
   rw [e];exact ⟨rfl,TR.ofArgs h,.cons (.code c) .nil,trivial,.run,rfl,trivial⟩
  ·cases b
 ·cases b
theorem HG {g:Ren} {nt:Nat}:∀{f:List Tmp} {t d:T AV} {tm:Array Value} {args:List AV} {b:List Value},TR g nt t tm→VL g args b→Eg nt t f args=some d→
  b.length=f.length∧TR g nt d ((f.zip b).foldl (fun tmps x=>tmps.setIfInBounds x.1 x.2) tm)
 |[],t,d,tm,[],b,h,e,c=>by
  cases e.nil_inv;simp only [Eg,Option.some.injEq] at c;subst c;exact ⟨rfl,h⟩
 |[],t,d,tm,_::_,b,h,e,c=>by cases c
 |_::_,t,d,tm,[],b,h,e,c=>by cases c
 |p::f,t,d,tm,a::as,b,h,e,c=>by
  obtain ⟨v,r,rfl,j,k⟩:=e.cons_inv;simp only [Eg] at c;cases i:Nat.blt p nt with
  |false=>rw [i] at c;cases c
  |true=>
   rw [i] at c;obtain ⟨l,m⟩:=HG (h.put (by simpa [Nat.blt_eq] using i) j) k c
   exact ⟨by simp [l],m⟩
theorem KZ {E:Env} {f:Ren} {h:Aa} {w:World} (hr:HR f h.blk.get w) {l:Nat} {a:Bh} {args:List AV} {b:List Value} {g:AF} (j:f l=some a) (c:Fo l args h=some g) (k:VL f args b) :
  ∃fn tm assign body,(Instr.yield a.cb b.toArray).run E.P w=.ok (.round a.cb fn tm assign body) w∧FrR f g (Frame.round a.cb fn tm assign body .normal):=by
 unfold Fo at c;split at c
 ·rename_i st pending fn nt tmps params assign body d m;split at c
  ·rename_i t n;simp only [Option.some.injEq] at c;subst c;obtain ⟨tm,s,u,o,p⟩:=hr.blk l a _ j m;obtain ⟨q,r⟩:=HG o k n;refine ⟨fn,_,assign,body,?_,⟨rfl,r,.cons (.code _) (.cons .beginRound (.cons (.code _) .nil)),trivial,.run,rfl,⟨a,j,rfl⟩⟩⟩;have i:=Aq E.P p (fun _ _ _ e=>by cases e)
   simp only [Instr.yield,Instr.getLoop,Sem.run_bind,i,Result.andThen_ok,Sem.run_pure];simp [q]
  ·cases c
 ·cases c
end Go.AE
namespace Go.AE
variable [Gl:Ax]
section
variable [U:Vals]
structure SR (ρ:Ren) (s:AS) (cf:Frame) (ccs:List Frame) (w:World):Prop where
 fr:FrR ρ s.fr cf
 cs:FrL ρ s.cs ccs
 h:HR ρ s.h.blk.get w
end
variable [U:Unk]
def AG (P:Program) (a:List Frame) (j:Ren) (h:Aa) (d:Frame) (e:List Frame) (w0 w:World) (g:AS):Prop:=
 ∃i c b f,step P (lone d (e++a) w0)=.next (lone c (b++a) f)∧SR i g c b f∧Ext j i h g.h w f
theorem IL.not_call {ρ:Ren} {l:List AI} {i:List Item} (h:IL ρ l i) (d:Deferred) (b:Bool) (r:String) (a:Array Value) (k:List Item):i≠.call d b r a::k:=by
 intro e;cases h with
 |nil=>cases e
 |cons h _=>cases e;cases h
 |rest=>exact U.hR _ _ _ _ _ e
section
variable {E:Env} (hE:OK E) {ρ:Ren} {h:Aa} {w w0:World} {fr0 c:Frame} {f:AF} {cs:List AF} {ccs base:List Frame} {s:Sem Next} {r:Res} {s':AS}
include hE
theorem En (n:(stepG E.P true {frame:=fr0,callers:=ccs++base,status:=.running,dying:=none} w0).bare=(stepG.apply E.P true c (ccs++base) none s w).bare)
  (I:DW E ρ h w s r) (hr:HR ρ h.blk.get w) (o:FrR ρ f c) (u:FrL ρ cs ccs) (hm:c.mode=.run) (b:Bk E f cs r=.next s') (F:AA ρ h.nx s'.h.nx) :
  AG E.P base ρ h fr0 ccs w0 w s':=by
 cases r with
 |val v h'=>
  simp only [Bk] at b;split at b
  ·rename_i O p;cases b;obtain ⟨σ,Q,w',J,S,q3,T⟩:=I F;refine ⟨σ,c.finish Q,ccs,w',step_lone_go ?_,⟨Bs (o.mono T.le) p S,u.mono T.le,q3⟩,T⟩;rw [n];rcases J with J|⟨J,rfl⟩<;>simp [stepG.apply,J]
  ·cases b
 |enter g args h'=>
  obtain ⟨rfl,G,z,i⟩:=I;simp only [Bk] at b;split at b
  ·rename_i g' V;cases b;refine ⟨ρ,_,c::ccs,w,step_lone_go ?_,⟨Cq hE V z,.cons o u,hr⟩,Ext.refl _ _ _⟩;rw [n];have W:=o.todo;simp only [stepG.apply,Sem.runT_eq,i,if_true,GStep.bare_after,GStep.bare_go,List.cons_append];generalize c.todo=td at W;generalize f.todo=fd at W;cases W with
   |nil=>rfl
   |cons a _=>cases a<;>rfl
   |rest=>
    generalize hq:U.R=r;cases r with
    |nil=>rfl
    |cons x k=>cases x<;>first|rfl|exact absurd hq (U.hR _ _ _ _ _)
  ·cases b
 |round l args h'=>
  obtain ⟨rfl,lb,G,hb,z,i⟩:=I;simp only [Bk] at b;split at b
  ·rename_i g' V;cases b;obtain ⟨fn,tm,assign,body,J,S⟩:=KZ (E:=E) hr hb V z;refine ⟨ρ,_,c::ccs,w,step_lone_go ?_,⟨S,.cons o u,hr⟩,Ext.refl _ _ _⟩;rw [n];simp [stepG.apply,i,J]
  ·cases b
 |defer d h'=>
  obtain ⟨rfl,X,Y,i⟩:=I;simp only [Bk] at b;split at b
  ·cases b
  ·split at b
   ·rename_i O p;cases b;have m:=Bs o p (VR.undef ρ);refine ⟨ρ,{c with defers:=X::c.defers}.finish undef,ccs,w,step_lone_go ?_,⟨?_,u,hr⟩,Ext.refl _ _ _⟩
    ·rw [n];simp [stepG.apply,i]
    ·have e:({c with defers:=X::c.defers}:Frame).finish undef={c.finish undef with defers:=X::(c.finish undef).defers}:=by
      unfold Frame.finish;simp only;split<;>rfl
     rw [e];exact ⟨m.fn,m.tm,m.todo,⟨Y,m.defers⟩,m.mode,m.kind,m.round⟩
   ·cases b
 |recover h'=>
  obtain ⟨rfl,i⟩:=I;simp only [Bk] at b;split at b
  ·rename_i a rest C H;have hk:c.kind=.deferred:=o.kind.trans H
   have K:c.roundOf=none:=by
    have:=o.round;rw [C] at this;cases hc:c.roundOf with
    |none=>rfl
    |some l=>rw [hc] at this;exact this.elim
   cases u with
   |cons z A=>
    rename_i L q;have j:=z.mode;split at b
    ·rename_i v t Z;split at b
     ·rename_i O p;cases b;rw [Z] at j;generalize aa:L.mode=cm at j;cases j with
      |panic _ ab B=>
       cases ab with
       |nil=>exact B.elim
       |cons e D=>
        obtain ⟨N,M,h3,h4⟩:=B;obtain ⟨ev,er,eg⟩:=e;simp only at N M h3;subst M;subst h3;refine ⟨ρ,c.finish ev,{L with mode:=.panicking ({v:=ev,recovered:=true}::D)}::q,w,step_lone_go ?_,⟨Bs o p N,.cons ⟨z.fn,z.tm,z.todo,z.defers,.panic _ _ ⟨N,rfl,rfl,h4⟩,z.kind,z.round⟩ A,hr⟩,Ext.refl _ _ _⟩
        rw [n];simp [stepG.apply,i,K,tryRecover,hk,aa]
     ·cases b
    ·rename_i ac;split at b
     ·rename_i O p;cases b;refine ⟨ρ,c.finish .nilIface,L::q,w,step_lone_go ?_,⟨Bs o p .nilIface,.cons z A,hr⟩,Ext.refl _ _ _⟩;rw [n]
      have:tryRecover c (L::(q++base))=none:=by
       have ae:∀v t,L.mode≠.panicking ({v,recovered:=false,goexit:=false}::t):=by
        intro v t he;rw [he] at j;generalize ad:a.mode=am at j;cases j with
        |panic ch _ B=>
         cases ch with
         |nil=>exact B.elim
         |cons x r=>
          obtain ⟨xv,xb⟩:=x;obtain ⟨N,M,h3,h4⟩:=B;simp only at M;subst M;exact ac _ _ ad
       simp only [tryRecover,hk]
      simp [stepG.apply,i,K,this]
     ·cases b
  ·cases b
 |panic v h'=>
  obtain ⟨rfl,Q,hv,i⟩:=I;simp only [Bk] at b;split at b
  ·cases b;refine ⟨ρ,{c with mode:=.panicking [{v:=Q,recovered:=false}]},ccs,w,step_lone_go ?_,⟨⟨o.fn,o.tm,o.todo,o.defers,.panic _ _ ⟨hv,rfl,rfl,trivial⟩,o.kind,o.round⟩,u,hr⟩,Ext.refl _ _ _⟩
   rw [n];simp [stepG.apply,i,Frame.raise,hm]
  ·cases b
 |bad y=>cases b
end
end Go.AE
namespace Go.AE
variable [Gl:Ax]
variable [U:Unk]
theorem J1 {c:Ren} {id:Nat} {k:List AI} {a:List Item} (h:IL c k a):(∀r,Ip id k=some r→∃d,exitTo id a=some d∧IL c r d)∧(Ip id k=none→G4 k=false→exitTo id a=none):=by
 induction h with
 |nil=>exact ⟨(fun r h=>by cases h),fun _ _=>rfl⟩
 |rest=>exact ⟨(fun r h=>by cases h),(fun _ h=>by cases h)⟩
 |cons h f ih=>
  cases h with
  |inBlock i=>
   simp only [Ip,exitTo];cases e:Nat.beq i id with
   |true=>
    have:=As e;subst this;exact ⟨fun r hr=>⟨_,if_pos (by simp),by cases hr;exact f⟩,(fun hr _=>by cases hr)⟩
   |false=>
    have b:(i==id)=false:=by simpa using NP e
    rw [b];exact ih
  |_=>exact ih
theorem J2 {c:Ren} {l:Nat} {k:List AI} {a:List Item} (h:IL c k a):(∀r,K5 l k=some r→∃d,gotoIn l a=some d∧IL c r d)∧(K5 l k=none→G4 k=false→gotoIn l a=none):=by
 induction h with
 |nil=>exact ⟨(fun r h=>by cases h),fun _ _=>rfl⟩
 |rest=>exact ⟨(fun r h=>by cases h),(fun _ h=>by cases h)⟩
 |cons h e ih=>
  cases h with
  |inScope b=>
   simp only [K5,gotoIn];cases f:findLabel b l with
   |some rest=>exact ⟨fun r hr=>⟨_,rfl,by cases hr;exact .cons (.code _) (.cons (.inScope _) e)⟩,(fun hr _=>by cases hr)⟩
   |none=>exact ih
  |_=>exact ih
theorem CL.calm {t:Ren}:∀{l:List (AV×Bool)} {j:List PanicEntry},CL t l j→∀y∈j,y.goexit=false
 |[],[],_,y,i=>by cases i
 |_::_,e::r,⟨J,h2,C,I⟩,y,i=>by
  rcases List.mem_cons.1 i with rfl|i
  ·exact C
  ·exact CL.calm I y i
theorem NY:∀(l:List PanicEntry),(∀y∈l,y.goexit=false)→l.dropWhile (!·.goexit)=[]
 |[],_=>rfl
 |y::r,h=>by
  rw [List.dropWhile_cons_of_pos (by simp [h y (by simp)])]
  exact NY r fun z a=>h z (by simp [a])
section
variable {E:Env} (hE:OK E) {ρ:Ren} {h:Aa} {w w0:World} {fr0 c:Frame} {f:AF} {cs:List AF} {ccs base:List Frame} {s':AS}
theorem Gr {v:AV} {I:Value} (p:(stepG E.P true {frame:=fr0,callers:=ccs++base,status:=.running,dying:=none} w0).bare=(doReturn E.P true c (ccs++base) none I w).bare)
  (hr:HR ρ h.blk.get w) (t:c.kind=f.kind) (u:FrL ρ cs ccs) (K:VR ρ v I) (l:Ca f cs v h=.next s'):AG E.P base ρ h fr0 ccs w0 w s':=by
 unfold Ca at l;cases u with
 |nil=>
  simp only at l;split at l<;>cases l
 |cons n i=>
  rename_i a z rest j;simp only at l;split at l
  ·rename_i d;split at l
   ·rename_i R A;cases l;refine ⟨ρ,_,j,w,step_lone_go ?_,⟨Bs n A K,i,hr⟩,Ext.refl _ _ _⟩;rw [p];simp [doReturn,t,d]
   ·cases l
  ·rename_i d;have b:=n.mode;split at l
   ·rename_i x k B;cases l;rw [B] at b;generalize C:z.mode=S at b;cases b with
    |panic _ D m=>
     cases D with
     |nil=>exact m.elim
     |cons e o=>
      have q:=m.calm;obtain ⟨J,s,F,L⟩:=m;obtain ⟨T,V,W⟩:=e;simp only at J s F;subst s;subst F;refine ⟨ρ,{z with mode:=.returning},j,w,step_lone_go ?_,⟨⟨n.fn,n.tm,n.todo,n.defers,.ret,n.kind,n.round⟩,i,hr⟩,Ext.refl _ _ _⟩
      rw [p];simp [doReturn,t,d,C,NY o fun y M=>q y (by simp [M])]
   ·rename_i G;cases l;refine ⟨ρ,_,j,w,step_lone_go ?_,⟨n,i,hr⟩,Ext.refl _ _ _⟩;rw [p]
    have N:∀x g k,z.mode≠.panicking ({v:=x,recovered:=true,goexit:=g}::k):=by
     intro x g k O;rw [O] at b;generalize H:a.mode=X at b;cases b with
     |panic Q _ m=>
      cases Q with
      |nil=>exact m.elim
      |cons x r=>
       obtain ⟨Y,Z⟩:=x;obtain ⟨J,s,F,L⟩:=m;simp only at s;subst s;exact G _ _ H
    simp only [List.cons_append,doReturn,t,d,GStep.bare_go]
  ·cases l
include hE
theorem Fw (hr:HR ρ h.blk.get w) (i:FrR ρ f c):∀{q:List ResultVar} {l:List AV},Br E f h q=some l→
  ∃e:List Value,VL ρ l e∧(q.mapM fun|.tmp t=>pure (c.tmps.getD t undef)|.cell a t=>do loadVar t (←asAddr (c.tmps.getD a undef)):Sem (List Value)).run E.P w=.ok e w
 |[],l,b=>by
  simp only [Br,Option.some.injEq] at b;subst b;exact ⟨[],VL.nil ρ,by simp⟩
 |.tmp t::r,l,b=>by
  simp only [Br] at b;cases d:Br E f h r with
  |none=>rw [d] at b;cases b
  |some z=>
   rw [d] at b;simp only [Option.some.injEq] at b;subst b;obtain ⟨e,m,n⟩:=Fw hr i d;refine ⟨c.tmps.getD t undef::e,VL.cons ?_ m,?_⟩
   ·cases g:f.tmps.get t with
    |none=>exact .top _
    |some a=>exact i.tm.get t a g
   ·simp only [List.mapM_cons,Sem.run_bind,Sem.run_pure,Result.andThen_ok,n]
 |.cell a t::r,l,b=>by
  simp only [Br] at b;cases g:f.tmps.get a with
  |none=>rw [g] at b;cases b
  |some p=>
   rw [g] at b;simp only at b;cases j:LM E t p h with
   |none=>rw [j] at b;cases b
   |some v=>
    cases d:Br E f h r with
    |none=>rw [j,d] at b;cases b
    |some z=>
     rw [j,d] at b;simp only [Option.some.injEq] at b;subst b;obtain ⟨e,m,n⟩:=Fw hr i d;have s:=i.tm.get a p g;obtain ⟨u,k,A⟩:=Oa hE hr s j;refine ⟨u::e,VL.cons A m,?_⟩
     have:(do loadVar t (←asAddr (c.tmps.getD a undef)):Sem Value).run E.P w=.ok u w:=by
      generalize c.tmps.getD a undef=x at k s;cases x with
      |pointer o=>cases o with
       |none=>simp [Instr.loadAt,Instr.sureAddr,stuck] at k
       |some y=>simpa [Instr.loadAt,Instr.sureAddr,asAddr] using k
      |_=>simp [Instr.loadAt,Instr.sureAddr,stuck] at k
     simp only [List.mapM_cons,Sem.run_bind,Sem.run_pure] at this ⊢;rw [this];simp only [Result.andThen_ok,n]
theorem EK (hr:HR ρ h.blk.get w) (m:FrR ρ f c) {fn:Func} {l:List AV} (n:Br E f h fn.results.toList=some l) :
  ∃e,(results fn c.tmps).run E.P w=.ok e w∧(∀a,l=[a]→VR ρ a e)∧((∀a,l≠[a])→VR ρ (.tuple l) e):=by
 obtain ⟨b,d,o⟩:=Fw hE hr m n;unfold results;rw [Array.mapM_eq_mapM_toList];simp only [Sem.run_bind,Sem.run_map,Sem.run_pure];refine ⟨if h:b.toArray.size=1 then b.toArray[0] else .tuple b.toArray,?_,?_,?_⟩
 ·have key:∀R:Result (List Value),R=.ok b w→((R.andThen fun a g=>Result.ok a.toArray g).andThen fun a g=>Result.ok (if h:a.size=1 then a[0] else Value.tuple a) g) =
    Result.ok (if h:b.toArray.size=1 then b.toArray[0] else Value.tuple b.toArray) w:=by rintro _ rfl;rfl
  refine key _ ?_;rw [←o]
  congr 2
 ·rintro a rfl
  obtain ⟨v,r,rfl,p,q⟩:=d.cons_inv;cases q.nil_inv;simpa using p
 ·intro i
  have:b.toArray.size≠1:=by
   intro j;have k:=d.1;simp only [List.size_toArray] at j;rw [j] at k;obtain ⟨a,rfl⟩:=List.length_eq_one_iff.1 k;exact i a rfl
  rw [dif_neg this];exact .tuple _ _ d.1 d.2
end
end Go.AE
namespace Go.AE
variable [Gl:Ax]
variable [U:Unk]
theorem AG.pre {P:Program} {base:List Frame} {ρ C:Ren} {h I:Aa} {i:Frame} {j:List Frame} {w0 w w1:World} {r:AS} (e:Ext ρ C h I w w1) (st:AG P base C I i j w0 w1 r) (J:AA ρ h.nx r.h.nx) :
  AG P base ρ h i j w0 w r:=by
 obtain ⟨τ,t,l,w',q1,q2,q3⟩:=st;exact ⟨τ,t,l,w',q1,q2,e.trans q3 J⟩
section
variable {P:Program} {fr:Frame} {k:List Item} {cs:List Frame} {w:World}
theorem JM {l:Nat} {a:Option Code} {c:World} {v:Value} (d:fr.mode=.run) (hr:fr.roundOf=some l)
  (b:(fr.todo=[]∧a=none)∨(∃k,fr.todo=.code .ret::k∧a=some .ret)∨(∃id k,fr.todo=.code (.exit id)::k∧exitTo id k=none∧a=some (.exit id))∨(∃l k,fr.todo=.code (.goto l)::k∧gotoIn l k=none∧a=some (.goto l)))
  (e:(Instr.endRound l a).run P w=.ok v c):(stepG P true {frame:=fr,callers:=cs,status:=.running,dying:=none} w).bare=(doReturn P true fr cs none v c).bare:=by
 rcases b with ⟨b,rfl⟩|⟨k,b,rfl⟩|⟨id,k,b,f,rfl⟩|⟨g,k,b,f,rfl⟩<;>
 (cases fr;simp only at d b hr;subst d;subst b;subst hr;simp [stepG,stepG.exec,Sem.runT_eq, *])
theorem HF {v:Value} {fn:Func} (a:fr.mode=.returning) (b:fr.defers=[]) (c:P.funcs[fr.fn]?=some fn) (hr:(results fn fr.tmps).run P w=.ok v w) :
  (stepG P true {frame:=fr,callers:=cs,status:=.running,dying:=none} w).bare=(doReturn P true fr cs none v w).bare:=by
 simp [stepG,unwind,a,b,c,Sem.runT_eq,hr]
theorem gC {c:Frame} {e:List PanicEntry} (f:fr.mode=.panicking e) (g:fr.defers=[]) (h:∀d b r a k,fr.todo≠.call d b r a::k):step P (lone fr (c::cs) w)=.next (lone (c.raise e) cs w):=by
 have i:fr.catches P=false:=by
  unfold Frame.catches;split
  ·rename_i l j;exact absurd j (h _ _ _ _ _)
  ·rfl
 exact step_lone_go (by simp [stepG,unwind,f,g,i])
end
section
variable {E:Env} (hE:OK E) {ρ:Ren} {h:Aa} {w:World} {c:Frame} {f:AF} {cs:List AF} {ccs base:List Frame} {s':AS}
theorem Im (hr:HR ρ h.blk.get w) {l:Nat} {b:Bh} {st:LoopState} {pending:Option Code} {fn:FuncId} {nt:Nat} {tmps:T AV} {params:List Tmp} {assign body:Code} {d:Nat} (i:ρ l=some b)
  (j:h.blk.get l=some (.loop st pending fn nt tmps params assign body d)) (a:Option Code) :
  ∃g,(Instr.endRound b.cb a).run E.P w=.ok (.bool a.isNone) g∧HR ρ (h.put l (.loop (if a.isNone then .ready else .done) a fn nt tmps params assign body d)).blk.get g∧
   Ext ρ ρ h (h.put l (.loop (if a.isNone then .ready else .done) a fn nt tmps params assign body d)) w g:=by
 obtain ⟨tm,k,n,o,m⟩:=hr.blk l b _ i j;have p:=Aq E.P m (fun _ _ _ e=>by cases e)
 obtain ⟨q,r⟩:=hr.setObj i (by rw [j];exact fun e=>by cases e) (.loop (if a.isNone then .ready else .done) a fn nt tmps params assign body d)
  (.loop {state:=if a.isNone then .ready else .done,pending:=a,fn:=fn,tmps:=tm,params:=params.toArray,assign:=assign,body:=body,defers:=k.cb}) ⟨tm,k,n,o,rfl⟩
 refine ⟨_,?_,q,r⟩;have s:=fun o'=>Av (o':=o') E.P m (fun _ _ _ e=>by cases e)
 simp only [Instr.endRound,Instr.getLoop,Sem.run_bind,p,Result.andThen_ok,Sem.run_pure,s]
theorem RR.none_inv {ρ:Ren} {x:Option Nat} (h:RR ρ none x):x=none:=by
 cases x with
 |none=>rfl
 |some l=>exact h.elim
theorem RR.some_inv {ρ:Ren} {l:Nat} {x:Option Nat} (h:RR ρ (some l) x):∃b,ρ l=some b∧x=some b.cb:=by
 cases x with
 |none=>exact h.elim
 |some c=>obtain ⟨b,i,rfl⟩:=h;exact ⟨b,i,rfl⟩
theorem FM (hr:HR ρ h.blk.get w) (i:FrR ρ f c) (o:FrL ρ cs ccs) (s:c.mode=.run) {e:Option Code}
  (j:(c.todo=[]∧e=none)∨(∃k,c.todo=.code .ret::k∧e=some .ret)∨(∃id k,c.todo=.code (.exit id)::k∧exitTo id k=none∧e=some (.exit id))∨(∃l k,c.todo=.code (.goto l)::k∧gotoIn l k=none∧e=some (.goto l)))
  (g:C7 f cs h e=.next s') (m:AA ρ h.nx s'.h.nx):AG E.P base ρ h c ccs w w s':=by
 have a:=i.round;unfold C7 at g;split at g
 ·rename_i p;rw [p] at a;have n:=a.none_inv
  have q:c.todo=[]∨∃k,c.todo=.code .ret::k:=by
   rcases j with ⟨j,_⟩|⟨k,j,_⟩|⟨id,k,j,t,rfl⟩|⟨B,k,j,t,rfl⟩
   ·exact .inl j
   ·exact .inr ⟨k,j⟩
   ·cases g
   ·cases g
  have u:s'={fr:={f with mode:=.ret},cs,h}:=by
   split at g
   ·cases g;rfl
   ·cases g;rfl
   ·cases g
  subst u;exact ⟨ρ,_,ccs,w,bo s q n,⟨⟨i.fn,i.tm,i.todo,i.defers,.ret,i.kind,i.round⟩,o,hr⟩,Ext.refl _ _ _⟩
 ·rename_i l r;rw [r] at a;obtain ⟨b,v,n⟩:=a.some_inv;split at g
  ·rename_i st pending fn nt tmps params assign body d x;obtain ⟨C,y,z,A⟩:=Im (E:=E) hr v x e;exact AG.pre A (Gr (JM s n j y) z i.kind o (.bool _) g) m
  ·cases g
include hE
theorem OA (hr:HR ρ h.blk.get w) (o:FrR ρ f c) (q:FrL ρ cs ccs) (X:c.mode≠.run) (i:Dn E f cs h=.next s'):AG E.P base ρ h c ccs w w s':=by
 have m:=o.defers;unfold Dn at i;split at i
 ·rename_i d ds A;rw [A] at m;cases n:c.defers with
  |nil=>rw [n] at m;exact m.elim
  |cons d' G=>
   rw [n] at m;obtain ⟨s,H⟩:=m;unfold DR at s;split at i
   ·rename_i t;rw [t] at s;obtain ⟨b,Y,rfl⟩:=s;split at i
    ·rename_i l Z;cases i;obtain ⟨l',q1,q2⟩:=hr.blk _ b _ Y Z;obtain ⟨I,M⟩:=hr.setObj Y (by rw [Z];exact fun e=>by cases e) (.deferred none) (.deferred none) rfl
     refine ⟨ρ,_,ccs,_,SU X n ?_,⟨⟨o.fn,o.tm,o.todo,q1.append H,o.mode,o.kind,o.round⟩,q,I⟩,M⟩;have O:=Aq E.P q2 (fun _ _ _ e=>by cases e)
     have hs:=Av (o':=.deferred none) E.P q2 (fun _ _ _ e=>by cases e)
     simp only [Instr.takeDeferred,Sem.run_bind,O,Result.andThen_ok,Sem.run_pure,hs]
    ·cases i
   ·rename_i fn t;rw [t] at s;obtain ⟨aa,c',a',h1,h2,h3,rfl⟩:=s;have hi:=Du hE hr h1 h2 h3;split at i
    ·rename_i g args h' Q;rw [Q] at hi;obtain ⟨rfl,R,u,J⟩:=hi;split at i
     ·rename_i gf O;cases i;exact ⟨ρ,_,{c with defers:=G}::ccs,w,UT X n (fun b e=>by cases e) (fun e=>by cases e) J,⟨Cq hE O u,.cons ⟨o.fn,o.tm,o.todo,H,o.mode,o.kind,o.round⟩ q,hr⟩,Ext.refl _ _ _⟩
     ·cases i
    ·cases i
 ·rename_i A;rw [A] at m
  have n:c.defers=[]:=by
   cases n:c.defers with
   |nil=>rfl
   |cons d' G=>rw [n] at m;exact m.elim
  have j:=o.mode;split at i
  ·cases i
  ·rename_i S B;rw [B] at j;generalize y:c.mode=cm at j;cases j with
   |panic _ K T=>
    cases q with
    |nil=>
     simp only at i;split at i
     ·split at i<;>cases i
     ·cases i
    |cons u C=>
     rename_i a N rest D;simp only at i;split at i
     ·rename_i V;cases i;have p:=u.mode;rw [V] at p
      have L:N.mode=.run:=by
       generalize N.mode=x at p;cases p;rfl
      refine ⟨ρ,_,D,w,gC y n (fun d b r a k=>o.todo.not_call d b r a k),⟨?_,C,hr⟩,Ext.refl _ _ _⟩
      have e:N.raise K={N with mode:=.panicking K}:=by simp [Frame.raise,L]
      rw [e];exact ⟨u.fn,u.tm,u.todo,u.defers,.panic _ _ T,u.kind,u.round⟩
     ·cases i
  ·rename_i B;rw [B] at j
   have y:c.mode=.returning:=by
    generalize c.mode=x at j;cases j;rfl
   split at i
   ·rename_i fn t;have z:E.P.funcs[c.fn]?=some fn:=by rw [o.fn];exact hE.fn _ _ t
    split at i
    ·rename_i v F;obtain ⟨v',I,M,p3⟩:=EK hE hr o F;exact Gr (HF y n z I) hr o.kind q (M _ rfl) i
    ·rename_i l W F;obtain ⟨v',I,M,p3⟩:=EK hE hr o F;exact Gr (HF y n z I) hr o.kind q (p3 fun a e=>W a (by rw [e])) i
    ·cases i
   ·cases i
end
end Go.AE
namespace Go.AE
variable [Gl:Ax]
variable [U:Unk]
section
variable {E:Env} (hE:OK E) {ρ:Ren} {h:Aa} {w:World} {c:Frame} {f:AF} {cs:List AF} {ccs base:List Frame} {s s':AS}
theorem AG.to {P:Program} (i:SR ρ s c ccs w) {k:List AI} {l:List Item} (r:IL ρ k l) (j:step P (lone c (ccs++base) w)=.next (lone {c with todo:=l} (ccs++base) w)) :
  AG P base ρ s.h c ccs w w {s with fr:={s.fr with todo:=k}}:=
 ⟨ρ,_,ccs,w,j,⟨⟨i.fr.fn,i.fr.tm,r,i.fr.defers,i.fr.mode,i.fr.kind,i.fr.round⟩,i.cs,i.h⟩,Ext.refl _ _ _⟩
theorem Q1 (ops:Array Oper):ops.toList.map some=(List.range ops.size).map fun i=>ops[i]?:=by
 apply List.ext_getElem (by simp)
 intro i a b;simp at a;simp [a]
theorem C0 (tmps:T AV) (c:Call) (h:Aa):(∃d,FC tmps c h=.defer d h)∨∃y,FC tmps c h=.bad y:=by
 unfold FC;split
 ·split
  ·exact .inl ⟨_,rfl⟩
  ·exact .inr ⟨_,rfl⟩
 ·exact .inr ⟨_,rfl⟩
theorem F8.not_run {ρ:Ren} {a:F8} {m:FrameMode} (h:MR ρ a m) (i:a≠.run):m≠.run:=by
 cases h with
 |run=>exact absurd rfl i
 |ret=>exact fun e=>by cases e
 |panic=>exact fun e=>by cases e
include hE
theorem wp (a:SR ρ s c ccs w) (q:c.mode=.run) (A:s.fr.mode=.run) {all:Array Oper} {o:Oper} {rest:List Oper} {k:List AI} (B:s.fr.todo=.ops all (o::rest)::k)
  (g:(match A3 all o s.fr.tmps with
   |some true=>Bk E s.fr s.cs (aop E s.fr.tmps s.h o.op)
   |some false=>Bk E s.fr s.cs (.val .undef s.h)
   |none=>.bad "wanted")=.next s') (m:AA ρ s.h.nx s'.h.nx):AG E.P base ρ s.h c ccs w w s':=by
 have j:=a.fr.todo;rw [B] at j;obtain ⟨i,C,F,e,x,z,G⟩:=j.ops_inv;split at g
 ·rename_i r;have n:=Bg a.fr.tm r
  have D:c.roundOf=none∨∀cl,o.op≠.defer cl:=by
   cases p:o.op with
   |defer cl=>
    left;have b:=a.fr.round;rcases C0 s.fr.tmps cl s.h with ⟨d,t⟩|⟨y,t⟩
    ·have l:aop E s.fr.tmps s.h o.op=.defer d s.h:=by rw [p];simpa [aop] using t
     rw [l] at g;simp only [Bk] at g;split at g
     ·cases g
     ·rename_i u;rw [u] at b;exact b.none_inv
    ·have l:aop E s.fr.tmps s.h o.op=.bad y:=by rw [p];simpa [aop] using t
     rw [l] at g;cases g
   |_=>exact .inr fun cl e=>by cases e
  exact En hE (by rw [CQ q e x n D]) (Ia hE a.h a.fr.evR o) a.h a.fr a.cs q g m
 ·rename_i r;have n:=Bg a.fr.tm r;simp only [Bk] at g;split at g
  ·rename_i H v;cases g;exact ⟨ρ,_,ccs,w,LG q e x n,⟨Bs a.fr v (VR.undef ρ),a.cs,a.h⟩,Ext.refl _ _ _⟩
  ·cases g
 ·cases g
omit hE in
theorem DW.congr {s t:Sem Next} {r:Res} (e:s.run E.P w=t.run E.P w) (d:DW E ρ h w t r):DW E ρ h w s r:=by
 cases r with
 |bad y=>trivial
 |_=>simpa only [DW,e] using d
def JT (a:Option Nat):Sem (Nat×List Deferred):=match a with
  |some l=>do pure ((←Instr.getLoop l).defers,[])
  |none=>do
   let r ←newObj (.deferred (some []))
   pure (r,[{target:=.collected r,args:=#[]}])
omit hE in
theorem Ot (hr:HR ρ h.blk.get w) (hf:FrR ρ f c) {d:Nat} {h1:Aa} {mark:List AD} (hc:P5 f h=some (d,h1,mark)) (hfree:AA ρ h.nx h1.nx) :
  ∃σ w1 bd mark',(JT c.roundOf).run E.P w=.ok (bd.cb,mark') w1∧σ d=some bd∧DL σ mark mark'∧HR σ h1.blk.get w1∧Ext ρ σ h h1 w w1:=by
 have hround:=hf.round;unfold P5 at hc;split at hc
 ·rename_i l hrs;rw [hrs] at hround;obtain ⟨b,hb,hro⟩:=hround.some_inv;split at hc
  ·rename_i hl;simp only [Option.some.injEq,Prod.mk.injEq] at hc;obtain ⟨rfl,rfl,rfl⟩:=hc;obtain ⟨tm,bd,q1,q2,q3⟩:=hr.blk l b _ hb hl;have hg:=Aq E.P q3 (fun _ _ _ e=>by cases e)
   refine ⟨ρ,w,bd,[],?_,q1,trivial,hr,Ext.refl _ _ _⟩;simp only [hro,JT,Instr.getLoop,Sem.run_bind,hg,Result.andThen_ok,Sem.run_pure]
  ·cases hc
 ·rename_i hrn;rw [hrn] at hround;have hro:=hround.none_inv;simp only [Option.some.injEq,Prod.mk.injEq] at hc;obtain ⟨rfl,rfl,rfl⟩:=hc;obtain ⟨q1,q2⟩:=hr.new (hfree h.nx (Nat.le_refl _) (by simp [Aa.new])) (.deferred (some [])) (.deferred (some [])) 0 ⟨[],trivial,rfl⟩ {w with heap:=w.heap.push (.deferred (some []))} rfl rfl rfl rfl
  have hu:(ρ.upd h.nx ⟨w.heap.size,0,0⟩) h.nx=some ⟨w.heap.size,0,0⟩:=by simp [Ren.upd]
  refine ⟨_,_,⟨w.heap.size,0,0⟩,[{target:=.collected w.heap.size,args:=#[]}],?_,hu,⟨⟨_,hu,rfl⟩,trivial⟩,q1,q2⟩;simp only [hro,JT,Sem.run_bind,run_newObj,Result.andThen_ok,Sem.run_pure]
theorem TU (q:SR ρ s c ccs w) (N:c.mode=.run) {D:Operand} {params:Array Tmp} {assign body:Code} {k:List AI} {F:List Item} (R:IL ρ k F) (S:c.todo=.code (.rangeFunc D params assign body)::F)
  (p:FT E s D params.toList assign body k=.next s') (hfree:AA ρ s.h.nx s'.h.nx):AG E.P base ρ s.h c ccs w w s':=by
 unfold FT at p;split at p
 ·rename_i d h1 mark u;split at p
  ·rename_i fn first captured G;split at p
   ·rename_i g args T H;split at p
    ·rename_i gf hg;cases p;have z:(h1.new (.loop .ready none s.fr.fn s.fr.nt s.fr.tmps params.toList assign body d)).nx=h1.nx+1:=rfl;obtain ⟨σ,w1,bd,mark',q1,q2,q3,V,A⟩:=Ot (E:=E) q.h q.fr u (fun b h1 h2=>hfree b h1 (by simp only [z];omega))
     have v:=q.fr.mono A.le;have n:σ h1.nx=none:=(A.free hfree) h1.nx (Nat.le_refl _) (by simp only [z];omega)
     have o:=Ren.le_upd n ⟨w1.heap.size,0,0⟩;obtain ⟨O,W⟩:=V.new n (.loop .ready none s.fr.fn s.fr.nt s.fr.tmps params.toList assign body d)
      (.loop {state:=.ready,pending:=none,fn:=c.fn,tmps:=c.tmps,params:=params,assign:=assign,body:=body,defers:=bd.cb}) 0
      ⟨c.tmps,bd,o.m _ _ q2,v.tm.mono o,by rw [v.fn]⟩
      {w1 with heap:=w1.heap.push (.loop {state:=.ready,pending:=none,fn:=c.fn,tmps:=c.tmps,params:=params,assign:=assign,body:=body,defers:=bd.cb})} rfl rfl rfl rfl
     have hu:(σ.upd h1.nx ⟨w1.heap.size,0,0⟩) h1.nx=some ⟨w1.heap.size,0,0⟩:=by simp [Ren.upd]
     have B:(Instr.enterLoop c.fn c.tmps params assign body c.roundOf).run E.P w=.ok (w1.heap.size,mark') {w1 with heap:=w1.heap.push (.loop {state:=.ready,pending:=none,fn:=c.fn,tmps:=c.tmps,params:=params,assign:=assign,body:=body,defers:=bd.cb})}:=by
      cases hro:c.roundOf with
      |some l=>
       rw [hro] at q1;simp only [JT,Sem.run_bind,Sem.run_pure] at q1;simp only [Instr.enterLoop,Sem.run_bind,Sem.run_pure,run_newObj,Result.andThen_ok];cases Q:(Instr.getLoop l).run E.P w with
       |ok a w2=>
        rw [Q] at q1;simp only [Result.andThen_ok,Result.ok.injEq,Prod.mk.injEq] at q1 ⊢;obtain ⟨⟨I,J⟩,K⟩:=q1;rw [I,J,K];exact ⟨⟨rfl,rfl⟩,rfl⟩
       |halt x w2=>rw [Q] at q1;cases q1
      |none=>
       rw [hro] at q1;simp only [JT,Sem.run_bind,Sem.run_pure,run_newObj,Result.andThen_ok,Result.ok.injEq,Prod.mk.injEq] at q1;obtain ⟨⟨I,J⟩,K⟩:=q1;simp only [Instr.enterLoop,Sem.run_bind,Sem.run_pure,run_newObj,Result.andThen_ok];rw [←I,←J,←K]
     refine AG.pre (A.trans W hfree) ?_ hfree;have i:=v.mono o;have L:=i.evR D;rw [G] at L;generalize M:c.eval D=cv at L;cases L with
     |func _ X _ _ Y c' Z r2 r3 r4 r5=>
      have ha:VL (σ.upd h1.nx ⟨w1.heap.size,0,0⟩) (first++[.func (.yield h1.nx) [] []]) (Y++[.func (.yield w1.heap.size) #[] #[]]):=
       VL.append ⟨r2,r3⟩ (VL.cons (.func _ _ [] [] [] [] ⟨_,hu,rfl⟩ rfl (by simp) rfl (by simp)) (VL.nil _))
      have j:=Du hE O Z ⟨r4,r5⟩ ha;rw [H] at j;have he:T=_:=j.1;subst he
      refine En hE (c:={c with todo:=.inRangeFunc w1.heap.size::F,defers:=mark'++c.defers})
       (f:={s.fr with todo:=.inRange h1.nx::k,defers:=mark++s.fr.defers}) (cs:=s.cs) (IJ N S B) (j.congr ?_) O
       ⟨i.fn,i.tm,.cons (.inRange _ _ hu) ((R.mono A.le).mono o),(q3.mono o).append i.defers,i.mode,i.kind,i.round⟩ ((q.cs.mono A.le).mono o) N ?_ (fun b l1 l2=>absurd (Nat.lt_of_le_of_lt l1 l2) (Nat.lt_irrefl _))
      ·have C:c.eval (.const (.func (.yield w1.heap.size) #[] #[]))=.func (.yield w1.heap.size) #[] #[]:=rfl;simp [resolve,M,C,Deferred.ofValue]
      ·simp only [Bk,hg]
    ·cases p
   ·cases p
  ·cases p
 ·cases p
theorem Fh (g:SR ρ s c ccs w) (p:AU E s=.next s') (hfree:AA ρ s.h.nx s'.h.nx):AG E.P base ρ s.h c ccs w w s':=by
 have z:=g.fr.mode;have m:=g.fr.todo;unfold AU at p;simp only at p;split at p
 ·rename_i D;rw [D] at z
  have v:c.mode=.run:=by
   generalize c.mode=x at z;cases z;rfl
  split at p
  ·rename_i B;rw [B] at m;generalize n:c.todo=H at m;cases m;exact FM g.h g.fr g.cs v (.inl ⟨n,rfl⟩) p hfree
  ·rename_i id k B;rw [B] at m;generalize n:c.todo=H at m;cases m with|cons a u=>
   cases a;cases p;exact AG.to g u (PQ v n)
  ·rename_i id k B;rw [B] at m;generalize n:c.todo=H at m;cases m with|cons a u=>
   cases a;cases p;exact AG.to g u (Py v n)
  ·rename_i b k B;rw [B] at m;generalize n:c.todo=H at m;cases m with|cons a u=>
   cases a;cases p;exact AG.to g (.cons (.code _) (.cons (.inLoop _) u)) (QV v n)
  ·rename_i all k B;rw [B] at m;generalize n:c.todo=H at m;cases m with|cons a u=>
   cases a with|ops _ _ K L=>
   cases K with
   |cons i K=>cases L
   |nil=>
    cases p;exact AG.to g u (HC v n)
  ·rename_i all o rest k B;exact wp hE g v D B p hfree
  ·cases p
  ·cases p
  ·cases p
  ·rename_i l k B;rw [B] at m;generalize n:c.todo=H at m;cases m with|cons a u=>
   cases a with|endRange _ b hb=>
   split at p
   ·rename_i st pending fn nt tmps params assign body d hl;split at p
    ·cases p
    ·rename_i O;cases p;obtain ⟨tm,bd,h1,I,M⟩:=g.h.blk l b _ hb hl;have hg:=Aq E.P M (fun _ _ _ e=>by cases e)
     obtain ⟨q1,q2⟩:=g.h.setObj hb (by rw [hl];exact fun e=>by cases e) (.loop .exhausted pending fn nt tmps params assign body d)
      (.loop {state:=.exhausted,pending,fn:=fn,tmps:=tm,params:=params.toArray,assign:=assign,body:=body,defers:=bd.cb}) ⟨tm,bd,h1,I,rfl⟩
     have Q:=fun o'=>Av (o':=o') E.P M (fun _ _ _ e=>by cases e)
     have R:(st==LoopState.busy)=false:=by
      cases st<;>first|rfl|exact absurd rfl O
     have N:(Instr.endLoop b.cb).run E.P w=.ok pending {w with heap:=w.heap.setIfInBounds b.cb (.loop {state:=.exhausted,pending,fn:=fn,tmps:=tm,params:=params.toArray,assign:=assign,body:=body,defers:=bd.cb})}:=by
      simp only [Instr.endLoop,Instr.getLoop,Sem.run_bind,hg,Result.andThen_ok,Sem.run_pure,R,Bool.false_eq_true,if_false,Q]
     refine ⟨ρ,_,ccs,_,Pk v n N,⟨⟨g.fr.fn,g.fr.tm,?_,g.fr.defers,g.fr.mode,g.fr.kind,g.fr.round⟩,g.cs,q1⟩,q2⟩;cases pending with
     |none=>exact u
     |some j=>exact .cons (.code _) u
   ·cases p
  ·rename_i k B;rw [B] at m;generalize n:c.todo=H at m;cases m with|cons a u=>
   cases a;have hround:=g.fr.round;split at p
   ·rename_i l hrs;rw [hrs] at hround;obtain ⟨b,hb,hro⟩:=hround.some_inv;split at p
    ·rename_i pending fn nt tmps params assign body d hl;cases p;obtain ⟨tm,bd,h1,I,M⟩:=g.h.blk l b _ hb hl;have hg:=Aq E.P M (fun _ _ _ e=>by cases e)
     obtain ⟨q1,q2⟩:=g.h.setObj hb (by rw [hl];exact fun e=>by cases e) (.loop .busy pending fn nt tmps params assign body d)
      (.loop {state:=.busy,pending,fn:=fn,tmps:=tm,params:=params.toArray,assign:=assign,body:=body,defers:=bd.cb}) ⟨tm,bd,h1,I,rfl⟩
     have Q:=fun o'=>Av (o':=o') E.P M (fun _ _ _ e=>by cases e)
     refine ⟨ρ,_,ccs,_,KR v n hro ?_,⟨⟨g.fr.fn,g.fr.tm,u,g.fr.defers,g.fr.mode,g.fr.kind,g.fr.round⟩,g.cs,q1⟩,q2⟩;simp only [Instr.beginRound,Instr.getLoop,Sem.run_bind,hg,Result.andThen_ok,Sem.run_pure,Q]
    ·cases p
   ·cases p
  ·rename_i Z k B;rw [B] at m;generalize n:c.todo=H at m;cases m with|cons a u=>
   cases a;split at p
   ·exact FM g.h g.fr g.cs v (.inr (.inl ⟨_,n,rfl⟩)) p hfree
   ·cases p;exact AG.to g u (UA v n)
   ·cases p;exact AG.to g u (Se v n)
   ·cases p;exact AG.to g (.cons (.code _) (.cons (.code _) u)) (eS v n)
   ·rename_i F x y;have G:=g.fr.evR F;split at p
    ·rename_i C;rw [C] at G;generalize A:c.eval F=T at G;cases G;cases p;exact AG.to g (.cons (.code _) u) (I4 v n A)
    ·rename_i C;rw [C] at G;generalize A:c.eval F=T at G;cases G;cases p;exact AG.to g (.cons (.code _) u) (I4 v n A)
    ·rename_i pos e C;rw [C] at G;generalize A:c.eval F=T at G;cases G;split at p
     ·rename_i q W;have X:=Ap U.ok W;rw [X] at A;split at p
      ·rename_i S;rw [S] at A;cases p;exact AG.to g (.cons (.code _) u) (I4 v n A)
      ·rename_i S;rw [S] at A;cases p;exact AG.to g (.cons (.code _) u) (I4 v n A)
     ·cases p
    ·cases p
   ·cases p;exact AG.to g (.cons (.code _) (.cons (.inBlock _) u)) (TT v n)
   ·cases p;exact AG.to g (.cons (.code _) (.cons (.inLoop _) u)) (Vh v n)
   ·cases p;exact AG.to g (.cons (.code _) (.cons (.inScope _) u)) (TA v n)
   ·rename_i id;split at p
    ·rename_i k2 C;cases p;obtain ⟨Y,h1,I⟩:=(J1 u).1 _ C;exact AG.to g I (Vd v n h1)
    ·rename_i C;split at p
     ·cases p
     ·rename_i J;exact FM g.h g.fr g.cs v (.inr (.inr (.inl ⟨_,_,n,(J1 u).2 C J,rfl⟩))) p hfree
   ·rename_i id;split at p
    ·rename_i k2 C;cases p;obtain ⟨Y,h1,I⟩:=(J2 u).1 _ C;exact AG.to g I (U6 v n h1)
    ·rename_i C;split at p
     ·cases p
     ·rename_i J;exact FM g.h g.fr g.cs v (.inr (.inr (.inr ⟨_,_,n,(J2 u).2 C J,rfl⟩))) p hfree
   ·exact TU hE g v u n p hfree
   ·rename_i id ops V;split at p
    ·cases p;exact AG.to g (.cons (.ops _ _ _ (Q1 _)) u) (Ra v n)
    ·cases p
   ·cases p
 ·rename_i D;exact OA hE g.h g.fr g.cs (F8.not_run z D) p
end
end Go.AE

