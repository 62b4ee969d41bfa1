/- What is proved here: an evaluator of the model's steps that the kernel can run, and that whatever it answers is what the model does (part 4 of 8: AeSlc, AeEqS, AeMap, AeMap2, AeCat, AeOps19, AeOps20, AeStep1, AeStep2, AeStep3, AeStep4, AeStep5, AeStep6, AeStep7). Conditions: those that each theorem states; they hold of no one program. -/
import Derived.Test.YtmjeljjkhblgeaaGreatDoorBeC
set_option linter.unusedVariables false
set_option linter.unusedSectionVars false
set_option linter.unusedSimpArgs false
namespace Go.AE
variable [Gl:AH]
variable [U:Unk]
theorem KF {l u n:SE} (h:inB l u n=true):0≤Af U.V l∧Af U.V l≤Af U.V u∧Af U.V u≤Af U.V n:=by
 unfold inB at h;obtain ⟨d,e⟩:=Aq h;obtain ⟨f,g⟩:=Aq d;have a:=IW f;have b:=IW g;have c:=IW e;rw [At,decide_eq_false_iff_not] at a b c;have z:Af U.V (.c 0)=0:=rfl;rw [z] at a;omega
theorem EK {c:Ren} {d e:SE} {o:Option AV} {b:Option Value} (f:∀a,o=some a→∃v,b=some v∧VR c a v) (h0:o=none→b=none) (h:Hd d o=some e) :
  (b=none∧e=d)∨∃k,b=some (.int k (Af U.V e)):=by
 cases o with
 |none=>cases h;exact .inl ⟨h0 rfl,rfl⟩
 |some a=>
  obtain ⟨v,g,hr⟩:=f a rfl;simp only [Hd] at h;split at h
  ·rename_i k j i;cases h;exact .inr ⟨k,by rw [g,CG hr i]⟩
  ·cases h
theorem zk {d:Ren} {o:Option AV} {e:Option Value} (f:∀a,o=some a→∃v,e=some v∧VR d a v):∀a,o.map Nv=some a→∃v,e=some v∧VR d a v:=by
 intro a c;cases o with
 |none=>cases c
 |some b=>
  simp only [Option.map_some,Option.some.injEq] at c;subst c;obtain ⟨v,g,h⟩:=f b rfl;exact ⟨v,g,Jc h⟩
omit U in
theorem gE [Facts] {o:Option AV} {o':Option Value} (h0:o=none→o'=none):o.map Nv=none→o'=none:=by
 intro h;cases o with
 |none=>exact h0 rfl
 |some b=>cases h
theorem EA {P:Program} {w:World} {kd:IntKind} {x:Int} {y:Nat} {code:BoundsCode} (h0:0≤x) (a:x≤y):(Instr.sliceBound (.int kd x) y code).run P w=.ok x.toNat w:=by
 simp [Instr.sliceBound,asIntOf,h0,a]
theorem G7 {P:Program} {w:World} {b:Bool} {len cap:Nat} {l u dl du:SE} {f hi':Option Value} (j:(f=none∧l=dl)∨∃k,f=some (.int k (Af U.V l))) (n:(hi'=none∧u=du)∨∃k,hi'=some (.int k (Af U.V u)))
  (g:Af U.V dl=0) (i:Af U.V du=len) (h0:0≤Af U.V l) (q:Af U.V l≤Af U.V u) (r:Af U.V u≤len) (s:len≤cap) :
  (Instr.sliceBounds b len cap f hi' none).run P w=.ok ((Af U.V l).toNat,(Af U.V u).toNat,cap) w:=by
 rcases n with ⟨a,c⟩|⟨k,a⟩
 ·subst a;subst c;rcases j with ⟨d,e⟩|⟨k,d⟩
  ·subst d;subst e;simp [Instr.sliceBounds,g,i]
  ·subst d;have:=EA (P:=P) (w:=w) (kd:=k) (code:=.sliceB) h0 (show Af U.V l≤(len:Int) by omega)
   simp [Instr.sliceBounds,i,this]
 ·subst a;have m:∀code,(Instr.sliceBound (.int k (Af U.V u)) cap code).run P w=.ok (Af U.V u).toNat w:=fun code=>EA (by omega) (by omega)
  rcases j with ⟨d,e⟩|⟨p,d⟩
  ·subst d;subst e;simp [Instr.sliceBounds,g,m]
  ·subst d;have:=EA (P:=P) (w:=w) (kd:=p) (code:=.sliceB) h0 (show Af U.V l≤((Af U.V u).toNat:Int) by omega)
   simp [Instr.sliceBounds,m,this]
theorem Ef {y l u:SE}:(Ac U.V (.sub y l u)).rows=((Ac U.V y).rows.drop (Af U.V l).toNat).take ((Af U.V u).toNat-(Af U.V l).toNat):=rfl
theorem NE {rows:List D} {l n i:Nat} (hi:i<n):((rows.drop l).take n).getD i default=rows.getD (l+i) default:=by
 rw [List.getD_eq_getElem?_getD,List.getD_eq_getElem?_getD,List.getElem?_take_of_lt hi,List.getElem?_drop]
theorem HR.swap {ρ:Ren} {h:Aa} {w:World} (hr:HR ρ h.blk.get w) {r:Nat} (hl:h.blk.get r≠none) (x:Ab) (hx:∀base,ρ r=some base→BR ρ x base w.heap[base.cb]?) :
  HR ρ (h.put r x).blk.get w∧Ext ρ ρ h (h.put r x) w w:=by
 have live:∀b,(h.put r x).blk.get b≠none→h.blk.get b≠none:=by
  intro b i;simp only [Aa.put,T.get_set] at i;by_cases e:r=b
  ·subst e;exact hl
  ·rw [if_neg e] at i;exact i
 refine ⟨⟨hr.lt,?_,fun b J c c' t j C i h2=>hr.apart b J c c' t j C (live b i) (live J h2),hr.imm,fun k arr b c hk j i=>hr.off k arr b c hk j (live b i),hr.glob⟩,
  ⟨Ren.le_refl ρ,Nat.le_refl _,fun _ _ e=>.inl e,GE.refl w,fun _ _ _=>rfl,⟨[r],rfl,?_⟩,fun b i=>.inl (live b i),fun _ _ e=>.inl e⟩⟩
 ·intro b c y j l;simp only [Aa.put,T.get_set] at l;by_cases e:r=b
  ·subst e;rw [if_pos rfl] at l;cases l;exact hx c j
  ·rw [if_neg e] at l;exact hr.blk b c y j l
 ·intro b I _;simp only [Aa.put,T.get_set];rw [if_neg (fun e=>I (by simp [e]))]
section
variable {E:Env} (hE:OK E) {ρ:Ren} {h:Aa} {w:World}
include hE
theorem Qx (hr:HR ρ h.blk.get w) {t:TypeId} {x a:AV} {X:Value} {lo hi:Option AV} {g k:Option Value} {h':Aa} (hx:VR ρ x X)
  (M:∀a,lo=some a→∃v,g=some v∧VR ρ a v) (r:lo=none→g=none)
  (N:∀a,hi=some a→∃v,k=some v∧VR ρ a v) (s:hi=none→k=none)
  (f:SP E t x lo hi h=some (a,h')):h'=h∧∃v,(Instr.sliceAt t X g k none).run E.P w=.ok v w∧VR ρ a v:=by
 unfold SP at f;split at f
 ·rename_i e' y;split at f
  ·rename_i e l u hd O Q;split at f
   ·rename_i c hk;split at f
    ·rename_i R;cases f;refine ⟨rfl,?_⟩;obtain ⟨S,c3⟩:=Aq R;obtain ⟨c1,c2⟩:=Aq S;have h0:=Aw c1;subst h0;obtain ⟨b0,b1,Y⟩:=KF c3;have A:U.K e=some c:=by rw [hE.kd,←hE.ke];exact hk
     have p1:=EK M r O;have p2:=EK N s Q;rw [Al] at Y;cases hx with
     |dat _ _ ad n cap B=>
      have J:(Ac U.V y).rows.length=n∧n≤cap:=by
       cases B with
       |nil _ _ m C=>rw [C];exact ⟨rfl,Nat.le_refl _⟩
       |empty _ _ _ _ m C=>rw [C];exact ⟨rfl,Nat.zero_le _⟩
       |slc _ _ _ _ _ _ _ _ _ _ q1 q2=>exact ⟨q1,q2⟩
      obtain ⟨J,R⟩:=J;have q:=G7 (P:=E.P) (w:=w) (b:=true) (cap:=cap) p1 p2 rfl (by rw [Al,J]) b0 b1 (by rw [←J];exact Y) R
      have D:(Instr.sliceAt t (.slice ad n cap) g k none).run E.P w=.ok (.slice (if cap=(Af U.V l).toNat then ad else ad.map (·.add ((Af U.V l).toNat*c.length))) ((Af U.V u).toNat-(Af U.V l).toNat) (cap-(Af U.V l).toNat)) w:=by
       simp [Instr.sliceAt,Instr.slice,hE.run_und hd,q,hE.run_szIs c2]
      refine ⟨_,D,?_⟩;refine .dat _ _ _ _ _ ?_;generalize Z:(Af U.V l).toNat=L at *;generalize hH:(Af U.V u).toNat=H at *;have aa:L≤H:=by omega
      have T:H≤n:=by omega
      have d:(Ac U.V (.sub y l u)).rows.length=H-L:=by
       rw [Ef,Z,hH];simp;omega
      cases B with
      |nil _ _ m C=>
       have z:L=0∧H=0:=by omega
       obtain ⟨rfl,rfl⟩:=z;simp only [Nat.sub_self,if_true];exact .nil _ _ m (List.eq_nil_of_length_eq_zero d)
      |empty _ a1 _ _ m C=>
       have z:L=0∧H=0:=by omega
       obtain ⟨rfl,rfl⟩:=z;have p:=List.eq_nil_of_length_eq_zero d;split
       ·exact .empty _ _ _ _ m p
       ·exact .empty _ _ _ _ m p
      |slc _ b o _ _ _ ab arr F W ac ae m af G hv=>
       rw [A] at F;cases F;by_cases I:cap=L
       ·rw [if_pos I];have z:H-L=0:=by omega
        rw [z] at d ⊢;exact .empty _ _ _ _ m (List.eq_nil_of_length_eq_zero d)
       ·rw [if_neg I];simp only [Option.map_some,B3]
        have key:∀i,i<H-L→(Ac U.V (.sub y l u)).rows.getD i default=(Ac U.V y).rows.getD (L+i) default:=by
         intro i hi;rw [Ef,Z,hH,NE hi]
        refine .slc _ _ _ _ _ _ c arr A W d (by omega) m ?_ ?_ ?_
        ·have e1:L*c.length+(H-L)*c.length=H*c.length:=by rw [←Nat.add_mul];congr 1;omega
         have e2:H*c.length≤n*c.length:=Nat.mul_le_mul_right _ T;omega
        ·intro i hi;rw [key i hi];exact G _ (by omega)
        ·intro i j kd hi hj;rw [key i hi];have:=hv (L+i) j kd (by omega) hj
         rw [show o+L*c.length+i*c.length+j=o+(L+i)*c.length+j by rw [Nat.add_mul];omega]
         exact this
    ·cases f
   ·cases f
  ·cases f
 ·cases f
theorem QU (hr:HR ρ h.blk.get w) {t e:TypeId} {b z:Nat} {n B y l u K:SE} {L:Value} {a d:Option Value} (M:E.desc t=some (.slice e)) (N:E.szIs e z=true) (O:h.blk.get b=some (.arr e y)) (X:VR ρ (.asl b z n B) L)
  (Q:(a=none∧l=.c 0)∨∃k,a=some (.int k (Af U.V l))) (R:(d=none∧u=K)∨∃k,d=some (.int k (Af U.V u))) (C:Af U.V K=Af U.V n) (r:Af U.V l=0) (Y:0≤Af U.V u) (bn:Af U.V u≤Af U.V n) (Z:Af U.V u≤Af U.V (.lenL y)) :
  AR E ρ h (h.put b (.arr e (.sub y (.c 0) u))) w (Instr.sliceAt t L a d none) (.asl b z (.lenL (.sub y (.c 0) u)) B):=by
 have A:Af U.V (.lenL (.sub y (.c 0) u))=Af U.V u:=by
  rw [Al,Ef];rw [Al] at Z;have:Af U.V (.c 0)=0:=rfl;rw [this];simp;omega
 have s:∀base,ρ b=some base→BR ρ (.arr e (.sub y (.c 0) u)) base w.heap[base.cb]?:=by
  intro base g;obtain ⟨v,D,et,fz,F,G,H,I,m⟩:=hr.blk b base _ g O;refine ⟨v,D,et,fz,F,G,H,I,?_⟩
  have x:(Ac U.V (.sub y (.c 0) u)).rows.length≤(Ac U.V y).rows.length:=by
   rw [Ef];simp;omega
  have key:∀i,i<(Ac U.V (.sub y (.c 0) u)).rows.length→(Ac U.V (.sub y (.c 0) u)).rows.getD i default=(Ac U.V y).rows.getD i default:=by
   intro i hi;rw [Ef] at hi ⊢;have:Af U.V (.c 0)=0:=rfl;rw [this] at hi ⊢;rw [NE (by simp at hi;omega)]
   congr 1
   simp
  refine ⟨?_,?_,?_⟩
  ·have:=m.1;have:=Nat.mul_le_mul_right v.length x;omega
  ·intro i hi;rw [key i hi];exact m.2.1 i (by omega)
  ·intro i j kd hi hj;rw [key i hi];exact m.2.2 i j kd (by omega) hj
 obtain ⟨S,T⟩:=hr.swap (show h.blk.get b≠none by rw [O];exact Option.some_ne_none _) _ s
 cases X with
 |asl _ _ _ _ cap base g W qc qz J=>
  have q:=G7 (P:=E.P) (w:=w) (b:=true) (len:=(Af U.V n).toNat) (cap:=cap) Q R rfl (by omega) (by omega) (by omega) (by omega) qc
  rw [r] at q
  have f:(Instr.sliceAt t (.slice (some ⟨base.cb,base.co,none⟩) (Af U.V n).toNat cap) a d none).run E.P w=.ok (.slice (some ⟨base.cb,base.co,none⟩) (Af U.V u).toNat cap) w:=by
   simp [Instr.sliceAt,Instr.slice,hE.run_und M,q,hE.run_szIs N,B3]
  refine ⟨ρ,_,w,f,?_,S,T⟩;have:=VR.asl (ρ:=ρ) b z (.lenL (.sub y (.c 0) u)) B cap base g (by rw [A];exact Y) (by rw [A];omega) qz J
  rw [A] at this;exact this
 |aslEnd _ _ _ _ ad W J=>
  have p:Af U.V u=0:=by omega
  have q:=G7 (P:=E.P) (w:=w) (b:=true) (len:=0) (cap:=0) Q R rfl (by rw [C,W];rfl) (by omega) (by omega) (by rw [p];exact Int.le_refl _) (Nat.le_refl _)
  rw [r,p] at q
  have f:(Instr.sliceAt t (.slice ad 0 0) a d none).run E.P w=.ok (.slice ad 0 0) w:=by
   simp [Instr.sliceAt,Instr.slice,hE.run_und M,q,hE.run_szIs N]
  exact ⟨ρ,_,w,f,.aslEnd _ _ _ _ _ (by rw [A];exact p) J,S,T⟩
theorem cp (hr:HR ρ h.blk.get w) {t:TypeId} {x a:AV} {Z:Value} {lo hi L:Option AV} {s z A:Option Value} {h':Aa} (G:VR ρ x Z)
  (i:∀a,lo=some a→∃v,s=some v∧VR ρ a v) (d:lo=none→s=none)
  (j:∀a,hi=some a→∃v,z=some v∧VR ρ a v) (f:hi=none→z=none)
  (N:∀a,L=some a→∃v,A=some v∧VR ρ a v) (g:L=none→A=none)
  (O:L≠none→hi≠none)
  (c:sliceB E t x lo hi L h=some (a,h')):AR E ρ h h' w (Instr.sliceAt t Z s z A) a:=by
 unfold sliceB at c;split at c
 ·have H:=g rfl;subst H;obtain ⟨rfl,q⟩:=Qx hE hr G i d j f c;exact Ax hr q
 ·rename_i y;have H:=g rfl;subst H;split at c
  ·rename_i l u M k m;split at c
   ·rename_i r;cases c;obtain ⟨I,B,C⟩:=KF r;have p1:=EK i d k;have p2:=EK j f m;cases G with
    |ss _=>
     refine Ax hr ⟨_,?_,.ss (.strSub y l u)⟩;rw [CD] at C;have J:(AU U.V y).size=(AU U.V y).data.toList.length:=by simp
     have q:=G7 (P:=E.P) (w:=w) (b:=false) (len:=(AU U.V y).size) (cap:=(AU U.V y).size) p1 p2 rfl (by rw [CD,J]) I B (by rw [J];exact C) (Nat.le_refl _)
     have e:AU U.V (.strSub y l u)=(AU U.V y).extract (Af U.V l).toNat (Af U.V u).toNat:=rfl;rw [e];simp [Instr.sliceAt,Instr.slice,hE.run_und M,q]
   ·cases c
  ·cases c
 ·rename_i b es n nl;have H:=g rfl;subst H;split at c
  ·rename_i e e' y M hb;split at c
   ·rename_i r;obtain ⟨Q,R⟩:=Aq r;obtain ⟨S,T⟩:=Aq Q;have h0:=Aw S;subst h0;have K:=Fu R;split at c
    ·rename_i l u k m;split at c
     ·rename_i D;split at c
      ·rename_i W;cases c;obtain ⟨I,B,C⟩:=KF W;rw [BC] at I B
       have F:Af U.V l=0:=by
        cases l<;>simp only [lT] at D<;>first|cases D|skip
        simpa [BC] using D
       exact QU hE hr M T hb G (EK i d k) (EK j f m) K.symm F B (by rw [K];exact C) C
      ·cases c
     ·split at c;rename_i x' h1 hf;obtain ⟨σ,g1,g2,X⟩:=MZ hE hr G hf;obtain ⟨rfl,v,q1,q2⟩:=Qx hE g2 g1 (fun a Y=>let ⟨v,p,q⟩:=i a Y;⟨v,p,q.mono X.le⟩) d (fun a Y=>let ⟨v,p,q⟩:=j a Y;⟨v,p,q.mono X.le⟩) f c
      exact ⟨σ,v,w,q1,q2,g2,X⟩
    ·cases c
   ·split at c
    ·rename_i l hv u k m;split at c
     ·rename_i r;cases c;obtain ⟨S,r⟩:=Aq r;obtain ⟨T,r⟩:=Aq r;obtain ⟨D,r⟩:=Aq r;obtain ⟨R,c4⟩:=Aq r;have h0:=Aw S;subst h0;obtain ⟨I,B,C⟩:=KF R;obtain ⟨_,_,b3⟩:=KF c4;rw [BC] at I B
      have F:Af U.V l=0:=by
       cases l<;>simp only [lT] at D<;>first|cases D|skip
       simpa [BC] using D
      exact QU hE hr M T hb G (EK i d k) (EK j f m) rfl F B C b3
     ·cases c
    ·cases c
  ·cases c
 ·split at c
  ·rename_i a' hs;cases c
   exact Ax hr (cj hE hr G (zk i) (gE d) (zk j) (gE f) (zk N) (gE g) (fun q=>by cases hi with
    |none=>exact absurd rfl (O (fun e=>q (by rw [e];rfl)))
    |some a=>simp) hs)
  ·cases c
end
end Go.AE
namespace Go.AE
variable [Gl:AH]
variable [U:Unk]
theorem G5 {b:Ren} {x:AV} {a:Value} {e:SE} (c:VR b x a) (h:VS x=some e):a=.string (AU U.V e):=by
 cases c<;>simp only [VS] at h<;>first | (cases h;done)|skip
 ·rename_i s;cases h
  have d:AU U.V (.strc s.data.toList.length (Ay s.data.toList))=s:=by
   show (⟨(Ds _ _).toArray⟩:ByteArray)=s;rw [DZ (U:=U)]
  rw [d]
 ·cases h;rfl
theorem J6 {d:Ren} {x:AV} {c:Value} {e:SE} (f:VR d x c) (h:N6 x=some e):c=.bool (Ah U.V e):=by
 cases f
 case bool b=>simp only [N6,Option.some.injEq] at h;subst h;rfl
 case sb p a=>
  cases p with
  |true=>
   simp only [N6,Option.some.injEq] at h;subst h;have:Ah U.V (.and a (.bc true))=(Ah U.V a&&true):=rfl;rw [this];cases Ah U.V a<;>rfl
  |false=>
   simp only [N6,Option.some.injEq] at h;subst h;have:Ah U.V (.neg a)=(!Ah U.V a):=rfl;rw [this];cases Ah U.V a<;>rfl
 all_goals (simp only [N6] at h;cases h)
theorem Zl (a b:SE):Ah U.V (mZ a b)=(Ah U.V a&&Ah U.V b):=by
 unfold mZ;split
 ·show Ah U.V a=(Ah U.V a&&true);rw [Bool.and_true]
 ·rfl
theorem Zk (a b:SE):Ah U.V (Ab0 a b)=(Af U.V a==Af U.V b):=by
 unfold Ab0;split<;>rfl
theorem ZJ (a b:SE):Ah U.V (yz a b)=(Ah U.V a==Ah U.V b):=by
 show (!((!(Ah U.V a&&Ah U.V b))&&(!((!Ah U.V a)&&(!Ah U.V b)))))=_;cases Ah U.V a<;>cases Ah U.V b<;>rfl
section
variable {E:Env} (hE:OK E) {ρ:Ren} {w:World}
include hE
theorem Ix {d:Nat} (ih:∀(t:TypeId) (x y:AV) (r:SE) (k l:Value),H4 E d t x y=some r→VR ρ x k→VR ρ y l→(Op.equalIn d t k l).run E.P w=.ok (Ah U.V r) w)
  {m n:List AV} {c g:List Value} (o:VL ρ m c) (p:VL ρ n g):∀{i:List Field} {r:SE},Fk E (H4 E d) m n i=some r→
  (Op.eqFields d c.toArray g.toArray i).run E.P w=.ok (Ah U.V r) w
 |[],r,h=>by simp only [Fk,Option.some.injEq] at h;subst h;simp only [Op.eqFields,Sem.run_pure];rfl
 |f::i,r,h=>by
  simp only [Fk] at h;split at h
  ·cases h
  ·rename_i q;have j:f.name≠ "_":=by simpa using q
   split at h
   ·rename_i a b s u;split at h
    ·rename_i e H v z;cases h;obtain ⟨I,A,B⟩:=hE.run_part s o w;obtain ⟨J,C,D⟩:=hE.run_part u p w;have F:=ih _ _ _ _ _ _ v B D;have G:=Ix ih o p z;simp only [Op.eqFields,ne_eq,j,not_false_eq_true,if_true,Sem.run_bind,A,C,F,Result.andThen_ok,Zl];cases Ah U.V e with
     |true=>simp only [Bool.not_true,Bool.false_eq_true,if_false,Bool.true_and];exact G
     |false=>simp
    ·cases h
   ·cases h
theorem Mg {d:Nat} (ih:∀(t:TypeId) (x y:AV) (r:SE) (g j:Value),H4 E d t x y=some r→VR ρ x g→VR ρ y j→(Op.equalIn d t g j).run E.P w=.ok (Ah U.V r) w)
  {l m:List AV} {c f:List Value} (o:VL ρ l c) (p:VL ρ m f) {e:TypeId} {n:Nat}:∀{k i:Nat} {r:SE},Gn E (H4 E d) e n l m k i=some r→
  (Op.eqItems d e n c.toArray f.toArray (List.range' i k)).run E.P w=.ok (Ah U.V r) w
 |0,i,r,h=>by simp only [Gn,Option.some.injEq] at h;subst h;simp only [List.range'_zero,Op.eqItems,Sem.run_pure];rfl
 |k+1,i,r,h=>by
  simp only [Gn] at h;split at h
  ·rename_i a b q s;split at h
   ·rename_i x y u v;cases h;obtain ⟨G,z,A⟩:=hE.run_part q o w;obtain ⟨H,B,C⟩:=hE.run_part s p w;have D:=ih _ _ _ _ _ _ u A C;have F:=Mg ih o p v;simp only [List.range'_succ,Op.eqItems,Sem.run_bind,z,B,D,Result.andThen_ok,Zl];cases Ah U.V x with
    |true=>simp only [Bool.not_true,Bool.false_eq_true,if_false,Bool.true_and];exact F
    |false=>simp
   ·cases h
  ·cases h
theorem Sj:∀(d:Nat) (t:TypeId) (x y:AV) (r:SE) (s u:Value),H4 E d t x y=some r→VR ρ x s→VR ρ y u→(Op.equalIn d t s u).run E.P w=.ok (Ah U.V r) w:=by
 intro d
 induction d with
 |zero=>intro t x y r s u h;simp [H4] at h
 |succ d ih=>
  intro t x y r s u h j l;simp only [H4] at h;split at h
  ·rename_i c;have m:=hE.run_und c w;split at h
   ·rename_i a b n o;cases h;rw [J6 j n,J6 l o,ZJ];simp [Op.equalIn,m]
   ·cases h
  ·rename_i L c;have m:=hE.run_und c w;split at h
   ·rename_i k a G b n o;split at h
    ·rename_i v;cases h;have v:k=G:=by simpa using v
     subst v;rw [CG j n,CG l o,Zk];simp [Op.equalIn,m]
    ·cases h
   ·cases h
  ·rename_i c;have m:=hE.run_und c w;split at h
   ·rename_i a b n o;cases h;rw [G5 j n,G5 l o]
    have e:Ah U.V (.eqSS a b)=((AU U.V a).toList==(AU U.V b).toList):=by
     rw [OV,CI]
    rw [e];simp only [Op.equalIn,Sem.run_bind,m,Result.andThen_ok,Sem.run_pure];rw [beq_toListBytes]
   ·cases h
  ·rename_i H c;split at h
   ·rename_i I J;split at h
    ·cases h
    ·rename_i K;cases j with
     |agg _ g z A=>
      cases l with
      |agg _ i B C=>
       have f:=hE.und c;have p:E.P.fieldsOf t=H:=by simp [Program.fieldsOf,f]
       rw [run_equalIn_struct w d t g.toArray i.toArray (by rw [p];exact f) K,p]
       exact Ix hE ih ⟨z,A⟩ ⟨B,C⟩ h
   ·cases h
  ·rename_i len e c;split at h
   ·rename_i I J;split at h
    ·rename_i F;cases j with
     |agg _ g z A=>
      cases l with
      |agg _ i B C=>
       unfold Env.has at F;cases hi:E.ty.get e with
       |none=>simp [hi] at F
       |some q=>
        have D:E.P.cellsOf e=E.size e:=by simp [Program.cellsOf,hE.ty e q hi,Env.size,hi]
        rw [run_equalIn_array w d g.toArray i.toArray (hE.und c) (hE.ty e q hi),D,List.range_eq_range'];exact Mg hE ih ⟨z,A⟩ ⟨B,C⟩ h
    ·cases h
   ·cases h
  ·cases h
theorem ei {b:BinOp} {t:TypeId} {ox j:Operand} {x y r:AV} {f g:Value} (k:VR ρ x f) (l:VR ρ y g) (hr:dL E b t x y=some r) :
  ∃v,(do eqGuard b t ox j f g;binOp b t f g:Sem Value).run E.P w=.ok v w∧VR ρ r v:=by
 unfold dL at hr;split at hr
 ·rename_i u z;split at hr
  ·cases hr
  ·rename_i i;split at hr
   ·rename_i e o;have a:=Sj (w:=w) hE 10000 t _ _ e f g o k l;cases k with
    |agg _ c A B=>
     cases l with
     |agg _ d C D=>
      have m:(eqGuard b t ox j (.agg c.toArray) (.agg d.toArray)).run E.P w=.ok () w:=BU (by simp) (fun _ _=>i)
      obtain ⟨p,s⟩:=D8 t (.agg c.toArray) (.agg d.toArray) (by simp) (by simp) (by simp) (by simp)
      split at hr
      ·rename_i q h;cases hr;have n:=Gs ρ q e;cases b<;>simp only [BL,Option.some.injEq] at h<;>first | (cases h;done)|skip
       ·subst h;refine ⟨.bool (Ah U.V e),?_,?_⟩
        ·simp only [Sem.run_bind,m,Result.andThen_ok,p,Op.equal,Op.maxDepth,a,Sem.run_pure]
        ·rwa [show (Ah U.V e==true)=Ah U.V e by cases Ah U.V e<;>rfl] at n
       ·subst h;refine ⟨.bool (!Ah U.V e),?_,?_⟩
        ·simp only [Sem.run_bind,m,Result.andThen_ok,s,Op.equal,Op.maxDepth,a,Sem.run_pure]
        ·rwa [show (Ah U.V e == !true) = !Ah U.V e by cases Ah U.V e<;>rfl] at n
      ·cases hr
   ·cases hr
 ·cases hr
theorem Abo {t:TypeId} {k key:AV} {d a:Value} {b:Bool} (h:eqK E t k key=some b) (f:VR ρ k d) (g:VR ρ key a):(Op.equal t d a).run E.P w=.ok b w:=by
 unfold eqK at h;split at h
 ·rename_i c i;cases h;exact XE (w:=w) hE 10000 t k key b d a i f g
 ·split at h
  ·rename_i e j;have:=Sj (w:=w) hE 10000 t k key e d a j f g;rw [Ar U.ok h] at this;exact this
  ·cases h
theorem LG {t:TypeId} {k:AV} {g:Value} (l:VR ρ k g):∀{j:List Am} {c:List MapEntry} {i:Nat} {r:Option (Nat×AV)},ER ρ j c→EW E t k j i=some r→
  ∃d,FR ρ r d∧(Instr.findAsking t g c i).run E.P w=.ok d w
 |[],[],i,r,_,h=>by
  simp only [EW,Option.some.injEq] at h;subst h;exact ⟨none,trivial,by simp [Instr.findAsking]⟩
 |e::j,m::c,i,r,⟨n,o,u,p⟩,h=>by
  simp only [EW] at h;cases f:eqK E t k e.key with
  |none=>simp [f] at h
  |some b=>
   have a:(Op.equal t g m.key).run E.P w=.ok b w:=Abo hE f l n;cases b with
   |true=>
    simp only [f,Option.some.injEq] at h;subst h;exact ⟨some (i,m.val),⟨rfl,o⟩,by simp [Instr.findAsking,a]⟩
   |false=>
    simp only [f] at h;obtain ⟨d,q,s⟩:=LG l p h;exact ⟨d,q,by simp [Instr.findAsking,a,s]⟩
omit hE in
theorem JR {d:Nat} {t:TypeId} {ds:TypeDesc} (hd:E.desc t=some ds) {x y:AV} {e:SE} {b:Bool} {xv yv:Value} (he:H4 E (d+1) t x y=some e) (hb:Ah U.V e=b) (hx:VR ρ x xv) (hy:VR ρ y yv) :
  Instr.sameNow ds xv yv=some b∨∀u v,Instr.sameNow ds u v=none:=by
 simp only [H4,hd] at he;cases ds with
 |int q=>
  simp only at he;split at he
  ·rename_i k a k' c h1 h2;split at he
   ·rename_i hk;cases he;have hk:k=k':=by simpa using hk
    subst hk;rw [CG hx h1,CG hy h2];rw [Zk] at hb;exact .inl (by simp [Instr.sameNow,hb])
   ·cases he
  ·cases he
 |string=>
  simp only at he;split at he
  ·rename_i a c h1 h2;cases he;rw [G5 hx h1,G5 hy h2];rw [OV,CI] at hb;exact .inl (by simp only [Instr.sameNow];rw [beq_toListBytes,hb])
  ·cases he
 |bool=>
  simp only at he;split at he
  ·rename_i a c h1 h2;cases he;rw [J6 hx h1,J6 hy h2];rw [ZJ] at hb;exact .inl (by simp [Instr.sameNow,hb])
  ·cases he
 |_=>exact .inr (fun u v=>by cases u<;>cases v<;>rfl)
omit hE in
theorem T3 {t:TypeId} {ds:TypeDesc} (hd:E.desc t=some ds) {x y:AV} {b:Bool} {xv yv:Value} (ha:eqK E t x y=some b) (hx:VR ρ x xv) (hy:VR ρ y yv) :
  Instr.sameNow ds xv yv=some b∨∀u v,Instr.sameNow ds u v=none:=by
 unfold eqK at ha;split at ha
 ·rename_i c hc;cases ha;exact ON (d:=9999) hd hc hx hy
 ·split at ha
  ·rename_i e he;have hb:=Ar U.ok ha;exact JR (d:=9999) hd he hb hx hy
  ·cases ha
omit hE in
theorem L3 {t:TypeId} {ds:TypeDesc} (hd:E.desc t=some ds) {k:AV} {kv:Value} (hk:VR ρ k kv) (hq:¬∀u v,Instr.sameNow ds u v=none):∀{es:List Am} {es':List MapEntry} {i:Nat} {r:Option (Nat×AV)},ER ρ es es'→EW E t k es i=some r→
  ∃r',FR ρ r r'∧Instr.findNow ds kv es' i=some r'
 |[],[],i,r,_,h=>by
  simp only [EW,Option.some.injEq] at h;subst h;exact ⟨none,trivial,rfl⟩
 |e::es,e'::es',i,r,⟨h1,h2,h3,h4⟩,h=>by
  simp only [EW] at h;cases ha:eqK E t k e.key with
  |none=>simp [ha] at h
  |some b=>
   have hs:Instr.sameNow ds kv e'.key=some b:=(T3 hd ha hk h1).resolve_right hq;cases b with
   |true=>
    simp only [ha,Option.some.injEq] at h;subst h;exact ⟨some (i,e'.val),⟨rfl,h2⟩,by simp [Instr.findNow,hs]⟩
   |false=>
    simp only [ha] at h;obtain ⟨r',q1,q2⟩:=L3 hd hk hq h4 h;exact ⟨r',q1,by simp [Instr.findNow,hs,q2]⟩
theorem Lt {t:TypeId} {ds:TypeDesc} (hd:E.desc t=some ds) {k:AV} {kv:Value} (hk:VR ρ k kv) {es:List Am} {es':List MapEntry} {r:Option (Nat×AV)} (he:ER ρ es es') (h:EW E t k es 0=some r) :
  ∃r',FR ρ r r'∧(Instr.findKey t kv es').run E.P w=.ok r' w:=by
 by_cases hq:∀u v,Instr.sameNow ds u v=none
 ·cases es' with
  |nil=>
   cases es with
   |nil=>
    simp only [EW,Option.some.injEq] at h;subst h;exact ⟨none,trivial,by simp [Instr.findKey,hE.run_und hd,Instr.findNow]⟩
   |cons e es=>cases he
  |cons e' es'=>
   obtain ⟨r',q1,q2⟩:=LG (w:=w) hE hk he h;exact ⟨r',q1,by simp [Instr.findKey,hE.run_und hd,Instr.findNow,hq,q2]⟩
 ·obtain ⟨r',q1,q2⟩:=L3 hd hk hq he h;exact ⟨r',q1,by simp [Instr.findKey,hE.run_und hd,q2]⟩
end
end Go.AE
namespace Go.AE
variable [Gl:AH]
section
variable [U:Unk]
theorem gP (V:Val):∀e:SE,Ah V e=(Nc e).all (Ah V):=by
 intro e
 induction e with
 |and a b c d=>
  show (Ah V a&&Ah V b)=(Nc a++Nc b).all (Ah V);rw [List.all_append,←c,←d]
 |bc b=>
  cases b with
  |true=>rfl
  |false=>rfl
 |_=>simp [Nc]
theorem O9:∀{l m:List SE},MH l m=true→l=m
 |[],[],_=>rfl
 |a::l,b::m,h=>by
  simp only [MH] at h;obtain ⟨c,d⟩:=Aq h;rw [SE.same_eq c,O9 d]
 |[],_::_,h=>by cases h
 |_::_,[],h=>by cases h
theorem ck (l b a c:Nat):strEq l b a c=strEq a c l b:=by
 simp only [strEq];rw [Bool.eq_iff_iff];simp only [Bool.and_eq_true,Nat.beq_eq];constructor<;>(rintro ⟨rfl,rfl⟩;exact ⟨rfl,rfl⟩)
theorem CQ {b:Type} {a:b} {l:List b} {d:b} (q:Nat):(a::l).getD (q+1) d=l.getD q d:=by
 simp [List.getD_eq_getElem?_getD]
theorem Qj {b:Type} {a:b} {l:List b} {d:b}:(a::l).getD 0 d=a:=rfl
theorem Vz (V:Val):∀(c:List Kd) (i j:Nat) (g f:List D),KP c=true→c.length≤g.length→c.length≤f.length→(∀q,q<c.length→V.d (j+q)=g.getD q default)→(∀q,q<c.length→V.d (i+q)=f.getD q default)→
  (Yy i j c).all (Ah V)=Eo c g f
 |[],i,j,g,f,_,_,_,_,_=>by cases g<;>cases f<;>rfl
 |k::c,i,j,[],f,_,h,_,_,_=>by simp at h
 |k::c,i,j,_::_,[],_,_,h,_,_=>by simp at h
 |k::c,i,j,a::g,b::f,l,t,u,r,s=>by
  have m:V.d j=a:=by have:=r 0 (by simp);simpa using this
  have n:V.d i=b:=by have:=s 0 (by simp);simpa using this
  have o:=fun p=>Vz V c (i+1) (j+1) g f p (by simpa using t) (by simpa using u)
   (fun q v=>by have:=r (q+1) (by simp;omega);rw [CQ] at this;rw [←this];congr 1;omega)
   (fun q v=>by have:=s (q+1) (by simp;omega);rw [CQ] at this;rw [←this];congr 1;omega)
  simp only [Yy,List.all_cons];cases k with
  |int k=>
   rw [o l];show (((V.d i).toInt==(V.d j).toInt)&&_)=((a.toInt==b.toInt)&&_);rw [m,n,Bool.beq_comm]
  |bool=>
   rw [o l]
   have:Ah V (zN i j .bool)=(a.toBool==b.toBool):=by
    show (!((!(((V.d i).toBool&&true)&&((V.d j).toBool&&true)))&&(!((!((V.d i).toBool&&true))&&(!((V.d j).toBool&&true))))))=_;rw [m,n];cases a.toBool<;>cases b.toBool<;>rfl
   rw [this];rfl
  |str=>
   rw [o l]
   have:Ah V (zN i j .str)=D.strEq a b:=by
    show strEq (V.d i).toStr.data.toList.length (Ay (V.d i).toStr.data.toList) (V.d j).toStr.data.toList.length (Ay (V.d j).toStr.data.toList)=_;rw [m,n,ck];rfl
   rw [this];rfl
  |slice e=>simp [KP] at l
theorem mo {ρ:Ren} {j:Nat} {kd:Kd} {v:Value} {K:TypeId→Option (List Kd)} {M:Nat→Option (Array Value)} (h:DV K M kd v (U.V.d j)):VR ρ (Aht j kd) v:=by
 cases h with
 |int k n _ hr e=>
  have:Af U.V (.var j)=n:=e;rw [←this];exact .si k (.var j)
 |bool b _ e=>
  have:Ah U.V (.var j)=b:=e;have q:=VR.sb (ρ:=ρ) true (.var j);rw [this,show (b==true)=b by cases b<;>rfl] at q
  exact q
 |str s _ e=>
  have:AU U.V (.var j)=s:=e;rw [←this];exact .ss (.var j)
 |_=>exact .top _
theorem OJ {b:Ren} {K:TypeId→Option (List Kd)} {M:Nat→Option (Array Value)}:∀(a:List Kd) (j:Nat) (l:List Value),l.length=a.length→(∀q kd,a[q]?=some kd→DV K M kd (l.getD q Go.undef) (U.V.d (j+q)))→VL b (P2 j a) l
 |[],j,[],_,_=>VL.nil b
 |k::a,j,v::l,h,g=>by
  refine VL.cons (mo (g 0 k rfl)) (OJ (K:=K) (M:=M) a (j+1) l (by simpa using h) fun q kd c=>?_)
  have:=g (q+1) kd (by simpa using c)
  rw [CQ] at this
  rwa [show j+(q+1)=j+1+q by omega] at this
theorem SM {ρ:Ren} {l:List AV} {c:List Value} (h:VL ρ l c):VR ρ (Qc l) (YH c):=by
 cases l with
 |nil=>
  have:=h.nil_inv;subst this;exact .agg [] [] h.1 h.2
 |cons a l=>
  obtain ⟨v,r,rfl,e,d⟩:=h.cons_inv;cases l with
  |nil=>
   have:=d.nil_inv;subst this;exact e
  |cons b l=>
   obtain ⟨f,g,rfl,_,_⟩:=d.cons_inv;exact .agg _ _ h.1 h.2
theorem ZV {K:TypeId→Option (List Kd)} {M:Nat→Option (Array Value)}:∀(c:List Kd) (d f:List Value) (s l:List D),KP c=true→d.length=c.length→f.length=c.length→(∀(j:Nat) kd,c[j]?=some kd→DV K M kd (d.getD j Go.undef) (s.getD j default))→(∀(j:Nat) kd,c[j]?=some kd→DV K M kd (f.getD j Go.undef) (l.getD j default))→
  Eo c s l=true→d=f
 |[],[],[],_,_,_,_,_,_,_,_=>rfl
 |k::c,v::d,u::f,[],l,g,z,i,t,w,h=>by cases k<;>simp [Eo] at h
 |k::c,v::d,u::f,_::_,[],g,z,i,t,w,h=>by cases k<;>simp [Eo] at h
 |k::c,v::d,u::f,a::s,b::l,g,z,i,t,w,h=>by
  have A:=fun B G=>ZV c d f s l B (by simpa using z) (by simpa using i)
   (fun q kd C=>by have:=t (q+1) kd (by simpa using C);rwa [CQ,CQ] at this)
   (fun q kd C=>by have:=w (q+1) kd (by simpa using C);rwa [CQ,CQ] at this) G
  have x:=t 0 k rfl;have y:=w 0 k rfl;simp only [Qj] at x y;cases k with
  |slice e=>simp [KP] at g
  |int k=>
   simp only [Eo] at h;obtain ⟨m,n⟩:=Aq h;rw [A g n];cases x with
   |int _ E _ _ o=>
    cases y with
    |int _ F _ _ p=>
     have:a.toInt=b.toInt:=by simpa using m
     rw [o,p] at this;rw [this]
  |bool=>
   simp only [Eo] at h;obtain ⟨m,n⟩:=Aq h;rw [A g n];cases x with
   |bool E _ o=>
    cases y with
    |bool F _ p=>
     have:a.toBool=b.toBool:=by simpa using m
     rw [o,p] at this;rw [this]
  |str=>
   simp only [Eo] at h;obtain ⟨m,n⟩:=Aq h;rw [A g n];cases x with
   |str E _ o=>
    cases y with
    |str F _ p=>
     have:a.toStr.toList=b.toStr.toList:=by
      have r:strEq a.toStr.data.toList.length (Ay a.toStr.data.toList) b.toStr.data.toList.length (Ay b.toStr.data.toList)=true:=m;rw [CI] at r;simpa using r
     have i:a.toStr=b.toStr:=by
      rw [ByteArray.toList_eq,ByteArray.toList_eq] at this;exact ByteArray.ext (Array.toList_inj.1 this)
     rw [o,p] at i;rw [i]
theorem yq {E:Env} (hE:OK E) {p:Ren} {w:World} {m:TypeId} {a:List Kd} (n:G1 E m a=true) {f g:Value} {b c:List D} {K:TypeId→Option (List Kd)} {M:Nat→Option (Array Value)} (H:KV K M a f b) (I:KV K M a g c)
  (J:a.length≤b.length) (L:a.length≤c.length) (i:∀q,q<a.length→U.V.d (0+q)=b.getD q default) (j:∀q,q<a.length→U.V.d (a.length+q)=c.getD q default) :
  (Op.equal m g f).run E.P w=.ok (Eo a b c) w∧(∀o,E.desc m=some o→Instr.sameNow o g f=some (Eo a b c)∨∀u v,Instr.sameNow o u v=none)∧(Eo a b c=true→f=g):=by
 unfold G1 at n;split at n
 ·rename_i e r;obtain ⟨s,N⟩:=Aq n
  have k:Ah U.V e=Eo a b c:=by
   rw [gP,O9 N];exact Vz U.V a a.length 0 b c s J L i j
  obtain ⟨t,x,y,a3,a4⟩:=H;obtain ⟨z,A,B,R,C⟩:=I;have lt:∀{q:Nat} {kd:Kd},a[q]?=some kd→q<a.length:=fun h=>(List.getElem?_eq_some_iff.1 h).1
  have F:VR p (Qc (P2 0 a)) f:=by
   rw [x];exact SM (OJ (K:=K) (M:=M) a 0 t y fun q kd l=>by rw [i q (lt l)];exact a4 q kd l)
  have G:VR p (Qc (P2 a.length a)) g:=by
   rw [A];exact SM (OJ (K:=K) (M:=M) a a.length z B fun q kd l=>by rw [j q (lt l)];exact C q kd l)
  refine ⟨?_,?_,?_⟩
  ·have:=Sj (w:=w) hE 10000 m _ _ e g f r G F;rw [k] at this;exact this
  ·intro o O;exact JR (d:=9999) O r k G F
  ·intro Q;rw [x,A,ZV a t z b c s y B a4 C Q]
 ·cases n
@[reducible] def Ahz (U:Unk) (n:Nat) (a c:List D):Unk where
 facts:=[]
 V:={d:=fun i=>if i<n then a.getD i default else c.getD (i-n) default,fn:=U.V.fn}
 K:=U.K
 R:=U.R
 hR:=U.hR
 ok:=by intro e b h;cases h
theorem gu {E:Env} (hE:OK E) {w:World} {f:TypeId} {a:List Kd} (h:G1 E f a=true) {d e:Value} {b c:List D} {K:TypeId→Option (List Kd)} {M:Nat→Option (Array Value)} (i:KV K M a d b) (j:KV K M a e c)
  (k:a.length≤b.length) (l:a.length≤c.length) :
  (Op.equal f e d).run E.P w=.ok (Eo a b c) w∧(∀g,E.desc f=some g→Instr.sameNow g e d=some (Eo a b c)∨∀u v,Instr.sameNow g u v=none)∧(Eo a b c=true→d=e):=by
 refine @yq _ (Ahz U a.length b c) E (@OK.mk _ (Ahz U a.length b c) E hE.ty hE.fn hE.num hE.clone hE.ixb hE.cnt hE.mixed hE.kd hE.ke hE.gl hE.ox) {m:=fun _=>none,imm:=fun _=>none} w f a h d e b c K M i j k l ?_ ?_
 ·intro q n;show (if 0+q<a.length then b.getD (0+q) default else _)=_
  rw [if_pos (by omega),Nat.zero_add]
 ·intro q n;show (if a.length+q<a.length then _ else c.getD (a.length+q-a.length) default)=_
  rw [if_neg (by omega),Nat.add_sub_cancel_left]
def Mt (a:List Kd) (k:List D):List MapEntry→List D→Nat→Option (Nat×Value)
 |e::b,r::c,i=>match Eo a r.cells k with
  |true=>some (i,e.val)
  |false=>Mt a k b c (i+1)
 |_,_,_=>none
section
variable {E:Env} (hE:OK E) {w:World} {kt:TypeId} {ks vks:List Kd} (ht:G1 E kt ks=true) {K:TypeId→Option (List Kd)} {M:Nat→Option (Array Value)} {kv:Value} {k:List D} (hk:KV K M ks kv k) (hkl:ks.length≤k.length)
include hE ht hk hkl w
theorem LP:∀{a:List MapEntry} {b:List D} {i:Nat},A9 K M ks vks a b→(Instr.findAsking kt kv a i).run E.P w=.ok (Mt ks k a b i) w
 |[],[],i,_=>by simp [Instr.findAsking,Mt]
 |e::a,r::b,i,⟨g,c,j,d⟩=>by
  obtain ⟨q,_,_⟩:=gu (w:=w) hE ht c hk (by omega) hkl
  have f:=LP (i:=i+1) d;simp only [Instr.findAsking,Mt,Sem.run_bind,q,Result.andThen_ok];cases Eo ks r.cells k with
  |true=>simp
  |false=>simpa using f
 |[],_::_,_,h=>h.elim
 |_::_,[],_,h=>h.elim
theorem Mf {a:TypeDesc} (d:E.desc kt=some a) (f:¬∀u v,Instr.sameNow a u v=none):∀{b:List MapEntry} {c:List D} {i:Nat},A9 K M ks vks b c→Instr.findNow a kv b i=some (Mt ks k b c i)
 |[],[],i,_=>rfl
 |e::b,r::c,i,⟨m,g,n,j⟩=>by
  obtain ⟨_,q,_⟩:=gu (w:=w) hE ht g hk (by omega) hkl
  have s:=(q a d).resolve_right f;have l:=Mf d f (i:=i+1) j;simp only [Instr.findNow,Mt,s];cases Eo ks r.cells k with
  |true=>rfl
  |false=>exact l
 |[],_::_,_,h=>h.elim
 |_::_,[],_,h=>h.elim
theorem EJ {d:TypeDesc} (b:E.desc kt=some d) {a:List MapEntry} {c:List D} (h:A9 K M ks vks a c):(Instr.findKey kt kv a).run E.P w=.ok (Mt ks k a c 0) w:=by
 by_cases f:∀u v,Instr.sameNow d u v=none
 ·cases a with
  |nil=>cases c with
   |nil=>simp [Instr.findKey,hE.run_und b,Instr.findNow,Mt]
   |cons _ _=>exact h.elim
  |cons e a=>simp [Instr.findKey,hE.run_und b,Instr.findNow,f,LP (w:=w) hE ht hk hkl h]
 ·simp [Instr.findKey,hE.run_und b,Mf (w:=w) hE ht hk hkl b f h]
end
omit U in
theorem Fb {ks vks:List Kd} {K:TypeId→Option (List Kd)} {M:Nat→Option (Array Value)} {k:List D}:∀{es:List MapEntry} {rs:List D} (i:Nat),A9 K M ks vks es rs→
  (Mt ks k es rs i=none∧Hr ks k rs i = -1)∨∃n e r,Mt ks k es rs i=some (i+n,e.val)∧Hr ks k rs i=((i+n:Nat):Int)∧es[n]?=some e∧rs[n]?=some r∧Eo ks r.cells k=true
 |[],[],i,_=>.inl ⟨rfl,rfl⟩
 |e::es,r::rs,i,⟨h1,h2,h3,h4⟩=>by
  simp only [Mt,Hr];cases hk:Eo ks r.cells k with
  |true=>exact .inr ⟨0,e,r,by simp,by simp,rfl,rfl,hk⟩
  |false=>
   rcases Fb (k:=k) (i+1) h4 with ⟨a,b⟩|⟨n,e',r',a,b,c,d,f⟩
   ·exact .inl ⟨a,b⟩
   ·exact .inr ⟨n+1,e',r',by show Mt ks k es rs (i+1)=_;rw [a,show i+1+n=i+(n+1) by omega],by show Hr ks k rs (i+1)=_;rw [b,show i+1+n=i+(n+1) by omega],by simpa using c,by simpa using d,f⟩
 |[],_::_,_,h=>h.elim
 |_::_,[],_,h=>h.elim
omit U in
theorem A9.get {ks vks:List Kd} {K:TypeId→Option (List Kd)} {M:Nat→Option (Array Value)}:∀{es:List MapEntry} {rs:List D} {n:Nat} {e:MapEntry} {r:D},A9 K M ks vks es rs→es[n]?=some e→rs[n]?=some r→
  r.cells.length=ks.length+vks.length∧KV K M ks e.key r.cells∧KV K M vks e.val (r.cells.drop ks.length)
 |e::es,r::rs,0,e',r',⟨h1,h2,h3,h4⟩,g1,g2=>by
  simp only [List.getElem?_cons_zero,Option.some.injEq] at g1 g2;subst g1;subst g2;exact ⟨h1,h2,h3⟩
 |e::es,r::rs,n+1,e',r',⟨h1,h2,h3,h4⟩,g1,g2=>h4.get (by simpa using g1) (by simpa using g2)
 |[],[],n,_,_,_,g1,_=>by simp at g1
 |[],_::_,_,_,_,h,_,_=>h.elim
 |_::_,[],_,_,_,h,_,_=>h.elim
omit U in
theorem A9.push {ks vks:List Kd} {K:TypeId→Option (List Kd)} {M:Nat→Option (Array Value)} {x:MapEntry} {y:D} (h1:y.cells.length=ks.length+vks.length) (h2:KV K M ks x.key y.cells) (h3:KV K M vks x.val (y.cells.drop ks.length)):∀{es:List MapEntry} {rs:List D},A9 K M ks vks es rs→A9 K M ks vks (es++[x]) (rs++[y])
 |[],[],_=>⟨h1,h2,h3,trivial⟩
 |e::es,r::rs,⟨g1,g2,g3,g4⟩=>⟨g1,g2,g3,A9.push h1 h2 h3 g4⟩
 |[],_::_,h=>h.elim
 |_::_,[],h=>h.elim
omit U in
theorem A9.erase {ks vks:List Kd} {K:TypeId→Option (List Kd)} {M:Nat→Option (Array Value)}:∀{es:List MapEntry} {rs:List D} (n:Nat),A9 K M ks vks es rs→A9 K M ks vks (es.eraseIdx n) (rs.eraseIdx n)
 |[],[],_,_=>by simp [A9]
 |e::es,r::rs,0,⟨g1,g2,g3,g4⟩=>g4
 |e::es,r::rs,n+1,⟨g1,g2,g3,g4⟩=>⟨g1,g2,g3,g4.erase n⟩
 |[],_::_,_,h=>h.elim
 |_::_,[],_,h=>h.elim
omit U in
theorem A9.change {ks vks:List Kd} {K:TypeId→Option (List Kd)} {M:Nat→Option (Array Value)} {x:MapEntry} {y:D} (h1:y.cells.length=ks.length+vks.length) (h2:KV K M ks x.key y.cells) (h3:KV K M vks x.val (y.cells.drop ks.length)):∀{es es':List MapEntry} {rs rs':List D} (n:Nat),A9 K M ks vks es rs→es'.length=es.length→rs'.length=rs.length→
  (∀q,q≠n→es'[q]?=es[q]?)→(∀q,q≠n→rs'[q]?=rs[q]?)→(n<es.length→es'[n]?=some x)→(n<rs.length→rs'[n]?=some y)→A9 K M ks vks es' rs'
 |[],[],[],[],n,_,_,_,_,_,_,_=>trivial
 |e::es,e'::es',r::rs,r'::rs',0,⟨g1,g2,g3,g4⟩,l1,l2,a1,a2,a3,a4=>by
  have b1:=a3 (by simp)
  have b2:=a4 (by simp)
  simp only [List.getElem?_cons_zero,Option.some.injEq] at b1 b2;subst b1;subst b2;have c1:es'=es:=List.ext_getElem? fun q=>by have:=a1 (q+1) (by omega);simpa using this
  have c2:rs'=rs:=List.ext_getElem? fun q=>by have:=a2 (q+1) (by omega);simpa using this
  rw [c1,c2];exact ⟨h1,h2,h3,g4⟩
 |e::es,e'::es',r::rs,r'::rs',n+1,⟨g1,g2,g3,g4⟩,l1,l2,a1,a2,a3,a4=>by
  have b1:=a1 0 (by omega)
  have b2:=a2 0 (by omega)
  simp only [List.getElem?_cons_zero,Option.some.injEq] at b1 b2;subst b1;subst b2
  exact ⟨g1,g2,g3,A9.change h1 h2 h3 n g4 (by simpa using l1) (by simpa using l2) (fun q hq=>by have:=a1 (q+1) (by omega);simpa using this) (fun q hq=>by have:=a2 (q+1) (by omega);simpa using this)
   (fun hn=>by have:=a3 (by simp;omega);simpa using this) (fun hn=>by have:=a4 (by simp;omega);simpa using this)⟩
 |[],_::_,_,_,_,_,l1,_,_,_,_,_=>by simp at l1
 |_::_,[],_,_,_,_,l1,_,_,_,_,_=>by simp at l1
 |[],[],_::_,_,_,h,_,_,_,_,_,_=>h.elim
 |[],[],[],_::_,_,_,_,l2,_,_,_,_=>by simp at l2
 |_::_,_::_,[],_,_,h,_,_,_,_,_,_=>h.elim
 |_::_,_::_,_::_,[],_,_,_,l2,_,_,_,_=>by simp at l2
end
end Go.AE
namespace Go.AE
variable [Gl:AH]
variable [U:Unk]
theorem GZ {a:Type} {l:List a} {n j:Nat} {d:a}:(l.drop n).getD j d=l.getD (n+j) d:=by
 rw [List.getD_eq_getElem?_getD,List.getD_eq_getElem?_getD,List.getElem?_drop]
theorem KY {a:Type} {l:List a} {n q:Nat} {f:a→a} (h:q≠n):(l.modify n f)[q]?=l[q]?:=by
 rw [List.getElem?_modify];cases l[q]?<;>simp [Ne.symm h]
theorem Eb {j:Ren} {e:List Kd} {a:AV} {v:Value} (h:HD e a=true) (f:VR j a v) (i:v.cells.toList.length=e.length) :
  v=YH v.cells.toList∧∀u,v.cells.toList=[u]→∀x,u≠.agg x:=by
 have key:∀(b:List Value),b.length≠1→YH b=.agg b.toArray:=by
  intro b g;rcases b with _|⟨x,_|⟨y,b⟩⟩
  ·rfl
  ·exact absurd rfl g
  ·rfl
 rcases e with _|⟨k,_|⟨k2,e⟩⟩
 ·cases f<;>simp only [HD,Bool.false_eq_true] at h
  rename_i l b m n;have c:b.length=0:=i;exact ⟨(key b (by omega)).symm,fun u d=>by have:b=[u]:=d;rw [this] at c;simp at c⟩
 ·cases f<;>simp only [HD,Bool.false_eq_true] at h<;>exact ⟨rfl,fun u d x o=>by
   subst o;simp only [Value.cells] at d;cases d⟩
 ·cases f<;>simp only [HD,Bool.false_eq_true] at h
  rename_i l b m n;have c:b.length=e.length+2:=i;exact ⟨(key b (by omega)).symm,fun u d=>by have:b=[u]:=d;rw [this] at c;simp at c⟩
theorem Dn {b:List Kd} {a:AV} (h:HD b a=true):a≠.top:=by
 rintro rfl
 rcases b with _|⟨k,_|⟨k2,b⟩⟩<;>simp [HD] at h
theorem MG {ρ:Ren} {a:List Kd} {k:AV} {b:SE} {c:Value} (h:WK a k=some b) (d:VR ρ k c):(Ac U.V b).cells.length=a.length∧KV U.K ρ.imm a c (Ac U.V b).cells:=by
 unfold WK at h;split at h
 ·rename_i e;obtain ⟨g,f,i⟩:=E6 _ _ _ _ h (d.cells (Dn e));obtain ⟨w1,w2⟩:=Eb e d f;exact ⟨g,_,w1,f,w2,i⟩
 ·cases h
theorem RY {ρ:Ren} {a b:List Kd} {k v:AV} {r:SE} {e f:Value} (h:cq a b k v=some r) (l:VR ρ k e) (m:VR ρ v f) :
  (Ac U.V r).cells.length=a.length+b.length∧KV U.K ρ.imm a e (Ac U.V r).cells∧KV U.K ρ.imm b f ((Ac U.V r).cells.drop a.length):=by
 unfold cq at h;split at h
 ·rename_i g;obtain ⟨g,n⟩:=Aq g;obtain ⟨o,p⟩:=Aq g;have n:=Aw n;have k1:=l.cells (Dn o);have s:=m.cells (Dn p);obtain ⟨t,u,q⟩:=E6 _ _ _ _ h (k1.append s);have i:e.cells.toList.length=a.length:=by have:=k1.1;omega
  have vl:f.cells.toList.length=b.length:=by simp only [List.length_append] at u;omega
  obtain ⟨w1,w2⟩:=Eb o l i;obtain ⟨w3,w4⟩:=Eb p m vl;refine ⟨by rw [t];simp,⟨_,w1,i,w2,fun j kd c=>?_⟩,⟨_,w3,vl,w4,fun j kd c=>?_⟩⟩
  ·have d:=(List.getElem?_eq_some_iff.1 c).1;have:=q j kd (by rw [List.getElem?_append_left d];exact c)
   rwa [List.getD_eq_getElem?_getD,List.getElem?_append_left (by omega),←List.getD_eq_getElem?_getD] at this
  ·have d:=(List.getElem?_eq_some_iff.1 c).1;have:=q (a.length+j) kd (by rw [List.getElem?_append_right (by omega),Nat.add_sub_cancel_left];exact c)
   rw [List.getD_eq_getElem?_getD,List.getElem?_append_right (by omega),i,Nat.add_sub_cancel_left,←List.getD_eq_getElem?_getD] at this
   rw [GZ];exact this
 ·cases h
theorem Km {a r:SE}:(Ac U.V (.snoc a r)).rows=(Ac U.V a).rows++[Ac U.V r]:=rfl
theorem O3 {ρ:Ren} {a b:List Kd}:∀{d:List Am} {c:List MapEntry} {y z:SE} {es0:List MapEntry},Pf a b y d=some z→ER ρ d c→A9 U.K ρ.imm a b es0 (Ac U.V y).rows→A9 U.K ρ.imm a b (es0++c) (Ac U.V z).rows
 |[],[],y,z,es0,h,_,f=>by
  simp only [Pf,Option.some.injEq] at h;subst h;simpa using f
 |e::d,g::c,y,z,es0,h,⟨i,j,p,k⟩,f=>by
  simp only [Pf] at h;split at h
  ·rename_i x l;obtain ⟨m,n,o⟩:=RY l i j;have:=O3 (es0:=es0++[g]) h k (by rw [Km];exact A9.push m n o f)
   simpa using this
  ·cases h
 |[],_::_,_,_,_,_,h,_=>h.elim
 |_::_,[],_,_,_,_,h,_=>h.elim
theorem RE {ρ:Ren} {l m:TypeId} {d e:List Kd} {b:Option Ab} {x:SE} {base:Bt} {o:Option Obj} (h:cG l m d e b=some x) (n:∀y,b=some y→BR ρ y base o) (p:U.K l=some d) (q:U.K m=some e) :
  ∃c:List MapEntry,∃a,o=some (.map c.toArray a)∧A9 U.K ρ.imm d e c (Ac U.V x).rows∧Inc c a:=by
 unfold cG at h;split at h
 ·rename_i r s A;split at h
  ·rename_i t;cases h;obtain ⟨j,k⟩:=Aq t;have j:=Aw j;have k:=Aw k;subst j;subst k;obtain ⟨k1,B,c,a,i,f,u,v,w⟩:=n _ rfl;rw [p] at i;rw [q] at f;cases i;cases f;exact ⟨c,a,u,v,w⟩
  ·cases h
 ·rename_i z a;split at h
  ·rename_i g;obtain ⟨c,i,f⟩:=n _ rfl;have:=O3 (es0:=[]) h f trivial;exact ⟨c,a,i,by simpa using this,(RS z c 0 a g f).2⟩
  ·cases h
 ·cases h
theorem Oz {a i:SE} {j:Nat} {x:SE}:(Ac U.V (.upd a i j x)).rows=(Ac U.V a).rows.modify (Af U.V i).toNat fun r=>.row (r.cells.set j (Ac U.V x)):=rfl
theorem F3 {n:Ren} {o:List Kd} {i:SE}:∀(l:List AV) (m:List Value) (j:Nat) (y d:SE) (r:D),CZ i o y j l=some d→VL n l m→(Ac U.V y).rows[(Af U.V i).toNat]?=some r→j+l.length≤r.cells.length→
  (Ac U.V d).rows.length=(Ac U.V y).rows.length∧(∀q,q≠(Af U.V i).toNat→(Ac U.V d).rows[q]?=(Ac U.V y).rows[q]?)∧
  ∃e,(Ac U.V d).rows[(Af U.V i).toNat]?=some e∧e.cells.length=r.cells.length∧(∀p,p<j∨j+l.length≤p→e.cells.getD p default=r.cells.getD p default)∧
   ∀(q:Nat) kd,q<l.length→o[j+q]?=some kd→DV U.K n.imm kd (m.getD q Go.undef) (e.cells.getD (j+q) default)
 |[],m,j,y,d,r,h,s,hr,t=>by
  simp only [CZ,Option.some.injEq] at h;subst h;exact ⟨rfl,fun _ _=>rfl,r,hr,rfl,fun _ _=>rfl,fun q kd f=>absurd f (Nat.not_lt_zero q)⟩
 |a::l,m,j,y,d,r,h,s,hr,t=>by
  obtain ⟨v,vr,rfl,u,w⟩:=s.cons_inv;simp only [CZ] at h;split at h
  ·rename_i k z;split at h
   ·rename_i x A;have B:=ML u A
    have g:(Ac U.V (.upd y i j x)).rows[(Af U.V i).toNat]?=some (.row (r.cells.set j (Ac U.V x))):=by
     rw [Oz,List.getElem?_modify_eq,hr];rfl
    simp only [List.length_cons] at t;obtain ⟨C,E,e,a3,a4,a5,F⟩:=F3 l vr (j+1) _ d _ h w g (by show j+1+l.length≤(r.cells.set j (Ac U.V x)).length;simp;omega)
    have b:(D.row (r.cells.set j (Ac U.V x))).cells=r.cells.set j (Ac U.V x):=rfl;rw [b] at a4 a5;refine ⟨by rw [C,Oz];simp,fun q f=>by rw [E q f,Oz,KY f],e,a3,by rw [a4];simp,fun p G=>?_,fun q kd f c=>?_⟩
    ·simp only [List.length_cons] at G;rw [a5 p (by omega),List.getD_eq_getElem?_getD,List.getD_eq_getElem?_getD,List.getElem?_set_ne (by omega)]
    ·cases q with
     |zero=>
      rw [Nat.add_zero] at c ⊢;rw [z] at c;cases c;rw [a5 j (by omega),Qj,List.getD_eq_getElem?_getD,List.getElem?_set_self (by omega)]
      exact B
     |succ q=>
      rw [CQ,show j+(q+1)=j+1+q by omega]
      exact F q kd (by simpa using f) (by rw [←c];congr 1;omega)
   ·cases h
  ·cases h
theorem F6 {E:Env} (hE:OK E) {t e f:TypeId} {c d:List Kd} (h:LX E t=some (e,f,c,d)):E.desc t=some (.map e f)∧U.K e=some c∧U.K f=some d∧G1 E e c=true:=by
 unfold LX at h;split at h
 ·rename_i g i j;split at h
  ·rename_i a b k l;split at h
   ·rename_i m;cases h;exact ⟨j,by rw [hE.kd,←hE.ke];exact k,by rw [hE.kd,←hE.ke];exact l,m⟩
   ·cases h
  ·cases h
 ·cases h
theorem FH {E:Env} {b:TypeId} {k:AV} (a:BN E 20 b k=true):∃c,E.desc b=some c:=by
 simp only [BN] at a;cases d:E.desc b with
 |none=>simp [d] at a
 |some c=>exact ⟨c,rfl⟩
section
variable {E:Env} (hE:OK E) {ρ:Ren} {h:Aa} {w:World}
include hE
theorem XZ (hr:HR ρ h.blk.get w) {t:TypeId} {m k a:AV} {mv N:Value} {ok:Bool} (hm:VR ρ m mv) (hk:VR ρ k N) (g:Ru E t m k ok h=some a) :
  ∃v,(Instr.lookup t mv N ok).run E.P w=.ok v w∧VR ρ a v:=by
 unfold Ru at g;split at g
 ·rename_i kt vt d H r ht;obtain ⟨hd,T,W,C⟩:=F6 hE ht;split at g
  ·rename_i aj ak x hg;split at g
   ·rename_i z D X hz Y;obtain ⟨X,c3⟩:=Aq X;obtain ⟨Z,c2⟩:=Aq X;have Z:=Aw Z;have c2:=Aw c2;subst Z;subst c2;obtain ⟨zv,z1,z2⟩:=hE.run_zero ρ hz w;have aa:=AN ρ z2;have I:∀em,(Instr.checkKey em 10000 kt N).run E.P w=.ok () w:=fun em=>C2 (w:=w) hE em 9980 20 kt k N c3 hk
    obtain ⟨ds,ab⟩:=FH c3;obtain ⟨kl,ac⟩:=MG Y hk
    have fin:∀(v:AV) (b:Bool) (J:Value),VR ρ v J→VR ρ (Pw ok v b) (if ok then .tuple #[J,.bool b] else J):=by
     intro v b J O;cases ok with
     |true=>
      have:=VL.cons O (VL.cons (VR.bool (ρ:=ρ) b) (VL.nil ρ));exact .tuple _ [J,.bool b] this.1 this.2
     |false=>exact O
    cases hm with
    |map _ base hb=>
     obtain ⟨k1,v1,ad,F,e1,e2,e3,e4,_⟩:=hr.blk r base _ hb hg;rw [T] at e1;rw [W] at e2;cases e1;cases e2;have u:(getObj base.cb).run E.P w=.ok (.map ad.toArray F) w:=by simp [getObj,Sem.run,e3]
     have f:=EJ (w:=w) hE C ac (by omega) ab e4
     have y:=Fb (k:=(Ac U.V D).cells) 0 e4;have i:Af U.V (.mIdx d x D)=Hr d (Ac U.V D).cells (Ac U.V x).rows 0:=rfl;split at g
     ·rename_i o;cases g;have s:=Ar U.ok o;rw [At,decide_eq_true_eq] at s;have z0:Af U.V (.c 0)=0:=rfl;rw [z0,i] at s;rcases y with ⟨L,Q⟩|⟨n,e,r',L,Q,a3⟩
      ·rw [L] at f;refine ⟨_,?_,fin z false zv aa⟩;simp [Instr.lookup,hE.run_und hd,u,I,f,z1]
      ·omega
     ·rename_i o;split at g
      ·rename_i l ae;cases g;have s:=Ar U.ok o;rw [At,decide_eq_false_iff_not] at s;have z0:Af U.V (.c 0)=0:=rfl;rw [z0,i] at s;rcases y with ⟨L,Q⟩|⟨n,e,r',L,Q,a3,a4,a5⟩
       ·omega
       ·rw [L] at f;obtain ⟨q1,⟨lk,k1,k2,k3,k4⟩,⟨R,v1,v2,v3,v4⟩⟩:=e4.get a3 a4;have hn:(Af U.V (.mIdx d x D)).toNat=n:=by rw [i,Q];simp
        have M:(Ac U.V x).rows.getD n default=r':=by rw [List.getD_eq_getElem?_getD,a4];rfl
        have G:∀j,Ac U.V (.cell x (.mIdx d x D) j)=r'.cells.getD j default:=by
         intro j;show ((Ac U.V x).rows.getD (Af U.V (.mIdx d x D)).toNat default).cells.getD j default=_;rw [hn,M]
        have A:∀p,((lk++R).toArray).getD p Go.undef=(lk++R).getD p Go.undef:=by intro p;simp [Array.getD_eq_getD_getElem?,List.getD_eq_getElem?_getD]
        have O:∀j kd,(d++H)[j]?=some kd→DV U.K ρ.imm kd ((lk++R).toArray.getD (0+j) Go.undef) (Ac U.V (.cell x (.mIdx d x D) j)):=by
         intro j kd S;rw [G,A,Nat.zero_add,List.getD_eq_getElem?_getD];by_cases af:j<d.length
         ·rw [List.getElem?_append_left af] at S;rw [List.getElem?_append_left (by omega),←List.getD_eq_getElem?_getD]
          exact k4 j kd S
         ·rw [List.getElem?_append_right (by omega)] at S
          rw [List.getElem?_append_right (by omega),←List.getD_eq_getElem?_getD,k2]
          have:=v4 (j-d.length) kd S;rw [GZ,show d.length+(j-d.length)=j by omega] at this
          exact this
        obtain ⟨p1,p2,p3⟩:=H7 O H.length d.length l ae
        have ag:VL ρ l R:=by
         refine ⟨by omega,fun q a v ah ai=>?_⟩
         have:=p3 q a ah;rw [A,Nat.zero_add,List.getD_eq_getElem?_getD,List.getElem?_append_right (by omega),k2,Nat.add_sub_cancel_left,ai] at this
         exact this
        have B:=SM ag;rw [←v1] at B;refine ⟨_,?_,fin _ true e.val B⟩;simp [Instr.lookup,hE.run_und hd,u,I,f]
      ·cases g
     ·cases g
   ·cases g
  ·cases g
 ·cases g
theorem W0 (hr:HR ρ h.blk.get w) {t:TypeId} {m k v:AV} {mv C p:Value} {h':Aa} (hm:VR ρ m mv) (L:VR ρ k C) (hv:VR ρ v p) (s:R1 E t m k v h=some h') :
  ∃w',(Instr.mapUpdate t mv C p).run E.P w=.ok () w'∧HR ρ h'.blk.get w'∧Ext ρ ρ h h' w w':=by
 unfold R1 at s;split at s
 ·rename_i X vt g l r ht;obtain ⟨hd,G,H,u⟩:=F6 hE ht;split at s
  ·rename_i x Y c3 I aa;have M:∀em,(Instr.checkKey em 10000 X C).run E.P w=.ok () w:=fun em=>C2 (w:=w) hE em 9980 20 X k C c3 L
   obtain ⟨ds,ab⟩:=FH c3;obtain ⟨kl,N⟩:=MG aa L;cases hm with
   |map _ base hb=>
    have z:h.blk.get r≠none:=by
     intro e;rw [e] at I;cases I
    obtain ⟨o,a,e3,O,e5⟩:=RE I (fun y hy=>hr.blk r base y hb hy) G H
    have D:=As (w:=w) E.P e3 (by simp)
    have b:=EJ (w:=w) hE u N (by omega) ab O
    have F:=Fb (k:=(Ac U.V Y).cells) 0 O;have A:Af U.V (.mIdx g x Y)=Hr g (Ac U.V Y).cells (Ac U.V x).rows 0:=rfl;split at s
    ·rename_i row d B;cases s;have i:=Ar U.ok B;rw [At,decide_eq_true_eq] at i;have z0:Af U.V (.c 0)=0:=rfl;rw [z0,A] at i;rcases F with ⟨Q,Z⟩|⟨n,e,r',Q,Z,a3⟩
     ·rw [Q] at b;obtain ⟨q1,q2,q3⟩:=RY d L hv;obtain ⟨p1,p2⟩:=hr.setObj hb z (.dmap X vt (.snoc x row)) (.map (o.toArray.push {key:=C,val:=p,born:=a}) (a+1))
       ⟨g,l,o++[{key:=C,val:=p,born:=a}],a+1,G,H,by simp,by rw [Km];exact A9.push q1 q2 q3 O,e5.push C p⟩
      refine ⟨_,?_,p1,p2⟩;simp [Instr.mapUpdate,hE.run_und hd,D,M,b,Az (w:=w) E.P e3 (by simp)]
     ·omega
    ·rename_i row d B;split at s
     ·rename_i y hy;cases s;have i:=Ar U.ok B;rw [At,decide_eq_false_iff_not] at i;have z0:Af U.V (.c 0)=0:=rfl;rw [z0,A] at i;rcases F with ⟨Q,Z⟩|⟨n,e,r',Q,Z,a3,a4,a5⟩
      ·omega
      ·rw [Q] at b;have hn:(Af U.V (.mIdx g x Y)).toNat=n:=by rw [A,Z];simp
       obtain ⟨q1,q2,q3⟩:=O.get a3 a4;obtain ⟨_,_,R⟩:=gu (w:=w) hE u q2 N (by omega) (by omega)
       have ac:e.key=C:=R a5;unfold cq at d;split at d
       ·rename_i hc;obtain ⟨hc,c6⟩:=Aq hc;obtain ⟨c4,c5⟩:=Aq hc;have J:=hv.cells (Dn c5);have ad:=E6 _ _ _ _ d ((L.cells (Dn c4)).append J);have c6:=Aw c6;have aj:=(L.cells (Dn c4)).1;have vl:p.cells.toList.length=l.length:=by have:=ad.2.1;simp only [List.length_append] at this;omega
        have ak:v.cells.length=l.length:=by have:=J.1;omega
        obtain ⟨u1,u2,r2,u3,u4,u5,u6⟩:=F3 _ _ _ _ _ r' hy J (by rw [hn];exact a4) (by omega)
        rw [hn] at u2 u3;obtain ⟨w3,w4⟩:=Eb c5 hv vl;obtain ⟨nk,w1,s1,s2,s3,s4,s5,s6⟩:=DP (w:=w) E.P e.key C;have ae:nk=e.key:=by rcases s2 with rfl|rfl;exact ac.symm;rfl
        subst ae;have af:HR ρ h.blk.get w1:=hr.same s3
        have ag:KV U.K ρ.imm g e.key r2.cells:=by
         obtain ⟨lk,k1,k2,k3,k4⟩:=q2;refine ⟨lk,k1,k2,k3,fun j kd S=>?_⟩
         have i:=(List.getElem?_eq_some_iff.1 S).1;rw [u5 j (.inl i)];exact k4 j kd S
        have ah:KV U.K ρ.imm l p (r2.cells.drop g.length):=by
         refine ⟨_,w3,vl,w4,fun j kd S=>?_⟩
         have i:=(List.getElem?_eq_some_iff.1 S).1;rw [GZ];exact u6 j kd (by omega) (by rw [List.getElem?_append_right (by omega),Nat.add_sub_cancel_left];exact S)
        have al:n<o.length:=(List.getElem?_eq_some_iff.1 a3).1
        have T:A9 U.K ρ.imm g l (o.modify n fun W=>{W with key:=e.key,val:=p}) (Ac U.V y).rows:=by
         refine A9.change (x:={key:=e.key,val:=p,born:=e.born}) (y:=r2) (by rw [u4];exact q1) ag ah n O (by simp) u1 (fun q hq=>KY hq) (fun q hq=>u2 q hq) (fun _=>by rw [List.getElem?_modify_eq,a3];rfl) (fun _=>u3)
        obtain ⟨p1,p2⟩:=af.setObj hb z (.dmap X vt y) (.map (o.toArray.modify n fun W=>{W with key:=e.key,val:=p}) a)
         ⟨g,l,_,a,G,H,by simp [List.modify_toArray],T,e5.modify (f:=fun W=>{W with key:=e.key,val:=p}) (fun _=>rfl) n⟩
        refine ⟨_,?_,p1,p2.drawn s3 s4 s5 s6⟩;have ai:w1.heap[base.cb]?=some (.map o.toArray a):=by rw [s3];exact e3
        simp only [Nat.zero_add] at b;simp only [Instr.mapUpdate,Sem.run_bind,hE.run_und hd,Result.andThen_ok,D,M,b,List.getElem?_toArray,a3,Option.map_some,Option.getD_some,s1];rw [Az (w:=w1) E.P ai (by simp)]
       ·cases d
     ·cases s
    ·cases s
  ·cases s
 ·cases s
theorem WM (hr:HR ρ h.blk.get w) {t:TypeId} {m k v:AV} {f g i:Value} {h':Aa} (b:VR ρ m f) (c:VR ρ k g) (d:VR ρ v i) (a:Rx E t m k v h=some h') :
  ∃e,(Instr.mapUpdate t f g i).run E.P w=.ok () e∧HR ρ h'.blk.get e∧Ext ρ ρ h h' w e:=by
 unfold Rx at a;split at a
 ·split at a
  ·rename_i q;cases a;exact W0 hE hr b c d q
  ·exact Il hE hr b c d a
 ·exact Il hE hr b c d a
theorem ai (hr:HR ρ h.blk.get w) {t:TypeId} {m k a:AV} {mv j:Value} {h':Aa} (hm:VR ρ m mv) (hk:VR ρ k j) (l:Yr E t m k h=some (a,h')) (hf:AJ ρ h.nx h'.nx) :
  AR E ρ h h' w (Instr.mapEntry t mv j) a:=by
 unfold Yr at l;split at l
 ·rename_i o v g A r ht;obtain ⟨hd,B,C,D⟩:=F6 hE ht;split at l
  ·rename_i x kr z c3 F aa hz;have ab:∀em,(Instr.checkKey em 10000 o j).run E.P w=.ok () w:=fun em=>C2 (w:=w) hE em 9980 20 o k j c3 hk
   obtain ⟨ds,ac⟩:=FH c3;obtain ⟨kl,ad⟩:=MG aa hk;obtain ⟨G,z1,z2⟩:=hE.run_zero ρ hz w;have J:=AN ρ z2;cases hm with
   |map _ base H=>
    have I:h.blk.get r≠none:=by
     intro e;rw [e] at F;cases F
    obtain ⟨p,d,e3,Z,e5⟩:=RE F (fun y hy=>hr.blk r base y H hy) B C
    have L:=As (w:=w) E.P e3 (by simp)
    have i:=EJ (w:=w) hE D ad (by omega) ac Z
    have M:=Fb (k:=(Ac U.V kr).cells) 0 Z;have N:Af U.V (.mIdx g x kr)=Hr g (Ac U.V kr).cells (Ac U.V x).rows 0:=rfl;split at l
    ·rename_i row O Q;simp only [Option.some.injEq,Prod.mk.injEq] at l;obtain ⟨rfl,rfl⟩:=l;have q:=Ar U.ok Q;rw [At,decide_eq_true_eq] at q;have z0:Af U.V (.c 0)=0:=rfl;rw [z0,N] at q;rcases M with ⟨a1,a2⟩|⟨n,e,r',a1,a2,a3⟩
     ·rw [a1] at i;obtain ⟨q1,q2,q3⟩:=RY O hk J;have s:A9 U.K ρ.imm g A (p++[{key:=j,val:=G,born:=d}]) (Ac U.V (.snoc x row)).rows:=by rw [Km];exact A9.push q1 q2 q3 Z
      have u:=e5.push j G;obtain ⟨p1,p2⟩:=hr.setObj H I (.dmap o v (.snoc x row)) (.map (p.toArray.push {key:=j,val:=G,born:=d}) (d+1))
       ⟨g,A,p++[{key:=j,val:=G,born:=d}],d+1,B,C,by simp,s,u⟩
      have f:ρ h.nx=none:=hf h.nx (Nat.le_refl _) (by simp [Aa.put,Aa.stampN])
      have R:r≠h.nx:=by rintro rfl;rw [f] at H;cases H
      have S:(h.put r (.dmap o v (.snoc x row))).blk.get r≠none:=by simp [Aa.put,T.get_set]
      obtain ⟨s1,s2⟩:=p1.stamp (h:=h.put r (.dmap o v (.snoc x row))) f H S d;have ae:(ρ.upd h.nx ⟨base.cb,d,base.csz⟩) r=some base:=by simp [Ren.upd,R,H]
      have af:(h.put r (.dmap o v (.snoc x row))).stampN.blk.get r≠none:=by
       show ((h.put r (.dmap o v (.snoc x row))).blk.del h.nx).get r≠none;rw [T.get_del,if_neg (fun e=>R e.symm)]
       exact S
      have W:=Ren.le_upd f ⟨base.cb,d,base.csz⟩;have X:=Z.length
      obtain ⟨t1,t2⟩:=HR.put (h:=(h.put r (.dmap o v (.snoc x row))).stampN) s1 ae af (.dmapS o v (.snoc x row) (.lenL x) h.nx) _ (by
       have q:=hr.lt r base H;show BR _ _ _ (w.heap.setIfInBounds base.cb _)[base.cb]?;rw [Array.getElem?_setIfInBounds_self_of_lt q];refine ⟨g,A,p++[(⟨j,G,d⟩:MapEntry)],d+1,B,C,by simp,s.mono W.imm,u,⟨base.cb,d,base.csz⟩,Ren.upd_same _ _ _,?_⟩
       rw [Al,Int.toNat_natCast,←X];simp) rfl (fun _ _=>rfl) rfl rfl rfl
      have Y:VR (ρ.upd h.nx ⟨base.cb,d,base.csz⟩) (.tuple [z,.stamp h.nx]) (.tuple #[G,goInt d]):=by
       have:=VL.cons (J.mono W) (VL.cons (VR.stamp (ρ:=ρ.upd h.nx ⟨base.cb,d,base.csz⟩) h.nx ⟨base.cb,d,base.csz⟩ (Ren.upd_same _ _ _)) (VL.nil _));exact .tuple _ [G,goInt d] this.1 this.2
      refine ⟨_,_,_,?_,Y,t1,(p2.trans s2 (fun b b1 b2=>hf b b1 (by simp only [Aa.put,Aa.stampN] at b2 ⊢;omega))).trans t2 (fun b b1 b2=>hf b b1 (by simp only [Aa.put,Aa.stampN] at b2 ⊢;omega))⟩
      simp [Instr.mapEntry,hE.run_und hd,L,ab,i,z1,Az (w:=w) E.P e3 (by simp)]
     ·omega
    ·cases l
  ·cases l
 ·cases l
theorem aO (hr:HR ρ h.blk.get w) {t:TypeId} {m k a:AV} {e f:Value} {h':Aa} (c:VR ρ m e) (d:VR ρ k f) (b:WG E t m k h=some (a,h')) (g:AJ ρ h.nx h'.nx) :
  AR E ρ h h' w (Instr.mapEntry t e f) a:=by
 unfold WG at b;split at b
 ·split at b
  ·rename_i r i;cases b;exact ai hE hr c d i g
  ·exact QD hE hr c d b
 ·exact QD hE hr c d b
omit hE in
theorem V5 {es:List MapEntry} {n s:Nat} (hp:(es.map (·.born)).Pairwise (· < ·)) (hn:(es[n]?).map (·.born)=some s):es.toArray.findIdx? (fun e=>(e.born:Int)==(s:Int))=some n:=by
 obtain ⟨e,he,hs⟩:=Option.map_eq_some_iff.1 hn;have hlt:=(List.getElem?_eq_some_iff.1 he).1;have hge:=(List.getElem?_eq_some_iff.1 he).2;rw [List.findIdx?_toArray,List.findIdx?_eq_some_iff_getElem];refine ⟨hlt,by rw [hge,hs];simp,fun j hj=>?_⟩
 have hj':j<es.length:=by omega
 have:=List.pairwise_iff_getElem.1 hp j n (by simpa using hj') (by simpa using hlt) hj
 simp only [List.getElem_map,hge,hs] at this;simp only [beq_iff_eq,Bool.not_eq_true,beq_eq_false_iff_ne,ne_eq];omega
theorem Ox (hr:HR ρ h.blk.get w) {t:TypeId} {m v:AV} {b:Nat} {Z sv g:Value} {h':Aa} (hm:VR ρ m Z) (hs:VR ρ (.stamp b) sv) (hv:VR ρ v g) (i:Gi E t m b v h=some h') :
  ∃F,(Instr.entryStore t Z sv g).run E.P w=.ok () F∧HR ρ h'.blk.get F∧Ext ρ ρ h h' w F:=by
 unfold Gi at i;split at i
 ·rename_i kt vt c d r ht;obtain ⟨hd,l,o,G⟩:=F6 hE ht;split at i
  ·rename_i ab ac x ne b' hg;split at i
   ·rename_i y k hy;cases i;obtain ⟨k,H⟩:=Aq k;obtain ⟨k,c4⟩:=Aq k;obtain ⟨k,I⟩:=Aq k;obtain ⟨J,L⟩:=Aq k;have J:=Aw J;have L:=Aw L;have I:=Aw I;have H:=Aw H;subst J;subst L;subst I;cases hm with
    |map _ base hb=>
     obtain ⟨k1,v1,p,a,e1,e2,e3,M,e5,bs,e6,N⟩:=hr.blk r base _ hb hg;rw [l] at e1;rw [o] at e2;cases e1;cases e2;cases hs with
     |stamp _ ad u=>
      rw [e6] at u;cases u;have z:=As (w:=w) E.P e3 (by simp)
      generalize hn:(Af U.V ne).toNat=n at N;obtain ⟨e,he,O⟩:=Option.map_eq_some_iff.1 N;have Q:=V5 e5.1 N;have ae:=(List.getElem?_eq_some_iff.1 he).1;have aa:=M.length;have R:∃S,(Ac U.V x).rows[n]?=some S:=⟨_,List.getElem?_eq_getElem (by omega)⟩
      obtain ⟨S,A⟩:=R;obtain ⟨q1,q2,q3⟩:=M.get he A;have B:=hv.cells (Dn c4);have vl:g.cells.toList.length=d.length:=by rw [←B.1];exact H
      obtain ⟨u1,u2,T,u3,u4,u5,u6⟩:=F3 _ _ _ _ _ S hy B (by rw [hn];exact A) (by omega)
      rw [hn] at u2 u3;obtain ⟨w3,w4⟩:=Eb c4 hv vl
      have W:KV U.K ρ.imm c e.key T.cells:=by
       obtain ⟨lk,k1,k2,k3,k4⟩:=q2;refine ⟨lk,k1,k2,k3,fun j kd hj=>?_⟩
       have hlt:=(List.getElem?_eq_some_iff.1 hj).1;rw [u5 j (.inl hlt)];exact k4 j kd hj
      have X:KV U.K ρ.imm d g (T.cells.drop c.length):=by
       refine ⟨_,w3,vl,w4,fun j kd hj=>?_⟩
       have hlt:=(List.getElem?_eq_some_iff.1 hj).1;rw [GZ];exact u6 j kd (by omega) (by rw [List.getElem?_append_right (by omega),Nat.add_sub_cancel_left];exact hj)
      have C:A9 U.K ρ.imm c d (p.modify n fun D=>{D with val:=g}) (Ac U.V y).rows:=by
       refine A9.change (x:={key:=e.key,val:=g,born:=e.born}) (y:=T) (by rw [u4];exact q1) W X n M (by simp) u1 (fun q Y=>KY Y) (fun q Y=>u2 q Y) (fun _=>by rw [List.getElem?_modify_eq,he];rfl) (fun _=>u3)
      obtain ⟨p1,p2⟩:=hr.setObj hb (by rw [hg];simp) (.dmap kt vt y) (.map (p.toArray.modify n fun D=>{D with val:=g}) a)
       ⟨c,d,_,a,l,o,by simp [List.modify_toArray],C,e5.modify (f:=fun D=>{D with val:=g}) (fun _=>rfl) n⟩
      refine ⟨_,?_,p1,p2⟩;simp only [Instr.entryStore,Sem.run_bind,z,Result.andThen_ok,asInt,asIntOf,Sem.run_pure,Q];rw [Az (w:=w) E.P e3 (by simp)]
   ·cases i
  ·cases i
 ·cases i
theorem Ok (hr:HR ρ h.blk.get w) {t:TypeId} {m s v:AV} {c d f:Value} {h':Aa} (g:VR ρ m c) (hs:VR ρ s d) (i:VR ρ v f) (a:Gc E t m s v h=some h') :
  ∃b,(Instr.entryStore t c d f).run E.P w=.ok () b∧HR ρ h'.blk.get b∧Ext ρ ρ h h' w b:=by
 unfold Gc at a;split at a
 ·exact Ox hE hr g hs i a
 ·exact OI hr g hs i a
theorem Xb (hr:HR ρ h.blk.get w) {t ty:TypeId} {m k:AV} {Z I:Value} {h':Aa} (hm:VR ρ m Z) (hk:VR ρ k I) (l:SU E t m k h=some h') (C:Array TypeId) (D:C[0]?=some t) :
  ∃M,(Builtin.delete_ C ty #[Z,I]).run E.P w=.ok (.tuple #[]) M∧HR ρ h'.blk.get M∧Ext ρ ρ h h' w M:=by
 unfold SU at l;split at l
 ·rename_i J vt d F r ht;obtain ⟨hd,u,v,z⟩:=F6 hE ht;split at l
  ·rename_i x A c3 B N;have G:∀O,(Instr.checkKey O 10000 J I).run E.P w=.ok () w:=fun O=>C2 (w:=w) hE O 9980 20 J k I c3 hk
   obtain ⟨ds,Q⟩:=FH c3;obtain ⟨kl,R⟩:=MG N hk;cases hm with
   |map _ base S=>
    have f:h.blk.get r≠none:=by
     intro e;rw [e] at B;cases B
    obtain ⟨o,b,T,K,e5⟩:=RE B (fun y hy=>hr.blk r base y S hy) u v
    have p:=As (w:=w) E.P T (by simp)
    have a:=EJ (w:=w) hE z R (by omega) Q K
    have q:=Fb (k:=(Ac U.V A).cells) 0 K;have g:Af U.V (.mIdx d x A)=Hr d (Ac U.V A).cells (Ac U.V x).rows 0:=rfl;split at l
    ·rename_i i;cases l;have hlt:=Ar U.ok i;rw [At,decide_eq_true_eq] at hlt;have z0:Af U.V (.c 0)=0:=rfl;rw [z0,g] at hlt;rcases q with ⟨H,L⟩|⟨n,e,r',H,L,a3⟩
     ·rw [H] at a;obtain ⟨W,X⟩:=hr.setObj S f (.dmap J vt x) (.map o.toArray b) ⟨d,F,o,b,u,v,rfl,K,e5⟩;refine ⟨_,?_,W,X⟩;simp [Builtin.delete_,D,hE.run_und hd,p,G,a,Az (w:=w) E.P T (by simp)]
     ·omega
    ·rename_i i;cases l;have hlt:=Ar U.ok i;rw [At,decide_eq_false_iff_not] at hlt;have z0:Af U.V (.c 0)=0:=rfl;rw [z0,g] at hlt;rcases q with ⟨H,L⟩|⟨n,e,r',H,L,a3,a4,a5⟩
     ·omega
     ·rw [H] at a;have hn:(Af U.V (.mIdx d x A)).toNat=n:=by rw [g,L];simp
      have Y:(Ac U.V (.rmv x (.mIdx d x A))).rows=(Ac U.V x).rows.eraseIdx n:=by
       show (Ac U.V x).rows.eraseIdx (Af U.V (.mIdx d x A)).toNat=_;rw [hn]
      obtain ⟨W,X⟩:=hr.setObj S f (.dmap J vt (.rmv x (.mIdx d x A))) (.map (o.toArray.eraseIdxIfInBounds n) b) ⟨d,F,o.eraseIdx n,b,u,v,by simp,by rw [Y];exact K.erase n,e5.erase n⟩
      refine ⟨_,?_,W,X⟩;simp only [Nat.zero_add] at a;simp [Builtin.delete_,D,hE.run_und hd,p,G,a,Az (w:=w) E.P T (by simp)]
    ·cases l
  ·cases l
 ·cases l
theorem WN (hr:HR ρ h.blk.get w) {t ty:TypeId} {m k:AV} {f g:Value} {h':Aa} (i:VR ρ m f) (l:VR ρ k g) (c:SN E t m k h=some h') (a:Array TypeId) (b:a[0]?=some t) :
  ∃d,(Builtin.delete_ a ty #[f,g]).run E.P w=.ok (.tuple #[]) d∧HR ρ h'.blk.get d∧Ext ρ ρ h h' w d:=by
 unfold SN at c;split at c
 ·rename_i q;cases c;exact XD hE hr i l q a b
 ·exact Xb hE hr i l c a b
theorem Xy {h:Aa} (hr:HR ρ h.blk.get w) {t:TypeId} {m k a:AV} {L x:Value} {ok:Bool} (C:VR ρ m L) (q:VR ρ k x) (c:MP E t m k ok h=some a) :
  ∃v,(Instr.lookup t L x ok).run E.P w=.ok v w∧VR ρ a v:=by
 unfold MP at c;split at c
 ·rename_i r D;cases c;exact X2 hE hr C q D
 ·split at c
  ·rename_i r D;cases c;exact XZ hE hr C q D
  split at c
  ·rename_i y et r M _ _;split at c
   ·rename_i z es g l Q R;obtain ⟨S,T,V⟩:=hE.run_zero ρ Q w;have F:=AN ρ V;have u:∀G,(Instr.checkKey G 10000 y x).run E.P w=.ok () w:=fun G=>C2 (w:=w) hE G 9980 20 y k x l q
    have d:∃A,E.desc y=some A:=by
     simp only [BN] at l;cases W:E.desc y with
     |none=>simp [W] at l
     |some A=>exact ⟨A,rfl⟩
    obtain ⟨A,d⟩:=d
    have fin:∀(v:AV) (b:Bool) (o:Value),VR ρ v o→VR ρ (Pw ok v b) (if ok then .tuple #[o,.bool b] else o):=by
     intro v b o N;cases ok with
     |true=>
      have:=VL.cons N (VL.cons (VR.bool (ρ:=ρ) b) (VL.nil ρ));exact .tuple _ [o,.bool b] this.1 this.2
     |false=>exact N
    cases C with
    |map _ base X=>
     obtain ⟨H,Y,O⟩:=hr.blk r base _ X R;have f:(getObj base.cb).run E.P w=.ok (.map H.toArray g) w:=by simp [getObj,Sem.run,Y]
     split at c
     ·rename_i i v I;cases c;obtain ⟨J,B,K⟩:=Lt (w:=w) hE d q O I;cases J with
      |none=>cases B
      |some Z=>
       obtain ⟨j,o⟩:=Z;refine ⟨_,?_,fin v true o B.2⟩;simp [Instr.lookup,hE.run_und M,f,u,K]
     ·rename_i I;cases c;obtain ⟨J,B,K⟩:=Lt (w:=w) hE d q O I;cases J with
      |some p=>cases B
      |none=>
       refine ⟨_,?_,fin z false S F⟩;simp [Instr.lookup,hE.run_und M,f,u,K,T]
     ·cases c
   ·cases c
  ·cases c
end
end Go.AE
namespace Go.AE
variable [Gl:AH]
variable [U:Unk]
omit U in
theorem GL:∀(l b:Nat),(Ds l b).length=l
 |0,_=>rfl
 |l+1,b=>by simp [Ds,GL l]
theorem Q9 {e:SE} (h:SO e=true):(AU U.V e).data.toList.length<4611686018427387904:=by
 unfold SO at h;split at h
 ·rename_i l b;have:=CR h
  have e:(AU U.V (.strc l b)).data.toList.length=l:=by
   show ((Ds l b).toArray).toList.length=l;simp [GL]
  omega
 ·have:=JG h;rw [At,decide_eq_true_eq,CD] at this;have z:Af U.V (.c 4611686018427387904)=4611686018427387904:=rfl;rw [z] at this;omega
section
variable {E:Env} (hE:OK E) {ρ:Ren} {h:Aa} {w:World}
omit U in
theorem Acl [U:Unk] {t:TypeId} {s s':ByteArray} (h1:s.data.toList.length<4611686018427387904) (h2:s'.data.toList.length<4611686018427387904):(binOp .add t (.string s) (.string s')).run E.P w=.ok (.string (s++s')) w:=by
 have hsz:s.size=s.data.toList.length:=by simp
 have hsz':s'.size=s'.data.toList.length:=by simp
 have hmax:¬(((s.size+s'.size:Nat):Int)>IntKind.i64.max):=by
  simp only [IntKind.max,IntKind.signed,IntKind.bits];omega
 simp only [binOp,Op.stringOp];rw [if_neg hmax];rfl
theorem ld {c:BinOp} {t:TypeId} {ox f:Operand} {x y r:AV} {d e:Value} (g:VR ρ x d) (i:VR ρ y e) (hr:Aai c x y=some r) :
  ∃v,(do eqGuard c t ox f d e;binOp c t d e:Sem Value).run E.P w=.ok v w∧VR ρ r v:=by
 unfold Aai at hr;split at hr
 ·split at hr
  ·rename_i a b j k;split at hr
   ·rename_i m;cases hr;obtain ⟨n,o⟩:=Aq m;rw [G5 g j,G5 i k];have p:(eqGuard .add t ox f (.string (AU U.V a)) (.string (AU U.V b))).run E.P w=.ok () w:=BU (by simp) (fun h _=>by obtain ⟨q,h⟩:=h;cases h)
    refine ⟨.string (AU U.V a++AU U.V b),?_,.ss (.strCat a b)⟩;simp only [Sem.run_bind,p,Result.andThen_ok];exact Acl (Q9 n) (Q9 o)
   ·cases hr
  ·cases hr
 ·cases hr
theorem lq {L:SE} {n k:Nat} (h:xJ L n=some k) (h0:0≤Af U.V L):k=min (Af U.V L).toNat n:=by
 unfold xJ at h;split at h
 ·rename_i a;cases h;have:=Ar U.ok a;rw [At,decide_eq_false_iff_not] at this;have z:Af U.V (.c (n:Int))=n:=rfl;rw [z] at this;omega
 ·rename_i a;have:=Ar U.ok a;rw [At,decide_eq_true_eq] at this;have z:Af U.V (.c (n:Int))=n:=rfl;rw [z] at this;split at h
  ·rename_i l i j;split at h
   ·rename_i m;cases h;obtain ⟨d,e⟩:=Aq m;have d:l=i:=by simpa using d
    have e:0≤l:=by simpa using e
    subst d;obtain ⟨f,g⟩:=Gb U.ok L;rw [j] at f g;have o:=f l rfl;have p:=g l rfl;omega
   ·cases h
  ·cases h
 ·cases h
theorem EX {y:SE} {kd:Kd}:∀(n i:Nat),(Fx y kd i n).length=n
 |0,_=>rfl
 |n+1,i=>by simp [Fx,EX n]
theorem O7 {y:SE} {kd:Kd}:∀(n i q:Nat),q<n→(Fx y kd i n)[q]?=some (KW y (.c (i+q:Nat)) 0 kd)
 |0,_,q,h=>absurd h (Nat.not_lt_zero q)
 |n+1,i,0,h=>rfl
 |n+1,i,q+1,h=>by
  simp only [Fx,List.getElem?_cons_succ];rw [O7 n (i+1) q (by omega),show i+1+q=i+(q+1) by omega]
theorem Tl {kd:Kd} {y:SE} {c:Array Value} {o k:Nat} (hr:Bk U.K ρ.imm [kd] c o (Ac U.V y).rows) (i:k≤(Ac U.V y).rows.length):VL ρ (Fx y kd 0 k) ((c.toList.drop o).take k):=by
 have h1:=hr.1;simp only [List.length_singleton,Nat.mul_one] at h1;refine ⟨by rw [EX];simp;omega,fun q a v d f=>?_⟩
 have g:q<k:=by have:=(List.getElem?_eq_some_iff.1 d).1;rwa [EX] at this
 rw [O7 k 0 q g,Nat.zero_add] at d;cases d;have e:=hr.2.2 q 0 kd (by omega) rfl
 rw [List.getElem?_take,if_pos g,List.getElem?_drop,Array.getElem?_toList] at f;simp only [List.length_singleton,Nat.mul_one,Nat.add_zero] at e;rw [Array.getD_eq_getD_getElem?,f] at e;exact KB e
include hE
theorem ft (hr:HR ρ h.blk.get w) {t t' ty:TypeId} {d x a:AV} {dv S:Value} {h':Aa} (G:VR ρ d dv) (W:VR ρ x S) (m:ii E t d x h=some (a,h')) (z:Array TypeId) (A:z[0]?=some t) :
  AR E ρ h h' w (Builtin.copy_ z ty #[dv,S]) a:=by
 unfold ii at m;split at m
 ·rename_i r hq;cases m;exact gD hE hr (t':=t) G W hq z A
 ·split at m
  ·rename_i e hd;split at m
   ·rename_i kd b off n es y v hsz q _;split at m
    ·rename_i k B H;split at m
     ·rename_i h2 g;cases m;have B:=Aw B;subst B
      have I:U.K e=some [kd]:=by
       rw [hE.kd,←hE.ke];revert v;cases E.kinds e with
       |none=>intro v;cases v
       |some l=>cases l with
        |nil=>intro v;cases v
        |cons p l=>cases l with
         |nil=>intro v;cases v;rfl
         |cons _ _=>intro v;cases v
      have f:=lq H (by rw [Al];exact Int.natCast_nonneg _)
      rw [Al,Int.toNat_natCast] at f
      obtain ⟨X,s1,s2,s3⟩:∃X:List Value,VL ρ (Fx y kd 0 k) X∧(Builtin.lenOf S).run E.P w=.ok (Ac U.V y).rows.length w∧(Builtin.firstCells 1 k S).run E.P w=.ok X.toArray w:=by
       unfold WI at q;split at q
       ·rename_i e' y';split at q
        ·rename_i Y;cases q;have Y:=Aw Y;subst Y;cases W with
         |dat _ _ ad n' J L=>
          cases L with
          |nil _ _ g1 M=>
           rw [M] at f;have:k=0:=by simpa using f
           subst this;exact ⟨[],VL.nil ρ,by rw [M];simp [Builtin.lenOf],by simp [Builtin.firstCells]⟩
          |empty _ a1 _ _ g1 M=>
           rw [M] at f;have:k=0:=by simpa using f
           subst this;exact ⟨[],VL.nil ρ,by rw [M];simp [Builtin.lenOf],by simp [Builtin.firstCells,Go.loadCells,loadCellsFrom]⟩
          |slc _ T o _ _ _ ks arr N Z hn ag g1 O Q hv=>
           rw [I] at N;cases N;obtain ⟨e1,fz,R⟩:=hr.imm T arr Z;have C:Bk U.K ρ.imm [kd] arr o (Ac U.V y).rows:=⟨by rw [hn];exact O,fun i hi=>Q i (by omega),fun i j aa hi hj=>hv i j aa (by omega) hj⟩
           have u:k≤(Ac U.V y).rows.length:=by rw [f];exact Nat.min_le_left _ _
           refine ⟨_,Tl C u,by rw [hn];simp [Builtin.lenOf],?_⟩
           simp only [Builtin.firstCells,Nat.mul_one];simp only [List.length_singleton,Nat.mul_one] at O;exact AK E.P w T o k arr e1 fz R (by omega)
        ·cases q
       ·rename_i T ah n' nl _;split at q
        ·rename_i e' y' R;split at q
         ·rename_i hc;cases q;obtain ⟨ab,c3⟩:=Aq hc;obtain ⟨c1,c2⟩:=Aq ab;have c1:=Aw c1;have c2:=Aw c2;subst c1;subst c2;have D:=Fu c3;rw [Al] at D;have u:k≤(Ac U.V y).rows.length:=by rw [f];exact Nat.min_le_left _ _
          cases W with
          |asl _ _ _ _ J base F q0 qc qz qn=>
           obtain ⟨ai,ac,et,fz,b1,b2,b3,b4,b5⟩:=hr.blk T base _ F R;rw [I] at b1;cases b1;refine ⟨_,Tl b5 u,by rw [D];simp [Builtin.lenOf],?_⟩
           simp only [Builtin.firstCells,Nat.mul_one];have:=b5.1;simp only [List.length_singleton,Nat.mul_one] at this;exact AK E.P w base.cb base.co k ac et fz b2 (by omega)
          |aslEnd _ _ _ _ ad q0 qn=>
           have hz:(Ac U.V y).rows.length=0:=by rw [q0] at D;omega
           have:k=0:=by omega
           subst this;refine ⟨[],VL.nil ρ,by rw [hz];simp [Builtin.lenOf],?_⟩
           cases ad with
           |none=>simp [Builtin.firstCells]
           |some ad=>simp [Builtin.firstCells,Go.loadCells,loadCellsFrom]
         ·cases q
        ·cases q
       ·cases q
      cases G with
      |slice _ _ _ _ J base R af hz=>
       obtain ⟨w',q1,q2,q3⟩:=hr.storeN E.P R s1 g;refine ⟨ρ,goInt (k:Nat),w',?_,.int _ _,q2,q3⟩;unfold Builtin.copy_;have hm:Nat.min (Ac U.V y).rows.length n=k:=f.symm;simp only [A,List.getElem?_toArray,List.getElem?_cons_zero,List.getElem?_cons_succ,Sem.run_bind,hE.run_und hd,Result.andThen_ok,s2,hE.run_szIs hsz,hm,s3,q1];simp
      |sliceEnd _ _ _ ad=>
       have ae:k=0:=by rw [f];simp
       subst ae;have:=s1.nil_inv;subst this;have hm:Nat.min (Ac U.V y).rows.length 0=0:=Nat.min_zero _
       obtain ⟨q2,q3⟩:HR ρ h'.blk.get w∧Ext ρ ρ h h' w w:=by
        unfold storeN at g;simp only [Fx] at g;split at g
        ·rename_i sz c hg;split at g
         ·cases g;refine hr.swap (by rw [hg];exact Option.some_ne_none _) _ (fun base F=>?_)
          exact hr.blk b base _ F hg
         ·cases g
        ·cases g
       refine ⟨ρ,goInt (0:Nat),w,?_,.int _ _,q2,q3⟩;unfold Builtin.copy_;simp only [A,List.getElem?_toArray,List.getElem?_cons_zero,List.getElem?_cons_succ,Sem.run_bind,hE.run_und hd,Result.andThen_ok,s2,hE.run_szIs hsz,hm,s3];simp [storeCells]
     ·cases m
    ·cases m
   ·cases m
  ·cases m
end
end Go.AE
namespace Go.AE
variable [Gl:AH]
variable [U:Unk]
section
variable {E:Env} (hE:OK E) {ρ:Ren} {h:Aa} {w:World}
theorem WA {s:Sem Unit} {c:String} {o:Option Aa} (d:∀h',o=some h'→∃a b,s.run E.P w=.ok () b∧HR a h'.blk.get b∧Ext ρ a h h' w b) :
  ED E ρ h w (do s;pure .skip) (Eh c o):=by
 cases o with
 |none=>trivial
 |some h'=>
  intro i;obtain ⟨a,b,e,f,g⟩:=d h' rfl;exact ⟨a,Go.undef,b,.inr ⟨by simp [e],rfl⟩,VR.undef a,f,g⟩
theorem NH {s:Sem Value} {b:String} {o:Option Aa} (c:∀h',o=some h'→∃a,s.run E.P w=.ok (.tuple #[]) a∧HR ρ h'.blk.get a∧Ext ρ ρ h h' w a) :
  ED E ρ h w (do pure (.value (←s))) (Eh b o):=by
 cases o with
 |none=>trivial
 |some h'=>
  intro g;obtain ⟨a,d,e,f⟩:=c h' rfl;exact ⟨ρ,Go.undef,a,.inl (by simp [d,Go.undef]),VR.undef ρ,e,f⟩
theorem mu {c:Array TypeId} {ty:TypeId} {args:List AV} {b:List Value} {a:AV} (e:VL ρ args b) (d:Asi args=some a):∃v,(Builtin.max_ c ty b.toArray).run E.P w=.ok v w∧VR ρ a v:=by
 cases args with
 |nil=>cases d
 |cons x r=>
  obtain ⟨v,k,rfl,f,g⟩:=e.cons_inv;cases f<;>first | (cases d;done)|skip
  obtain ⟨u,i,j⟩:=X6 E.P w _ g d;exact ⟨u,by simpa [Builtin.max_] using i,j⟩
theorem ma {c:Array TypeId} {ty:TypeId} {args:List AV} {b:List Value} {a:AV} (e:VL ρ args b) (d:Aio args=some a):∃v,(Builtin.min_ c ty b.toArray).run E.P w=.ok v w∧VR ρ a v:=by
 cases args with
 |nil=>cases d
 |cons x r=>
  obtain ⟨v,k,rfl,f,g⟩:=e.cons_inv;cases f<;>first | (cases d;done)|skip
  obtain ⟨u,i,j⟩:=XT E.P w _ g d;exact ⟨u,by simpa [Builtin.min_] using i,j⟩
include hE
theorem cr (hr:HR ρ h.blk.get w) {t ty:TypeId} {x:AV} {G:Value} {h':Aa} (L:VR ρ x G) (a:Xv E t x h=some h') (o:Array TypeId) (f:o[0]?=some t) :
  ∃p,(Builtin.clear_ o ty #[G]).run E.P w=.ok (.tuple #[]) p∧HR ρ h'.blk.get p∧Ext ρ ρ h h' w p:=by
 unfold Xv at a;cases s:E.desc t with
 |none=>rw [s] at a;cases a
 |some d=>
  rw [s] at a;have k:=hE.run_und s w;simp only [] at a;cases L<;>first | (cases a;done)|skip
  ·simp only [Option.some.injEq] at a;subst a;exact ⟨w,by cases d<;>simp [Builtin.clear_,f,k],hr,Ext.refl ρ h w⟩
  ·rename_i b off n u M base l H Y;cases n with
   |zero=>
    simp only [Option.some.injEq] at a;subst a;exact ⟨w,by cases d<;>simp [Builtin.clear_,f,k],hr,Ext.refl ρ h w⟩
   |succ n=>
    cases d<;>first | (cases a;done)|skip
    rename_i e;simp only [] at a;cases i:E.zero e with
    |none=>rw [i] at a;cases a
    |some z=>
     rw [i] at a;simp only [] at a;cases j:Nat.beq z.cells.length u with
     |false=>rw [j] at a;cases a
     |true=>
      rw [j] at a;simp only [] at a;have I:=Aw j;obtain ⟨q,N,J⟩:=hE.run_zero ρ i w;have K:=(AN ρ J).cells (Bo J);have O:=Ev K (n+1) q.cells (.inr rfl);obtain ⟨p,Q,R,S⟩:=hr.storeN E.P l O a;refine ⟨p,?_,R,S⟩;have v:q.cells.size=z.cells.length:=by have:=K.1;simp at this;omega
      have T:(Builtin.zeroCells q.cells (n+1)).toList=((Array.range ((n+1)*z.cells.length)).map (q.cells[· % q.cells.size]!)).toList:=by
       rw [Builtin.zeroCells,v]
      simp only [Builtin.clear_,f,List.getElem?_toArray,List.getElem?_cons_zero,Sem.run_bind,k,Result.andThen_ok,N,T,Q,Sem.run_pure]
  ·rename_i b off u ad;simp only [Option.some.injEq] at a;subst a;exact ⟨w,by cases d<;>simp [Builtin.clear_,f,k],hr,Ext.refl ρ h w⟩
  ·rename_i b base l;simp only [] at a;cases m:h.blk.get b with
   |none=>rw [m] at a;cases a
   |some y=>
    rw [m] at a;cases y<;>first | (cases a;done)|skip
    ·rename_i u c;simp only [Option.some.injEq] at a;subst a;obtain ⟨A,r,V⟩:=hr.blk b base _ l m;have g:=As (w:=w) E.P r (by simp)
     obtain ⟨B,C⟩:=hr.setObj l (by rw [m];simp) (.map [] c) (.map #[] c) ⟨[],rfl,trivial⟩
     refine ⟨_,?_,B,C⟩;cases d<;>simp [Builtin.clear_,f,k,g,Az (w:=w) E.P r (by simp)]
    ·rename_i W X x;simp only [Option.some.injEq] at a;subst a;obtain ⟨D,F,A,c,k1,k2,r,V,Z⟩:=hr.blk b base _ l m;have g:=As (w:=w) E.P r (by simp)
     obtain ⟨B,C⟩:=hr.setObj l (by rw [m];simp) (.dmap W X .emptyL) (.map #[] c) ⟨D,F,[],c,k1,k2,rfl,trivial,Inc.nil c⟩
     refine ⟨_,?_,B,C⟩;cases d<;>simp [Builtin.clear_,f,k,g,Az (w:=w) E.P r (by simp)]
theorem TC (hr:HR ρ h.blk.get w) {b:Builtin} {ats:Array TypeId} {ty:TypeId} {consts:Array Bool} {args:List AV} {j:List Value} (n:VL ρ args j) :
  ED E ρ h w (builtin b ats ty consts j.toArray) (Ft E b ats.toList args h):=by
 unfold Ft;split
 ·rename_i t ts x B e;obtain ⟨v,r,rfl,g,o⟩:=n.cons_inv;have f:ats[0]?=some t:=by rw [←Array.getElem?_toList,e];rfl
  exact Bc hr fun a c=>lR hE hr g c ats f _ (by simp)
 ·rename_i t t' s x e;obtain ⟨v,r,rfl,g,o⟩:=n.cons_inv;obtain ⟨z,A,rfl,i,l⟩:=o.cons_inv;have:=l.nil_inv;subst this;have p:ats = #[t,t']:=by cases ats;simp_all
  subst p;exact BA fun a h' c q=>RP hE hr g i c q (fun a h' c q=>Om hE hr g i c q)
 ·rename_i t ts d x e;obtain ⟨v,r,rfl,g,o⟩:=n.cons_inv;obtain ⟨z,A,rfl,i,l⟩:=o.cons_inv;have:=l.nil_inv;subst this;have f:ats[0]?=some t:=by rw [←Array.getElem?_toList,e];rfl
  exact BA fun a h' c q=>ft hE hr (t':=t) g i c ats f
 ·rename_i t ts m k e;obtain ⟨v,r,rfl,g,o⟩:=n.cons_inv;obtain ⟨z,A,rfl,i,l⟩:=o.cons_inv;have:=l.nil_inv;subst this;have f:ats[0]?=some t:=by rw [←Array.getElem?_toList,e];rfl
  exact NH fun h' c=>WN hE hr g i c ats f
 ·exact Bc hr fun a c=>by
   unfold orA at c;split at c
   ·rename_i u;cases c;exact mu n u
   ·exact dW n c
 ·exact Bc hr fun a c=>by
   unfold orA at c;split at c
   ·rename_i u;cases c;exact ma n u
   ·exact fU n c
 ·exact ⟨rfl,by simp [builtin]⟩
 ·obtain ⟨v,r,rfl,g,o⟩:=n.cons_inv;have:=o.nil_inv;subst this;have y:=g;cases g;exact ⟨rfl,_,y,by simp [builtin,Instr.panic]⟩
 ·rename_i t x e;obtain ⟨v,r,rfl,g,o⟩:=n.cons_inv;have:=o.nil_inv;subst this;have f:ats[0]?=some t:=by rw [←Array.getElem?_toList,e];rfl
  exact NH fun h' c=>cr hE hr g c ats f
 ·trivial
theorem aw (hr:HR ρ h.blk.get w) {tmps:T AV} {g:Operand→Value} (j:EvR ρ tmps g) (c:Call) (ty:TypeId) :
  ED E ρ h w (do let d ←resolve g c ty;invoke d.target d.args) (Dj E tmps c h):=by
 have a:=j.list c.args.toList;have i:(c.args.map g)=(c.args.toList.map g).toArray:=by apply Array.ext';simp
 unfold Dj;cases o:c.callee with
 |builtin b=>
  have e:∃cs,(do let d ←resolve g c ty;invoke d.target d.args)=builtin b c.argTypes ty cs (c.args.toList.map g).toArray:=
   ⟨_,by simp only [resolve,o,pure_bind,invoke,i];rfl⟩
  obtain ⟨cs,e⟩:=e;rw [e];exact TC (w:=w) hE hr (b:=b) (ats:=c.argTypes) (ty:=ty) (consts:=cs) a
 |invoke r name=>
  have:=D9 (w:=w) hE hr (fn:=.method name) (fn':=.method name) (captured:=[]) (captured':=[]) rfl (VL.nil ρ) (VL.cons (j r) a)
  have e:(do let d ←resolve g c ty;invoke d.target d.args)=invoke (.fn (.method name) #[]) (g r::c.args.toList.map g).toArray:=by
   simp only [resolve,o,pure_bind,i]
   congr 1
   simp
  rw [e];exact this
 |value f=>
  simp only [];have m:=j f;cases s:Ag tmps f with
  |func fn first captured=>
   rw [s] at m;cases k:g f with
   |func fn' n captured'=>
    rw [k] at m;cases m with
    |func _ _ _ _ p q t u v x y=>
     have:=D9 (w:=w) hE hr t (captured:=captured) (captured':=q) ⟨x,y⟩ (VL.append (l:=first) (l':=p) ⟨u,v⟩ a)
     have e:(do let d ←resolve g c ty;invoke d.target d.args)=invoke (.fn fn' q.toArray) (p++c.args.toList.map g).toArray:=by
      simp only [resolve,o,k,Deferred.ofValue,pure_bind,i]
      congr 1
      simp
     rw [e];exact this
   |_=>rw [k] at m;cases m
  |_=>trivial
omit hE in
theorem Wz {tmps:T AV} {ev:Operand→Value} (hev:EvR ρ tmps ev) (c:Call) (ty:TypeId) :
  ED E ρ h w (do pure (.defer (←resolve ev c ty))) (GR tmps c h):=by
 have hargs:=hev.list c.args.toList;have hmap:(c.args.map ev)=(c.args.toList.map ev).toArray:=by apply Array.ext';simp
 unfold GR;cases hc:c.callee with
 |value f=>
  simp only [];have hf:=hev f;cases hv:Ag tmps f with
  |func fn first captured=>
   rw [hv] at hf;cases hvf:ev f with
   |func fn' first' captured'=>
    rw [hvf] at hf;cases hf with
    |func _ _ _ _ f' c' q1 q2 q3 q4 q5=>
     refine ⟨rfl,{target:=.fn fn' c'.toArray,args:=(f'++c.args.toList.map ev).toArray},?_,?_⟩
     ·exact ⟨fn',c',f'++c.args.toList.map ev,q1,⟨q4,q5⟩,VL.append (l:=first) (l':=f') ⟨q2,q3⟩ hargs,rfl⟩
     ·simp [resolve,hc,hvf,Deferred.ofValue,hmap]
   |_=>rw [hvf] at hf;cases hf
  |_=>trivial
 |_=>trivial
end
end Go.AE
namespace Go.AE
variable [Gl:AH]
variable [U:Unk]
section
variable {E:Env} (hE:OK E) {ρ:Ren} {h:Aa} {w:World}
include hE
omit hE in
theorem BW (hr:HR ρ h.blk.get w) {s:Sem Next} {a:AV} {v:Value} (hs:s.run E.P w=.ok (.value v) w) (hv:VR ρ a v):ED E ρ h w s (.val a h):=
 fun _=>⟨ρ,v,w,.inl hs,hv,hr,Ext.refl ρ h w⟩
omit hE in
theorem Ie {tmps:T AV} {ev:Operand→Value} (hev:EvR ρ tmps ev) (o:Option Operand):(∀a,A5 tmps o=some a→∃v,o.map ev=some v∧VR ρ a v)∧(A5 tmps o=none→o.map ev=none):=by
 cases o with
 |none=>exact ⟨(fun a h=>by cases h),fun _=>rfl⟩
 |some x=>exact ⟨fun a h=>by simp only [A5,Option.some.injEq] at h;subst h;exact ⟨ev x,rfl,hev x⟩,(fun h=>by cases h)⟩
theorem Arg {t:TypeId} {b:Array (String×TypeId)} (c:E.desc t=some (.interface b)) (d:Nat):(Op.equalIn (d+1) t .nilIface .nilIface).run E.P w=.ok true w:=by
 simp [Op.equalIn,hE.run_und c]
theorem KL (hr:HR ρ h.blk.get w) {tmps:T AV} {ev:Operand→Value} (hev:EvR ρ tmps ev) (o:Oper):ED E ρ h w (execOp ev o) (aop E tmps h o.op):=by
 unfold execOp aop;cases ae:o.op with
 |move x=>exact BW hr (by simp) (hev x)
 |assign x=>exact BW hr (by simp) (hev x)
 |pick c a b=>
  simp only [];have u:=hev c;cases hv:Ag tmps c with
  |bool t=>
   rw [hv] at u;cases B:ev c with
   |bool t'=>
    rw [B] at u;cases u;cases t with
    |true=>exact BW hr (by simp [asBool]) (hev a)
    |false=>exact BW hr (by simp [asBool]) (hev b)
   |_=>rw [B] at u;cases u
  |sb pos e=>
   rw [hv] at u;simp only [];split
   ·rename_i q g;have F:=Ar U.ok g;cases B:ev c with
    |bool t'=>
     rw [B] at u;cases u;rw [F];split
     ·rename_i H;rw [H];exact BW hr (by simp [asBool]) (hev a)
     ·rename_i H;rw [H];exact BW hr (by simp [asBool]) (hev b)
    |_=>rw [B] at u;cases u
   ·trivial
  |_=>trivial
 |alloc t=>
  simp only [];cases hz:E.zero t with
  |none=>trivial
  |some z=>
   intro p;obtain ⟨W,v,X,A,G,I,J⟩:=dy hE hr (p h.nx (Nat.le_refl _) (by simp [Bi,Aa.new])) hz
   exact ⟨W,v,X,.inl (by simp [A]),G,I,J⟩
 |box t x=>
  simp only [];cases ht:(Ag tmps x).isTop with
  |true=>trivial
  |false=>
   intro p;obtain ⟨W,v,X,A,G,I,J⟩:=xL (E:=E) (t:=t) hr (p h.nx (Nat.le_refl _) (by simp [Bi,Aa.new])) (hev x) (by rintro e;rw [e] at ht;cases ht)
   exact ⟨W,v,X,.inl (by simp [A]),G,I,J⟩
 |build t K=>
  have H:=hev.parts K.toList;have C:(K.map fun (i,x)=>(i,ev x))=(K.toList.map fun (i,x)=>(i,ev x)).toArray:=by apply Array.ext';simp
  simp only [C];exact Bc hr fun a g=>bw hE H g
 |buildSlice t len K=>
  have H:=hev.parts K.toList;have C:(K.map fun (i,x)=>(i,ev x))=(K.toList.map fun (i,x)=>(i,ev x)).toArray:=by apply Array.ext';simp
  simp only [C];exact BA fun a h' g p=>Np hE hr H g p
 |load t a=>exact Bc hr fun x g=>d7 hE hr (hev a) g
 |store t a x=>exact WA fun h' g=>UN hE hr (hev a) (hev x) g
 |nilCheck x=>
  simp only [];have n:=hev x;cases hv:Ag tmps x<;>try trivial
  all_goals (rw [hv] at n)
  ·cases j:ev x<;>rw [j] at n<;>cases n
   exact BW hr rfl (.ptr _ _ _ (by assumption))
  ·rename_i fn f c;cases fn<;>try trivial
   ·cases j:ev x with
    |func Y Z c'=>
     rw [j] at n;cases n with
     |func _ _ _ _ Z c' A G I J q5=>
      have L:=A;simp only [FnR] at A;subst A;exact BW hr rfl (.func _ _ _ _ _ _ L G I J q5)
    |_=>rw [j] at n;cases n
   ·cases j:ev x with
    |func Y Z c'=>
     rw [j] at n;cases n with
     |func _ _ _ _ Z c' A G I J q5=>
      have L:=A;obtain ⟨base,hb,rfl⟩:=A;exact BW hr rfl (.func _ _ _ _ _ _ L G I J q5)
    |_=>rw [j] at n;cases n
  ·cases j:ev x<;>rw [j] at n<;>cases n
   exact BW hr rfl (.iface _ _ _ (by assumption))
 |binOp N t x y ty=>
  refine Bc hr fun a g=>?_
  unfold Aaw at g;cases O:((Ag tmps x).isSym||(Ag tmps y).isSym) with
  |true=>
   rw [O] at g;simp only [] at g;split at g
   ·rename_i r D;cases g;exact zG hE (hev x) (hev y) D
   ·split at g
    ·rename_i r D;cases g;exact ld (hev x) (hev y) D
    ·exact kH (hev x) (hev y) g
  |false=>
  rw [O] at g;simp only [] at g;cases hn:((Ag tmps x).isNil&&(Ag tmps y).isNil) with
  |false=>
   rw [hn] at g;simp only [] at g;split at g
   ·rename_i r D;cases g;exact Z4 hE (hev x) (hev y) D
   ·exact ei hE (hev x) (hev y) g
  |true=>
   rw [hn] at g;simp only [] at g;obtain ⟨n1,n2⟩:=Aq hn
   have e1:Ag tmps x=.nilIface:=by
    generalize Ag tmps x=a at n1;cases a<;>first|rfl|cases n1
   have e2:Ag tmps y=.nilIface:=by
    generalize Ag tmps y=a at n2;cases a<;>first|rfl|cases n2
   have v1:=hev x;have v2:=hev y;rw [e1] at v1;rw [e2] at v2;generalize n:ev x=xv at v1;generalize hy:ev y=yv at v2;cases v1;cases v2;cases u:(Region.isConst x||Region.isConst y) with
   |false=>rw [u] at g;cases g
   |true=>
    rw [u] at g;cases F:E.desc t with
    |none=>rw [F] at g;cases g
    |some d=>
     rw [F] at g;cases d<;>first | (cases g;done)|skip
     have hu:=hE.run_und F w
     have hg:(eqGuard N t x y .nilIface .nilIface).run E.P w=.ok () w:=by
      unfold eqGuard;rcases orF u with q|q
      ·cases x<;>simp only [Region.isConst,Bool.false_eq_true] at q
       cases N<;>simp
      ·cases y<;>simp only [Region.isConst,Bool.false_eq_true] at q
       cases N<;>cases x<;>simp
     have Q:(Op.equal t .nilIface .nilIface).run E.P w=.ok true w:=Arg hE F 9999;have aa:binOp .eql t .nilIface .nilIface=(do pure (.bool (←Op.equal t .nilIface .nilIface))):=rfl
     have ab:binOp .neq t .nilIface .nilIface=(do pure (.bool (!(←Op.equal t .nilIface .nilIface)))):=rfl
     cases N<;>first | (cases g;done)|skip
     ·simp only [Option.some.injEq] at g;subst g;exact ⟨.bool true,by rw [aa];simp only [Sem.run_bind,hg,Result.andThen_ok,Q,Sem.run_pure],.bool _⟩
     ·simp only [Option.some.injEq] at g;subst g;exact ⟨.bool false,by rw [ab];simp only [Sem.run_bind,hg,Result.andThen_ok,Q,Sem.run_pure,Bool.not_true],.bool _⟩
 |unOp N t x=>exact Bc hr fun a g=>z8 (hev x) g
 |convert s d x=>exact BA fun a h' g p=>jS hE hr (hev x) g p
 |makeInterface t x=>
  simp only [];cases F:E.desc t with
  |none=>trivial
  |some d=>
   cases d<;>first|trivial|exact BW hr (by simp [Instr.makeInterface,hE.run_und F]) (.iface t _ _ (hev x))
 |makeFunc fn first captured=>
  have S:=hev.list first.toList;have V:=hev.list captured.toList;have e1:first.map ev=(first.toList.map ev).toArray:=by apply Array.ext';simp
  have e2:captured.map ev=(captured.toList.map ev).toArray:=by apply Array.ext';simp
  cases fn with
  |yield l=>trivial
  |_=>exact BW hr (by simp only [Instr.makeFunc,Sem.run_bind,Sem.run_pure,Result.andThen_ok,e1,e2]) (.func _ _ _ _ _ _ rfl S.1 S.2 V.1 V.2)
 |makeMap t r=>
  have mk:∀{s:Sem Next},s.run E.P w=.ok (.value (.map (some w.heap.size))) {w with heap:=w.heap.push (.map #[] 0)}→ED E ρ h w s (.val (.map h.nx) (h.new (.map [] 0))):=by
   intro s hs p;have M:ρ h.nx=none:=p h.nx (Nat.le_refl _) (by simp [Aa.new])
   obtain ⟨p1,p2⟩:=hr.new M (.map [] 0) (.map #[] 0) 0 ⟨[],rfl,trivial⟩ {w with heap:=w.heap.push (.map #[] 0)} rfl rfl rfl rfl
   exact ⟨_,_,_,.inl hs,.map h.nx _ (Ren.upd_same _ _ _),p1,p2⟩
  cases r with
  |none=>exact mk (by simp [Instr.makeMap])
  |some r=>
   simp only [];have n:=hev r;cases F:E.desc t with
   |none=>trivial
   |some d=>
    cases d<;>try trivial
    cases hv:Ag tmps r<;>try trivial
    rw [hv] at n;cases j:ev r<;>rw [j] at n<;>cases n
    exact mk (by simp [Instr.makeMap,j,hE.run_und F,asInt,asIntOf])
 |makeSlice t l c=>exact BA fun a h' g p=>Pq hE hr (hev l) (hev c) g p
 |slice t x lo hi R=>
  refine BA fun a h' g p=>?_
  obtain ⟨a1,a2⟩:=Ie hev lo;obtain ⟨b1,b2⟩:=Ie hev hi;obtain ⟨c1,c2⟩:=Ie hev R
  have ac:A5 tmps R≠none→A5 tmps hi≠none:=by
   cases R with
   |none=>intro q;exact absurd rfl q
   |some m=>cases hi with
    |none=>cases g
    |some i=>intro _ q;cases q
  have ad:sliceB E t (Ag tmps x) (A5 tmps lo) (A5 tmps hi) (A5 tmps R) h=some (a,h'):=by
   cases R<;>cases hi<;>first|exact g|cases g
  exact cp hE hr (hev x) a1 a2 b1 b2 c1 c2 ac ad
 |fieldAddr t x f=>exact Bc hr fun a g=>PG hE (hev x) g
 |field t x f=>exact Bc hr fun a g=>cy hE (hev x) g
 |indexAddr t x i=>exact Bc hr fun a g=>Px hE (hev x) (hev i) g
 |index t x i=>exact Bc hr fun a g=>aB hE (hev x) (hev i) g
 |lookup t m k ok=>exact Bc hr fun a g=>Xy hE hr (hev m) (hev k) g
 |mapUpdate t m k v=>exact KS fun h' g=>WM hE hr (hev m) (hev k) (hev v) g
 |insert t m k v=>exact KS fun h' g=>Il hE hr (hev m) (hev k) (hev v) g
 |mapEntry t m k=>exact BA fun a h' g p=>aO hE hr (hev m) (hev k) g p
 |entryStore t m s v=>exact KS fun h' g=>Ok hE hr (hev m) (hev s) (hev v) g
 |range t x=>exact BA fun a h' g p=>cB hE hr (hev x) g p
 |next it af=>exact BA fun a h' g p=>Ng hr (hev it) g
 |entry it=>exact Bc hr fun a g=>PM hr (hev it) g
 |typeAssert x xt t ok=>exact Bc hr fun a g=>Yl hE (hev x) g
 |extract t i=>
  simp only [];have n:=hev t;cases hv:Ag tmps t<;>try trivial
  rw [hv] at n;cases j:ev t<;>rw [j] at n<;>cases n
  rename_i l l' S V;refine Bc hr fun a g=>?_
  obtain ⟨v,A,G⟩:=VL.get (l:=l) (l':=l') ⟨S,V⟩ g;exact ⟨v,by simp [Instr.extract,A],G⟩
 |call c=>exact aw hE hr hev c o.type
 |defer c=>exact Wz hev c o.type
 |panic x=>
  simp only [];have n:=hev x;cases hv:Ag tmps x<;>try trivial
  rw [hv] at n;cases j:ev x<;>rw [j] at n<;>cases n
  exact ⟨rfl,_,.iface _ _ _ (by assumption),by simp [Instr.panic]⟩
 |_=>trivial
end
end Go.AE
namespace Go.AE
variable [Gl:AH]
variable [U:Unk]
section
variable {P:Program} {fr:Frame} {k:List Item} {cs:List Frame} {w:World}
theorem Ade {a b:Code} (c:fr.mode=.run) (d:fr.todo=.code (.seq a b)::k):step P (lone fr cs w)=.next (lone {fr with todo:=.code a::.code b::k} cs w):=
 step_lone_go (by cases fr;simp only at c d;subst c;subst d;simp [stepG,stepG.exec])
theorem kj (a:fr.mode=.run) (b:fr.todo=.code .skip::k):step P (lone fr cs w)=.next (lone {fr with todo:=k} cs w):=
 step_lone_go (by cases fr;simp only at a b;subst a;subst b;simp [stepG,stepG.exec])
theorem dp {l:Nat} (a:fr.mode=.run) (b:fr.todo=.code (.label l)::k):step P (lone fr cs w)=.next (lone {fr with todo:=k} cs w):=
 step_lone_go (by cases fr;simp only at a b;subst a;subst b;simp [stepG,stepG.exec])
theorem Yh {l:Nat} (a:fr.mode=.run) (b:fr.todo=.inBlock l::k):step P (lone fr cs w)=.next (lone {fr with todo:=k} cs w):=
 step_lone_go (by cases fr;simp only at a b;subst a;subst b;simp [stepG,stepG.exec])
theorem XP {l:Code} (a:fr.mode=.run) (b:fr.todo=.inScope l::k):step P (lone fr cs w)=.next (lone {fr with todo:=k} cs w):=
 step_lone_go (by cases fr;simp only at a b;subst a;subst b;simp [stepG,stepG.exec])
theorem MF {c:Operand} {x y:Code} {b:Bool} (a:fr.mode=.run) (d:fr.todo=.code (.cond c x y)::k) (e:fr.eval c=.bool b):step P (lone fr cs w)=.next (lone {fr with todo:=.code (if b then x else y)::k} cs w):=
 step_lone_go (by cases fr;simp only at a d;subst a;subst d;simp [stepG,stepG.exec,e])
theorem io {id:Nat} {c:Code} (a:fr.mode=.run) (b:fr.todo=.code (.block id c)::k):step P (lone fr cs w)=.next (lone {fr with todo:=.code c::.inBlock id::k} cs w):=
 step_lone_go (by cases fr;simp only at a b;subst a;subst b;simp [stepG,stepG.exec])
theorem lO {c:Code} (a:fr.mode=.run) (b:fr.todo=.code (.loop c)::k):step P (lone fr cs w)=.next (lone {fr with todo:=.code c::.inLoop c::k} cs w):=
 step_lone_go (by cases fr;simp only at a b;subst a;subst b;simp [stepG,stepG.exec])
theorem ak {c:Code} (a:fr.mode=.run) (b:fr.todo=.inLoop c::k):step P (lone fr cs w)=.next (lone {fr with todo:=.code c::.inLoop c::k} cs w):=
 step_lone_go (by cases fr;simp only at a b;subst a;subst b;simp [stepG,stepG.exec])
theorem gO {c:Code} (a:fr.mode=.run) (b:fr.todo=.code (.scope c)::k):step P (lone fr cs w)=.next (lone {fr with todo:=.code c::.inScope c::k} cs w):=
 step_lone_go (by cases fr;simp only at a b;subst a;subst b;simp [stepG,stepG.exec])
theorem aN {id:Nat} {ops:Array Oper} (a:fr.mode=.run) (b:fr.todo=.code (.region id ops false)::k):step P (lone fr cs w)=.next (lone {fr with todo:=.inRegion ops (List.range ops.size)::k} cs w):=
 step_lone_go (by cases fr;simp only at a b;subst a;subst b;simp [stepG,stepG.exec])
theorem kU {id:Nat} {ops:Array Oper} (a:fr.mode=.run) (b:fr.todo=.code (.region id ops true)::k) :
  step P (lone fr cs w)=.next (lone {fr with todo:=.inRegion ops (Region.schedule (P.follows .mixedOrders) ops (w.tape w.drawn (.order fr.fn id)))::k} cs {w with drawn:=w.drawn+1}):=
 step_lone_go (by cases fr;simp only at a b;subst a;subst b;simp [stepG,stepG.exec,choose,Sem.run,Question.forced,Question.cut])
theorem JX {ops:Array Oper} (a:fr.mode=.run) (b:fr.todo=.inRegion ops []::k):step P (lone fr cs w)=.next (lone {fr with todo:=k} cs w):=
 step_lone_go (by cases fr;simp only at a b;subst a;subst b;simp [stepG,stepG.exec])
theorem lH {id:Nat} {a:List Item} (b:fr.mode=.run) (c:fr.todo=.code (.exit id)::k) (d:exitTo id k=some a):step P (lone fr cs w)=.next (lone {fr with todo:=a} cs w):=
 step_lone_go (by cases fr;simp only at b c;subst b;subst c;simp [stepG,stepG.exec,d])
theorem lw {l:Nat} {a:List Item} (b:fr.mode=.run) (c:fr.todo=.code (.goto l)::k) (d:gotoIn l k=some a):step P (lone fr cs w)=.next (lone {fr with todo:=a} cs w):=
 step_lone_go (by cases fr;simp only at b c;subst b;subst c;simp [stepG,stepG.exec,d])
theorem Aa3 (b:fr.mode=.run) (a:fr.todo=[]∨∃k,fr.todo=.code .ret::k) (hr:fr.roundOf=none):step P (lone fr cs w)=.next (lone {fr with mode:=.returning} cs w):=by
 rcases a with a|⟨k,a⟩<;>
 exact step_lone_go (by cases fr;simp only at b a hr;subst b;subst a;subst hr;simp [stepG,stepG.exec])
theorem UD {l:Nat} {a:Option Code} {c:Frame} {d:World} {v:Value} (e:fr.mode=.run) (hr:fr.roundOf=some l) (f:fr.kind=.normal)
  (b:(fr.todo=[]∧a=none)∨(∃k,fr.todo=.code .ret::k∧a=some .ret)∨(∃id k,fr.todo=.code (.exit id)::k∧exitTo id k=none∧a=some (.exit id))∨(∃l k,fr.todo=.code (.goto l)::k∧gotoIn l k=none∧a=some (.goto l)))
  (g:(Instr.endRound l a).run P w=.ok v d):step P (lone fr (c::cs) w)=.next (lone (c.finish v) cs d):=by
 rcases b with ⟨b,rfl⟩|⟨k,b,rfl⟩|⟨id,k,b,h,rfl⟩|⟨i,k,b,h,rfl⟩<;>
 exact step_lone_go (by cases fr;simp only at e b hr f;subst e;subst b;subst hr;subst f;simp [stepG,stepG.exec,Sem.runT_eq,doReturn, *])
theorem QY {ops:Array Oper} {i:Nat} {rest:List Nat} {o:Oper} (a:fr.mode=.run) (b:fr.todo=.inRegion ops (i::rest)::k) (d:ops[i]?=some o) (c:Region.wanted o (yielded ops fr.tmps)=false) :
  step P (lone fr cs w)=.next (lone (fr.finish undef) cs w):=
 step_lone_go (by cases fr;simp only at a b;subst a;subst b;simp at c;simp [stepG,stepG.exec,d,c])
theorem Dk {ops:Array Oper} {i:Nat} {rest:List Nat} {o:Oper} (e:fr.mode=.run) (f:fr.todo=.inRegion ops (i::rest)::k) (g:ops[i]?=some o) (b:Region.wanted o (yielded ops fr.tmps)=true)
  (a:fr.roundOf=none∨∀c,o.op≠.defer c) :
  stepG P true {frame:=fr,callers:=cs,status:=.running,dying:=none} w=stepG.apply P true fr cs none (execOp fr.eval o) w:=by
 cases fr;simp only at e f a;subst e;subst f;simp at b;rcases a with a|a
 ·subst a;simp [stepG,stepG.exec,stepG.oper,Frame.oper?,g,b]
 ·simp only [stepG,stepG.exec,g,Option.map_some,b,Option.getD_some,if_true,stepG.oper,Frame.oper?];split
  ·rename_i c d;exact absurd d (a c)
  ·rfl
theorem Yn {ops:Array Oper} {i:Nat} {rest:List Nat} {o:Oper} {b:World} {v:Value} (d:fr.mode=.run) (e:fr.todo=.inRegion ops (i::rest)::k) (f:ops[i]?=some o) (g:Region.wanted o (yielded ops fr.tmps)=true)
  (h:fr.roundOf=none∨∀c,o.op≠.defer c) (a:(execOp fr.eval o).run P w=.ok (.value v) b∨((execOp fr.eval o).run P w=.ok .skip b∧v=undef)) :
  step P (lone fr cs w)=.next (lone (fr.finish v) cs b):=by
 refine step_lone_go ?_;rw [Dk d e f g h];rcases a with a|⟨a,rfl⟩<;>simp [stepG.apply,a]
theorem Oq {ops:Array Oper} {i:Nat} {rest:List Nat} {o:Oper} {f:FuncId} {args:Array Value} {b:World} (e:fr.mode=.run) (d:fr.todo=.inRegion ops (i::rest)::k) (g:ops[i]?=some o) (h:Region.wanted o (yielded ops fr.tmps)=true)
  (j:fr.roundOf=none∨∀c,o.op≠.defer c) (a:(execOp fr.eval o).run P w=.ok (.enter f args) b):step P (lone fr cs w)=.next (lone (Frame.enter P f args .normal) (fr::cs) b):=by
 refine step_lone_go ?_;rw [Dk e d g h j];simp [stepG.apply,a,d]
theorem jF {ops:Array Oper} {i:Nat} {rest:List Nat} {o:Oper} {l:Nat} {f:FuncId} {tmps:Array Value} {assign body:Code} {b:World} (d:fr.mode=.run) (e:fr.todo=.inRegion ops (i::rest)::k) (g:ops[i]?=some o) (h:Region.wanted o (yielded ops fr.tmps)=true)
  (j:fr.roundOf=none∨∀c,o.op≠.defer c) (a:(execOp fr.eval o).run P w=.ok (.round l f tmps assign body) b):step P (lone fr cs w)=.next (lone (Frame.round l f tmps assign body .normal) (fr::cs) b):=by
 refine step_lone_go ?_;rw [Dk d e g h j];simp [stepG.apply,a]
theorem PE {l:Nat} {b:World} (c:fr.mode=.run) (d:fr.todo=.beginRound::k) (hr:fr.roundOf=some l) (a:(Instr.beginRound l).run P w=.ok () b) :
  step P (lone fr cs w)=.next (lone {fr with todo:=k} cs b):=by
 refine step_lone_go ?_;cases fr;simp only at c d hr;subst c;subst d;subst hr;simp [stepG,stepG.exec,stepG.apply,a,Frame.finish]
theorem XA {l:Nat} {c:World} {a:Option Code} (d:fr.mode=.run) (e:fr.todo=.endRangeFunc l::k) (b:(Instr.endLoop l).run P w=.ok a c) :
  step P (lone fr cs w)=.next (lone {fr with todo:=(a.map Item.code).toList++k} cs c):=by
 refine step_lone_go ?_;cases fr;simp only at d e;subst d;subst e;simp [stepG,stepG.exec,Sem.runT_eq,b]
theorem L4 {f:Operand} {params:Array Tmp} {assign body:Code} {l:Nat} {mark:List Deferred} {b:World} (c:fr.mode=.run) (e:fr.todo=.code (.rangeFunc f params assign body)::k)
  (a:(Instr.enterLoop fr.fn fr.tmps params assign body fr.roundOf).run P w=.ok (l,mark) b) :
  (stepG P true {frame:=fr,callers:=cs,status:=.running,dying:=none} w).bare =
  (stepG.apply P true {fr with todo:=.inRangeFunc l::k,defers:=mark++fr.defers} cs none (do let d ←resolve fr.eval {callee:=.value f,args:=#[.const (.func (.yield l) #[] #[])],argTypes:=#[]} 0;invoke d.target d.args) b).bare:=by
 cases fr;simp only at c e a;subst c;subst e;simp only [stepG,stepG.exec,Sem.runT_eq,a,GStep.bare_after]
 congr 2
theorem kW {d:Deferred} {i:List Deferred} {f:FuncId} {args:Array Value} {j:World} (l:fr.mode≠.run) (m:fr.defers=d::i) (e:∀b,d.target≠.collected b) (g:d.target≠.nil)
  (a:(invoke d.target d.args).run P w=.ok (.enter f args) j):step P (lone fr cs w)=.next (lone (Frame.enter P f args .deferred) ({fr with defers:=i}::cs) j):=by
 refine step_lone_go ?_;cases fr with|mk fn tmps todo defers mode kind c=>
 cases d with|mk target h=>
 simp only at l m e g a;subst m;cases mode with
 |run=>exact absurd rfl l
 |returning=>cases target<;>first|exact absurd rfl g|exact absurd rfl (e _)|simp [stepG,unwind,callDeferred,Sem.runT_eq,a]
 |panicking n=>cases target<;>first|exact absurd rfl g|exact absurd rfl (e _)|simp [stepG,unwind,callDeferred,Sem.runT_eq,a]
theorem eU {b:Nat} {args:Array Value} {d l:List Deferred} {e:World} (f:fr.mode≠.run) (g:fr.defers={target:=.collected b,args}::d)
  (a:(Instr.takeDeferred b).run P w=.ok l e):step P (lone fr cs w)=.next (lone {fr with defers:=l++d} cs e):=by
 refine step_lone_go ?_;cases fr with|mk fn tmps todo defers mode kind c=>
 simp only at f g;subst g;cases mode with
 |run=>exact absurd rfl f
 |returning=>simp [stepG,unwind,Sem.runT_eq,a]
 |panicking h=>simp [stepG,unwind,Sem.runT_eq,a]
end
end Go.AE
namespace Go.AE
variable [Gl:AH]
section
variable [U:Vals]
inductive IR (ρ:Ren):AI→Item→Prop
 |code (c:Code):IR ρ (.code c) (.code c)
 |inBlock (id:Nat):IR ρ (.inBlock id) (.inBlock id)
 |inLoop (b:Code):IR ρ (.inLoop b) (.inLoop b)
 |inScope (b:Code):IR ρ (.inScope b) (.inScope b)
 |ops (all:Array Oper) (rest:List Oper) (idx:List Nat) (h:rest.map some=idx.map fun i=>all[i]?):IR ρ (.ops all rest) (.inRegion all idx)
 |inRange (l:Nat) (base:Bt) (h:ρ l=some base):IR ρ (.inRange l) (.inRangeFunc base.cb)
 |endRange (l:Nat) (base:Bt) (h:ρ l=some base):IR ρ (.endRange l) (.endRangeFunc base.cb)
 |beginRound:IR ρ .beginRound .beginRound
 |dead (all:Array Oper) (idx:List Nat):IR ρ .dead (.inRegion all idx)
inductive IL (ρ:Ren):List AI→List Item→Prop
 |nil:IL ρ [] []
 |cons {a:AI} {x:Item} {l:List AI} {l':List Item} (h:IR ρ a x) (k:IL ρ l l'):IL ρ (a::l) (x::l')
 |rest:IL ρ [.rest] U.R
def CL (b:Ren):List (AV×Bool)→List PanicEntry→Prop
 |[],[]=>True
 |a::r,e::c=>VR b a.1 e.v∧e.recovered=a.2∧e.goexit=false∧CL b r c
 |_,_=>False
inductive MR (ρ:Ren):Hw→FrameMode→Prop
 |run:MR ρ .run .run
 |ret:MR ρ .ret .returning
 |panic (ch:List (AV×Bool)) (ch':List PanicEntry) (h:CL ρ ch ch'):MR ρ (.panic ch) (.panicking ch')
def RR (ρ:Ren):Option Nat→Option Nat→Prop
 |none,none=>True
 |some l,some c=>∃base,ρ l=some base∧c=base.cb
 |_,_=>False
structure FrR (ρ:Ren) (f:AF) (c:Frame):Prop where
 fn:c.fn=f.fn
 tm:TR ρ f.nt f.tmps c.tmps
 todo:IL ρ f.todo c.todo
 defers:DL ρ f.defers c.defers
 mode:MR ρ f.mode c.mode
 kind:c.kind=f.kind
 round:RR ρ f.round c.roundOf
inductive FrL (ρ:Ren):List AF→List Frame→Prop
 |nil:FrL ρ [] []
 |cons {f:AF} {c:Frame} {l:List AF} {l':List Frame} (h:FrR ρ f c) (k:FrL ρ l l'):FrL ρ (f::l) (c::l')
theorem IR.mono {ρ r:Ren} (j:ρ.le r) {a:AI} {x:Item} (h:IR ρ a x):IR r a x:=by
 cases h with
 |code c=>exact .code c
 |inBlock id=>exact .inBlock id
 |inLoop b=>exact .inLoop b
 |inScope b=>exact .inScope b
 |ops all rest i h=>exact .ops all rest i h
 |inRange l base h=>exact .inRange l base (j.m _ _ h)
 |endRange l base h=>exact .endRange l base (j.m _ _ h)
 |beginRound=>exact .beginRound
 |dead all i=>exact .dead all i
theorem IL.mono {ρ j:Ren} (i:ρ.le j) {a:List AI} {x:List Item} (h:IL ρ a x):IL j a x:=by
 induction h with
 |nil=>exact .nil
 |cons h _ ih=>exact .cons (h.mono i) ih
 |rest=>exact .rest
theorem CL.mono {ρ j:Ren} (i:ρ.le j):∀{l:List (AV×Bool)} {r:List PanicEntry},CL ρ l r→CL j l r
 |[],[],_=>trivial
 |_::_,_::_,⟨t,C,I,J⟩=>⟨t.mono i,C,I,J.mono i⟩
theorem MR.mono {ρ l:Ren} (i:ρ.le l) {a:Hw} {x:FrameMode} (h:MR ρ a x):MR l a x:=by
 cases h with
 |run=>exact .run
 |ret=>exact .ret
 |panic r j h=>exact .panic r j (h.mono i)
theorem RR.mono {ρ j:Ren} (i:ρ.le j) {a x:Option Nat} (h:RR ρ a x):RR j a x:=by
 cases a<;>cases x<;>simp only [RR] at h ⊢
 obtain ⟨base,l,r⟩:=h;exact ⟨base,i.m _ _ l,r⟩
theorem FrR.mono {ρ j:Ren} (i:ρ.le j) {f:AF} {c:Frame} (h:FrR ρ f c):FrR j f c:=
 ⟨h.fn,h.tm.mono i,h.todo.mono i,h.defers.mono i,h.mode.mono i,h.kind,h.round.mono i⟩
theorem FrL.mono {ρ j:Ren} (i:ρ.le j) {f:List AF} {c:List Frame} (h:FrL ρ f c):FrL j f c:=by
 induction h with
 |nil=>exact .nil
 |cons h _ ih=>exact .cons (h.mono i) ih
end
variable [U:Unk]
theorem FrR.evR {ρ:Ren} {f:AF} {c:Frame} (h:FrR ρ f c):EvR ρ f.tmps c.eval:=by
 intro o;have:=JJ h.tm o;cases o<;>exact this
theorem TR.put {ρ:Ren} {nt:Nat} {t:T AV} {a:Array Value} (h:TR ρ nt t a) {d:Nat} {v:AV} {l:Value} (r:d<nt) (C:VR ρ v l):TR ρ nt (t.set d v) (a.setIfInBounds d l):=by
 refine ⟨by simp [h.size],fun i x j=>?_⟩
 rw [T.get_set] at j;by_cases e:d=i
 ·subst e;rw [if_pos rfl] at j;cases j;have:d<a.size:=by rw [h.size];exact r
  simpa [Array.getD_eq_getD_getElem?,this] using C
 ·rw [if_neg e] at j;have:=h.get i x j;simpa [Array.getD_eq_getD_getElem?,Array.getElem?_setIfInBounds_ne e] using this
def Jj (a:Array Value) (dst:Option Tmp) (v:Value):Array Value:=match dst with|some d=>a.setIfInBounds d v|none=>a
theorem kS {c:Ren} {nt:Nat} {t f:T AV} {a:Array Value} (h:TR c nt t a) {dst:Option Tmp} {v:AV} {g:Value} (b:Ei nt t dst v=some f) (i:VR c v g) :
  TR c nt f (Jj a dst g):=by
 cases dst with
 |none=>simp only [Ei,Option.some.injEq] at b;subst b;exact h
 |some d=>
  simp only [Ei] at b;cases e:Nat.blt d nt with
  |false=>rw [e] at b;cases b
  |true=>
   rw [e] at b;simp only [Option.some.injEq] at b;subst b;exact h.put (by simpa [Nat.blt_eq] using e) i
theorem VR.not_bool {ρ:Ren} {a:AV} {v:Value} (h:VR ρ a v) (i:∀b,a≠.bool b) (j:a≠.top) (l:∀p e,a≠.sb p e) (b:Bool):v≠.bool b:=by
 cases h with
 |sb p e=>exact absurd rfl (l p e)
 |top v=>exact absurd rfl j
 |bool c=>exact absurd rfl (i c)
 |_=>exact fun e=>by cases e
theorem Bs {w:Ren} {nt:Nat} {t:T AV} {a:Array Value} (h:TR w nt t a) {all:Array Oper} {o:Oper} {b:Bool} (f:Bf all o t=some b):Region.wanted o (yielded all a)=b:=by
 unfold Bf at f;unfold Region.wanted;cases r:o.guard with
 |none=>rw [r] at f;simpa using f
 |some p=>
  obtain ⟨j,l⟩:=p;rw [r] at f;simp only at f ⊢;unfold yielded;have y:all[j]?=all.toList[j]?:=by simp
  rw [y];cases s:all.toList[j]? with
  |none=>rw [s] at f;simp at f ⊢;exact f
  |some g=>
   rw [s] at f;simp only [Option.bind_some] at f ⊢;cases u:g.dst with
   |none=>rw [u] at f;simp at f ⊢;exact f
   |some d=>
    rw [u] at f;simp only [Option.bind_some] at f ⊢;cases m:t.get d with
    |none=>rw [m] at f;cases f
    |some v=>
     rw [m] at f;have i:=h.get d v m;rw [Array.getD_eq_getD_getElem?] at i
     have n:(∀b,v≠.bool b)→v≠.top→(∀p e,v≠.sb p e)→((match a[d]? with|some (.bool b)=>some b|_=>none)==some l)=false:=by
      intro z A B;cases k:a[d]? with
      |none=>rfl
      |some x=>
       rw [k] at i;cases x with
       |bool c=>exact absurd rfl (i.not_bool z A B c)
       |_=>rfl
     cases v with
     |top=>cases f
     |sb p e=>
      simp only at f;split at f
      ·rename_i q C;have D:=Ar U.ok C;simp only [Option.some.injEq] at f;cases k:a[d]? with
       |none=>rw [k] at i;cases i
       |some x=>
        rw [k] at i;cases i;rw [D];simpa using f
      ·cases f
     |bool e=>
      simp only [Option.some.injEq] at f;cases k:a[d]? with
      |none=>rw [k] at i;cases i
      |some x=>
       rw [k] at i;cases i;subst f;simp
     |_=>
      simp only [Option.some.injEq] at f;subst f;exact n (fun b e=>by cases e) (fun e=>by cases e) (fun p b e=>by cases e)
end Go.AE
namespace Go.AE
variable [Gl:AH]
variable [U:Unk]
theorem IL.ops_inv {ρ:Ren} {all:Array Oper} {o:Oper} {rest:List Oper} {k:List AI} {l:List Item} (h:IL ρ (.ops all (o::rest)::k) l) :
  ∃i j r,l=.inRegion all (i::j)::r∧all[i]?=some o∧rest.map some=j.map (fun i=>all[i]?)∧IL ρ k r:=by
 cases h with
 |cons h t=>
  cases h with
  |ops all rest j h=>
   cases j with
   |nil=>cases h
   |cons i j=>
    simp only [List.map_cons,List.cons.injEq] at h;exact ⟨i,j,_,rfl,h.1.symm,h.2,t⟩
theorem BG {n:Ren} {f r:AF} {c:Frame} (h:FrR n f c) {v:AV} {m:Value} (d:A3 f v=some r) (s:VR n v m):FrR n r (c.finish m):=by
 have b:=h.todo;unfold A3 at d;split at d
 ·rename_i all o rest k g;rw [g] at b;obtain ⟨i,p,u,e,w,x,j⟩:=b.ops_inv;split at d
  ·rename_i t y;simp only [Option.some.injEq] at d;subst d;have:=kS h.tm y s
   have z:c.finish m={c with tmps:=Jj c.tmps o.dst m,todo:=.inRegion all p::u}:=by
    simp only [Frame.finish,e,w,Option.bind_some,Jj];cases o.dst<;>rfl
   rw [z];exact ⟨h.fn,this,.cons (.ops _ _ _ x) j,h.defers,h.mode,h.kind,h.round⟩
  ·cases d
 ·rename_i l k g;rw [g] at b;simp only [Option.some.injEq] at d;subst d;generalize q:c.todo=A at b;cases b with
  |cons a j=>
   cases a with
   |inRange l base B=>
    simp only [Frame.finish,q];exact ⟨h.fn,h.tm,.cons (.endRange _ _ B) j,h.defers,h.mode,h.kind,h.round⟩
 ·rename_i k g;rw [g] at b;simp only [Option.some.injEq] at d;subst d;generalize q:c.todo=A at b;cases b with
  |cons a j=>
   cases a with
   |beginRound=>
    simp only [Frame.finish,q];exact ⟨h.fn,h.tm,j,h.defers,h.mode,h.kind,h.round⟩
 ·cases d
theorem TR.ofArgs {ρ:Ren} {n:Nat} {args:List AV} {j:List Value} (r:VL ρ args j):TR ρ (max n args.length) (.ofList args) (j.toArray++Array.replicate (n-j.toArray.size) undef):=by
 have I:=r.1;refine ⟨by simp;omega,fun i x t=>?_⟩
 rw [T.get_ofList] at t;obtain ⟨v,C,l⟩:=r.get t;have hi:i<j.length:=(List.getElem?_eq_some_iff.1 C).1;rw [Array.getD_eq_getD_getElem?,Array.getElem?_append_left (by simpa using hi)]
 simpa [C] using l
theorem CO {E:Env} (hE:OK E) {d:Ren} {f:FuncId} {args:List AV} {a:List Value} {kind:CallKind} {g:AF} (b:B8 E f args kind=some g) (h:VL d args a) :
  FrR d g (Frame.enter E.P f a.toArray kind):=by
 unfold B8 at b;split at b
 ·rename_i fn i;split at b
  ·rename_i c j;simp only [Option.some.injEq] at b;subst b
   have e:Frame.enter E.P f a.toArray kind={fn:=f,tmps:=a.toArray++Array.replicate (fn.ntmps-a.toArray.size) undef,todo:=[.code c],defers:=[],mode:=.run,kind}:=by
    simp [Frame.enter,hE.fn f fn i,j]
   rw [e];exact ⟨rfl,TR.ofArgs h,.cons (.code c) .nil,trivial,.run,rfl,trivial⟩
  ·cases b
 ·cases b
theorem J4 {g:Ren} {nt:Nat}:∀{f:List Tmp} {t d:T AV} {tm:Array Value} {args:List AV} {b:List Value},TR g nt t tm→VL g args b→E5 nt t f args=some d→
  b.length=f.length∧TR g nt d ((f.zip b).foldl (fun tmps x=>tmps.setIfInBounds x.1 x.2) tm)
 |[],t,d,tm,[],b,h,e,c=>by
  cases e.nil_inv;simp only [E5,Option.some.injEq] at c;subst c;exact ⟨rfl,h⟩
 |[],t,d,tm,_::_,b,h,e,c=>by cases c
 |_::_,t,d,tm,[],b,h,e,c=>by cases c
 |p::f,t,d,tm,a::as,b,h,e,c=>by
  obtain ⟨v,r,rfl,j,k⟩:=e.cons_inv;simp only [E5] at c;cases i:Nat.blt p nt with
  |false=>rw [i] at c;cases c
  |true=>
   rw [i] at c;obtain ⟨l,m⟩:=J4 (h.put (by simpa [Nat.blt_eq] using i) j) k c
   exact ⟨by simp [l],m⟩
theorem PS {E:Env} {c:Ren} {h:Aa} {w:World} (hr:HR c h.blk.get w) {l:Nat} {base:Bt} {args:List AV} {a:List Value} {g:AF} (i:c l=some base) (b:Gx l args h=some g) (j:VL c args a) :
  ∃fn tm assign body,(Instr.yield base.cb a.toArray).run E.P w=.ok (.round base.cb fn tm assign body) w∧FrR c g (Frame.round base.cb fn tm assign body .normal):=by
 unfold Gx at b;split at b
 ·rename_i st pending fn nt tmps params assign body d k;split at b
  ·rename_i t m;simp only [Option.some.injEq] at b;subst b;obtain ⟨tm,r,s,n,o⟩:=hr.blk l base _ i k;obtain ⟨p,q⟩:=J4 n j m;refine ⟨fn,_,assign,body,?_,⟨rfl,q,.cons (.code _) (.cons .beginRound (.cons (.code _) .nil)),trivial,.run,rfl,⟨base,i,rfl⟩⟩⟩;have f:=As E.P o (fun _ _ _ e=>by cases e)
   simp only [Instr.yield,Instr.getLoop,Sem.run_bind,f,Result.andThen_ok,Sem.run_pure];simp [p]
  ·cases b
 ·cases b
end Go.AE
namespace Go.AE
variable [Gl:AH]
section
variable [U:Vals]
structure SR (ρ:Ren) (s:AS) (cf:Frame) (ccs:List Frame) (w:World):Prop where
 fr:FrR ρ s.fr cf
 cs:FrL ρ s.cs ccs
 h:HR ρ s.h.blk.get w
end
variable [U:Unk]
def AP (P:Program) (base:List Frame) (i:Ren) (h:Aa) (c:Frame) (d:List Frame) (w0 w:World) (f:AS):Prop:=
 ∃g b a e,step P (lone c (d++base) w0)=.next (lone b (a++base) e)∧SR g f b a e∧Ext i g h f.h w e
theorem IL.not_call {ρ:Ren} {l:List AI} {i:List Item} (h:IL ρ l i) (d:Deferred) (b:Bool) (r:String) (a:Array Value) (k:List Item):i≠.call d b r a::k:=by
 intro e;cases h with
 |nil=>cases e
 |cons h _=>cases e;cases h
 |rest=>exact U.hR _ _ _ _ _ e
section
variable {E:Env} (hE:OK E) {ρ:Ren} {h:Aa} {w w0:World} {fr0 c:Frame} {f:AF} {cs:List AF} {ccs base:List Frame} {s:Sem Next} {r:Res} {s':AS}
include hE
theorem Fe (n:(stepG E.P true {frame:=fr0,callers:=ccs++base,status:=.running,dying:=none} w0).bare=(stepG.apply E.P true c (ccs++base) none s w).bare)
  (I:ED E ρ h w s r) (hr:HR ρ h.blk.get w) (o:FrR ρ f c) (u:FrL ρ cs ccs) (hm:c.mode=.run) (b:Bv E f cs r=.next s') (F:AJ ρ h.nx s'.h.nx) :
  AP E.P base ρ h fr0 ccs w0 w s':=by
 cases r with
 |val v h'=>
  simp only [Bv] at b;split at b
  ·rename_i O p;cases b;obtain ⟨σ,Q,w',J,S,q3,T⟩:=I F;refine ⟨σ,c.finish Q,ccs,w',step_lone_go ?_,⟨BG (o.mono T.le) p S,u.mono T.le,q3⟩,T⟩;rw [n];rcases J with J|⟨J,rfl⟩<;>simp [stepG.apply,J]
  ·cases b
 |enter g args h'=>
  obtain ⟨rfl,G,z,i⟩:=I;simp only [Bv] at b;split at b
  ·rename_i g' V;cases b;refine ⟨ρ,_,c::ccs,w,step_lone_go ?_,⟨CO hE V z,.cons o u,hr⟩,Ext.refl _ _ _⟩;rw [n];have W:=o.todo;simp only [stepG.apply,Sem.runT_eq,i,if_true,GStep.bare_after,GStep.bare_go,List.cons_append];generalize c.todo=td at W;generalize f.todo=fd at W;cases W with
   |nil=>rfl
   |cons a _=>cases a<;>rfl
   |rest=>
    generalize hq:U.R=r;cases r with
    |nil=>rfl
    |cons x k=>cases x<;>first|rfl|exact absurd hq (U.hR _ _ _ _ _)
  ·cases b
 |round l args h'=>
  obtain ⟨rfl,lb,G,hb,z,i⟩:=I;simp only [Bv] at b;split at b
  ·rename_i g' V;cases b;obtain ⟨fn,tm,assign,body,J,S⟩:=PS (E:=E) hr hb V z;refine ⟨ρ,_,c::ccs,w,step_lone_go ?_,⟨S,.cons o u,hr⟩,Ext.refl _ _ _⟩;rw [n];simp [stepG.apply,i,J]
  ·cases b
 |defer d h'=>
  obtain ⟨rfl,X,Y,i⟩:=I;simp only [Bv] at b;split at b
  ·cases b
  ·split at b
   ·rename_i O p;cases b;have m:=BG o p (VR.undef ρ);refine ⟨ρ,{c with defers:=X::c.defers}.finish undef,ccs,w,step_lone_go ?_,⟨?_,u,hr⟩,Ext.refl _ _ _⟩
    ·rw [n];simp [stepG.apply,i]
    ·have e:({c with defers:=X::c.defers}:Frame).finish undef={c.finish undef with defers:=X::(c.finish undef).defers}:=by
      unfold Frame.finish;simp only;split<;>rfl
     rw [e];exact ⟨m.fn,m.tm,m.todo,⟨Y,m.defers⟩,m.mode,m.kind,m.round⟩
   ·cases b
 |recover h'=>
  obtain ⟨rfl,i⟩:=I;simp only [Bv] at b;split at b
  ·rename_i a rest C H;have hk:c.kind=.deferred:=o.kind.trans H
   have K:c.roundOf=none:=by
    have:=o.round;rw [C] at this;cases hc:c.roundOf with
    |none=>rfl
    |some l=>rw [hc] at this;exact this.elim
   cases u with
   |cons z A=>
    rename_i L q;have j:=z.mode;split at b
    ·rename_i v t Z;split at b
     ·rename_i O p;cases b;rw [Z] at j;generalize aa:L.mode=cm at j;cases j with
      |panic _ ab B=>
       cases ab with
       |nil=>exact B.elim
       |cons e D=>
        obtain ⟨N,M,h3,h4⟩:=B;obtain ⟨ev,er,eg⟩:=e;simp only at N M h3;subst M;subst h3;refine ⟨ρ,c.finish ev,{L with mode:=.panicking ({v:=ev,recovered:=true}::D)}::q,w,step_lone_go ?_,⟨BG o p N,.cons ⟨z.fn,z.tm,z.todo,z.defers,.panic _ _ ⟨N,rfl,rfl,h4⟩,z.kind,z.round⟩ A,hr⟩,Ext.refl _ _ _⟩
        rw [n];simp [stepG.apply,i,K,tryRecover,hk,aa]
     ·cases b
    ·rename_i ac;split at b
     ·rename_i O p;cases b;refine ⟨ρ,c.finish .nilIface,L::q,w,step_lone_go ?_,⟨BG o p .nilIface,.cons z A,hr⟩,Ext.refl _ _ _⟩;rw [n]
      have:tryRecover c (L::(q++base))=none:=by
       have ae:∀v t,L.mode≠.panicking ({v,recovered:=false,goexit:=false}::t):=by
        intro v t he;rw [he] at j;generalize ad:a.mode=am at j;cases j with
        |panic ch _ B=>
         cases ch with
         |nil=>exact B.elim
         |cons x r=>
          obtain ⟨xv,xb⟩:=x;obtain ⟨N,M,h3,h4⟩:=B;simp only at M;subst M;exact ac _ _ ad
       simp only [tryRecover,hk]
      simp [stepG.apply,i,K,this]
     ·cases b
  ·cases b
 |panic v h'=>
  obtain ⟨rfl,Q,hv,i⟩:=I;simp only [Bv] at b;split at b
  ·cases b;refine ⟨ρ,{c with mode:=.panicking [{v:=Q,recovered:=false}]},ccs,w,step_lone_go ?_,⟨⟨o.fn,o.tm,o.todo,o.defers,.panic _ _ ⟨hv,rfl,rfl,trivial⟩,o.kind,o.round⟩,u,hr⟩,Ext.refl _ _ _⟩
   rw [n];simp [stepG.apply,i,Frame.raise,hm]
  ·cases b
 |bad y=>cases b
end
end Go.AE
namespace Go.AE
variable [Gl:AH]
variable [U:Unk]
theorem N8 {c:Ren} {id:Nat} {k:List AI} {a:List Item} (h:IL c k a):(∀r,Li id k=some r→∃d,exitTo id a=some d∧IL c r d)∧(Li id k=none→I5 k=false→exitTo id a=none):=by
 induction h with
 |nil=>exact ⟨(fun r h=>by cases h),fun _ _=>rfl⟩
 |rest=>exact ⟨(fun r h=>by cases h),(fun _ h=>by cases h)⟩
 |cons h f ih=>
  cases h with
  |inBlock i=>
   simp only [Li,exitTo];cases e:Nat.beq i id with
   |true=>
    have:=Aw e;subst this;exact ⟨fun r hr=>⟨_,if_pos (by simp),by cases hr;exact f⟩,(fun hr _=>by cases hr)⟩
   |false=>
    have b:(i==id)=false:=by simpa using US e
    rw [b];exact ih
  |_=>exact ih
theorem N9 {c:Ren} {l:Nat} {k:List AI} {a:List Item} (h:IL c k a):(∀r,P4 l k=some r→∃d,gotoIn l a=some d∧IL c r d)∧(P4 l k=none→I5 k=false→gotoIn l a=none):=by
 induction h with
 |nil=>exact ⟨(fun r h=>by cases h),fun _ _=>rfl⟩
 |rest=>exact ⟨(fun r h=>by cases h),(fun _ h=>by cases h)⟩
 |cons h e ih=>
  cases h with
  |inScope b=>
   simp only [P4,gotoIn];cases f:findLabel b l with
   |some rest=>exact ⟨fun r hr=>⟨_,rfl,by cases hr;exact .cons (.code _) (.cons (.inScope _) e)⟩,(fun hr _=>by cases hr)⟩
   |none=>exact ih
  |_=>exact ih
theorem CL.calm {t:Ren}:∀{l:List (AV×Bool)} {j:List PanicEntry},CL t l j→∀y∈j,y.goexit=false
 |[],[],_,y,i=>by cases i
 |_::_,e::r,⟨J,h2,C,I⟩,y,i=>by
  rcases List.mem_cons.1 i with rfl|i
  ·exact C
  ·exact CL.calm I y i
theorem U6:∀(l:List PanicEntry),(∀y∈l,y.goexit=false)→l.dropWhile (!·.goexit)=[]
 |[],_=>rfl
 |y::r,h=>by
  rw [List.dropWhile_cons_of_pos (by simp [h y (by simp)])]
  exact U6 r fun z a=>h z (by simp [a])
section
variable {E:Env} (hE:OK E) {ρ:Ren} {h:Aa} {w w0:World} {fr0 c:Frame} {f:AF} {cs:List AF} {ccs base:List Frame} {s':AS}
theorem H0 {v:AV} {I:Value} (p:(stepG E.P true {frame:=fr0,callers:=ccs++base,status:=.running,dying:=none} w0).bare=(doReturn E.P true c (ccs++base) none I w).bare)
  (hr:HR ρ h.blk.get w) (t:c.kind=f.kind) (u:FrL ρ cs ccs) (K:VR ρ v I) (l:Cx f cs v h=.next s'):AP E.P base ρ h fr0 ccs w0 w s':=by
 unfold Cx at l;cases u with
 |nil=>
  simp only at l;split at l<;>cases l
 |cons n i=>
  rename_i a z rest j;simp only at l;split at l
  ·rename_i d;split at l
   ·rename_i R A;cases l;refine ⟨ρ,_,j,w,step_lone_go ?_,⟨BG n A K,i,hr⟩,Ext.refl _ _ _⟩;rw [p];simp [doReturn,t,d]
   ·cases l
  ·rename_i d;have b:=n.mode;split at l
   ·rename_i x k B;cases l;rw [B] at b;generalize C:z.mode=S at b;cases b with
    |panic _ D m=>
     cases D with
     |nil=>exact m.elim
     |cons e o=>
      have q:=m.calm;obtain ⟨J,s,F,L⟩:=m;obtain ⟨T,V,W⟩:=e;simp only at J s F;subst s;subst F;refine ⟨ρ,{z with mode:=.returning},j,w,step_lone_go ?_,⟨⟨n.fn,n.tm,n.todo,n.defers,.ret,n.kind,n.round⟩,i,hr⟩,Ext.refl _ _ _⟩
      rw [p];simp [doReturn,t,d,C,U6 o fun y M=>q y (by simp [M])]
   ·rename_i G;cases l;refine ⟨ρ,_,j,w,step_lone_go ?_,⟨n,i,hr⟩,Ext.refl _ _ _⟩;rw [p]
    have N:∀x g k,z.mode≠.panicking ({v:=x,recovered:=true,goexit:=g}::k):=by
     intro x g k O;rw [O] at b;generalize H:a.mode=X at b;cases b with
     |panic Q _ m=>
      cases Q with
      |nil=>exact m.elim
      |cons x r=>
       obtain ⟨Y,Z⟩:=x;obtain ⟨J,s,F,L⟩:=m;simp only at s;subst s;exact G _ _ H
    simp only [List.cons_append,doReturn,t,d,GStep.bare_go]
  ·cases l
include hE
theorem GI (hr:HR ρ h.blk.get w) (i:FrR ρ f c):∀{q:List ResultVar} {l:List AV},BE E f h q=some l→
  ∃e:List Value,VL ρ l e∧(q.mapM fun|.tmp t=>pure (c.tmps.getD t undef)|.cell a t=>do loadVar t (←asAddr (c.tmps.getD a undef)):Sem (List Value)).run E.P w=.ok e w
 |[],l,b=>by
  simp only [BE,Option.some.injEq] at b;subst b;exact ⟨[],VL.nil ρ,by simp⟩
 |.tmp t::r,l,b=>by
  simp only [BE] at b;cases d:BE E f h r with
  |none=>rw [d] at b;cases b
  |some z=>
   rw [d] at b;simp only [Option.some.injEq] at b;subst b;obtain ⟨e,m,n⟩:=GI hr i d;refine ⟨c.tmps.getD t undef::e,VL.cons ?_ m,?_⟩
   ·cases g:f.tmps.get t with
    |none=>exact .top _
    |some a=>exact i.tm.get t a g
   ·simp only [List.mapM_cons,Sem.run_bind,Sem.run_pure,Result.andThen_ok,n]
 |.cell a t::r,l,b=>by
  simp only [BE] at b;cases g:f.tmps.get a with
  |none=>rw [g] at b;cases b
  |some p=>
   rw [g] at b;simp only at b;cases j:Q8 E t p h with
   |none=>rw [j] at b;cases b
   |some v=>
    cases d:BE E f h r with
    |none=>rw [j,d] at b;cases b
    |some z=>
     rw [j,d] at b;simp only [Option.some.injEq] at b;subst b;obtain ⟨e,m,n⟩:=GI hr i d;have s:=i.tm.get a p g;obtain ⟨u,k,A⟩:=VN hE hr s j;refine ⟨u::e,VL.cons A m,?_⟩
     have:(do loadVar t (←asAddr (c.tmps.getD a undef)):Sem Value).run E.P w=.ok u w:=by
      generalize c.tmps.getD a undef=x at k s;cases x with
      |pointer o=>cases o with
       |none=>simp [Instr.loadAt,Instr.sureAddr,stuck] at k
       |some y=>simpa [Instr.loadAt,Instr.sureAddr,asAddr] using k
      |_=>simp [Instr.loadAt,Instr.sureAddr,stuck] at k
     simp only [List.mapM_cons,Sem.run_bind,Sem.run_pure] at this ⊢;rw [this];simp only [Result.andThen_ok,n]
theorem FJ (hr:HR ρ h.blk.get w) (m:FrR ρ f c) {fn:Func} {l:List AV} (n:BE E f h fn.results.toList=some l) :
  ∃e,(results fn c.tmps).run E.P w=.ok e w∧(∀a,l=[a]→VR ρ a e)∧((∀a,l≠[a])→VR ρ (.tuple l) e):=by
 obtain ⟨b,d,o⟩:=GI hE hr m n;unfold results;rw [Array.mapM_eq_mapM_toList];simp only [Sem.run_bind,Sem.run_map,Sem.run_pure];refine ⟨if h:b.toArray.size=1 then b.toArray[0] else .tuple b.toArray,?_,?_,?_⟩
 ·have key:∀R:Result (List Value),R=.ok b w→((R.andThen fun a g=>Result.ok a.toArray g).andThen fun a g=>Result.ok (if h:a.size=1 then a[0] else Value.tuple a) g) =
    Result.ok (if h:b.toArray.size=1 then b.toArray[0] else Value.tuple b.toArray) w:=by rintro _ rfl;rfl
  refine key _ ?_;rw [←o]
  congr 2
 ·rintro a rfl
  obtain ⟨v,r,rfl,p,q⟩:=d.cons_inv;cases q.nil_inv;simpa using p
 ·intro i
  have:b.toArray.size≠1:=by
   intro j;have k:=d.1;simp only [List.size_toArray] at j;rw [j] at k;obtain ⟨a,rfl⟩:=List.length_eq_one_iff.1 k;exact i a rfl
  rw [dif_neg this];exact .tuple _ _ d.1 d.2
end
end Go.AE
namespace Go.AE
variable [Gl:AH]
variable [U:Unk]
theorem AP.pre {P:Program} {base:List Frame} {ρ C:Ren} {h I:Aa} {i:Frame} {j:List Frame} {w0 w w1:World} {r:AS} (e:Ext ρ C h I w w1) (st:AP P base C I i j w0 w1 r) (J:AJ ρ h.nx r.h.nx) :
  AP P base ρ h i j w0 w r:=by
 obtain ⟨τ,t,l,w',q1,q2,q3⟩:=st;exact ⟨τ,t,l,w',q1,q2,e.trans q3 J⟩
section
variable {P:Program} {fr:Frame} {k:List Item} {cs:List Frame} {w:World}
theorem NF {l:Nat} {a:Option Code} {c:World} {v:Value} (d:fr.mode=.run) (hr:fr.roundOf=some l)
  (b:(fr.todo=[]∧a=none)∨(∃k,fr.todo=.code .ret::k∧a=some .ret)∨(∃id k,fr.todo=.code (.exit id)::k∧exitTo id k=none∧a=some (.exit id))∨(∃l k,fr.todo=.code (.goto l)::k∧gotoIn l k=none∧a=some (.goto l)))
  (e:(Instr.endRound l a).run P w=.ok v c):(stepG P true {frame:=fr,callers:=cs,status:=.running,dying:=none} w).bare=(doReturn P true fr cs none v c).bare:=by
 rcases b with ⟨b,rfl⟩|⟨k,b,rfl⟩|⟨id,k,b,f,rfl⟩|⟨g,k,b,f,rfl⟩<;>
 (cases fr;simp only at d b hr;subst d;subst b;subst hr;simp [stepG,stepG.exec,Sem.runT_eq, *])
theorem J3 {v:Value} {fn:Func} (a:fr.mode=.returning) (b:fr.defers=[]) (c:P.funcs[fr.fn]?=some fn) (hr:(results fn fr.tmps).run P w=.ok v w) :
  (stepG P true {frame:=fr,callers:=cs,status:=.running,dying:=none} w).bare=(doReturn P true fr cs none v w).bare:=by
 simp [stepG,unwind,a,b,c,Sem.runT_eq,hr]
theorem Aeu {c:Frame} {e:List PanicEntry} (f:fr.mode=.panicking e) (g:fr.defers=[]) (h:∀d b r a k,fr.todo≠.call d b r a::k):step P (lone fr (c::cs) w)=.next (lone (c.raise e) cs w):=by
 have i:fr.catches P=false:=by
  unfold Frame.catches;split
  ·rename_i l j;exact absurd j (h _ _ _ _ _)
  ·rfl
 exact step_lone_go (by simp [stepG,unwind,f,g,i])
end
section
variable {E:Env} (hE:OK E) {ρ:Ren} {h:Aa} {w:World} {c:Frame} {f:AF} {cs:List AF} {ccs base:List Frame} {s':AS}
theorem K9 (hr:HR ρ h.blk.get w) {l:Nat} {b:Bt} {st:LoopState} {pending:Option Code} {fn:FuncId} {nt:Nat} {tmps:T AV} {params:List Tmp} {assign body:Code} {d:Nat} (i:ρ l=some b)
  (j:h.blk.get l=some (.loop st pending fn nt tmps params assign body d)) (a:Option Code) :
  ∃g,(Instr.endRound b.cb a).run E.P w=.ok (.bool a.isNone) g∧HR ρ (h.put l (.loop (if a.isNone then .ready else .done) a fn nt tmps params assign body d)).blk.get g∧
   Ext ρ ρ h (h.put l (.loop (if a.isNone then .ready else .done) a fn nt tmps params assign body d)) w g:=by
 obtain ⟨tm,k,n,o,m⟩:=hr.blk l b _ i j;have p:=As E.P m (fun _ _ _ e=>by cases e)
 obtain ⟨q,r⟩:=hr.setObj i (by rw [j];exact fun e=>by cases e) (.loop (if a.isNone then .ready else .done) a fn nt tmps params assign body d)
  (.loop {state:=if a.isNone then .ready else .done,pending:=a,fn:=fn,tmps:=tm,params:=params.toArray,assign:=assign,body:=body,defers:=k.cb}) ⟨tm,k,n,o,rfl⟩
 refine ⟨_,?_,q,r⟩;have s:=fun o'=>Az (o':=o') E.P m (fun _ _ _ e=>by cases e)
 simp only [Instr.endRound,Instr.getLoop,Sem.run_bind,p,Result.andThen_ok,Sem.run_pure,s]
theorem RR.none_inv {ρ:Ren} {x:Option Nat} (h:RR ρ none x):x=none:=by
 cases x with
 |none=>rfl
 |some l=>exact h.elim
theorem RR.some_inv {ρ:Ren} {l:Nat} {x:Option Nat} (h:RR ρ (some l) x):∃b,ρ l=some b∧x=some b.cb:=by
 cases x with
 |none=>exact h.elim
 |some c=>obtain ⟨b,i,rfl⟩:=h;exact ⟨b,i,rfl⟩
theorem G0 (hr:HR ρ h.blk.get w) (i:FrR ρ f c) (o:FrL ρ cs ccs) (s:c.mode=.run) {e:Option Code}
  (j:(c.todo=[]∧e=none)∨(∃k,c.todo=.code .ret::k∧e=some .ret)∨(∃id k,c.todo=.code (.exit id)::k∧exitTo id k=none∧e=some (.exit id))∨(∃l k,c.todo=.code (.goto l)::k∧gotoIn l k=none∧e=some (.goto l)))
  (g:DJ f cs h e=.next s') (m:AJ ρ h.nx s'.h.nx):AP E.P base ρ h c ccs w w s':=by
 have a:=i.round;unfold DJ at g;split at g
 ·rename_i p;rw [p] at a;have n:=a.none_inv
  have q:c.todo=[]∨∃k,c.todo=.code .ret::k:=by
   rcases j with ⟨j,_⟩|⟨k,j,_⟩|⟨id,k,j,t,rfl⟩|⟨B,k,j,t,rfl⟩
   ·exact .inl j
   ·exact .inr ⟨k,j⟩
   ·cases g
   ·cases g
  have u:s'={fr:={f with mode:=.ret},cs,h}:=by
   split at g
   ·cases g;rfl
   ·cases g;rfl
   ·cases g
  subst u;exact ⟨ρ,_,ccs,w,Aa3 s q n,⟨⟨i.fn,i.tm,i.todo,i.defers,.ret,i.kind,i.round⟩,o,hr⟩,Ext.refl _ _ _⟩
 ·rename_i l r;rw [r] at a;obtain ⟨b,v,n⟩:=a.some_inv;split at g
  ·rename_i st pending fn nt tmps params assign body d x;obtain ⟨C,y,z,A⟩:=K9 (E:=E) hr v x e;exact AP.pre A (H0 (NF s n j y) z i.kind o (.bool _) g) m
  ·cases g
include hE
theorem WC (hr:HR ρ h.blk.get w) (o:FrR ρ f c) (q:FrL ρ cs ccs) (X:c.mode≠.run) (i:D2 E f cs h=.next s'):AP E.P base ρ h c ccs w w s':=by
 have m:=o.defers;unfold D2 at i;split at i
 ·rename_i d ds A;rw [A] at m;cases n:c.defers with
  |nil=>rw [n] at m;exact m.elim
  |cons d' G=>
   rw [n] at m;obtain ⟨s,H⟩:=m;unfold DR at s;split at i
   ·rename_i t;rw [t] at s;obtain ⟨b,Y,rfl⟩:=s;split at i
    ·rename_i l Z;cases i;obtain ⟨l',q1,q2⟩:=hr.blk _ b _ Y Z;obtain ⟨I,M⟩:=hr.setObj Y (by rw [Z];exact fun e=>by cases e) (.deferred none) (.deferred none) rfl
     refine ⟨ρ,_,ccs,_,eU X n ?_,⟨⟨o.fn,o.tm,o.todo,q1.append H,o.mode,o.kind,o.round⟩,q,I⟩,M⟩;have O:=As E.P q2 (fun _ _ _ e=>by cases e)
     have hs:=Az (o':=.deferred none) E.P q2 (fun _ _ _ e=>by cases e)
     simp only [Instr.takeDeferred,Sem.run_bind,O,Result.andThen_ok,Sem.run_pure,hs]
    ·cases i
   ·rename_i fn t;rw [t] at s;obtain ⟨aa,c',a',h1,h2,h3,rfl⟩:=s;have hi:=D9 hE hr h1 h2 h3;split at i
    ·rename_i g args h' Q;rw [Q] at hi;obtain ⟨rfl,R,u,J⟩:=hi;split at i
     ·rename_i gf O;cases i;exact ⟨ρ,_,{c with defers:=G}::ccs,w,kW X n (fun b e=>by cases e) (fun e=>by cases e) J,⟨CO hE O u,.cons ⟨o.fn,o.tm,o.todo,H,o.mode,o.kind,o.round⟩ q,hr⟩,Ext.refl _ _ _⟩
     ·cases i
    ·cases i
 ·rename_i A;rw [A] at m
  have n:c.defers=[]:=by
   cases n:c.defers with
   |nil=>rfl
   |cons d' G=>rw [n] at m;exact m.elim
  have j:=o.mode;split at i
  ·cases i
  ·rename_i S B;rw [B] at j;generalize y:c.mode=cm at j;cases j with
   |panic _ K T=>
    cases q with
    |nil=>
     simp only at i;split at i
     ·split at i<;>cases i
     ·cases i
    |cons u C=>
     rename_i a N rest D;simp only at i;split at i
     ·rename_i V;cases i;have p:=u.mode;rw [V] at p
      have L:N.mode=.run:=by
       generalize N.mode=x at p;cases p;rfl
      refine ⟨ρ,_,D,w,Aeu y n (fun d b r a k=>o.todo.not_call d b r a k),⟨?_,C,hr⟩,Ext.refl _ _ _⟩
      have e:N.raise K={N with mode:=.panicking K}:=by simp [Frame.raise,L]
      rw [e];exact ⟨u.fn,u.tm,u.todo,u.defers,.panic _ _ T,u.kind,u.round⟩
     ·cases i
  ·rename_i B;rw [B] at j
   have y:c.mode=.returning:=by
    generalize c.mode=x at j;cases j;rfl
   split at i
   ·rename_i fn t;have z:E.P.funcs[c.fn]?=some fn:=by rw [o.fn];exact hE.fn _ _ t
    split at i
    ·rename_i v F;obtain ⟨v',I,M,p3⟩:=FJ hE hr o F;exact H0 (J3 y n z I) hr o.kind q (M _ rfl) i
    ·rename_i l W F;obtain ⟨v',I,M,p3⟩:=FJ hE hr o F;exact H0 (J3 y n z I) hr o.kind q (p3 fun a e=>W a (by rw [e])) i
    ·cases i
   ·cases i
end
end Go.AE
namespace Go.AE
variable [Gl:AH]
variable [U:Unk]
section
variable {E:Env} (hE:OK E) {ρ:Ren} {h:Aa} {w:World} {c:Frame} {f:AF} {cs:List AF} {ccs base:List Frame} {s s':AS}
theorem AP.to {P:Program} (i:SR ρ s c ccs w) {k:List AI} {l:List Item} (r:IL ρ k l) (j:step P (lone c (ccs++base) w)=.next (lone {c with todo:=l} (ccs++base) w)) :
  AP P base ρ s.h c ccs w w {s with fr:={s.fr with todo:=k}}:=
 ⟨ρ,_,ccs,w,j,⟨⟨i.fr.fn,i.fr.tm,r,i.fr.defers,i.fr.mode,i.fr.kind,i.fr.round⟩,i.cs,i.h⟩,Ext.refl _ _ _⟩
theorem az (ops:Array Oper):ops.toList.map some=(List.range ops.size).map fun i=>ops[i]?:=by
 apply List.ext_getElem (by simp)
 intro i a b;simp at a;simp [a]
theorem Du (tmps:T AV) (c:Call) (h:Aa):(∃d,GR tmps c h=.defer d h)∨∃y,GR tmps c h=.bad y:=by
 unfold GR;split
 ·split
  ·exact .inl ⟨_,rfl⟩
  ·exact .inr ⟨_,rfl⟩
 ·exact .inr ⟨_,rfl⟩
theorem Hw.not_run {ρ:Ren} {a:Hw} {m:FrameMode} (h:MR ρ a m) (i:a≠.run):m≠.run:=by
 cases h with
 |run=>exact absurd rfl i
 |ret=>exact fun e=>by cases e
 |panic=>exact fun e=>by cases e
include hE
theorem Aq1 (a:SR ρ s c ccs w) (q:c.mode=.run) (A:s.fr.mode=.run) {all:Array Oper} {o:Oper} {rest:List Oper} {k:List AI} (B:s.fr.todo=.ops all (o::rest)::k)
  (g:(match Bf all o s.fr.tmps with
   |some true=>Bv E s.fr s.cs (aop E s.fr.tmps s.h o.op)
   |some false=>Bv E s.fr s.cs (.val .undef s.h)
   |none=>.bad "wanted")=.next s') (m:AJ ρ s.h.nx s'.h.nx):AP E.P base ρ s.h c ccs w w s':=by
 have j:=a.fr.todo;rw [B] at j;obtain ⟨i,C,F,e,x,z,G⟩:=j.ops_inv;split at g
 ·rename_i r;have n:=Bs a.fr.tm r
  have D:c.roundOf=none∨∀cl,o.op≠.defer cl:=by
   cases p:o.op with
   |defer cl=>
    left;have b:=a.fr.round;rcases Du s.fr.tmps cl s.h with ⟨d,t⟩|⟨y,t⟩
    ·have l:aop E s.fr.tmps s.h o.op=.defer d s.h:=by rw [p];simpa [aop] using t
     rw [l] at g;simp only [Bv] at g;split at g
     ·cases g
     ·rename_i u;rw [u] at b;exact b.none_inv
    ·have l:aop E s.fr.tmps s.h o.op=.bad y:=by rw [p];simpa [aop] using t
     rw [l] at g;cases g
   |_=>exact .inr fun cl e=>by cases e
  exact Fe hE (by rw [Dk q e x n D]) (KL hE a.h a.fr.evR o) a.h a.fr a.cs q g m
 ·rename_i r;have n:=Bs a.fr.tm r;simp only [Bv] at g;split at g
  ·rename_i H v;cases g;exact ⟨ρ,_,ccs,w,QY q e x n,⟨BG a.fr v (VR.undef ρ),a.cs,a.h⟩,Ext.refl _ _ _⟩
  ·cases g
 ·cases g
omit hE in
theorem ED.congr {s t:Sem Next} {r:Res} (e:s.run E.P w=t.run E.P w) (d:ED E ρ h w t r):ED E ρ h w s r:=by
 cases r with
 |bad y=>trivial
 |_=>simpa only [ED,e] using d
def NS (a:Option Nat):Sem (Nat×List Deferred):=match a with
  |some l=>do pure ((←Instr.getLoop l).defers,[])
  |none=>do
   let r ←newObj (.deferred (some []))
   pure (r,[{target:=.collected r,args:=#[]}])
omit hE in
theorem Wr (hr:HR ρ h.blk.get w) (hf:FrR ρ f c) {d:Nat} {h1:Aa} {mark:List AD} (hc:Yz f h=some (d,h1,mark)) (hfree:AJ ρ h.nx h1.nx) :
  ∃σ w1 bd mark',(NS c.roundOf).run E.P w=.ok (bd.cb,mark') w1∧σ d=some bd∧DL σ mark mark'∧HR σ h1.blk.get w1∧Ext ρ σ h h1 w w1:=by
 have hround:=hf.round;unfold Yz at hc;split at hc
 ·rename_i l hrs;rw [hrs] at hround;obtain ⟨b,hb,hro⟩:=hround.some_inv;split at hc
  ·rename_i hl;simp only [Option.some.injEq,Prod.mk.injEq] at hc;obtain ⟨rfl,rfl,rfl⟩:=hc;obtain ⟨tm,bd,q1,q2,q3⟩:=hr.blk l b _ hb hl;have hg:=As E.P q3 (fun _ _ _ e=>by cases e)
   refine ⟨ρ,w,bd,[],?_,q1,trivial,hr,Ext.refl _ _ _⟩;simp only [hro,NS,Instr.getLoop,Sem.run_bind,hg,Result.andThen_ok,Sem.run_pure]
  ·cases hc
 ·rename_i hrn;rw [hrn] at hround;have hro:=hround.none_inv;simp only [Option.some.injEq,Prod.mk.injEq] at hc;obtain ⟨rfl,rfl,rfl⟩:=hc;obtain ⟨q1,q2⟩:=hr.new (hfree h.nx (Nat.le_refl _) (by simp [Aa.new])) (.deferred (some [])) (.deferred (some [])) 0 ⟨[],trivial,rfl⟩ {w with heap:=w.heap.push (.deferred (some []))} rfl rfl rfl rfl
  have hu:(ρ.upd h.nx ⟨w.heap.size,0,0⟩) h.nx=some ⟨w.heap.size,0,0⟩:=by simp [Ren.upd]
  refine ⟨_,_,⟨w.heap.size,0,0⟩,[{target:=.collected w.heap.size,args:=#[]}],?_,hu,⟨⟨_,hu,rfl⟩,trivial⟩,q1,q2⟩;simp only [hro,NS,Sem.run_bind,run_newObj,Result.andThen_ok,Sem.run_pure]
theorem iu (q:SR ρ s c ccs w) (N:c.mode=.run) {D:Operand} {params:Array Tmp} {assign body:Code} {k:List AI} {F:List Item} (R:IL ρ k F) (S:c.todo=.code (.rangeFunc D params assign body)::F)
  (p:G6 E s D params.toList assign body k=.next s') (hfree:AJ ρ s.h.nx s'.h.nx):AP E.P base ρ s.h c ccs w w s':=by
 unfold G6 at p;split at p
 ·rename_i d h1 mark u;split at p
  ·rename_i fn first captured G;split at p
   ·rename_i g args T H;split at p
    ·rename_i gf hg;cases p;have z:(h1.new (.loop .ready none s.fr.fn s.fr.nt s.fr.tmps params.toList assign body d)).nx=h1.nx+1:=rfl;obtain ⟨σ,w1,bd,mark',q1,q2,q3,V,A⟩:=Wr (E:=E) q.h q.fr u (fun b h1 h2=>hfree b h1 (by simp only [z];omega))
     have v:=q.fr.mono A.le;have n:σ h1.nx=none:=(A.free hfree) h1.nx (Nat.le_refl _) (by simp only [z];omega)
     have o:=Ren.le_upd n ⟨w1.heap.size,0,0⟩;obtain ⟨O,W⟩:=V.new n (.loop .ready none s.fr.fn s.fr.nt s.fr.tmps params.toList assign body d)
      (.loop {state:=.ready,pending:=none,fn:=c.fn,tmps:=c.tmps,params:=params,assign:=assign,body:=body,defers:=bd.cb}) 0
      ⟨c.tmps,bd,o.m _ _ q2,v.tm.mono o,by rw [v.fn]⟩
      {w1 with heap:=w1.heap.push (.loop {state:=.ready,pending:=none,fn:=c.fn,tmps:=c.tmps,params:=params,assign:=assign,body:=body,defers:=bd.cb})} rfl rfl rfl rfl
     have hu:(σ.upd h1.nx ⟨w1.heap.size,0,0⟩) h1.nx=some ⟨w1.heap.size,0,0⟩:=by simp [Ren.upd]
     have B:(Instr.enterLoop c.fn c.tmps params assign body c.roundOf).run E.P w=.ok (w1.heap.size,mark') {w1 with heap:=w1.heap.push (.loop {state:=.ready,pending:=none,fn:=c.fn,tmps:=c.tmps,params:=params,assign:=assign,body:=body,defers:=bd.cb})}:=by
      cases hro:c.roundOf with
      |some l=>
       rw [hro] at q1;simp only [NS,Sem.run_bind,Sem.run_pure] at q1;simp only [Instr.enterLoop,Sem.run_bind,Sem.run_pure,run_newObj,Result.andThen_ok];cases Q:(Instr.getLoop l).run E.P w with
       |ok a w2=>
        rw [Q] at q1;simp only [Result.andThen_ok,Result.ok.injEq,Prod.mk.injEq] at q1 ⊢;obtain ⟨⟨I,J⟩,K⟩:=q1;rw [I,J,K];exact ⟨⟨rfl,rfl⟩,rfl⟩
       |halt x w2=>rw [Q] at q1;cases q1
      |none=>
       rw [hro] at q1;simp only [NS,Sem.run_bind,Sem.run_pure,run_newObj,Result.andThen_ok,Result.ok.injEq,Prod.mk.injEq] at q1;obtain ⟨⟨I,J⟩,K⟩:=q1;simp only [Instr.enterLoop,Sem.run_bind,Sem.run_pure,run_newObj,Result.andThen_ok];rw [←I,←J,←K]
     refine AP.pre (A.trans W hfree) ?_ hfree;have i:=v.mono o;have L:=i.evR D;rw [G] at L;generalize M:c.eval D=cv at L;cases L with
     |func _ X _ _ Y c' Z r2 r3 r4 r5=>
      have ha:VL (σ.upd h1.nx ⟨w1.heap.size,0,0⟩) (first++[.func (.yield h1.nx) [] []]) (Y++[.func (.yield w1.heap.size) #[] #[]]):=
       VL.append ⟨r2,r3⟩ (VL.cons (.func _ _ [] [] [] [] ⟨_,hu,rfl⟩ rfl (by simp) rfl (by simp)) (VL.nil _))
      have j:=D9 hE O Z ⟨r4,r5⟩ ha;rw [H] at j;have he:T=_:=j.1;subst he
      refine Fe hE (c:={c with todo:=.inRangeFunc w1.heap.size::F,defers:=mark'++c.defers})
       (f:={s.fr with todo:=.inRange h1.nx::k,defers:=mark++s.fr.defers}) (cs:=s.cs) (L4 N S B) (j.congr ?_) O
       ⟨i.fn,i.tm,.cons (.inRange _ _ hu) ((R.mono A.le).mono o),(q3.mono o).append i.defers,i.mode,i.kind,i.round⟩ ((q.cs.mono A.le).mono o) N ?_ (fun b l1 l2=>absurd (Nat.lt_of_le_of_lt l1 l2) (Nat.lt_irrefl _))
      ·have C:c.eval (.const (.func (.yield w1.heap.size) #[] #[]))=.func (.yield w1.heap.size) #[] #[]:=rfl;simp [resolve,M,C,Deferred.ofValue]
      ·simp only [Bv,hg]
    ·cases p
   ·cases p
  ·cases p
 ·cases p
theorem Gq (g:SR ρ s c ccs w) (p:A4 E s=.next s') (hfree:AJ ρ s.h.nx s'.h.nx):AP E.P base ρ s.h c ccs w w s':=by
 have z:=g.fr.mode;have m:=g.fr.todo;unfold A4 at p;simp only at p;split at p
 ·rename_i D;rw [D] at z
  have v:c.mode=.run:=by
   generalize c.mode=x at z;cases z;rfl
  split at p
  ·rename_i B;rw [B] at m;generalize n:c.todo=td at m;cases m;exact G0 g.h g.fr g.cs v (.inl ⟨n,rfl⟩) p hfree
  ·rename_i id k B;rw [B] at m;generalize n:c.todo=td at m;cases m with|cons a u=>
   cases a;cases p;exact AP.to g u (Yh v n)
  ·rename_i id k B;rw [B] at m;generalize n:c.todo=td at m;cases m with|cons a u=>
   cases a;cases p;exact AP.to g u (XP v n)
  ·rename_i b k B;rw [B] at m;generalize n:c.todo=td at m;cases m with|cons a u=>
   cases a;cases p;exact AP.to g (.cons (.code _) (.cons (.inLoop _) u)) (ak v n)
  ·rename_i all k B;rw [B] at m;generalize n:c.todo=td at m;cases m with|cons a u=>
   cases a with|ops _ _ J K=>
   cases J with
   |cons i J=>cases K
   |nil=>
    cases p;exact AP.to g u (JX v n)
  ·rename_i all o rest k B;exact Aq1 hE g v D B p hfree
  ·cases p
  ·cases p
  ·cases p
  ·rename_i l k B;rw [B] at m;generalize n:c.todo=td at m;cases m with|cons a u=>
   cases a with|endRange _ b hb=>
   split at p
   ·rename_i st pending fn nt tmps params assign body d hl;split at p
    ·cases p
    ·rename_i N;cases p;obtain ⟨tm,bd,h1,H,L⟩:=g.h.blk l b _ hb hl;have hg:=As E.P L (fun _ _ _ e=>by cases e)
     obtain ⟨q1,q2⟩:=g.h.setObj hb (by rw [hl];exact fun e=>by cases e) (.loop .exhausted pending fn nt tmps params assign body d)
      (.loop {state:=.exhausted,pending,fn:=fn,tmps:=tm,params:=params.toArray,assign:=assign,body:=body,defers:=bd.cb}) ⟨tm,bd,h1,H,rfl⟩
     have O:=fun o'=>Az (o':=o') E.P L (fun _ _ _ e=>by cases e)
     have Q:(st==LoopState.busy)=false:=by
      cases st<;>first|rfl|exact absurd rfl N
     have M:(Instr.endLoop b.cb).run E.P w=.ok pending {w with heap:=w.heap.setIfInBounds b.cb (.loop {state:=.exhausted,pending,fn:=fn,tmps:=tm,params:=params.toArray,assign:=assign,body:=body,defers:=bd.cb})}:=by
      simp only [Instr.endLoop,Instr.getLoop,Sem.run_bind,hg,Result.andThen_ok,Sem.run_pure,Q,Bool.false_eq_true,if_false,O]
     refine ⟨ρ,_,ccs,_,XA v n M,⟨⟨g.fr.fn,g.fr.tm,?_,g.fr.defers,g.fr.mode,g.fr.kind,g.fr.round⟩,g.cs,q1⟩,q2⟩;cases pending with
     |none=>exact u
     |some j=>exact .cons (.code _) u
   ·cases p
  ·rename_i k B;rw [B] at m;generalize n:c.todo=td at m;cases m with|cons a u=>
   cases a;have hround:=g.fr.round;split at p
   ·rename_i l hrs;rw [hrs] at hround;obtain ⟨b,hb,hro⟩:=hround.some_inv;split at p
    ·rename_i pending fn nt tmps params assign body d hl;cases p;obtain ⟨tm,bd,h1,H,L⟩:=g.h.blk l b _ hb hl;have hg:=As E.P L (fun _ _ _ e=>by cases e)
     obtain ⟨q1,q2⟩:=g.h.setObj hb (by rw [hl];exact fun e=>by cases e) (.loop .busy pending fn nt tmps params assign body d)
      (.loop {state:=.busy,pending,fn:=fn,tmps:=tm,params:=params.toArray,assign:=assign,body:=body,defers:=bd.cb}) ⟨tm,bd,h1,H,rfl⟩
     have O:=fun o'=>Az (o':=o') E.P L (fun _ _ _ e=>by cases e)
     refine ⟨ρ,_,ccs,_,PE v n hro ?_,⟨⟨g.fr.fn,g.fr.tm,u,g.fr.defers,g.fr.mode,g.fr.kind,g.fr.round⟩,g.cs,q1⟩,q2⟩;simp only [Instr.beginRound,Instr.getLoop,Sem.run_bind,hg,Result.andThen_ok,Sem.run_pure,O]
    ·cases p
   ·cases p
  ·rename_i Y k B;rw [B] at m;generalize n:c.todo=td at m;cases m with|cons a u=>
   cases a;split at p
   ·exact G0 g.h g.fr g.cs v (.inr (.inl ⟨_,n,rfl⟩)) p hfree
   ·cases p;exact AP.to g u (kj v n)
   ·cases p;exact AP.to g u (dp v n)
   ·cases p;exact AP.to g (.cons (.code _) (.cons (.code _) u)) (Ade v n)
   ·rename_i F x y;have G:=g.fr.evR F;split at p
    ·rename_i C;rw [C] at G;generalize A:c.eval F=S at G;cases G;cases p;exact AP.to g (.cons (.code _) u) (MF v n A)
    ·rename_i C;rw [C] at G;generalize A:c.eval F=S at G;cases G;cases p;exact AP.to g (.cons (.code _) u) (MF v n A)
    ·rename_i pos e C;rw [C] at G;generalize A:c.eval F=S at G;cases G;split at p
     ·rename_i q V;have W:=Ar U.ok V;rw [W] at A;split at p
      ·rename_i R;rw [R] at A;cases p;exact AP.to g (.cons (.code _) u) (MF v n A)
      ·rename_i R;rw [R] at A;cases p;exact AP.to g (.cons (.code _) u) (MF v n A)
     ·cases p
    ·cases p
   ·cases p;exact AP.to g (.cons (.code _) (.cons (.inBlock _) u)) (io v n)
   ·cases p;exact AP.to g (.cons (.code _) (.cons (.inLoop _) u)) (lO v n)
   ·cases p;exact AP.to g (.cons (.code _) (.cons (.inScope _) u)) (gO v n)
   ·rename_i id;split at p
    ·rename_i k2 C;cases p;obtain ⟨X,h1,H⟩:=(N8 u).1 _ C;exact AP.to g H (lH v n h1)
    ·rename_i C;split at p
     ·cases p
     ·rename_i I;exact G0 g.h g.fr g.cs v (.inr (.inr (.inl ⟨_,_,n,(N8 u).2 C I,rfl⟩))) p hfree
   ·rename_i id;split at p
    ·rename_i k2 C;cases p;obtain ⟨X,h1,H⟩:=(N9 u).1 _ C;exact AP.to g H (lw v n h1)
    ·rename_i C;split at p
     ·cases p
     ·rename_i I;exact G0 g.h g.fr g.cs v (.inr (.inr (.inr ⟨_,_,n,(N9 u).2 C I,rfl⟩))) p hfree
   ·exact iu hE g v u n p hfree
   ·rename_i id ops T;split at p
    ·cases p;exact AP.to g (.cons (.ops _ _ _ (az _)) u) (aN v n)
    ·cases p
   ·cases p
 ·rename_i D;exact WC hE g.h g.fr g.cs (Hw.not_run z D) p
end
end Go.AE

