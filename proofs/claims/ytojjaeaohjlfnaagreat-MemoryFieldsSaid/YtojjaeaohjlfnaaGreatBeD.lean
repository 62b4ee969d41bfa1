/- What is proved here: an evaluator of the model's steps that the kernel can run, and that whatever it answers is what the model does (part 4 of 8: AeSlc, AeEqS, AeMap, AeMap2, AeCat, AeOps19, AeOps20, AeStep1, AeStep2, AeStep3, AeStep4, AeStep5, AeStep6). Conditions: those that each theorem states; they hold of no one program. -/
import Derived.Test.YtojjaeaohjlfnaaGreatBeC
set_option linter.unusedVariables false
set_option linter.unusedSectionVars false
set_option linter.unusedSimpArgs false
namespace Go.AE
variable [Gl:AH]
variable [U:Unk]
theorem JL {l u n:SE} (h:inB l u n=true):0≤Ac U.V l∧Ac U.V l≤Ac U.V u∧Ac U.V u≤Ac U.V n:=by
 unfold inB at h;obtain ⟨d,e⟩:=An h;obtain ⟨f,g⟩:=An d;have a:=Ip f;have b:=Ip g;have c:=Ip e;rw [Av,decide_eq_false_iff_not] at a b c;have z:Ac U.V (.c 0)=0:=rfl;rw [z] at a;omega
theorem EH {c:Ren} {d e:SE} {o:Option AV} {b:Option Value} (f:∀a,o=some a→∃v,b=some v∧VR c a v) (h0:o=none→b=none) (h:G6 d o=some e) :
  (b=none∧e=d)∨∃k,b=some (.int k (Ac U.V e)):=by
 cases o with
 |none=>cases h;exact .inl ⟨h0 rfl,rfl⟩
 |some a=>
  obtain ⟨v,g,hr⟩:=f a rfl;simp only [G6] at h;split at h
  ·rename_i k j i;cases h;exact .inr ⟨k,by rw [g,Ch hr i]⟩
  ·cases h
theorem aG {d:Ren} {o:Option AV} {e:Option Value} (f:∀a,o=some a→∃v,e=some v∧VR d a v):∀a,o.map Li=some a→∃v,e=some v∧VR d a v:=by
 intro a c;cases o with
 |none=>cases c
 |some b=>
  simp only [Option.map_some,Option.some.injEq] at c;subst c;obtain ⟨v,g,h⟩:=f b rfl;exact ⟨v,g,IA h⟩
omit U in
theorem WB [Facts] {o:Option AV} {o':Option Value} (h0:o=none→o'=none):o.map Li=none→o'=none:=by
 intro h;cases o with
 |none=>exact h0 rfl
 |some b=>cases h
theorem Ex {P:Program} {w:World} {kd:IntKind} {x:Int} {y:Nat} {code:BoundsCode} (h0:0≤x) (a:x≤y):(Instr.sliceBound (.int kd x) y code).run P w=.ok x.toNat w:=by
 simp [Instr.sliceBound,asIntOf,h0,a]
theorem G4 {P:Program} {w:World} {b:Bool} {len cap:Nat} {l u dl du:SE} {f hi':Option Value} (j:(f=none∧l=dl)∨∃k,f=some (.int k (Ac U.V l))) (n:(hi'=none∧u=du)∨∃k,hi'=some (.int k (Ac U.V u)))
  (g:Ac U.V dl=0) (i:Ac U.V du=len) (h0:0≤Ac U.V l) (q:Ac U.V l≤Ac U.V u) (r:Ac U.V u≤len) (s:len≤cap) :
  (Instr.sliceBounds b len cap f hi' none).run P w=.ok ((Ac U.V l).toNat,(Ac U.V u).toNat,cap) w:=by
 rcases n with ⟨a,c⟩|⟨k,a⟩
 ·subst a;subst c;rcases j with ⟨d,e⟩|⟨k,d⟩
  ·subst d;subst e;simp [Instr.sliceBounds,g,i]
  ·subst d;have:=Ex (P:=P) (w:=w) (kd:=k) (code:=.sliceB) h0 (show Ac U.V l≤(len:Int) by omega)
   simp [Instr.sliceBounds,i,this]
 ·subst a;have m:∀code,(Instr.sliceBound (.int k (Ac U.V u)) cap code).run P w=.ok (Ac U.V u).toNat w:=fun code=>Ex (by omega) (by omega)
  rcases j with ⟨d,e⟩|⟨p,d⟩
  ·subst d;subst e;simp [Instr.sliceBounds,g,m]
  ·subst d;have:=Ex (P:=P) (w:=w) (kd:=p) (code:=.sliceB) h0 (show Ac U.V l≤((Ac U.V u).toNat:Int) by omega)
   simp [Instr.sliceBounds,m,this]
theorem Eg {y l u:SE}:(Ab U.V (.sub y l u)).rows=((Ab U.V y).rows.drop (Ac U.V l).toNat).take ((Ac U.V u).toNat-(Ac U.V l).toNat):=rfl
theorem Lq {rows:List D} {l n i:Nat} (hi:i<n):((rows.drop l).take n).getD i default=rows.getD (l+i) default:=by
 rw [List.getD_eq_getElem?_getD,List.getD_eq_getElem?_getD,List.getElem?_take_of_lt hi,List.getElem?_drop]
theorem HR.swap {ρ:Ren} {h:Aa} {w:World} (hr:HR ρ h.blk.get w) {r:Nat} (hl:h.blk.get r≠none) (x:Ag) (hx:∀base,ρ r=some base→BR ρ x base w.heap[base.cb]?) :
  HR ρ (h.put r x).blk.get w∧Ext ρ ρ h (h.put r x) w w:=by
 have live:∀b,(h.put r x).blk.get b≠none→h.blk.get b≠none:=by
  intro b l;simp only [Aa.put,T.get_set] at l;by_cases e:r=b
  ·subst e;exact hl
  ·rw [if_neg e] at l;exact l
 refine ⟨⟨hr.lt,?_,fun b b' c c' J t ab l h2=>hr.apart b b' c c' J t ab (live b l) (live b' h2),hr.imm,fun k arr b c hk t l=>hr.off k arr b c hk t (live b l),hr.glob⟩,
  ⟨Ren.le_refl ρ,Nat.le_refl _,fun _ _ e=>.inl e,GH.refl w,fun _ _ _=>rfl,⟨[r],rfl,?_⟩,fun b l=>.inl (live b l),fun _ _ e=>.inl e⟩⟩
 ·intro b c y t I;simp only [Aa.put,T.get_set] at I;by_cases e:r=b
  ·subst e;rw [if_pos rfl] at I;cases I;exact hx c t
  ·rw [if_neg e] at I;exact hr.blk b c y t I
 ·intro b al _;simp only [Aa.put,T.get_set];rw [if_neg (fun e=>al (by simp [e]))]
section
variable {E:Env} (hE:OK E) {ρ:Ren} {h:Aa} {w:World}
include hE
theorem Nm (hr:HR ρ h.blk.get w) {t:TypeId} {x a:AV} {T:Value} {lo hi:Option AV} {f g:Option Value} {h':Aa} (Z:VR ρ x T)
  (J:∀a,lo=some a→∃v,f=some v∧VR ρ a v) (p:lo=none→f=none)
  (M:∀a,hi=some a→∃v,g=some v∧VR ρ a v) (r:hi=none→g=none)
  (d:Ph E t x lo hi h=some (a,h')):h'=h∧∃v,(Instr.sliceAt t T f g none).run E.P w=.ok v w∧VR ρ a v:=by
 unfold Ph at d;split at d
 ·rename_i e' y;split at d
  ·rename_i e l u hd N O;split at d
   ·rename_i ks hk;split at d
    ·rename_i Q;cases d;refine ⟨rfl,?_⟩;obtain ⟨c12,c3⟩:=An Q;obtain ⟨c1,c2⟩:=An c12;have h0:=Ay c1;subst h0;obtain ⟨b0,b1,W⟩:=JL c3;have s:U.K e=some ks:=by rw [hE.kd,←hE.ke];exact hk
     have p1:=EH J p N;have p2:=EH M r O;rw [Ai] at W;cases Z with
     |dat _ _ ad n cap A=>
      have I:(Ab U.V y).rows.length=n∧n≤cap:=by
       cases A with
       |nil _ _ k B=>rw [B];exact ⟨rfl,Nat.le_refl _⟩
       |empty _ _ _ _ k B=>rw [B];exact ⟨rfl,Nat.zero_le _⟩
       |slc _ _ _ _ _ _ _ _ _ _ q1 q2=>exact ⟨q1,q2⟩
      obtain ⟨I,Q⟩:=I;have q:=G4 (P:=E.P) (w:=w) (b:=true) (cap:=cap) p1 p2 rfl (by rw [Ai,I]) b0 b1 (by rw [←I];exact W) Q
      have C:(Instr.sliceAt t (.slice ad n cap) f g none).run E.P w=.ok (.slice (if cap=(Ac U.V l).toNat then ad else ad.map (·.add ((Ac U.V l).toNat*ks.length))) ((Ac U.V u).toNat-(Ac U.V l).toNat) (cap-(Ac U.V l).toNat)) w:=by
       simp [Instr.sliceAt,Instr.slice,hE.run_und hd,q,hE.run_szIs c2]
      refine ⟨_,C,?_⟩;refine .dat _ _ _ _ _ ?_;generalize X:(Ac U.V l).toNat=L at *;generalize Y:(Ac U.V u).toNat=H at *;have aa:L≤H:=by omega
      have R:H≤n:=by omega
      have c:(Ab U.V (.sub y l u)).rows.length=H-L:=by
       rw [Eg,X,Y];simp;omega
      cases A with
      |nil _ _ k B=>
       have z:L=0∧H=0:=by omega
       obtain ⟨rfl,rfl⟩:=z;simp only [Nat.sub_self,if_true];exact .nil _ _ k (List.eq_nil_of_length_eq_zero c)
      |empty _ a1 _ _ k B=>
       have z:L=0∧H=0:=by omega
       obtain ⟨rfl,rfl⟩:=z;have m:=List.eq_nil_of_length_eq_zero c;split
       ·exact .empty _ _ _ _ k m
       ·exact .empty _ _ _ _ k m
      |slc _ b o _ _ _ ab arr D S ac ae k af F hv=>
       rw [s] at D;cases D;by_cases G:cap=L
       ·rw [if_pos G];have z:H-L=0:=by omega
        rw [z] at c ⊢;exact .empty _ _ _ _ k (List.eq_nil_of_length_eq_zero c)
       ·rw [if_neg G];simp only [Option.map_some,BT]
        have key:∀i,i<H-L→(Ab U.V (.sub y l u)).rows.getD i default=(Ab U.V y).rows.getD (L+i) default:=by
         intro i hi;rw [Eg,X,Y,Lq hi]
        refine .slc _ _ _ _ _ _ ks arr s S c (by omega) k ?_ ?_ ?_
        ·have e1:L*ks.length+(H-L)*ks.length=H*ks.length:=by rw [←Nat.add_mul];congr 1;omega
         have e2:H*ks.length≤n*ks.length:=Nat.mul_le_mul_right _ R;omega
        ·intro i hi;rw [key i hi];exact F _ (by omega)
        ·intro i j kd hi hj;rw [key i hi];have:=hv (L+i) j kd (by omega) hj
         rw [show o+L*ks.length+i*ks.length+j=o+(L+i)*ks.length+j by rw [Nat.add_mul];omega]
         exact this
    ·cases d
   ·cases d
  ·cases d
 ·cases d
theorem NB (hr:HR ρ h.blk.get w) {t e:TypeId} {b z:Nat} {n B y l u K:SE} {L:Value} {a d:Option Value} (M:E.desc t=some (.slice e)) (c2:E.szIs e z=true) (N:h.blk.get b=some (.arr e y)) (S:VR ρ (.asl b z n B) L)
  (p1:(a=none∧l=.c 0)∨∃k,a=some (.int k (Ac U.V l))) (p2:(d=none∧u=K)∨∃k,d=some (.int k (Ac U.V u))) (C:Ac U.V K=Ac U.V n) (r:Ac U.V l=0) (T:0≤Ac U.V u) (bn:Ac U.V u≤Ac U.V n) (W:Ac U.V u≤Ac U.V (.lenL y)) :
  AP E ρ h (h.put b (.arr e (.sub y (.c 0) u))) w (Instr.sliceAt t L a d none) (.asl b z (.lenL (.sub y (.c 0) u)) B):=by
 have A:Ac U.V (.lenL (.sub y (.c 0) u))=Ac U.V u:=by
  rw [Ai,Eg];rw [Ai] at W;have:Ac U.V (.c 0)=0:=rfl;rw [this];simp;omega
 have s:∀base,ρ b=some base→BR ρ (.arr e (.sub y (.c 0) u)) base w.heap[base.cb]?:=by
  intro base g;obtain ⟨v,D,X,Y,F,G,H,I,m⟩:=hr.blk b base _ g N;refine ⟨v,D,X,Y,F,G,H,I,?_⟩
  have x:(Ab U.V (.sub y (.c 0) u)).rows.length≤(Ab U.V y).rows.length:=by
   rw [Eg];simp;omega
  have key:∀i,i<(Ab U.V (.sub y (.c 0) u)).rows.length→(Ab U.V (.sub y (.c 0) u)).rows.getD i default=(Ab U.V y).rows.getD i default:=by
   intro i hi;rw [Eg] at hi ⊢;have:Ac U.V (.c 0)=0:=rfl;rw [this] at hi ⊢;rw [Lq (by simp at hi;omega)]
   congr 1
   simp
  refine ⟨?_,?_,?_⟩
  ·have:=m.1;have:=Nat.mul_le_mul_right v.length x;omega
  ·intro i hi;rw [key i hi];exact m.2.1 i (by omega)
  ·intro i j kd hi Z;rw [key i hi];exact m.2.2 i j kd (by omega) Z
 obtain ⟨O,Q⟩:=hr.swap (show h.blk.get b≠none by rw [N];exact Option.some_ne_none _) _ s
 cases S with
 |asl _ _ _ _ cap base g R qc qz J=>
  have q:=G4 (P:=E.P) (w:=w) (b:=true) (len:=(Ac U.V n).toNat) (cap:=cap) p1 p2 rfl (by omega) (by omega) (by omega) (by omega) qc
  rw [r] at q
  have f:(Instr.sliceAt t (.slice (some ⟨base.cb,base.co,none⟩) (Ac U.V n).toNat cap) a d none).run E.P w=.ok (.slice (some ⟨base.cb,base.co,none⟩) (Ac U.V u).toNat cap) w:=by
   simp [Instr.sliceAt,Instr.slice,hE.run_und M,q,hE.run_szIs c2,BT]
  refine ⟨ρ,_,w,f,?_,O,Q⟩;have:=VR.asl (ρ:=ρ) b z (.lenL (.sub y (.c 0) u)) B cap base g (by rw [A];exact T) (by rw [A];omega) qz J
  rw [A] at this;exact this
 |aslEnd _ _ _ _ ad R J=>
  have p:Ac U.V u=0:=by omega
  have q:=G4 (P:=E.P) (w:=w) (b:=true) (len:=0) (cap:=0) p1 p2 rfl (by rw [C,R];rfl) (by omega) (by omega) (by rw [p];exact Int.le_refl _) (Nat.le_refl _)
  rw [r,p] at q
  have f:(Instr.sliceAt t (.slice ad 0 0) a d none).run E.P w=.ok (.slice ad 0 0) w:=by
   simp [Instr.sliceAt,Instr.slice,hE.run_und M,q,hE.run_szIs c2]
  exact ⟨ρ,_,w,f,.aslEnd _ _ _ _ _ (by rw [A];exact p) J,O,Q⟩
theorem U5 (hr:HR ρ h.blk.get w) {t:TypeId} {x a:AV} {T:Value} {lo hi L:Option AV} {s z A:Option Value} {h':Aa} (G:VR ρ x T)
  (i:∀a,lo=some a→∃v,s=some v∧VR ρ a v) (d:lo=none→s=none)
  (j:∀a,hi=some a→∃v,z=some v∧VR ρ a v) (f:hi=none→z=none)
  (N:∀a,L=some a→∃v,A=some v∧VR ρ a v) (g:L=none→A=none)
  (O:L≠none→hi≠none)
  (c:sliceB E t x lo hi L h=some (a,h')):AP E ρ h h' w (Instr.sliceAt t T s z A) a:=by
 unfold sliceB at c;split at c
 ·have H:=g rfl;subst H;obtain ⟨rfl,q⟩:=Nm hE hr G i d j f c;exact Az hr q
 ·rename_i y;have H:=g rfl;subst H;split at c
  ·rename_i l u M k m;split at c
   ·rename_i r;cases c;obtain ⟨I,B,C⟩:=JL r;have p1:=EH i d k;have p2:=EH j f m;cases G with
    |ss _=>
     refine Az hr ⟨_,?_,.ss (.strSub y l u)⟩;rw [CJ] at C;have J:(AR U.V y).size=(AR U.V y).data.toList.length:=by simp
     have q:=G4 (P:=E.P) (w:=w) (b:=false) (len:=(AR U.V y).size) (cap:=(AR U.V y).size) p1 p2 rfl (by rw [CJ,J]) I B (by rw [J];exact C) (Nat.le_refl _)
     have e:AR U.V (.strSub y l u)=(AR U.V y).extract (Ac U.V l).toNat (Ac U.V u).toNat:=rfl;rw [e];simp [Instr.sliceAt,Instr.slice,hE.run_und M,q]
   ·cases c
  ·cases c
 ·rename_i b es n nl;have H:=g rfl;subst H;split at c
  ·rename_i e e' y M W;split at c
   ·rename_i r;obtain ⟨c12,c3⟩:=An r;obtain ⟨c1,c2⟩:=An c12;have h0:=Ay c1;subst h0;have K:=Fq c3;split at c
    ·rename_i l u k m;split at c
     ·rename_i D;split at c
      ·rename_i Q;cases c;obtain ⟨I,B,C⟩:=JL Q;rw [BD] at I B
       have F:Ac U.V l=0:=by
        cases l<;>simp only [Yu] at D<;>first|cases D|skip
        simpa [BD] using D
       exact NB hE hr M c2 W G (EH i d k) (EH j f m) K.symm F B (by rw [K];exact C) C
      ·cases c
     ·split at c;rename_i x' h1 Y;obtain ⟨Z,g1,X,R⟩:=KZ hE hr G Y;obtain ⟨rfl,v,q1,q2⟩:=Nm hE X g1 (fun a S=>let ⟨v,p,q⟩:=i a S;⟨v,p,q.mono R.le⟩) d (fun a S=>let ⟨v,p,q⟩:=j a S;⟨v,p,q.mono R.le⟩) f c
      exact ⟨Z,v,w,q1,q2,X,R⟩
    ·cases c
   ·split at c
    ·rename_i l hv u k m;split at c
     ·rename_i r;cases c;obtain ⟨c1,r⟩:=An r;obtain ⟨c2,r⟩:=An r;obtain ⟨D,r⟩:=An r;obtain ⟨c3,c4⟩:=An r;have h0:=Ay c1;subst h0;obtain ⟨I,B,C⟩:=JL c3;obtain ⟨_,_,b3⟩:=JL c4;rw [BD] at I B
      have F:Ac U.V l=0:=by
       cases l<;>simp only [Yu] at D<;>first|cases D|skip
       simpa [BD] using D
      exact NB hE hr M c2 W G (EH i d k) (EH j f m) rfl F B C b3
     ·cases c
    ·cases c
  ·cases c
 ·split at c
  ·rename_i a' hs;cases c
   exact Az hr (U3 hE hr G (aG i) (WB d) (aG j) (WB f) (aG N) (WB g) (fun q=>by cases hi with
    |none=>exact absurd rfl (O (fun e=>q (by rw [e];rfl)))
    |some a=>simp) hs)
  ·cases c
end
end Go.AE
namespace Go.AE
variable [Gl:AH]
variable [U:Unk]
theorem G2 {b:Ren} {x:AV} {a:Value} {e:SE} (c:VR b x a) (h:QD x=some e):a=.string (AR U.V e):=by
 cases c<;>simp only [QD] at h<;>first | (cases h;done)|skip
 ·rename_i s;cases h
  have d:AR U.V (.strc s.data.toList.length (AA s.data.toList))=s:=by
   show (⟨(C1 _ _).toArray⟩:ByteArray)=s;rw [DX (U:=U)]
  rw [d]
 ·cases h;rfl
theorem Jl {d:Ren} {x:AV} {c:Value} {e:SE} (f:VR d x c) (h:LJ x=some e):c=.bool (Ad U.V e):=by
 cases f
 case bool b=>simp only [LJ,Option.some.injEq] at h;subst h;rfl
 case sb p a=>
  cases p with
  |true=>
   simp only [LJ,Option.some.injEq] at h;subst h;have:Ad U.V (.and a (.bc true))=(Ad U.V a&&true):=rfl;rw [this];cases Ad U.V a<;>rfl
  |false=>
   simp only [LJ,Option.some.injEq] at h;subst h;have:Ad U.V (.neg a)=(!Ad U.V a):=rfl;rw [this];cases Ad U.V a<;>rfl
 all_goals (simp only [LJ] at h;cases h)
theorem TH (a b:SE):Ad U.V (Za a b)=(Ad U.V a&&Ad U.V b):=by
 unfold Za;split
 ·show Ad U.V a=(Ad U.V a&&true);rw [Bool.and_true]
 ·rfl
theorem TG (a b:SE):Ad U.V (bS a b)=(Ac U.V a==Ac U.V b):=by
 unfold bS;split<;>rfl
theorem TW (a b:SE):Ad U.V (au a b)=(Ad U.V a==Ad U.V b):=by
 show (!((!(Ad U.V a&&Ad U.V b))&&(!((!Ad U.V a)&&(!Ad U.V b)))))=_;cases Ad U.V a<;>cases Ad U.V b<;>rfl
section
variable {E:Env} (hE:OK E) {ρ:Ren} {w:World}
include hE
theorem HX {d:Nat} (ih:∀(t:TypeId) (x y:AV) (r:SE) (k l:Value),HA E d t x y=some r→VR ρ x k→VR ρ y l→(Op.equalIn d t k l).run E.P w=.ok (Ad U.V r) w)
  {m n:List AV} {c g:List Value} (o:VL ρ m c) (p:VL ρ n g):∀{i:List Field} {r:SE},Fg E (HA E d) m n i=some r→
  (Op.eqFields d c.toArray g.toArray i).run E.P w=.ok (Ad U.V r) w
 |[],r,h=>by simp only [Fg,Option.some.injEq] at h;subst h;simp only [Op.eqFields,Sem.run_pure];rfl
 |f::i,r,h=>by
  simp only [Fg] at h;split at h
  ·cases h
  ·rename_i q;have j:f.name≠ "_":=by simpa using q
   split at h
   ·rename_i a b s u;split at h
    ·rename_i e H v z;cases h;obtain ⟨I,A,B⟩:=hE.run_part s o w;obtain ⟨J,C,D⟩:=hE.run_part u p w;have F:=ih _ _ _ _ _ _ v B D;have G:=HX ih o p z;simp only [Op.eqFields,ne_eq,j,not_false_eq_true,if_true,Sem.run_bind,A,C,F,Result.andThen_ok,TH];cases Ad U.V e with
     |true=>simp only [Bool.not_true,Bool.false_eq_true,if_false,Bool.true_and];exact G
     |false=>simp
    ·cases h
   ·cases h
theorem Kq {d:Nat} (ih:∀(t:TypeId) (x y:AV) (r:SE) (g j:Value),HA E d t x y=some r→VR ρ x g→VR ρ y j→(Op.equalIn d t g j).run E.P w=.ok (Ad U.V r) w)
  {l m:List AV} {c f:List Value} (o:VL ρ l c) (p:VL ρ m f) {e:TypeId} {n:Nat}:∀{k i:Nat} {r:SE},Gw E (HA E d) e n l m k i=some r→
  (Op.eqItems d e n c.toArray f.toArray (List.range' i k)).run E.P w=.ok (Ad U.V r) w
 |0,i,r,h=>by simp only [Gw,Option.some.injEq] at h;subst h;simp only [List.range'_zero,Op.eqItems,Sem.run_pure];rfl
 |k+1,i,r,h=>by
  simp only [Gw] at h;split at h
  ·rename_i a b q s;split at h
   ·rename_i x y u v;cases h;obtain ⟨G,z,A⟩:=hE.run_part q o w;obtain ⟨H,B,C⟩:=hE.run_part s p w;have D:=ih _ _ _ _ _ _ u A C;have F:=Kq ih o p v;simp only [List.range'_succ,Op.eqItems,Sem.run_bind,z,B,D,Result.andThen_ok,TH];cases Ad U.V x with
    |true=>simp only [Bool.not_true,Bool.false_eq_true,if_false,Bool.true_and];exact F
    |false=>simp
   ·cases h
  ·cases h
theorem OU:∀(d:Nat) (t:TypeId) (x y:AV) (r:SE) (s u:Value),HA E d t x y=some r→VR ρ x s→VR ρ y u→(Op.equalIn d t s u).run E.P w=.ok (Ad U.V r) w:=by
 intro d
 induction d with
 |zero=>intro t x y r s u h;simp [HA] at h
 |succ d ih=>
  intro t x y r s u h j l;simp only [HA] at h;split at h
  ·rename_i c;have m:=hE.run_und c w;split at h
   ·rename_i a b n o;cases h;rw [Jl j n,Jl l o,TW];simp [Op.equalIn,m]
   ·cases h
  ·rename_i J c;have m:=hE.run_und c w;split at h
   ·rename_i k a D b n o;split at h
    ·rename_i v;cases h;have v:k=D:=by simpa using v
     subst v;rw [Ch j n,Ch l o,TG];simp [Op.equalIn,m]
    ·cases h
   ·cases h
  ·rename_i c;have m:=hE.run_und c w;split at h
   ·rename_i a b n o;cases h;rw [G2 j n,G2 l o]
    have e:Ad U.V (.eqSS a b)=((AR U.V a).toList==(AR U.V b).toList):=by
     rw [Mi,Ck]
    rw [e];simp only [Op.equalIn,Sem.run_bind,m,Result.andThen_ok,Sem.run_pure];rw [beq_toListBytes]
   ·cases h
  ·rename_i F c;split at h
   ·rename_i G H;split at h
    ·cases h
    ·rename_i I;cases j with
     |agg _ g a1 a2=>
      cases l with
      |agg _ i z A=>
       have f:=hE.und c;have p:E.P.fieldsOf t=F:=by simp [Program.fieldsOf,f]
       rw [run_equalIn_struct w d t g.toArray i.toArray (by rw [p];exact f) I,p]
       exact HX hE ih ⟨a1,a2⟩ ⟨z,A⟩ h
   ·cases h
  ·rename_i len e c;split at h
   ·rename_i G H;split at h
    ·rename_i C;cases j with
     |agg _ g a1 a2=>
      cases l with
      |agg _ i z A=>
       unfold Env.has at C;cases hi:E.ty.get e with
       |none=>simp [hi] at C
       |some q=>
        have B:E.P.cellsOf e=E.size e:=by simp [Program.cellsOf,hE.ty e q hi,Env.size,hi]
        rw [run_equalIn_array w d g.toArray i.toArray (hE.und c) (hE.ty e q hi),B,List.range_eq_range'];exact Kq hE ih ⟨a1,a2⟩ ⟨z,A⟩ h
    ·cases h
   ·cases h
  ·cases h
theorem VI {b:BinOp} {t:TypeId} {ox j:Operand} {x y r:AV} {f g:Value} (k:VR ρ x f) (l:VR ρ y g) (hr:Vy E b t x y=some r) :
  ∃v,(do eqGuard b t ox j f g;binOp b t f g:Sem Value).run E.P w=.ok v w∧VR ρ r v:=by
 unfold Vy at hr;split at hr
 ·rename_i u z;split at hr
  ·cases hr
  ·rename_i i;split at hr
   ·rename_i e o;have a:=OU (w:=w) hE 10000 t _ _ e f g o k l;cases k with
    |agg _ c a1 a2=>
     cases l with
     |agg _ d A B=>
      have m:(eqGuard b t ox j (.agg c.toArray) (.agg d.toArray)).run E.P w=.ok () w:=BU (by simp) (fun _ _=>i)
      obtain ⟨p,s⟩:=D9 t (.agg c.toArray) (.agg d.toArray) (by simp) (by simp) (by simp) (by simp)
      split at hr
      ·rename_i q h;cases hr;have n:=GA ρ q e;cases b<;>simp only [BL,Option.some.injEq] at h<;>first | (cases h;done)|skip
       ·subst h;refine ⟨.bool (Ad U.V e),?_,?_⟩
        ·simp only [Sem.run_bind,m,Result.andThen_ok,p,Op.equal,Op.maxDepth,a,Sem.run_pure]
        ·rwa [show (Ad U.V e==true)=Ad U.V e by cases Ad U.V e<;>rfl] at n
       ·subst h;refine ⟨.bool (!Ad U.V e),?_,?_⟩
        ·simp only [Sem.run_bind,m,Result.andThen_ok,s,Op.equal,Op.maxDepth,a,Sem.run_pure]
        ·rwa [show (Ad U.V e == !true) = !Ad U.V e by cases Ad U.V e<;>rfl] at n
      ·cases hr
   ·cases hr
 ·cases hr
theorem bL {t:TypeId} {k key:AV} {d a:Value} {b:Bool} (h:eqK E t k key=some b) (f:VR ρ k d) (g:VR ρ key a):(Op.equal t d a).run E.P w=.ok b w:=by
 unfold eqK at h;split at h
 ·rename_i c i;cases h;exact R6 (w:=w) hE 10000 t k key b d a i f g
 ·split at h
  ·rename_i e j;have:=OU (w:=w) hE 10000 t k key e d a j f g;rw [As U.ok h] at this;exact this
  ·cases h
theorem J9 {t:TypeId} {k:AV} {g:Value} (l:VR ρ k g):∀{j:List Aj} {c:List MapEntry} {i:Nat} {r:Option (Nat×AV)},ER ρ j c→ES E t k j i=some r→
  ∃d,FR ρ r d∧(Instr.findAsking t g c i).run E.P w=.ok d w
 |[],[],i,r,_,h=>by
  simp only [ES,Option.some.injEq] at h;subst h;exact ⟨none,trivial,by simp [Instr.findAsking]⟩
 |e::j,m::c,i,r,⟨n,o,u,p⟩,h=>by
  simp only [ES] at h;cases f:eqK E t k e.key with
  |none=>simp [f] at h
  |some b=>
   have a:(Op.equal t g m.key).run E.P w=.ok b w:=bL hE f l n;cases b with
   |true=>
    simp only [f,Option.some.injEq] at h;subst h;exact ⟨some (i,m.val),⟨rfl,o⟩,by simp [Instr.findAsking,a]⟩
   |false=>
    simp only [f] at h;obtain ⟨d,q,s⟩:=J9 l p h;exact ⟨d,q,by simp [Instr.findAsking,a,s]⟩
omit hE in
theorem Jc {d:Nat} {t:TypeId} {ds:TypeDesc} (hd:E.desc t=some ds) {x y:AV} {e:SE} {b:Bool} {xv yv:Value} (he:HA E (d+1) t x y=some e) (hb:Ad U.V e=b) (hx:VR ρ x xv) (hy:VR ρ y yv) :
  Instr.sameNow ds xv yv=some b∨∀u v,Instr.sameNow ds u v=none:=by
 simp only [HA,hd] at he;cases ds with
 |int q=>
  simp only at he;split at he
  ·rename_i k a k' c h1 h2;split at he
   ·rename_i hk;cases he;have hk:k=k':=by simpa using hk
    subst hk;rw [Ch hx h1,Ch hy h2];rw [TG] at hb;exact .inl (by simp [Instr.sameNow,hb])
   ·cases he
  ·cases he
 |string=>
  simp only at he;split at he
  ·rename_i a c h1 h2;cases he;rw [G2 hx h1,G2 hy h2];rw [Mi,Ck] at hb;exact .inl (by simp only [Instr.sameNow];rw [beq_toListBytes,hb])
  ·cases he
 |bool=>
  simp only at he;split at he
  ·rename_i a c h1 h2;cases he;rw [Jl hx h1,Jl hy h2];rw [TW] at hb;exact .inl (by simp [Instr.sameNow,hb])
  ·cases he
 |_=>exact .inr (fun u v=>by cases u<;>cases v<;>rfl)
omit hE in
theorem PQ {t:TypeId} {ds:TypeDesc} (hd:E.desc t=some ds) {x y:AV} {b:Bool} {xv yv:Value} (ha:eqK E t x y=some b) (hx:VR ρ x xv) (hy:VR ρ y yv) :
  Instr.sameNow ds xv yv=some b∨∀u v,Instr.sameNow ds u v=none:=by
 unfold eqK at ha;split at ha
 ·rename_i c hc;cases ha;exact Me (d:=9999) hd hc hx hy
 ·split at ha
  ·rename_i e he;have hb:=As U.ok ha;exact Jc (d:=9999) hd he hb hx hy
  ·cases ha
omit hE in
theorem Kl {t:TypeId} {ds:TypeDesc} (hd:E.desc t=some ds) {k:AV} {kv:Value} (hk:VR ρ k kv) (hq:¬∀u v,Instr.sameNow ds u v=none):∀{es:List Aj} {es':List MapEntry} {i:Nat} {r:Option (Nat×AV)},ER ρ es es'→ES E t k es i=some r→
  ∃r',FR ρ r r'∧Instr.findNow ds kv es' i=some r'
 |[],[],i,r,_,h=>by
  simp only [ES,Option.some.injEq] at h;subst h;exact ⟨none,trivial,rfl⟩
 |e::es,e'::es',i,r,⟨h1,h2,h3,h4⟩,h=>by
  simp only [ES] at h;cases ha:eqK E t k e.key with
  |none=>simp [ha] at h
  |some b=>
   have hs:Instr.sameNow ds kv e'.key=some b:=(PQ hd ha hk h1).resolve_right hq;cases b with
   |true=>
    simp only [ha,Option.some.injEq] at h;subst h;exact ⟨some (i,e'.val),⟨rfl,h2⟩,by simp [Instr.findNow,hs]⟩
   |false=>
    simp only [ha] at h;obtain ⟨r',q1,q2⟩:=Kl hd hk hq h4 h;exact ⟨r',q1,by simp [Instr.findNow,hs,q2]⟩
theorem J7 {t:TypeId} {ds:TypeDesc} (hd:E.desc t=some ds) {k:AV} {kv:Value} (hk:VR ρ k kv) {es:List Aj} {es':List MapEntry} {r:Option (Nat×AV)} (he:ER ρ es es') (h:ES E t k es 0=some r) :
  ∃r',FR ρ r r'∧(Instr.findKey t kv es').run E.P w=.ok r' w:=by
 by_cases hq:∀u v,Instr.sameNow ds u v=none
 ·cases es' with
  |nil=>
   cases es with
   |nil=>
    simp only [ES,Option.some.injEq] at h;subst h;exact ⟨none,trivial,by simp [Instr.findKey,hE.run_und hd,Instr.findNow]⟩
   |cons e es=>cases he
  |cons e' es'=>
   obtain ⟨r',q1,q2⟩:=J9 (w:=w) hE hk he h;exact ⟨r',q1,by simp [Instr.findKey,hE.run_und hd,Instr.findNow,hq,q2]⟩
 ·obtain ⟨r',q1,q2⟩:=Kl hd hk hq he h;exact ⟨r',q1,by simp [Instr.findKey,hE.run_und hd,q2]⟩
end
end Go.AE
namespace Go.AE
variable [Gl:AH]
section
variable [U:Unk]
theorem WG (V:Val):∀e:SE,Ad V e=(K7 e).all (Ad V):=by
 intro e
 induction e with
 |and a b c d=>
  show (Ad V a&&Ad V b)=(K7 a++K7 b).all (Ad V);rw [List.all_append,←c,←d]
 |bc b=>
  cases b with
  |true=>rfl
  |false=>rfl
 |_=>simp [K7]
theorem Mx:∀{l m:List SE},KE l m=true→l=m
 |[],[],_=>rfl
 |a::l,b::m,h=>by
  simp only [KE] at h;obtain ⟨c,d⟩:=An h;rw [SE.same_eq c,Mx d]
 |[],_::_,h=>by cases h
 |_::_,[],h=>by cases h
theorem NK (l b a c:Nat):strEq l b a c=strEq a c l b:=by
 simp only [strEq];rw [Bool.eq_iff_iff];simp only [Bool.and_eq_true,Nat.beq_eq];constructor<;>(rintro ⟨rfl,rfl⟩;exact ⟨rfl,rfl⟩)
theorem CY {b:Type} {a:b} {l:List b} {d:b} (q:Nat):(a::l).getD (q+1) d=l.getD q d:=by
 simp [List.getD_eq_getElem?_getD]
theorem Nd {b:Type} {a:b} {l:List b} {d:b}:(a::l).getD 0 d=a:=rfl
theorem Qy (V:Val):∀(ks:List Kd) (i j:Nat) (c1 c2:List D),JQ ks=true→ks.length≤c1.length→ks.length≤c2.length→(∀q,q<ks.length→V.d (j+q)=c1.getD q default)→(∀q,q<ks.length→V.d (i+q)=c2.getD q default)→
  (S0 i j ks).all (Ad V)=D0 ks c1 c2
 |[],i,j,c1,c2,_,_,_,_,_=>by cases c1<;>cases c2<;>rfl
 |k::ks,i,j,[],c2,_,h,_,_,_=>by simp at h
 |k::ks,i,j,_::_,[],_,_,h,_,_=>by simp at h
 |k::ks,i,j,a::c1,b::c2,c,p,r,n,o=>by
  have f:V.d j=a:=by have:=n 0 (by simp);simpa using this
  have g:V.d i=b:=by have:=o 0 (by simp);simpa using this
  have l:=fun m=>Qy V ks (i+1) (j+1) c1 c2 m (by simpa using p) (by simpa using r)
   (fun q s=>by have:=n (q+1) (by simp;omega);rw [CY] at this;rw [←this];congr 1;omega)
   (fun q s=>by have:=o (q+1) (by simp;omega);rw [CY] at this;rw [←this];congr 1;omega)
  simp only [S0,List.all_cons];cases k with
  |int k=>
   rw [l c];show (((V.d i).toInt==(V.d j).toInt)&&_)=((a.toInt==b.toInt)&&_);rw [f,g,Bool.beq_comm]
  |bool=>
   rw [l c]
   have:Ad V (aU i j .bool)=(a.toBool==b.toBool):=by
    show (!((!(((V.d i).toBool&&true)&&((V.d j).toBool&&true)))&&(!((!((V.d i).toBool&&true))&&(!((V.d j).toBool&&true))))))=_;rw [f,g];cases a.toBool<;>cases b.toBool<;>rfl
   rw [this];rfl
  |str=>
   rw [l c]
   have:Ad V (aU i j .str)=D.strEq a b:=by
    show strEq (V.d i).toStr.data.toList.length (AA (V.d i).toStr.data.toList) (V.d j).toStr.data.toList.length (AA (V.d j).toStr.data.toList)=_;rw [f,g,NK];rfl
   rw [this];rfl
  |slice e=>simp [JQ] at c
theorem YM {ρ:Ren} {j:Nat} {kd:Kd} {v:Value} {K:TypeId→Option (List Kd)} {M:Nat→Option (Array Value)} (h:DV K M kd v (U.V.d j)):VR ρ (eR j kd) v:=by
 cases h with
 |int k n _ hr e=>
  have:Ac U.V (.var j)=n:=e;rw [←this];exact .si k (.var j)
 |bool b _ e=>
  have:Ad U.V (.var j)=b:=e;have q:=VR.sb (ρ:=ρ) true (.var j);rw [this,show (b==true)=b by cases b<;>rfl] at q
  exact q
 |str s _ e=>
  have:AR U.V (.var j)=s:=e;rw [←this];exact .ss (.var j)
 |_=>exact .top _
theorem Mb {a:Ren} {K:TypeId→Option (List Kd)} {M:Nat→Option (Array Value)}:∀(ks:List Kd) (j:Nat) (l:List Value),l.length=ks.length→(∀q kd,ks[q]?=some kd→DV K M kd (l.getD q Go.undef) (U.V.d (j+q)))→VL a (M2 j ks) l
 |[],j,[],_,_=>VL.nil a
 |k::ks,j,v::l,h,g=>by
  refine VL.cons (YM (g 0 k rfl)) (Mb (K:=K) (M:=M) ks (j+1) l (by simpa using h) fun q kd b=>?_)
  have:=g (q+1) kd (by simpa using b)
  rw [CY] at this
  rwa [show j+(q+1)=j+1+q by omega] at this
theorem Pd {ρ:Ren} {l:List AV} {c:List Value} (h:VL ρ l c):VR ρ (M9 l) (S8 c):=by
 cases l with
 |nil=>
  have:=h.nil_inv;subst this;exact .agg [] [] h.1 h.2
 |cons a l=>
  obtain ⟨v,r,rfl,e,d⟩:=h.cons_inv;cases l with
  |nil=>
   have:=d.nil_inv;subst this;exact e
  |cons b l=>
   obtain ⟨f,g,rfl,_,_⟩:=d.cons_inv;exact .agg _ _ h.1 h.2
theorem T5 {K:TypeId→Option (List Kd)} {M:Nat→Option (Array Value)}:∀(ks:List Kd) (c l2:List Value) (c1 c2:List D),JQ ks=true→c.length=ks.length→l2.length=ks.length→(∀(j:Nat) kd,ks[j]?=some kd→DV K M kd (c.getD j Go.undef) (c1.getD j default))→(∀(j:Nat) kd,ks[j]?=some kd→DV K M kd (l2.getD j Go.undef) (c2.getD j default))→
  D0 ks c1 c2=true→c=l2
 |[],[],[],_,_,_,_,_,_,_,_=>rfl
 |k::ks,v::c,u::l2,[],c2,d,r,f,o,p,h=>by cases k<;>simp [D0] at h
 |k::ks,v::c,u::l2,_::_,[],d,r,f,o,p,h=>by cases k<;>simp [D0] at h
 |k::ks,v::c,u::l2,a::c1,b::c2,d,r,f,o,p,h=>by
  have s:=fun t z=>T5 ks c l2 c1 c2 t (by simpa using r) (by simpa using f)
   (fun q kd w=>by have:=o (q+1) kd (by simpa using w);rwa [CY,CY] at this)
   (fun q kd w=>by have:=p (q+1) kd (by simpa using w);rwa [CY,CY] at this) z
  have d1:=o 0 k rfl;have d2:=p 0 k rfl;simp only [Nd] at d1 d2;cases k with
  |slice e=>simp [JQ] at d
  |int k=>
   simp only [D0] at h;obtain ⟨g,i⟩:=An h;rw [s d i];cases d1 with
   |int _ x _ _ l=>
    cases d2 with
    |int _ y _ _ m=>
     have:a.toInt=b.toInt:=by simpa using g
     rw [l,m] at this;rw [this]
  |bool=>
   simp only [D0] at h;obtain ⟨g,i⟩:=An h;rw [s d i];cases d1 with
   |bool x _ l=>
    cases d2 with
    |bool y _ m=>
     have:a.toBool=b.toBool:=by simpa using g
     rw [l,m] at this;rw [this]
  |str=>
   simp only [D0] at h;obtain ⟨g,i⟩:=An h;rw [s d i];cases d1 with
   |str x _ l=>
    cases d2 with
    |str y _ m=>
     have:a.toStr.toList=b.toStr.toList:=by
      have n:strEq a.toStr.data.toList.length (AA a.toStr.data.toList) b.toStr.data.toList.length (AA b.toStr.data.toList)=true:=g;rw [Ck] at n;simpa using n
     have f:a.toStr=b.toStr:=by
      rw [ByteArray.toList_eq,ByteArray.toList_eq] at this;exact ByteArray.ext (Array.toList_inj.1 this)
     rw [l,m] at f;rw [f]
theorem ak {E:Env} (hE:OK E) {m:Ren} {w:World} {j:TypeId} {ks:List Kd} (k:GY E j ks=true) {a b:Value} {c1 c2:List D} {K:TypeId→Option (List Kd)} {M:Nat→Option (Array Value)} (y:KV K M ks a c1) (z:KV K M ks b c2)
  (A:ks.length≤c1.length) (B:ks.length≤c2.length) (c:∀q,q<ks.length→U.V.d (0+q)=c1.getD q default) (f:∀q,q<ks.length→U.V.d (ks.length+q)=c2.getD q default) :
  (Op.equal j b a).run E.P w=.ok (D0 ks c1 c2) w∧(∀l,E.desc j=some l→Instr.sameNow l b a=some (D0 ks c1 c2)∨∀u v,Instr.sameNow l u v=none)∧(D0 ks c1 c2=true→a=b):=by
 unfold GY at k;split at k
 ·rename_i e n;obtain ⟨o,C⟩:=An k
  have g:Ad U.V e=D0 ks c1 c2:=by
   rw [WG,Mx C];exact Qy U.V ks ks.length 0 c1 c2 o A B c f
  obtain ⟨p,a1,a2,a3,a4⟩:=y;obtain ⟨l2,r,s,b3,b4⟩:=z;have lt:∀{q:Nat} {kd:Kd},ks[q]?=some kd→q<ks.length:=fun h=>(List.getElem?_eq_some_iff.1 h).1
  have t:VR m (M9 (M2 0 ks)) a:=by
   rw [a1];exact Pd (Mb (K:=K) (M:=M) ks 0 p a2 fun q kd i=>by rw [c q (lt i)];exact a4 q kd i)
  have x:VR m (M9 (M2 ks.length ks)) b:=by
   rw [r];exact Pd (Mb (K:=K) (M:=M) ks ks.length l2 s fun q kd i=>by rw [f q (lt i)];exact b4 q kd i)
  refine ⟨?_,?_,?_⟩
  ·have:=OU (w:=w) hE 10000 j _ _ e b a n x t;rw [g] at this;exact this
  ·intro l F;exact Jc (d:=9999) F n g x t
  ·intro G;rw [a1,r,T5 ks p l2 c1 c2 o a2 s a4 b4 G]
 ·cases k
@[reducible] def eX (U:Unk) (n:Nat) (c1 c2:List D):Unk where
 facts:=[]
 V:={d:=fun i=>if i<n then c1.getD i default else c2.getD (i-n) default,fn:=U.V.fn}
 K:=U.K
 R:=U.R
 hR:=U.hR
 ok:=by intro e b h;cases h
theorem Ww {E:Env} (hE:OK E) {w:World} {c:TypeId} {ks:List Kd} (e:GY E c ks=true) {a b:Value} {c1 c2:List D} {K:TypeId→Option (List Kd)} {M:Nat→Option (Array Value)} (f:KV K M ks a c1) (g:KV K M ks b c2)
  (h:ks.length≤c1.length) (i:ks.length≤c2.length) :
  (Op.equal c b a).run E.P w=.ok (D0 ks c1 c2) w∧(∀d,E.desc c=some d→Instr.sameNow d b a=some (D0 ks c1 c2)∨∀u v,Instr.sameNow d u v=none)∧(D0 ks c1 c2=true→a=b):=by
 refine @ak _ (eX U ks.length c1 c2) E (@OK.mk _ (eX U ks.length c1 c2) E hE.ty hE.fn hE.num hE.clone hE.ixb hE.cnt hE.mixed hE.kd hE.ke hE.gl hE.ox) {m:=fun _=>none,imm:=fun _=>none} w c ks e a b c1 c2 K M f g h i ?_ ?_
 ·intro q j;show (if 0+q<ks.length then c1.getD (0+q) default else _)=_
  rw [if_pos (by omega),Nat.zero_add]
 ·intro q j;show (if ks.length+q<ks.length then _ else c2.getD (ks.length+q-ks.length) default)=_
  rw [if_neg (by omega),Nat.add_sub_cancel_left]
def Ku (ks:List Kd) (k:List D):List MapEntry→List D→Nat→Option (Nat×Value)
 |e::a,r::b,i=>match D0 ks r.cells k with
  |true=>some (i,e.val)
  |false=>Ku ks k a b (i+1)
 |_,_,_=>none
section
variable {E:Env} (hE:OK E) {w:World} {kt:TypeId} {ks vks:List Kd} (ht:GY E kt ks=true) {K:TypeId→Option (List Kd)} {M:Nat→Option (Array Value)} {kv:Value} {k:List D} (hk:KV K M ks kv k) (hkl:ks.length≤k.length)
include hE ht hk hkl w
theorem Kh:∀{a:List MapEntry} {b:List D} {i:Nat},A7 K M ks vks a b→(Instr.findAsking kt kv a i).run E.P w=.ok (Ku ks k a b i) w
 |[],[],i,_=>by simp [Instr.findAsking,Ku]
 |e::a,r::b,i,⟨g,c,j,d⟩=>by
  obtain ⟨q,_,_⟩:=Ww (w:=w) hE ht c hk (by omega) hkl
  have f:=Kh (i:=i+1) d;simp only [Instr.findAsking,Ku,Sem.run_bind,q,Result.andThen_ok];cases D0 ks r.cells k with
  |true=>simp
  |false=>simpa using f
 |[],_::_,_,h=>h.elim
 |_::_,[],_,h=>h.elim
theorem Kp {a:TypeDesc} (d:E.desc kt=some a) (f:¬∀u v,Instr.sameNow a u v=none):∀{b:List MapEntry} {c:List D} {i:Nat},A7 K M ks vks b c→Instr.findNow a kv b i=some (Ku ks k b c i)
 |[],[],i,_=>rfl
 |e::b,r::c,i,⟨m,g,n,j⟩=>by
  obtain ⟨_,q,_⟩:=Ww (w:=w) hE ht g hk (by omega) hkl
  have s:=(q a d).resolve_right f;have l:=Kp d f (i:=i+1) j;simp only [Instr.findNow,Ku,s];cases D0 ks r.cells k with
  |true=>rfl
  |false=>exact l
 |[],_::_,_,h=>h.elim
 |_::_,[],_,h=>h.elim
theorem EE {d:TypeDesc} (b:E.desc kt=some d) {a:List MapEntry} {c:List D} (h:A7 K M ks vks a c):(Instr.findKey kt kv a).run E.P w=.ok (Ku ks k a c 0) w:=by
 by_cases f:∀u v,Instr.sameNow d u v=none
 ·cases a with
  |nil=>cases c with
   |nil=>simp [Instr.findKey,hE.run_und b,Instr.findNow,Ku]
   |cons _ _=>exact h.elim
  |cons e a=>simp [Instr.findKey,hE.run_und b,Instr.findNow,f,Kh (w:=w) hE ht hk hkl h]
 ·simp [Instr.findKey,hE.run_und b,Kp (w:=w) hE ht hk hkl b f h]
end
omit U in
theorem Fb {ks vks:List Kd} {K:TypeId→Option (List Kd)} {M:Nat→Option (Array Value)} {k:List D}:∀{es:List MapEntry} {rs:List D} (i:Nat),A7 K M ks vks es rs→
  (Ku ks k es rs i=none∧EB ks k rs i = -1)∨∃n e r,Ku ks k es rs i=some (i+n,e.val)∧EB ks k rs i=((i+n:Nat):Int)∧es[n]?=some e∧rs[n]?=some r∧D0 ks r.cells k=true
 |[],[],i,_=>.inl ⟨rfl,rfl⟩
 |e::es,r::rs,i,⟨h1,h2,h3,h4⟩=>by
  simp only [Ku,EB];cases hk:D0 ks r.cells k with
  |true=>exact .inr ⟨0,e,r,by simp,by simp,rfl,rfl,hk⟩
  |false=>
   rcases Fb (k:=k) (i+1) h4 with ⟨a,b⟩|⟨n,e',r',a,b,c,d,f⟩
   ·exact .inl ⟨a,b⟩
   ·exact .inr ⟨n+1,e',r',by show Ku ks k es rs (i+1)=_;rw [a,show i+1+n=i+(n+1) by omega],by show EB ks k rs (i+1)=_;rw [b,show i+1+n=i+(n+1) by omega],by simpa using c,by simpa using d,f⟩
 |[],_::_,_,h=>h.elim
 |_::_,[],_,h=>h.elim
omit U in
theorem A7.get {ks vks:List Kd} {K:TypeId→Option (List Kd)} {M:Nat→Option (Array Value)}:∀{es:List MapEntry} {rs:List D} {n:Nat} {e:MapEntry} {r:D},A7 K M ks vks es rs→es[n]?=some e→rs[n]?=some r→
  r.cells.length=ks.length+vks.length∧KV K M ks e.key r.cells∧KV K M vks e.val (r.cells.drop ks.length)
 |e::es,r::rs,0,e',r',⟨h1,h2,h3,h4⟩,g1,g2=>by
  simp only [List.getElem?_cons_zero,Option.some.injEq] at g1 g2;subst g1;subst g2;exact ⟨h1,h2,h3⟩
 |e::es,r::rs,n+1,e',r',⟨h1,h2,h3,h4⟩,g1,g2=>h4.get (by simpa using g1) (by simpa using g2)
 |[],[],n,_,_,_,g1,_=>by simp at g1
 |[],_::_,_,_,_,h,_,_=>h.elim
 |_::_,[],_,_,_,h,_,_=>h.elim
omit U in
theorem A7.push {ks vks:List Kd} {K:TypeId→Option (List Kd)} {M:Nat→Option (Array Value)} {x:MapEntry} {y:D} (h1:y.cells.length=ks.length+vks.length) (h2:KV K M ks x.key y.cells) (h3:KV K M vks x.val (y.cells.drop ks.length)):∀{es:List MapEntry} {rs:List D},A7 K M ks vks es rs→A7 K M ks vks (es++[x]) (rs++[y])
 |[],[],_=>⟨h1,h2,h3,trivial⟩
 |e::es,r::rs,⟨g1,g2,g3,g4⟩=>⟨g1,g2,g3,A7.push h1 h2 h3 g4⟩
 |[],_::_,h=>h.elim
 |_::_,[],h=>h.elim
omit U in
theorem A7.erase {ks vks:List Kd} {K:TypeId→Option (List Kd)} {M:Nat→Option (Array Value)}:∀{es:List MapEntry} {rs:List D} (n:Nat),A7 K M ks vks es rs→A7 K M ks vks (es.eraseIdx n) (rs.eraseIdx n)
 |[],[],_,_=>by simp [A7]
 |e::es,r::rs,0,⟨g1,g2,g3,g4⟩=>g4
 |e::es,r::rs,n+1,⟨g1,g2,g3,g4⟩=>⟨g1,g2,g3,g4.erase n⟩
 |[],_::_,_,h=>h.elim
 |_::_,[],_,h=>h.elim
omit U in
theorem A7.change {ks vks:List Kd} {K:TypeId→Option (List Kd)} {M:Nat→Option (Array Value)} {x:MapEntry} {y:D} (h1:y.cells.length=ks.length+vks.length) (h2:KV K M ks x.key y.cells) (h3:KV K M vks x.val (y.cells.drop ks.length)):∀{es es':List MapEntry} {rs rs':List D} (n:Nat),A7 K M ks vks es rs→es'.length=es.length→rs'.length=rs.length→
  (∀q,q≠n→es'[q]?=es[q]?)→(∀q,q≠n→rs'[q]?=rs[q]?)→(n<es.length→es'[n]?=some x)→(n<rs.length→rs'[n]?=some y)→A7 K M ks vks es' rs'
 |[],[],[],[],n,_,_,_,_,_,_,_=>trivial
 |e::es,e'::es',r::rs,r'::rs',0,⟨g1,g2,g3,g4⟩,l1,l2,a1,a2,a3,a4=>by
  have b1:=a3 (by simp)
  have b2:=a4 (by simp)
  simp only [List.getElem?_cons_zero,Option.some.injEq] at b1 b2;subst b1;subst b2;have c1:es'=es:=List.ext_getElem? fun q=>by have:=a1 (q+1) (by omega);simpa using this
  have c2:rs'=rs:=List.ext_getElem? fun q=>by have:=a2 (q+1) (by omega);simpa using this
  rw [c1,c2];exact ⟨h1,h2,h3,g4⟩
 |e::es,e'::es',r::rs,r'::rs',n+1,⟨g1,g2,g3,g4⟩,l1,l2,a1,a2,a3,a4=>by
  have b1:=a1 0 (by omega)
  have b2:=a2 0 (by omega)
  simp only [List.getElem?_cons_zero,Option.some.injEq] at b1 b2;subst b1;subst b2
  exact ⟨g1,g2,g3,A7.change h1 h2 h3 n g4 (by simpa using l1) (by simpa using l2) (fun q hq=>by have:=a1 (q+1) (by omega);simpa using this) (fun q hq=>by have:=a2 (q+1) (by omega);simpa using this)
   (fun hn=>by have:=a3 (by simp;omega);simpa using this) (fun hn=>by have:=a4 (by simp;omega);simpa using this)⟩
 |[],_::_,_,_,_,_,l1,_,_,_,_,_=>by simp at l1
 |_::_,[],_,_,_,_,l1,_,_,_,_,_=>by simp at l1
 |[],[],_::_,_,_,h,_,_,_,_,_,_=>h.elim
 |[],[],[],_::_,_,_,_,l2,_,_,_,_=>by simp at l2
 |_::_,_::_,[],_,_,h,_,_,_,_,_,_=>h.elim
 |_::_,_::_,_::_,[],_,_,_,l2,_,_,_,_=>by simp at l2
end
end Go.AE
namespace Go.AE
variable [Gl:AH]
variable [U:Unk]
theorem GW {a:Type} {l:List a} {n j:Nat} {d:a}:(l.drop n).getD j d=l.getD (n+j) d:=by
 rw [List.getD_eq_getElem?_getD,List.getD_eq_getElem?_getD,List.getElem?_drop]
theorem JV {a:Type} {l:List a} {n q:Nat} {f:a→a} (h:q≠n):(l.modify n f)[q]?=l[q]?:=by
 rw [List.getElem?_modify];cases l[q]?<;>simp [Ne.symm h]
theorem Ec {i:Ren} {ks:List Kd} {a:AV} {v:Value} (h:Hi ks a=true) (e:VR i a v) (g:v.cells.toList.length=ks.length) :
  v=S8 v.cells.toList∧∀u,v.cells.toList=[u]→∀x,u≠.agg x:=by
 have key:∀(b:List Value),b.length≠1→S8 b=.agg b.toArray:=by
  intro b f;rcases b with _|⟨x,_|⟨y,b⟩⟩
  ·rfl
  ·exact absurd rfl f
  ·rfl
 rcases ks with _|⟨k,_|⟨k2,ks⟩⟩
 ·cases e<;>simp only [Hi,Bool.false_eq_true] at h
  rename_i l b j m;have c:b.length=0:=g;exact ⟨(key b (by omega)).symm,fun u d=>by have:b=[u]:=d;rw [this] at c;simp at c⟩
 ·cases e<;>simp only [Hi,Bool.false_eq_true] at h<;>exact ⟨rfl,fun u d x n=>by
   subst n;simp only [Value.cells] at d;cases d⟩
 ·cases e<;>simp only [Hi,Bool.false_eq_true] at h
  rename_i l b j m;have c:b.length=ks.length+2:=g;exact ⟨(key b (by omega)).symm,fun u d=>by have:b=[u]:=d;rw [this] at c;simp at c⟩
theorem Dq {ks:List Kd} {a:AV} (h:Hi ks a=true):a≠.top:=by
 rintro rfl
 rcases ks with _|⟨k,_|⟨k2,ks⟩⟩<;>simp [Hi] at h
theorem KD {ρ:Ren} {a:List Kd} {k:AV} {b:SE} {c:Value} (h:Q8 a k=some b) (d:VR ρ k c):(Ab U.V b).cells.length=a.length∧KV U.K ρ.imm a c (Ab U.V b).cells:=by
 unfold Q8 at h;split at h
 ·rename_i e;obtain ⟨g,f,i⟩:=E6 _ _ _ _ h (d.cells (Dq e));obtain ⟨w1,w2⟩:=Ec e d f;exact ⟨g,_,w1,f,w2,i⟩
 ·cases h
theorem OG {ρ:Ren} {a b:List Kd} {k v:AV} {r:SE} {e f:Value} (h:U6 a b k v=some r) (l:VR ρ k e) (m:VR ρ v f) :
  (Ab U.V r).cells.length=a.length+b.length∧KV U.K ρ.imm a e (Ab U.V r).cells∧KV U.K ρ.imm b f ((Ab U.V r).cells.drop a.length):=by
 unfold U6 at h;split at h
 ·rename_i g;obtain ⟨g,c3⟩:=An g;obtain ⟨c1,c2⟩:=An g;have c3:=Ay c3;have k1:=l.cells (Dq c1);have o:=m.cells (Dq c2);obtain ⟨p,q,n⟩:=E6 _ _ _ _ h (k1.append o);have i:e.cells.toList.length=a.length:=by have:=k1.1;omega
  have vl:f.cells.toList.length=b.length:=by simp only [List.length_append] at q;omega
  obtain ⟨w1,w2⟩:=Ec c1 l i;obtain ⟨w3,w4⟩:=Ec c2 m vl;refine ⟨by rw [p];simp,⟨_,w1,i,w2,fun j kd c=>?_⟩,⟨_,w3,vl,w4,fun j kd c=>?_⟩⟩
  ·have d:=(List.getElem?_eq_some_iff.1 c).1;have:=n j kd (by rw [List.getElem?_append_left d];exact c)
   rwa [List.getD_eq_getElem?_getD,List.getElem?_append_left (by omega),←List.getD_eq_getElem?_getD] at this
  ·have d:=(List.getElem?_eq_some_iff.1 c).1;have:=n (a.length+j) kd (by rw [List.getElem?_append_right (by omega),Nat.add_sub_cancel_left];exact c)
   rw [List.getD_eq_getElem?_getD,List.getElem?_append_right (by omega),i,Nat.add_sub_cancel_left,←List.getD_eq_getElem?_getD] at this
   rw [GW];exact this
 ·cases h
theorem Jt {a r:SE}:(Ab U.V (.snoc a r)).rows=(Ab U.V a).rows++[Ab U.V r]:=rfl
theorem Mq {ρ:Ren} {a b:List Kd}:∀{d:List Aj} {c:List MapEntry} {y z:SE} {es0:List MapEntry},MB a b y d=some z→ER ρ d c→A7 U.K ρ.imm a b es0 (Ab U.V y).rows→A7 U.K ρ.imm a b (es0++c) (Ab U.V z).rows
 |[],[],y,z,es0,h,_,f=>by
  simp only [MB,Option.some.injEq] at h;subst h;simpa using f
 |e::d,g::c,y,z,es0,h,⟨i,j,p,k⟩,f=>by
  simp only [MB] at h;split at h
  ·rename_i x l;obtain ⟨m,n,o⟩:=OG l i j;have:=Mq (es0:=es0++[g]) h k (by rw [Jt];exact A7.push m n o f)
   simpa using this
  ·cases h
 |[],_::_,_,_,_,_,h,_=>h.elim
 |_::_,[],_,_,_,_,h,_=>h.elim
theorem Ol {ρ:Ren} {j k:TypeId} {d e:List Kd} {b:Option Ag} {x:SE} {base:Br} {o:Option Obj} (h:Vd j k d e b=some x) (l:∀y,b=some y→BR ρ y base o) (m:U.K j=some d) (n:U.K k=some e) :
  ∃c:List MapEntry,∃a,o=some (.map c.toArray a)∧A7 U.K ρ.imm d e c (Ab U.V x).rows∧Inc c a:=by
 unfold Vd at h;split at h
 ·rename_i p q w;split at h
  ·rename_i r;cases h;obtain ⟨c1,c2⟩:=An r;have c1:=Ay c1;have c2:=Ay c2;subst c1;subst c2;obtain ⟨k1,z,c,a,i,f,s,t,u⟩:=l _ rfl;rw [m] at i;rw [n] at f;cases i;cases f;exact ⟨c,a,s,t,u⟩
  ·cases h
 ·rename_i v a;split at h
  ·rename_i g;obtain ⟨c,i,f⟩:=l _ rfl;have:=Mq (es0:=[]) h f trivial;exact ⟨c,a,i,by simpa using this,(OB v c 0 a g f).2⟩
  ·cases h
 ·cases h
theorem L4 {a i:SE} {j:Nat} {x:SE}:(Ab U.V (.upd a i j x)).rows=(Ab U.V a).rows.modify (Ac U.V i).toNat fun r=>.row (r.cells.set j (Ab U.V x)):=rfl
theorem Gg {n:Ren} {ks:List Kd} {i:SE}:∀(l:List AV) (m:List Value) (j:Nat) (y d:SE) (r:D),C2 i ks y j l=some d→VL n l m→(Ab U.V y).rows[(Ac U.V i).toNat]?=some r→j+l.length≤r.cells.length→
  (Ab U.V d).rows.length=(Ab U.V y).rows.length∧(∀q,q≠(Ac U.V i).toNat→(Ab U.V d).rows[q]?=(Ab U.V y).rows[q]?)∧
  ∃e,(Ab U.V d).rows[(Ac U.V i).toNat]?=some e∧e.cells.length=r.cells.length∧(∀p,p<j∨j+l.length≤p→e.cells.getD p default=r.cells.getD p default)∧
   ∀(q:Nat) kd,q<l.length→ks[j+q]?=some kd→DV U.K n.imm kd (m.getD q Go.undef) (e.cells.getD (j+q) default)
 |[],m,j,y,d,r,h,o,hr,s=>by
  simp only [C2,Option.some.injEq] at h;subst h;exact ⟨rfl,fun _ _=>rfl,r,hr,rfl,fun _ _=>rfl,fun q kd f=>absurd f (Nat.not_lt_zero q)⟩
 |a::l,m,j,y,d,r,h,o,hr,s=>by
  obtain ⟨v,vr,rfl,t,u⟩:=o.cons_inv;simp only [C2] at h;split at h
  ·rename_i k w;split at h
   ·rename_i x z;have A:=KI t z
    have g:(Ab U.V (.upd y i j x)).rows[(Ac U.V i).toNat]?=some (.row (r.cells.set j (Ab U.V x))):=by
     rw [L4,List.getElem?_modify_eq,hr];rfl
    simp only [List.length_cons] at s;obtain ⟨a1,a2,e,a3,a4,a5,a6⟩:=Gg l vr (j+1) _ d _ h u g (by show j+1+l.length≤(r.cells.set j (Ab U.V x)).length;simp;omega)
    have b:(D.row (r.cells.set j (Ab U.V x))).cells=r.cells.set j (Ab U.V x):=rfl;rw [b] at a4 a5;refine ⟨by rw [a1,L4];simp,fun q f=>by rw [a2 q f,L4,JV f],e,a3,by rw [a4];simp,fun p B=>?_,fun q kd f c=>?_⟩
    ·simp only [List.length_cons] at B;rw [a5 p (by omega),List.getD_eq_getElem?_getD,List.getD_eq_getElem?_getD,List.getElem?_set_ne (by omega)]
    ·cases q with
     |zero=>
      rw [Nat.add_zero] at c ⊢;rw [w] at c;cases c;rw [a5 j (by omega),Nd,List.getD_eq_getElem?_getD,List.getElem?_set_self (by omega)]
      exact A
     |succ q=>
      rw [CY,show j+(q+1)=j+1+q by omega]
      exact a6 q kd (by simpa using f) (by rw [←c];congr 1;omega)
   ·cases h
  ·cases h
theorem Gj {E:Env} (hE:OK E) {t e f:TypeId} {c d:List Kd} (h:Kk E t=some (e,f,c,d)):E.desc t=some (.map e f)∧U.K e=some c∧U.K f=some d∧GY E e c=true:=by
 unfold Kk at h;split at h
 ·rename_i g i j;split at h
  ·rename_i a b k l;split at h
   ·rename_i m;cases h;exact ⟨j,by rw [hE.kd,←hE.ke];exact k,by rw [hE.kd,←hE.ke];exact l,m⟩
   ·cases h
  ·cases h
 ·cases h
theorem FB {E:Env} {b:TypeId} {k:AV} (a:BN E 20 b k=true):∃c,E.desc b=some c:=by
 simp only [BN] at a;cases d:E.desc b with
 |none=>simp [d] at a
 |some c=>exact ⟨c,rfl⟩
section
variable {E:Env} (hE:OK E) {ρ:Ren} {h:Aa} {w:World}
include hE
theorem Su (hr:HR ρ h.blk.get w) {t:TypeId} {m k a:AV} {mv M:Value} {ok:Bool} (hm:VR ρ m mv) (hk:VR ρ k M) (g:Oc E t m k ok h=some a) :
  ∃v,(Instr.lookup t mv M ok).run E.P w=.ok v w∧VR ρ a v:=by
 unfold Oc at g;split at g
 ·rename_i kt vt d H r ht;obtain ⟨hd,R,S,C⟩:=Gj hE ht;split at g
  ·rename_i ah ai x hg;split at g
   ·rename_i z D T hz W;obtain ⟨T,c3⟩:=An T;obtain ⟨c1,c2⟩:=An T;have c1:=Ay c1;have c2:=Ay c2;subst c1;subst c2;obtain ⟨zv,z1,z2⟩:=hE.run_zero ρ hz w;have X:=AL ρ z2;have I:∀Y,(Instr.checkKey Y 10000 kt M).run E.P w=.ok () w:=fun Y=>C4 (w:=w) hE Y 9980 20 kt k M c3 hk
    obtain ⟨ds,Z⟩:=FB c3;obtain ⟨kl,aa⟩:=KD W hk
    have fin:∀(v:AV) (b:Bool) (J:Value),VR ρ v J→VR ρ (MK ok v b) (if ok then .tuple #[J,.bool b] else J):=by
     intro v b J N;cases ok with
     |true=>
      have:=VL.cons N (VL.cons (VR.bool (ρ:=ρ) b) (VL.nil ρ));exact .tuple _ [J,.bool b] this.1 this.2
     |false=>exact N
    cases hm with
    |map _ base hb=>
     obtain ⟨k1,v1,ab,F,e1,e2,e3,e4,_⟩:=hr.blk r base _ hb hg;rw [R] at e1;rw [S] at e2;cases e1;cases e2;have u:(getObj base.cb).run E.P w=.ok (.map ab.toArray F) w:=by simp [getObj,Sem.run,e3]
     have f:=EE (w:=w) hE C aa (by omega) Z e4
     have y:=Fb (k:=(Ab U.V D).cells) 0 e4;have i:Ac U.V (.mIdx d x D)=EB d (Ab U.V D).cells (Ab U.V x).rows 0:=rfl;split at g
     ·rename_i o;cases g;have s:=As U.ok o;rw [Av,decide_eq_true_eq] at s;have z0:Ac U.V (.c 0)=0:=rfl;rw [z0,i] at s;rcases y with ⟨a1,a2⟩|⟨n,e,r',a1,a2,a3⟩
      ·rw [a1] at f;refine ⟨_,?_,fin z false zv X⟩;simp [Instr.lookup,hE.run_und hd,u,I,f,z1]
      ·omega
     ·rename_i o;split at g
      ·rename_i l ac;cases g;have s:=As U.ok o;rw [Av,decide_eq_false_iff_not] at s;have z0:Ac U.V (.c 0)=0:=rfl;rw [z0,i] at s;rcases y with ⟨a1,a2⟩|⟨n,e,r',a1,a2,a3,a4,a5⟩
       ·omega
       ·rw [a1] at f;obtain ⟨q1,⟨lk,k1,k2,k3,k4⟩,⟨O,v1,v2,v3,v4⟩⟩:=e4.get a3 a4;have hn:(Ac U.V (.mIdx d x D)).toNat=n:=by rw [i,a2];simp
        have L:(Ab U.V x).rows.getD n default=r':=by rw [List.getD_eq_getElem?_getD,a4];rfl
        have G:∀j,Ab U.V (.cell x (.mIdx d x D) j)=r'.cells.getD j default:=by
         intro j;show ((Ab U.V x).rows.getD (Ac U.V (.mIdx d x D)).toNat default).cells.getD j default=_;rw [hn,L]
        have A:∀p,((lk++O).toArray).getD p Go.undef=(lk++O).getD p Go.undef:=by intro p;simp [Array.getD_eq_getD_getElem?,List.getD_eq_getElem?_getD]
        have N:∀j kd,(d++H)[j]?=some kd→DV U.K ρ.imm kd ((lk++O).toArray.getD (0+j) Go.undef) (Ab U.V (.cell x (.mIdx d x D) j)):=by
         intro j kd Q;rw [G,A,Nat.zero_add,List.getD_eq_getElem?_getD];by_cases ad:j<d.length
         ·rw [List.getElem?_append_left ad] at Q;rw [List.getElem?_append_left (by omega),←List.getD_eq_getElem?_getD]
          exact k4 j kd Q
         ·rw [List.getElem?_append_right (by omega)] at Q
          rw [List.getElem?_append_right (by omega),←List.getD_eq_getElem?_getD,k2]
          have:=v4 (j-d.length) kd Q;rw [GW,show d.length+(j-d.length)=j by omega] at this
          exact this
        obtain ⟨p1,p2,p3⟩:=HD N H.length d.length l ac
        have ae:VL ρ l O:=by
         refine ⟨by omega,fun q a v af ag=>?_⟩
         have:=p3 q a af;rw [A,Nat.zero_add,List.getD_eq_getElem?_getD,List.getElem?_append_right (by omega),k2,Nat.add_sub_cancel_left,ag] at this
         exact this
        have B:=Pd ae;rw [←v1] at B;refine ⟨_,?_,fin _ true e.val B⟩;simp [Instr.lookup,hE.run_und hd,u,I,f]
      ·cases g
     ·cases g
   ·cases g
  ·cases g
 ·cases g
theorem Rq (hr:HR ρ h.blk.get w) {t:TypeId} {m k v:AV} {mv C p:Value} {h':Aa} (hm:VR ρ m mv) (L:VR ρ k C) (Z:VR ρ v p) (s:OH E t m k v h=some h') :
  ∃w',(Instr.mapUpdate t mv C p).run E.P w=.ok () w'∧HR ρ h'.blk.get w'∧Ext ρ ρ h h' w w':=by
 unfold OH at s;split at s
 ·rename_i W vt g l r ht;obtain ⟨hd,G,H,u⟩:=Gj hE ht;split at s
  ·rename_i x X c3 I aa;have M:∀em,(Instr.checkKey em 10000 W C).run E.P w=.ok () w:=fun em=>C4 (w:=w) hE em 9980 20 W k C c3 L
   obtain ⟨ds,ab⟩:=FB c3;obtain ⟨kl,N⟩:=KD aa L;cases hm with
   |map _ base hb=>
    have z:h.blk.get r≠none:=by
     intro e;rw [e] at I;cases I
    obtain ⟨o,a,e3,O,e5⟩:=Ol I (fun y hy=>hr.blk r base y hb hy) G H
    have D:=Au (w:=w) E.P e3 (by simp)
    have b:=EE (w:=w) hE u N (by omega) ab O
    have F:=Fb (k:=(Ab U.V X).cells) 0 O;have A:Ac U.V (.mIdx g x X)=EB g (Ab U.V X).cells (Ab U.V x).rows 0:=rfl;split at s
    ·rename_i row d B;cases s;have i:=As U.ok B;rw [Av,decide_eq_true_eq] at i;have z0:Ac U.V (.c 0)=0:=rfl;rw [z0,A] at i;rcases F with ⟨a1,a2⟩|⟨n,e,r',a1,a2,a3⟩
     ·rw [a1] at b;obtain ⟨q1,Y,q3⟩:=OG d L Z;obtain ⟨p1,p2⟩:=hr.setObj hb z (.dmap W vt (.snoc x row)) (.map (o.toArray.push {key:=C,val:=p,born:=a}) (a+1))
       ⟨g,l,o++[{key:=C,val:=p,born:=a}],a+1,G,H,by simp,by rw [Jt];exact A7.push q1 Y q3 O,e5.push C p⟩
      refine ⟨_,?_,p1,p2⟩;simp [Instr.mapUpdate,hE.run_und hd,D,M,b,AB (w:=w) E.P e3 (by simp)]
     ·omega
    ·rename_i row d B;split at s
     ·rename_i y hy;cases s;have i:=As U.ok B;rw [Av,decide_eq_false_iff_not] at i;have z0:Ac U.V (.c 0)=0:=rfl;rw [z0,A] at i;rcases F with ⟨a1,a2⟩|⟨n,e,r',a1,a2,a3,a4,a5⟩
      ·omega
      ·rw [a1] at b;have hn:(Ac U.V (.mIdx g x X)).toNat=n:=by rw [A,a2];simp
       obtain ⟨q1,Y,q3⟩:=O.get a3 a4;obtain ⟨_,_,Q⟩:=Ww (w:=w) hE u Y N (by omega) (by omega)
       have ac:e.key=C:=Q a5;unfold U6 at d;split at d
       ·rename_i hc;obtain ⟨hc,c6⟩:=An hc;obtain ⟨c4,c5⟩:=An hc;have J:=Z.cells (Dq c5);have ad:=E6 _ _ _ _ d ((L.cells (Dq c4)).append J);have c6:=Ay c6;have aj:=(L.cells (Dq c4)).1;have vl:p.cells.toList.length=l.length:=by have:=ad.2.1;simp only [List.length_append] at this;omega
        have ak:v.cells.length=l.length:=by have:=J.1;omega
        obtain ⟨u1,u2,r2,u3,u4,u5,u6⟩:=Gg _ _ _ _ _ r' hy J (by rw [hn];exact a4) (by omega)
        rw [hn] at u2 u3;obtain ⟨w3,w4⟩:=Ec c5 Z vl;obtain ⟨nk,w1,s1,s2,s3,s4,s5,s6⟩:=DM (w:=w) E.P e.key C;have ae:nk=e.key:=by rcases s2 with rfl|rfl;exact ac.symm;rfl
        subst ae;have af:HR ρ h.blk.get w1:=hr.same s3
        have ag:KV U.K ρ.imm g e.key r2.cells:=by
         obtain ⟨lk,k1,k2,k3,k4⟩:=Y;refine ⟨lk,k1,k2,k3,fun j kd R=>?_⟩
         have i:=(List.getElem?_eq_some_iff.1 R).1;rw [u5 j (.inl i)];exact k4 j kd R
        have ah:KV U.K ρ.imm l p (r2.cells.drop g.length):=by
         refine ⟨_,w3,vl,w4,fun j kd R=>?_⟩
         have i:=(List.getElem?_eq_some_iff.1 R).1;rw [GW];exact u6 j kd (by omega) (by rw [List.getElem?_append_right (by omega),Nat.add_sub_cancel_left];exact R)
        have al:n<o.length:=(List.getElem?_eq_some_iff.1 a3).1
        have S:A7 U.K ρ.imm g l (o.modify n fun T=>{T with key:=e.key,val:=p}) (Ab U.V y).rows:=by
         refine A7.change (x:={key:=e.key,val:=p,born:=e.born}) (y:=r2) (by rw [u4];exact q1) ag ah n O (by simp) u1 (fun q hq=>JV hq) (fun q hq=>u2 q hq) (fun _=>by rw [List.getElem?_modify_eq,a3];rfl) (fun _=>u3)
        obtain ⟨p1,p2⟩:=af.setObj hb z (.dmap W vt y) (.map (o.toArray.modify n fun T=>{T with key:=e.key,val:=p}) a)
         ⟨g,l,_,a,G,H,by simp [List.modify_toArray],S,e5.modify (f:=fun T=>{T with key:=e.key,val:=p}) (fun _=>rfl) n⟩
        refine ⟨_,?_,p1,p2.drawn s3 s4 s5 s6⟩;have ai:w1.heap[base.cb]?=some (.map o.toArray a):=by rw [s3];exact e3
        simp only [Nat.zero_add] at b;simp only [Instr.mapUpdate,Sem.run_bind,hE.run_und hd,Result.andThen_ok,D,M,b,List.getElem?_toArray,a3,Option.map_some,Option.getD_some,s1];rw [AB (w:=w1) E.P ai (by simp)]
       ·cases d
     ·cases s
    ·cases s
  ·cases s
 ·cases s
theorem Q9 (hr:HR ρ h.blk.get w) {t:TypeId} {m k v:AV} {f g i:Value} {h':Aa} (b:VR ρ m f) (c:VR ρ k g) (d:VR ρ v i) (a:Of E t m k v h=some h') :
  ∃e,(Instr.mapUpdate t f g i).run E.P w=.ok () e∧HR ρ h'.blk.get e∧Ext ρ ρ h h' w e:=by
 unfold Of at a;split at a
 ·split at a
  ·rename_i q;cases a;exact Rq hE hr b c d q
  ·exact HN hE hr b c d a
 ·exact HN hE hr b c d a
theorem Uh (hr:HR ρ h.blk.get w) {t:TypeId} {m k a:AV} {mv j:Value} {h':Aa} (hm:VR ρ m mv) (hk:VR ρ k j) (l:SQ E t m k h=some (a,h')) (hf:AG ρ h.nx h'.nx) :
  AP E ρ h h' w (Instr.mapEntry t mv j) a:=by
 unfold SQ at l;split at l
 ·rename_i o v g A r ht;obtain ⟨hd,B,C,D⟩:=Gj hE ht;split at l
  ·rename_i x kr z c3 F aa hz;have ab:∀em,(Instr.checkKey em 10000 o j).run E.P w=.ok () w:=fun em=>C4 (w:=w) hE em 9980 20 o k j c3 hk
   obtain ⟨ds,ac⟩:=FB c3;obtain ⟨kl,ad⟩:=KD aa hk;obtain ⟨G,z1,z2⟩:=hE.run_zero ρ hz w;have J:=AL ρ z2;cases hm with
   |map _ base H=>
    have I:h.blk.get r≠none:=by
     intro e;rw [e] at F;cases F
    obtain ⟨p,d,e3,Z,e5⟩:=Ol F (fun y hy=>hr.blk r base y H hy) B C
    have L:=Au (w:=w) E.P e3 (by simp)
    have i:=EE (w:=w) hE D ad (by omega) ac Z
    have M:=Fb (k:=(Ab U.V kr).cells) 0 Z;have N:Ac U.V (.mIdx g x kr)=EB g (Ab U.V kr).cells (Ab U.V x).rows 0:=rfl;split at l
    ·rename_i row O Q;simp only [Option.some.injEq,Prod.mk.injEq] at l;obtain ⟨rfl,rfl⟩:=l;have q:=As U.ok Q;rw [Av,decide_eq_true_eq] at q;have z0:Ac U.V (.c 0)=0:=rfl;rw [z0,N] at q;rcases M with ⟨a1,a2⟩|⟨n,e,r',a1,a2,a3⟩
     ·rw [a1] at i;obtain ⟨q1,q2,q3⟩:=OG O hk J;have s:A7 U.K ρ.imm g A (p++[{key:=j,val:=G,born:=d}]) (Ab U.V (.snoc x row)).rows:=by rw [Jt];exact A7.push q1 q2 q3 Z
      have u:=e5.push j G;obtain ⟨p1,p2⟩:=hr.setObj H I (.dmap o v (.snoc x row)) (.map (p.toArray.push {key:=j,val:=G,born:=d}) (d+1))
       ⟨g,A,p++[{key:=j,val:=G,born:=d}],d+1,B,C,by simp,s,u⟩
      have f:ρ h.nx=none:=hf h.nx (Nat.le_refl _) (by simp [Aa.put,Aa.stampN])
      have R:r≠h.nx:=by rintro rfl;rw [f] at H;cases H
      have S:(h.put r (.dmap o v (.snoc x row))).blk.get r≠none:=by simp [Aa.put,T.get_set]
      obtain ⟨s1,s2⟩:=p1.stamp (h:=h.put r (.dmap o v (.snoc x row))) f H S d;have ae:(ρ.upd h.nx ⟨base.cb,d,base.csz⟩) r=some base:=by simp [Ren.upd,R,H]
      have af:(h.put r (.dmap o v (.snoc x row))).stampN.blk.get r≠none:=by
       show ((h.put r (.dmap o v (.snoc x row))).blk.del h.nx).get r≠none;rw [T.get_del,if_neg (fun e=>R e.symm)]
       exact S
      have W:=Ren.le_upd f ⟨base.cb,d,base.csz⟩;have X:=Z.length
      obtain ⟨t1,t2⟩:=HR.put (h:=(h.put r (.dmap o v (.snoc x row))).stampN) s1 ae af (.dmapS o v (.snoc x row) (.lenL x) h.nx) _ (by
       have q:=hr.lt r base H;show BR _ _ _ (w.heap.setIfInBounds base.cb _)[base.cb]?;rw [Array.getElem?_setIfInBounds_self_of_lt q];refine ⟨g,A,p++[(⟨j,G,d⟩:MapEntry)],d+1,B,C,by simp,s.mono W.imm,u,⟨base.cb,d,base.csz⟩,Ren.upd_same _ _ _,?_⟩
       rw [Ai,Int.toNat_natCast,←X];simp) rfl (fun _ _=>rfl) rfl rfl rfl
      have Y:VR (ρ.upd h.nx ⟨base.cb,d,base.csz⟩) (.tuple [z,.stamp h.nx]) (.tuple #[G,goInt d]):=by
       have:=VL.cons (J.mono W) (VL.cons (VR.stamp (ρ:=ρ.upd h.nx ⟨base.cb,d,base.csz⟩) h.nx ⟨base.cb,d,base.csz⟩ (Ren.upd_same _ _ _)) (VL.nil _));exact .tuple _ [G,goInt d] this.1 this.2
      refine ⟨_,_,_,?_,Y,t1,(p2.trans s2 (fun b b1 b2=>hf b b1 (by simp only [Aa.put,Aa.stampN] at b2 ⊢;omega))).trans t2 (fun b b1 b2=>hf b b1 (by simp only [Aa.put,Aa.stampN] at b2 ⊢;omega))⟩
      simp [Instr.mapEntry,hE.run_und hd,L,ab,i,z1,AB (w:=w) E.P e3 (by simp)]
     ·omega
    ·cases l
  ·cases l
 ·cases l
theorem Ux (hr:HR ρ h.blk.get w) {t:TypeId} {m k a:AV} {e f:Value} {h':Aa} (c:VR ρ m e) (d:VR ρ k f) (b:Q4 E t m k h=some (a,h')) (g:AG ρ h.nx h'.nx) :
  AP E ρ h h' w (Instr.mapEntry t e f) a:=by
 unfold Q4 at b;split at b
 ·split at b
  ·rename_i r i;cases b;exact Uh hE hr c d i g
  ·exact Nq hE hr c d b
 ·exact Nq hE hr c d b
omit hE in
theorem QH {es:List MapEntry} {n s:Nat} (hp:(es.map (·.born)).Pairwise (· < ·)) (hn:(es[n]?).map (·.born)=some s):es.toArray.findIdx? (fun e=>(e.born:Int)==(s:Int))=some n:=by
 obtain ⟨e,he,hs⟩:=Option.map_eq_some_iff.1 hn;have hlt:=(List.getElem?_eq_some_iff.1 he).1;have hge:=(List.getElem?_eq_some_iff.1 he).2;rw [List.findIdx?_toArray,List.findIdx?_eq_some_iff_getElem];refine ⟨hlt,by rw [hge,hs];simp,fun j hj=>?_⟩
 have hj':j<es.length:=by omega
 have:=List.pairwise_iff_getElem.1 hp j n (by simpa using hj') (by simpa using hlt) hj
 simp only [List.getElem_map,hge,hs] at this;simp only [beq_iff_eq,Bool.not_eq_true,beq_eq_false_iff_ne,ne_eq];omega
theorem L3 (hr:HR ρ h.blk.get w) {t:TypeId} {m v:AV} {b:Nat} {T W g:Value} {h':Aa} (hm:VR ρ m T) (hs:VR ρ (.stamp b) W) (X:VR ρ v g) (i:Gt E t m b v h=some h') :
  ∃F,(Instr.entryStore t T W g).run E.P w=.ok () F∧HR ρ h'.blk.get F∧Ext ρ ρ h h' w F:=by
 unfold Gt at i;split at i
 ·rename_i kt vt c d r ht;obtain ⟨hd,l,o,G⟩:=Gj hE ht;split at i
  ·rename_i ab ac x ne b' Y;split at i
   ·rename_i y k hy;cases i;obtain ⟨k,c5⟩:=An k;obtain ⟨k,c4⟩:=An k;obtain ⟨k,c3⟩:=An k;obtain ⟨c1,c2⟩:=An k;have c1:=Ay c1;have c2:=Ay c2;have c3:=Ay c3;have c5:=Ay c5;subst c1;subst c2;subst c3;cases hm with
    |map _ base Z=>
     obtain ⟨k1,v1,p,a,e1,e2,e3,H,e5,bs,e6,I⟩:=hr.blk r base _ Z Y;rw [l] at e1;rw [o] at e2;cases e1;cases e2;cases hs with
     |stamp _ ad u=>
      rw [e6] at u;cases u;have z:=Au (w:=w) E.P e3 (by simp)
      generalize hn:(Ac U.V ne).toNat=n at I;obtain ⟨e,he,J⟩:=Option.map_eq_some_iff.1 I;have L:=QH e5.1 I;have ae:=(List.getElem?_eq_some_iff.1 he).1;have aa:=H.length;have M:∃N,(Ab U.V x).rows[n]?=some N:=⟨_,List.getElem?_eq_getElem (by omega)⟩
      obtain ⟨N,A⟩:=M;obtain ⟨q1,q2,q3⟩:=H.get he A;have B:=X.cells (Dq c4);have vl:g.cells.toList.length=d.length:=by rw [←B.1];exact c5
      obtain ⟨u1,u2,O,u3,u4,u5,u6⟩:=Gg _ _ _ _ _ N hy B (by rw [hn];exact A) (by omega)
      rw [hn] at u2 u3;obtain ⟨w3,w4⟩:=Ec c4 X vl
      have Q:KV U.K ρ.imm c e.key O.cells:=by
       obtain ⟨lk,k1,k2,k3,k4⟩:=q2;refine ⟨lk,k1,k2,k3,fun j kd hj=>?_⟩
       have hlt:=(List.getElem?_eq_some_iff.1 hj).1;rw [u5 j (.inl hlt)];exact k4 j kd hj
      have R:KV U.K ρ.imm d g (O.cells.drop c.length):=by
       refine ⟨_,w3,vl,w4,fun j kd hj=>?_⟩
       have hlt:=(List.getElem?_eq_some_iff.1 hj).1;rw [GW];exact u6 j kd (by omega) (by rw [List.getElem?_append_right (by omega),Nat.add_sub_cancel_left];exact hj)
      have C:A7 U.K ρ.imm c d (p.modify n fun D=>{D with val:=g}) (Ab U.V y).rows:=by
       refine A7.change (x:={key:=e.key,val:=g,born:=e.born}) (y:=O) (by rw [u4];exact q1) Q R n H (by simp) u1 (fun q S=>JV S) (fun q S=>u2 q S) (fun _=>by rw [List.getElem?_modify_eq,he];rfl) (fun _=>u3)
      obtain ⟨p1,p2⟩:=hr.setObj Z (by rw [Y];simp) (.dmap kt vt y) (.map (p.toArray.modify n fun D=>{D with val:=g}) a)
       ⟨c,d,_,a,l,o,by simp [List.modify_toArray],C,e5.modify (f:=fun D=>{D with val:=g}) (fun _=>rfl) n⟩
      refine ⟨_,?_,p1,p2⟩;simp only [Instr.entryStore,Sem.run_bind,z,Result.andThen_ok,asInt,asIntOf,Sem.run_pure,L];rw [AB (w:=w) E.P e3 (by simp)]
   ·cases i
  ·cases i
 ·cases i
theorem LS (hr:HR ρ h.blk.get w) {t:TypeId} {m s v:AV} {c d f:Value} {h':Aa} (g:VR ρ m c) (hs:VR ρ s d) (i:VR ρ v f) (a:Gn E t m s v h=some h') :
  ∃b,(Instr.entryStore t c d f).run E.P w=.ok () b∧HR ρ h'.blk.get b∧Ext ρ ρ h h' w b:=by
 unfold Gn at a;split at a
 ·exact L3 hE hr g hs i a
 ·exact Ma hr g hs i a
theorem Rz (hr:HR ρ h.blk.get w) {t ty:TypeId} {m k:AV} {T H:Value} {h':Aa} (hm:VR ρ m T) (W:VR ρ k H) (l:Pj E t m k h=some h') (C:Array TypeId) (D:C[0]?=some t) :
  ∃K,(Builtin.delete_ C ty #[T,H]).run E.P w=.ok (.tuple #[]) K∧HR ρ h'.blk.get K∧Ext ρ ρ h h' w K:=by
 unfold Pj at l;split at l
 ·rename_i I X d F r ht;obtain ⟨Y,u,v,z⟩:=Gj hE ht;split at l
  ·rename_i x A c3 B L;have G:∀M,(Instr.checkKey M 10000 I H).run E.P w=.ok () w:=fun M=>C4 (w:=w) hE M 9980 20 I k H c3 W
   obtain ⟨ds,N⟩:=FB c3;obtain ⟨kl,O⟩:=KD L W;cases hm with
   |map _ base Q=>
    have f:h.blk.get r≠none:=by
     intro e;rw [e] at B;cases B
    obtain ⟨o,b,R,J,Z⟩:=Ol B (fun y hy=>hr.blk r base y Q hy) u v
    have p:=Au (w:=w) E.P R (by simp)
    have a:=EE (w:=w) hE z O (by omega) N J
    have q:=Fb (k:=(Ab U.V A).cells) 0 J;have g:Ac U.V (.mIdx d x A)=EB d (Ab U.V A).cells (Ab U.V x).rows 0:=rfl;split at l
    ·rename_i i;cases l;have hlt:=As U.ok i;rw [Av,decide_eq_true_eq] at hlt;have z0:Ac U.V (.c 0)=0:=rfl;rw [z0,g] at hlt;rcases q with ⟨a1,a2⟩|⟨n,e,r',a1,a2,a3⟩
     ·rw [a1] at a;obtain ⟨p1,p2⟩:=hr.setObj Q f (.dmap I X x) (.map o.toArray b) ⟨d,F,o,b,u,v,rfl,J,Z⟩;refine ⟨_,?_,p1,p2⟩;simp [Builtin.delete_,D,hE.run_und Y,p,G,a,AB (w:=w) E.P R (by simp)]
     ·omega
    ·rename_i i;cases l;have hlt:=As U.ok i;rw [Av,decide_eq_false_iff_not] at hlt;have z0:Ac U.V (.c 0)=0:=rfl;rw [z0,g] at hlt;rcases q with ⟨a1,a2⟩|⟨n,e,r',a1,a2,a3,a4,a5⟩
     ·omega
     ·rw [a1] at a;have hn:(Ac U.V (.mIdx d x A)).toNat=n:=by rw [g,a2];simp
      have S:(Ab U.V (.rmv x (.mIdx d x A))).rows=(Ab U.V x).rows.eraseIdx n:=by
       show (Ab U.V x).rows.eraseIdx (Ac U.V (.mIdx d x A)).toNat=_;rw [hn]
      obtain ⟨p1,p2⟩:=hr.setObj Q f (.dmap I X (.rmv x (.mIdx d x A))) (.map (o.toArray.eraseIdxIfInBounds n) b) ⟨d,F,o.eraseIdx n,b,u,v,by simp,by rw [S];exact J.erase n,Z.erase n⟩
      refine ⟨_,?_,p1,p2⟩;simp only [Nat.zero_add] at a;simp [Builtin.delete_,D,hE.run_und Y,p,G,a,AB (w:=w) E.P R (by simp)]
    ·cases l
  ·cases l
 ·cases l
theorem Rb (hr:HR ρ h.blk.get w) {t ty:TypeId} {m k:AV} {f g:Value} {h':Aa} (i:VR ρ m f) (l:VR ρ k g) (c:Pe E t m k h=some h') (a:Array TypeId) (b:a[0]?=some t) :
  ∃d,(Builtin.delete_ a ty #[f,g]).run E.P w=.ok (.tuple #[]) d∧HR ρ h'.blk.get d∧Ext ρ ρ h h' w d:=by
 unfold Pe at c;split at c
 ·rename_i q;cases c;exact R5 hE hr i l q a b
 ·exact Rz hE hr i l c a b
theorem RZ {h:Aa} (hr:HR ρ h.blk.get w) {t:TypeId} {m k a:AV} {L x:Value} {ok:Bool} (C:VR ρ m L) (q:VR ρ k x) (c:KO E t m k ok h=some a) :
  ∃v,(Instr.lookup t L x ok).run E.P w=.ok v w∧VR ρ a v:=by
 unfold KO at c;split at c
 ·rename_i r D;cases c;exact Sw hE hr C q D
 ·split at c
  ·rename_i r D;cases c;exact Su hE hr C q D
  split at c
  ·rename_i y Y r M _ _;split at c
   ·rename_i z es g l Q R;obtain ⟨S,z1,z2⟩:=hE.run_zero ρ Q w;have F:=AL ρ z2;have u:∀G,(Instr.checkKey G 10000 y x).run E.P w=.ok () w:=fun G=>C4 (w:=w) hE G 9980 20 y k x l q
    have d:∃A,E.desc y=some A:=by
     simp only [BN] at l;cases T:E.desc y with
     |none=>simp [T] at l
     |some A=>exact ⟨A,rfl⟩
    obtain ⟨A,d⟩:=d
    have fin:∀(v:AV) (b:Bool) (o:Value),VR ρ v o→VR ρ (MK ok v b) (if ok then .tuple #[o,.bool b] else o):=by
     intro v b o N;cases ok with
     |true=>
      have:=VL.cons N (VL.cons (VR.bool (ρ:=ρ) b) (VL.nil ρ));exact .tuple _ [o,.bool b] this.1 this.2
     |false=>exact N
    cases C with
    |map _ base V=>
     obtain ⟨H,W,O⟩:=hr.blk r base _ V R;have f:(getObj base.cb).run E.P w=.ok (.map H.toArray g) w:=by simp [getObj,Sem.run,W]
     split at c
     ·rename_i i v I;cases c;obtain ⟨J,B,K⟩:=J7 (w:=w) hE d q O I;cases J with
      |none=>cases B
      |some X=>
       obtain ⟨j,o⟩:=X;refine ⟨_,?_,fin v true o B.2⟩;simp [Instr.lookup,hE.run_und M,f,u,K]
     ·rename_i I;cases c;obtain ⟨J,B,K⟩:=J7 (w:=w) hE d q O I;cases J with
      |some p=>cases B
      |none=>
       refine ⟨_,?_,fin z false S F⟩;simp [Instr.lookup,hE.run_und M,f,u,K,z1]
     ·cases c
   ·cases c
  ·cases c
end
end Go.AE
namespace Go.AE
variable [Gl:AH]
variable [U:Unk]
omit U in
theorem GM:∀(l b:Nat),(C1 l b).length=l
 |0,_=>rfl
 |l+1,b=>by simp [C1,GM l]
theorem NS {e:SE} (h:Pf e=true):(AR U.V e).data.toList.length<4611686018427387904:=by
 unfold Pf at h;split at h
 ·rename_i l b;have:=Cu h
  have e:(AR U.V (.strc l b)).data.toList.length=l:=by
   show ((C1 l b).toArray).toList.length=l;simp [GM]
  omega
 ·have:=IY h;rw [Av,decide_eq_true_eq,CJ] at this;have z:Ac U.V (.c 4611686018427387904)=4611686018427387904:=rfl;rw [z] at this;omega
section
variable {E:Env} (hE:OK E) {ρ:Ren} {h:Aa} {w:World}
omit U in
theorem cn [U:Unk] {t:TypeId} {s s':ByteArray} (h1:s.data.toList.length<4611686018427387904) (h2:s'.data.toList.length<4611686018427387904):(binOp .add t (.string s) (.string s')).run E.P w=.ok (.string (s++s')) w:=by
 have hsz:s.size=s.data.toList.length:=by simp
 have hsz':s'.size=s'.data.toList.length:=by simp
 have hmax:¬(((s.size+s'.size:Nat):Int)>IntKind.i64.max):=by
  simp only [IntKind.max,IntKind.signed,IntKind.bits];omega
 simp only [binOp,Op.stringOp];rw [if_neg hmax];rfl
theorem X4 {c:BinOp} {t:TypeId} {ox f:Operand} {x y r:AV} {d e:Value} (g:VR ρ x d) (i:VR ρ y e) (hr:bg c x y=some r) :
  ∃v,(do eqGuard c t ox f d e;binOp c t d e:Sem Value).run E.P w=.ok v w∧VR ρ r v:=by
 unfold bg at hr;split at hr
 ·split at hr
  ·rename_i a b j k;split at hr
   ·rename_i m;cases hr;obtain ⟨c1,c2⟩:=An m;rw [G2 g j,G2 i k];have n:(eqGuard .add t ox f (.string (AR U.V a)) (.string (AR U.V b))).run E.P w=.ok () w:=BU (by simp) (fun h _=>by obtain ⟨o,h⟩:=h;cases h)
    refine ⟨.string (AR U.V a++AR U.V b),?_,.ss (.strCat a b)⟩;simp only [Sem.run_bind,n,Result.andThen_ok];exact cn (NS c1) (NS c2)
   ·cases hr
  ·cases hr
 ·cases hr
theorem X9 {L:SE} {n k:Nat} (h:Z3 L n=some k) (h0:0≤Ac U.V L):k=min (Ac U.V L).toNat n:=by
 unfold Z3 at h;split at h
 ·rename_i a;cases h;have:=As U.ok a;rw [Av,decide_eq_false_iff_not] at this;have z:Ac U.V (.c (n:Int))=n:=rfl;rw [z] at this;omega
 ·rename_i a;have:=As U.ok a;rw [Av,decide_eq_true_eq] at this;have z:Ac U.V (.c (n:Int))=n:=rfl;rw [z] at this;split at h
  ·rename_i l f g;split at h
   ·rename_i i;cases h;obtain ⟨c1,c2⟩:=An i;have c1:l=f:=by simpa using c1
    have c2:0≤l:=by simpa using c2
    subst c1;obtain ⟨d,e⟩:=Gm U.ok L;rw [g] at d e;have j:=d l rfl;have m:=e l rfl;omega
   ·cases h
  ·cases h
 ·cases h
theorem ET {y:SE} {kd:Kd}:∀(n i:Nat),(Ft y kd i n).length=n
 |0,_=>rfl
 |n+1,i=>by simp [Ft,ET n]
theorem Mv {y:SE} {kd:Kd}:∀(n i q:Nat),q<n→(Ft y kd i n)[q]?=some (JT y (.c (i+q:Nat)) 0 kd)
 |0,_,q,h=>absurd h (Nat.not_lt_zero q)
 |n+1,i,0,h=>rfl
 |n+1,i,q+1,h=>by
  simp only [Ft,List.getElem?_cons_succ];rw [Mv n (i+1) q (by omega),show i+1+q=i+(q+1) by omega]
theorem Px {kd:Kd} {y:SE} {c:Array Value} {o k:Nat} (hr:Bk U.K ρ.imm [kd] c o (Ab U.V y).rows) (i:k≤(Ab U.V y).rows.length):VL ρ (Ft y kd 0 k) ((c.toList.drop o).take k):=by
 have h1:=hr.1;simp only [List.length_singleton,Nat.mul_one] at h1;refine ⟨by rw [ET];simp;omega,fun q a v d f=>?_⟩
 have g:q<k:=by have:=(List.getElem?_eq_some_iff.1 d).1;rwa [ET] at this
 rw [Mv k 0 q g,Nat.zero_add] at d;cases d;have e:=hr.2.2 q 0 kd (by omega) rfl
 rw [List.getElem?_take,if_pos g,List.getElem?_drop,Array.getElem?_toList] at f;simp only [List.length_singleton,Nat.mul_one,Nat.add_zero] at e;rw [Array.getD_eq_getD_getElem?,f] at e;exact JH e
include hE
theorem Wb (hr:HR ρ h.blk.get w) {t t' ty:TypeId} {d x a:AV} {dv S:Value} {h':Aa} (G:VR ρ d dv) (W:VR ρ x S) (m:WY E t d x h=some (a,h')) (z:Array TypeId) (A:z[0]?=some t) :
  AP E ρ h h' w (Builtin.copy_ z ty #[dv,S]) a:=by
 unfold WY at m;split at m
 ·rename_i r hq;cases m;exact WA hE hr (t':=t) G W hq z A
 ·split at m
  ·rename_i e hd;split at m
   ·rename_i kd b off n es y v hsz q _;split at m
    ·rename_i k B H;split at m
     ·rename_i h2 g;cases m;have B:=Ay B;subst B
      have I:U.K e=some [kd]:=by
       rw [hE.kd,←hE.ke];revert v;cases E.kinds e with
       |none=>intro v;cases v
       |some l=>cases l with
        |nil=>intro v;cases v
        |cons p l=>cases l with
         |nil=>intro v;cases v;rfl
         |cons _ _=>intro v;cases v
      have f:=X9 H (by rw [Ai];exact Int.natCast_nonneg _)
      rw [Ai,Int.toNat_natCast] at f
      obtain ⟨X,s1,s2,s3⟩:∃X:List Value,VL ρ (Ft y kd 0 k) X∧(Builtin.lenOf S).run E.P w=.ok (Ab U.V y).rows.length w∧(Builtin.firstCells 1 k S).run E.P w=.ok X.toArray w:=by
       unfold Q7 at q;split at q
       ·rename_i e' y';split at q
        ·rename_i Y;cases q;have Y:=Ay Y;subst Y;cases W with
         |dat _ _ ad n' J L=>
          cases L with
          |nil _ _ g1 M=>
           rw [M] at f;have:k=0:=by simpa using f
           subst this;exact ⟨[],VL.nil ρ,by rw [M];simp [Builtin.lenOf],by simp [Builtin.firstCells]⟩
          |empty _ a1 _ _ g1 M=>
           rw [M] at f;have:k=0:=by simpa using f
           subst this;exact ⟨[],VL.nil ρ,by rw [M];simp [Builtin.lenOf],by simp [Builtin.firstCells,Go.loadCells,loadCellsFrom]⟩
          |slc _ T o _ _ _ ks arr N Z hn af g1 O Q hv=>
           rw [I] at N;cases N;obtain ⟨e1,fz,R⟩:=hr.imm T arr Z;have C:Bk U.K ρ.imm [kd] arr o (Ab U.V y).rows:=⟨by rw [hn];exact O,fun i hi=>Q i (by omega),fun i j aa hi hj=>hv i j aa (by omega) hj⟩
           have u:k≤(Ab U.V y).rows.length:=by rw [f];exact Nat.min_le_left _ _
           refine ⟨_,Px C u,by rw [hn];simp [Builtin.lenOf],?_⟩
           simp only [Builtin.firstCells,Nat.mul_one];simp only [List.length_singleton,Nat.mul_one] at O;exact AC E.P w T o k arr e1 fz R (by omega)
        ·cases q
       ·rename_i T ag n' nl _;split at q
        ·rename_i e' y' R;split at q
         ·rename_i hc;cases q;obtain ⟨c12,c3⟩:=An hc;obtain ⟨c1,c2⟩:=An c12;have c1:=Ay c1;have c2:=Ay c2;subst c1;subst c2;have D:=Fq c3;rw [Ai] at D;have u:k≤(Ab U.V y).rows.length:=by rw [f];exact Nat.min_le_left _ _
          cases W with
          |asl _ _ _ _ J base F q0 qc qz qn=>
           obtain ⟨ah,ab,et,fz,b1,b2,b3,b4,b5⟩:=hr.blk T base _ F R;rw [I] at b1;cases b1;refine ⟨_,Px b5 u,by rw [D];simp [Builtin.lenOf],?_⟩
           simp only [Builtin.firstCells,Nat.mul_one];have:=b5.1;simp only [List.length_singleton,Nat.mul_one] at this;exact AC E.P w base.cb base.co k ab et fz b2 (by omega)
          |aslEnd _ _ _ _ ad q0 qn=>
           have hz:(Ab U.V y).rows.length=0:=by rw [q0] at D;omega
           have:k=0:=by omega
           subst this;refine ⟨[],VL.nil ρ,by rw [hz];simp [Builtin.lenOf],?_⟩
           cases ad with
           |none=>simp [Builtin.firstCells]
           |some ad=>simp [Builtin.firstCells,Go.loadCells,loadCellsFrom]
         ·cases q
        ·cases q
       ·cases q
      cases G with
      |slice _ _ _ _ J base R ae hz=>
       obtain ⟨w',q1,q2,q3⟩:=hr.storeN E.P R s1 g;refine ⟨ρ,goInt (k:Nat),w',?_,.int _ _,q2,q3⟩;unfold Builtin.copy_;have hm:Nat.min (Ab U.V y).rows.length n=k:=f.symm;simp only [A,List.getElem?_toArray,List.getElem?_cons_zero,List.getElem?_cons_succ,Sem.run_bind,hE.run_und hd,Result.andThen_ok,s2,hE.run_szIs hsz,hm,s3,q1];simp
      |sliceEnd _ _ _ ad=>
       have ac:k=0:=by rw [f];simp
       subst ac;have:=s1.nil_inv;subst this;have hm:Nat.min (Ab U.V y).rows.length 0=0:=Nat.min_zero _
       obtain ⟨q2,q3⟩:HR ρ h'.blk.get w∧Ext ρ ρ h h' w w:=by
        unfold storeN at g;simp only [Ft] at g;split at g
        ·rename_i sz c hg;split at g
         ·cases g;refine hr.swap (by rw [hg];exact Option.some_ne_none _) _ (fun base F=>?_)
          exact hr.blk b base _ F hg
         ·cases g
        ·cases g
       refine ⟨ρ,goInt (0:Nat),w,?_,.int _ _,q2,q3⟩;unfold Builtin.copy_;simp only [A,List.getElem?_toArray,List.getElem?_cons_zero,List.getElem?_cons_succ,Sem.run_bind,hE.run_und hd,Result.andThen_ok,s2,hE.run_szIs hsz,hm,s3];simp [storeCells]
     ·cases m
    ·cases m
   ·cases m
  ·cases m
end
end Go.AE
namespace Go.AE
variable [Gl:AH]
variable [U:Unk]
section
variable {E:Env} (hE:OK E) {ρ:Ren} {h:Aa} {w:World}
theorem QW {s:Sem Unit} {c:String} {o:Option Aa} (d:∀h',o=some h'→∃a b,s.run E.P w=.ok () b∧HR a h'.blk.get b∧Ext ρ a h h' w b) :
  Ez E ρ h w (do s;pure .skip) (Ej c o):=by
 cases o with
 |none=>trivial
 |some h'=>
  intro i;obtain ⟨a,b,e,f,g⟩:=d h' rfl;exact ⟨a,Go.undef,b,.inr ⟨by simp [e],rfl⟩,VR.undef a,f,g⟩
theorem Lt {s:Sem Value} {b:String} {o:Option Aa} (c:∀h',o=some h'→∃a,s.run E.P w=.ok (.tuple #[]) a∧HR ρ h'.blk.get a∧Ext ρ ρ h h' w a) :
  Ez E ρ h w (do pure (.value (←s))) (Ej b o):=by
 cases o with
 |none=>trivial
 |some h'=>
  intro g;obtain ⟨a,d,e,f⟩:=c h' rfl;exact ⟨ρ,Go.undef,a,.inl (by simp [d,Go.undef]),VR.undef ρ,e,f⟩
theorem YR {c:Array TypeId} {ty:TypeId} {args:List AV} {b:List Value} {a:AV} (e:VL ρ args b) (d:kc args=some a):∃v,(Builtin.max_ c ty b.toArray).run E.P w=.ok v w∧VR ρ a v:=by
 cases args with
 |nil=>cases d
 |cons x r=>
  obtain ⟨v,k,rfl,f,g⟩:=e.cons_inv;cases f<;>first | (cases d;done)|skip
  obtain ⟨u,i,j⟩:=Sz E.P w _ g d;exact ⟨u,by simpa [Builtin.max_] using i,j⟩
theorem YG {c:Array TypeId} {ty:TypeId} {args:List AV} {b:List Value} {a:AV} (e:VL ρ args b) (d:fk args=some a):∃v,(Builtin.min_ c ty b.toArray).run E.P w=.ok v w∧VR ρ a v:=by
 cases args with
 |nil=>cases d
 |cons x r=>
  obtain ⟨v,k,rfl,f,g⟩:=e.cons_inv;cases f<;>first | (cases d;done)|skip
  obtain ⟨u,i,j⟩:=So E.P w _ g d;exact ⟨u,by simpa [Builtin.min_] using i,j⟩
include hE
theorem U7 (hr:HR ρ h.blk.get w) {t ty:TypeId} {x:AV} {D:Value} {h':Aa} (I:VR ρ x D) (a:RX E t x h=some h') (o:Array TypeId) (f:o[0]?=some t) :
  ∃p,(Builtin.clear_ o ty #[D]).run E.P w=.ok (.tuple #[]) p∧HR ρ h'.blk.get p∧Ext ρ ρ h h' w p:=by
 unfold RX at a;cases s:E.desc t with
 |none=>rw [s] at a;cases a
 |some d=>
  rw [s] at a;have k:=hE.run_und s w;simp only [] at a;cases I<;>first | (cases a;done)|skip
  ·simp only [Option.some.injEq] at a;subst a;exact ⟨w,by cases d<;>simp [Builtin.clear_,f,k],hr,Ext.refl ρ h w⟩
  ·rename_i b off n u J base l F T;cases n with
   |zero=>
    simp only [Option.some.injEq] at a;subst a;exact ⟨w,by cases d<;>simp [Builtin.clear_,f,k],hr,Ext.refl ρ h w⟩
   |succ n=>
    cases d<;>first | (cases a;done)|skip
    rename_i e;simp only [] at a;cases i:E.zero e with
    |none=>rw [i] at a;cases a
    |some z=>
     rw [i] at a;simp only [] at a;cases j:Nat.beq z.cells.length u with
     |false=>rw [j] at a;cases a
     |true=>
      rw [j] at a;simp only [] at a;have G:=Ay j;obtain ⟨q,z1,z2⟩:=hE.run_zero ρ i w;have H:=(AL ρ z2).cells (Bo z2);have K:=Eu H (n+1) q.cells (.inr rfl);obtain ⟨p,L,M,N⟩:=hr.storeN E.P l K a;refine ⟨p,?_,M,N⟩;have v:q.cells.size=z.cells.length:=by have:=H.1;simp at this;omega
      have O:(Builtin.zeroCells q.cells (n+1)).toList=((Array.range ((n+1)*z.cells.length)).map (q.cells[· % q.cells.size]!)).toList:=by
       rw [Builtin.zeroCells,v]
      simp only [Builtin.clear_,f,List.getElem?_toArray,List.getElem?_cons_zero,Sem.run_bind,k,Result.andThen_ok,z1,O,L,Sem.run_pure]
  ·rename_i b off u ad;simp only [Option.some.injEq] at a;subst a;exact ⟨w,by cases d<;>simp [Builtin.clear_,f,k],hr,Ext.refl ρ h w⟩
  ·rename_i b base l;simp only [] at a;cases m:h.blk.get b with
   |none=>rw [m] at a;cases a
   |some y=>
    rw [m] at a;cases y<;>first | (cases a;done)|skip
    ·rename_i u c;simp only [Option.some.injEq] at a;subst a;obtain ⟨A,r,Q⟩:=hr.blk b base _ l m;have g:=Au (w:=w) E.P r (by simp)
     obtain ⟨p1,p2⟩:=hr.setObj l (by rw [m];simp) (.map [] c) (.map #[] c) ⟨[],rfl,trivial⟩
     refine ⟨_,?_,p1,p2⟩;cases d<;>simp [Builtin.clear_,f,k,g,AB (w:=w) E.P r (by simp)]
    ·rename_i R S x;simp only [Option.some.injEq] at a;subst a;obtain ⟨B,C,A,c,k1,k2,r,Q,V⟩:=hr.blk b base _ l m;have g:=Au (w:=w) E.P r (by simp)
     obtain ⟨p1,p2⟩:=hr.setObj l (by rw [m];simp) (.dmap R S .emptyL) (.map #[] c) ⟨B,C,[],c,k1,k2,rfl,trivial,Inc.nil c⟩
     refine ⟨_,?_,p1,p2⟩;cases d<;>simp [Builtin.clear_,f,k,g,AB (w:=w) E.P r (by simp)]
theorem PD (hr:HR ρ h.blk.get w) {b:Builtin} {ats:Array TypeId} {ty:TypeId} {consts:Array Bool} {args:List AV} {j:List Value} (n:VL ρ args j) :
  Ez E ρ h w (builtin b ats ty consts j.toArray) (Fp E b ats.toList args h):=by
 unfold Fp;split
 ·rename_i t ts x B e;obtain ⟨v,r,rfl,g,o⟩:=n.cons_inv;have f:ats[0]?=some t:=by rw [←Array.getElem?_toList,e];rfl
  exact Ba hr fun a c=>Ys hE hr g c ats f _ (by simp)
 ·rename_i t t' s x e;obtain ⟨v,r,rfl,g,o⟩:=n.cons_inv;obtain ⟨z,A,rfl,i,l⟩:=o.cons_inv;have:=l.nil_inv;subst this;have p:ats = #[t,t']:=by cases ats;simp_all
  subst p;exact BB fun a h' c q=>Oz hE hr g i c q (fun a h' c q=>LU hE hr g i c q)
 ·rename_i t ts d x e;obtain ⟨v,r,rfl,g,o⟩:=n.cons_inv;obtain ⟨z,A,rfl,i,l⟩:=o.cons_inv;have:=l.nil_inv;subst this;have f:ats[0]?=some t:=by rw [←Array.getElem?_toList,e];rfl
  exact BB fun a h' c q=>Wb hE hr (t':=t) g i c ats f
 ·rename_i t ts m k e;obtain ⟨v,r,rfl,g,o⟩:=n.cons_inv;obtain ⟨z,A,rfl,i,l⟩:=o.cons_inv;have:=l.nil_inv;subst this;have f:ats[0]?=some t:=by rw [←Array.getElem?_toList,e];rfl
  exact Lt fun h' c=>Rb hE hr g i c ats f
 ·exact Ba hr fun a c=>by
   unfold orA at c;split at c
   ·rename_i u;cases c;exact YR n u
   ·exact VE n c
 ·exact Ba hr fun a c=>by
   unfold orA at c;split at c
   ·rename_i u;cases c;exact YG n u
   ·exact Wl n c
 ·exact ⟨rfl,by simp [builtin]⟩
 ·obtain ⟨v,r,rfl,g,o⟩:=n.cons_inv;have:=o.nil_inv;subst this;have y:=g;cases g;exact ⟨rfl,_,y,by simp [builtin,Instr.panic]⟩
 ·rename_i t x e;obtain ⟨v,r,rfl,g,o⟩:=n.cons_inv;have:=o.nil_inv;subst this;have f:ats[0]?=some t:=by rw [←Array.getElem?_toList,e];rfl
  exact Lt fun h' c=>U7 hE hr g c ats f
 ·trivial
theorem Ul (hr:HR ρ h.blk.get w) {tmps:T AV} {g:Operand→Value} (j:EvR ρ tmps g) (c:Call) (ty:TypeId) :
  Ez E ρ h w (do let d ←resolve g c ty;invoke d.target d.args) (Dn E tmps c h):=by
 have a:=j.list c.args.toList;have i:(c.args.map g)=(c.args.toList.map g).toArray:=by apply Array.ext';simp
 unfold Dn;cases o:c.callee with
 |builtin b=>
  have e:∃cs,(do let d ←resolve g c ty;invoke d.target d.args)=builtin b c.argTypes ty cs (c.args.toList.map g).toArray:=
   ⟨_,by simp only [resolve,o,pure_bind,invoke,i];rfl⟩
  obtain ⟨cs,e⟩:=e;rw [e];exact PD (w:=w) hE hr (b:=b) (ats:=c.argTypes) (ty:=ty) (consts:=cs) a
 |invoke r name=>
  have:=Ea (w:=w) hE hr (fn:=.method name) (fn':=.method name) (captured:=[]) (captured':=[]) rfl (VL.nil ρ) (VL.cons (j r) a)
  have e:(do let d ←resolve g c ty;invoke d.target d.args)=invoke (.fn (.method name) #[]) (g r::c.args.toList.map g).toArray:=by
   simp only [resolve,o,pure_bind,i]
   congr 1
   simp
  rw [e];exact this
 |value f=>
  simp only [];have m:=j f;cases s:Af tmps f with
  |func fn first captured=>
   rw [s] at m;cases k:g f with
   |func fn' n captured'=>
    rw [k] at m;cases m with
    |func _ _ _ _ p q t u v x y=>
     have:=Ea (w:=w) hE hr t (captured:=captured) (captured':=q) ⟨x,y⟩ (VL.append (l:=first) (l':=p) ⟨u,v⟩ a)
     have e:(do let d ←resolve g c ty;invoke d.target d.args)=invoke (.fn fn' q.toArray) (p++c.args.toList.map g).toArray:=by
      simp only [resolve,o,k,Deferred.ofValue,pure_bind,i]
      congr 1
      simp
     rw [e];exact this
   |_=>rw [k] at m;cases m
  |_=>trivial
omit hE in
theorem QV {tmps:T AV} {ev:Operand→Value} (hev:EvR ρ tmps ev) (c:Call) (ty:TypeId) :
  Ez E ρ h w (do pure (.defer (←resolve ev c ty))) (GP tmps c h):=by
 have hargs:=hev.list c.args.toList;have hmap:(c.args.map ev)=(c.args.toList.map ev).toArray:=by apply Array.ext';simp
 unfold GP;cases hc:c.callee with
 |value f=>
  simp only [];have hf:=hev f;cases hv:Af tmps f with
  |func fn first captured=>
   rw [hv] at hf;cases hvf:ev f with
   |func fn' first' captured'=>
    rw [hvf] at hf;cases hf with
    |func _ _ _ _ f' c' q1 q2 q3 q4 q5=>
     refine ⟨rfl,{target:=.fn fn' c'.toArray,args:=(f'++c.args.toList.map ev).toArray},?_,?_⟩
     ·exact ⟨fn',c',f'++c.args.toList.map ev,q1,⟨q4,q5⟩,VL.append (l:=first) (l':=f') ⟨q2,q3⟩ hargs,rfl⟩
     ·simp [resolve,hc,hvf,Deferred.ofValue,hmap]
   |_=>rw [hvf] at hf;cases hf
  |_=>trivial
 |_=>trivial
end
end Go.AE
namespace Go.AE
variable [Gl:AH]
variable [U:Unk]
section
variable {E:Env} (hE:OK E) {ρ:Ren} {h:Aa} {w:World}
include hE
omit hE in
theorem BX (hr:HR ρ h.blk.get w) {s:Sem Next} {a:AV} {v:Value} (hs:s.run E.P w=.ok (.value v) w) (hv:VR ρ a v):Ez E ρ h w s (.val a h):=
 fun _=>⟨ρ,v,w,.inl hs,hv,hr,Ext.refl ρ h w⟩
omit hE in
theorem HI {tmps:T AV} {ev:Operand→Value} (hev:EvR ρ tmps ev) (o:Option Operand):(∀a,A5 tmps o=some a→∃v,o.map ev=some v∧VR ρ a v)∧(A5 tmps o=none→o.map ev=none):=by
 cases o with
 |none=>exact ⟨(fun a h=>by cases h),fun _=>rfl⟩
 |some x=>exact ⟨fun a h=>by simp only [A5,Option.some.injEq] at h;subst h;exact ⟨ev x,rfl,hev x⟩,(fun h=>by cases h)⟩
theorem jT {t:TypeId} {b:Array (String×TypeId)} (c:E.desc t=some (.interface b)) (d:Nat):(Op.equalIn (d+1) t .nilIface .nilIface).run E.P w=.ok true w:=by
 simp [Op.equalIn,hE.run_und c]
theorem HB (hr:HR ρ h.blk.get w) {tmps:T AV} {ev:Operand→Value} (hev:EvR ρ tmps ev) (o:Oper):Ez E ρ h w (execOp ev o) (aop E tmps h o.op):=by
 unfold execOp aop;cases ae:o.op with
 |move x=>exact BX hr (by simp) (hev x)
 |assign x=>exact BX hr (by simp) (hev x)
 |pick c a b=>
  simp only [];have u:=hev c;cases hv:Af tmps c with
  |bool t=>
   rw [hv] at u;cases B:ev c with
   |bool t'=>
    rw [B] at u;cases u;cases t with
    |true=>exact BX hr (by simp [asBool]) (hev a)
    |false=>exact BX hr (by simp [asBool]) (hev b)
   |_=>rw [B] at u;cases u
  |sb pos e=>
   rw [hv] at u;simp only [];split
   ·rename_i q g;have F:=As U.ok g;cases B:ev c with
    |bool t'=>
     rw [B] at u;cases u;rw [F];split
     ·rename_i H;rw [H];exact BX hr (by simp [asBool]) (hev a)
     ·rename_i H;rw [H];exact BX hr (by simp [asBool]) (hev b)
    |_=>rw [B] at u;cases u
   ·trivial
  |_=>trivial
 |alloc t=>
  simp only [];cases hz:E.zero t with
  |none=>trivial
  |some z=>
   intro p;obtain ⟨W,v,X,A,G,I,J⟩:=Vs hE hr (p h.nx (Nat.le_refl _) (by simp [Bh,Aa.new])) hz
   exact ⟨W,v,X,.inl (by simp [A]),G,I,J⟩
 |box t x=>
  simp only [];cases ht:(Af tmps x).isTop with
  |true=>trivial
  |false=>
   intro p;obtain ⟨W,v,X,A,G,I,J⟩:=Z5 (E:=E) (t:=t) hr (p h.nx (Nat.le_refl _) (by simp [Bh,Aa.new])) (hev x) (by rintro e;rw [e] at ht;cases ht)
   exact ⟨W,v,X,.inl (by simp [A]),G,I,J⟩
 |build t K=>
  have H:=hev.parts K.toList;have C:(K.map fun (i,x)=>(i,ev x))=(K.toList.map fun (i,x)=>(i,ev x)).toArray:=by apply Array.ext';simp
  simp only [C];exact Ba hr fun a g=>UK hE H g
 |buildSlice t len K=>
  have H:=hev.parts K.toList;have C:(K.map fun (i,x)=>(i,ev x))=(K.toList.map fun (i,x)=>(i,ev x)).toArray:=by apply Array.ext';simp
  simp only [C];exact BB fun a h' g p=>Le hE hr H g p
 |load t a=>exact Ba hr fun x g=>VH hE hr (hev a) g
 |store t a x=>exact QW fun h' g=>Qb hE hr (hev a) (hev x) g
 |nilCheck x=>
  simp only [];have n:=hev x;cases hv:Af tmps x<;>try trivial
  all_goals (rw [hv] at n)
  ·cases j:ev x<;>rw [j] at n<;>cases n
   exact BX hr rfl (.ptr _ _ _ (by assumption))
  ·rename_i fn f c;cases fn<;>try trivial
   ·cases j:ev x with
    |func Y Z c'=>
     rw [j] at n;cases n with
     |func _ _ _ _ Z c' A G I J q5=>
      have L:=A;simp only [FnR] at A;subst A;exact BX hr rfl (.func _ _ _ _ _ _ L G I J q5)
    |_=>rw [j] at n;cases n
   ·cases j:ev x with
    |func Y Z c'=>
     rw [j] at n;cases n with
     |func _ _ _ _ Z c' A G I J q5=>
      have L:=A;obtain ⟨base,hb,rfl⟩:=A;exact BX hr rfl (.func _ _ _ _ _ _ L G I J q5)
    |_=>rw [j] at n;cases n
  ·cases j:ev x<;>rw [j] at n<;>cases n
   exact BX hr rfl (.iface _ _ _ (by assumption))
 |binOp N t x y ty=>
  refine Ba hr fun a g=>?_
  unfold br at g;cases O:((Af tmps x).isSym||(Af tmps y).isSym) with
  |true=>
   rw [O] at g;simp only [] at g;split at g
   ·rename_i r D;cases g;exact aR hE (hev x) (hev y) D
   ·split at g
    ·rename_i r D;cases g;exact X4 (hev x) (hev y) D
    ·exact XQ (hev x) (hev y) g
  |false=>
  rw [O] at g;simp only [] at g;cases hn:((Af tmps x).isNil&&(Af tmps y).isNil) with
  |false=>
   rw [hn] at g;simp only [] at g;split at g
   ·rename_i r D;cases g;exact Ub hE (hev x) (hev y) D
   ·exact VI hE (hev x) (hev y) g
  |true=>
   rw [hn] at g;simp only [] at g;obtain ⟨n1,n2⟩:=An hn
   have e1:Af tmps x=.nilIface:=by
    generalize Af tmps x=a at n1;cases a<;>first|rfl|cases n1
   have e2:Af tmps y=.nilIface:=by
    generalize Af tmps y=a at n2;cases a<;>first|rfl|cases n2
   have v1:=hev x;have v2:=hev y;rw [e1] at v1;rw [e2] at v2;generalize n:ev x=xv at v1;generalize hy:ev y=yv at v2;cases v1;cases v2;cases u:(Region.isConst x||Region.isConst y) with
   |false=>rw [u] at g;cases g
   |true=>
    rw [u] at g;cases F:E.desc t with
    |none=>rw [F] at g;cases g
    |some d=>
     rw [F] at g;cases d<;>first | (cases g;done)|skip
     have hu:=hE.run_und F w
     have hg:(eqGuard N t x y .nilIface .nilIface).run E.P w=.ok () w:=by
      unfold eqGuard;rcases orF u with q|q
      ·cases x<;>simp only [Region.isConst,Bool.false_eq_true] at q
       cases N<;>simp
      ·cases y<;>simp only [Region.isConst,Bool.false_eq_true] at q
       cases N<;>cases x<;>simp
     have Q:(Op.equal t .nilIface .nilIface).run E.P w=.ok true w:=jT hE F 9999;have aa:binOp .eql t .nilIface .nilIface=(do pure (.bool (←Op.equal t .nilIface .nilIface))):=rfl
     have ab:binOp .neq t .nilIface .nilIface=(do pure (.bool (!(←Op.equal t .nilIface .nilIface)))):=rfl
     cases N<;>first | (cases g;done)|skip
     ·simp only [Option.some.injEq] at g;subst g;exact ⟨.bool true,by rw [aa];simp only [Sem.run_bind,hg,Result.andThen_ok,Q,Sem.run_pure],.bool _⟩
     ·simp only [Option.some.injEq] at g;subst g;exact ⟨.bool false,by rw [ab];simp only [Sem.run_bind,hg,Result.andThen_ok,Q,Sem.run_pure,Bool.not_true],.bool _⟩
 |unOp N t x=>exact Ba hr fun a g=>be (hev x) g
 |convert s d x=>exact BB fun a h' g p=>XC hE hr (hev x) g p
 |makeInterface t x=>
  simp only [];cases F:E.desc t with
  |none=>trivial
  |some d=>
   cases d<;>first|trivial|exact BX hr (by simp [Instr.makeInterface,hE.run_und F]) (.iface t _ _ (hev x))
 |makeFunc fn first captured=>
  have S:=hev.list first.toList;have V:=hev.list captured.toList;have e1:first.map ev=(first.toList.map ev).toArray:=by apply Array.ext';simp
  have e2:captured.map ev=(captured.toList.map ev).toArray:=by apply Array.ext';simp
  cases fn with
  |yield l=>trivial
  |_=>exact BX hr (by simp only [Instr.makeFunc,Sem.run_bind,Sem.run_pure,Result.andThen_ok,e1,e2]) (.func _ _ _ _ _ _ rfl S.1 S.2 V.1 V.2)
 |makeMap t r=>
  have mk:∀{s:Sem Next},s.run E.P w=.ok (.value (.map (some w.heap.size))) {w with heap:=w.heap.push (.map #[] 0)}→Ez E ρ h w s (.val (.map h.nx) (h.new (.map [] 0))):=by
   intro s hs p;have M:ρ h.nx=none:=p h.nx (Nat.le_refl _) (by simp [Aa.new])
   obtain ⟨p1,p2⟩:=hr.new M (.map [] 0) (.map #[] 0) 0 ⟨[],rfl,trivial⟩ {w with heap:=w.heap.push (.map #[] 0)} rfl rfl rfl rfl
   exact ⟨_,_,_,.inl hs,.map h.nx _ (Ren.upd_same _ _ _),p1,p2⟩
  cases r with
  |none=>exact mk (by simp [Instr.makeMap])
  |some r=>
   simp only [];have n:=hev r;cases F:E.desc t with
   |none=>trivial
   |some d=>
    cases d<;>try trivial
    cases hv:Af tmps r<;>try trivial
    rw [hv] at n;cases j:ev r<;>rw [j] at n<;>cases n
    exact mk (by simp [Instr.makeMap,j,hE.run_und F,asInt,asIntOf])
 |makeSlice t l c=>exact BB fun a h' g p=>MI hE hr (hev l) (hev c) g p
 |slice t x lo hi R=>
  refine BB fun a h' g p=>?_
  obtain ⟨a1,a2⟩:=HI hev lo;obtain ⟨b1,b2⟩:=HI hev hi;obtain ⟨c1,c2⟩:=HI hev R
  have ac:A5 tmps R≠none→A5 tmps hi≠none:=by
   cases R with
   |none=>intro q;exact absurd rfl q
   |some m=>cases hi with
    |none=>cases g
    |some i=>intro _ q;cases q
  have ad:sliceB E t (Af tmps x) (A5 tmps lo) (A5 tmps hi) (A5 tmps R) h=some (a,h'):=by
   cases R<;>cases hi<;>first|exact g|cases g
  exact U5 hE hr (hev x) a1 a2 b1 b2 c1 c2 ac ad
 |fieldAddr t x f=>exact Ba hr fun a g=>MS hE (hev x) g
 |field t x f=>exact Ba hr fun a g=>U8 hE (hev x) g
 |indexAddr t x i=>exact Ba hr fun a g=>ML hE (hev x) (hev i) g
 |index t x i=>exact Ba hr fun a g=>Ur hE (hev x) (hev i) g
 |lookup t m k ok=>exact Ba hr fun a g=>RZ hE hr (hev m) (hev k) g
 |mapUpdate t m k v=>exact JS fun h' g=>Q9 hE hr (hev m) (hev k) (hev v) g
 |insert t m k v=>exact JS fun h' g=>HN hE hr (hev m) (hev k) (hev v) g
 |mapEntry t m k=>exact BB fun a h' g p=>Ux hE hr (hev m) (hev k) g p
 |entryStore t m s v=>exact JS fun h' g=>LS hE hr (hev m) (hev s) (hev v) g
 |range t x=>exact BB fun a h' g p=>Va hE hr (hev x) g p
 |next it af=>exact BB fun a h' g p=>La hr (hev it) g
 |entry it=>exact Ba hr fun a g=>MT hr (hev it) g
 |typeAssert x xt t ok=>exact Ba hr fun a g=>SL hE (hev x) g
 |extract t i=>
  simp only [];have n:=hev t;cases hv:Af tmps t<;>try trivial
  rw [hv] at n;cases j:ev t<;>rw [j] at n<;>cases n
  rename_i l l' S V;refine Ba hr fun a g=>?_
  obtain ⟨v,A,G⟩:=VL.get (l:=l) (l':=l') ⟨S,V⟩ g;exact ⟨v,by simp [Instr.extract,A],G⟩
 |call c=>exact Ul hE hr hev c o.type
 |defer c=>exact QV hev c o.type
 |panic x=>
  simp only [];have n:=hev x;cases hv:Af tmps x<;>try trivial
  rw [hv] at n;cases j:ev x<;>rw [j] at n<;>cases n
  exact ⟨rfl,_,.iface _ _ _ (by assumption),by simp [Instr.panic]⟩
 |_=>trivial
end
end Go.AE
namespace Go.AE
variable [Gl:AH]
variable [U:Unk]
section
variable {P:Program} {fr:Frame} {k:List Item} {cs:List Frame} {w:World}
theorem cM {a b:Code} (c:fr.mode=.run) (d:fr.todo=.code (.seq a b)::k):step P (lone fr cs w)=.next (lone {fr with todo:=.code a::.code b::k} cs w):=
 step_lone_go (by cases fr;simp only at c d;subst c;subst d;simp [stepG,stepG.exec])
theorem XN (a:fr.mode=.run) (b:fr.todo=.code .skip::k):step P (lone fr cs w)=.next (lone {fr with todo:=k} cs w):=
 step_lone_go (by cases fr;simp only at a b;subst a;subst b;simp [stepG,stepG.exec])
theorem Vn {l:Nat} (a:fr.mode=.run) (b:fr.todo=.code (.label l)::k):step P (lone fr cs w)=.next (lone {fr with todo:=k} cs w):=
 step_lone_go (by cases fr;simp only at a b;subst a;subst b;simp [stepG,stepG.exec])
theorem SH {l:Nat} (a:fr.mode=.run) (b:fr.todo=.inBlock l::k):step P (lone fr cs w)=.next (lone {fr with todo:=k} cs w):=
 step_lone_go (by cases fr;simp only at a b;subst a;subst b;simp [stepG,stepG.exec])
theorem Sk {l:Code} (a:fr.mode=.run) (b:fr.todo=.inScope l::k):step P (lone fr cs w)=.next (lone {fr with todo:=k} cs w):=
 step_lone_go (by cases fr;simp only at a b;subst a;subst b;simp [stepG,stepG.exec])
theorem KC {c:Operand} {x y:Code} {b:Bool} (a:fr.mode=.run) (d:fr.todo=.code (.cond c x y)::k) (e:fr.eval c=.bool b):step P (lone fr cs w)=.next (lone {fr with todo:=.code (if b then x else y)::k} cs w):=
 step_lone_go (by cases fr;simp only at a d;subst a;subst d;simp [stepG,stepG.exec,e])
theorem W1 {id:Nat} {c:Code} (a:fr.mode=.run) (b:fr.todo=.code (.block id c)::k):step P (lone fr cs w)=.next (lone {fr with todo:=.code c::.inBlock id::k} cs w):=
 step_lone_go (by cases fr;simp only at a b;subst a;subst b;simp [stepG,stepG.exec])
theorem Yo {c:Code} (a:fr.mode=.run) (b:fr.todo=.code (.loop c)::k):step P (lone fr cs w)=.next (lone {fr with todo:=.code c::.inLoop c::k} cs w):=
 step_lone_go (by cases fr;simp only at a b;subst a;subst b;simp [stepG,stepG.exec])
theorem Ui {c:Code} (a:fr.mode=.run) (b:fr.todo=.inLoop c::k):step P (lone fr cs w)=.next (lone {fr with todo:=.code c::.inLoop c::k} cs w):=
 step_lone_go (by cases fr;simp only at a b;subst a;subst b;simp [stepG,stepG.exec])
theorem WE {c:Code} (a:fr.mode=.run) (b:fr.todo=.code (.scope c)::k):step P (lone fr cs w)=.next (lone {fr with todo:=.code c::.inScope c::k} cs w):=
 step_lone_go (by cases fr;simp only at a b;subst a;subst b;simp [stepG,stepG.exec])
theorem Uw {id:Nat} {ops:Array Oper} (a:fr.mode=.run) (b:fr.todo=.code (.region id ops false)::k):step P (lone fr cs w)=.next (lone {fr with todo:=.inRegion ops (List.range ops.size)::k} cs w):=
 step_lone_go (by cases fr;simp only at a b;subst a;subst b;simp [stepG,stepG.exec])
theorem XZ {id:Nat} {ops:Array Oper} (a:fr.mode=.run) (b:fr.todo=.code (.region id ops true)::k) :
  step P (lone fr cs w)=.next (lone {fr with todo:=.inRegion ops (Region.schedule (P.follows .mixedOrders) ops (w.tape w.drawn (.order fr.fn id)))::k} cs {w with drawn:=w.drawn+1}):=
 step_lone_go (by cases fr;simp only at a b;subst a;subst b;simp [stepG,stepG.exec,choose,Sem.run,Question.forced,Question.cut])
theorem Jg {ops:Array Oper} (a:fr.mode=.run) (b:fr.todo=.inRegion ops []::k):step P (lone fr cs w)=.next (lone {fr with todo:=k} cs w):=
 step_lone_go (by cases fr;simp only at a b;subst a;subst b;simp [stepG,stepG.exec])
theorem Yi {id:Nat} {a:List Item} (b:fr.mode=.run) (c:fr.todo=.code (.exit id)::k) (d:exitTo id k=some a):step P (lone fr cs w)=.next (lone {fr with todo:=a} cs w):=
 step_lone_go (by cases fr;simp only at b c;subst b;subst c;simp [stepG,stepG.exec,d])
theorem Yb {l:Nat} {a:List Item} (b:fr.mode=.run) (c:fr.todo=.code (.goto l)::k) (d:gotoIn l k=some a):step P (lone fr cs w)=.next (lone {fr with todo:=a} cs w):=
 step_lone_go (by cases fr;simp only at b c;subst b;subst c;simp [stepG,stepG.exec,d])
theorem bx (b:fr.mode=.run) (a:fr.todo=[]∨∃k,fr.todo=.code .ret::k) (hr:fr.roundOf=none):step P (lone fr cs w)=.next (lone {fr with mode:=.returning} cs w):=by
 rcases a with a|⟨k,a⟩<;>
 exact step_lone_go (by cases fr;simp only at b a hr;subst b;subst a;subst hr;simp [stepG,stepG.exec])
theorem P6 {l:Nat} {a:Option Code} {c:Frame} {d:World} {v:Value} (e:fr.mode=.run) (hr:fr.roundOf=some l) (f:fr.kind=.normal)
  (b:(fr.todo=[]∧a=none)∨(∃k,fr.todo=.code .ret::k∧a=some .ret)∨(∃id k,fr.todo=.code (.exit id)::k∧exitTo id k=none∧a=some (.exit id))∨(∃l k,fr.todo=.code (.goto l)::k∧gotoIn l k=none∧a=some (.goto l)))
  (g:(Instr.endRound l a).run P w=.ok v d):step P (lone fr (c::cs) w)=.next (lone (c.finish v) cs d):=by
 rcases b with ⟨b,rfl⟩|⟨k,b,rfl⟩|⟨id,k,b,h,rfl⟩|⟨i,k,b,h,rfl⟩<;>
 exact step_lone_go (by cases fr;simp only at e b hr f;subst e;subst b;subst hr;subst f;simp [stepG,stepG.exec,Sem.runT_eq,doReturn, *])
theorem NG {ops:Array Oper} {i:Nat} {rest:List Nat} {o:Oper} (a:fr.mode=.run) (b:fr.todo=.inRegion ops (i::rest)::k) (d:ops[i]?=some o) (c:Region.wanted o (yielded ops fr.tmps)=false) :
  step P (lone fr cs w)=.next (lone (fr.finish undef) cs w):=
 step_lone_go (by cases fr;simp only at a b;subst a;subst b;simp at c;simp [stepG,stepG.exec,d,c])
theorem CU {ops:Array Oper} {i:Nat} {rest:List Nat} {o:Oper} (e:fr.mode=.run) (f:fr.todo=.inRegion ops (i::rest)::k) (g:ops[i]?=some o) (b:Region.wanted o (yielded ops fr.tmps)=true)
  (a:fr.roundOf=none∨∀c,o.op≠.defer c) :
  stepG P true {frame:=fr,callers:=cs,status:=.running,dying:=none} w=stepG.apply P true fr cs none (execOp fr.eval o) w:=by
 cases fr;simp only at e f a;subst e;subst f;simp at b;rcases a with a|a
 ·subst a;simp [stepG,stepG.exec,stepG.oper,Frame.oper?,g,b]
 ·simp only [stepG,stepG.exec,g,Option.map_some,b,Option.getD_some,if_true,stepG.oper,Frame.oper?];split
  ·rename_i c d;exact absurd d (a c)
  ·rfl
theorem SN {ops:Array Oper} {i:Nat} {rest:List Nat} {o:Oper} {b:World} {v:Value} (d:fr.mode=.run) (e:fr.todo=.inRegion ops (i::rest)::k) (f:ops[i]?=some o) (g:Region.wanted o (yielded ops fr.tmps)=true)
  (h:fr.roundOf=none∨∀c,o.op≠.defer c) (a:(execOp fr.eval o).run P w=.ok (.value v) b∨((execOp fr.eval o).run P w=.ok .skip b∧v=undef)) :
  step P (lone fr cs w)=.next (lone (fr.finish v) cs b):=by
 refine step_lone_go ?_;rw [CU d e f g h];rcases a with a|⟨a,rfl⟩<;>simp [stepG.apply,a]
theorem LY {ops:Array Oper} {i:Nat} {rest:List Nat} {o:Oper} {f:FuncId} {args:Array Value} {b:World} (e:fr.mode=.run) (d:fr.todo=.inRegion ops (i::rest)::k) (g:ops[i]?=some o) (h:Region.wanted o (yielded ops fr.tmps)=true)
  (j:fr.roundOf=none∨∀c,o.op≠.defer c) (a:(execOp fr.eval o).run P w=.ok (.enter f args) b):step P (lone fr cs w)=.next (lone (Frame.enter P f args .normal) (fr::cs) b):=by
 refine step_lone_go ?_;rw [CU e d g h j];simp [stepG.apply,a,d]
theorem Xy {ops:Array Oper} {i:Nat} {rest:List Nat} {o:Oper} {l:Nat} {f:FuncId} {tmps:Array Value} {assign body:Code} {b:World} (d:fr.mode=.run) (e:fr.todo=.inRegion ops (i::rest)::k) (g:ops[i]?=some o) (h:Region.wanted o (yielded ops fr.tmps)=true)
  (j:fr.roundOf=none∨∀c,o.op≠.defer c) (a:(execOp fr.eval o).run P w=.ok (.round l f tmps assign body) b):step P (lone fr cs w)=.next (lone (Frame.round l f tmps assign body .normal) (fr::cs) b):=by
 refine step_lone_go ?_;rw [CU d e g h j];simp [stepG.apply,a]
theorem Xj {ops:Array Oper} {i:Nat} {rest:List Nat} {o:Oper} {v:Value} {b:World} (d:fr.mode=.run) (e:fr.todo=.inRegion ops (i::rest)::k) (f:ops[i]?=some o) (g:Region.wanted o (yielded ops fr.tmps)=true)
  (h:fr.roundOf=none∨∀c,o.op≠.defer c) (a:(execOp fr.eval o).run P w=.halt (.panic v) b):step P (lone fr cs w)=.next (lone {fr with mode:=.panicking [{v,recovered:=false}]} cs b):=by
 refine step_lone_go ?_;rw [CU d e f g h];simp [stepG.apply,a,Frame.raise,d]
theorem MQ {l:Nat} {b:World} (c:fr.mode=.run) (d:fr.todo=.beginRound::k) (hr:fr.roundOf=some l) (a:(Instr.beginRound l).run P w=.ok () b) :
  step P (lone fr cs w)=.next (lone {fr with todo:=k} cs b):=by
 refine step_lone_go ?_;cases fr;simp only at c d hr;subst c;subst d;subst hr;simp [stepG,stepG.exec,stepG.apply,a,Frame.finish]
theorem R0 {l:Nat} {c:World} {a:Option Code} (d:fr.mode=.run) (e:fr.todo=.endRangeFunc l::k) (b:(Instr.endLoop l).run P w=.ok a c) :
  step P (lone fr cs w)=.next (lone {fr with todo:=(a.map Item.code).toList++k} cs c):=by
 refine step_lone_go ?_;cases fr;simp only at d e;subst d;subst e;simp [stepG,stepG.exec,Sem.runT_eq,b]
theorem Km {f:Operand} {params:Array Tmp} {assign body:Code} {l:Nat} {mark:List Deferred} {b:World} (c:fr.mode=.run) (e:fr.todo=.code (.rangeFunc f params assign body)::k)
  (a:(Instr.enterLoop fr.fn fr.tmps params assign body fr.roundOf).run P w=.ok (l,mark) b) :
  (stepG P true {frame:=fr,callers:=cs,status:=.running,dying:=none} w).bare =
  (stepG.apply P true {fr with todo:=.inRangeFunc l::k,defers:=mark++fr.defers} cs none (do let d ←resolve fr.eval {callee:=.value f,args:=#[.const (.func (.yield l) #[] #[])],argTypes:=#[]} 0;invoke d.target d.args) b).bare:=by
 cases fr;simp only at c e a;subst c;subst e;simp only [stepG,stepG.exec,Sem.runT_eq,a,GStep.bare_after]
 congr 2
theorem X1 {d:Deferred} {i:List Deferred} {f:FuncId} {args:Array Value} {j:World} (l:fr.mode≠.run) (m:fr.defers=d::i) (e:∀b,d.target≠.collected b) (g:d.target≠.nil)
  (a:(invoke d.target d.args).run P w=.ok (.enter f args) j):step P (lone fr cs w)=.next (lone (Frame.enter P f args .deferred) ({fr with defers:=i}::cs) j):=by
 refine step_lone_go ?_;cases fr with|mk fn tmps todo defers mode kind c=>
 cases d with|mk target h=>
 simp only at l m e g a;subst m;cases mode with
 |run=>exact absurd rfl l
 |returning=>cases target<;>first|exact absurd rfl g|exact absurd rfl (e _)|simp [stepG,unwind,callDeferred,Sem.runT_eq,a]
 |panicking n=>cases target<;>first|exact absurd rfl g|exact absurd rfl (e _)|simp [stepG,unwind,callDeferred,Sem.runT_eq,a]
theorem V1 {b:Nat} {args:Array Value} {d l:List Deferred} {e:World} (f:fr.mode≠.run) (g:fr.defers={target:=.collected b,args}::d)
  (a:(Instr.takeDeferred b).run P w=.ok l e):step P (lone fr cs w)=.next (lone {fr with defers:=l++d} cs e):=by
 refine step_lone_go ?_;cases fr with|mk fn tmps todo defers mode kind c=>
 simp only at f g;subst g;cases mode with
 |run=>exact absurd rfl f
 |returning=>simp [stepG,unwind,Sem.runT_eq,a]
 |panicking h=>simp [stepG,unwind,Sem.runT_eq,a]
end
end Go.AE
namespace Go.AE
variable [Gl:AH]
section
variable [U:Vals]
inductive IR (ρ:Ren):AI→Item→Prop
 |code (c:Code):IR ρ (.code c) (.code c)
 |inBlock (id:Nat):IR ρ (.inBlock id) (.inBlock id)
 |inLoop (b:Code):IR ρ (.inLoop b) (.inLoop b)
 |inScope (b:Code):IR ρ (.inScope b) (.inScope b)
 |ops (all:Array Oper) (rest:List Oper) (idx:List Nat) (h:rest.map some=idx.map fun i=>all[i]?):IR ρ (.ops all rest) (.inRegion all idx)
 |inRange (l:Nat) (base:Br) (h:ρ l=some base):IR ρ (.inRange l) (.inRangeFunc base.cb)
 |endRange (l:Nat) (base:Br) (h:ρ l=some base):IR ρ (.endRange l) (.endRangeFunc base.cb)
 |beginRound:IR ρ .beginRound .beginRound
 |dead (all:Array Oper) (idx:List Nat):IR ρ .dead (.inRegion all idx)
inductive IL (ρ:Ren):List AI→List Item→Prop
 |nil:IL ρ [] []
 |cons {a:AI} {x:Item} {l:List AI} {l':List Item} (h:IR ρ a x) (k:IL ρ l l'):IL ρ (a::l) (x::l')
 |rest:IL ρ [.rest] U.R
def CL (b:Ren):List (AV×Bool)→List PanicEntry→Prop
 |[],[]=>True
 |a::r,e::c=>VR b a.1 e.v∧e.recovered=a.2∧e.goexit=false∧CL b r c
 |_,_=>False
inductive MR (ρ:Ren):Hd→FrameMode→Prop
 |run:MR ρ .run .run
 |ret:MR ρ .ret .returning
 |panic (ch:List (AV×Bool)) (ch':List PanicEntry) (h:CL ρ ch ch'):MR ρ (.panic ch) (.panicking ch')
def RR (ρ:Ren):Option Nat→Option Nat→Prop
 |none,none=>True
 |some l,some c=>∃base,ρ l=some base∧c=base.cb
 |_,_=>False
structure FrR (ρ:Ren) (f:AF) (c:Frame):Prop where
 fn:c.fn=f.fn
 tm:TR ρ f.nt f.tmps c.tmps
 todo:IL ρ f.todo c.todo
 defers:DL ρ f.defers c.defers
 mode:MR ρ f.mode c.mode
 kind:c.kind=f.kind
 round:RR ρ f.round c.roundOf
inductive FrL (ρ:Ren):List AF→List Frame→Prop
 |nil:FrL ρ [] []
 |cons {f:AF} {c:Frame} {l:List AF} {l':List Frame} (h:FrR ρ f c) (k:FrL ρ l l'):FrL ρ (f::l) (c::l')
theorem IR.mono {ρ I:Ren} (t:ρ.le I) {a:AI} {x:Item} (h:IR ρ a x):IR I a x:=by
 cases h with
 |code c=>exact .code c
 |inBlock id=>exact .inBlock id
 |inLoop b=>exact .inLoop b
 |inScope b=>exact .inScope b
 |ops all rest r h=>exact .ops all rest r h
 |inRange l base h=>exact .inRange l base (t.m _ _ h)
 |endRange l base h=>exact .endRange l base (t.m _ _ h)
 |beginRound=>exact .beginRound
 |dead all r=>exact .dead all r
theorem IL.mono {ρ r:Ren} (l:ρ.le r) {a:List AI} {x:List Item} (h:IL ρ a x):IL r a x:=by
 induction h with
 |nil=>exact .nil
 |cons h _ ih=>exact .cons (h.mono l) ih
 |rest=>exact .rest
theorem CL.mono {ρ t:Ren} (r:ρ.le t):∀{l:List (AV×Bool)} {I:List PanicEntry},CL ρ l I→CL t l I
 |[],[],_=>trivial
 |_::_,_::_,⟨J,h2,h3,h4⟩=>⟨J.mono r,h2,h3,h4.mono r⟩
theorem MR.mono {ρ t:Ren} (l:ρ.le t) {a:Hd} {x:FrameMode} (h:MR ρ a x):MR t a x:=by
 cases h with
 |run=>exact .run
 |ret=>exact .ret
 |panic I r h=>exact .panic I r (h.mono l)
theorem RR.mono {ρ r:Ren} (l:ρ.le r) {a x:Option Nat} (h:RR ρ a x):RR r a x:=by
 cases a<;>cases x<;>simp only [RR] at h ⊢
 obtain ⟨base,t,I⟩:=h;exact ⟨base,l.m _ _ t,I⟩
theorem FrR.mono {ρ r:Ren} (l:ρ.le r) {f:AF} {c:Frame} (h:FrR ρ f c):FrR r f c:=
 ⟨h.fn,h.tm.mono l,h.todo.mono l,h.defers.mono l,h.mode.mono l,h.kind,h.round.mono l⟩
theorem FrL.mono {ρ r:Ren} (l:ρ.le r) {f:List AF} {c:List Frame} (h:FrL ρ f c):FrL r f c:=by
 induction h with
 |nil=>exact .nil
 |cons h _ ih=>exact .cons (h.mono l) ih
end
variable [U:Unk]
theorem FrR.evR {ρ:Ren} {f:AF} {c:Frame} (h:FrR ρ f c):EvR ρ f.tmps c.eval:=by
 intro o;have:=I3 h.tm o;cases o<;>exact this
theorem TR.put {ρ:Ren} {nt:Nat} {t:T AV} {a:Array Value} (h:TR ρ nt t a) {d:Nat} {v:AV} {r:Value} (I:d<nt) (J:VR ρ v r):TR ρ nt (t.set d v) (a.setIfInBounds d r):=by
 refine ⟨by simp [h.size],fun i x l=>?_⟩
 rw [T.get_set] at l;by_cases e:d=i
 ·subst e;rw [if_pos rfl] at l;cases l;have:d<a.size:=by rw [h.size];exact I
  simpa [Array.getD_eq_getD_getElem?,this] using J
 ·rw [if_neg e] at l;have:=h.get i x l;simpa [Array.getD_eq_getD_getElem?,Array.getElem?_setIfInBounds_ne e] using this
def II (a:Array Value) (dst:Option Tmp) (v:Value):Array Value:=match dst with|some d=>a.setIfInBounds d v|none=>a
theorem XY {c:Ren} {nt:Nat} {t f:T AV} {a:Array Value} (h:TR c nt t a) {dst:Option Tmp} {v:AV} {g:Value} (b:El nt t dst v=some f) (i:VR c v g) :
  TR c nt f (II a dst g):=by
 cases dst with
 |none=>simp only [El,Option.some.injEq] at b;subst b;exact h
 |some d=>
  simp only [El] at b;cases e:Nat.blt d nt with
  |false=>rw [e] at b;cases b
  |true=>
   rw [e] at b;simp only [Option.some.injEq] at b;subst b;exact h.put (by simpa [Nat.blt_eq] using e) i
theorem VR.not_bool {ρ:Ren} {a:AV} {v:Value} (h:VR ρ a v) (l:∀b,a≠.bool b) (r:a≠.top) (t:∀p e,a≠.sb p e) (b:Bool):v≠.bool b:=by
 cases h with
 |sb p e=>exact absurd rfl (t p e)
 |top v=>exact absurd rfl r
 |bool c=>exact absurd rfl (l c)
 |_=>exact fun e=>by cases e
theorem Bu {w:Ren} {nt:Nat} {t:T AV} {a:Array Value} (h:TR w nt t a) {all:Array Oper} {o:Oper} {b:Bool} (f:Be all o t=some b):Region.wanted o (yielded all a)=b:=by
 unfold Be at f;unfold Region.wanted;cases r:o.guard with
 |none=>rw [r] at f;simpa using f
 |some p=>
  obtain ⟨j,l⟩:=p;rw [r] at f;simp only at f ⊢;unfold yielded;have y:all[j]?=all.toList[j]?:=by simp
  rw [y];cases s:all.toList[j]? with
  |none=>rw [s] at f;simp at f ⊢;exact f
  |some g=>
   rw [s] at f;simp only [Option.bind_some] at f ⊢;cases u:g.dst with
   |none=>rw [u] at f;simp at f ⊢;exact f
   |some d=>
    rw [u] at f;simp only [Option.bind_some] at f ⊢;cases m:t.get d with
    |none=>rw [m] at f;cases f
    |some v=>
     rw [m] at f;have i:=h.get d v m;rw [Array.getD_eq_getD_getElem?] at i
     have n:(∀b,v≠.bool b)→v≠.top→(∀p e,v≠.sb p e)→((match a[d]? with|some (.bool b)=>some b|_=>none)==some l)=false:=by
      intro z A B;cases k:a[d]? with
      |none=>rfl
      |some x=>
       rw [k] at i;cases x with
       |bool c=>exact absurd rfl (i.not_bool z A B c)
       |_=>rfl
     cases v with
     |top=>cases f
     |sb p e=>
      simp only at f;split at f
      ·rename_i q C;have D:=As U.ok C;simp only [Option.some.injEq] at f;cases k:a[d]? with
       |none=>rw [k] at i;cases i
       |some x=>
        rw [k] at i;cases i;rw [D];simpa using f
      ·cases f
     |bool e=>
      simp only [Option.some.injEq] at f;cases k:a[d]? with
      |none=>rw [k] at i;cases i
      |some x=>
       rw [k] at i;cases i;subst f;simp
     |_=>
      simp only [Option.some.injEq] at f;subst f;exact n (fun b e=>by cases e) (fun e=>by cases e) (fun p b e=>by cases e)
end Go.AE
namespace Go.AE
variable [Gl:AH]
variable [U:Unk]
theorem IL.ops_inv {ρ:Ren} {all:Array Oper} {o:Oper} {rest:List Oper} {k:List AI} {l:List Item} (h:IL ρ (.ops all (o::rest)::k) l) :
  ∃i r t,l=.inRegion all (i::r)::t∧all[i]?=some o∧rest.map some=r.map (fun i=>all[i]?)∧IL ρ k t:=by
 cases h with
 |cons h I=>
  cases h with
  |ops all rest r h=>
   cases r with
   |nil=>cases h
   |cons i r=>
    simp only [List.map_cons,List.cons.injEq] at h;exact ⟨i,r,_,rfl,h.1.symm,h.2,I⟩
theorem BG {n:Ren} {f r:AF} {c:Frame} (h:FrR n f c) {v:AV} {m:Value} (d:A3 f v=some r) (s:VR n v m):FrR n r (c.finish m):=by
 have b:=h.todo;unfold A3 at d;split at d
 ·rename_i all o rest k g;rw [g] at b;obtain ⟨i,p,u,e,w,x,j⟩:=b.ops_inv;split at d
  ·rename_i t y;simp only [Option.some.injEq] at d;subst d;have:=XY h.tm y s
   have z:c.finish m={c with tmps:=II c.tmps o.dst m,todo:=.inRegion all p::u}:=by
    simp only [Frame.finish,e,w,Option.bind_some,II];cases o.dst<;>rfl
   rw [z];exact ⟨h.fn,this,.cons (.ops _ _ _ x) j,h.defers,h.mode,h.kind,h.round⟩
  ·cases d
 ·rename_i l k g;rw [g] at b;simp only [Option.some.injEq] at d;subst d;generalize q:c.todo=A at b;cases b with
  |cons a j=>
   cases a with
   |inRange l base B=>
    simp only [Frame.finish,q];exact ⟨h.fn,h.tm,.cons (.endRange _ _ B) j,h.defers,h.mode,h.kind,h.round⟩
 ·rename_i k g;rw [g] at b;simp only [Option.some.injEq] at d;subst d;generalize q:c.todo=A at b;cases b with
  |cons a j=>
   cases a with
   |beginRound=>
    simp only [Frame.finish,q];exact ⟨h.fn,h.tm,j,h.defers,h.mode,h.kind,h.round⟩
 ·cases d
theorem TR.ofArgs {ρ:Ren} {n:Nat} {args:List AV} {l:List Value} (t:VL ρ args l):TR ρ (max n args.length) (.ofList args) (l.toArray++Array.replicate (n-l.toArray.size) undef):=by
 have hl:=t.1;refine ⟨by simp;omega,fun i x I=>?_⟩
 rw [T.get_ofList] at I;obtain ⟨v,J,r⟩:=t.get I;have hi:i<l.length:=(List.getElem?_eq_some_iff.1 J).1;rw [Array.getD_eq_getD_getElem?,Array.getElem?_append_left (by simpa using hi)]
 simpa [J] using r
theorem B2 {E:Env} (hE:OK E) {d:Ren} {f:FuncId} {args:List AV} {a:List Value} {kind:CallKind} {g:AF} (b:Bb E f args kind=some g) (h:VL d args a) :
  FrR d g (Frame.enter E.P f a.toArray kind):=by
 unfold Bb at b;split at b
 ·rename_i fn i;split at b
  ·rename_i c j;simp only [Option.some.injEq] at b;subst b
   have e:Frame.enter E.P f a.toArray kind={fn:=f,tmps:=a.toArray++Array.replicate (fn.ntmps-a.toArray.size) undef,todo:=[.code c],defers:=[],mode:=.run,kind}:=by
    simp [Frame.enter,hE.fn f fn i,j]
   rw [e];exact ⟨rfl,TR.ofArgs h,.cons (.code c) .nil,trivial,.run,rfl,trivial⟩
  ·cases b
 ·cases b
theorem Jk {g:Ren} {nt:Nat}:∀{f:List Tmp} {t d:T AV} {tm:Array Value} {args:List AV} {b:List Value},TR g nt t tm→VL g args b→E5 nt t f args=some d→
  b.length=f.length∧TR g nt d ((f.zip b).foldl (fun tmps x=>tmps.setIfInBounds x.1 x.2) tm)
 |[],t,d,tm,[],b,h,e,c=>by
  cases e.nil_inv;simp only [E5,Option.some.injEq] at c;subst c;exact ⟨rfl,h⟩
 |[],t,d,tm,_::_,b,h,e,c=>by cases c
 |_::_,t,d,tm,[],b,h,e,c=>by cases c
 |p::f,t,d,tm,a::as,b,h,e,c=>by
  obtain ⟨v,r,rfl,j,k⟩:=e.cons_inv;simp only [E5] at c;cases i:Nat.blt p nt with
  |false=>rw [i] at c;cases c
  |true=>
   rw [i] at c;obtain ⟨l,m⟩:=Jk (h.put (by simpa [Nat.blt_eq] using i) j) k c
   exact ⟨by simp [l],m⟩
theorem MX {E:Env} {c:Ren} {h:Aa} {w:World} (hr:HR c h.blk.get w) {l:Nat} {base:Br} {args:List AV} {a:List Value} {g:AF} (i:c l=some base) (b:GD l args h=some g) (j:VL c args a) :
  ∃fn tm assign body,(Instr.yield base.cb a.toArray).run E.P w=.ok (.round base.cb fn tm assign body) w∧FrR c g (Frame.round base.cb fn tm assign body .normal):=by
 unfold GD at b;split at b
 ·rename_i st pending fn nt tmps params assign body d k;split at b
  ·rename_i t m;simp only [Option.some.injEq] at b;subst b;obtain ⟨tm,r,s,n,o⟩:=hr.blk l base _ i k;obtain ⟨p,q⟩:=Jk n j m;refine ⟨fn,_,assign,body,?_,⟨rfl,q,.cons (.code _) (.cons .beginRound (.cons (.code _) .nil)),trivial,.run,rfl,⟨base,i,rfl⟩⟩⟩;have f:=Au E.P o (fun _ _ _ e=>by cases e)
   simp only [Instr.yield,Instr.getLoop,Sem.run_bind,f,Result.andThen_ok,Sem.run_pure];simp [p]
  ·cases b
 ·cases b
end Go.AE
namespace Go.AE
variable [Gl:AH]
section
variable [U:Vals]
structure SR (ρ:Ren) (s:AS) (cf:Frame) (ccs:List Frame) (w:World):Prop where
 fr:FrR ρ s.fr cf
 cs:FrL ρ s.cs ccs
 h:HR ρ s.h.blk.get w
end
variable [U:Unk]
def AN (P:Program) (base:List Frame) (i:Ren) (h:Aa) (c:Frame) (d:List Frame) (w0 w:World) (f:AS):Prop:=
 ∃g b a e,step P (lone c (d++base) w0)=.next (lone b (a++base) e)∧SR g f b a e∧Ext i g h f.h w e
theorem IL.not_call {ρ:Ren} {l:List AI} {t:List Item} (h:IL ρ l t) (d:Deferred) (b:Bool) (r:String) (a:Array Value) (k:List Item):t≠.call d b r a::k:=by
 intro e;cases h with
 |nil=>cases e
 |cons h _=>cases e;cases h
 |rest=>exact U.hR _ _ _ _ _ e
section
variable {E:Env} (hE:OK E) {ρ:Ren} {h:Aa} {w w0:World} {fr0 c:Frame} {f:AF} {cs:List AF} {ccs base:List Frame} {s:Sem Next} {r:Res} {s':AS}
include hE
theorem Fd (n:(stepG E.P true {frame:=fr0,callers:=ccs++base,status:=.running,dying:=none} w0).bare=(stepG.apply E.P true c (ccs++base) none s w).bare)
  (I:Ez E ρ h w s r) (hr:HR ρ h.blk.get w) (o:FrR ρ f c) (u:FrL ρ cs ccs) (hm:c.mode=.run) (b:Bx E f cs r=.next s') (F:AG ρ h.nx s'.h.nx) :
  AN E.P base ρ h fr0 ccs w0 w s':=by
 cases r with
 |val v h'=>
  simp only [Bx] at b;split at b
  ·rename_i O p;cases b;obtain ⟨σ,Q,w',J,S,q3,T⟩:=I F;refine ⟨σ,c.finish Q,ccs,w',step_lone_go ?_,⟨BG (o.mono T.le) p S,u.mono T.le,q3⟩,T⟩;rw [n];rcases J with J|⟨J,rfl⟩<;>simp [stepG.apply,J]
  ·cases b
 |enter g args h'=>
  obtain ⟨rfl,G,z,i⟩:=I;simp only [Bx] at b;split at b
  ·rename_i g' V;cases b;refine ⟨ρ,_,c::ccs,w,step_lone_go ?_,⟨B2 hE V z,.cons o u,hr⟩,Ext.refl _ _ _⟩;rw [n];have W:=o.todo;simp only [stepG.apply,Sem.runT_eq,i,if_true,GStep.bare_after,GStep.bare_go,List.cons_append];generalize c.todo=td at W;generalize f.todo=fd at W;cases W with
   |nil=>rfl
   |cons a _=>cases a<;>rfl
   |rest=>
    generalize hq:U.R=r;cases r with
    |nil=>rfl
    |cons x k=>cases x<;>first|rfl|exact absurd hq (U.hR _ _ _ _ _)
  ·cases b
 |round l args h'=>
  obtain ⟨rfl,lb,G,hb,z,i⟩:=I;simp only [Bx] at b;split at b
  ·rename_i g' V;cases b;obtain ⟨fn,tm,assign,body,J,S⟩:=MX (E:=E) hr hb V z;refine ⟨ρ,_,c::ccs,w,step_lone_go ?_,⟨S,.cons o u,hr⟩,Ext.refl _ _ _⟩;rw [n];simp [stepG.apply,i,J]
  ·cases b
 |defer d h'=>
  obtain ⟨rfl,X,Y,i⟩:=I;simp only [Bx] at b;split at b
  ·cases b
  ·split at b
   ·rename_i O p;cases b;have m:=BG o p (VR.undef ρ);refine ⟨ρ,{c with defers:=X::c.defers}.finish undef,ccs,w,step_lone_go ?_,⟨?_,u,hr⟩,Ext.refl _ _ _⟩
    ·rw [n];simp [stepG.apply,i]
    ·have e:({c with defers:=X::c.defers}:Frame).finish undef={c.finish undef with defers:=X::(c.finish undef).defers}:=by
      unfold Frame.finish;simp only;split<;>rfl
     rw [e];exact ⟨m.fn,m.tm,m.todo,⟨Y,m.defers⟩,m.mode,m.kind,m.round⟩
   ·cases b
 |recover h'=>
  obtain ⟨rfl,i⟩:=I;simp only [Bx] at b;split at b
  ·rename_i a rest C H;have hk:c.kind=.deferred:=o.kind.trans H
   have K:c.roundOf=none:=by
    have:=o.round;rw [C] at this;cases hc:c.roundOf with
    |none=>rfl
    |some l=>rw [hc] at this;exact this.elim
   cases u with
   |cons z A=>
    rename_i L q;have j:=z.mode;split at b
    ·rename_i v t Z;split at b
     ·rename_i O p;cases b;rw [Z] at j;generalize aa:L.mode=cm at j;cases j with
      |panic _ ab B=>
       cases ab with
       |nil=>exact B.elim
       |cons e D=>
        obtain ⟨N,M,h3,h4⟩:=B;obtain ⟨ev,er,eg⟩:=e;simp only at N M h3;subst M;subst h3;refine ⟨ρ,c.finish ev,{L with mode:=.panicking ({v:=ev,recovered:=true}::D)}::q,w,step_lone_go ?_,⟨BG o p N,.cons ⟨z.fn,z.tm,z.todo,z.defers,.panic _ _ ⟨N,rfl,rfl,h4⟩,z.kind,z.round⟩ A,hr⟩,Ext.refl _ _ _⟩
        rw [n];simp [stepG.apply,i,K,tryRecover,hk,aa]
     ·cases b
    ·rename_i ac;split at b
     ·rename_i O p;cases b;refine ⟨ρ,c.finish .nilIface,L::q,w,step_lone_go ?_,⟨BG o p .nilIface,.cons z A,hr⟩,Ext.refl _ _ _⟩;rw [n]
      have:tryRecover c (L::(q++base))=none:=by
       have ae:∀v t,L.mode≠.panicking ({v,recovered:=false,goexit:=false}::t):=by
        intro v t he;rw [he] at j;generalize ad:a.mode=am at j;cases j with
        |panic ch _ B=>
         cases ch with
         |nil=>exact B.elim
         |cons x r=>
          obtain ⟨xv,xb⟩:=x;obtain ⟨N,M,h3,h4⟩:=B;simp only at M;subst M;exact ac _ _ ad
       simp only [tryRecover,hk]
      simp [stepG.apply,i,K,this]
     ·cases b
  ·cases b
 |panic v h'=>
  obtain ⟨rfl,Q,hv,i⟩:=I;simp only [Bx] at b;split at b
  ·cases b;refine ⟨ρ,{c with mode:=.panicking [{v:=Q,recovered:=false}]},ccs,w,step_lone_go ?_,⟨⟨o.fn,o.tm,o.todo,o.defers,.panic _ _ ⟨hv,rfl,rfl,trivial⟩,o.kind,o.round⟩,u,hr⟩,Ext.refl _ _ _⟩
   rw [n];simp [stepG.apply,i,Frame.raise,hm]
  ·cases b
 |bad y=>cases b
end
end Go.AE
namespace Go.AE
variable [Gl:AH]
variable [U:Unk]
theorem LK {c:Ren} {id:Nat} {k:List AI} {a:List Item} (h:IL c k a):(∀r,J2 id k=some r→∃d,exitTo id a=some d∧IL c r d)∧(J2 id k=none→Iu k=false→exitTo id a=none):=by
 induction h with
 |nil=>exact ⟨(fun r h=>by cases h),fun _ _=>rfl⟩
 |rest=>exact ⟨(fun r h=>by cases h),(fun _ h=>by cases h)⟩
 |cons h f ih=>
  cases h with
  |inBlock i=>
   simp only [J2,exitTo];cases e:Nat.beq i id with
   |true=>
    have:=Ay e;subst this;exact ⟨fun r hr=>⟨_,if_pos (by simp),by cases hr;exact f⟩,(fun hr _=>by cases hr)⟩
   |false=>
    have b:(i==id)=false:=by simpa using Qe e
    rw [b];exact ih
  |_=>exact ih
theorem LL {c:Ren} {l:Nat} {k:List AI} {a:List Item} (h:IL c k a):(∀r,M3 l k=some r→∃d,gotoIn l a=some d∧IL c r d)∧(M3 l k=none→Iu k=false→gotoIn l a=none):=by
 induction h with
 |nil=>exact ⟨(fun r h=>by cases h),fun _ _=>rfl⟩
 |rest=>exact ⟨(fun r h=>by cases h),(fun _ h=>by cases h)⟩
 |cons h e ih=>
  cases h with
  |inScope b=>
   simp only [M3,gotoIn];cases f:findLabel b l with
   |some rest=>exact ⟨fun r hr=>⟨_,rfl,by cases hr;exact .cons (.code _) (.cons (.inScope _) e)⟩,(fun hr _=>by cases hr)⟩
   |none=>exact ih
  |_=>exact ih
theorem CL.calm {J:Ren}:∀{l:List (AV×Bool)} {I:List PanicEntry},CL J l I→∀y∈I,y.goexit=false
 |[],[],_,y,t=>by cases t
 |_::_,e::r,⟨h1,h2,h3,h4⟩,y,t=>by
  rcases List.mem_cons.1 t with rfl|t
  ·exact h3
  ·exact CL.calm h4 y t
theorem Qn:∀(l:List PanicEntry),(∀y∈l,y.goexit=false)→l.dropWhile (!·.goexit)=[]
 |[],_=>rfl
 |y::r,h=>by
  rw [List.dropWhile_cons_of_pos (by simp [h y (by simp)])]
  exact Qn r fun z a=>h z (by simp [a])
section
variable {E:Env} (hE:OK E) {ρ:Ren} {h:Aa} {w w0:World} {fr0 c:Frame} {f:AF} {cs:List AF} {ccs base:List Frame} {s':AS}
theorem Hw {v:AV} {I:Value} (p:(stepG E.P true {frame:=fr0,callers:=ccs++base,status:=.running,dying:=none} w0).bare=(doReturn E.P true c (ccs++base) none I w).bare)
  (hr:HR ρ h.blk.get w) (t:c.kind=f.kind) (u:FrL ρ cs ccs) (K:VR ρ v I) (l:CC f cs v h=.next s'):AN E.P base ρ h fr0 ccs w0 w s':=by
 unfold CC at l;cases u with
 |nil=>
  simp only at l;split at l<;>cases l
 |cons n i=>
  rename_i a z rest j;simp only at l;split at l
  ·rename_i d;split at l
   ·rename_i R A;cases l;refine ⟨ρ,_,j,w,step_lone_go ?_,⟨BG n A K,i,hr⟩,Ext.refl _ _ _⟩;rw [p];simp [doReturn,t,d]
   ·cases l
  ·rename_i d;have b:=n.mode;split at l
   ·rename_i x k B;cases l;rw [B] at b;generalize C:z.mode=S at b;cases b with
    |panic _ D m=>
     cases D with
     |nil=>exact m.elim
     |cons e o=>
      have q:=m.calm;obtain ⟨J,s,F,L⟩:=m;obtain ⟨T,V,W⟩:=e;simp only at J s F;subst s;subst F;refine ⟨ρ,{z with mode:=.returning},j,w,step_lone_go ?_,⟨⟨n.fn,n.tm,n.todo,n.defers,.ret,n.kind,n.round⟩,i,hr⟩,Ext.refl _ _ _⟩
      rw [p];simp [doReturn,t,d,C,Qn o fun y M=>q y (by simp [M])]
   ·rename_i G;cases l;refine ⟨ρ,_,j,w,step_lone_go ?_,⟨n,i,hr⟩,Ext.refl _ _ _⟩;rw [p]
    have N:∀x g k,z.mode≠.panicking ({v:=x,recovered:=true,goexit:=g}::k):=by
     intro x g k O;rw [O] at b;generalize H:a.mode=X at b;cases b with
     |panic Q _ m=>
      cases Q with
      |nil=>exact m.elim
      |cons x r=>
       obtain ⟨Y,Z⟩:=x;obtain ⟨J,s,F,L⟩:=m;simp only at s;subst s;exact G _ _ H
    simp only [List.cons_append,doReturn,t,d,GStep.bare_go]
  ·cases l
include hE
theorem GJ (hr:HR ρ h.blk.get w) (i:FrR ρ f c):∀{n:List ResultVar} {l:List AV},BF E f h n=some l→
  ∃e:List Value,VL ρ l e∧(n.mapM fun|.tmp t=>pure (c.tmps.getD t undef)|.cell a t=>do loadVar t (←asAddr (c.tmps.getD a undef)):Sem (List Value)).run E.P w=.ok e w
 |[],l,b=>by
  simp only [BF,Option.some.injEq] at b;subst b;exact ⟨[],VL.nil ρ,by simp⟩
 |.tmp t::r,l,b=>by
  simp only [BF] at b;cases d:BF E f h r with
  |none=>rw [d] at b;cases b
  |some u=>
   rw [d] at b;simp only [Option.some.injEq] at b;subst b;obtain ⟨e,k,m⟩:=GJ hr i d;refine ⟨c.tmps.getD t undef::e,VL.cons ?_ k,?_⟩
   ·cases g:f.tmps.get t with
    |none=>exact .top _
    |some a=>exact i.tm.get t a g
   ·simp only [List.mapM_cons,Sem.run_bind,Sem.run_pure,Result.andThen_ok,m]
 |.cell a t::r,l,b=>by
  simp only [BF] at b;cases g:f.tmps.get a with
  |none=>rw [g] at b;cases b
  |some p=>
   rw [g] at b;simp only at b;cases j:NR E t p h with
   |none=>rw [j] at b;cases b
   |some v=>
    cases d:BF E f h r with
    |none=>rw [j,d] at b;cases b
    |some u=>
     rw [j,d] at b;simp only [Option.some.injEq] at b;subst b;obtain ⟨e,k,m⟩:=GJ hr i d;have q:=i.tm.get a p g;obtain ⟨s,p1,p2⟩:=QB hE hr q j;refine ⟨s::e,VL.cons p2 k,?_⟩
     have:(do loadVar t (←asAddr (c.tmps.getD a undef)):Sem Value).run E.P w=.ok s w:=by
      generalize c.tmps.getD a undef=x at p1 q;cases x with
      |pointer o=>cases o with
       |none=>simp [Instr.loadAt,Instr.sureAddr,stuck] at p1
       |some y=>simpa [Instr.loadAt,Instr.sureAddr,asAddr] using p1
      |_=>simp [Instr.loadAt,Instr.sureAddr,stuck] at p1
     simp only [List.mapM_cons,Sem.run_bind,Sem.run_pure] at this ⊢;rw [this];simp only [Result.andThen_ok,m]
theorem FD (hr:HR ρ h.blk.get w) (m:FrR ρ f c) {fn:Func} {l:List AV} (n:BF E f h fn.results.toList=some l) :
  ∃e,(results fn c.tmps).run E.P w=.ok e w∧(∀a,l=[a]→VR ρ a e)∧((∀a,l≠[a])→VR ρ (.tuple l) e):=by
 obtain ⟨b,d,o⟩:=GJ hE hr m n;unfold results;rw [Array.mapM_eq_mapM_toList];simp only [Sem.run_bind,Sem.run_map,Sem.run_pure];refine ⟨if h:b.toArray.size=1 then b.toArray[0] else .tuple b.toArray,?_,?_,?_⟩
 ·have key:∀R:Result (List Value),R=.ok b w→((R.andThen fun a g=>Result.ok a.toArray g).andThen fun a g=>Result.ok (if h:a.size=1 then a[0] else Value.tuple a) g) =
    Result.ok (if h:b.toArray.size=1 then b.toArray[0] else Value.tuple b.toArray) w:=by rintro _ rfl;rfl
  refine key _ ?_;rw [←o]
  congr 2
 ·rintro a rfl
  obtain ⟨v,r,rfl,p,q⟩:=d.cons_inv;cases q.nil_inv;simpa using p
 ·intro i
  have:b.toArray.size≠1:=by
   intro j;have k:=d.1;simp only [List.size_toArray] at j;rw [j] at k;obtain ⟨a,rfl⟩:=List.length_eq_one_iff.1 k;exact i a rfl
  rw [dif_neg this];exact .tuple _ _ d.1 d.2
end
end Go.AE
namespace Go.AE
variable [Gl:AH]
variable [U:Unk]
theorem AN.pre {P:Program} {base:List Frame} {ρ σ:Ren} {h h1:Aa} {l:Frame} {r:List Frame} {w0 w w1:World} {I:AS} (e:Ext ρ σ h h1 w w1) (st:AN P base σ h1 l r w0 w1 I) (hf:AG ρ h.nx I.h.nx) :
  AN P base ρ h l r w0 w I:=by
 obtain ⟨τ,J,t,w',q1,q2,q3⟩:=st;exact ⟨τ,J,t,w',q1,q2,e.trans q3 hf⟩
section
variable {P:Program} {fr:Frame} {k:List Item} {cs:List Frame} {w:World}
theorem Lr {l:Nat} {a:Option Code} {c:World} {v:Value} (d:fr.mode=.run) (hr:fr.roundOf=some l)
  (b:(fr.todo=[]∧a=none)∨(∃k,fr.todo=.code .ret::k∧a=some .ret)∨(∃id k,fr.todo=.code (.exit id)::k∧exitTo id k=none∧a=some (.exit id))∨(∃l k,fr.todo=.code (.goto l)::k∧gotoIn l k=none∧a=some (.goto l)))
  (e:(Instr.endRound l a).run P w=.ok v c):(stepG P true {frame:=fr,callers:=cs,status:=.running,dying:=none} w).bare=(doReturn P true fr cs none v c).bare:=by
 rcases b with ⟨b,rfl⟩|⟨k,b,rfl⟩|⟨id,k,b,f,rfl⟩|⟨g,k,b,f,rfl⟩<;>
 (cases fr;simp only at d b hr;subst d;subst b;subst hr;simp [stepG,stepG.exec,Sem.runT_eq, *])
theorem Jj {v:Value} {fn:Func} (a:fr.mode=.returning) (b:fr.defers=[]) (c:P.funcs[fr.fn]?=some fn) (hr:(results fn fr.tmps).run P w=.ok v w) :
  (stepG P true {frame:=fr,callers:=cs,status:=.running,dying:=none} w).bare=(doReturn P true fr cs none v w).bare:=by
 simp [stepG,unwind,a,b,c,Sem.runT_eq,hr]
theorem dx {c:Frame} {e:List PanicEntry} (f:fr.mode=.panicking e) (g:fr.defers=[]) (h:∀d b r a k,fr.todo≠.call d b r a::k):step P (lone fr (c::cs) w)=.next (lone (c.raise e) cs w):=by
 have i:fr.catches P=false:=by
  unfold Frame.catches;split
  ·rename_i l j;exact absurd j (h _ _ _ _ _)
  ·rfl
 exact step_lone_go (by simp [stepG,unwind,f,g,i])
end
section
variable {E:Env} (hE:OK E) {ρ:Ren} {h:Aa} {w:World} {c:Frame} {f:AF} {cs:List AF} {ccs base:List Frame} {s':AS}
theorem JZ (hr:HR ρ h.blk.get w) {l:Nat} {b:Br} {st:LoopState} {pending:Option Code} {fn:FuncId} {nt:Nat} {tmps:T AV} {params:List Tmp} {assign body:Code} {d:Nat} (i:ρ l=some b)
  (j:h.blk.get l=some (.loop st pending fn nt tmps params assign body d)) (a:Option Code) :
  ∃g,(Instr.endRound b.cb a).run E.P w=.ok (.bool a.isNone) g∧HR ρ (h.put l (.loop (if a.isNone then .ready else .done) a fn nt tmps params assign body d)).blk.get g∧
   Ext ρ ρ h (h.put l (.loop (if a.isNone then .ready else .done) a fn nt tmps params assign body d)) w g:=by
 obtain ⟨tm,k,n,o,m⟩:=hr.blk l b _ i j;have p:=Au E.P m (fun _ _ _ e=>by cases e)
 obtain ⟨q,r⟩:=hr.setObj i (by rw [j];exact fun e=>by cases e) (.loop (if a.isNone then .ready else .done) a fn nt tmps params assign body d)
  (.loop {state:=if a.isNone then .ready else .done,pending:=a,fn:=fn,tmps:=tm,params:=params.toArray,assign:=assign,body:=body,defers:=k.cb}) ⟨tm,k,n,o,rfl⟩
 refine ⟨_,?_,q,r⟩;have s:=fun o'=>AB (o':=o') E.P m (fun _ _ _ e=>by cases e)
 simp only [Instr.endRound,Instr.getLoop,Sem.run_bind,p,Result.andThen_ok,Sem.run_pure,s]
theorem RR.none_inv {ρ:Ren} {x:Option Nat} (h:RR ρ none x):x=none:=by
 cases x with
 |none=>rfl
 |some l=>exact h.elim
theorem RR.some_inv {ρ:Ren} {l:Nat} {x:Option Nat} (h:RR ρ (some l) x):∃b,ρ l=some b∧x=some b.cb:=by
 cases x with
 |none=>exact h.elim
 |some c=>obtain ⟨b,r,rfl⟩:=h;exact ⟨b,r,rfl⟩
theorem GX (hr:HR ρ h.blk.get w) (i:FrR ρ f c) (o:FrL ρ cs ccs) (s:c.mode=.run) {e:Option Code}
  (j:(c.todo=[]∧e=none)∨(∃k,c.todo=.code .ret::k∧e=some .ret)∨(∃id k,c.todo=.code (.exit id)::k∧exitTo id k=none∧e=some (.exit id))∨(∃l k,c.todo=.code (.goto l)::k∧gotoIn l k=none∧e=some (.goto l)))
  (g:DH f cs h e=.next s') (m:AG ρ h.nx s'.h.nx):AN E.P base ρ h c ccs w w s':=by
 have a:=i.round;unfold DH at g;split at g
 ·rename_i p;rw [p] at a;have n:=a.none_inv
  have q:c.todo=[]∨∃k,c.todo=.code .ret::k:=by
   rcases j with ⟨j,_⟩|⟨k,j,_⟩|⟨id,k,j,t,rfl⟩|⟨B,k,j,t,rfl⟩
   ·exact .inl j
   ·exact .inr ⟨k,j⟩
   ·cases g
   ·cases g
  have u:s'={fr:={f with mode:=.ret},cs,h}:=by
   split at g
   ·cases g;rfl
   ·cases g;rfl
   ·cases g
  subst u;exact ⟨ρ,_,ccs,w,bx s q n,⟨⟨i.fn,i.tm,i.todo,i.defers,.ret,i.kind,i.round⟩,o,hr⟩,Ext.refl _ _ _⟩
 ·rename_i l r;rw [r] at a;obtain ⟨b,v,n⟩:=a.some_inv;split at g
  ·rename_i st pending fn nt tmps params assign body d x;obtain ⟨C,y,z,A⟩:=JZ (E:=E) hr v x e;exact AN.pre A (Hw (Lr s n j y) z i.kind o (.bool _) g) m
  ·cases g
include hE
theorem QY (hr:HR ρ h.blk.get w) (o:FrR ρ f c) (q:FrL ρ cs ccs) (V:c.mode≠.run) (i:D1 E f cs h=.next s'):AN E.P base ρ h c ccs w w s':=by
 have m:=o.defers;unfold D1 at i;split at i
 ·rename_i d ds A;rw [A] at m;cases n:c.defers with
  |nil=>rw [n] at m;exact m.elim
  |cons Z G=>
   rw [n] at m;obtain ⟨s,H⟩:=m;unfold DR at s;split at i
   ·rename_i t;rw [t] at s;obtain ⟨b,W,rfl⟩:=s;split at i
    ·rename_i l X;cases i;obtain ⟨l',q1,Y⟩:=hr.blk _ b _ W X;obtain ⟨p1,p2⟩:=hr.setObj W (by rw [X];exact fun e=>by cases e) (.deferred none) (.deferred none) rfl
     refine ⟨ρ,_,ccs,_,V1 V n ?_,⟨⟨o.fn,o.tm,o.todo,q1.append H,o.mode,o.kind,o.round⟩,q,p1⟩,p2⟩;have M:=Au E.P Y (fun _ _ _ e=>by cases e)
     have hs:=AB (o':=.deferred none) E.P Y (fun _ _ _ e=>by cases e)
     simp only [Instr.takeDeferred,Sem.run_bind,M,Result.andThen_ok,Sem.run_pure,hs]
    ·cases i
   ·rename_i fn t;rw [t] at s;obtain ⟨aa,c',a',h1,h2,h3,rfl⟩:=s;have hi:=Ea hE hr h1 h2 h3;split at i
    ·rename_i g args h' N;rw [N] at hi;obtain ⟨rfl,O,u,I⟩:=hi;split at i
     ·rename_i gf M;cases i;exact ⟨ρ,_,{c with defers:=G}::ccs,w,X1 V n (fun b e=>by cases e) (fun e=>by cases e) I,⟨B2 hE M u,.cons ⟨o.fn,o.tm,o.todo,H,o.mode,o.kind,o.round⟩ q,hr⟩,Ext.refl _ _ _⟩
     ·cases i
    ·cases i
 ·rename_i A;rw [A] at m
  have n:c.defers=[]:=by
   cases n:c.defers with
   |nil=>rfl
   |cons Z G=>rw [n] at m;exact m.elim
  have j:=o.mode;split at i
  ·cases i
  ·rename_i Q B;rw [B] at j;generalize y:c.mode=cm at j;cases j with
   |panic _ J R=>
    cases q with
    |nil=>
     simp only at i;split at i
     ·split at i<;>cases i
     ·cases i
    |cons u C=>
     rename_i a L rest D;simp only at i;split at i
     ·rename_i S;cases i;have p:=u.mode;rw [S] at p
      have K:L.mode=.run:=by
       generalize L.mode=x at p;cases p;rfl
      refine ⟨ρ,_,D,w,dx y n (fun d b r a k=>o.todo.not_call d b r a k),⟨?_,C,hr⟩,Ext.refl _ _ _⟩
      have e:L.raise J={L with mode:=.panicking J}:=by simp [Frame.raise,K]
      rw [e];exact ⟨u.fn,u.tm,u.todo,u.defers,.panic _ _ R,u.kind,u.round⟩
     ·cases i
  ·rename_i B;rw [B] at j
   have y:c.mode=.returning:=by
    generalize c.mode=x at j;cases j;rfl
   split at i
   ·rename_i fn t;have z:E.P.funcs[c.fn]?=some fn:=by rw [o.fn];exact hE.fn _ _ t
    split at i
    ·rename_i v F;obtain ⟨v',p1,p2,p3⟩:=FD hE hr o F;exact Hw (Jj y n z p1) hr o.kind q (p2 _ rfl) i
    ·rename_i l T F;obtain ⟨v',p1,p2,p3⟩:=FD hE hr o F;exact Hw (Jj y n z p1) hr o.kind q (p3 fun a e=>T a (by rw [e])) i
    ·cases i
   ·cases i
end
end Go.AE

