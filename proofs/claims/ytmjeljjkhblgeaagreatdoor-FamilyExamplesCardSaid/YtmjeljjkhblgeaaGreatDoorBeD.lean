/- What is proved here: an evaluator of the model's steps that the kernel can run, and that whatever it answers is what the model does (part 4 of 8: AeSlc, AeEqS, AeMap, AeMap2, AeCat, AeOps19, AeOps20, AeStep1, AeStep2, AeStep3, AeStep4, AeStep5, AeStep6, AeStep7). Conditions: those that each theorem states; they hold of no one program. -/
import Derived.Test.YtmjeljjkhblgeaaGreatDoorBeC
set_option linter.unusedVariables false
set_option linter.unusedSectionVars false
set_option linter.unusedSimpArgs false
namespace Go.AE
variable [Gl:Au]
variable [U:Unk]
theorem H4 {l u n:SE} (h:inB l u n=true):0≤Ag U.V l∧Ag U.V l≤Ag U.V u∧Ag U.V u≤Ag U.V n:=by
 unfold inB at h;obtain ⟨h12,h3⟩:=Am h;obtain ⟨h1,h2⟩:=Am h12;have a:=GZ h1;have b:=GZ h2;have c:=GZ h3;rw [Ap,decide_eq_false_iff_not] at a b c;have z:Ag U.V (.c 0)=0:=rfl;rw [z] at a;omega
theorem DY {ρ:Ren} {d e:SE} {o:Option AV} {o':Option Value} (h1:∀a,o=some a→∃v,o'=some v∧VR ρ a v) (h0:o=none→o'=none) (h:FV d o=some e) :
  (o'=none∧e=d)∨∃k,o'=some (.int k (Ag U.V e)):=by
 cases o with
 |none=>cases h;exact .inl ⟨h0 rfl,rfl⟩
 |some a=>
  obtain ⟨v,hv,hr⟩:=h1 a rfl;simp only [FV] at h;split at h
  ·rename_i k e' ht;cases h;exact .inr ⟨k,by rw [hv,Ci hr ht]⟩
  ·cases h
theorem Ye {ρ:Ren} {o:Option AV} {o':Option Value} (h1:∀a,o=some a→∃v,o'=some v∧VR ρ a v):∀a,o.map JA=some a→∃v,o'=some v∧VR ρ a v:=by
 intro a ha;cases o with
 |none=>cases ha
 |some b=>
  simp only [Option.map_some,Option.some.injEq] at ha;subst ha;obtain ⟨v,q1,q2⟩:=h1 b rfl;exact ⟨v,q1,G7 q2⟩
omit U in
theorem S8 [Facts] {o:Option AV} {o':Option Value} (h0:o=none→o'=none):o.map JA=none→o'=none:=by
 intro h;cases o with
 |none=>exact h0 rfl
 |some b=>cases h
theorem DP {P:Program} {w:World} {kd:IntKind} {x:Int} {y:Nat} {code:BoundsCode} (h0:0≤x) (h1:x≤y):(Instr.sliceBound (.int kd x) y code).run P w=.ok x.toNat w:=by
 simp [Instr.sliceBound,asIntOf,h0,h1]
theorem FQ {P:Program} {w:World} {b:Bool} {len cap:Nat} {l u dl du:SE} {lo' hi':Option Value} (hl:(lo'=none∧l=dl)∨∃k,lo'=some (.int k (Ag U.V l))) (hu:(hi'=none∧u=du)∨∃k,hi'=some (.int k (Ag U.V u)))
  (hdl:Ag U.V dl=0) (hdu:Ag U.V du=len) (h0:0≤Ag U.V l) (h1:Ag U.V l≤Ag U.V u) (h2:Ag U.V u≤len) (hc:len≤cap) :
  (Instr.sliceBounds b len cap lo' hi' none).run P w=.ok ((Ag U.V l).toNat,(Ag U.V u).toNat,cap) w:=by
 rcases hu with ⟨a,c⟩|⟨k,a⟩
 ·subst a;subst c;rcases hl with ⟨d,e⟩|⟨k,d⟩
  ·subst d;subst e;simp [Instr.sliceBounds,hdl,hdu]
  ·subst d;have:=DP (P:=P) (w:=w) (kd:=k) (code:=.sliceB) h0 (show Ag U.V l≤(len:Int) by omega)
   simp [Instr.sliceBounds,hdu,this]
 ·subst a;have hs:∀code,(Instr.sliceBound (.int k (Ag U.V u)) cap code).run P w=.ok (Ag U.V u).toNat w:=fun code=>DP (by omega) (by omega)
  rcases hl with ⟨d,e⟩|⟨k',d⟩
  ·subst d;subst e;simp [Instr.sliceBounds,hdl,hs]
  ·subst d;have:=DP (P:=P) (w:=w) (kd:=k') (code:=.sliceB) h0 (show Ag U.V l≤((Ag U.V u).toNat:Int) by omega)
   simp [Instr.sliceBounds,hs,this]
theorem Dy {y l u:SE}:(Af U.V (.sub y l u)).rows=((Af U.V y).rows.drop (Ag U.V l).toNat).take ((Ag U.V u).toNat-(Ag U.V l).toNat):=rfl
theorem JH {rows:List D} {l n i:Nat} (hi:i<n):((rows.drop l).take n).getD i default=rows.getD (l+i) default:=by
 rw [List.getD_eq_getElem?_getD,List.getD_eq_getElem?_getD,List.getElem?_take_of_lt hi,List.getElem?_drop]
theorem HR.swap {ρ:Ren} {h:Aa} {w:World} (hr:HR ρ h.blk.get w) {r:Nat} (hl:h.blk.get r≠none) (x:Ac) (hx:∀base,ρ r=some base→BR ρ x base w.heap[base.cb]?) :
  HR ρ (h.put r x).blk.get w∧Ext ρ ρ h (h.put r x) w w:=by
 have live:∀b,(h.put r x).blk.get b≠none→h.blk.get b≠none:=by
  intro b h1;simp only [Aa.put,T.get_set] at h1;by_cases e:r=b
  ·subst e;exact hl
  ·rw [if_neg e] at h1;exact h1
 refine ⟨⟨hr.lt,?_,fun b b' c c' hne hc hc' h1 h2=>hr.apart b b' c c' hne hc hc' (live b h1) (live b' h2),hr.imm,fun k arr b c hk hc h1=>hr.off k arr b c hk hc (live b h1),hr.glob⟩,
  ⟨Ren.le_refl ρ,Nat.le_refl _,fun _ _ e=>.inl e,Fq.refl w,fun _ _ _=>rfl,⟨[r],rfl,?_⟩,fun b h1=>.inl (live b h1),fun _ _ e=>.inl e⟩⟩
 ·intro b c y hc hy;simp only [Aa.put,T.get_set] at hy;by_cases e:r=b
  ·subst e;rw [if_pos rfl] at hy;cases hy;exact hx c hc
  ·rw [if_neg e] at hy;exact hr.blk b c y hc hy
 ·intro b hbn _;simp only [Aa.put,T.get_set];rw [if_neg (fun e=>hbn (by simp [e]))]
section
variable {E:Env} (hE:OK E) {ρ:Ren} {h:Aa} {w:World}
include hE
theorem Lh (hr:HR ρ h.blk.get w) {t:TypeId} {x a:AV} {xv:Value} {lo hi:Option AV} {lo' hi':Option Value} {h':Aa} (hx:VR ρ x xv)
  (hlo:∀a,lo=some a→∃v,lo'=some v∧VR ρ a v) (hlo0:lo=none→lo'=none)
  (hhi:∀a,hi=some a→∃v,hi'=some v∧VR ρ a v) (hhi0:hi=none→hi'=none)
  (hl:MT E t x lo hi h=some (a,h')):h'=h∧∃v,(Instr.sliceAt t xv lo' hi' none).run E.P w=.ok v w∧VR ρ a v:=by
 unfold MT at hl;split at hl
 ·rename_i e' y;split at hl
  ·rename_i e l u hd ho1 ho2;split at hl
   ·rename_i ks hk;split at hl
    ·rename_i hc;cases hl;refine ⟨rfl,?_⟩;obtain ⟨c12,c3⟩:=Am hc;obtain ⟨c1,c2⟩:=Am c12;have h0:=Aq c1;subst h0;obtain ⟨b0,b1,b2⟩:=H4 c3;have hk2:U.K e=some ks:=by rw [hE.kd,←hE.ke];exact hk
     have p1:=DY hlo hlo0 ho1;have p2:=DY hhi hhi0 ho2;rw [Aj] at b2;cases hx with
     |dat _ _ ad n cap hdv=>
      have hn:(Af U.V y).rows.length=n∧n≤cap:=by
       cases hdv with
       |nil _ _ g1 g2=>rw [g2];exact ⟨rfl,Nat.le_refl _⟩
       |empty _ _ _ _ g1 g2=>rw [g2];exact ⟨rfl,Nat.zero_le _⟩
       |slc _ _ _ _ _ _ _ _ _ _ q1 q2=>exact ⟨q1,q2⟩
      obtain ⟨hn,hc⟩:=hn;have q:=FQ (P:=E.P) (w:=w) (b:=true) (cap:=cap) p1 p2 rfl (by rw [Aj,hn]) b0 b1 (by rw [←hn];exact b2) hc
      have hrun:(Instr.sliceAt t (.slice ad n cap) lo' hi' none).run E.P w=.ok (.slice (if cap=(Ag U.V l).toNat then ad else ad.map (·.add ((Ag U.V l).toNat*ks.length))) ((Ag U.V u).toNat-(Ag U.V l).toNat) (cap-(Ag U.V l).toNat)) w:=by
       simp [Instr.sliceAt,Instr.slice,hE.run_und hd,q,hE.run_szIs c2]
      refine ⟨_,hrun,?_⟩;refine .dat _ _ _ _ _ ?_;generalize hL:(Ag U.V l).toNat=L at *;generalize hH:(Ag U.V u).toNat=H at *;have hLH:L≤H:=by omega
      have hHn:H≤n:=by omega
      have hrl:(Af U.V (.sub y l u)).rows.length=H-L:=by
       rw [Dy,hL,hH];simp;omega
      cases hdv with
      |nil _ _ g1 g2=>
       have z:L=0∧H=0:=by omega
       obtain ⟨rfl,rfl⟩:=z;simp only [Nat.sub_self,if_true];exact .nil _ _ g1 (List.eq_nil_of_length_eq_zero hrl)
      |empty _ a1 _ _ g1 g2=>
       have z:L=0∧H=0:=by omega
       obtain ⟨rfl,rfl⟩:=z;have hnil:=List.eq_nil_of_length_eq_zero hrl;split
       ·exact .empty _ _ _ _ g1 hnil
       ·exact .empty _ _ _ _ g1 hnil
      |slc _ b o _ _ _ ks' arr hk' ha' hn' hc' g1 hin hrow hv=>
       rw [hk2] at hk';cases hk';by_cases hcl:cap=L
       ·rw [if_pos hcl];have z:H-L=0:=by omega
        rw [z] at hrl ⊢;exact .empty _ _ _ _ g1 (List.eq_nil_of_length_eq_zero hrl)
       ·rw [if_neg hcl];simp only [Option.map_some,BJ]
        have key:∀i,i<H-L→(Af U.V (.sub y l u)).rows.getD i default=(Af U.V y).rows.getD (L+i) default:=by
         intro i hi;rw [Dy,hL,hH,JH hi]
        refine .slc _ _ _ _ _ _ ks arr hk2 ha' hrl (by omega) g1 ?_ ?_ ?_
        ·have e1:L*ks.length+(H-L)*ks.length=H*ks.length:=by rw [←Nat.add_mul];congr 1;omega
         have e2:H*ks.length≤n*ks.length:=Nat.mul_le_mul_right _ hHn;omega
        ·intro i hi;rw [key i hi];exact hrow _ (by omega)
        ·intro i j kd hi hj;rw [key i hi];have:=hv (L+i) j kd (by omega) hj
         rw [show o+L*ks.length+i*ks.length+j=o+(L+i)*ks.length+j by rw [Nat.add_mul];omega]
         exact this
    ·cases hl
   ·cases hl
  ·cases hl
 ·cases hl
theorem Lv (hr:HR ρ h.blk.get w) {t e:TypeId} {b es:Nat} {n nl y l u du:SE} {xv:Value} {lo' hi':Option Value} (hd:E.desc t=some (.slice e)) (c2:E.szIs e es=true) (hb:h.blk.get b=some (.arr e y)) (hx:VR ρ (.asl b es n nl) xv)
  (p1:(lo'=none∧l=.c 0)∨∃k,lo'=some (.int k (Ag U.V l))) (p2:(hi'=none∧u=du)∨∃k,hi'=some (.int k (Ag U.V u))) (hdu:Ag U.V du=Ag U.V n) (hl0:Ag U.V l=0) (b1:0≤Ag U.V u) (bn:Ag U.V u≤Ag U.V n) (b2:Ag U.V u≤Ag U.V (.lenL y)) :
  AB E ρ h (h.put b (.arr e (.sub y (.c 0) u))) w (Instr.sliceAt t xv lo' hi' none) (.asl b es (.lenL (.sub y (.c 0) u)) nl):=by
 have hu:Ag U.V (.lenL (.sub y (.c 0) u))=Ag U.V u:=by
  rw [Aj,Dy];rw [Aj] at b2;have:Ag U.V (.c 0)=0:=rfl;rw [this];simp;omega
 have hblk:∀base,ρ b=some base→BR ρ (.arr e (.sub y (.c 0) u)) base w.heap[base.cb]?:=by
  intro base hρ;obtain ⟨ks',cur,et,fz,b1',b2',b3',b4',b5'⟩:=hr.blk b base _ hρ hb;refine ⟨ks',cur,et,fz,b1',b2',b3',b4',?_⟩
  have hlen:(Af U.V (.sub y (.c 0) u)).rows.length≤(Af U.V y).rows.length:=by
   rw [Dy];simp;omega
  have key:∀i,i<(Af U.V (.sub y (.c 0) u)).rows.length→(Af U.V (.sub y (.c 0) u)).rows.getD i default=(Af U.V y).rows.getD i default:=by
   intro i hi;rw [Dy] at hi ⊢;have:Ag U.V (.c 0)=0:=rfl;rw [this] at hi ⊢;rw [JH (by simp at hi;omega)]
   congr 1
   simp
  refine ⟨?_,?_,?_⟩
  ·have:=b5'.1;have:=Nat.mul_le_mul_right ks'.length hlen;omega
  ·intro i hi;rw [key i hi];exact b5'.2.1 i (by omega)
  ·intro i j kd hi hj;rw [key i hi];exact b5'.2.2 i j kd (by omega) hj
 obtain ⟨r1,r2⟩:=hr.swap (show h.blk.get b≠none by rw [hb];exact Option.some_ne_none _) _ hblk
 cases hx with
 |asl _ _ _ _ cap base hρ q0 qc qz qn=>
  have q:=FQ (P:=E.P) (w:=w) (b:=true) (len:=(Ag U.V n).toNat) (cap:=cap) p1 p2 rfl (by omega) (by omega) (by omega) (by omega) qc
  rw [hl0] at q
  have hrun:(Instr.sliceAt t (.slice (some ⟨base.cb,base.co,none⟩) (Ag U.V n).toNat cap) lo' hi' none).run E.P w=.ok (.slice (some ⟨base.cb,base.co,none⟩) (Ag U.V u).toNat cap) w:=by
   simp [Instr.sliceAt,Instr.slice,hE.run_und hd,q,hE.run_szIs c2,BJ]
  refine ⟨ρ,_,w,hrun,?_,r1,r2⟩;have:=VR.asl (ρ:=ρ) b es (.lenL (.sub y (.c 0) u)) nl cap base hρ (by rw [hu];exact b1) (by rw [hu];omega) qz qn
  rw [hu] at this;exact this
 |aslEnd _ _ _ _ ad q0 qn=>
  have hu0:Ag U.V u=0:=by omega
  have q:=FQ (P:=E.P) (w:=w) (b:=true) (len:=0) (cap:=0) p1 p2 rfl (by rw [hdu,q0];rfl) (by omega) (by omega) (by rw [hu0];exact Int.le_refl _) (Nat.le_refl _)
  rw [hl0,hu0] at q
  have hrun:(Instr.sliceAt t (.slice ad 0 0) lo' hi' none).run E.P w=.ok (.slice ad 0 0) w:=by
   simp [Instr.sliceAt,Instr.slice,hE.run_und hd,q,hE.run_szIs c2]
  exact ⟨ρ,_,w,hrun,.aslEnd _ _ _ _ _ (by rw [hu];exact hu0) qn,r1,r2⟩
theorem RC (hr:HR ρ h.blk.get w) {t:TypeId} {x a:AV} {xv:Value} {lo hi mx:Option AV} {lo' hi' mx':Option Value} {h':Aa} (hx:VR ρ x xv)
  (hlo:∀a,lo=some a→∃v,lo'=some v∧VR ρ a v) (hlo0:lo=none→lo'=none)
  (hhi:∀a,hi=some a→∃v,hi'=some v∧VR ρ a v) (hhi0:hi=none→hi'=none)
  (hmx:∀a,mx=some a→∃v,mx'=some v∧VR ρ a v) (hmx0:mx=none→mx'=none)
  (hmh:mx≠none→hi≠none)
  (hl:sliceB E t x lo hi mx h=some (a,h')):AB E ρ h h' w (Instr.sliceAt t xv lo' hi' mx') a:=by
 unfold sliceB at hl;split at hl
 ·have e0:=hmx0 rfl;subst e0;obtain ⟨rfl,q⟩:=Lh hE hr hx hlo hlo0 hhi hhi0 hl;exact Ar hr q
 ·rename_i y;have e0:=hmx0 rfl;subst e0;split at hl
  ·rename_i l u hd ho1 ho2;split at hl
   ·rename_i hc;cases hl;obtain ⟨b0,b1,b2⟩:=H4 hc;have p1:=DY hlo hlo0 ho1;have p2:=DY hhi hhi0 ho2;cases hx with
    |ss _=>
     refine Ar hr ⟨_,?_,.ss (.strSub y l u)⟩;rw [Cf] at b2;have hsz:(AG U.V y).size=(AG U.V y).data.toList.length:=by simp
     have q:=FQ (P:=E.P) (w:=w) (b:=false) (len:=(AG U.V y).size) (cap:=(AG U.V y).size) p1 p2 rfl (by rw [Cf,hsz]) b0 b1 (by rw [hsz];exact b2) (Nat.le_refl _)
     have e:AG U.V (.strSub y l u)=(AG U.V y).extract (Ag U.V l).toNat (Ag U.V u).toNat:=rfl;rw [e];simp [Instr.sliceAt,Instr.slice,hE.run_und hd,q]
   ·cases hl
  ·cases hl
 ·rename_i b es n nl;have e0:=hmx0 rfl;subst e0;split at hl
  ·rename_i e e' y hd hb;split at hl
   ·rename_i hc;obtain ⟨c12,c3⟩:=Am hc;obtain ⟨c1,c2⟩:=Am c12;have h0:=Aq c1;subst h0;have hfl:=Ev c3;split at hl
    ·rename_i l u ho1 ho2;split at hl
     ·rename_i hz;split at hl
      ·rename_i hi2;cases hl;obtain ⟨b0,b1,b2⟩:=H4 hi2;rw [Bn] at b0 b1
       have hl0:Ag U.V l=0:=by
        cases l<;>simp only [UZ] at hz<;>first|cases hz|skip
        simpa [Bn] using hz
       exact Lv hE hr hd c2 hb hx (DY hlo hlo0 ho1) (DY hhi hhi0 ho2) hfl.symm hl0 b1 (by rw [hfl];exact b2) b2
      ·cases hl
     ·split at hl;rename_i x' h1 hf;obtain ⟨σ,g1,g2,g3⟩:=Jj hE hr hx hf;obtain ⟨rfl,v,q1,q2⟩:=Lh hE g2 g1 (fun a ha=>let ⟨v,p,q⟩:=hlo a ha;⟨v,p,q.mono g3.le⟩) hlo0 (fun a ha=>let ⟨v,p,q⟩:=hhi a ha;⟨v,p,q.mono g3.le⟩) hhi0 hl
      exact ⟨σ,v,w,q1,q2,g2,g3⟩
    ·cases hl
   ·split at hl
    ·rename_i l hv u ho1 ho2;split at hl
     ·rename_i hc;cases hl;obtain ⟨c1,hc⟩:=Am hc;obtain ⟨c2,hc⟩:=Am hc;obtain ⟨hz,hc⟩:=Am hc;obtain ⟨c3,c4⟩:=Am hc;have h0:=Aq c1;subst h0;obtain ⟨b0,b1,b2⟩:=H4 c3;obtain ⟨_,_,b3⟩:=H4 c4;rw [Bn] at b0 b1
      have hl0:Ag U.V l=0:=by
       cases l<;>simp only [UZ] at hz<;>first|cases hz|skip
       simpa [Bn] using hz
      exact Lv hE hr hd c2 hb hx (DY hlo hlo0 ho1) (DY hhi hhi0 ho2) rfl hl0 b1 b2 b3
     ·cases hl
    ·cases hl
  ·cases hl
 ·split at hl
  ·rename_i a' hs;cases hl
   exact Ar hr (RA hE hr hx (Ye hlo) (S8 hlo0) (Ye hhi) (S8 hhi0) (Ye hmx) (S8 hmx0) (fun q=>by cases hi with
    |none=>exact absurd rfl (hmh (fun e=>q (by rw [e];rfl)))
    |some a=>simp) hs)
  ·cases hl
end
end Go.AE
namespace Go.AE
variable [Gl:Au]
variable [U:Unk]
theorem FO {ρ:Ren} {x:AV} {xv:Value} {e:SE} (hx:VR ρ x xv) (h:N5 x=some e):xv=.string (AG U.V e):=by
 cases hx<;>simp only [N5] at h<;>first | (cases h;done)|skip
 ·rename_i s;cases h
  have e1:AG U.V (.strc s.data.toList.length (As s.data.toList))=s:=by
   show (⟨(CW _ _).toArray⟩:ByteArray)=s;rw [Dh (U:=U)]
  rw [e1]
 ·cases h;rfl
theorem HE {ρ:Ren} {x:AV} {xv:Value} {e:SE} (hx:VR ρ x xv) (h:JW x=some e):xv=.bool (Ai U.V e):=by
 cases hx
 case bool b=>simp only [JW,Option.some.injEq] at h;subst h;rfl
 case sb p e'=>
  cases p with
  |true=>
   simp only [JW,Option.some.injEq] at h;subst h;have:Ai U.V (.and e' (.bc true))=(Ai U.V e'&&true):=rfl;rw [this];cases Ai U.V e'<;>rfl
  |false=>
   simp only [JW,Option.some.injEq] at h;subst h;have:Ai U.V (.neg e')=(!Ai U.V e'):=rfl;rw [this];cases Ai U.V e'<;>rfl
 all_goals (simp only [JW] at h;cases h)
theorem Qn (a b:SE):Ai U.V (VF a b)=(Ai U.V a&&Ai U.V b):=by
 unfold VF;split
 ·show Ai U.V a=(Ai U.V a&&true);rw [Bool.and_true]
 ·rfl
theorem Qm (a b:SE):Ai U.V (aB a b)=(Ag U.V a==Ag U.V b):=by
 unfold aB;split<;>rfl
theorem Qv (a b:SE):Ai U.V (Xr a b)=(Ai U.V a==Ai U.V b):=by
 show (!((!(Ai U.V a&&Ai U.V b))&&(!((!Ai U.V a)&&(!Ai U.V b)))))=_;cases Ai U.V a<;>cases Ai U.V b<;>rfl
section
variable {E:Env} (hE:OK E) {ρ:Ren} {w:World}
include hE
theorem GM {d:Nat} (ih:∀(t:TypeId) (x y:AV) (r:SE) (xv yv:Value),Gs E d t x y=some r→VR ρ x xv→VR ρ y yv→(Op.equalIn d t xv yv).run E.P w=.ok (Ai U.V r) w)
  {xs ys:List AV} {xs' ys':List Value} (hx:VL ρ xs xs') (hy:VL ρ ys ys'):∀{fs:List Field} {r:SE},En E (Gs E d) xs ys fs=some r→
  (Op.eqFields d xs'.toArray ys'.toArray fs).run E.P w=.ok (Ai U.V r) w
 |[],r,h=>by simp only [En,Option.some.injEq] at h;subst h;simp only [Op.eqFields,Sem.run_pure];rfl
 |f::fs,r,h=>by
  simp only [En] at h;split at h
  ·cases h
  ·rename_i hn;have hne:f.name≠ "_":=by simpa using hn
   split at h
   ·rename_i a b h1 h2;split at h
    ·rename_i e e' h3 h4;cases h;obtain ⟨av,q1,q2⟩:=hE.run_part h1 hx w;obtain ⟨bv,q3,q4⟩:=hE.run_part h2 hy w;have q5:=ih _ _ _ _ _ _ h3 q2 q4;have q6:=GM ih hx hy h4;simp only [Op.eqFields,ne_eq,hne,not_false_eq_true,if_true,Sem.run_bind,q1,q3,q5,Result.andThen_ok,Qn];cases Ai U.V e with
     |true=>simp only [Bool.not_true,Bool.false_eq_true,if_false,Bool.true_and];exact q6
     |false=>simp
    ·cases h
   ·cases h
theorem IK {d:Nat} (ih:∀(t:TypeId) (x y:AV) (r:SE) (xv yv:Value),Gs E d t x y=some r→VR ρ x xv→VR ρ y yv→(Op.equalIn d t xv yv).run E.P w=.ok (Ai U.V r) w)
  {xs ys:List AV} {xs' ys':List Value} (hx:VL ρ xs xs') (hy:VL ρ ys ys') {e:TypeId} {n:Nat}:∀{k i:Nat} {r:SE},Fe E (Gs E d) e n xs ys k i=some r→
  (Op.eqItems d e n xs'.toArray ys'.toArray (List.range' i k)).run E.P w=.ok (Ai U.V r) w
 |0,i,r,h=>by simp only [Fe,Option.some.injEq] at h;subst h;simp only [List.range'_zero,Op.eqItems,Sem.run_pure];rfl
 |k+1,i,r,h=>by
  simp only [Fe] at h;split at h
  ·rename_i a b h1 h2;split at h
   ·rename_i x y h3 h4;cases h;obtain ⟨av,q1,q2⟩:=hE.run_part h1 hx w;obtain ⟨bv,q3,q4⟩:=hE.run_part h2 hy w;have q5:=ih _ _ _ _ _ _ h3 q2 q4;have q6:=IK ih hx hy h4;simp only [List.range'_succ,Op.eqItems,Sem.run_bind,q1,q3,q5,Result.andThen_ok,Qn];cases Ai U.V x with
    |true=>simp only [Bool.not_true,Bool.false_eq_true,if_false,Bool.true_and];exact q6
    |false=>simp
   ·cases h
  ·cases h
theorem Mz:∀(d:Nat) (t:TypeId) (x y:AV) (r:SE) (xv yv:Value),Gs E d t x y=some r→VR ρ x xv→VR ρ y yv→(Op.equalIn d t xv yv).run E.P w=.ok (Ai U.V r) w:=by
 intro d
 induction d with
 |zero=>intro t x y r xv yv h;simp [Gs] at h
 |succ d ih=>
  intro t x y r xv yv h hx hy;simp only [Gs] at h;split at h
  ·rename_i hd;have hu:=hE.run_und hd w;split at h
   ·rename_i a b ha hb;cases h;rw [HE hx ha,HE hy hb,Qv];simp [Op.equalIn,hu]
   ·cases h
  ·rename_i k0 hd;have hu:=hE.run_und hd w;split at h
   ·rename_i k a k' b ha hb;split at h
    ·rename_i hk;cases h;have hk:k=k':=by simpa using hk
     subst hk;rw [Ci hx ha,Ci hy hb,Qm];simp [Op.equalIn,hu]
    ·cases h
   ·cases h
  ·rename_i hd;have hu:=hE.run_und hd w;split at h
   ·rename_i a b ha hb;cases h;rw [FO hx ha,FO hy hb]
    have e:Ai U.V (.eqSS a b)=((AG U.V a).toList==(AG U.V b).toList):=by
     rw [Km,Ck]
    rw [e];simp only [Op.equalIn,Sem.run_bind,hu,Result.andThen_ok,Sem.run_pure];rw [beq_toListBytes]
   ·cases h
  ·rename_i fs hd;split at h
   ·rename_i xs ys;split at h
    ·cases h
    ·rename_i hs;cases hx with
     |agg _ xs' a1 a2=>
      cases hy with
      |agg _ ys' b1 b2=>
       have hund:=hE.und hd;have hfo:E.P.fieldsOf t=fs:=by simp [Program.fieldsOf,hund]
       rw [run_equalIn_struct w d t xs'.toArray ys'.toArray (by rw [hfo];exact hund) hs,hfo]
       exact GM hE ih ⟨a1,a2⟩ ⟨b1,b2⟩ h
   ·cases h
  ·rename_i len e hd;split at h
   ·rename_i xs ys;split at h
    ·rename_i hh;cases hx with
     |agg _ xs' a1 a2=>
      cases hy with
      |agg _ ys' b1 b2=>
       unfold Env.has at hh;cases hi:E.ty.get e with
       |none=>simp [hi] at hh
       |some inf=>
        have hcs:E.P.cellsOf e=E.size e:=by simp [Program.cellsOf,hE.ty e inf hi,Env.size,hi]
        rw [run_equalIn_array w d xs'.toArray ys'.toArray (hE.und hd) (hE.ty e inf hi),hcs,List.range_eq_range'];exact IK hE ih ⟨a1,a2⟩ ⟨b1,b2⟩ h
    ·cases h
   ·cases h
  ·cases h
theorem Sf {op:BinOp} {t:TypeId} {ox oy:Operand} {x y r:AV} {xv yv:Value} (hx:VR ρ x xv) (hy:VR ρ y yv) (hr:R5 E op t x y=some r) :
  ∃v,(do eqGuard op t ox oy xv yv;binOp op t xv yv:Sem Value).run E.P w=.ok v w∧VR ρ r v:=by
 unfold R5 at hr;split at hr
 ·rename_i xs ys;split at hr
  ·cases hr
  ·rename_i hg0;split at hr
   ·rename_i e he;have hrun:=Mz (w:=w) hE 10000 t _ _ e xv yv he hx hy;cases hx with
    |agg _ xs' a1 a2=>
     cases hy with
     |agg _ ys' b1 b2=>
      have hg:(eqGuard op t ox oy (.agg xs'.toArray) (.agg ys'.toArray)).run E.P w=.ok () w:=BA (by simp) (fun _ _=>hg0)
      obtain ⟨q1,q2⟩:=Dr t (.agg xs'.toArray) (.agg ys'.toArray) (by simp) (by simp) (by simp) (by simp)
      split at hr
      ·rename_i q hq;cases hr;have hm:=Fh ρ q e;cases op<;>simp only [Bu,Option.some.injEq] at hq<;>first | (cases hq;done)|skip
       ·subst hq;refine ⟨.bool (Ai U.V e),?_,?_⟩
        ·simp only [Sem.run_bind,hg,Result.andThen_ok,q1,Op.equal,Op.maxDepth,hrun,Sem.run_pure]
        ·rwa [show (Ai U.V e==true)=Ai U.V e by cases Ai U.V e<;>rfl] at hm
       ·subst hq;refine ⟨.bool (!Ai U.V e),?_,?_⟩
        ·simp only [Sem.run_bind,hg,Result.andThen_ok,q2,Op.equal,Op.maxDepth,hrun,Sem.run_pure]
        ·rwa [show (Ai U.V e == !true) = !Ai U.V e by cases Ai U.V e<;>rfl] at hm
      ·cases hr
   ·cases hr
 ·cases hr
theorem ak {t:TypeId} {k key:AV} {kv keyv:Value} {b:Bool} (h:eqK E t k key=some b) (hk:VR ρ k kv) (hy:VR ρ key keyv):(Op.equal t kv keyv).run E.P w=.ok b w:=by
 unfold eqK at h;split at h
 ·rename_i c hc;cases h;exact Pd (w:=w) hE 10000 t k key b kv keyv hc hk hy
 ·split at h
  ·rename_i e he;have:=Mz (w:=w) hE 10000 t k key e kv keyv he hk hy;rw [An U.ok h] at this;exact this
  ·cases h
theorem Iu {t:TypeId} {k:AV} {kv:Value} (hk:VR ρ k kv):∀{es:List Ak} {es':List MapEntry} {i:Nat} {r:Option (Nat×AV)},ER ρ es es'→D5 E t k es i=some r→
  ∃r',FR ρ r r'∧(Instr.findAsking t kv es' i).run E.P w=.ok r' w
 |[],[],i,r,_,h=>by
  simp only [D5,Option.some.injEq] at h;subst h;exact ⟨none,trivial,by simp [Instr.findAsking]⟩
 |e::es,e'::es',i,r,⟨h1,h2,h3,h4⟩,h=>by
  simp only [D5] at h;cases ha:eqK E t k e.key with
  |none=>simp [ha] at h
  |some b=>
   have hask:(Op.equal t kv e'.key).run E.P w=.ok b w:=ak hE ha hk h1;cases b with
   |true=>
    simp only [ha,Option.some.injEq] at h;subst h;exact ⟨some (i,e'.val),⟨rfl,h2⟩,by simp [Instr.findAsking,hask]⟩
   |false=>
    simp only [ha] at h;obtain ⟨r',q1,q2⟩:=Iu hk h4 h;exact ⟨r',q1,by simp [Instr.findAsking,hask,q2]⟩
omit hE in
theorem Hv {d:Nat} {t:TypeId} {ds:TypeDesc} (hd:E.desc t=some ds) {x y:AV} {e:SE} {b:Bool} {xv yv:Value} (he:Gs E (d+1) t x y=some e) (hb:Ai U.V e=b) (hx:VR ρ x xv) (hy:VR ρ y yv) :
  Instr.sameNow ds xv yv=some b∨∀u v,Instr.sameNow ds u v=none:=by
 simp only [Gs,hd] at he;cases ds with
 |int q=>
  simp only at he;split at he
  ·rename_i k a k' c h1 h2;split at he
   ·rename_i hk;cases he;have hk:k=k':=by simpa using hk
    subst hk;rw [Ci hx h1,Ci hy h2];rw [Qm] at hb;exact .inl (by simp [Instr.sameNow,hb])
   ·cases he
  ·cases he
 |string=>
  simp only at he;split at he
  ·rename_i a c h1 h2;cases he;rw [FO hx h1,FO hy h2];rw [Km,Ck] at hb;exact .inl (by simp only [Instr.sameNow];rw [beq_toListBytes,hb])
  ·cases he
 |bool=>
  simp only at he;split at he
  ·rename_i a c h1 h2;cases he;rw [HE hx h1,HE hy h2];rw [Qv] at hb;exact .inl (by simp [Instr.sameNow,hb])
  ·cases he
 |_=>exact .inr (fun u v=>by cases u<;>cases v<;>rfl)
omit hE in
theorem Nm {t:TypeId} {ds:TypeDesc} (hd:E.desc t=some ds) {x y:AV} {b:Bool} {xv yv:Value} (ha:eqK E t x y=some b) (hx:VR ρ x xv) (hy:VR ρ y yv) :
  Instr.sameNow ds xv yv=some b∨∀u v,Instr.sameNow ds u v=none:=by
 unfold eqK at ha;split at ha
 ·rename_i c hc;cases ha;exact Kj (d:=9999) hd hc hx hy
 ·split at ha
  ·rename_i e he;have hb:=An U.ok ha;exact Hv (d:=9999) hd he hb hx hy
  ·cases ha
omit hE in
theorem IF {t:TypeId} {ds:TypeDesc} (hd:E.desc t=some ds) {k:AV} {kv:Value} (hk:VR ρ k kv) (hq:¬∀u v,Instr.sameNow ds u v=none):∀{es:List Ak} {es':List MapEntry} {i:Nat} {r:Option (Nat×AV)},ER ρ es es'→D5 E t k es i=some r→
  ∃r',FR ρ r r'∧Instr.findNow ds kv es' i=some r'
 |[],[],i,r,_,h=>by
  simp only [D5,Option.some.injEq] at h;subst h;exact ⟨none,trivial,rfl⟩
 |e::es,e'::es',i,r,⟨h1,h2,h3,h4⟩,h=>by
  simp only [D5] at h;cases ha:eqK E t k e.key with
  |none=>simp [ha] at h
  |some b=>
   have hs:Instr.sameNow ds kv e'.key=some b:=(Nm hd ha hk h1).resolve_right hq;cases b with
   |true=>
    simp only [ha,Option.some.injEq] at h;subst h;exact ⟨some (i,e'.val),⟨rfl,h2⟩,by simp [Instr.findNow,hs]⟩
   |false=>
    simp only [ha] at h;obtain ⟨r',q1,q2⟩:=IF hd hk hq h4 h;exact ⟨r',q1,by simp [Instr.findNow,hs,q2]⟩
theorem Ir {t:TypeId} {ds:TypeDesc} (hd:E.desc t=some ds) {k:AV} {kv:Value} (hk:VR ρ k kv) {es:List Ak} {es':List MapEntry} {r:Option (Nat×AV)} (he:ER ρ es es') (h:D5 E t k es 0=some r) :
  ∃r',FR ρ r r'∧(Instr.findKey t kv es').run E.P w=.ok r' w:=by
 by_cases hq:∀u v,Instr.sameNow ds u v=none
 ·cases es' with
  |nil=>
   cases es with
   |nil=>
    simp only [D5,Option.some.injEq] at h;subst h;exact ⟨none,trivial,by simp [Instr.findKey,hE.run_und hd,Instr.findNow]⟩
   |cons e es=>cases he
  |cons e' es'=>
   obtain ⟨r',q1,q2⟩:=Iu (w:=w) hE hk he h;exact ⟨r',q1,by simp [Instr.findKey,hE.run_und hd,Instr.findNow,hq,q2]⟩
 ·obtain ⟨r',q1,q2⟩:=IF hd hk hq he h;exact ⟨r',q1,by simp [Instr.findKey,hE.run_und hd,q2]⟩
end
end Go.AE
namespace Go.AE
variable [Gl:Au]
section
variable [U:Unk]
theorem Tc (V:Val):∀e:SE,Ai V e=(Jr e).all (Ai V):=by
 intro e
 induction e with
 |and a b iha ihb=>
  show (Ai V a&&Ai V b)=(Jr a++Jr b).all (Ai V);rw [List.all_append,←iha,←ihb]
 |bc b=>
  cases b with
  |true=>rfl
  |false=>rfl
 |_=>simp [Jr]
theorem Kx:∀{l m:List SE},I2 l m=true→l=m
 |[],[],_=>rfl
 |a::l,b::m,h=>by
  simp only [I2] at h;obtain ⟨h1,h2⟩:=Am h;rw [SE.same_eq h1,Kx h2]
 |[],_::_,h=>by cases h
 |_::_,[],h=>by cases h
theorem RB (l b l' b':Nat):strEq l b l' b'=strEq l' b' l b:=by
 simp only [strEq];rw [Bool.eq_iff_iff];simp only [Bool.and_eq_true,Nat.beq_eq];constructor<;>(rintro ⟨rfl,rfl⟩;exact ⟨rfl,rfl⟩)
theorem Cr {α:Type} {a:α} {l:List α} {d:α} (q:Nat):(a::l).getD (q+1) d=l.getD q d:=by
 simp [List.getD_eq_getElem?_getD]
theorem K9 {α:Type} {a:α} {l:List α} {d:α}:(a::l).getD 0 d=a:=rfl
theorem NZ (V:Val):∀(ks:List Kd) (i j:Nat) (c1 c2:List D),H8 ks=true→ks.length≤c1.length→ks.length≤c2.length→(∀q,q<ks.length→V.d (j+q)=c1.getD q default)→(∀q,q<ks.length→V.d (i+q)=c2.getD q default)→
  (PV i j ks).all (Ai V)=DH ks c1 c2
 |[],i,j,c1,c2,_,_,_,_,_=>by cases c1<;>cases c2<;>rfl
 |k::ks,i,j,[],c2,_,h,_,_,_=>by simp at h
 |k::ks,i,j,_::_,[],_,_,h,_,_=>by simp at h
 |k::ks,i,j,a::c1,b::c2,hs,h1,h2,g1,g2=>by
  have ea:V.d j=a:=by have:=g1 0 (by simp);simpa using this
  have eb:V.d i=b:=by have:=g2 0 (by simp);simpa using this
  have rc:=fun hs'=>NZ V ks (i+1) (j+1) c1 c2 hs' (by simpa using h1) (by simpa using h2)
   (fun q hq=>by have:=g1 (q+1) (by simp;omega);rw [Cr] at this;rw [←this];congr 1;omega)
   (fun q hq=>by have:=g2 (q+1) (by simp;omega);rw [Cr] at this;rw [←this];congr 1;omega)
  simp only [PV,List.all_cons];cases k with
  |int k=>
   rw [rc hs];show (((V.d i).toInt==(V.d j).toInt)&&_)=((a.toInt==b.toInt)&&_);rw [ea,eb,Bool.beq_comm]
  |bool=>
   rw [rc hs]
   have:Ai V (YJ i j .bool)=(a.toBool==b.toBool):=by
    show (!((!(((V.d i).toBool&&true)&&((V.d j).toBool&&true)))&&(!((!((V.d i).toBool&&true))&&(!((V.d j).toBool&&true))))))=_;rw [ea,eb];cases a.toBool<;>cases b.toBool<;>rfl
   rw [this];rfl
  |str=>
   rw [rc hs]
   have:Ai V (YJ i j .str)=D.strEq a b:=by
    show strEq (V.d i).toStr.data.toList.length (As (V.d i).toStr.data.toList) (V.d j).toStr.data.toList.length (As (V.d j).toStr.data.toList)=_;rw [ea,eb,RB];rfl
   rw [this];rfl
  |slice e=>simp [H8] at hs
theorem Vj {ρ:Ren} {j:Nat} {kd:Kd} {v:Value} {K:TypeId→Option (List Kd)} {M:Nat→Option (Array Value)} (h:DV K M kd v (U.V.d j)):VR ρ (gk j kd) v:=by
 cases h with
 |int k n _ hr e=>
  have:Ag U.V (.var j)=n:=e;rw [←this];exact .si k (.var j)
 |bool b _ e=>
  have:Ai U.V (.var j)=b:=e;have q:=VR.sb (ρ:=ρ) true (.var j);rw [this,show (b==true)=b by cases b<;>rfl] at q
  exact q
 |str s _ e=>
  have:AG U.V (.var j)=s:=e;rw [←this];exact .ss (.var j)
 |_=>exact .top _
theorem Kg {ρ:Ren} {K:TypeId→Option (List Kd)} {M:Nat→Option (Array Value)}:∀(ks:List Kd) (j:Nat) (l:List Value),l.length=ks.length→(∀q kd,ks[q]?=some kd→DV K M kd (l.getD q Go.undef) (U.V.d (j+q)))→VL ρ (KZ j ks) l
 |[],j,[],_,_=>VL.nil ρ
 |k::ks,j,v::l,h,g=>by
  refine VL.cons (Vj (g 0 k rfl)) (Kg (K:=K) (M:=M) ks (j+1) l (by simpa using h) fun q kd hq=>?_)
  have:=g (q+1) kd (by simpa using hq)
  rw [Cr] at this
  rwa [show j+(q+1)=j+1+q by omega] at this
theorem MP {ρ:Ren} {l:List AV} {vs:List Value} (h:VL ρ l vs):VR ρ (K5 l) (PZ vs):=by
 cases l with
 |nil=>
  have:=h.nil_inv;subst this;exact .agg [] [] h.1 h.2
 |cons a l=>
  obtain ⟨v,r,rfl,h1,h2⟩:=h.cons_inv;cases l with
  |nil=>
   have:=h2.nil_inv;subst this;exact h1
  |cons b l=>
   obtain ⟨v',r',rfl,_,_⟩:=h2.cons_inv;exact .agg _ _ h.1 h.2
theorem QC {K:TypeId→Option (List Kd)} {M:Nat→Option (Array Value)}:∀(ks:List Kd) (l1 l2:List Value) (c1 c2:List D),H8 ks=true→l1.length=ks.length→l2.length=ks.length→(∀(j:Nat) kd,ks[j]?=some kd→DV K M kd (l1.getD j Go.undef) (c1.getD j default))→(∀(j:Nat) kd,ks[j]?=some kd→DV K M kd (l2.getD j Go.undef) (c2.getD j default))→
  DH ks c1 c2=true→l1=l2
 |[],[],[],_,_,_,_,_,_,_,_=>rfl
 |k::ks,v::l1,u::l2,[],c2,hs,h1,h2,g1,g2,h=>by cases k<;>simp [DH] at h
 |k::ks,v::l1,u::l2,_::_,[],hs,h1,h2,g1,g2,h=>by cases k<;>simp [DH] at h
 |k::ks,v::l1,u::l2,a::c1,b::c2,hs,h1,h2,g1,g2,h=>by
  have rc:=fun hs' hk=>QC ks l1 l2 c1 c2 hs' (by simpa using h1) (by simpa using h2)
   (fun q kd hq=>by have:=g1 (q+1) kd (by simpa using hq);rwa [Cr,Cr] at this)
   (fun q kd hq=>by have:=g2 (q+1) kd (by simpa using hq);rwa [Cr,Cr] at this) hk
  have d1:=g1 0 k rfl;have d2:=g2 0 k rfl;simp only [K9] at d1 d2;cases k with
  |slice e=>simp [H8] at hs
  |int k=>
   simp only [DH] at h;obtain ⟨e1,e2⟩:=Am h;rw [rc hs e2];cases d1 with
   |int _ n1 _ _ q1=>
    cases d2 with
    |int _ n2 _ _ q2=>
     have:a.toInt=b.toInt:=by simpa using e1
     rw [q1,q2] at this;rw [this]
  |bool=>
   simp only [DH] at h;obtain ⟨e1,e2⟩:=Am h;rw [rc hs e2];cases d1 with
   |bool n1 _ q1=>
    cases d2 with
    |bool n2 _ q2=>
     have:a.toBool=b.toBool:=by simpa using e1
     rw [q1,q2] at this;rw [this]
  |str=>
   simp only [DH] at h;obtain ⟨e1,e2⟩:=Am h;rw [rc hs e2];cases d1 with
   |str n1 _ q1=>
    cases d2 with
    |str n2 _ q2=>
     have:a.toStr.toList=b.toStr.toList:=by
      have e1':strEq a.toStr.data.toList.length (As a.toStr.data.toList) b.toStr.data.toList.length (As b.toStr.data.toList)=true:=e1;rw [Ck] at e1';simpa using e1'
     have h2:a.toStr=b.toStr:=by
      rw [ByteArray.toList_eq,ByteArray.toList_eq] at this;exact ByteArray.ext (Array.toList_inj.1 this)
     rw [q1,q2] at h2;rw [h2]
theorem Xf {E:Env} (hE:OK E) {ρ:Ren} {w:World} {kt:TypeId} {ks:List Kd} (ht:FK E kt ks=true) {v1 v2:Value} {c1 c2:List D} {K:TypeId→Option (List Kd)} {M:Nat→Option (Array Value)} (h1:KV K M ks v1 c1) (h2:KV K M ks v2 c2)
  (n1:ks.length≤c1.length) (n2:ks.length≤c2.length) (hd1:∀q,q<ks.length→U.V.d (0+q)=c1.getD q default) (hd2:∀q,q<ks.length→U.V.d (ks.length+q)=c2.getD q default) :
  (Op.equal kt v2 v1).run E.P w=.ok (DH ks c1 c2) w∧(∀ds,E.desc kt=some ds→Instr.sameNow ds v2 v1=some (DH ks c1 c2)∨∀u v,Instr.sameNow ds u v=none)∧(DH ks c1 c2=true→v1=v2):=by
 unfold FK at ht;split at ht
 ·rename_i e he;obtain ⟨s1,s2⟩:=Am ht
  have hev:Ai U.V e=DH ks c1 c2:=by
   rw [Tc,Kx s2];exact NZ U.V ks ks.length 0 c1 c2 s1 n1 n2 hd1 hd2
  obtain ⟨l1,a1,a2,a3,a4⟩:=h1;obtain ⟨l2,b1,b2,b3,b4⟩:=h2;have lt:∀{q:Nat} {kd:Kd},ks[q]?=some kd→q<ks.length:=fun h=>(List.getElem?_eq_some_iff.1 h).1
  have r1:VR ρ (K5 (KZ 0 ks)) v1:=by
   rw [a1];exact MP (Kg (K:=K) (M:=M) ks 0 l1 a2 fun q kd hq=>by rw [hd1 q (lt hq)];exact a4 q kd hq)
  have r2:VR ρ (K5 (KZ ks.length ks)) v2:=by
   rw [b1];exact MP (Kg (K:=K) (M:=M) ks ks.length l2 b2 fun q kd hq=>by rw [hd2 q (lt hq)];exact b4 q kd hq)
  refine ⟨?_,?_,?_⟩
  ·have:=Mz (w:=w) hE 10000 kt _ _ e v2 v1 he r2 r1;rw [hev] at this;exact this
  ·intro ds hd;exact Hv (d:=9999) hd he hev r2 r1
  ·intro hk;rw [a1,b1,QC ks l1 l2 c1 c2 s1 a2 b2 a4 b4 hk]
 ·cases ht
@[reducible] def gy (U:Unk) (n:Nat) (c1 c2:List D):Unk where
 facts:=[]
 V:={d:=fun i=>if i<n then c1.getD i default else c2.getD (i-n) default,fn:=U.V.fn}
 K:=U.K
 R:=U.R
 hR:=U.hR
 ok:=by intro e b h;cases h
theorem S5 {E:Env} (hE:OK E) {w:World} {kt:TypeId} {ks:List Kd} (ht:FK E kt ks=true) {v1 v2:Value} {c1 c2:List D} {K:TypeId→Option (List Kd)} {M:Nat→Option (Array Value)} (h1:KV K M ks v1 c1) (h2:KV K M ks v2 c2)
  (n1:ks.length≤c1.length) (n2:ks.length≤c2.length) :
  (Op.equal kt v2 v1).run E.P w=.ok (DH ks c1 c2) w∧(∀ds,E.desc kt=some ds→Instr.sameNow ds v2 v1=some (DH ks c1 c2)∨∀u v,Instr.sameNow ds u v=none)∧(DH ks c1 c2=true→v1=v2):=by
 refine @Xf _ (gy U ks.length c1 c2) E (@OK.mk _ (gy U ks.length c1 c2) E hE.ty hE.fn hE.num hE.clone hE.ixb hE.cnt hE.mixed hE.kd hE.ke hE.gl hE.ox) {m:=fun _=>none,imm:=fun _=>none} w kt ks ht v1 v2 c1 c2 K M h1 h2 n1 n2 ?_ ?_
 ·intro q hq;show (if 0+q<ks.length then c1.getD (0+q) default else _)=_
  rw [if_pos (by omega),Nat.zero_add]
 ·intro q hq;show (if ks.length+q<ks.length then _ else c2.getD (ks.length+q-ks.length) default)=_
  rw [if_neg (by omega),Nat.add_sub_cancel_left]
def IS (ks:List Kd) (k:List D):List MapEntry→List D→Nat→Option (Nat×Value)
 |e::es,r::rs,i=>match DH ks r.cells k with
  |true=>some (i,e.val)
  |false=>IS ks k es rs (i+1)
 |_,_,_=>none
section
variable {E:Env} (hE:OK E) {w:World} {kt:TypeId} {ks vks:List Kd} (ht:FK E kt ks=true) {K:TypeId→Option (List Kd)} {M:Nat→Option (Array Value)} {kv:Value} {k:List D} (hk:KV K M ks kv k) (hkl:ks.length≤k.length)
include hE ht hk hkl w
theorem IB:∀{es:List MapEntry} {rs:List D} {i:Nat},AU K M ks vks es rs→(Instr.findAsking kt kv es i).run E.P w=.ok (IS ks k es rs i) w
 |[],[],i,_=>by simp [Instr.findAsking,IS]
 |e::es,r::rs,i,⟨h1,h2,h3,h4⟩=>by
  obtain ⟨q,_,_⟩:=S5 (w:=w) hE ht h2 hk (by omega) hkl
  have rc:=IB (i:=i+1) h4;simp only [Instr.findAsking,IS,Sem.run_bind,q,Result.andThen_ok];cases DH ks r.cells k with
  |true=>simp
  |false=>simpa using rc
 |[],_::_,_,h=>h.elim
 |_::_,[],_,h=>h.elim
theorem IJ {ds:TypeDesc} (hd:E.desc kt=some ds) (hq:¬∀u v,Instr.sameNow ds u v=none):∀{es:List MapEntry} {rs:List D} {i:Nat},AU K M ks vks es rs→Instr.findNow ds kv es i=some (IS ks k es rs i)
 |[],[],i,_=>rfl
 |e::es,r::rs,i,⟨h1,h2,h3,h4⟩=>by
  obtain ⟨_,q,_⟩:=S5 (w:=w) hE ht h2 hk (by omega) hkl
  have s:=(q ds hd).resolve_right hq;have rc:=IJ hd hq (i:=i+1) h4;simp only [Instr.findNow,IS,s];cases DH ks r.cells k with
  |true=>rfl
  |false=>exact rc
 |[],_::_,_,h=>h.elim
 |_::_,[],_,h=>h.elim
theorem DX {ds:TypeDesc} (hd:E.desc kt=some ds) {es:List MapEntry} {rs:List D} (h:AU K M ks vks es rs):(Instr.findKey kt kv es).run E.P w=.ok (IS ks k es rs 0) w:=by
 by_cases hq:∀u v,Instr.sameNow ds u v=none
 ·cases es with
  |nil=>cases rs with
   |nil=>simp [Instr.findKey,hE.run_und hd,Instr.findNow,IS]
   |cons _ _=>exact h.elim
  |cons e es=>simp [Instr.findKey,hE.run_und hd,Instr.findNow,hq,IB (w:=w) hE ht hk hkl h]
 ·simp [Instr.findKey,hE.run_und hd,IJ (w:=w) hE ht hk hkl hd hq h]
end
omit U in
theorem Ei {ks vks:List Kd} {K:TypeId→Option (List Kd)} {M:Nat→Option (Array Value)} {k:List D}:∀{es:List MapEntry} {rs:List D} (i:Nat),AU K M ks vks es rs→
  (IS ks k es rs i=none∧F2 ks k rs i = -1)∨∃n e r,IS ks k es rs i=some (i+n,e.val)∧F2 ks k rs i=((i+n:Nat):Int)∧es[n]?=some e∧rs[n]?=some r∧DH ks r.cells k=true
 |[],[],i,_=>.inl ⟨rfl,rfl⟩
 |e::es,r::rs,i,⟨h1,h2,h3,h4⟩=>by
  simp only [IS,F2];cases hk:DH ks r.cells k with
  |true=>exact .inr ⟨0,e,r,by simp,by simp,rfl,rfl,hk⟩
  |false=>
   rcases Ei (k:=k) (i+1) h4 with ⟨a,b⟩|⟨n,e',r',a,b,c,d,f⟩
   ·exact .inl ⟨a,b⟩
   ·exact .inr ⟨n+1,e',r',by show IS ks k es rs (i+1)=_;rw [a,show i+1+n=i+(n+1) by omega],by show F2 ks k rs (i+1)=_;rw [b,show i+1+n=i+(n+1) by omega],by simpa using c,by simpa using d,f⟩
 |[],_::_,_,h=>h.elim
 |_::_,[],_,h=>h.elim
omit U in
theorem AU.get {ks vks:List Kd} {K:TypeId→Option (List Kd)} {M:Nat→Option (Array Value)}:∀{es:List MapEntry} {rs:List D} {n:Nat} {e:MapEntry} {r:D},AU K M ks vks es rs→es[n]?=some e→rs[n]?=some r→
  r.cells.length=ks.length+vks.length∧KV K M ks e.key r.cells∧KV K M vks e.val (r.cells.drop ks.length)
 |e::es,r::rs,0,e',r',⟨h1,h2,h3,h4⟩,g1,g2=>by
  simp only [List.getElem?_cons_zero,Option.some.injEq] at g1 g2;subst g1;subst g2;exact ⟨h1,h2,h3⟩
 |e::es,r::rs,n+1,e',r',⟨h1,h2,h3,h4⟩,g1,g2=>h4.get (by simpa using g1) (by simpa using g2)
 |[],[],n,_,_,_,g1,_=>by simp at g1
 |[],_::_,_,_,_,h,_,_=>h.elim
 |_::_,[],_,_,_,h,_,_=>h.elim
omit U in
theorem AU.push {ks vks:List Kd} {K:TypeId→Option (List Kd)} {M:Nat→Option (Array Value)} {x:MapEntry} {y:D} (h1:y.cells.length=ks.length+vks.length) (h2:KV K M ks x.key y.cells) (h3:KV K M vks x.val (y.cells.drop ks.length)):∀{es:List MapEntry} {rs:List D},AU K M ks vks es rs→AU K M ks vks (es++[x]) (rs++[y])
 |[],[],_=>⟨h1,h2,h3,trivial⟩
 |e::es,r::rs,⟨g1,g2,g3,g4⟩=>⟨g1,g2,g3,AU.push h1 h2 h3 g4⟩
 |[],_::_,h=>h.elim
 |_::_,[],h=>h.elim
omit U in
theorem AU.erase {ks vks:List Kd} {K:TypeId→Option (List Kd)} {M:Nat→Option (Array Value)}:∀{es:List MapEntry} {rs:List D} (n:Nat),AU K M ks vks es rs→AU K M ks vks (es.eraseIdx n) (rs.eraseIdx n)
 |[],[],_,_=>by simp [AU]
 |e::es,r::rs,0,⟨g1,g2,g3,g4⟩=>g4
 |e::es,r::rs,n+1,⟨g1,g2,g3,g4⟩=>⟨g1,g2,g3,g4.erase n⟩
 |[],_::_,_,h=>h.elim
 |_::_,[],_,h=>h.elim
omit U in
theorem AU.change {ks vks:List Kd} {K:TypeId→Option (List Kd)} {M:Nat→Option (Array Value)} {x:MapEntry} {y:D} (h1:y.cells.length=ks.length+vks.length) (h2:KV K M ks x.key y.cells) (h3:KV K M vks x.val (y.cells.drop ks.length)):∀{es es':List MapEntry} {rs rs':List D} (n:Nat),AU K M ks vks es rs→es'.length=es.length→rs'.length=rs.length→
  (∀q,q≠n→es'[q]?=es[q]?)→(∀q,q≠n→rs'[q]?=rs[q]?)→(n<es.length→es'[n]?=some x)→(n<rs.length→rs'[n]?=some y)→AU K M ks vks es' rs'
 |[],[],[],[],n,_,_,_,_,_,_,_=>trivial
 |e::es,e'::es',r::rs,r'::rs',0,⟨g1,g2,g3,g4⟩,l1,l2,a1,a2,a3,a4=>by
  have b1:=a3 (by simp)
  have b2:=a4 (by simp)
  simp only [List.getElem?_cons_zero,Option.some.injEq] at b1 b2;subst b1;subst b2;have c1:es'=es:=List.ext_getElem? fun q=>by have:=a1 (q+1) (by omega);simpa using this
  have c2:rs'=rs:=List.ext_getElem? fun q=>by have:=a2 (q+1) (by omega);simpa using this
  rw [c1,c2];exact ⟨h1,h2,h3,g4⟩
 |e::es,e'::es',r::rs,r'::rs',n+1,⟨g1,g2,g3,g4⟩,l1,l2,a1,a2,a3,a4=>by
  have b1:=a1 0 (by omega)
  have b2:=a2 0 (by omega)
  simp only [List.getElem?_cons_zero,Option.some.injEq] at b1 b2;subst b1;subst b2
  exact ⟨g1,g2,g3,AU.change h1 h2 h3 n g4 (by simpa using l1) (by simpa using l2) (fun q hq=>by have:=a1 (q+1) (by omega);simpa using this) (fun q hq=>by have:=a2 (q+1) (by omega);simpa using this)
   (fun hn=>by have:=a3 (by simp;omega);simpa using this) (fun hn=>by have:=a4 (by simp;omega);simpa using this)⟩
 |[],_::_,_,_,_,_,l1,_,_,_,_,_=>by simp at l1
 |_::_,[],_,_,_,_,l1,_,_,_,_,_=>by simp at l1
 |[],[],_::_,_,_,h,_,_,_,_,_,_=>h.elim
 |[],[],[],_::_,_,_,_,l2,_,_,_,_=>by simp at l2
 |_::_,_::_,[],_,_,h,_,_,_,_,_,_=>h.elim
 |_::_,_::_,_::_,[],_,_,_,l2,_,_,_,_=>by simp at l2
end
end Go.AE
namespace Go.AE
variable [Gl:Au]
variable [U:Unk]
theorem FI {α:Type} {l:List α} {n j:Nat} {d:α}:(l.drop n).getD j d=l.getD (n+j) d:=by
 rw [List.getD_eq_getElem?_getD,List.getD_eq_getElem?_getD,List.getElem?_drop]
theorem Ie {α:Type} {l:List α} {n q:Nat} {f:α→α} (h:q≠n):(l.modify n f)[q]?=l[q]?:=by
 rw [List.getElem?_modify];cases l[q]?<;>simp [Ne.symm h]
theorem Du {ρ:Ren} {ks:List Kd} {a:AV} {v:Value} (h:Ga ks a=true) (hv:VR ρ a v) (hl:v.cells.toList.length=ks.length) :
  v=PZ v.cells.toList∧∀u,v.cells.toList=[u]→∀x,u≠.agg x:=by
 have key:∀(l':List Value),l'.length≠1→PZ l'=.agg l'.toArray:=by
  intro l' hl';rcases l' with _|⟨x,_|⟨y,l'⟩⟩
  ·rfl
  ·exact absurd rfl hl'
  ·rfl
 rcases ks with _|⟨k,_|⟨k2,ks⟩⟩
 ·cases hv<;>simp only [Ga,Bool.false_eq_true] at h
  rename_i l l' h1 h2;have hl0:l'.length=0:=hl;exact ⟨(key l' (by omega)).symm,fun u hu=>by have:l'=[u]:=hu;rw [this] at hl0;simp at hl0⟩
 ·cases hv<;>simp only [Ga,Bool.false_eq_true] at h<;>exact ⟨rfl,fun u hu x hx=>by
   subst hx;simp only [Value.cells] at hu;cases hu⟩
 ·cases hv<;>simp only [Ga,Bool.false_eq_true] at h
  rename_i l l' h1 h2;have hl0:l'.length=ks.length+2:=hl;exact ⟨(key l' (by omega)).symm,fun u hu=>by have:l'=[u]:=hu;rw [this] at hl0;simp at hl0⟩
theorem CS {ks:List Kd} {a:AV} (h:Ga ks a=true):a≠.top:=by
 rintro rfl
 rcases ks with _|⟨k,_|⟨k2,ks⟩⟩<;>simp [Ga] at h
theorem I1 {ρ:Ren} {kks:List Kd} {k:AV} {kr:SE} {kv:Value} (h:Ow kks k=some kr) (hk:VR ρ k kv):(Af U.V kr).cells.length=kks.length∧KV U.K ρ.imm kks kv (Af U.V kr).cells:=by
 unfold Ow at h;split at h
 ·rename_i ha;obtain ⟨r1,r2,r3⟩:=Ee _ _ _ _ h (hk.cells (CS ha));obtain ⟨w1,w2⟩:=Du ha hk r2;exact ⟨r1,_,w1,r2,w2,r3⟩
 ·cases h
theorem Mo {ρ:Ren} {kks vks:List Kd} {k v:AV} {r:SE} {kv vv:Value} (h:RD kks vks k v=some r) (hk:VR ρ k kv) (hv:VR ρ v vv) :
  (Af U.V r).cells.length=kks.length+vks.length∧KV U.K ρ.imm kks kv (Af U.V r).cells∧KV U.K ρ.imm vks vv ((Af U.V r).cells.drop kks.length):=by
 unfold RD at h;split at h
 ·rename_i hc;obtain ⟨hc,c3⟩:=Am hc;obtain ⟨c1,c2⟩:=Am hc;have c3:=Aq c3;have k1:=hk.cells (CS c1);have v1:=hv.cells (CS c2);obtain ⟨r1,r2,r3⟩:=Ee _ _ _ _ h (k1.append v1);have kl:kv.cells.toList.length=kks.length:=by have:=k1.1;omega
  have vl:vv.cells.toList.length=vks.length:=by simp only [List.length_append] at r2;omega
  obtain ⟨w1,w2⟩:=Du c1 hk kl;obtain ⟨w3,w4⟩:=Du c2 hv vl;refine ⟨by rw [r1];simp,⟨_,w1,kl,w2,fun j kd hj=>?_⟩,⟨_,w3,vl,w4,fun j kd hj=>?_⟩⟩
  ·have hlt:=(List.getElem?_eq_some_iff.1 hj).1;have:=r3 j kd (by rw [List.getElem?_append_left hlt];exact hj)
   rwa [List.getD_eq_getElem?_getD,List.getElem?_append_left (by omega),←List.getD_eq_getElem?_getD] at this
  ·have hlt:=(List.getElem?_eq_some_iff.1 hj).1;have:=r3 (kks.length+j) kd (by rw [List.getElem?_append_right (by omega),Nat.add_sub_cancel_left];exact hj)
   rw [List.getD_eq_getElem?_getD,List.getElem?_append_right (by omega),kl,Nat.add_sub_cancel_left,←List.getD_eq_getElem?_getD] at this
   rw [FI];exact this
 ·cases h
theorem HM {a r:SE}:(Af U.V (.snoc a r)).rows=(Af U.V a).rows++[Af U.V r]:=rfl
theorem Kr {ρ:Ren} {kks vks:List Kd}:∀{es:List Ak} {es':List MapEntry} {y z:SE} {es0:List MapEntry},KB kks vks y es=some z→ER ρ es es'→AU U.K ρ.imm kks vks es0 (Af U.V y).rows→AU U.K ρ.imm kks vks (es0++es') (Af U.V z).rows
 |[],[],y,z,es0,h,_,hm=>by
  simp only [KB,Option.some.injEq] at h;subst h;simpa using hm
 |e::es,e'::es',y,z,es0,h,⟨h1,h2,h3,h4⟩,hm=>by
  simp only [KB] at h;split at h
  ·rename_i x hx;obtain ⟨q1,q2,q3⟩:=Mo hx h1 h2;have:=Kr (es0:=es0++[e']) h h4 (by rw [HM];exact AU.push q1 q2 q3 hm)
   simpa using this
  ·cases h
 |[],_::_,_,_,_,_,h,_=>h.elim
 |_::_,[],_,_,_,_,h,_=>h.elim
theorem L9 {ρ:Ren} {kt vt:TypeId} {kks vks:List Kd} {b:Option Ac} {x:SE} {base:Bf} {o:Option Obj} (h:RL kt vt kks vks b=some x) (hb:∀y,b=some y→BR ρ y base o) (hk:U.K kt=some kks) (hv:U.K vt=some vks) :
  ∃es':List MapEntry,∃clock,o=some (.map es'.toArray clock)∧AU U.K ρ.imm kks vks es' (Af U.V x).rows∧Inc es' clock:=by
 unfold RL at h;split at h
 ·rename_i kt' vt' x';split at h
  ·rename_i hc;cases h;obtain ⟨c1,c2⟩:=Am hc;have c1:=Aq c1;have c2:=Aq c2;subst c1;subst c2;obtain ⟨k1,v1,es',clock,e1,e2,e3,e4,e5⟩:=hb _ rfl;rw [hk] at e1;rw [hv] at e2;cases e1;cases e2;exact ⟨es',clock,e3,e4,e5⟩
  ·cases h
 ·rename_i es clock;split at h
  ·rename_i hinc;obtain ⟨es',e1,e2⟩:=hb _ rfl;have:=Kr (es0:=[]) h e2 trivial;exact ⟨es',clock,e1,by simpa using this,(Mj es es' 0 clock hinc e2).2⟩
  ·cases h
 ·cases h
theorem Kb {a i:SE} {j:Nat} {x:SE}:(Af U.V (.upd a i j x)).rows=(Af U.V a).rows.modify (Ag U.V i).toNat fun r=>.row (r.cells.set j (Af U.V x)):=rfl
theorem EZ {ρ:Ren} {ks:List Kd} {i:SE}:∀(l:List AV) (vs:List Value) (j:Nat) (y y':SE) (r:D),Cw i ks y j l=some y'→VL ρ l vs→(Af U.V y).rows[(Ag U.V i).toNat]?=some r→j+l.length≤r.cells.length→
  (Af U.V y').rows.length=(Af U.V y).rows.length∧(∀q,q≠(Ag U.V i).toNat→(Af U.V y').rows[q]?=(Af U.V y).rows[q]?)∧
  ∃r',(Af U.V y').rows[(Ag U.V i).toNat]?=some r'∧r'.cells.length=r.cells.length∧(∀p,p<j∨j+l.length≤p→r'.cells.getD p default=r.cells.getD p default)∧
   ∀(q:Nat) kd,q<l.length→ks[j+q]?=some kd→DV U.K ρ.imm kd (vs.getD q Go.undef) (r'.cells.getD (j+q) default)
 |[],vs,j,y,y',r,h,hv,hr,hj=>by
  simp only [Cw,Option.some.injEq] at h;subst h;exact ⟨rfl,fun _ _=>rfl,r,hr,rfl,fun _ _=>rfl,fun q kd hq=>absurd hq (Nat.not_lt_zero q)⟩
 |a::l,vs,j,y,y',r,h,hv,hr,hj=>by
  obtain ⟨v,vr,rfl,h1,h2⟩:=hv.cons_inv;simp only [Cw] at h;split at h
  ·rename_i k hk;split at h
   ·rename_i x hx;have dv:=I6 h1 hx
    have hset:(Af U.V (.upd y i j x)).rows[(Ag U.V i).toNat]?=some (.row (r.cells.set j (Af U.V x))):=by
     rw [Kb,List.getElem?_modify_eq,hr];rfl
    simp only [List.length_cons] at hj;obtain ⟨a1,a2,r',a3,a4,a5,a6⟩:=EZ l vr (j+1) _ y' _ h h2 hset (by show j+1+l.length≤(r.cells.set j (Af U.V x)).length;simp;omega)
    have hcells:(D.row (r.cells.set j (Af U.V x))).cells=r.cells.set j (Af U.V x):=rfl;rw [hcells] at a4 a5;refine ⟨by rw [a1,Kb];simp,fun q hq=>by rw [a2 q hq,Kb,Ie hq],r',a3,by rw [a4];simp,fun p hp=>?_,fun q kd hq hkd=>?_⟩
    ·simp only [List.length_cons] at hp;rw [a5 p (by omega),List.getD_eq_getElem?_getD,List.getD_eq_getElem?_getD,List.getElem?_set_ne (by omega)]
    ·cases q with
     |zero=>
      rw [Nat.add_zero] at hkd ⊢;rw [hk] at hkd;cases hkd;rw [a5 j (by omega),K9,List.getD_eq_getElem?_getD,List.getElem?_set_self (by omega)]
      exact dv
     |succ q=>
      rw [Cr,show j+(q+1)=j+1+q by omega]
      exact a6 q kd (by simpa using hq) (by rw [←hkd];congr 1;omega)
   ·cases h
  ·cases h
theorem E3 {E:Env} (hE:OK E) {t kt vt:TypeId} {kks vks:List Kd} (h:IE E t=some (kt,vt,kks,vks)):E.desc t=some (.map kt vt)∧U.K kt=some kks∧U.K vt=some vks∧FK E kt kks=true:=by
 unfold IE at h;split at h
 ·rename_i kt' vt' hd;split at h
  ·rename_i a b h1 h2;split at h
   ·rename_i hk;cases h;exact ⟨hd,by rw [hE.kd,←hE.ke];exact h1,by rw [hE.kd,←hE.ke];exact h2,hk⟩
   ·cases h
  ·cases h
 ·cases h
theorem EG {E:Env} {kt:TypeId} {k:AV} (hkk:Bw E 20 kt k=true):∃ds,E.desc kt=some ds:=by
 simp only [Bw] at hkk;cases hq:E.desc kt with
 |none=>simp [hq] at hkk
 |some ds=>exact ⟨ds,rfl⟩
section
variable {E:Env} (hE:OK E) {ρ:Ren} {h:Aa} {w:World}
include hE
theorem Pv (hr:HR ρ h.blk.get w) {t:TypeId} {m k a:AV} {mv kv:Value} {ok:Bool} (hm:VR ρ m mv) (hk:VR ρ k kv) (ha:LY E t m k ok h=some a) :
  ∃v,(Instr.lookup t mv kv ok).run E.P w=.ok v w∧VR ρ a v:=by
 unfold LY at ha;split at ha
 ·rename_i kt vt kks vks r ht;obtain ⟨hd,hkk,hvk,htest⟩:=E3 hE ht;split at ha
  ·rename_i kt' vt' x hg;split at ha
   ·rename_i z kr hc hz hkr;obtain ⟨hc,c3⟩:=Am hc;obtain ⟨c1,c2⟩:=Am hc;have c1:=Aq c1;have c2:=Aq c2;subst c1;subst c2;obtain ⟨zv,z1,z2⟩:=hE.run_zero ρ hz w;have hzr:=Ay ρ z2;have hck:∀em,(Instr.checkKey em 10000 kt kv).run E.P w=.ok () w:=fun em=>Cy (w:=w) hE em 9980 20 kt k kv c3 hk
    obtain ⟨ds,hkd⟩:=EG c3;obtain ⟨kl,kkv⟩:=I1 hkr hk
    have fin:∀(v:AV) (b:Bool) (vv:Value),VR ρ v vv→VR ρ (KI ok v b) (if ok then .tuple #[vv,.bool b] else vv):=by
     intro v b vv hv;cases ok with
     |true=>
      have:=VL.cons hv (VL.cons (VR.bool (ρ:=ρ) b) (VL.nil ρ));exact .tuple _ [vv,.bool b] this.1 this.2
     |false=>exact hv
    cases hm with
    |map _ base hb=>
     obtain ⟨k1,v1,es',clock,e1,e2,e3,e4,_⟩:=hr.blk r base _ hb hg;rw [hkk] at e1;rw [hvk] at e2;cases e1;cases e2;have hget:(getObj base.cb).run E.P w=.ok (.map es'.toArray clock) w:=by simp [getObj,Sem.run,e3]
     have hfind:=DX (w:=w) hE htest kkv (by omega) hkd e4
     have spec:=Ei (k:=(Af U.V kr).cells) 0 e4;have hidx:Ag U.V (.mIdx kks x kr)=F2 kks (Af U.V kr).cells (Af U.V x).rows 0:=rfl;split at ha
     ·rename_i hdec;cases ha;have hlt:=An U.ok hdec;rw [Ap,decide_eq_true_eq] at hlt;have z0:Ag U.V (.c 0)=0:=rfl;rw [z0,hidx] at hlt;rcases spec with ⟨a1,a2⟩|⟨n,e,r',a1,a2,a3⟩
      ·rw [a1] at hfind;refine ⟨_,?_,fin z false zv hzr⟩;simp [Instr.lookup,hE.run_und hd,hget,hck,hfind,z1]
      ·omega
     ·rename_i hdec;split at ha
      ·rename_i l hcl;cases ha;have hlt:=An U.ok hdec;rw [Ap,decide_eq_false_iff_not] at hlt;have z0:Ag U.V (.c 0)=0:=rfl;rw [z0,hidx] at hlt;rcases spec with ⟨a1,a2⟩|⟨n,e,r',a1,a2,a3,a4,a5⟩
       ·omega
       ·rw [a1] at hfind;obtain ⟨q1,⟨lk,k1,k2,k3,k4⟩,⟨lv,v1,v2,v3,v4⟩⟩:=e4.get a3 a4;have hn:(Ag U.V (.mIdx kks x kr)).toNat=n:=by rw [hidx,a2];simp
        have hrow:(Af U.V x).rows.getD n default=r':=by rw [List.getD_eq_getElem?_getD,a4];rfl
        have hcell:∀j,Af U.V (.cell x (.mIdx kks x kr) j)=r'.cells.getD j default:=by
         intro j;show ((Af U.V x).rows.getD (Ag U.V (.mIdx kks x kr)).toNat default).cells.getD j default=_;rw [hn,hrow]
        have harr:∀p,((lk++lv).toArray).getD p Go.undef=(lk++lv).getD p Go.undef:=by intro p;simp [Array.getD_eq_getD_getElem?,List.getD_eq_getElem?_getD]
        have hv:∀j kd,(kks++vks)[j]?=some kd→DV U.K ρ.imm kd ((lk++lv).toArray.getD (0+j) Go.undef) (Af U.V (.cell x (.mIdx kks x kr) j)):=by
         intro j kd hj;rw [hcell,harr,Nat.zero_add,List.getD_eq_getElem?_getD];by_cases hjl:j<kks.length
         ·rw [List.getElem?_append_left hjl] at hj;rw [List.getElem?_append_left (by omega),←List.getD_eq_getElem?_getD]
          exact k4 j kd hj
         ·rw [List.getElem?_append_right (by omega)] at hj
          rw [List.getElem?_append_right (by omega),←List.getD_eq_getElem?_getD,k2]
          have:=v4 (j-kks.length) kd hj;rw [FI,show kks.length+(j-kks.length)=j by omega] at this
          exact this
        obtain ⟨p1,p2,p3⟩:=Gv hv vks.length kks.length l hcl
        have hvl:VL ρ l lv:=by
         refine ⟨by omega,fun q a v hqa hqv=>?_⟩
         have:=p3 q a hqa;rw [harr,Nat.zero_add,List.getD_eq_getElem?_getD,List.getElem?_append_right (by omega),k2,Nat.add_sub_cancel_left,hqv] at this
         exact this
        have hres:=MP hvl;rw [←v1] at hres;refine ⟨_,?_,fin _ true e.val hres⟩;simp [Instr.lookup,hE.run_und hd,hget,hck,hfind]
      ·cases ha
     ·cases ha
   ·cases ha
  ·cases ha
 ·cases ha
theorem OG (hr:HR ρ h.blk.get w) {t:TypeId} {m k v:AV} {mv kv vv:Value} {h':Aa} (hm:VR ρ m mv) (hk:VR ρ k kv) (hv:VR ρ v vv) (ha:Mp E t m k v h=some h') :
  ∃w',(Instr.mapUpdate t mv kv vv).run E.P w=.ok () w'∧HR ρ h'.blk.get w'∧Ext ρ ρ h h' w w':=by
 unfold Mp at ha;split at ha
 ·rename_i kt vt kks vks r ht;obtain ⟨hd,hkk,hvk,htest⟩:=E3 hE ht;split at ha
  ·rename_i x kr c3 hdm hkr;have hck:∀em,(Instr.checkKey em 10000 kt kv).run E.P w=.ok () w:=fun em=>Cy (w:=w) hE em 9980 20 kt k kv c3 hk
   obtain ⟨ds,hkd⟩:=EG c3;obtain ⟨kl,kkv⟩:=I1 hkr hk;cases hm with
   |map _ base hb=>
    have hlive:h.blk.get r≠none:=by
     intro e;rw [e] at hdm;cases hdm
    obtain ⟨es',clock,e3,e4,e5⟩:=L9 hdm (fun y hy=>hr.blk r base y hb hy) hkk hvk
    have hget:=Ao (w:=w) E.P e3 (by simp)
    have hfind:=DX (w:=w) hE htest kkv (by omega) hkd e4
    have spec:=Ei (k:=(Af U.V kr).cells) 0 e4;have hidx:Ag U.V (.mIdx kks x kr)=F2 kks (Af U.V kr).cells (Af U.V x).rows 0:=rfl;split at ha
    ·rename_i row hrow hdec;cases ha;have hlt:=An U.ok hdec;rw [Ap,decide_eq_true_eq] at hlt;have z0:Ag U.V (.c 0)=0:=rfl;rw [z0,hidx] at hlt;rcases spec with ⟨a1,a2⟩|⟨n,e,r',a1,a2,a3⟩
     ·rw [a1] at hfind;obtain ⟨q1,q2,q3⟩:=Mo hrow hk hv;obtain ⟨p1,p2⟩:=hr.setObj hb hlive (.dmap kt vt (.snoc x row)) (.map (es'.toArray.push {key:=kv,val:=vv,born:=clock}) (clock+1))
       ⟨kks,vks,es'++[{key:=kv,val:=vv,born:=clock}],clock+1,hkk,hvk,by simp,by rw [HM];exact AU.push q1 q2 q3 e4,e5.push kv vv⟩
      refine ⟨_,?_,p1,p2⟩;simp [Instr.mapUpdate,hE.run_und hd,hget,hck,hfind,At (w:=w) E.P e3 (by simp)]
     ·omega
    ·rename_i row hrow hdec;split at ha
     ·rename_i y hy;cases ha;have hlt:=An U.ok hdec;rw [Ap,decide_eq_false_iff_not] at hlt;have z0:Ag U.V (.c 0)=0:=rfl;rw [z0,hidx] at hlt;rcases spec with ⟨a1,a2⟩|⟨n,e,r',a1,a2,a3,a4,a5⟩
      ·omega
      ·rw [a1] at hfind;have hn:(Ag U.V (.mIdx kks x kr)).toNat=n:=by rw [hidx,a2];simp
       obtain ⟨q1,q2,q3⟩:=e4.get a3 a4;obtain ⟨_,_,hkeq⟩:=S5 (w:=w) hE htest q2 kkv (by omega) (by omega)
       have hke:e.key=kv:=hkeq a5;unfold RD at hrow;split at hrow
       ·rename_i hc;obtain ⟨hc,c6⟩:=Am hc;obtain ⟨c4,c5⟩:=Am hc;have vcs:=hv.cells (CS c5);have hrl:=Ee _ _ _ _ hrow ((hk.cells (CS c4)).append vcs);have c6:=Aq c6;have kcl:=(hk.cells (CS c4)).1;have vl:vv.cells.toList.length=vks.length:=by have:=hrl.2.1;simp only [List.length_append] at this;omega
        have vl2:v.cells.length=vks.length:=by have:=vcs.1;omega
        obtain ⟨u1,u2,r2,u3,u4,u5,u6⟩:=EZ _ _ _ _ _ r' hy vcs (by rw [hn];exact a4) (by omega)
        rw [hn] at u2 u3;obtain ⟨w3,w4⟩:=Du c5 hv vl;obtain ⟨nk,w1,s1,s2,s3,s4,s5,s6⟩:=Da (w:=w) E.P e.key kv;have hnk:nk=e.key:=by rcases s2 with rfl|rfl;exact hke.symm;rfl
        subst hnk;have hr1:HR ρ h.blk.get w1:=hr.same s3
        have kv2:KV U.K ρ.imm kks e.key r2.cells:=by
         obtain ⟨lk,k1,k2,k3,k4⟩:=q2;refine ⟨lk,k1,k2,k3,fun j kd hj=>?_⟩
         have hlt:=(List.getElem?_eq_some_iff.1 hj).1;rw [u5 j (.inl hlt)];exact k4 j kd hj
        have vv2:KV U.K ρ.imm vks vv (r2.cells.drop kks.length):=by
         refine ⟨_,w3,vl,w4,fun j kd hj=>?_⟩
         have hlt:=(List.getElem?_eq_some_iff.1 hj).1;rw [FI];exact u6 j kd (by omega) (by rw [List.getElem?_append_right (by omega),Nat.add_sub_cancel_left];exact hj)
        have hnl:n<es'.length:=(List.getElem?_eq_some_iff.1 a3).1
        have hmap:AU U.K ρ.imm kks vks (es'.modify n fun e0=>{e0 with key:=e.key,val:=vv}) (Af U.V y).rows:=by
         refine AU.change (x:={key:=e.key,val:=vv,born:=e.born}) (y:=r2) (by rw [u4];exact q1) kv2 vv2 n e4 (by simp) u1 (fun q hq=>Ie hq) (fun q hq=>u2 q hq) (fun _=>by rw [List.getElem?_modify_eq,a3];rfl) (fun _=>u3)
        obtain ⟨p1,p2⟩:=hr1.setObj hb hlive (.dmap kt vt y) (.map (es'.toArray.modify n fun e0=>{e0 with key:=e.key,val:=vv}) clock)
         ⟨kks,vks,_,clock,hkk,hvk,by simp [List.modify_toArray],hmap,e5.modify (f:=fun e0=>{e0 with key:=e.key,val:=vv}) (fun _=>rfl) n⟩
        refine ⟨_,?_,p1,p2.drawn s3 s4 s5 s6⟩;have e1':w1.heap[base.cb]?=some (.map es'.toArray clock):=by rw [s3];exact e3
        simp only [Nat.zero_add] at hfind;simp only [Instr.mapUpdate,Sem.run_bind,hE.run_und hd,Result.andThen_ok,hget,hck,hfind,List.getElem?_toArray,a3,Option.map_some,Option.getD_some,s1];rw [At (w:=w1) E.P e1' (by simp)]
       ·cases hrow
     ·cases ha
    ·cases ha
  ·cases ha
 ·cases ha
theorem Ox (hr:HR ρ h.blk.get w) {t:TypeId} {m k v:AV} {mv kv vv:Value} {h':Aa} (hm:VR ρ m mv) (hk:VR ρ k kv) (hv:VR ρ v vv) (ha:L4 E t m k v h=some h') :
  ∃w',(Instr.mapUpdate t mv kv vv).run E.P w=.ok () w'∧HR ρ h'.blk.get w'∧Ext ρ ρ h h' w w':=by
 unfold L4 at ha;split at ha
 ·split at ha
  ·rename_i q;cases ha;exact OG hE hr hm hk hv q
  ·exact GE hE hr hm hk hv ha
 ·exact GE hE hr hm hk hv ha
theorem QL (hr:HR ρ h.blk.get w) {t:TypeId} {m k a:AV} {mv kv:Value} {h':Aa} (hm:VR ρ m mv) (hk:VR ρ k kv) (ha:PP E t m k h=some (a,h')) (hf:Ax ρ h.nx h'.nx) :
  AB E ρ h h' w (Instr.mapEntry t mv kv) a:=by
 unfold PP at ha;split at ha
 ·rename_i kt vt kks vks r ht;obtain ⟨hd,hkk,hvk,htest⟩:=E3 hE ht;split at ha
  ·rename_i x kr z c3 hdm hkr hz;have hck:∀em,(Instr.checkKey em 10000 kt kv).run E.P w=.ok () w:=fun em=>Cy (w:=w) hE em 9980 20 kt k kv c3 hk
   obtain ⟨ds,hkd⟩:=EG c3;obtain ⟨kl,kkv⟩:=I1 hkr hk;obtain ⟨zv,z1,z2⟩:=hE.run_zero ρ hz w;have hzr:=Ay ρ z2;cases hm with
   |map _ base hb=>
    have hlive:h.blk.get r≠none:=by
     intro e;rw [e] at hdm;cases hdm
    obtain ⟨es',clock,e3,e4,e5⟩:=L9 hdm (fun y hy=>hr.blk r base y hb hy) hkk hvk
    have hget:=Ao (w:=w) E.P e3 (by simp)
    have hfind:=DX (w:=w) hE htest kkv (by omega) hkd e4
    have spec:=Ei (k:=(Af U.V kr).cells) 0 e4;have hidx:Ag U.V (.mIdx kks x kr)=F2 kks (Af U.V kr).cells (Af U.V x).rows 0:=rfl;split at ha
    ·rename_i row hrow hdec;simp only [Option.some.injEq,Prod.mk.injEq] at ha;obtain ⟨rfl,rfl⟩:=ha;have hlt:=An U.ok hdec;rw [Ap,decide_eq_true_eq] at hlt;have z0:Ag U.V (.c 0)=0:=rfl;rw [z0,hidx] at hlt;rcases spec with ⟨a1,a2⟩|⟨n,e,r',a1,a2,a3⟩
     ·rw [a1] at hfind;obtain ⟨q1,q2,q3⟩:=Mo hrow hk hzr;have hmap:AU U.K ρ.imm kks vks (es'++[{key:=kv,val:=zv,born:=clock}]) (Af U.V (.snoc x row)).rows:=by rw [HM];exact AU.push q1 q2 q3 e4
      have hinc:=e5.push kv zv;obtain ⟨p1,p2⟩:=hr.setObj hb hlive (.dmap kt vt (.snoc x row)) (.map (es'.toArray.push {key:=kv,val:=zv,born:=clock}) (clock+1))
       ⟨kks,vks,es'++[{key:=kv,val:=zv,born:=clock}],clock+1,hkk,hvk,by simp,hmap,hinc⟩
      have hfree:ρ h.nx=none:=hf h.nx (Nat.le_refl _) (by simp [Aa.put,Aa.stampN])
      have hrn:r≠h.nx:=by rintro rfl;rw [hfree] at hb;cases hb
      have hl1:(h.put r (.dmap kt vt (.snoc x row))).blk.get r≠none:=by simp [Aa.put,T.get_set]
      obtain ⟨s1,s2⟩:=p1.stamp (h:=h.put r (.dmap kt vt (.snoc x row))) hfree hb hl1 clock;have hb2:(ρ.upd h.nx ⟨base.cb,clock,base.csz⟩) r=some base:=by simp [Ren.upd,hrn,hb]
      have hl2:(h.put r (.dmap kt vt (.snoc x row))).stampN.blk.get r≠none:=by
       show ((h.put r (.dmap kt vt (.snoc x row))).blk.del h.nx).get r≠none;rw [T.get_del,if_neg (fun e=>hrn e.symm)]
       exact hl1
      have hle:=Ren.le_upd hfree ⟨base.cb,clock,base.csz⟩;have hlen:=e4.length
      obtain ⟨t1,t2⟩:=HR.put (h:=(h.put r (.dmap kt vt (.snoc x row))).stampN) s1 hb2 hl2 (.dmapS kt vt (.snoc x row) (.lenL x) h.nx) _ (by
       have hlt:=hr.lt r base hb;show BR _ _ _ (w.heap.setIfInBounds base.cb _)[base.cb]?;rw [Array.getElem?_setIfInBounds_self_of_lt hlt];refine ⟨kks,vks,es'++[(⟨kv,zv,clock⟩:MapEntry)],clock+1,hkk,hvk,by simp,hmap.mono hle.imm,hinc,⟨base.cb,clock,base.csz⟩,Ren.upd_same _ _ _,?_⟩
       rw [Aj,Int.toNat_natCast,←hlen];simp) rfl (fun _ _=>rfl) rfl rfl rfl
      have pair:VR (ρ.upd h.nx ⟨base.cb,clock,base.csz⟩) (.tuple [z,.stamp h.nx]) (.tuple #[zv,goInt clock]):=by
       have:=VL.cons (hzr.mono hle) (VL.cons (VR.stamp (ρ:=ρ.upd h.nx ⟨base.cb,clock,base.csz⟩) h.nx ⟨base.cb,clock,base.csz⟩ (Ren.upd_same _ _ _)) (VL.nil _));exact .tuple _ [zv,goInt clock] this.1 this.2
      refine ⟨_,_,_,?_,pair,t1,(p2.trans s2 (fun b b1 b2=>hf b b1 (by simp only [Aa.put,Aa.stampN] at b2 ⊢;omega))).trans t2 (fun b b1 b2=>hf b b1 (by simp only [Aa.put,Aa.stampN] at b2 ⊢;omega))⟩
      simp [Instr.mapEntry,hE.run_und hd,hget,hck,hfind,z1,At (w:=w) E.P e3 (by simp)]
     ·omega
    ·cases ha
  ·cases ha
 ·cases ha
theorem Q2 (hr:HR ρ h.blk.get w) {t:TypeId} {m k a:AV} {mv kv:Value} {h':Aa} (hm:VR ρ m mv) (hk:VR ρ k kv) (ha:Ot E t m k h=some (a,h')) (hf:Ax ρ h.nx h'.nx) :
  AB E ρ h h' w (Instr.mapEntry t mv kv) a:=by
 unfold Ot at ha;split at ha
 ·split at ha
  ·rename_i r hq;cases ha;exact QL hE hr hm hk hq hf
  ·exact Lk hE hr hm hk ha
 ·exact Lk hE hr hm hk ha
omit hE in
theorem N9 {es:List MapEntry} {n s:Nat} (hp:(es.map (·.born)).Pairwise (· < ·)) (hn:(es[n]?).map (·.born)=some s):es.toArray.findIdx? (fun e=>(e.born:Int)==(s:Int))=some n:=by
 obtain ⟨e,he,hs⟩:=Option.map_eq_some_iff.1 hn;have hlt:=(List.getElem?_eq_some_iff.1 he).1;have hge:=(List.getElem?_eq_some_iff.1 he).2;rw [List.findIdx?_toArray,List.findIdx?_eq_some_iff_getElem];refine ⟨hlt,by rw [hge,hs];simp,fun j hj=>?_⟩
 have hj':j<es.length:=by omega
 have:=List.pairwise_iff_getElem.1 hp j n (by simpa using hj') (by simpa using hlt) hj
 simp only [List.getElem_map,hge,hs] at this;simp only [beq_iff_eq,Bool.not_eq_true,beq_eq_false_iff_ne,ne_eq];omega
theorem Ka (hr:HR ρ h.blk.get w) {t:TypeId} {m v:AV} {b:Nat} {mv sv vv:Value} {h':Aa} (hm:VR ρ m mv) (hs:VR ρ (.stamp b) sv) (hv:VR ρ v vv) (ha:Fb E t m b v h=some h') :
  ∃w',(Instr.entryStore t mv sv vv).run E.P w=.ok () w'∧HR ρ h'.blk.get w'∧Ext ρ ρ h h' w w':=by
 unfold Fb at ha;split at ha
 ·rename_i kt vt kks vks r ht;obtain ⟨hd,hkk,hvk,htest⟩:=E3 hE ht;split at ha
  ·rename_i kt' vt' x ne b' hg;split at ha
   ·rename_i y hc hy;cases ha;obtain ⟨hc,c5⟩:=Am hc;obtain ⟨hc,c4⟩:=Am hc;obtain ⟨hc,c3⟩:=Am hc;obtain ⟨c1,c2⟩:=Am hc;have c1:=Aq c1;have c2:=Aq c2;have c3:=Aq c3;have c5:=Aq c5;subst c1;subst c2;subst c3;cases hm with
    |map _ base hb=>
     obtain ⟨k1,v1,es',clock,e1,e2,e3,e4,e5,bs,e6,e7⟩:=hr.blk r base _ hb hg;rw [hkk] at e1;rw [hvk] at e2;cases e1;cases e2;cases hs with
     |stamp _ bs2 hbs=>
      rw [e6] at hbs;cases hbs;have hget:=Ao (w:=w) E.P e3 (by simp)
      generalize hn:(Ag U.V ne).toNat=n at e7;obtain ⟨e,he,hborn⟩:=Option.map_eq_some_iff.1 e7;have hfi:=N9 e5.1 e7;have hnl:=(List.getElem?_eq_some_iff.1 he).1;have hlen:=e4.length;have hr0:∃r',(Af U.V x).rows[n]?=some r':=⟨_,List.getElem?_eq_getElem (by omega)⟩
      obtain ⟨r',hr'⟩:=hr0;obtain ⟨q1,q2,q3⟩:=e4.get he hr';have vcs:=hv.cells (CS c4);have vl:vv.cells.toList.length=vks.length:=by rw [←vcs.1];exact c5
      obtain ⟨u1,u2,r2,u3,u4,u5,u6⟩:=EZ _ _ _ _ _ r' hy vcs (by rw [hn];exact hr') (by omega)
      rw [hn] at u2 u3;obtain ⟨w3,w4⟩:=Du c4 hv vl
      have kv2:KV U.K ρ.imm kks e.key r2.cells:=by
       obtain ⟨lk,k1,k2,k3,k4⟩:=q2;refine ⟨lk,k1,k2,k3,fun j kd hj=>?_⟩
       have hlt:=(List.getElem?_eq_some_iff.1 hj).1;rw [u5 j (.inl hlt)];exact k4 j kd hj
      have vv2:KV U.K ρ.imm vks vv (r2.cells.drop kks.length):=by
       refine ⟨_,w3,vl,w4,fun j kd hj=>?_⟩
       have hlt:=(List.getElem?_eq_some_iff.1 hj).1;rw [FI];exact u6 j kd (by omega) (by rw [List.getElem?_append_right (by omega),Nat.add_sub_cancel_left];exact hj)
      have hmap:AU U.K ρ.imm kks vks (es'.modify n fun e0=>{e0 with val:=vv}) (Af U.V y).rows:=by
       refine AU.change (x:={key:=e.key,val:=vv,born:=e.born}) (y:=r2) (by rw [u4];exact q1) kv2 vv2 n e4 (by simp) u1 (fun q hq=>Ie hq) (fun q hq=>u2 q hq) (fun _=>by rw [List.getElem?_modify_eq,he];rfl) (fun _=>u3)
      obtain ⟨p1,p2⟩:=hr.setObj hb (by rw [hg];simp) (.dmap kt vt y) (.map (es'.toArray.modify n fun e0=>{e0 with val:=vv}) clock)
       ⟨kks,vks,_,clock,hkk,hvk,by simp [List.modify_toArray],hmap,e5.modify (f:=fun e0=>{e0 with val:=vv}) (fun _=>rfl) n⟩
      refine ⟨_,?_,p1,p2⟩;simp only [Instr.entryStore,Sem.run_bind,hget,Result.andThen_ok,asInt,asIntOf,Sem.run_pure,hfi];rw [At (w:=w) E.P e3 (by simp)]
   ·cases ha
  ·cases ha
 ·cases ha
theorem J3 (hr:HR ρ h.blk.get w) {t:TypeId} {m s v:AV} {mv sv vv:Value} {h':Aa} (hm:VR ρ m mv) (hs:VR ρ s sv) (hv:VR ρ v vv) (ha:E6 E t m s v h=some h') :
  ∃w',(Instr.entryStore t mv sv vv).run E.P w=.ok () w'∧HR ρ h'.blk.get w'∧Ext ρ ρ h h' w w':=by
 unfold E6 at ha;split at ha
 ·exact Ka hE hr hm hs hv ha
 ·exact Kf hr hm hs hv ha
theorem OP (hr:HR ρ h.blk.get w) {t ty:TypeId} {m k:AV} {mv kv:Value} {h':Aa} (hm:VR ρ m mv) (hk:VR ρ k kv) (ha:MU E t m k h=some h') (ats:Array TypeId) (hat:ats[0]?=some t) :
  ∃w',(Builtin.delete_ ats ty #[mv,kv]).run E.P w=.ok (.tuple #[]) w'∧HR ρ h'.blk.get w'∧Ext ρ ρ h h' w w':=by
 unfold MU at ha;split at ha
 ·rename_i kt vt kks vks r ht;obtain ⟨hd,hkk,hvk,htest⟩:=E3 hE ht;split at ha
  ·rename_i x kr c3 hdm hkr;have hck:∀em,(Instr.checkKey em 10000 kt kv).run E.P w=.ok () w:=fun em=>Cy (w:=w) hE em 9980 20 kt k kv c3 hk
   obtain ⟨ds,hkd⟩:=EG c3;obtain ⟨kl,kkv⟩:=I1 hkr hk;cases hm with
   |map _ base hb=>
    have hlive:h.blk.get r≠none:=by
     intro e;rw [e] at hdm;cases hdm
    obtain ⟨es',clock,e3,e4,e5⟩:=L9 hdm (fun y hy=>hr.blk r base y hb hy) hkk hvk
    have hget:=Ao (w:=w) E.P e3 (by simp)
    have hfind:=DX (w:=w) hE htest kkv (by omega) hkd e4
    have spec:=Ei (k:=(Af U.V kr).cells) 0 e4;have hidx:Ag U.V (.mIdx kks x kr)=F2 kks (Af U.V kr).cells (Af U.V x).rows 0:=rfl;split at ha
    ·rename_i hdec;cases ha;have hlt:=An U.ok hdec;rw [Ap,decide_eq_true_eq] at hlt;have z0:Ag U.V (.c 0)=0:=rfl;rw [z0,hidx] at hlt;rcases spec with ⟨a1,a2⟩|⟨n,e,r',a1,a2,a3⟩
     ·rw [a1] at hfind;obtain ⟨p1,p2⟩:=hr.setObj hb hlive (.dmap kt vt x) (.map es'.toArray clock) ⟨kks,vks,es',clock,hkk,hvk,rfl,e4,e5⟩;refine ⟨_,?_,p1,p2⟩;simp [Builtin.delete_,hat,hE.run_und hd,hget,hck,hfind,At (w:=w) E.P e3 (by simp)]
     ·omega
    ·rename_i hdec;cases ha;have hlt:=An U.ok hdec;rw [Ap,decide_eq_false_iff_not] at hlt;have z0:Ag U.V (.c 0)=0:=rfl;rw [z0,hidx] at hlt;rcases spec with ⟨a1,a2⟩|⟨n,e,r',a1,a2,a3,a4,a5⟩
     ·omega
     ·rw [a1] at hfind;have hn:(Ag U.V (.mIdx kks x kr)).toNat=n:=by rw [hidx,a2];simp
      have hrm:(Af U.V (.rmv x (.mIdx kks x kr))).rows=(Af U.V x).rows.eraseIdx n:=by
       show (Af U.V x).rows.eraseIdx (Ag U.V (.mIdx kks x kr)).toNat=_;rw [hn]
      obtain ⟨p1,p2⟩:=hr.setObj hb hlive (.dmap kt vt (.rmv x (.mIdx kks x kr))) (.map (es'.toArray.eraseIdxIfInBounds n) clock) ⟨kks,vks,es'.eraseIdx n,clock,hkk,hvk,by simp,by rw [hrm];exact e4.erase n,e5.erase n⟩
      refine ⟨_,?_,p1,p2⟩;simp only [Nat.zero_add] at hfind;simp [Builtin.delete_,hat,hE.run_und hd,hget,hck,hfind,At (w:=w) E.P e3 (by simp)]
    ·cases ha
  ·cases ha
 ·cases ha
theorem Oy (hr:HR ρ h.blk.get w) {t ty:TypeId} {m k:AV} {mv kv:Value} {h':Aa} (hm:VR ρ m mv) (hk:VR ρ k kv) (ha:MQ E t m k h=some h') (ats:Array TypeId) (hat:ats[0]?=some t) :
  ∃w',(Builtin.delete_ ats ty #[mv,kv]).run E.P w=.ok (.tuple #[]) w'∧HR ρ h'.blk.get w'∧Ext ρ ρ h h' w w':=by
 unfold MQ at ha;split at ha
 ·rename_i q;cases ha;exact Pc hE hr hm hk q ats hat
 ·exact OP hE hr hm hk ha ats hat
theorem O9 {h:Aa} (hr:HR ρ h.blk.get w) {t:TypeId} {m k a:AV} {mv kv:Value} {ok:Bool} (hm:VR ρ m mv) (hk:VR ρ k kv) (ha:Ja E t m k ok h=some a) :
  ∃v,(Instr.lookup t mv kv ok).run E.P w=.ok v w∧VR ρ a v:=by
 unfold Ja at ha;split at ha
 ·rename_i r hl;cases ha;exact Px hE hr hm hk hl
 ·split at ha
  ·rename_i r hl;cases ha;exact Pv hE hr hm hk hl
  split at ha
  ·rename_i kt et r hd _ _;split at ha
   ·rename_i z es clock hkk hz hg;obtain ⟨zv,z1,z2⟩:=hE.run_zero ρ hz w;have hzr:=Ay ρ z2;have hck:∀em,(Instr.checkKey em 10000 kt kv).run E.P w=.ok () w:=fun em=>Cy (w:=w) hE em 9980 20 kt k kv hkk hk
    have hkd:∃ds,E.desc kt=some ds:=by
     simp only [Bw] at hkk;cases hq:E.desc kt with
     |none=>simp [hq] at hkk
     |some ds=>exact ⟨ds,rfl⟩
    obtain ⟨ds,hkd⟩:=hkd
    have fin:∀(v:AV) (b:Bool) (vv:Value),VR ρ v vv→VR ρ (KI ok v b) (if ok then .tuple #[vv,.bool b] else vv):=by
     intro v b vv hv;cases ok with
     |true=>
      have:=VL.cons hv (VL.cons (VR.bool (ρ:=ρ) b) (VL.nil ρ));exact .tuple _ [vv,.bool b] this.1 this.2
     |false=>exact hv
    cases hm with
    |map _ base hb=>
     obtain ⟨es',e1,e2⟩:=hr.blk r base _ hb hg;have hget:(getObj base.cb).run E.P w=.ok (.map es'.toArray clock) w:=by simp [getObj,Sem.run,e1]
     split at ha
     ·rename_i i v hf;cases ha;obtain ⟨r',q1,q2⟩:=Ir (w:=w) hE hkd hk e2 hf;cases r' with
      |none=>cases q1
      |some p'=>
       obtain ⟨j,vv⟩:=p';refine ⟨_,?_,fin v true vv q1.2⟩;simp [Instr.lookup,hE.run_und hd,hget,hck,q2]
     ·rename_i hf;cases ha;obtain ⟨r',q1,q2⟩:=Ir (w:=w) hE hkd hk e2 hf;cases r' with
      |some p=>cases q1
      |none=>
       refine ⟨_,?_,fin z false zv hzr⟩;simp [Instr.lookup,hE.run_und hd,hget,hck,q2,z1]
     ·cases ha
   ·cases ha
  ·cases ha
end
end Go.AE
namespace Go.AE
variable [Gl:Au]
variable [U:Unk]
omit U in
theorem Fv:∀(l b:Nat),(CW l b).length=l
 |0,_=>rfl
 |l+1,b=>by simp [CW,Fv l]
theorem LH {e:SE} (h:MS e=true):(AG U.V e).data.toList.length<4611686018427387904:=by
 unfold MS at h;split at h
 ·rename_i l b;have:=Cs h
  have e:(AG U.V (.strc l b)).data.toList.length=l:=by
   show ((CW l b).toArray).toList.length=l;simp [Fv]
  omega
 ·have:=Hm h;rw [Ap,decide_eq_true_eq,Cf] at this;have z:Ag U.V (.c 4611686018427387904)=4611686018427387904:=rfl;rw [z] at this;omega
section
variable {E:Env} (hE:OK E) {ρ:Ren} {h:Aa} {w:World}
omit U in
theorem a8 [U:Unk] {t:TypeId} {s s':ByteArray} (h1:s.data.toList.length<4611686018427387904) (h2:s'.data.toList.length<4611686018427387904):(binOp .add t (.string s) (.string s')).run E.P w=.ok (.string (s++s')) w:=by
 have hsz:s.size=s.data.toList.length:=by simp
 have hsz':s'.size=s'.data.toList.length:=by simp
 have hmax:¬(((s.size+s'.size:Nat):Int)>IntKind.i64.max):=by
  simp only [IntKind.max,IntKind.signed,IntKind.bits];omega
 simp only [binOp,Op.stringOp];rw [if_neg hmax];rfl
theorem Uz {op:BinOp} {t:TypeId} {ox oy:Operand} {x y r:AV} {xv yv:Value} (hx:VR ρ x xv) (hy:VR ρ y yv) (hr:Zm op x y=some r) :
  ∃v,(do eqGuard op t ox oy xv yv;binOp op t xv yv:Sem Value).run E.P w=.ok v w∧VR ρ r v:=by
 unfold Zm at hr;split at hr
 ·split at hr
  ·rename_i a b ha hb;split at hr
   ·rename_i hc;cases hr;obtain ⟨c1,c2⟩:=Am hc;rw [FO hx ha,FO hy hb];have hg:(eqGuard .add t ox oy (.string (AG U.V a)) (.string (AG U.V b))).run E.P w=.ok () w:=BA (by simp) (fun h _=>by obtain ⟨xs,h⟩:=h;cases h)
    refine ⟨.string (AG U.V a++AG U.V b),?_,.ss (.strCat a b)⟩;simp only [Sem.run_bind,hg,Result.andThen_ok];exact a8 (LH c1) (LH c2)
   ·cases hr
  ·cases hr
 ·cases hr
theorem UD {L:SE} {n k:Nat} (h:Wh L n=some k) (h0:0≤Ag U.V L):k=min (Ag U.V L).toNat n:=by
 unfold Wh at h;split at h
 ·rename_i hd;cases h;have:=An U.ok hd;rw [Ap,decide_eq_false_iff_not] at this;have z:Ag U.V (.c (n:Int))=n:=rfl;rw [z] at this;omega
 ·rename_i hd;have:=An U.ok hd;rw [Ap,decide_eq_true_eq] at this;have z:Ag U.V (.c (n:Int))=n:=rfl;rw [z] at this;split at h
  ·rename_i l hh hb;split at h
   ·rename_i hc;cases h;obtain ⟨c1,c2⟩:=Am hc;have c1:l=hh:=by simpa using c1
    have c2:0≤l:=by simpa using c2
    subst c1;obtain ⟨b1,b2⟩:=E5 U.ok L;rw [hb] at b1 b2;have e1:=b1 l rfl;have e2:=b2 l rfl;omega
   ·cases h
  ·cases h
 ·cases h
theorem D6 {y:SE} {kd:Kd}:∀(n i:Nat),(Ex y kd i n).length=n
 |0,_=>rfl
 |n+1,i=>by simp [Ex,D6 n]
theorem Kv {y:SE} {kd:Kd}:∀(n i q:Nat),q<n→(Ex y kd i n)[q]?=some (Ib y (.c (i+q:Nat)) 0 kd)
 |0,_,q,h=>absurd h (Nat.not_lt_zero q)
 |n+1,i,0,h=>rfl
 |n+1,i,q+1,h=>by
  simp only [Ex,List.getElem?_cons_succ];rw [Kv n (i+1) q (by omega),show i+1+q=i+(q+1) by omega]
theorem M5 {kd:Kd} {y:SE} {cur:Array Value} {o k:Nat} (hr:A6 U.K ρ.imm [kd] cur o (Af U.V y).rows) (hk:k≤(Af U.V y).rows.length):VL ρ (Ex y kd 0 k) ((cur.toList.drop o).take k):=by
 have h1:=hr.1;simp only [List.length_singleton,Nat.mul_one] at h1;refine ⟨by rw [D6];simp;omega,fun q a v ha hv=>?_⟩
 have hq:q<k:=by have:=(List.getElem?_eq_some_iff.1 ha).1;rwa [D6] at this
 rw [Kv k 0 q hq,Nat.zero_add] at ha;cases ha;have hd:=hr.2.2 q 0 kd (by omega) rfl
 rw [List.getElem?_take,if_pos hq,List.getElem?_drop,Array.getElem?_toList] at hv;simp only [List.length_singleton,Nat.mul_one,Nat.add_zero] at hd;rw [Array.getD_eq_getD_getElem?,hv] at hd;exact H0 hd
include hE
theorem SF (hr:HR ρ h.blk.get w) {t t' ty:TypeId} {d x a:AV} {dv xv:Value} {h':Aa} (hdv:VR ρ d dv) (hx:VR ρ x xv) (ha:Tq E t d x h=some (a,h')) (ats:Array TypeId) (hat:ats[0]?=some t) :
  AB E ρ h h' w (Builtin.copy_ ats ty #[dv,xv]) a:=by
 unfold Tq at ha;split at ha
 ·rename_i r hq;cases ha;exact S7 hE hr (t':=t) hdv hx hq ats hat
 ·split at ha
  ·rename_i e hd;split at ha
   ·rename_i kd b off n es y hk hsz hs _;split at ha
    ·rename_i k hes hfix;split at ha
     ·rename_i h2 hst;cases ha;have hes:=Aq hes;subst hes
      have hk2:U.K e=some [kd]:=by
       rw [hE.kd,←hE.ke];revert hk;cases E.kinds e with
       |none=>intro hk;cases hk
       |some l=>cases l with
        |nil=>intro hk;cases hk
        |cons p l=>cases l with
         |nil=>intro hk;cases hk;rfl
         |cons _ _=>intro hk;cases hk
      have hfx:=UD hfix (by rw [Aj];exact Int.natCast_nonneg _)
      rw [Aj,Int.toNat_natCast] at hfx
      obtain ⟨vs,s1,s2,s3⟩:∃vs:List Value,VL ρ (Ex y kd 0 k) vs∧(Builtin.lenOf xv).run E.P w=.ok (Af U.V y).rows.length w∧(Builtin.firstCells 1 k xv).run E.P w=.ok vs.toArray w:=by
       unfold Ov at hs;split at hs
       ·rename_i e' y';split at hs
        ·rename_i he;cases hs;have he:=Aq he;subst he;cases hx with
         |dat _ _ ad n' cap hdv2=>
          cases hdv2 with
          |nil _ _ g1 g2=>
           rw [g2] at hfx;have:k=0:=by simpa using hfx
           subst this;exact ⟨[],VL.nil ρ,by rw [g2];simp [Builtin.lenOf],by simp [Builtin.firstCells]⟩
          |empty _ a1 _ _ g1 g2=>
           rw [g2] at hfx;have:k=0:=by simpa using hfx
           subst this;exact ⟨[],VL.nil ρ,by rw [g2];simp [Builtin.lenOf],by simp [Builtin.firstCells,Go.loadCells,loadCellsFrom]⟩
          |slc _ b' o _ _ _ ks arr hk' ha' hn hc' g1 hin hrow hv=>
           rw [hk2] at hk';cases hk';obtain ⟨e1,fz,hb⟩:=hr.imm b' arr ha';have hrows:A6 U.K ρ.imm [kd] arr o (Af U.V y).rows:=⟨by rw [hn];exact hin,fun i hi=>hrow i (by omega),fun i j kd' hi hj=>hv i j kd' (by omega) hj⟩
           have hkle:k≤(Af U.V y).rows.length:=by rw [hfx];exact Nat.min_le_left _ _
           refine ⟨_,M5 hrows hkle,by rw [hn];simp [Builtin.lenOf],?_⟩
           simp only [Builtin.firstCells,Nat.mul_one];simp only [List.length_singleton,Nat.mul_one] at hin;exact Av E.P w b' o k arr e1 fz hb (by omega)
        ·cases hs
       ·rename_i b' es' n' nl _;split at hs
        ·rename_i e' y' hb;split at hs
         ·rename_i hc;cases hs;obtain ⟨c12,c3⟩:=Am hc;obtain ⟨c1,c2⟩:=Am c12;have c1:=Aq c1;have c2:=Aq c2;subst c1;subst c2;have hfl:=Ev c3;rw [Aj] at hfl;have hkle:k≤(Af U.V y).rows.length:=by rw [hfx];exact Nat.min_le_left _ _
          cases hx with
          |asl _ _ _ _ cap base hρ q0 qc qz qn=>
           obtain ⟨ks',cur,et,fz,b1,b2,b3,b4,b5⟩:=hr.blk b' base _ hρ hb;rw [hk2] at b1;cases b1;refine ⟨_,M5 b5 hkle,by rw [hfl];simp [Builtin.lenOf],?_⟩
           simp only [Builtin.firstCells,Nat.mul_one];have:=b5.1;simp only [List.length_singleton,Nat.mul_one] at this;exact Av E.P w base.cb base.co k cur et fz b2 (by omega)
          |aslEnd _ _ _ _ ad q0 qn=>
           have hz:(Af U.V y).rows.length=0:=by rw [q0] at hfl;omega
           have:k=0:=by omega
           subst this;refine ⟨[],VL.nil ρ,by rw [hz];simp [Builtin.lenOf],?_⟩
           cases ad with
           |none=>simp [Builtin.firstCells]
           |some ad=>simp [Builtin.firstCells,Go.loadCells,loadCellsFrom]
         ·cases hs
        ·cases hs
       ·cases hs
      cases hdv with
      |slice _ _ _ _ cap base hb hcap hz=>
       obtain ⟨w',q1,q2,q3⟩:=hr.storeN E.P hb s1 hst;refine ⟨ρ,goInt (k:Nat),w',?_,.int _ _,q2,q3⟩;unfold Builtin.copy_;have hm:Nat.min (Af U.V y).rows.length n=k:=hfx.symm;simp only [hat,List.getElem?_toArray,List.getElem?_cons_zero,List.getElem?_cons_succ,Sem.run_bind,hE.run_und hd,Result.andThen_ok,s2,hE.run_szIs hsz,hm,s3,q1];simp
      |sliceEnd _ _ _ ad=>
       have hk0:k=0:=by rw [hfx];simp
       subst hk0;have:=s1.nil_inv;subst this;have hm:Nat.min (Af U.V y).rows.length 0=0:=Nat.min_zero _
       obtain ⟨q2,q3⟩:HR ρ h'.blk.get w∧Ext ρ ρ h h' w w:=by
        unfold storeN at hst;simp only [Ex] at hst;split at hst
        ·rename_i sz c hg;split at hst
         ·cases hst;refine hr.swap (by rw [hg];exact Option.some_ne_none _) _ (fun base hρ=>?_)
          exact hr.blk b base _ hρ hg
         ·cases hst
        ·cases hst
       refine ⟨ρ,goInt (0:Nat),w,?_,.int _ _,q2,q3⟩;unfold Builtin.copy_;simp only [hat,List.getElem?_toArray,List.getElem?_cons_zero,List.getElem?_cons_succ,Sem.run_bind,hE.run_und hd,Result.andThen_ok,s2,hE.run_szIs hsz,hm,s3];simp [storeCells]
     ·cases ha
    ·cases ha
   ·cases ha
  ·cases ha
end
end Go.AE
namespace Go.AE
variable [Gl:Au]
variable [U:Unk]
section
variable {E:Env} (hE:OK E) {ρ:Ren} {h:Aa} {w:World}
theorem Om {s:Sem Unit} {why:String} {o:Option Aa} (ho:∀h',o=some h'→∃σ w',s.run E.P w=.ok () w'∧HR σ h'.blk.get w'∧Ext ρ σ h h' w w') :
  DQ E ρ h w (do s;pure .skip) (DA why o):=by
 cases o with
 |none=>trivial
 |some h'=>
  intro hf;obtain ⟨σ,w',q1,q2,q3⟩:=ho h' rfl;exact ⟨σ,Go.undef,w',.inr ⟨by simp [q1],rfl⟩,VR.undef σ,q2,q3⟩
theorem JJ {s:Sem Value} {why:String} {o:Option Aa} (ho:∀h',o=some h'→∃w',s.run E.P w=.ok (.tuple #[]) w'∧HR ρ h'.blk.get w'∧Ext ρ ρ h h' w w') :
  DQ E ρ h w (do pure (.value (←s))) (DA why o):=by
 cases o with
 |none=>trivial
 |some h'=>
  intro hf;obtain ⟨w',q1,q2,q3⟩:=ho h' rfl;exact ⟨ρ,Go.undef,w',.inl (by simp [q1,Go.undef]),VR.undef ρ,q2,q3⟩
theorem Vn {ats:Array TypeId} {ty:TypeId} {args:List AV} {args':List Value} {a:AV} (ha:VL ρ args args') (hq:pk args=some a):∃v,(Builtin.max_ ats ty args'.toArray).run E.P w=.ok v w∧VR ρ a v:=by
 cases args with
 |nil=>cases hq
 |cons x r=>
  obtain ⟨v,r',rfl,hv,hl⟩:=ha.cons_inv;cases hv<;>first | (cases hq;done)|skip
  obtain ⟨u,q1,q2⟩:=PB E.P w _ hl hq;exact ⟨u,by simpa [Builtin.max_] using q1,q2⟩
theorem U9 {ats:Array TypeId} {ty:TypeId} {args:List AV} {args':List Value} {a:AV} (ha:VL ρ args args') (hq:gU args=some a):∃v,(Builtin.min_ ats ty args'.toArray).run E.P w=.ok v w∧VR ρ a v:=by
 cases args with
 |nil=>cases hq
 |cons x r=>
  obtain ⟨v,r',rfl,hv,hl⟩:=ha.cons_inv;cases hv<;>first | (cases hq;done)|skip
  obtain ⟨u,q1,q2⟩:=Pr E.P w _ hl hq;exact ⟨u,by simpa [Builtin.min_] using q1,q2⟩
include hE
theorem RE (hr:HR ρ h.blk.get w) {t ty:TypeId} {x:AV} {xv:Value} {h':Aa} (hx:VR ρ x xv) (ha:O7 E t x h=some h') (ats:Array TypeId) (hat:ats[0]?=some t) :
  ∃w',(Builtin.clear_ ats ty #[xv]).run E.P w=.ok (.tuple #[]) w'∧HR ρ h'.blk.get w'∧Ext ρ ρ h h' w w':=by
 unfold O7 at ha;cases hd:E.desc t with
 |none=>rw [hd] at ha;cases ha
 |some d=>
  rw [hd] at ha;have hu:=hE.run_und hd w;simp only [] at ha;cases hx<;>first | (cases ha;done)|skip
  ·simp only [Option.some.injEq] at ha;subst ha;exact ⟨w,by cases d<;>simp [Builtin.clear_,hat,hu],hr,Ext.refl ρ h w⟩
  ·rename_i b off n es cap base hb hcap hz;cases n with
   |zero=>
    simp only [Option.some.injEq] at ha;subst ha;exact ⟨w,by cases d<;>simp [Builtin.clear_,hat,hu],hr,Ext.refl ρ h w⟩
   |succ n=>
    cases d<;>first | (cases ha;done)|skip
    rename_i e;simp only [] at ha;cases hzz:E.zero e with
    |none=>rw [hzz] at ha;cases ha
    |some z=>
     rw [hzz] at ha;simp only [] at ha;cases hzl:Nat.beq z.cells.length es with
     |false=>rw [hzl] at ha;cases ha
     |true=>
      rw [hzl] at ha;simp only [] at ha;have hzl':=Aq hzl;obtain ⟨zv,z1,z2⟩:=hE.run_zero ρ hzz w;have zc:=(Ay ρ z2).cells (Ba z2);have hv:=DN zc (n+1) zv.cells (.inr rfl);obtain ⟨w',q1,q2,q3⟩:=hr.storeN E.P hb hv ha;refine ⟨w',?_,q2,q3⟩;have hzs:zv.cells.size=z.cells.length:=by have:=zc.1;simp at this;omega
      have e0:(Builtin.zeroCells zv.cells (n+1)).toList=((Array.range ((n+1)*z.cells.length)).map (zv.cells[· % zv.cells.size]!)).toList:=by
       rw [Builtin.zeroCells,hzs]
      simp only [Builtin.clear_,hat,List.getElem?_toArray,List.getElem?_cons_zero,Sem.run_bind,hu,Result.andThen_ok,z1,e0,q1,Sem.run_pure]
  ·rename_i b off es ad;simp only [Option.some.injEq] at ha;subst ha;exact ⟨w,by cases d<;>simp [Builtin.clear_,hat,hu],hr,Ext.refl ρ h w⟩
  ·rename_i b base hb;simp only [] at ha;cases hg:h.blk.get b with
   |none=>rw [hg] at ha;cases ha
   |some y=>
    rw [hg] at ha;cases y<;>first | (cases ha;done)|skip
    ·rename_i es clock;simp only [Option.some.injEq] at ha;subst ha;obtain ⟨es',e1,e2⟩:=hr.blk b base _ hb hg;have hget:=Ao (w:=w) E.P e1 (by simp)
     obtain ⟨p1,p2⟩:=hr.setObj hb (by rw [hg];simp) (.map [] clock) (.map #[] clock) ⟨[],rfl,trivial⟩
     refine ⟨_,?_,p1,p2⟩;cases d<;>simp [Builtin.clear_,hat,hu,hget,At (w:=w) E.P e1 (by simp)]
    ·rename_i kt vt x;simp only [Option.some.injEq] at ha;subst ha;obtain ⟨kks,vks,es',clock,k1,k2,e1,e2,e3⟩:=hr.blk b base _ hb hg;have hget:=Ao (w:=w) E.P e1 (by simp)
     obtain ⟨p1,p2⟩:=hr.setObj hb (by rw [hg];simp) (.dmap kt vt .emptyL) (.map #[] clock) ⟨kks,vks,[],clock,k1,k2,rfl,trivial,Inc.nil clock⟩
     refine ⟨_,?_,p1,p2⟩;cases d<;>simp [Builtin.clear_,hat,hu,hget,At (w:=w) E.P e1 (by simp)]
theorem Na (hr:HR ρ h.blk.get w) {b:Builtin} {ats:Array TypeId} {ty:TypeId} {consts:Array Bool} {args:List AV} {args':List Value} (ha:VL ρ args args') :
  DQ E ρ h w (builtin b ats ty consts args'.toArray) (Eu E b ats.toList args h):=by
 unfold Eu;split
 ·rename_i t ts x xs hts;obtain ⟨v,r,rfl,hv,hl⟩:=ha.cons_inv;have hat:ats[0]?=some t:=by rw [←Array.getElem?_toList,hts];rfl
  exact AY hr fun a hq=>UX hE hr hv hq ats hat _ (by simp)
 ·rename_i t t' s x hts;obtain ⟨v,r,rfl,hv,hl⟩:=ha.cons_inv;obtain ⟨v2,r2,rfl,hv2,hl2⟩:=hl.cons_inv;have:=hl2.nil_inv;subst this;have hats:ats = #[t,t']:=by cases ats;simp_all
  subst hats;exact Bl fun a h' hq hf=>Mh hE hr hv hv2 hq hf (fun a h' hq hf=>J4 hE hr hv hv2 hq hf)
 ·rename_i t ts d x hts;obtain ⟨v,r,rfl,hv,hl⟩:=ha.cons_inv;obtain ⟨v2,r2,rfl,hv2,hl2⟩:=hl.cons_inv;have:=hl2.nil_inv;subst this;have hat:ats[0]?=some t:=by rw [←Array.getElem?_toList,hts];rfl
  exact Bl fun a h' hq hf=>SF hE hr (t':=t) hv hv2 hq ats hat
 ·rename_i t ts m k hts;obtain ⟨v,r,rfl,hv,hl⟩:=ha.cons_inv;obtain ⟨v2,r2,rfl,hv2,hl2⟩:=hl.cons_inv;have:=hl2.nil_inv;subst this;have hat:ats[0]?=some t:=by rw [←Array.getElem?_toList,hts];rfl
  exact JJ fun h' hq=>Oy hE hr hv hv2 hq ats hat
 ·exact AY hr fun a hq=>by
   unfold orA at hq;split at hq
   ·rename_i hm;cases hq;exact Vn ha hm
   ·exact Sc ha hq
 ·exact AY hr fun a hq=>by
   unfold orA at hq;split at hq
   ·rename_i hm;cases hq;exact U9 ha hm
   ·exact SO ha hq
 ·exact ⟨rfl,by simp [builtin]⟩
 ·obtain ⟨v,r,rfl,hv,hl⟩:=ha.cons_inv;have:=hl.nil_inv;subst this;have hv':=hv;cases hv;exact ⟨rfl,_,hv',by simp [builtin,Instr.panic]⟩
 ·rename_i t x hts;obtain ⟨v,r,rfl,hv,hl⟩:=ha.cons_inv;have:=hl.nil_inv;subst this;have hat:ats[0]?=some t:=by rw [←Array.getElem?_toList,hts];rfl
  exact JJ fun h' hq=>RE hE hr hv hq ats hat
 ·trivial
theorem QP (hr:HR ρ h.blk.get w) {tmps:T AV} {ev:Operand→Value} (hev:EvR ρ tmps ev) (c:Call) (ty:TypeId) :
  DQ E ρ h w (do let d ←resolve ev c ty;invoke d.target d.args) (CO E tmps c h):=by
 have hargs:=hev.list c.args.toList;have hmap:(c.args.map ev)=(c.args.toList.map ev).toArray:=by apply Array.ext';simp
 unfold CO;cases hc:c.callee with
 |builtin b=>
  have e:∃cs,(do let d ←resolve ev c ty;invoke d.target d.args)=builtin b c.argTypes ty cs (c.args.toList.map ev).toArray:=
   ⟨_,by simp only [resolve,hc,pure_bind,invoke,hmap];rfl⟩
  obtain ⟨cs,e⟩:=e;rw [e];exact Na (w:=w) hE hr (b:=b) (ats:=c.argTypes) (ty:=ty) (consts:=cs) hargs
 |invoke r name=>
  have:=Ds (w:=w) hE hr (fn:=.method name) (fn':=.method name) (captured:=[]) (captured':=[]) rfl (VL.nil ρ) (VL.cons (hev r) hargs)
  have e:(do let d ←resolve ev c ty;invoke d.target d.args)=invoke (.fn (.method name) #[]) (ev r::c.args.toList.map ev).toArray:=by
   simp only [resolve,hc,pure_bind,hmap]
   congr 1
   simp
  rw [e];exact this
 |value f=>
  simp only [];have hf:=hev f;cases hv:Ah tmps f with
  |func fn first captured=>
   rw [hv] at hf;cases hvf:ev f with
   |func fn' first' captured'=>
    rw [hvf] at hf;cases hf with
    |func _ _ _ _ f' c' q1 q2 q3 q4 q5=>
     have:=Ds (w:=w) hE hr q1 (captured:=captured) (captured':=c') ⟨q4,q5⟩ (VL.append (l:=first) (l':=f') ⟨q2,q3⟩ hargs)
     have e:(do let d ←resolve ev c ty;invoke d.target d.args)=invoke (.fn fn' c'.toArray) (f'++c.args.toList.map ev).toArray:=by
      simp only [resolve,hc,hvf,Deferred.ofValue,pure_bind,hmap]
      congr 1
      simp
     rw [e];exact this
   |_=>rw [hvf] at hf;cases hf
  |_=>trivial
omit hE in
theorem Ol {tmps:T AV} {ev:Operand→Value} (hev:EvR ρ tmps ev) (c:Call) (ty:TypeId) :
  DQ E ρ h w (do pure (.defer (←resolve ev c ty))) (Fz tmps c h):=by
 have hargs:=hev.list c.args.toList;have hmap:(c.args.map ev)=(c.args.toList.map ev).toArray:=by apply Array.ext';simp
 unfold Fz;cases hc:c.callee with
 |value f=>
  simp only [];have hf:=hev f;cases hv:Ah tmps f with
  |func fn first captured=>
   rw [hv] at hf;cases hvf:ev f with
   |func fn' first' captured'=>
    rw [hvf] at hf;cases hf with
    |func _ _ _ _ f' c' q1 q2 q3 q4 q5=>
     refine ⟨rfl,{target:=.fn fn' c'.toArray,args:=(f'++c.args.toList.map ev).toArray},?_,?_⟩
     ·exact ⟨fn',c',f'++c.args.toList.map ev,q1,⟨q4,q5⟩,VL.append (l:=first) (l':=f') ⟨q2,q3⟩ hargs,rfl⟩
     ·simp [resolve,hc,hvf,Deferred.ofValue,hmap]
   |_=>rw [hvf] at hf;cases hf
  |_=>trivial
 |_=>trivial
end
end Go.AE
namespace Go.AE
variable [Gl:Au]
variable [U:Unk]
section
variable {E:Env} (hE:OK E) {ρ:Ren} {h:Aa} {w:World}
include hE
omit hE in
theorem BC (hr:HR ρ h.blk.get w) {s:Sem Next} {a:AV} {v:Value} (hs:s.run E.P w=.ok (.value v) w) (hv:VR ρ a v):DQ E ρ h w s (.val a h):=
 fun _=>⟨ρ,v,w,.inl hs,hv,hr,Ext.refl ρ h w⟩
omit hE in
theorem Gz {tmps:T AV} {ev:Operand→Value} (hev:EvR ρ tmps ev) (o:Option Operand):(∀a,AR tmps o=some a→∃v,o.map ev=some v∧VR ρ a v)∧(AR tmps o=none→o.map ev=none):=by
 cases o with
 |none=>exact ⟨(fun a h=>by cases h),fun _=>rfl⟩
 |some x=>exact ⟨fun a h=>by simp only [AR,Option.some.injEq] at h;subst h;exact ⟨ev x,rfl,hev x⟩,(fun h=>by cases h)⟩
theorem ot {t:TypeId} {ms:Array (String×TypeId)} (hd:E.desc t=some (.interface ms)) (d:Nat):(Op.equalIn (d+1) t .nilIface .nilIface).run E.P w=.ok true w:=by
 simp [Op.equalIn,hE.run_und hd]
theorem H7 (hr:HR ρ h.blk.get w) {tmps:T AV} {ev:Operand→Value} (hev:EvR ρ tmps ev) (o:Oper):DQ E ρ h w (execOp ev o) (aop E tmps h o.op):=by
 unfold execOp aop;cases hop:o.op with
 |move x=>exact BC hr (by simp) (hev x)
 |assign x=>exact BC hr (by simp) (hev x)
 |pick c a b=>
  simp only [];have hc:=hev c;cases hv:Ah tmps c with
  |bool t=>
   rw [hv] at hc;cases hvc:ev c with
   |bool t'=>
    rw [hvc] at hc;cases hc;cases t with
    |true=>exact BC hr (by simp [asBool]) (hev a)
    |false=>exact BC hr (by simp [asBool]) (hev b)
   |_=>rw [hvc] at hc;cases hc
  |sb pos e=>
   rw [hv] at hc;simp only [];split
   ·rename_i q hq;have hd:=An U.ok hq;cases hvc:ev c with
    |bool t'=>
     rw [hvc] at hc;cases hc;rw [hd];split
     ·rename_i hp;rw [hp];exact BC hr (by simp [asBool]) (hev a)
     ·rename_i hp;rw [hp];exact BC hr (by simp [asBool]) (hev b)
    |_=>rw [hvc] at hc;cases hc
   ·trivial
  |_=>trivial
 |alloc t=>
  simp only [];cases hz:E.zero t with
  |none=>trivial
  |some z=>
   intro hf;obtain ⟨σ,v,w',q1,q2,q3,q4⟩:=RY hE hr (hf h.nx (Nat.le_refl _) (by simp [A4,Aa.new])) hz
   exact ⟨σ,v,w',.inl (by simp [q1]),q2,q3,q4⟩
 |box t x=>
  simp only [];cases ht:(Ah tmps x).isTop with
  |true=>trivial
  |false=>
   intro hf;obtain ⟨σ,v,w',q1,q2,q3,q4⟩:=Wm (E:=E) (t:=t) hr (hf h.nx (Nat.le_refl _) (by simp [A4,Aa.new])) (hev x) (by rintro e;rw [e] at ht;cases ht)
   exact ⟨σ,v,w',.inl (by simp [q1]),q2,q3,q4⟩
 |build t ps=>
  have hp:=hev.parts ps.toList;have hmap:(ps.map fun (i,x)=>(i,ev x))=(ps.toList.map fun (i,x)=>(i,ev x)).toArray:=by apply Array.ext';simp
  simp only [hmap];exact AY hr fun a hq=>Ri hE hp hq
 |buildSlice t len ps=>
  have hp:=hev.parts ps.toList;have hmap:(ps.map fun (i,x)=>(i,ev x))=(ps.toList.map fun (i,x)=>(i,ev x)).toArray:=by apply Array.ext';simp
  simp only [hmap];exact Bl fun a h' hq hf=>Jx hE hr hp hq hf
 |load t a=>exact AY hr fun x hq=>Sd hE hr (hev a) hq
 |store t a x=>exact Om fun h' hq=>NG hE hr (hev a) (hev x) hq
 |nilCheck x=>
  simp only [];have hx:=hev x;cases hv:Ah tmps x<;>try trivial
  all_goals (rw [hv] at hx)
  ·cases hvx:ev x<;>rw [hvx] at hx<;>cases hx
   exact BC hr rfl (.ptr _ _ _ (by assumption))
  ·rename_i fn f c;cases fn<;>try trivial
   ·cases hvx:ev x with
    |func fn' f' c'=>
     rw [hvx] at hx;cases hx with
     |func _ _ _ _ f' c' q1 q2 q3 q4 q5=>
      have q1':=q1;simp only [FnR] at q1;subst q1;exact BC hr rfl (.func _ _ _ _ _ _ q1' q2 q3 q4 q5)
    |_=>rw [hvx] at hx;cases hx
   ·cases hvx:ev x with
    |func fn' f' c'=>
     rw [hvx] at hx;cases hx with
     |func _ _ _ _ f' c' q1 q2 q3 q4 q5=>
      have q1':=q1;obtain ⟨base,hb,rfl⟩:=q1;exact BC hr rfl (.func _ _ _ _ _ _ q1' q2 q3 q4 q5)
    |_=>rw [hvx] at hx;cases hx
  ·cases hvx:ev x<;>rw [hvx] at hx<;>cases hx
   exact BC hr rfl (.iface _ _ _ (by assumption))
 |binOp op t x y ty=>
  refine AY hr fun a hq=>?_
  unfold ZH at hq;cases hsy:((Ah tmps x).isSym||(Ah tmps y).isSym) with
  |true=>
   rw [hsy] at hq;simp only [] at hq;split at hq
   ·rename_i r hr0;cases hq;exact YC hE (hev x) (hev y) hr0
   ·split at hq
    ·rename_i r hr0;cases hq;exact Uz (hev x) (hev y) hr0
    ·exact Ug (hev x) (hev y) hq
  |false=>
  rw [hsy] at hq;simp only [] at hq;cases hn:((Ah tmps x).isNil&&(Ah tmps y).isNil) with
  |false=>
   rw [hn] at hq;simp only [] at hq;split at hq
   ·rename_i r hr0;cases hq;exact QH hE (hev x) (hev y) hr0
   ·exact Sf hE (hev x) (hev y) hq
  |true=>
   rw [hn] at hq;simp only [] at hq;obtain ⟨n1,n2⟩:=Am hn
   have e1:Ah tmps x=.nilIface:=by
    generalize Ah tmps x=a at n1;cases a<;>first|rfl|cases n1
   have e2:Ah tmps y=.nilIface:=by
    generalize Ah tmps y=a at n2;cases a<;>first|rfl|cases n2
   have v1:=hev x;have v2:=hev y;rw [e1] at v1;rw [e2] at v2;generalize hx:ev x=xv at v1;generalize hy:ev y=yv at v2;cases v1;cases v2;cases hc:(Region.isConst x||Region.isConst y) with
   |false=>rw [hc] at hq;cases hq
   |true=>
    rw [hc] at hq;cases hd:E.desc t with
    |none=>rw [hd] at hq;cases hq
    |some d=>
     rw [hd] at hq;cases d<;>first | (cases hq;done)|skip
     have hu:=hE.run_und hd w
     have hg:(eqGuard op t x y .nilIface .nilIface).run E.P w=.ok () w:=by
      unfold eqGuard;rcases orF hc with q|q
      ·cases x<;>simp only [Region.isConst,Bool.false_eq_true] at q
       cases op<;>simp
      ·cases y<;>simp only [Region.isConst,Bool.false_eq_true] at q
       cases op<;>cases x<;>simp
     have heq:(Op.equal t .nilIface .nilIface).run E.P w=.ok true w:=ot hE hd 9999;have hb1:binOp .eql t .nilIface .nilIface=(do pure (.bool (←Op.equal t .nilIface .nilIface))):=rfl
     have hb2:binOp .neq t .nilIface .nilIface=(do pure (.bool (!(←Op.equal t .nilIface .nilIface)))):=rfl
     cases op<;>first | (cases hq;done)|skip
     ·simp only [Option.some.injEq] at hq;subst hq;exact ⟨.bool true,by rw [hb1];simp only [Sem.run_bind,hg,Result.andThen_ok,heq,Sem.run_pure],.bool _⟩
     ·simp only [Option.some.injEq] at hq;subst hq;exact ⟨.bool false,by rw [hb2];simp only [Sem.run_bind,hg,Result.andThen_ok,heq,Sem.run_pure,Bool.not_true],.bool _⟩
 |unOp op t x=>exact AY hr fun a hq=>Y9 (hev x) hq
 |convert s d x=>exact Bl fun a h' hq hf=>T1 hE hr (hev x) hq hf
 |makeInterface t x=>
  simp only [];cases hd:E.desc t with
  |none=>trivial
  |some d=>
   cases d<;>first|trivial|exact BC hr (by simp [Instr.makeInterface,hE.run_und hd]) (.iface t _ _ (hev x))
 |makeFunc fn first captured=>
  have h1:=hev.list first.toList;have h2:=hev.list captured.toList;have e1:first.map ev=(first.toList.map ev).toArray:=by apply Array.ext';simp
  have e2:captured.map ev=(captured.toList.map ev).toArray:=by apply Array.ext';simp
  cases fn with
  |yield l=>trivial
  |_=>exact BC hr (by simp only [Instr.makeFunc,Sem.run_bind,Sem.run_pure,Result.andThen_ok,e1,e2]) (.func _ _ _ _ _ _ rfl h1.1 h1.2 h2.1 h2.2)
 |makeMap t r=>
  have mk:∀{s:Sem Next},s.run E.P w=.ok (.value (.map (some w.heap.size))) {w with heap:=w.heap.push (.map #[] 0)}→DQ E ρ h w s (.val (.map h.nx) (h.new (.map [] 0))):=by
   intro s hs hf;have hfree:ρ h.nx=none:=hf h.nx (Nat.le_refl _) (by simp [Aa.new])
   obtain ⟨p1,p2⟩:=hr.new hfree (.map [] 0) (.map #[] 0) 0 ⟨[],rfl,trivial⟩ {w with heap:=w.heap.push (.map #[] 0)} rfl rfl rfl rfl
   exact ⟨_,_,_,.inl hs,.map h.nx _ (Ren.upd_same _ _ _),p1,p2⟩
  cases r with
  |none=>exact mk (by simp [Instr.makeMap])
  |some r=>
   simp only [];have hx:=hev r;cases hd:E.desc t with
   |none=>trivial
   |some d=>
    cases d<;>try trivial
    cases hv:Ah tmps r<;>try trivial
    rw [hv] at hx;cases hvx:ev r<;>rw [hvx] at hx<;>cases hx
    exact mk (by simp [Instr.makeMap,hvx,hE.run_und hd,asInt,asIntOf])
 |makeSlice t l c=>exact Bl fun a h' hq hf=>KG hE hr (hev l) (hev c) hq hf
 |slice t x lo hi mx=>
  refine Bl fun a h' hq hf=>?_
  obtain ⟨a1,a2⟩:=Gz hev lo;obtain ⟨b1,b2⟩:=Gz hev hi;obtain ⟨c1,c2⟩:=Gz hev mx
  have hmh:AR tmps mx≠none→AR tmps hi≠none:=by
   cases mx with
   |none=>intro q;exact absurd rfl q
   |some m=>cases hi with
    |none=>cases hq
    |some i=>intro _ q;cases q
  have hq':sliceB E t (Ah tmps x) (AR tmps lo) (AR tmps hi) (AR tmps mx) h=some (a,h'):=by
   cases mx<;>cases hi<;>first|exact hq|cases hq
  exact RC hE hr (hev x) a1 a2 b1 b2 c1 c2 hmh hq'
 |fieldAddr t x f=>exact AY hr fun a hq=>KO hE (hev x) hq
 |field t x f=>exact AY hr fun a hq=>RG hE (hev x) hq
 |indexAddr t x i=>exact AY hr fun a hq=>KJ hE (hev x) (hev i) hq
 |index t x i=>exact AY hr fun a hq=>QU hE (hev x) (hev i) hq
 |lookup t m k ok=>exact AY hr fun a hq=>O9 hE hr (hev m) (hev k) hq
 |mapUpdate t m k v=>exact Ia fun h' hq=>Ox hE hr (hev m) (hev k) (hev v) hq
 |insert t m k v=>exact Ia fun h' hq=>GE hE hr (hev m) (hev k) (hev v) hq
 |mapEntry t m k=>exact Bl fun a h' hq hf=>Q2 hE hr (hev m) (hev k) hq hf
 |entryStore t m s v=>exact Ia fun h' hq=>J3 hE hr (hev m) (hev s) (hev v) hq
 |range t x=>exact Bl fun a h' hq hf=>RI hE hr (hev x) hq hf
 |next it isS=>exact Bl fun a h' hq hf=>Ju hr (hev it) hq
 |entry it=>exact AY hr fun a hq=>KP hr (hev it) hq
 |typeAssert x xt t ok=>exact AY hr fun a hq=>PJ hE (hev x) hq
 |extract t i=>
  simp only [];have hx:=hev t;cases hv:Ah tmps t<;>try trivial
  rw [hv] at hx;cases hvx:ev t<;>rw [hvx] at hx<;>cases hx
  rename_i l l' h1 h2;refine AY hr fun a hq=>?_
  obtain ⟨v,q1,q2⟩:=VL.get (l:=l) (l':=l') ⟨h1,h2⟩ hq;exact ⟨v,by simp [Instr.extract,q1],q2⟩
 |call c=>exact QP hE hr hev c o.type
 |defer c=>exact Ol hev c o.type
 |panic x=>
  simp only [];have hx:=hev x;cases hv:Ah tmps x<;>try trivial
  rw [hv] at hx;cases hvx:ev x<;>rw [hvx] at hx<;>cases hx
  exact ⟨rfl,_,.iface _ _ _ (by assumption),by simp [Instr.panic]⟩
 |_=>trivial
end
end Go.AE
namespace Go.AE
variable [Gl:Au]
variable [U:Unk]
section
variable {P:Program} {fr:Frame} {k:List Item} {cs:List Frame} {w:World}
theorem cp {a b:Code} (hm:fr.mode=.run) (ht:fr.todo=.code (.seq a b)::k):step P (lone fr cs w)=.next (lone {fr with todo:=.code a::.code b::k} cs w):=
 step_lone_go (by cases fr;simp only at hm ht;subst hm;subst ht;simp [stepG,stepG.exec])
theorem T9 (hm:fr.mode=.run) (ht:fr.todo=.code .skip::k):step P (lone fr cs w)=.next (lone {fr with todo:=k} cs w):=
 step_lone_go (by cases fr;simp only at hm ht;subst hm;subst ht;simp [stepG,stepG.exec])
theorem RU {l:Nat} (hm:fr.mode=.run) (ht:fr.todo=.code (.label l)::k):step P (lone fr cs w)=.next (lone {fr with todo:=k} cs w):=
 step_lone_go (by cases fr;simp only at hm ht;subst hm;subst ht;simp [stepG,stepG.exec])
theorem PG {l:Nat} (hm:fr.mode=.run) (ht:fr.todo=.inBlock l::k):step P (lone fr cs w)=.next (lone {fr with todo:=k} cs w):=
 step_lone_go (by cases fr;simp only at hm ht;subst hm;subst ht;simp [stepG,stepG.exec])
theorem Po {l:Code} (hm:fr.mode=.run) (ht:fr.todo=.inScope l::k):step P (lone fr cs w)=.next (lone {fr with todo:=k} cs w):=
 step_lone_go (by cases fr;simp only at hm ht;subst hm;subst ht;simp [stepG,stepG.exec])
theorem IZ {c:Operand} {x y:Code} {b:Bool} (hm:fr.mode=.run) (ht:fr.todo=.code (.cond c x y)::k) (hc:fr.eval c=.bool b):step P (lone fr cs w)=.next (lone {fr with todo:=.code (if b then x else y)::k} cs w):=
 step_lone_go (by cases fr;simp only at hm ht;subst hm;subst ht;simp [stepG,stepG.exec,hc])
theorem Tv {id:Nat} {c:Code} (hm:fr.mode=.run) (ht:fr.todo=.code (.block id c)::k):step P (lone fr cs w)=.next (lone {fr with todo:=.code c::.inBlock id::k} cs w):=
 step_lone_go (by cases fr;simp only at hm ht;subst hm;subst ht;simp [stepG,stepG.exec])
theorem UU {c:Code} (hm:fr.mode=.run) (ht:fr.todo=.code (.loop c)::k):step P (lone fr cs w)=.next (lone {fr with todo:=.code c::.inLoop c::k} cs w):=
 step_lone_go (by cases fr;simp only at hm ht;subst hm;subst ht;simp [stepG,stepG.exec])
theorem QM {c:Code} (hm:fr.mode=.run) (ht:fr.todo=.inLoop c::k):step P (lone fr cs w)=.next (lone {fr with todo:=.code c::.inLoop c::k} cs w):=
 step_lone_go (by cases fr;simp only at hm ht;subst hm;subst ht;simp [stepG,stepG.exec])
theorem Tb {c:Code} (hm:fr.mode=.run) (ht:fr.todo=.code (.scope c)::k):step P (lone fr cs w)=.next (lone {fr with todo:=.code c::.inScope c::k} cs w):=
 step_lone_go (by cases fr;simp only at hm ht;subst hm;subst ht;simp [stepG,stepG.exec])
theorem Q1 {id:Nat} {ops:Array Oper} (hm:fr.mode=.run) (ht:fr.todo=.code (.region id ops false)::k):step P (lone fr cs w)=.next (lone {fr with todo:=.inRegion ops (List.range ops.size)::k} cs w):=
 step_lone_go (by cases fr;simp only at hm ht;subst hm;subst ht;simp [stepG,stepG.exec])
theorem Ur {id:Nat} {ops:Array Oper} (hm:fr.mode=.run) (ht:fr.todo=.code (.region id ops true)::k) :
  step P (lone fr cs w)=.next (lone {fr with todo:=.inRegion ops (Region.schedule (P.follows .mixedOrders) ops (w.tape w.drawn (.order fr.fn id)))::k} cs {w with drawn:=w.drawn+1}):=
 step_lone_go (by cases fr;simp only at hm ht;subst hm;subst ht;simp [stepG,stepG.exec,choose,Sem.run,Question.forced,Question.cut])
theorem Hz {ops:Array Oper} (hm:fr.mode=.run) (ht:fr.todo=.inRegion ops []::k):step P (lone fr cs w)=.next (lone {fr with todo:=k} cs w):=
 step_lone_go (by cases fr;simp only at hm ht;subst hm;subst ht;simp [stepG,stepG.exec])
theorem UM {id:Nat} {k':List Item} (hm:fr.mode=.run) (ht:fr.todo=.code (.exit id)::k) (hk:exitTo id k=some k'):step P (lone fr cs w)=.next (lone {fr with todo:=k'} cs w):=
 step_lone_go (by cases fr;simp only at hm ht;subst hm;subst ht;simp [stepG,stepG.exec,hk])
theorem UE {l:Nat} {k':List Item} (hm:fr.mode=.run) (ht:fr.todo=.code (.goto l)::k) (hk:gotoIn l k=some k'):step P (lone fr cs w)=.next (lone {fr with todo:=k'} cs w):=
 step_lone_go (by cases fr;simp only at hm ht;subst hm;subst ht;simp [stepG,stepG.exec,hk])
theorem ZO (hm:fr.mode=.run) (ht:fr.todo=[]∨∃k,fr.todo=.code .ret::k) (hr:fr.roundOf=none):step P (lone fr cs w)=.next (lone {fr with mode:=.returning} cs w):=by
 rcases ht with ht|⟨k,ht⟩<;>
 exact step_lone_go (by cases fr;simp only at hm ht hr;subst hm;subst ht;subst hr;simp [stepG,stepG.exec])
theorem NB {l:Nat} {jump:Option Code} {c:Frame} {w':World} {v:Value} (hm:fr.mode=.run) (hr:fr.roundOf=some l) (hk:fr.kind=.normal)
  (ht:(fr.todo=[]∧jump=none)∨(∃k,fr.todo=.code .ret::k∧jump=some .ret)∨(∃id k,fr.todo=.code (.exit id)::k∧exitTo id k=none∧jump=some (.exit id))∨(∃l k,fr.todo=.code (.goto l)::k∧gotoIn l k=none∧jump=some (.goto l)))
  (hrun:(Instr.endRound l jump).run P w=.ok v w'):step P (lone fr (c::cs) w)=.next (lone (c.finish v) cs w'):=by
 rcases ht with ⟨ht,rfl⟩|⟨k,ht,rfl⟩|⟨id,k,ht,he,rfl⟩|⟨l',k,ht,he,rfl⟩<;>
 exact step_lone_go (by cases fr;simp only at hm ht hr hk;subst hm;subst ht;subst hr;subst hk;simp [stepG,stepG.exec,Sem.runT_eq,doReturn, *])
theorem Lz {ops:Array Oper} {i:Nat} {rest:List Nat} {o:Oper} (hm:fr.mode=.run) (ht:fr.todo=.inRegion ops (i::rest)::k) (ho:ops[i]?=some o) (hw:Region.wanted o (yielded ops fr.tmps)=false) :
  step P (lone fr cs w)=.next (lone (fr.finish undef) cs w):=
 step_lone_go (by cases fr;simp only at hm ht;subst hm;subst ht;simp at hw;simp [stepG,stepG.exec,ho,hw])
theorem CP {ops:Array Oper} {i:Nat} {rest:List Nat} {o:Oper} (hm:fr.mode=.run) (ht:fr.todo=.inRegion ops (i::rest)::k) (ho:ops[i]?=some o) (hw:Region.wanted o (yielded ops fr.tmps)=true)
  (hd:fr.roundOf=none∨∀c,o.op≠.defer c) :
  stepG P true {frame:=fr,callers:=cs,status:=.running,dying:=none} w=stepG.apply P true fr cs none (execOp fr.eval o) w:=by
 cases fr;simp only at hm ht hd;subst hm;subst ht;simp at hw;rcases hd with hd|hd
 ·subst hd;simp [stepG,stepG.exec,stepG.oper,Frame.oper?,ho,hw]
 ·simp only [stepG,stepG.exec,ho,Option.map_some,hw,Option.getD_some,if_true,stepG.oper,Frame.oper?];split
  ·rename_i c heq;exact absurd heq (hd c)
  ·rfl
theorem PM {ops:Array Oper} {i:Nat} {rest:List Nat} {o:Oper} {w':World} {v:Value} (hm:fr.mode=.run) (ht:fr.todo=.inRegion ops (i::rest)::k) (ho:ops[i]?=some o) (hw:Region.wanted o (yielded ops fr.tmps)=true)
  (hd:fr.roundOf=none∨∀c,o.op≠.defer c) (hrun:(execOp fr.eval o).run P w=.ok (.value v) w'∨((execOp fr.eval o).run P w=.ok .skip w'∧v=undef)) :
  step P (lone fr cs w)=.next (lone (fr.finish v) cs w'):=by
 refine step_lone_go ?_;rw [CP hm ht ho hw hd];rcases hrun with hrun|⟨hrun,rfl⟩<;>simp [stepG.apply,hrun]
theorem J7 {ops:Array Oper} {i:Nat} {rest:List Nat} {o:Oper} {f:FuncId} {args:Array Value} {w':World} (hm:fr.mode=.run) (ht:fr.todo=.inRegion ops (i::rest)::k) (ho:ops[i]?=some o) (hw:Region.wanted o (yielded ops fr.tmps)=true)
  (hd:fr.roundOf=none∨∀c,o.op≠.defer c) (hrun:(execOp fr.eval o).run P w=.ok (.enter f args) w'):step P (lone fr cs w)=.next (lone (Frame.enter P f args .normal) (fr::cs) w'):=by
 refine step_lone_go ?_;rw [CP hm ht ho hw hd];simp [stepG.apply,hrun,ht]
theorem TY {ops:Array Oper} {i:Nat} {rest:List Nat} {o:Oper} {l:Nat} {f:FuncId} {tmps:Array Value} {assign body:Code} {w':World} (hm:fr.mode=.run) (ht:fr.todo=.inRegion ops (i::rest)::k) (ho:ops[i]?=some o) (hw:Region.wanted o (yielded ops fr.tmps)=true)
  (hd:fr.roundOf=none∨∀c,o.op≠.defer c) (hrun:(execOp fr.eval o).run P w=.ok (.round l f tmps assign body) w'):step P (lone fr cs w)=.next (lone (Frame.round l f tmps assign body .normal) (fr::cs) w'):=by
 refine step_lone_go ?_;rw [CP hm ht ho hw hd];simp [stepG.apply,hrun]
theorem KN {l:Nat} {w':World} (hm:fr.mode=.run) (ht:fr.todo=.beginRound::k) (hr:fr.roundOf=some l) (hrun:(Instr.beginRound l).run P w=.ok () w') :
  step P (lone fr cs w)=.next (lone {fr with todo:=k} cs w'):=by
 refine step_lone_go ?_;cases fr;simp only at hm ht hr;subst hm;subst ht;subst hr;simp [stepG,stepG.exec,stepG.apply,hrun,Frame.finish]
theorem Pa {l:Nat} {w':World} {jump:Option Code} (hm:fr.mode=.run) (ht:fr.todo=.endRangeFunc l::k) (hrun:(Instr.endLoop l).run P w=.ok jump w') :
  step P (lone fr cs w)=.next (lone {fr with todo:=(jump.map Item.code).toList++k} cs w'):=by
 refine step_lone_go ?_;cases fr;simp only at hm ht;subst hm;subst ht;simp [stepG,stepG.exec,Sem.runT_eq,hrun]
theorem IG {f:Operand} {params:Array Tmp} {assign body:Code} {l:Nat} {mark:List Deferred} {w':World} (hm:fr.mode=.run) (ht:fr.todo=.code (.rangeFunc f params assign body)::k)
  (hrun:(Instr.enterLoop fr.fn fr.tmps params assign body fr.roundOf).run P w=.ok (l,mark) w') :
  (stepG P true {frame:=fr,callers:=cs,status:=.running,dying:=none} w).bare =
  (stepG.apply P true {fr with todo:=.inRangeFunc l::k,defers:=mark++fr.defers} cs none (do let d ←resolve fr.eval {callee:=.value f,args:=#[.const (.func (.yield l) #[] #[])],argTypes:=#[]} 0;invoke d.target d.args) w').bare:=by
 cases fr;simp only at hm ht hrun;subst hm;subst ht;simp only [stepG,stepG.exec,Sem.runT_eq,hrun,GStep.bare_after]
 congr 2
theorem Ut {d:Deferred} {ds:List Deferred} {f:FuncId} {args:Array Value} {w':World} (hm:fr.mode≠.run) (hd:fr.defers=d::ds) (hc:∀b,d.target≠.collected b) (hn:d.target≠.nil)
  (hrun:(invoke d.target d.args).run P w=.ok (.enter f args) w'):step P (lone fr cs w)=.next (lone (Frame.enter P f args .deferred) ({fr with defers:=ds}::cs) w'):=by
 refine step_lone_go ?_;cases fr with|mk fn tmps todo defers mode kind roundOf=>
 cases d with|mk target dargs=>
 simp only at hm hd hc hn hrun;subst hd;cases mode with
 |run=>exact absurd rfl hm
 |returning=>cases target<;>first|exact absurd rfl hn|exact absurd rfl (hc _)|simp [stepG,unwind,callDeferred,Sem.runT_eq,hrun]
 |panicking ch=>cases target<;>first|exact absurd rfl hn|exact absurd rfl (hc _)|simp [stepG,unwind,callDeferred,Sem.runT_eq,hrun]
theorem Sv {b:Nat} {args:Array Value} {ds l:List Deferred} {w':World} (hm:fr.mode≠.run) (hd:fr.defers={target:=.collected b,args}::ds)
  (hrun:(Instr.takeDeferred b).run P w=.ok l w'):step P (lone fr cs w)=.next (lone {fr with defers:=l++ds} cs w'):=by
 refine step_lone_go ?_;cases fr with|mk fn tmps todo defers mode kind roundOf=>
 simp only at hm hd;subst hd;cases mode with
 |run=>exact absurd rfl hm
 |returning=>simp [stepG,unwind,Sem.runT_eq,hrun]
 |panicking ch=>simp [stepG,unwind,Sem.runT_eq,hrun]
end
end Go.AE
namespace Go.AE
variable [Gl:Au]
section
variable [U:Vals]
inductive IR (ρ:Ren):AI→Item→Prop
 |code (c:Code):IR ρ (.code c) (.code c)
 |inBlock (id:Nat):IR ρ (.inBlock id) (.inBlock id)
 |inLoop (b:Code):IR ρ (.inLoop b) (.inLoop b)
 |inScope (b:Code):IR ρ (.inScope b) (.inScope b)
 |ops (all:Array Oper) (rest:List Oper) (idx:List Nat) (h:rest.map some=idx.map fun i=>all[i]?):IR ρ (.ops all rest) (.inRegion all idx)
 |inRange (l:Nat) (base:Bf) (h:ρ l=some base):IR ρ (.inRange l) (.inRangeFunc base.cb)
 |endRange (l:Nat) (base:Bf) (h:ρ l=some base):IR ρ (.endRange l) (.endRangeFunc base.cb)
 |beginRound:IR ρ .beginRound .beginRound
 |dead (all:Array Oper) (idx:List Nat):IR ρ .dead (.inRegion all idx)
inductive IL (ρ:Ren):List AI→List Item→Prop
 |nil:IL ρ [] []
 |cons {a:AI} {x:Item} {l:List AI} {l':List Item} (h:IR ρ a x) (k:IL ρ l l'):IL ρ (a::l) (x::l')
 |rest:IL ρ [.rest] U.R
def CL (ρ:Ren):List (AV×Bool)→List PanicEntry→Prop
 |[],[]=>True
 |a::r,e::r'=>VR ρ a.1 e.v∧e.recovered=a.2∧e.goexit=false∧CL ρ r r'
 |_,_=>False
inductive MR (ρ:Ren):F5→FrameMode→Prop
 |run:MR ρ .run .run
 |ret:MR ρ .ret .returning
 |panic (ch:List (AV×Bool)) (ch':List PanicEntry) (h:CL ρ ch ch'):MR ρ (.panic ch) (.panicking ch')
def RR (ρ:Ren):Option Nat→Option Nat→Prop
 |none,none=>True
 |some l,some c=>∃base,ρ l=some base∧c=base.cb
 |_,_=>False
structure FrR (ρ:Ren) (f:AF) (c:Frame):Prop where
 fn:c.fn=f.fn
 tm:TR ρ f.nt f.tmps c.tmps
 todo:IL ρ f.todo c.todo
 defers:DL ρ f.defers c.defers
 mode:MR ρ f.mode c.mode
 kind:c.kind=f.kind
 round:RR ρ f.round c.roundOf
inductive FrL (ρ:Ren):List AF→List Frame→Prop
 |nil:FrL ρ [] []
 |cons {f:AF} {c:Frame} {l:List AF} {l':List Frame} (h:FrR ρ f c) (k:FrL ρ l l'):FrL ρ (f::l) (c::l')
theorem IR.mono {ρ σ:Ren} (hle:ρ.le σ) {a:AI} {x:Item} (h:IR ρ a x):IR σ a x:=by
 cases h with
 |code c=>exact .code c
 |inBlock id=>exact .inBlock id
 |inLoop b=>exact .inLoop b
 |inScope b=>exact .inScope b
 |ops all rest idx h=>exact .ops all rest idx h
 |inRange l base h=>exact .inRange l base (hle.m _ _ h)
 |endRange l base h=>exact .endRange l base (hle.m _ _ h)
 |beginRound=>exact .beginRound
 |dead all idx=>exact .dead all idx
theorem IL.mono {ρ σ:Ren} (hle:ρ.le σ) {a:List AI} {x:List Item} (h:IL ρ a x):IL σ a x:=by
 induction h with
 |nil=>exact .nil
 |cons h _ ih=>exact .cons (h.mono hle) ih
 |rest=>exact .rest
theorem CL.mono {ρ σ:Ren} (hle:ρ.le σ):∀{l:List (AV×Bool)} {l':List PanicEntry},CL ρ l l'→CL σ l l'
 |[],[],_=>trivial
 |_::_,_::_,⟨h1,h2,h3,h4⟩=>⟨h1.mono hle,h2,h3,h4.mono hle⟩
theorem MR.mono {ρ σ:Ren} (hle:ρ.le σ) {a:F5} {x:FrameMode} (h:MR ρ a x):MR σ a x:=by
 cases h with
 |run=>exact .run
 |ret=>exact .ret
 |panic ch ch' h=>exact .panic ch ch' (h.mono hle)
theorem RR.mono {ρ σ:Ren} (hle:ρ.le σ) {a x:Option Nat} (h:RR ρ a x):RR σ a x:=by
 cases a<;>cases x<;>simp only [RR] at h ⊢
 obtain ⟨base,h1,h2⟩:=h;exact ⟨base,hle.m _ _ h1,h2⟩
theorem FrR.mono {ρ σ:Ren} (hle:ρ.le σ) {f:AF} {c:Frame} (h:FrR ρ f c):FrR σ f c:=
 ⟨h.fn,h.tm.mono hle,h.todo.mono hle,h.defers.mono hle,h.mode.mono hle,h.kind,h.round.mono hle⟩
theorem FrL.mono {ρ σ:Ren} (hle:ρ.le σ) {f:List AF} {c:List Frame} (h:FrL ρ f c):FrL σ f c:=by
 induction h with
 |nil=>exact .nil
 |cons h _ ih=>exact .cons (h.mono hle) ih
end
variable [U:Unk]
theorem FrR.evR {ρ:Ren} {f:AF} {c:Frame} (h:FrR ρ f c):EvR ρ f.tmps c.eval:=by
 intro o;have:=Hp h.tm o;cases o<;>exact this
theorem TR.put {ρ:Ren} {nt:Nat} {t:T AV} {a:Array Value} (h:TR ρ nt t a) {d:Nat} {v:AV} {v':Value} (hd:d<nt) (hv:VR ρ v v'):TR ρ nt (t.set d v) (a.setIfInBounds d v'):=by
 refine ⟨by simp [h.size],fun i x hx=>?_⟩
 rw [T.get_set] at hx;by_cases e:d=i
 ·subst e;rw [if_pos rfl] at hx;cases hx;have:d<a.size:=by rw [h.size];exact hd
  simpa [Array.getD_eq_getD_getElem?,this] using hv
 ·rw [if_neg e] at hx;have:=h.get i x hx;simpa [Array.getD_eq_getD_getElem?,Array.getElem?_setIfInBounds_ne e] using this
def Hc (a:Array Value) (dst:Option Tmp) (v:Value):Array Value:=match dst with|some d=>a.setIfInBounds d v|none=>a
theorem Uq {ρ:Ren} {nt:Nat} {t t':T AV} {a:Array Value} (h:TR ρ nt t a) {dst:Option Tmp} {v:AV} {v':Value} (hp:DB nt t dst v=some t') (hv:VR ρ v v') :
  TR ρ nt t' (Hc a dst v'):=by
 cases dst with
 |none=>simp only [DB,Option.some.injEq] at hp;subst hp;exact h
 |some d=>
  simp only [DB] at hp;cases hb:Nat.blt d nt with
  |false=>rw [hb] at hp;cases hp
  |true=>
   rw [hb] at hp;simp only [Option.some.injEq] at hp;subst hp;exact h.put (by simpa [Nat.blt_eq] using hb) hv
theorem VR.not_bool {ρ:Ren} {a:AV} {v:Value} (h:VR ρ a v) (h1:∀b,a≠.bool b) (h2:a≠.top) (h3:∀p e,a≠.sb p e) (b:Bool):v≠.bool b:=by
 cases h with
 |sb p e=>exact absurd rfl (h3 p e)
 |top v=>exact absurd rfl h2
 |bool c=>exact absurd rfl (h1 c)
 |_=>exact fun e=>by cases e
theorem Be {ρ:Ren} {nt:Nat} {t:T AV} {a:Array Value} (h:TR ρ nt t a) {all:Array Oper} {o:Oper} {b:Bool} (hw:A1 all o t=some b):Region.wanted o (yielded all a)=b:=by
 unfold A1 at hw;unfold Region.wanted;cases hg:o.guard with
 |none=>rw [hg] at hw;simpa using hw
 |some p=>
  obtain ⟨j,want⟩:=p;rw [hg] at hw;simp only at hw ⊢;unfold yielded;have ha:all[j]?=all.toList[j]?:=by simp
  rw [ha];cases hj:all.toList[j]? with
  |none=>rw [hj] at hw;simp at hw ⊢;exact hw
  |some g=>
   rw [hj] at hw;simp only [Option.bind_some] at hw ⊢;cases hd:g.dst with
   |none=>rw [hd] at hw;simp at hw ⊢;exact hw
   |some d=>
    rw [hd] at hw;simp only [Option.bind_some] at hw ⊢;cases ht:t.get d with
    |none=>rw [ht] at hw;cases hw
    |some v=>
     rw [ht] at hw;have hv:=h.get d v ht;rw [Array.getD_eq_getD_getElem?] at hv
     have hnb:(∀b,v≠.bool b)→v≠.top→(∀p e,v≠.sb p e)→((match a[d]? with|some (.bool b)=>some b|_=>none)==some want)=false:=by
      intro h1 h2 h3;cases hx:a[d]? with
      |none=>rfl
      |some x=>
       rw [hx] at hv;cases x with
       |bool c=>exact absurd rfl (hv.not_bool h1 h2 h3 c)
       |_=>rfl
     cases v with
     |top=>cases hw
     |sb p e=>
      simp only at hw;split at hw
      ·rename_i q hq;have he:=An U.ok hq;simp only [Option.some.injEq] at hw;cases hx:a[d]? with
       |none=>rw [hx] at hv;cases hv
       |some x=>
        rw [hx] at hv;cases hv;rw [he];simpa using hw
      ·cases hw
     |bool e=>
      simp only [Option.some.injEq] at hw;cases hx:a[d]? with
      |none=>rw [hx] at hv;cases hv
      |some x=>
       rw [hx] at hv;cases hv;subst hw;simp
     |_=>
      simp only [Option.some.injEq] at hw;subst hw;exact hnb (fun b e=>by cases e) (fun e=>by cases e) (fun p b e=>by cases e)
end Go.AE
namespace Go.AE
variable [Gl:Au]
variable [U:Unk]
theorem IL.ops_inv {ρ:Ren} {all:Array Oper} {o:Oper} {rest:List Oper} {k:List AI} {l:List Item} (h:IL ρ (.ops all (o::rest)::k) l) :
  ∃i idx k',l=.inRegion all (i::idx)::k'∧all[i]?=some o∧rest.map some=idx.map (fun i=>all[i]?)∧IL ρ k k':=by
 cases h with
 |cons h hk=>
  cases h with
  |ops all rest idx h=>
   cases idx with
   |nil=>cases h
   |cons i idx=>
    simp only [List.map_cons,List.cons.injEq] at h;exact ⟨i,idx,_,rfl,h.1.symm,h.2,hk⟩
theorem Bq {ρ:Ren} {f f':AF} {c:Frame} (h:FrR ρ f c) {v:AV} {v':Value} (hf:AP f v=some f') (hv:VR ρ v v'):FrR ρ f' (c.finish v'):=by
 have htodo:=h.todo;unfold AP at hf;split at hf
 ·rename_i all o rest k ht;rw [ht] at htodo;obtain ⟨i,idx,k',e,ho,hm,hk⟩:=htodo.ops_inv;split at hf
  ·rename_i t hp;simp only [Option.some.injEq] at hf;subst hf;have:=Uq h.tm hp hv
   have ef:c.finish v'={c with tmps:=Hc c.tmps o.dst v',todo:=.inRegion all idx::k'}:=by
    simp only [Frame.finish,e,ho,Option.bind_some,Hc];cases o.dst<;>rfl
   rw [ef];exact ⟨h.fn,this,.cons (.ops _ _ _ hm) hk,h.defers,h.mode,h.kind,h.round⟩
  ·cases hf
 ·rename_i l k ht;rw [ht] at htodo;simp only [Option.some.injEq] at hf;subst hf;generalize hl:c.todo=l' at htodo;cases htodo with
  |cons a hk=>
   cases a with
   |inRange l base hb=>
    simp only [Frame.finish,hl];exact ⟨h.fn,h.tm,.cons (.endRange _ _ hb) hk,h.defers,h.mode,h.kind,h.round⟩
 ·rename_i k ht;rw [ht] at htodo;simp only [Option.some.injEq] at hf;subst hf;generalize hl:c.todo=l' at htodo;cases htodo with
  |cons a hk=>
   cases a with
   |beginRound=>
    simp only [Frame.finish,hl];exact ⟨h.fn,h.tm,hk,h.defers,h.mode,h.kind,h.round⟩
 ·cases hf
theorem TR.ofArgs {ρ:Ren} {n:Nat} {args:List AV} {args':List Value} (ha:VL ρ args args'):TR ρ (max n args.length) (.ofList args) (args'.toArray++Array.replicate (n-args'.toArray.size) undef):=by
 have hl:=ha.1;refine ⟨by simp;omega,fun i x hx=>?_⟩
 rw [T.get_ofList] at hx;obtain ⟨v,hv,hvr⟩:=ha.get hx;have hi:i<args'.length:=(List.getElem?_eq_some_iff.1 hv).1;rw [Array.getD_eq_getD_getElem?,Array.getElem?_append_left (by simpa using hi)]
 simpa [hv] using hvr
theorem Cp {E:Env} (hE:OK E) {ρ:Ren} {f:FuncId} {args:List AV} {args':List Value} {kind:CallKind} {g:AF} (hg:BO E f args kind=some g) (ha:VL ρ args args') :
  FrR ρ g (Frame.enter E.P f args'.toArray kind):=by
 unfold BO at hg;split at hg
 ·rename_i fn hf;split at hg
  ·rename_i c hc;simp only [Option.some.injEq] at hg;subst hg
   have e:Frame.enter E.P f args'.toArray kind={fn:=f,tmps:=args'.toArray++Array.replicate (fn.ntmps-args'.toArray.size) undef,todo:=[.code c],defers:=[],mode:=.run,kind}:=by
    simp [Frame.enter,hE.fn f fn hf,hc]
   rw [e];exact ⟨rfl,TR.ofArgs ha,.cons (.code c) .nil,trivial,.run,rfl,trivial⟩
  ·cases hg
 ·cases hg
theorem HD {ρ:Ren} {nt:Nat}:∀{ps:List Tmp} {t t':T AV} {tm:Array Value} {args:List AV} {args':List Value},TR ρ nt t tm→VL ρ args args'→Ed nt t ps args=some t'→
  args'.length=ps.length∧TR ρ nt t' ((ps.zip args').foldl (fun tmps x=>tmps.setIfInBounds x.1 x.2) tm)
 |[],t,t',tm,[],args',h,ha,hs=>by
  cases ha.nil_inv;simp only [Ed,Option.some.injEq] at hs;subst hs;exact ⟨rfl,h⟩
 |[],t,t',tm,_::_,args',h,ha,hs=>by cases hs
 |_::_,t,t',tm,[],args',h,ha,hs=>by cases hs
 |p::ps,t,t',tm,a::as,args',h,ha,hs=>by
  obtain ⟨v,r,rfl,h1,h2⟩:=ha.cons_inv;simp only [Ed] at hs;cases hb:Nat.blt p nt with
  |false=>rw [hb] at hs;cases hs
  |true=>
   rw [hb] at hs;obtain ⟨q1,q2⟩:=HD (h.put (by simpa [Nat.blt_eq] using hb) h1) h2 hs
   exact ⟨by simp [q1],q2⟩
theorem KS {E:Env} {ρ:Ren} {h:Aa} {w:World} (hr:HR ρ h.blk.get w) {l:Nat} {base:Bf} {args:List AV} {args':List Value} {g:AF} (hb:ρ l=some base) (hg:Fl l args h=some g) (ha:VL ρ args args') :
  ∃fn tm assign body,(Instr.yield base.cb args'.toArray).run E.P w=.ok (.round base.cb fn tm assign body) w∧FrR ρ g (Frame.round base.cb fn tm assign body .normal):=by
 unfold Fl at hg;split at hg
 ·rename_i st pending fn nt tmps params assign body d hl;split at hg
  ·rename_i t hs;simp only [Option.some.injEq] at hg;subst hg;obtain ⟨tm,bd,h1,h2,h3⟩:=hr.blk l base _ hb hl;obtain ⟨q1,q2⟩:=HD h2 ha hs;refine ⟨fn,_,assign,body,?_,⟨rfl,q2,.cons (.code _) (.cons .beginRound (.cons (.code _) .nil)),trivial,.run,rfl,⟨base,hb,rfl⟩⟩⟩;have hgo:=Ao E.P h3 (fun _ _ _ e=>by cases e)
   simp only [Instr.yield,Instr.getLoop,Sem.run_bind,hgo,Result.andThen_ok,Sem.run_pure];simp [q1]
  ·cases hg
 ·cases hg
end Go.AE
namespace Go.AE
variable [Gl:Au]
section
variable [U:Vals]
structure SR (ρ:Ren) (s:AS) (cf:Frame) (ccs:List Frame) (w:World):Prop where
 fr:FrR ρ s.fr cf
 cs:FrL ρ s.cs ccs
 h:HR ρ s.h.blk.get w
end
variable [U:Unk]
def AA (P:Program) (base:List Frame) (ρ:Ren) (h:Aa) (fr0:Frame) (ccs:List Frame) (w0 w:World) (s':AS):Prop:=
 ∃σ cf' ccs' w',step P (lone fr0 (ccs++base) w0)=.next (lone cf' (ccs'++base) w')∧SR σ s' cf' ccs' w'∧Ext ρ σ h s'.h w w'
theorem IL.not_call {ρ:Ren} {l:List AI} {l':List Item} (h:IL ρ l l') (d:Deferred) (b:Bool) (r:String) (a:Array Value) (k:List Item):l'≠.call d b r a::k:=by
 intro e;cases h with
 |nil=>cases e
 |cons h _=>cases e;cases h
 |rest=>exact U.hR _ _ _ _ _ e
section
variable {E:Env} (hE:OK E) {ρ:Ren} {h:Aa} {w w0:World} {fr0 c:Frame} {f:AF} {cs:List AF} {ccs base:List Frame} {s:Sem Next} {r:Res} {s':AS}
include hE
theorem Ek (hst:(stepG E.P true {frame:=fr0,callers:=ccs++base,status:=.running,dying:=none} w0).bare=(stepG.apply E.P true c (ccs++base) none s w).bare)
  (hd:DQ E ρ h w s r) (hr:HR ρ h.blk.get w) (hf:FrR ρ f c) (hcs:FrL ρ cs ccs) (hm:c.mode=.run) (hx:Bi E f cs r=.next s') (hfree:Ax ρ h.nx s'.h.nx) :
  AA E.P base ρ h fr0 ccs w0 w s':=by
 cases r with
 |val v h'=>
  simp only [Bi] at hx;split at hx
  ·rename_i f' hff;cases hx;obtain ⟨σ,v',w',q1,q2,q3,q4⟩:=hd hfree;refine ⟨σ,c.finish v',ccs,w',step_lone_go ?_,⟨Bq (hf.mono q4.le) hff q2,hcs.mono q4.le,q3⟩,q4⟩;rw [hst];rcases q1 with q1|⟨q1,rfl⟩<;>simp [stepG.apply,q1]
  ·cases hx
 |enter g args h'=>
  obtain ⟨rfl,args',ha,hrun⟩:=hd;simp only [Bi] at hx;split at hx
  ·rename_i g' hg;cases hx;refine ⟨ρ,_,c::ccs,w,step_lone_go ?_,⟨Cp hE hg ha,.cons hf hcs,hr⟩,Ext.refl _ _ _⟩;rw [hst];have ht:=hf.todo;simp only [stepG.apply,Sem.runT_eq,hrun,if_true,GStep.bare_after,GStep.bare_go,List.cons_append];generalize c.todo=td at ht;generalize f.todo=fd at ht;cases ht with
   |nil=>rfl
   |cons a _=>cases a<;>rfl
   |rest=>
    generalize hq:U.R=r;cases r with
    |nil=>rfl
    |cons x k=>cases x<;>first|rfl|exact absurd hq (U.hR _ _ _ _ _)
  ·cases hx
 |round l args h'=>
  obtain ⟨rfl,lb,args',hb,ha,hrun⟩:=hd;simp only [Bi] at hx;split at hx
  ·rename_i g' hg;cases hx;obtain ⟨fn,tm,assign,body,q1,q2⟩:=KS (E:=E) hr hb hg ha;refine ⟨ρ,_,c::ccs,w,step_lone_go ?_,⟨q2,.cons hf hcs,hr⟩,Ext.refl _ _ _⟩;rw [hst];simp [stepG.apply,hrun,q1]
  ·cases hx
 |defer d h'=>
  obtain ⟨rfl,d',hdr,hrun⟩:=hd;simp only [Bi] at hx;split at hx
  ·cases hx
  ·split at hx
   ·rename_i f' hff;cases hx;have hfin:=Bq hf hff (VR.undef ρ);refine ⟨ρ,{c with defers:=d'::c.defers}.finish undef,ccs,w,step_lone_go ?_,⟨?_,hcs,hr⟩,Ext.refl _ _ _⟩
    ·rw [hst];simp [stepG.apply,hrun]
    ·have e:({c with defers:=d'::c.defers}:Frame).finish undef={c.finish undef with defers:=d'::(c.finish undef).defers}:=by
      unfold Frame.finish;simp only;split<;>rfl
     rw [e];exact ⟨hfin.fn,hfin.tm,hfin.todo,⟨hdr,hfin.defers⟩,hfin.mode,hfin.kind,hfin.round⟩
   ·cases hx
 |recover h'=>
  obtain ⟨rfl,hrun⟩:=hd;simp only [Bi] at hx;split at hx
  ·rename_i a rest hround hkind;have hk:c.kind=.deferred:=hf.kind.trans hkind
   have hro:c.roundOf=none:=by
    have:=hf.round;rw [hround] at this;cases hc:c.roundOf with
    |none=>rfl
    |some l=>rw [hc] at this;exact this.elim
   cases hcs with
   |cons ha hrest=>
    rename_i cc crest;have hmode:=ha.mode;split at hx
    ·rename_i v older hma;split at hx
     ·rename_i f' hff;cases hx;rw [hma] at hmode;generalize hcm:cc.mode=cm at hmode;cases hmode with
      |panic _ ch' hch=>
       cases ch' with
       |nil=>exact hch.elim
       |cons e older'=>
        obtain ⟨h1,h2,h3,h4⟩:=hch;obtain ⟨ev,er,eg⟩:=e;simp only at h1 h2 h3;subst h2;subst h3;refine ⟨ρ,c.finish ev,{cc with mode:=.panicking ({v:=ev,recovered:=true}::older')}::crest,w,step_lone_go ?_,⟨Bq hf hff h1,.cons ⟨ha.fn,ha.tm,ha.todo,ha.defers,.panic _ _ ⟨h1,rfl,rfl,h4⟩,ha.kind,ha.round⟩ hrest,hr⟩,Ext.refl _ _ _⟩
        rw [hst];simp [stepG.apply,hrun,hro,tryRecover,hk,hcm]
     ·cases hx
    ·rename_i hne;split at hx
     ·rename_i f' hff;cases hx;refine ⟨ρ,c.finish .nilIface,cc::crest,w,step_lone_go ?_,⟨Bq hf hff .nilIface,.cons ha hrest,hr⟩,Ext.refl _ _ _⟩;rw [hst]
      have:tryRecover c (cc::(crest++base))=none:=by
       have hno:∀v older,cc.mode≠.panicking ({v,recovered:=false,goexit:=false}::older):=by
        intro v older he;rw [he] at hmode;generalize ham:a.mode=am at hmode;cases hmode with
        |panic ch _ hch=>
         cases ch with
         |nil=>exact hch.elim
         |cons x r=>
          obtain ⟨xv,xb⟩:=x;obtain ⟨h1,h2,h3,h4⟩:=hch;simp only at h2;subst h2;exact hne _ _ ham
       simp only [tryRecover,hk]
      simp [stepG.apply,hrun,hro,this]
     ·cases hx
  ·cases hx
 |panic v h'=>
  obtain ⟨rfl,v',hv,hrun⟩:=hd;simp only [Bi] at hx;split at hx
  ·cases hx;refine ⟨ρ,{c with mode:=.panicking [{v:=v',recovered:=false}]},ccs,w,step_lone_go ?_,⟨⟨hf.fn,hf.tm,hf.todo,hf.defers,.panic _ _ ⟨hv,rfl,rfl,trivial⟩,hf.kind,hf.round⟩,hcs,hr⟩,Ext.refl _ _ _⟩
   rw [hst];simp [stepG.apply,hrun,Frame.raise,hm]
  ·cases hx
 |bad y=>cases hx
end
end Go.AE
namespace Go.AE
variable [Gl:Au]
variable [U:Unk]
theorem JX {ρ:Ren} {id:Nat} {k:List AI} {k':List Item} (h:IL ρ k k'):(∀r,Im id k=some r→∃r',exitTo id k'=some r'∧IL ρ r r')∧(Im id k=none→G1 k=false→exitTo id k'=none):=by
 induction h with
 |nil=>exact ⟨(fun r h=>by cases h),fun _ _=>rfl⟩
 |rest=>exact ⟨(fun r h=>by cases h),(fun _ h=>by cases h)⟩
 |cons h hk ih=>
  cases h with
  |inBlock i=>
   simp only [Im,exitTo];cases hb:Nat.beq i id with
   |true=>
    have:=Aq hb;subst this;exact ⟨fun r hr=>⟨_,if_pos (by simp),by cases hr;exact hk⟩,(fun hr _=>by cases hr)⟩
   |false=>
    have hne:(i==id)=false:=by simpa using NI hb
    rw [hne];exact ih
  |_=>exact ih
theorem JY {ρ:Ren} {l:Nat} {k:List AI} {k':List Item} (h:IL ρ k k'):(∀r,K0 l k=some r→∃r',gotoIn l k'=some r'∧IL ρ r r')∧(K0 l k=none→G1 k=false→gotoIn l k'=none):=by
 induction h with
 |nil=>exact ⟨(fun r h=>by cases h),fun _ _=>rfl⟩
 |rest=>exact ⟨(fun r h=>by cases h),(fun _ h=>by cases h)⟩
 |cons h hk ih=>
  cases h with
  |inScope b=>
   simp only [K0,gotoIn];cases hb:findLabel b l with
   |some rest=>exact ⟨fun r hr=>⟨_,rfl,by cases hr;exact .cons (.code _) (.cons (.inScope _) hk)⟩,(fun hr _=>by cases hr)⟩
   |none=>exact ih
  |_=>exact ih
theorem CL.calm {ρ:Ren}:∀{l:List (AV×Bool)} {l':List PanicEntry},CL ρ l l'→∀y∈l',y.goexit=false
 |[],[],_,y,hy=>by cases hy
 |_::_,e::r,⟨h1,h2,h3,h4⟩,y,hy=>by
  rcases List.mem_cons.1 hy with rfl|hy
  ·exact h3
  ·exact CL.calm h4 y hy
theorem NR:∀(l:List PanicEntry),(∀y∈l,y.goexit=false)→l.dropWhile (!·.goexit)=[]
 |[],_=>rfl
 |y::r,h=>by
  rw [List.dropWhile_cons_of_pos (by simp [h y (by simp)])]
  exact NR r fun z hz=>h z (by simp [hz])
section
variable {E:Env} (hE:OK E) {ρ:Ren} {h:Aa} {w w0:World} {fr0 c:Frame} {f:AF} {cs:List AF} {ccs base:List Frame} {s':AS}
theorem Gn {v:AV} {v':Value} (hst:(stepG E.P true {frame:=fr0,callers:=ccs++base,status:=.running,dying:=none} w0).bare=(doReturn E.P true c (ccs++base) none v' w).bare)
  (hr:HR ρ h.blk.get w) (hk:c.kind=f.kind) (hcs:FrL ρ cs ccs) (hv:VR ρ v v') (hx:B8 f cs v h=.next s'):AA E.P base ρ h fr0 ccs w0 w s':=by
 unfold B8 at hx;cases hcs with
 |nil=>
  simp only at hx;split at hx<;>cases hx
 |cons ha hrest=>
  rename_i a cc rest crest;simp only at hx;split at hx
  ·rename_i hkind;split at hx
   ·rename_i c' hff;cases hx;refine ⟨ρ,_,crest,w,step_lone_go ?_,⟨Bq ha hff hv,hrest,hr⟩,Ext.refl _ _ _⟩;rw [hst];simp [doReturn,hk,hkind]
   ·cases hx
  ·rename_i hkind;have hmode:=ha.mode;split at hx
   ·rename_i x older hma;cases hx;rw [hma] at hmode;generalize hcm:cc.mode=cm at hmode;cases hmode with
    |panic _ ch' hch=>
     cases ch' with
     |nil=>exact hch.elim
     |cons e older'=>
      have hcalm:=hch.calm;obtain ⟨h1,h2,h3,h4⟩:=hch;obtain ⟨ev,er,eg⟩:=e;simp only at h1 h2 h3;subst h2;subst h3;refine ⟨ρ,{cc with mode:=.returning},crest,w,step_lone_go ?_,⟨⟨ha.fn,ha.tm,ha.todo,ha.defers,.ret,ha.kind,ha.round⟩,hrest,hr⟩,Ext.refl _ _ _⟩
      rw [hst];simp [doReturn,hk,hkind,hcm,NR older' fun y hy=>hcalm y (by simp [hy])]
   ·rename_i hne;cases hx;refine ⟨ρ,_,crest,w,step_lone_go ?_,⟨ha,hrest,hr⟩,Ext.refl _ _ _⟩;rw [hst]
    have hno:∀x g older,cc.mode≠.panicking ({v:=x,recovered:=true,goexit:=g}::older):=by
     intro x g older he;rw [he] at hmode;generalize ham:a.mode=am at hmode;cases hmode with
     |panic ch _ hch=>
      cases ch with
      |nil=>exact hch.elim
      |cons x r=>
       obtain ⟨xv,xb⟩:=x;obtain ⟨h1,h2,h3,h4⟩:=hch;simp only at h2;subst h2;exact hne _ _ ham
    simp only [List.cons_append,doReturn,hk,hkind,GStep.bare_go]
  ·cases hx
include hE
theorem Fs (hr:HR ρ h.blk.get w) (hf:FrR ρ f c):∀{rs:List ResultVar} {l:List AV},Bp E f h rs=some l→
  ∃l':List Value,VL ρ l l'∧(rs.mapM fun|.tmp t=>pure (c.tmps.getD t undef)|.cell a t=>do loadVar t (←asAddr (c.tmps.getD a undef)):Sem (List Value)).run E.P w=.ok l' w
 |[],l,hs=>by
  simp only [Bp,Option.some.injEq] at hs;subst hs;exact ⟨[],VL.nil ρ,by simp⟩
 |.tmp t::r,l,hs=>by
  simp only [Bp] at hs;cases hq:Bp E f h r with
  |none=>rw [hq] at hs;cases hs
  |some l1=>
   rw [hq] at hs;simp only [Option.some.injEq] at hs;subst hs;obtain ⟨l',q1,q2⟩:=Fs hr hf hq;refine ⟨c.tmps.getD t undef::l',VL.cons ?_ q1,?_⟩
   ·cases hg:f.tmps.get t with
    |none=>exact .top _
    |some a=>exact hf.tm.get t a hg
   ·simp only [List.mapM_cons,Sem.run_bind,Sem.run_pure,Result.andThen_ok,q2]
 |.cell a t::r,l,hs=>by
  simp only [Bp] at hs;cases hg:f.tmps.get a with
  |none=>rw [hg] at hs;cases hs
  |some p=>
   rw [hg] at hs;simp only at hs;cases hl:LG E t p h with
   |none=>rw [hl] at hs;cases hs
   |some v=>
    cases hq:Bp E f h r with
    |none=>rw [hl,hq] at hs;cases hs
    |some l1=>
     rw [hl,hq] at hs;simp only [Option.some.injEq] at hs;subst hs;obtain ⟨l',q1,q2⟩:=Fs hr hf hq;have hp:=hf.tm.get a p hg;obtain ⟨v',p1,p2⟩:=N3 hE hr hp hl;refine ⟨v'::l',VL.cons p2 q1,?_⟩
     have:(do loadVar t (←asAddr (c.tmps.getD a undef)):Sem Value).run E.P w=.ok v' w:=by
      generalize c.tmps.getD a undef=x at p1 hp;cases x with
      |pointer o=>cases o with
       |none=>simp [Instr.loadAt,Instr.sureAddr,stuck] at p1
       |some y=>simpa [Instr.loadAt,Instr.sureAddr,asAddr] using p1
      |_=>simp [Instr.loadAt,Instr.sureAddr,stuck] at p1
     simp only [List.mapM_cons,Sem.run_bind,Sem.run_pure] at this ⊢;rw [this];simp only [Result.andThen_ok,q2]
theorem EI (hr:HR ρ h.blk.get w) (hf:FrR ρ f c) {fn:Func} {l:List AV} (hs:Bp E f h fn.results.toList=some l) :
  ∃v',(results fn c.tmps).run E.P w=.ok v' w∧(∀a,l=[a]→VR ρ a v')∧((∀a,l≠[a])→VR ρ (.tuple l) v'):=by
 obtain ⟨l',q1,q2⟩:=Fs hE hr hf hs;unfold results;rw [Array.mapM_eq_mapM_toList];simp only [Sem.run_bind,Sem.run_map,Sem.run_pure];refine ⟨if h:l'.toArray.size=1 then l'.toArray[0] else .tuple l'.toArray,?_,?_,?_⟩
 ·have key:∀R:Result (List Value),R=.ok l' w→((R.andThen fun a w'=>Result.ok a.toArray w').andThen fun a w'=>Result.ok (if h:a.size=1 then a[0] else Value.tuple a) w') =
    Result.ok (if h:l'.toArray.size=1 then l'.toArray[0] else Value.tuple l'.toArray) w:=by rintro _ rfl;rfl
  refine key _ ?_;rw [←q2]
  congr 2
 ·rintro a rfl
  obtain ⟨v,r,rfl,h1,h2⟩:=q1.cons_inv;cases h2.nil_inv;simpa using h1
 ·intro hne
  have:l'.toArray.size≠1:=by
   intro he;have hl:=q1.1;simp only [List.size_toArray] at he;rw [he] at hl;obtain ⟨a,rfl⟩:=List.length_eq_one_iff.1 hl;exact hne a rfl
  rw [dif_neg this];exact .tuple _ _ q1.1 q1.2
end
end Go.AE
namespace Go.AE
variable [Gl:Au]
variable [U:Unk]
theorem AA.pre {P:Program} {base:List Frame} {ρ σ:Ren} {h h1:Aa} {fr0:Frame} {ccs:List Frame} {w0 w w1:World} {s':AS} (e:Ext ρ σ h h1 w w1) (st:AA P base σ h1 fr0 ccs w0 w1 s') (hf:Ax ρ h.nx s'.h.nx) :
  AA P base ρ h fr0 ccs w0 w s':=by
 obtain ⟨τ,cf',ccs',w',q1,q2,q3⟩:=st;exact ⟨τ,cf',ccs',w',q1,q2,e.trans q3 hf⟩
section
variable {P:Program} {fr:Frame} {k:List Item} {cs:List Frame} {w:World}
theorem JI {l:Nat} {jump:Option Code} {w':World} {v:Value} (hm:fr.mode=.run) (hr:fr.roundOf=some l)
  (ht:(fr.todo=[]∧jump=none)∨(∃k,fr.todo=.code .ret::k∧jump=some .ret)∨(∃id k,fr.todo=.code (.exit id)::k∧exitTo id k=none∧jump=some (.exit id))∨(∃l k,fr.todo=.code (.goto l)::k∧gotoIn l k=none∧jump=some (.goto l)))
  (hrun:(Instr.endRound l jump).run P w=.ok v w'):(stepG P true {frame:=fr,callers:=cs,status:=.running,dying:=none} w).bare=(doReturn P true fr cs none v w').bare:=by
 rcases ht with ⟨ht,rfl⟩|⟨k,ht,rfl⟩|⟨id,k,ht,he,rfl⟩|⟨l',k,ht,he,rfl⟩<;>
 (cases fr;simp only at hm ht hr;subst hm;subst ht;subst hr;simp [stepG,stepG.exec,Sem.runT_eq, *])
theorem HC {v:Value} {fn:Func} (hm:fr.mode=.returning) (hd:fr.defers=[]) (hf:P.funcs[fr.fn]?=some fn) (hr:(results fn fr.tmps).run P w=.ok v w) :
  (stepG P true {frame:=fr,callers:=cs,status:=.running,dying:=none} w).bare=(doReturn P true fr cs none v w).bare:=by
 simp [stepG,unwind,hm,hd,hf,Sem.runT_eq,hr]
theorem dI {c:Frame} {chain:List PanicEntry} (hm:fr.mode=.panicking chain) (hd:fr.defers=[]) (ht:∀d b r a k,fr.todo≠.call d b r a::k):step P (lone fr (c::cs) w)=.next (lone (c.raise chain) cs w):=by
 have hc:fr.catches P=false:=by
  unfold Frame.catches;split
  ·rename_i h1 h2;exact absurd h2 (ht _ _ _ _ _)
  ·rfl
 exact step_lone_go (by simp [stepG,unwind,hm,hd,hc])
end
section
variable {E:Env} (hE:OK E) {ρ:Ren} {h:Aa} {w:World} {c:Frame} {f:AF} {cs:List AF} {ccs base:List Frame} {s':AS}
theorem Ij (hr:HR ρ h.blk.get w) {l:Nat} {b:Bf} {st:LoopState} {pending:Option Code} {fn:FuncId} {nt:Nat} {tmps:T AV} {params:List Tmp} {assign body:Code} {d:Nat} (hb:ρ l=some b)
  (hl:h.blk.get l=some (.loop st pending fn nt tmps params assign body d)) (jump:Option Code) :
  ∃w',(Instr.endRound b.cb jump).run E.P w=.ok (.bool jump.isNone) w'∧HR ρ (h.put l (.loop (if jump.isNone then .ready else .done) jump fn nt tmps params assign body d)).blk.get w'∧
   Ext ρ ρ h (h.put l (.loop (if jump.isNone then .ready else .done) jump fn nt tmps params assign body d)) w w':=by
 obtain ⟨tm,bd,h1,h2,h3⟩:=hr.blk l b _ hb hl;have hg:=Ao E.P h3 (fun _ _ _ e=>by cases e)
 obtain ⟨q1,q2⟩:=hr.setObj hb (by rw [hl];exact fun e=>by cases e) (.loop (if jump.isNone then .ready else .done) jump fn nt tmps params assign body d)
  (.loop {state:=if jump.isNone then .ready else .done,pending:=jump,fn:=fn,tmps:=tm,params:=params.toArray,assign:=assign,body:=body,defers:=bd.cb}) ⟨tm,bd,h1,h2,rfl⟩
 refine ⟨_,?_,q1,q2⟩;have hs:=fun o'=>At (o':=o') E.P h3 (fun _ _ _ e=>by cases e)
 simp only [Instr.endRound,Instr.getLoop,Sem.run_bind,hg,Result.andThen_ok,Sem.run_pure,hs]
theorem RR.none_inv {ρ:Ren} {x:Option Nat} (h:RR ρ none x):x=none:=by
 cases x with
 |none=>rfl
 |some l=>exact h.elim
theorem RR.some_inv {ρ:Ren} {l:Nat} {x:Option Nat} (h:RR ρ (some l) x):∃b,ρ l=some b∧x=some b.cb:=by
 cases x with
 |none=>exact h.elim
 |some c=>obtain ⟨b,h1,rfl⟩:=h;exact ⟨b,h1,rfl⟩
theorem FJ (hr:HR ρ h.blk.get w) (hf:FrR ρ f c) (hcs:FrL ρ cs ccs) (hm:c.mode=.run) {jump:Option Code}
  (ht:(c.todo=[]∧jump=none)∨(∃k,c.todo=.code .ret::k∧jump=some .ret)∨(∃id k,c.todo=.code (.exit id)::k∧exitTo id k=none∧jump=some (.exit id))∨(∃l k,c.todo=.code (.goto l)::k∧gotoIn l k=none∧jump=some (.goto l)))
  (hx:C6 f cs h jump=.next s') (hfree:Ax ρ h.nx s'.h.nx):AA E.P base ρ h c ccs w w s':=by
 have hround:=hf.round;unfold C6 at hx;split at hx
 ·rename_i hrn;rw [hrn] at hround;have hro:=hround.none_inv
  have hto:c.todo=[]∨∃k,c.todo=.code .ret::k:=by
   rcases ht with ⟨ht,_⟩|⟨k,ht,_⟩|⟨id,k,ht,he,rfl⟩|⟨l',k,ht,he,rfl⟩
   ·exact .inl ht
   ·exact .inr ⟨k,ht⟩
   ·cases hx
   ·cases hx
  have hs:s'={fr:={f with mode:=.ret},cs,h}:=by
   split at hx
   ·cases hx;rfl
   ·cases hx;rfl
   ·cases hx
  subst hs;exact ⟨ρ,_,ccs,w,ZO hm hto hro,⟨⟨hf.fn,hf.tm,hf.todo,hf.defers,.ret,hf.kind,hf.round⟩,hcs,hr⟩,Ext.refl _ _ _⟩
 ·rename_i l hrs;rw [hrs] at hround;obtain ⟨b,hb,hro⟩:=hround.some_inv;split at hx
  ·rename_i st pending fn nt tmps params assign body d hl;obtain ⟨w',q1,q2,q3⟩:=Ij (E:=E) hr hb hl jump;exact AA.pre q3 (Gn (JI hm hro ht q1) q2 hf.kind hcs (.bool _) hx) hfree
  ·cases hx
include hE
theorem Oo (hr:HR ρ h.blk.get w) (hf:FrR ρ f c) (hcs:FrL ρ cs ccs) (hm:c.mode≠.run) (hx:Dl E f cs h=.next s'):AA E.P base ρ h c ccs w w s':=by
 have hdef:=hf.defers;unfold Dl at hx;split at hx
 ·rename_i d ds hfd;rw [hfd] at hdef;cases hcd:c.defers with
  |nil=>rw [hcd] at hdef;exact hdef.elim
  |cons d' ds'=>
   rw [hcd] at hdef;obtain ⟨hdr,hds⟩:=hdef;unfold DR at hdr;split at hx
   ·rename_i hfn;rw [hfn] at hdr;obtain ⟨b,hb,rfl⟩:=hdr;split at hx
    ·rename_i l hl;cases hx;obtain ⟨l',q1,q2⟩:=hr.blk _ b _ hb hl;obtain ⟨p1,p2⟩:=hr.setObj hb (by rw [hl];exact fun e=>by cases e) (.deferred none) (.deferred none) rfl
     refine ⟨ρ,_,ccs,_,Sv hm hcd ?_,⟨⟨hf.fn,hf.tm,hf.todo,q1.append hds,hf.mode,hf.kind,hf.round⟩,hcs,p1⟩,p2⟩;have hg:=Ao E.P q2 (fun _ _ _ e=>by cases e)
     have hs:=At (o':=.deferred none) E.P q2 (fun _ _ _ e=>by cases e)
     simp only [Instr.takeDeferred,Sem.run_bind,hg,Result.andThen_ok,Sem.run_pure,hs]
    ·cases hx
   ·rename_i fn hfn;rw [hfn] at hdr;obtain ⟨fn',c',a',h1,h2,h3,rfl⟩:=hdr;have hi:=Ds hE hr h1 h2 h3;split at hx
    ·rename_i g args h' hiv;rw [hiv] at hi;obtain ⟨rfl,args',ha,hrun⟩:=hi;split at hx
     ·rename_i gf hg;cases hx;exact ⟨ρ,_,{c with defers:=ds'}::ccs,w,Ut hm hcd (fun b e=>by cases e) (fun e=>by cases e) hrun,⟨Cp hE hg ha,.cons ⟨hf.fn,hf.tm,hf.todo,hds,hf.mode,hf.kind,hf.round⟩ hcs,hr⟩,Ext.refl _ _ _⟩
     ·cases hx
    ·cases hx
 ·rename_i hfd;rw [hfd] at hdef
  have hcd:c.defers=[]:=by
   cases hcd:c.defers with
   |nil=>rfl
   |cons d' ds'=>rw [hcd] at hdef;exact hdef.elim
  have hmode:=hf.mode;split at hx
  ·cases hx
  ·rename_i chain hfm;rw [hfm] at hmode;generalize hcm:c.mode=cm at hmode;cases hmode with
   |panic _ ch' hch=>
    cases hcs with
    |nil=>
     simp only at hx;split at hx
     ·split at hx<;>cases hx
     ·cases hx
    |cons ha hrest=>
     rename_i a cc rest crest;simp only at hx;split at hx
     ·rename_i ham;cases hx;have hamode:=ha.mode;rw [ham] at hamode
      have hccm:cc.mode=.run:=by
       generalize cc.mode=x at hamode;cases hamode;rfl
      refine ⟨ρ,_,crest,w,dI hcm hcd (fun d b r a k=>hf.todo.not_call d b r a k),⟨?_,hrest,hr⟩,Ext.refl _ _ _⟩
      have e:cc.raise ch'={cc with mode:=.panicking ch'}:=by simp [Frame.raise,hccm]
      rw [e];exact ⟨ha.fn,ha.tm,ha.todo,ha.defers,.panic _ _ hch,ha.kind,ha.round⟩
     ·cases hx
  ·rename_i hfm;rw [hfm] at hmode
   have hcm:c.mode=.returning:=by
    generalize c.mode=x at hmode;cases hmode;rfl
   split at hx
   ·rename_i fn hfn;have hfn':E.P.funcs[c.fn]?=some fn:=by rw [hf.fn];exact hE.fn _ _ hfn
    split at hx
    ·rename_i v hrs;obtain ⟨v',p1,p2,p3⟩:=EI hE hr hf hrs;exact Gn (HC hcm hcd hfn' p1) hr hf.kind hcs (p2 _ rfl) hx
    ·rename_i l hne hrs;obtain ⟨v',p1,p2,p3⟩:=EI hE hr hf hrs;exact Gn (HC hcm hcd hfn' p1) hr hf.kind hcs (p3 fun a e=>hne a (by rw [e])) hx
    ·cases hx
   ·cases hx
end
end Go.AE
namespace Go.AE
variable [Gl:Au]
variable [U:Unk]
section
variable {E:Env} (hE:OK E) {ρ:Ren} {h:Aa} {w:World} {c:Frame} {f:AF} {cs:List AF} {ccs base:List Frame} {s s':AS}
theorem AA.to {P:Program} (hsr:SR ρ s c ccs w) {k:List AI} {k':List Item} (hk:IL ρ k k') (hst:step P (lone c (ccs++base) w)=.next (lone {c with todo:=k'} (ccs++base) w)) :
  AA P base ρ s.h c ccs w w {s with fr:={s.fr with todo:=k}}:=
 ⟨ρ,_,ccs,w,hst,⟨⟨hsr.fr.fn,hsr.fr.tm,hk,hsr.fr.defers,hsr.fr.mode,hsr.fr.kind,hsr.fr.round⟩,hsr.cs,hsr.h⟩,Ext.refl _ _ _⟩
theorem QS (ops:Array Oper):ops.toList.map some=(List.range ops.size).map fun i=>ops[i]?:=by
 apply List.ext_getElem (by simp)
 intro i h1 h2;simp at h1;simp [h1]
theorem CZ (tmps:T AV) (c:Call) (h:Aa):(∃d,Fz tmps c h=.defer d h)∨∃y,Fz tmps c h=.bad y:=by
 unfold Fz;split
 ·split
  ·exact .inl ⟨_,rfl⟩
  ·exact .inr ⟨_,rfl⟩
 ·exact .inr ⟨_,rfl⟩
theorem F5.not_run {ρ:Ren} {a:F5} {m:FrameMode} (h:MR ρ a m) (ha:a≠.run):m≠.run:=by
 cases h with
 |run=>exact absurd rfl ha
 |ret=>exact fun e=>by cases e
 |panic=>exact fun e=>by cases e
include hE
theorem nY (hsr:SR ρ s c ccs w) (hm:c.mode=.run) (hmf:s.fr.mode=.run) {all:Array Oper} {o:Oper} {rest:List Oper} {k:List AI} (ht:s.fr.todo=.ops all (o::rest)::k)
  (hx:(match A1 all o s.fr.tmps with
   |some true=>Bi E s.fr s.cs (aop E s.fr.tmps s.h o.op)
   |some false=>Bi E s.fr s.cs (.val .undef s.h)
   |none=>.bad "wanted")=.next s') (hfree:Ax ρ s.h.nx s'.h.nx):AA E.P base ρ s.h c ccs w w s':=by
 have htodo:=hsr.fr.todo;rw [ht] at htodo;obtain ⟨i,idx,k',e,ho,hmap,hk⟩:=htodo.ops_inv;split at hx
 ·rename_i hw;have hwt:=Be hsr.fr.tm hw
  have hd:c.roundOf=none∨∀cl,o.op≠.defer cl:=by
   cases hop:o.op with
   |defer cl=>
    left;have hround:=hsr.fr.round;rcases CZ s.fr.tmps cl s.h with ⟨d,hq⟩|⟨y,hq⟩
    ·have haop:aop E s.fr.tmps s.h o.op=.defer d s.h:=by rw [hop];simpa [aop] using hq
     rw [haop] at hx;simp only [Bi] at hx;split at hx
     ·cases hx
     ·rename_i hrn;rw [hrn] at hround;exact hround.none_inv
    ·have haop:aop E s.fr.tmps s.h o.op=.bad y:=by rw [hop];simpa [aop] using hq
     rw [haop] at hx;cases hx
   |_=>exact .inr fun cl e=>by cases e
  exact Ek hE (by rw [CP hm e ho hwt hd]) (H7 hE hsr.h hsr.fr.evR o) hsr.h hsr.fr hsr.cs hm hx hfree
 ·rename_i hw;have hwt:=Be hsr.fr.tm hw;simp only [Bi] at hx;split at hx
  ·rename_i f' hff;cases hx;exact ⟨ρ,_,ccs,w,Lz hm e ho hwt,⟨Bq hsr.fr hff (VR.undef ρ),hsr.cs,hsr.h⟩,Ext.refl _ _ _⟩
  ·cases hx
 ·cases hx
omit hE in
theorem DQ.congr {s t:Sem Next} {r:Res} (e:s.run E.P w=t.run E.P w) (d:DQ E ρ h w t r):DQ E ρ h w s r:=by
 cases r with
 |bad y=>trivial
 |_=>simpa only [DQ,e] using d
def JP (around:Option Nat):Sem (Nat×List Deferred):=match around with
  |some l=>do pure ((←Instr.getLoop l).defers,[])
  |none=>do
   let r ←newObj (.deferred (some []))
   pure (r,[{target:=.collected r,args:=#[]}])
omit hE in
theorem Oi (hr:HR ρ h.blk.get w) (hf:FrR ρ f c) {d:Nat} {h1:Aa} {mark:List AD} (hc:PW f h=some (d,h1,mark)) (hfree:Ax ρ h.nx h1.nx) :
  ∃σ w1 bd mark',(JP c.roundOf).run E.P w=.ok (bd.cb,mark') w1∧σ d=some bd∧DL σ mark mark'∧HR σ h1.blk.get w1∧Ext ρ σ h h1 w w1:=by
 have hround:=hf.round;unfold PW at hc;split at hc
 ·rename_i l hrs;rw [hrs] at hround;obtain ⟨b,hb,hro⟩:=hround.some_inv;split at hc
  ·rename_i hl;simp only [Option.some.injEq,Prod.mk.injEq] at hc;obtain ⟨rfl,rfl,rfl⟩:=hc;obtain ⟨tm,bd,q1,q2,q3⟩:=hr.blk l b _ hb hl;have hg:=Ao E.P q3 (fun _ _ _ e=>by cases e)
   refine ⟨ρ,w,bd,[],?_,q1,trivial,hr,Ext.refl _ _ _⟩;simp only [hro,JP,Instr.getLoop,Sem.run_bind,hg,Result.andThen_ok,Sem.run_pure]
  ·cases hc
 ·rename_i hrn;rw [hrn] at hround;have hro:=hround.none_inv;simp only [Option.some.injEq,Prod.mk.injEq] at hc;obtain ⟨rfl,rfl,rfl⟩:=hc;obtain ⟨q1,q2⟩:=hr.new (hfree h.nx (Nat.le_refl _) (by simp [Aa.new])) (.deferred (some [])) (.deferred (some [])) 0 ⟨[],trivial,rfl⟩ {w with heap:=w.heap.push (.deferred (some []))} rfl rfl rfl rfl
  have hu:(ρ.upd h.nx ⟨w.heap.size,0,0⟩) h.nx=some ⟨w.heap.size,0,0⟩:=by simp [Ren.upd]
  refine ⟨_,_,⟨w.heap.size,0,0⟩,[{target:=.collected w.heap.size,args:=#[]}],?_,hu,⟨⟨_,hu,rfl⟩,trivial⟩,q1,q2⟩;simp only [hro,JP,Sem.run_bind,run_newObj,Result.andThen_ok,Sem.run_pure]
theorem Tw (hsr:SR ρ s c ccs w) (hm:c.mode=.run) {fo:Operand} {params:Array Tmp} {assign body:Code} {k:List AI} {k':List Item} (hk:IL ρ k k') (ht:c.todo=.code (.rangeFunc fo params assign body)::k')
  (hx:FP E s fo params.toList assign body k=.next s') (hfree:Ax ρ s.h.nx s'.h.nx):AA E.P base ρ s.h c ccs w w s':=by
 unfold FP at hx;split at hx
 ·rename_i d h1 mark hcoll;split at hx
  ·rename_i fn first captured hev;split at hx
   ·rename_i g args h3 hiv;split at hx
    ·rename_i gf hg;cases hx;have hn1:(h1.new (.loop .ready none s.fr.fn s.fr.nt s.fr.tmps params.toList assign body d)).nx=h1.nx+1:=rfl;obtain ⟨σ,w1,bd,mark',q1,q2,q3,q4,q5⟩:=Oi (E:=E) hsr.h hsr.fr hcoll (fun b h1 h2=>hfree b h1 (by simp only [hn1];omega))
     have hfr:=hsr.fr.mono q5.le;have hfree1:σ h1.nx=none:=(q5.free hfree) h1.nx (Nat.le_refl _) (by simp only [hn1];omega)
     have hle:=Ren.le_upd hfree1 ⟨w1.heap.size,0,0⟩;obtain ⟨p1,p2⟩:=q4.new hfree1 (.loop .ready none s.fr.fn s.fr.nt s.fr.tmps params.toList assign body d)
      (.loop {state:=.ready,pending:=none,fn:=c.fn,tmps:=c.tmps,params:=params,assign:=assign,body:=body,defers:=bd.cb}) 0
      ⟨c.tmps,bd,hle.m _ _ q2,hfr.tm.mono hle,by rw [hfr.fn]⟩
      {w1 with heap:=w1.heap.push (.loop {state:=.ready,pending:=none,fn:=c.fn,tmps:=c.tmps,params:=params,assign:=assign,body:=body,defers:=bd.cb})} rfl rfl rfl rfl
     have hu:(σ.upd h1.nx ⟨w1.heap.size,0,0⟩) h1.nx=some ⟨w1.heap.size,0,0⟩:=by simp [Ren.upd]
     have hrun:(Instr.enterLoop c.fn c.tmps params assign body c.roundOf).run E.P w=.ok (w1.heap.size,mark') {w1 with heap:=w1.heap.push (.loop {state:=.ready,pending:=none,fn:=c.fn,tmps:=c.tmps,params:=params,assign:=assign,body:=body,defers:=bd.cb})}:=by
      cases hro:c.roundOf with
      |some l=>
       rw [hro] at q1;simp only [JP,Sem.run_bind,Sem.run_pure] at q1;simp only [Instr.enterLoop,Sem.run_bind,Sem.run_pure,run_newObj,Result.andThen_ok];cases hG:(Instr.getLoop l).run E.P w with
       |ok a w2=>
        rw [hG] at q1;simp only [Result.andThen_ok,Result.ok.injEq,Prod.mk.injEq] at q1 ⊢;obtain ⟨⟨e1,e2⟩,e3⟩:=q1;rw [e1,e2,e3];exact ⟨⟨rfl,rfl⟩,rfl⟩
       |halt x w2=>rw [hG] at q1;cases q1
      |none=>
       rw [hro] at q1;simp only [JP,Sem.run_bind,Sem.run_pure,run_newObj,Result.andThen_ok,Result.ok.injEq,Prod.mk.injEq] at q1;obtain ⟨⟨e1,e2⟩,e3⟩:=q1;simp only [Instr.enterLoop,Sem.run_bind,Sem.run_pure,run_newObj,Result.andThen_ok];rw [←e1,←e2,←e3]
     refine AA.pre (q5.trans p2 hfree) ?_ hfree;have hf2:=hfr.mono hle;have hv:=hf2.evR fo;rw [hev] at hv;generalize hcv:c.eval fo=cv at hv;cases hv with
     |func _ fn' _ _ f' c' r1 r2 r3 r4 r5=>
      have ha:VL (σ.upd h1.nx ⟨w1.heap.size,0,0⟩) (first++[.func (.yield h1.nx) [] []]) (f'++[.func (.yield w1.heap.size) #[] #[]]):=
       VL.append ⟨r2,r3⟩ (VL.cons (.func _ _ [] [] [] [] ⟨_,hu,rfl⟩ rfl (by simp) rfl (by simp)) (VL.nil _))
      have hdoes:=Ds hE p1 r1 ⟨r4,r5⟩ ha;rw [hiv] at hdoes;have he:h3=_:=hdoes.1;subst he
      refine Ek hE (c:={c with todo:=.inRangeFunc w1.heap.size::k',defers:=mark'++c.defers})
       (f:={s.fr with todo:=.inRange h1.nx::k,defers:=mark++s.fr.defers}) (cs:=s.cs) (IG hm ht hrun) (hdoes.congr ?_) p1
       ⟨hf2.fn,hf2.tm,.cons (.inRange _ _ hu) ((hk.mono q5.le).mono hle),(q3.mono hle).append hf2.defers,hf2.mode,hf2.kind,hf2.round⟩ ((hsr.cs.mono q5.le).mono hle) hm ?_ (fun b l1 l2=>absurd (Nat.lt_of_le_of_lt l1 l2) (Nat.lt_irrefl _))
      ·have hcv2:c.eval (.const (.func (.yield w1.heap.size) #[] #[]))=.func (.yield w1.heap.size) #[] #[]:=rfl;simp [resolve,hcv,hcv2,Deferred.ofValue]
      ·simp only [Bi,hg]
    ·cases hx
   ·cases hx
  ·cases hx
 ·cases hx
theorem Ff (hsr:SR ρ s c ccs w) (hx:AQ E s=.next s') (hfree:Ax ρ s.h.nx s'.h.nx):AA E.P base ρ s.h c ccs w w s':=by
 have hmode:=hsr.fr.mode;have htodo:=hsr.fr.todo;unfold AQ at hx;simp only at hx;split at hx
 ·rename_i hmf;rw [hmf] at hmode
  have hm:c.mode=.run:=by
   generalize c.mode=x at hmode;cases hmode;rfl
  split at hx
  ·rename_i ht;rw [ht] at htodo;generalize hct:c.todo=td at htodo;cases htodo;exact FJ hsr.h hsr.fr hsr.cs hm (.inl ⟨hct,rfl⟩) hx hfree
  ·rename_i id k ht;rw [ht] at htodo;generalize hct:c.todo=td at htodo;cases htodo with|cons a hk=>
   cases a;cases hx;exact AA.to hsr hk (PG hm hct)
  ·rename_i id k ht;rw [ht] at htodo;generalize hct:c.todo=td at htodo;cases htodo with|cons a hk=>
   cases a;cases hx;exact AA.to hsr hk (Po hm hct)
  ·rename_i b k ht;rw [ht] at htodo;generalize hct:c.todo=td at htodo;cases htodo with|cons a hk=>
   cases a;cases hx;exact AA.to hsr (.cons (.code _) (.cons (.inLoop _) hk)) (QM hm hct)
  ·rename_i all k ht;rw [ht] at htodo;generalize hct:c.todo=td at htodo;cases htodo with|cons a hk=>
   cases a with|ops _ _ idx hmap=>
   cases idx with
   |cons i idx=>cases hmap
   |nil=>
    cases hx;exact AA.to hsr hk (Hz hm hct)
  ·rename_i all o rest k ht;exact nY hE hsr hm hmf ht hx hfree
  ·cases hx
  ·cases hx
  ·cases hx
  ·rename_i l k ht;rw [ht] at htodo;generalize hct:c.todo=td at htodo;cases htodo with|cons a hk=>
   cases a with|endRange _ b hb=>
   split at hx
   ·rename_i st pending fn nt tmps params assign body d hl;split at hx
    ·cases hx
    ·rename_i hnb;cases hx;obtain ⟨tm,bd,h1,h2,h3⟩:=hsr.h.blk l b _ hb hl;have hg:=Ao E.P h3 (fun _ _ _ e=>by cases e)
     obtain ⟨q1,q2⟩:=hsr.h.setObj hb (by rw [hl];exact fun e=>by cases e) (.loop .exhausted pending fn nt tmps params assign body d)
      (.loop {state:=.exhausted,pending,fn:=fn,tmps:=tm,params:=params.toArray,assign:=assign,body:=body,defers:=bd.cb}) ⟨tm,bd,h1,h2,rfl⟩
     have hs:=fun o'=>At (o':=o') E.P h3 (fun _ _ _ e=>by cases e)
     have hbz:(st==LoopState.busy)=false:=by
      cases st<;>first|rfl|exact absurd rfl hnb
     have hrun:(Instr.endLoop b.cb).run E.P w=.ok pending {w with heap:=w.heap.setIfInBounds b.cb (.loop {state:=.exhausted,pending,fn:=fn,tmps:=tm,params:=params.toArray,assign:=assign,body:=body,defers:=bd.cb})}:=by
      simp only [Instr.endLoop,Instr.getLoop,Sem.run_bind,hg,Result.andThen_ok,Sem.run_pure,hbz,Bool.false_eq_true,if_false,hs]
     refine ⟨ρ,_,ccs,_,Pa hm hct hrun,⟨⟨hsr.fr.fn,hsr.fr.tm,?_,hsr.fr.defers,hsr.fr.mode,hsr.fr.kind,hsr.fr.round⟩,hsr.cs,q1⟩,q2⟩;cases pending with
     |none=>exact hk
     |some j=>exact .cons (.code _) hk
   ·cases hx
  ·rename_i k ht;rw [ht] at htodo;generalize hct:c.todo=td at htodo;cases htodo with|cons a hk=>
   cases a;have hround:=hsr.fr.round;split at hx
   ·rename_i l hrs;rw [hrs] at hround;obtain ⟨b,hb,hro⟩:=hround.some_inv;split at hx
    ·rename_i pending fn nt tmps params assign body d hl;cases hx;obtain ⟨tm,bd,h1,h2,h3⟩:=hsr.h.blk l b _ hb hl;have hg:=Ao E.P h3 (fun _ _ _ e=>by cases e)
     obtain ⟨q1,q2⟩:=hsr.h.setObj hb (by rw [hl];exact fun e=>by cases e) (.loop .busy pending fn nt tmps params assign body d)
      (.loop {state:=.busy,pending,fn:=fn,tmps:=tm,params:=params.toArray,assign:=assign,body:=body,defers:=bd.cb}) ⟨tm,bd,h1,h2,rfl⟩
     have hs:=fun o'=>At (o':=o') E.P h3 (fun _ _ _ e=>by cases e)
     refine ⟨ρ,_,ccs,_,KN hm hct hro ?_,⟨⟨hsr.fr.fn,hsr.fr.tm,hk,hsr.fr.defers,hsr.fr.mode,hsr.fr.kind,hsr.fr.round⟩,hsr.cs,q1⟩,q2⟩;simp only [Instr.beginRound,Instr.getLoop,Sem.run_bind,hg,Result.andThen_ok,Sem.run_pure,hs]
    ·cases hx
   ·cases hx
  ·rename_i cd k ht;rw [ht] at htodo;generalize hct:c.todo=td at htodo;cases htodo with|cons a hk=>
   cases a;split at hx
   ·exact FJ hsr.h hsr.fr hsr.cs hm (.inr (.inl ⟨_,hct,rfl⟩)) hx hfree
   ·cases hx;exact AA.to hsr hk (T9 hm hct)
   ·cases hx;exact AA.to hsr hk (RU hm hct)
   ·cases hx;exact AA.to hsr (.cons (.code _) (.cons (.code _) hk)) (cp hm hct)
   ·rename_i cnd x y;have hv:=hsr.fr.evR cnd;split at hx
    ·rename_i he;rw [he] at hv;generalize hcv:c.eval cnd=cv at hv;cases hv;cases hx;exact AA.to hsr (.cons (.code _) hk) (IZ hm hct hcv)
    ·rename_i he;rw [he] at hv;generalize hcv:c.eval cnd=cv at hv;cases hv;cases hx;exact AA.to hsr (.cons (.code _) hk) (IZ hm hct hcv)
    ·rename_i pos e he;rw [he] at hv;generalize hcv:c.eval cnd=cv at hv;cases hv;split at hx
     ·rename_i q hq;have hd:=An U.ok hq;rw [hd] at hcv;split at hx
      ·rename_i hp;rw [hp] at hcv;cases hx;exact AA.to hsr (.cons (.code _) hk) (IZ hm hct hcv)
      ·rename_i hp;rw [hp] at hcv;cases hx;exact AA.to hsr (.cons (.code _) hk) (IZ hm hct hcv)
     ·cases hx
    ·cases hx
   ·cases hx;exact AA.to hsr (.cons (.code _) (.cons (.inBlock _) hk)) (Tv hm hct)
   ·cases hx;exact AA.to hsr (.cons (.code _) (.cons (.inLoop _) hk)) (UU hm hct)
   ·cases hx;exact AA.to hsr (.cons (.code _) (.cons (.inScope _) hk)) (Tb hm hct)
   ·rename_i id;split at hx
    ·rename_i k2 he;cases hx;obtain ⟨r',h1,h2⟩:=(JX hk).1 _ he;exact AA.to hsr h2 (UM hm hct h1)
    ·rename_i he;split at hx
     ·cases hx
     ·rename_i hre;exact FJ hsr.h hsr.fr hsr.cs hm (.inr (.inr (.inl ⟨_,_,hct,(JX hk).2 he hre,rfl⟩))) hx hfree
   ·rename_i id;split at hx
    ·rename_i k2 he;cases hx;obtain ⟨r',h1,h2⟩:=(JY hk).1 _ he;exact AA.to hsr h2 (UE hm hct h1)
    ·rename_i he;split at hx
     ·cases hx
     ·rename_i hre;exact FJ hsr.h hsr.fr hsr.cs hm (.inr (.inr (.inr ⟨_,_,hct,(JY hk).2 he hre,rfl⟩))) hx hfree
   ·exact Tw hE hsr hm hk hct hx hfree
   ·rename_i id ops draw;split at hx
    ·cases hx;exact AA.to hsr (.cons (.ops _ _ _ (QS _)) hk) (Q1 hm hct)
    ·cases hx
   ·cases hx
 ·rename_i hmf;exact Oo hE hsr.h hsr.fr hsr.cs (F5.not_run hmode hmf) hx
end
end Go.AE

