/- What is proved here: an evaluator of the model's steps that the kernel can run, and that whatever it answers is what the model does (part 3 of 6: AeDat3, AeDat4, AeFrz, AeDat5, AeSlc, AeEqS, AeMap, AeMap2, AeCat, AeOps19, AeOps20). Conditions: those that each theorem states; they hold of no one program. -/
import Derived.Test.YtmgppdghdeokbaaGreatBeB
import Derived.Laws.BytesString
set_option linter.unusedVariables false
set_option linter.unusedSectionVars false
set_option linter.unusedSimpArgs false
namespace Go.AE
variable [U:Unk]
def BJ (K:TypeId→Option (List Kd)) (M:Nat→Option (Array Value)) (ks:List Kd) (vs:List Value) (rows:List D):Prop:=
 vs.length=rows.length*ks.length∧(∀i,i<rows.length→(rows.getD i default).cells.length=ks.length)∧
  ∀i j kd,i<rows.length→ks[j]?=some kd→DV K M kd (vs.getD (i*ks.length+j) Go.undef) ((rows.getD i default).cells.getD j default)
section
variable {K:TypeId→Option (List Kd)} {M:Nat→Option (Array Value)} {ks:List Kd}
omit U
theorem BJ.nil:BJ K M ks [] []:=⟨by simp,fun i h=>by simp at h,fun i j kd h=>by simp at h⟩
theorem Re {l m:List D} {i:Nat}:(l++m).getD i default=if i<l.length then l.getD i default else m.getD (i-l.length) default:=by
 simp only [A4];by_cases h:i<l.length
 ·rw [if_pos h,Ea h]
 ·rw [if_neg h,E3 (by omega)]
theorem XM {l m:List Value} {i:Nat}:(l++m).getD i Go.undef=if i<l.length then l.getD i Go.undef else m.getD (i-l.length) Go.undef:=by
 simp only [A4];by_cases h:i<l.length
 ·rw [if_pos h,Ea h]
 ·rw [if_neg h,E3 (by omega)]
theorem S0 {i n l j:Nat} (hi:i<n) (a:j<l):i*l+j<n*l:=by
 have:=F3 l hi;rw [Nat.succ_mul] at this;omega
theorem BJ.append {vs J:List Value} {r s:List D} (h:BJ K M ks vs r) (k:BJ K M ks J s):BJ K M ks (vs++J) (r++s):=by
 refine ⟨by simp [h.1,k.1,ce],fun i hi=>?_,fun i j kd hi C=>?_⟩
 ·rw [Re];simp only [L1] at hi;split
  ·rename_i c;exact h.2.1 i c
  ·exact k.2.1 _ (by omega)
 ·have I:j<ks.length:=(B3.1 C).1;simp only [L1] at hi;rw [Re,XM,h.1];by_cases c:i<r.length
  ·rw [if_pos c,if_pos (S0 c I)];exact h.2.2 i j kd c C
  ·rw [if_neg c,if_neg (by
    have:=F3 ks.length (Nat.le_of_not_lt c);omega)]
   have e:i*ks.length+j-r.length*ks.length=(i-r.length)*ks.length+j:=by
    have:=F3 ks.length (Nat.le_of_not_lt c);rw [Nat.sub_mul];omega
   rw [e];exact k.2.2 _ j kd (by omega) C
theorem BJ.at {vs:List Value} {rows:List D} {r:Array Value} {off:Nat} (h:BJ K M ks vs rows) (hs:off+vs.length≤r.size) (J:∀q,q<vs.length→r[off+q]?=vs[q]?):By K M ks r off rows:=by
 refine ⟨by rw [←h.1];exact hs,h.2.1,fun i j kd hi I=>?_⟩
 have C:j<ks.length:=(B3.1 I).1;have:=h.2.2 i j kd hi I;have hq:i*ks.length+j<vs.length:=by rw [h.1];exact S0 hi C
 have e:r.getD (off+i*ks.length+j) Go.undef=vs.getD (i*ks.length+j) Go.undef:=by
  simp only [C2,A4];rw [hS,J _ hq]
 rw [e];exact this
theorem By.vals {rows:List D} {r:Array Value} {off:Nat} (h:By K M ks r off rows):BJ K M ks ((r.toList.drop off).take (rows.length*ks.length)) rows:=by
 refine ⟨by have:=h.1;simp;omega,h.2.1,fun i j kd hi I=>?_⟩
 have C:j<ks.length:=(B3.1 I).1;have:=h.2.2 i j kd hi I
 have e:((r.toList.drop off).take (rows.length*ks.length)).getD (i*ks.length+j) Go.undef=r.getD (off+i*ks.length+j) Go.undef:=by
  simp only [C2,A4];rw [XB,if_pos (S0 hi C),SX,K3,hS]
 rw [e];exact this
theorem BJ.mono {N:Nat→Option (Array Value)} (r:∀k a,M k=some a→N k=some a) {vs:List Value} {rows:List D} (h:BJ K M ks vs rows):BJ K N ks vs rows:=
 ⟨h.1,h.2.1,fun i j kd a b=>(h.2.2 i j kd a b).mono r⟩
end
section
variable {ρ:Ren}
theorem G8:∀(b:List Kd) (l:List AV) (vs:List Value) (r:SE),MA b l=some r→VL ρ l vs→(Ab U.V r).cells.length=b.length∧vs.length=b.length∧∀j kd,b[j]?=some kd→DV U.K ρ.imm kd (vs.getD j Go.undef) ((Ab U.V r).cells.getD j default)
 |[],[],vs,r,h,d=>by
  simp only [MA,A1] at h;subst h;have:=d.nil_inv;subst this;exact ⟨rfl,rfl,fun j kd c=>by simp at c⟩
 |k::b,a::l,vs,r,h,d=>by
  obtain ⟨v,e,rfl,f,g⟩:=d.cons_inv;simp only [MA] at h;split at h
  ·rename_i x y i m;cases h;obtain ⟨n,o,p⟩:=G8 b l e y m g;have q:(Ab U.V (.rcons x y)).cells=Ab U.V x::(Ab U.V y).cells:=rfl;rw [q];refine ⟨by simp [n],by simp [o],fun j kd c=>?_⟩
   cases j with
   |zero=>
    simp only [D1,A1] at c;subst c;exact LD f i
   |succ j=>
    simp only [EQ] at c;exact p j kd c
  ·cases h
 |[],_::_,_,_,h,_=>by cases h
 |_::_,[],_,_,h,_=>by cases h
theorem BJ.one {ks:List Kd} {vs:List Value} {r:D} (C:r.cells.length=ks.length) (I:vs.length=ks.length) (J:∀j kd,ks[j]?=some kd→DV U.K ρ.imm kd (vs.getD j Go.undef) (r.cells.getD j default)):BJ U.K ρ.imm ks vs [r]:=by
 refine ⟨by simp [I],fun i hi=>?_,fun i j kd hi hj=>?_⟩
 ·have:i=0:=by simpa using hi
  subst this;exact C
 ·have:i=0:=by simpa using hi
  subst this;simpa using J j kd hj
theorem FI {ks:List Kd}:∀(n:Nat) (y a:SE) (l:List AV) (vs:List Value),Es ks n y l=some a→VL ρ l vs→∃b:List D,b.length=n∧(Ab U.V a).rows=(Ab U.V y).rows++b∧BJ U.K ρ.imm ks vs b
 |0,y,a,[],vs,h,c=>by
  simp only [Es,A1] at h;subst h;have:=c.nil_inv;subst this;exact ⟨[],rfl,by simp,.nil⟩
 |0,y,a,_::_,vs,h,c=>by cases h
 |n+1,y,a,l,vs,h,c=>by
  simp only [Es] at h;split at h
  ·rename_i r d;obtain ⟨e,f,g⟩:=G8 ks _ (vs.take ks.length) r d (c.take _);obtain ⟨b,i,j,k⟩:=FI n _ a _ (vs.drop ks.length) h (c.drop _);refine ⟨Ab U.V r::b,by simp [i],?_,?_⟩
   ·rw [j];show ((Ab U.V y).rows++[Ab U.V r])++b=_;simp
   ·have:=(BJ.one e f g).append k;simpa using this
  ·cases h
variable {E:Env} (hE:OK E) {h:Aa} {w:World}
include hE
theorem J1 {e:TypeId} {ks:List Kd} {b off n i:Nat} {l:List AV} {p:Value} (u:HR ρ h.blk.get w) (y:VR ρ (.slice b off n i) p) (hl:Ek h b off (n*i)=some l) :
  ∃vs,VL ρ l vs∧vs.length=n*i∧((n=0∧∃a,p=.slice (some a) 0 0)∨∃d f r j g m c,ρ b=some d∧h.blk.get b=some (.cells m c)∧p=.slice (some ⟨d.cb,d.co+off,none⟩) n g∧n≤g∧d.co+off+g*i≤d.csz∧w.heap[d.cb]?=some (.cells f r j)∧f.size=d.csz∧(j.1=j.2∨d.csz≤j.1)∧
   ∀q,q<vs.length→f[d.co+off+q]?=vs[q]?):=by
 cases y with
 |slice _ _ _ _ g d s z A=>
  unfold Ek at hl;split at hl
  ·rename_i m c o;split at hl
   ·rename_i t;obtain ⟨vs,v,F,B⟩:=u.loadCells E.P s o (Ep t) hl;obtain ⟨f,r,j,r1,r2,G,C,H⟩:=u.blk b d _ s o;have k:vs.length=n*i:=by rw [←v.1];exact (T.range_spec c _ _ _ hl).1
    refine ⟨vs,v,k,.inr ⟨d,f,r,j,g,m,c,s,o,rfl,z,A,r1,r2,C,fun q D=>?_⟩⟩
    have x:vs[q]?=some vs[q]:=by simp [D]
    have:=B q _ x;rw [x];simpa [World.cell?,r1] using this
   ·cases hl
  ·cases hl
 |sliceEnd _ _ _ a=>
  unfold Ek at hl;split at hl
  ·rename_i m c o;split at hl
   ·have e0:0*i=0:=by simp
    rw [e0] at hl;simp only [T.range,A1] at hl;subst hl;exact ⟨[],VL.nil ρ,by simp,.inl ⟨rfl,a,rfl⟩⟩
   ·cases hl
  ·cases hl
theorem eC (W:HR ρ h.blk.get w) {X e B:TypeId} {r:TypeInfo} {ks:List Kd} (hk:E.kinds e=some ks) (s:ks.length=r.size) (k:E.P.underlying X=some (.slice B)) {y Y m:SE} {x:AV} {xv:Value} (t:VR ρ x xv) (hs:cW e ks h y x=some (Y,m)) :
  ∃C nv,(Ab U.V Y).rows=(Ab U.V y).rows++C∧Af U.V m=(C.length:Nat)∧BJ U.K ρ.imm ks nv C∧YH E.P w X e r xv C.length nv:=by
 have D:U.K e=some ks:=by rw [hE.kd,←hE.ke];exact hk
 have g:∀a:Option Addr,YH E.P w X e r (.slice a 0 0) 0 []:=by
  intro a;refine .cells _ k (.inl ⟨B,rfl⟩) (by simp [Builtin.lenOf]) (fun u _=>?_)
  cases a with
  |none=>simp [Builtin.firstCells]
  |some a=>simp [Builtin.firstCells,loadCells,loadCellsFrom]
 unfold cW at hs;split at hs
 ·cases hs;cases t;exact ⟨[],[],by simp,rfl,.nil,g none⟩
 ·cases hs;cases t;exact ⟨[],[],by simp,rfl,.nil,g _⟩
 ·rename_i e1 R;split at hs
  ·rename_i Z;cases hs;have:=AK Z;subst this;cases t with
   |dat _ _ a n c S=>
    obtain ⟨_,_,_,T,q2⟩:=S.slice_inv;cases T;have F:(Ab U.V (.cat y R)).rows=(Ab U.V y).rows++(Ab U.V R).rows:=rfl;by_cases hn:n=0
    ·subst hn;have e0:(Ab U.V R).rows=[]:=F0 q2;refine ⟨[],[],by rw [F,e0],by rw [As,e0],.nil,?_⟩
     refine .cells _ k (.inl ⟨B,rfl⟩) (by simp [Builtin.lenOf]) (fun u _=>?_)
     cases a with
     |none=>simp [Builtin.firstCells]
     |some a=>simp [Builtin.firstCells,loadCells,loadCellsFrom]
    ·obtain ⟨b,o,rfl,G⟩:=S.at (by omega)
     generalize H:Ab U.V R=d at S;cases S with
     |slc _ _ _ _ _ _ aa arr I ha J ae h1 L M hv=>
      rw [D] at I;cases I;obtain ⟨N,O,hw⟩:=W.imm b arr ha;have ab:By U.K ρ.imm ks arr o d.rows:=⟨by rw [J];exact L,fun i hi=>M i (by omega),fun i j kd hi hj=>hv i j kd (by omega) hj⟩
      refine ⟨d.rows,_,by rw [F,H],by rw [As,H],ab.vals,?_⟩
      rw [J];refine .cells _ k (.inl ⟨B,rfl⟩) (by simp [Builtin.lenOf]) (fun u p=>?_)
      simp only [Builtin.firstCells,←s];exact AQ E.P u b o (n*ks.length) arr N O (by rw [p];exact hw) L
     |empty=>omega
  ·cases hs
 ·rename_i b es n nl;split at hs
  ·rename_i e1 z v hb;split at hs
   ·rename_i Z;cases hs;obtain ⟨c1,c2⟩:=AC Z;have:=AK c1;subst this;have:=AK v;subst this;have t:=JU c2 t;clear c2;have F:(Ab U.V (.cat y z)).rows=(Ab U.V y).rows++(Ab U.V z).rows:=rfl;cases t with
    |asl _ _ _ _ Q f ac h0 G hz ad=>
     obtain ⟨aa,A,N,O,b1,b2,b3,b4,b5⟩:=W.blk b f _ ac hb;rw [D] at b1;cases b1;refine ⟨(Ab U.V z).rows,_,F,As,b5.vals,?_⟩;have e2:(Af U.V (.lenL z)).toNat=(Ab U.V z).rows.length:=by rw [As];simp
     rw [e2];refine .cells _ k (.inl ⟨B,rfl⟩) (by simp [Builtin.lenOf]) (fun u p=>?_)
     simp only [Builtin.firstCells,←s];exact AQ E.P u f.cb f.co _ A N O (by rw [p];exact b2) b5.1
    |aslEnd _ _ _ _ a h0 ad=>
     rw [As] at h0;have e0:(Ab U.V z).rows=[]:=F0 (by omega)
     exact ⟨[],[],by rw [F,e0],by rw [As,e0],.nil,g a⟩
   ·cases hs
  ·cases hs
 ·rename_i b off n es;split at hs
  ·rename_i v;split at hs
   ·rename_i l hl;split at hs
    ·rename_i y1 hy;cases hs;have:=AK v;subst this;obtain ⟨vs,v1,v2,v3⟩:=J1 hE (e:=e) (ks:=ks) W t hl;obtain ⟨C,T,q2,q3⟩:=FI n y Y l vs hy v1;refine ⟨C,vs,q2,by rw [T];rfl,q3,?_⟩
     rw [T];rcases v3 with ⟨rfl,a,rfl⟩|⟨f,A,N,O,Q,sz,c,p1,p2,rfl,p4,p5,p6,p7,p8,p9⟩
     ·have:vs=[]:=F0 (by simpa using v2)
      subst this;exact g (some a)
     ·refine .cells _ k (.inl ⟨B,rfl⟩) (by simp [Builtin.lenOf]) (fun u p=>?_)
      have af:n*ks.length≤Q*ks.length:=F3 _ p4;have:=AQ E.P u f.cb (f.co+off) (n*ks.length) A N O (by rw [p];exact p6) (by rw [p7];omega)
      simp only [Builtin.firstCells,←s,this]
      congr 2
      apply List.ext_getElem?;intro q;rw [XB];by_cases hq:q<n*ks.length
      ·rw [if_pos hq,SX,K3,p9 q (by omega)]
      ·rw [if_neg hq,E4 (by omega)]
    ·cases hs
   ·cases hs
  ·cases hs
 ·cases hs
inductive Me (ρ:Ren) (h:Aa) (w:World) (ks:List Kd) (ys nls:SE):Option Nat→Value→Prop
 |none (b:Option Nat) (a:Option Addr) (hy:(Ab U.V ys).rows=[]) (hn:a.isNone=Ah U.V nls):Me ρ h w ks ys nls b (.slice a 0 0)
 |blk (b off cap:Nat) (base:DF) (cur:Array Value) (et:TypeId) (fz:Nat×Nat) (hb:ρ b=some base) (hl:h.blk.get b≠.none) (hc:(Ab U.V ys).rows.length≤cap) (hz:base.co+off+cap*ks.length≤base.csz)
   (hw:w.heap[base.cb]?=some (.cells cur et fz)) (hs:cur.size=base.csz) (hf:fz.1=fz.2∨base.csz≤fz.1) (hv:By U.K ρ.imm ks cur (base.co+off) (Ab U.V ys).rows) (hn:Ah U.V nls=false) :
   Me ρ h w ks ys nls (some b) (.slice (some ⟨base.cb,base.co+off,.none⟩) (Ab U.V ys).rows.length cap)
theorem ZD (A:HR ρ h.blk.get w) {e:TypeId} {ks:List Kd} (F:E.kinds e=some ks) {s:AV} {B:Value} {ys nls:SE} {C:Option Nat} (o:VR ρ s B) (d:Wm e ks h s=some (ys,nls,C)):Me ρ h w ks ys nls C B:=by
 have t:U.K e=some ks:=by rw [hE.kd,←hE.ke];exact F
 unfold Wm at d;split at d
 ·cases d;cases o;exact .none _ _ rfl rfl
 ·cases d;cases o;rename_i a hn;exact .none _ _ rfl hn
 ·rename_i b off n G;split at d
  ·rename_i j;split at d
   ·rename_i l hl;split at d
    ·rename_i y H;cases d;have:=AK j;subst this;obtain ⟨vs,v1,v2,v3⟩:=J1 hE (e:=e) (ks:=ks) A o hl;obtain ⟨I,u,J,L⟩:=FI n .emptyL ys l vs H v1;have r:(Ab U.V ys).rows=I:=by rw [J];rfl
     rcases v3 with ⟨rfl,a,rfl⟩|⟨f,k,v,x,g,T,c,p1,p2,rfl,p4,p5,p6,p7,p8,p9⟩
     ·exact .none _ _ (by rw [r];exact F0 u) rfl
     ·have M:n*ks.length≤g*ks.length:=F3 _ p4
      have:=Me.blk (ρ:=ρ) (h:=h) (w:=w) (ks:=ks) (ys:=ys) (nls:=.bc false) b off g f k v x p1 (by rw [p2];exact A3 _) (by rw [r,u];exact p4) p5 p6 p7 p8
       (by rw [r];exact L.at (by rw [v2,p7];omega) p9) rfl
      rw [r,u] at this;exact this
    ·cases d
   ·cases d
  ·cases d
 ·rename_i b G n nl;split at d
  ·rename_i e1 z j p;split at d
   ·rename_i N;cases d;obtain ⟨c1,c2⟩:=AC N;have:=AK c1;subst this;have:=AK j;subst this;have o:=JU c2 o;clear c2;cases o with
    |asl _ _ _ _ g f q D i O m=>
     obtain ⟨P,k,v,x,b1,b2,b3,Q,R⟩:=A.blk b f _ q p;rw [t] at b1;cases b1;have S:(Af U.V (.lenL ys)).toNat=(Ab U.V ys).rows.length:=by rw [As];simp
     rw [S] at i ⊢;exact Me.blk (ρ:=ρ) (h:=h) (w:=w) (ks:=ks) b 0 g f k v x q (by rw [p];exact A3 _) i (by simpa using O) b2 b3 Q (by simpa using R) m
    |aslEnd _ _ _ _ a D m=>
     rw [As] at D;exact .none _ _ (F0 (by omega)) m
   ·cases d
  ·cases d
 ·cases d
omit hE in
theorem HR.phantom (hr:HR ρ h.blk.get w) (hf:ρ h.nx=none) (x:Aj):HR ρ (h.new x).blk.get w∧Ext ρ ρ h (h.new x) w w:=by
 have live:∀b base,ρ b=some base→(h.new x).blk.get b=h.blk.get b:=by
  intro b base hb;simp only [Aa.new,T.get_set];rw [if_neg (by rintro rfl;rw [hf] at hb;cases hb)]
 refine ⟨⟨hr.lt,fun b base y hb hy=>hr.blk b base y hb (by rw [←live b base hb];exact hy),fun b b' base base' hne hb hb' h1 h2=>hr.apart b b' base base' hne hb hb' (by rw [←live b base hb];exact h1) (by rw [←live b' base' hb'];exact h2),hr.imm,fun k arr b base hk hb hl=>hr.off k arr b base hk hb (by rw [←live b base hb];exact hl)⟩,
  ⟨Ren.le_refl ρ,Nat.le_succ _,fun _ _ e=>.inl e,IH.refl w,fun _ _ _=>rfl,⟨[],rfl,fun b _ hb=>?_⟩,fun b hb=>?_,fun _ _ e=>.inl e⟩⟩
 ·simp only [Aa.new,T.get_set];simp only [Aa.new] at hb;rw [if_neg (by omega)]
 ·simp only [Aa.new,T.get_set] at hb ⊢;by_cases e:h.nx=b
  ·exact .inr ⟨by omega,by omega⟩
  ·rw [if_neg e] at hb;exact .inl hb
omit hE in
theorem Ue (hr:HR ρ h.blk.get w) (o:Option Nat):HR ρ (Fj h o).blk.get w∧Ext ρ ρ h (Fj h o) w w∧(Fj h o).nx=h.nx:=by
 cases o with
 |none=>exact ⟨hr,Ext.refl _ _ _,rfl⟩
 |some b=>obtain ⟨p1,p2⟩:=hr.strike b;exact ⟨p1,p2,rfl⟩
theorem IJ (hr:HR ρ h.blk.get w) {t O ty:TypeId} {s x a:AV} {sv Y:Value} {h':Aa} (hs:VR ρ s sv) (hx:VR ρ x Y) (p:I4 E t O s x h=some (a,h')) (hf:Bs ρ h.nx h'.nx)
  (hA:∀a h',Js E t O s x h=some (a,h')→Bs ρ h.nx h'.nx→Bj E ρ h h' w (Builtin.append_ #[t,O] ty #[sv,Y]) a) :
  Bj E ρ h h' w (Builtin.append_ #[t,O] ty #[sv,Y]) a:=by
 unfold I4 at p;split at p
 ·exact hA a h' p hf
 ·split at p
  ·rename_i e e' hd ar;split at p
   ·rename_i f i z hi hk hz;split at p
    ·rename_i hc;split at p
     ·rename_i B D bs Z;split at p
      ·rename_i y m ae;split at p
       ·rename_i hb;cases p;obtain ⟨c12,c3⟩:=AC hc;obtain ⟨c1,c2⟩:=AC c12;have C:=AK c1;have a6:=AK c2;have as:=Ep c3;have F:=hE.ty e f hi;have af:U.K e=some i:=by rw [hE.kd,←hE.ke];exact hk
        obtain ⟨b1,b2⟩:=AC hb;have b1:=LL b1;have b2:=LL b2;rw [AB,F4,As,CB] at b1;rw [AB,F4,CB] at b2;have ht:=hE.und hd;have au:=hE.und ar;obtain ⟨n,nv,s1,s2,Q,s4⟩:=eC hE hr hk C au hx ae;have hB:=ZD hE hr hk hs Z;obtain ⟨i',zv,i1,i2,i3⟩:=G5 hz;rw [hi] at i1;cases i1
        have av:zv.cells.size=f.size:=by
         have:=((Bg ρ i3).cells (Cj i3)).1;simp at this;omega
        have R:nv.length=n.length*f.size:=by rw [Q.1,C]
        have a7:n.length<1048576:=by omega
        have G:Af U.V (.lenL y)=(((Ab U.V B).rows.length+n.length:Nat):Int):=by rw [As,s1];simp
        have aa:Ah U.V (.and D (.eql m (.c 0)))=(Ah U.V D&&(Af U.V m==0)):=rfl;have r:ρ h.nx=none:=hf h.nx (C1 _) (by cases bs<;>simp [Aa.new,Fj,Aa.strike])
        obtain ⟨o1,o2,o3⟩:=Ue hr bs
        have S:∀(base:Option Addr) (d j:Nat) (ov:List Value),sv=.slice base d j→d=(Ab U.V B).rows.length→d≤j→j<d+n.length→BJ U.K ρ.imm i ov (Ab U.V B).rows→
          (∀J:World,J.heap=w.heap→(Builtin.firstCells f.size d (.slice base d j)).run E.P J=.ok ov.toArray J)→
          Bj E ρ h ((Fj h bs).new (.arr e y)) w (Builtin.append_ #[t,O] ty #[sv,Y]) (.asl h.nx f.size (.lenL y) (.and D (.eql m (.c 0)))):=by
         intro base d j ov aw ag a8 ab ah ax;subst aw;have a9:(d+n.length)*f.bytes≤1074790400*1024:=Nat.mul_le_mul (by omega) as
         obtain ⟨g,k1,k2⟩:=Fo t O ty e f ht F zv i2 Y n.length nv s4 base d j ab (by omega) (by omega) ov.toArray ax
         generalize ac:Builtin.zeroCells zv.cells (g-(d+n.length))=zs at k2;have ai:zs.size=(g-(d+n.length))*f.size:=by rw [←ac];simp [Builtin.zeroCells,av]
         have aj:(ov.toArray++nv.toArray++zs).size=g*f.size:=by
          have W:ov.length=d*f.size:=by rw [ah.1,C,ag]
          simp only [Array.size_append,List.size_toArray,W,R,ai];rw [←ce,←ce]
          congr 1;omega
         have l:=ah.append Q;rw [←s1] at l
         have u:By U.K ρ.imm i (ov.toArray++nv.toArray++zs) 0 (Ab U.V y).rows:=l.at (by simp) (fun q L=>by
          have ay:q<ov.length+nv.length:=by simpa using L
          rw [R2,fk (by simpa using ay)]
          simp only [List.append_toArray,Sf])
         have az:HR ρ (Fj h bs).blk.get {w with drawn:=w.drawn+1}:=o1.same rfl
         have a0:ρ (Fj h bs).nx=none:=by rw [o3];exact r
         obtain ⟨p1,p2⟩:=az.new a0 (.arr e y) (.cells (ov.toArray++nv.toArray++zs) e) (g*f.size) ⟨i,_,e,_,af,rfl,aj,.inl rfl,u⟩ {w with drawn:=w.drawn+1,heap:=w.heap.push (.cells (ov.toArray++nv.toArray++zs) e)} rfl rfl rfl rfl
         refine ⟨_,_,_,k2,?_,p1,(o2.trans (Ext.drawn p2 rfl rfl rfl rfl) hf)⟩;rw [o3];have H:(Af U.V (.lenL y)).toNat=d+n.length:=by rw [G,ag];exact Int.toNat_natCast _
         have:=VR.asl (ρ:=ρ.upd h.nx ⟨w.heap.size,0,g*f.size⟩) h.nx f.size (.lenL y) (.and D (.eql m (.c 0))) g ⟨w.heap.size,0,g*f.size⟩ (Ren.upd_same _ _ _) (by rw [G];exact Int.natCast_nonneg _) (by rw [H];exact k1) (by show 0+g*f.size≤g*f.size;rw [R2];exact C1 _) (by
          rw [aa,s2];have:((n.length:Int)==0)=false:=by simp;intro e;rw [e] at ab;simp at ab;omega
          rw [this,Bool.and_false])
         rw [H] at this;exact this
        cases hB with
        |none _ ad hy hn=>
         have ak:(Ab U.V B).rows.length=0:=by rw [hy];rfl
         by_cases hm:n.length=0
         ·
          have a1:nv=[]:=F0 (by rw [R,hm];simp)
          subst a1;obtain ⟨p1,p2⟩:=HR.phantom o1 (by rw [o3];exact r) (.arr e y)
          refine ⟨ρ,.slice ad 0 0,w,?_,.aslEnd _ _ _ _ _ (by rw [G,ak,hm];rfl) ?_,p1,o2.trans p2 hf⟩
          ·rw [Dz t O ty e f ht F Y n.length [] s4 ad 0 0 (by omega)]
           cases ad with
           |none=>simp [hm]
           |some ad=>simp [storeCells,hm]
          ·rw [aa,s2,hm,hn];simp
         ·exact S ad 0 0 [] rfl ak.symm (C1 _) (by omega) (by rw [hy];exact .nil) (fun J _=>by
           cases ad with
           |none=>simp [Builtin.firstCells]
           |some ad=>simp [Builtin.firstCells,loadCells,loadCellsFrom])
        |blk b off j base M et fz hb hl al ac hw N am hv hn=>
         by_cases A:(Ab U.V B).rows.length+n.length≤j
         ·
          have an:((Ab U.V B).rows.length+n.length)*i.length≤j*i.length:=F3 _ A;rw [ce] at an
          have ao:∀v∈nv,v.oneCell'=true:=by
           intro v a2;obtain ⟨q,L,rfl⟩:=X0 a2
           have ap:0<i.length:=by
            rcases Nat.eq_zero_or_pos i.length with h0|h0
            ·rw [Q.1,h0] at L;simp at L
            ·exact h0
           have a3:q/i.length<n.length:=by
            rw [Q.1] at L;exact Nat.div_lt_of_lt_mul (by rw [Nat.mul_comm];exact L)
           have a4:q%i.length<i.length:=Nat.mod_lt _ ap;have:=Q.2.2 (q/i.length) (q%i.length) (i[q%i.length]) a3 (by simp [a4])
           have e1:q/i.length*i.length+q%i.length=q:=by rw [Nat.mul_comm];exact Nat.div_add_mod _ _
           rw [e1] at this;have e2:nv.getD q Go.undef=nv[q]:=by simp [A4,L]
           rw [e2] at this;generalize nv[q]=v0 at this;generalize i[q%i.length]=kq at this;cases this<;>rfl
          obtain ⟨J,X,q1,q2,q3,q4,q5,q6,q7,q8,q9⟩:=CE E.P base.cb (base.co+off+(Ab U.V B).rows.length*i.length) et fz nv 0 w M hw (by rw [Q.1,N];omega) (by rw [N];exact am) ao
          have u:By U.K ρ.imm i X (base.co+off) (Ab U.V y).rows:=by
           have l:=hv.vals.append Q;rw [←s1] at l
           have I:((M.toList.drop (base.co+off)).take ((Ab U.V B).rows.length*i.length)).length=(Ab U.V B).rows.length*i.length:=by
            have:=hv.1;simp;omega
           refine l.at (by rw [L1,I,Q.1,q3,N];omega) (fun q L=>?_)
           rw [L1,I] at L;rw [q4];simp only [S1];by_cases aq:q<(Ab U.V B).rows.length*i.length
           ·rw [if_neg (by omega),Ea (by rw [I];exact aq),XB,if_pos aq,SX,K3]
           ·rw [if_pos (by omega),E3 (by rw [I];omega),I]
            congr 1;omega
          obtain ⟨p1,p2⟩:=hr.move hb hl r (base':=⟨base.cb,base.co+off,base.csz⟩) rfl (.arr e y) J ⟨i,X,et,fz,af,q2,by rw [q3,N],am,u⟩ q5 q6 q7 q8 q9
          refine ⟨_,.slice (some ⟨base.cb,base.co+off,none⟩) ((Ab U.V B).rows.length+n.length) j,J,?_,?_,p1,p2⟩
          ·rw [Dz t O ty e f ht F Y n.length nv s4 _ _ j A];simp only [CG,←C];rw [q1];rfl
          ·have H:(Af U.V (.lenL y)).toNat=(Ab U.V B).rows.length+n.length:=by rw [G];exact Int.toNat_natCast _
           have:=VR.asl (ρ:=ρ.upd h.nx ⟨base.cb,base.co+off,base.csz⟩) h.nx f.size (.lenL y) (.and D (.eql m (.c 0))) j ⟨base.cb,base.co+off,base.csz⟩ (Ren.upd_same _ _ _) (by rw [G];omega) (by rw [H];exact A) (by rw [←C];exact ac) (by rw [aa,hn];rfl)
           rw [H] at this;exact this
         ·have W:((M.toList.drop (base.co+off)).take ((Ab U.V B).rows.length*i.length)).length=(Ab U.V B).rows.length*i.length:=by
           have:=hv.1;simp;omega
          exact S (some ⟨base.cb,base.co+off,none⟩) _ j _ rfl rfl al (by omega) hv.vals (fun J a5=>by
           simp only [Builtin.firstCells,←C];exact AQ E.P J base.cb (base.co+off) _ M et fz (by rw [a5];exact hw) hv.1)
       ·cases p
      ·cases p
     ·cases p
    ·cases p
   ·cases p
  ·cases p
end
end Go.AE
namespace Go.AE
variable [U:Unk]
section
variable {E:Env} {ρ:Ren} {w:World} (hE:OK E)
include hE
theorem aO {t:TypeId} (c:E.desc t=some .bool) (n:Nat) (a b:Bool):aeq E (n+1) t (.bool a) (.bool b)=some (a==b):=by
 simp only [aeq,c]
theorem Ip {c:BinOp} {t:TypeId} {ox oy:Operand} (f:E.desc t=some .bool) (a b q:Bool) (d:Cb c (a==b)=some q) :
  (do eqGuard c t ox oy (.bool a) (.bool b);binOp c t (.bool a) (.bool b):Sem Value).run E.P w=.ok (.bool q) w:=by
 have g:TP E c t (.bool a) (.bool b)=some (.bool q):=by
  have e:=aO hE f 9999 a b;cases c<;>simp only [Cb,reduceCtorEq,A1] at d
  ·subst d;show (aeq E 10000 t _ _).map AV.bool=_;rw [e];rfl
  ·subst d;show ((aeq E 10000 t _ _).map fun b=>AV.bool (!b))=_;rw [e];rfl
 obtain ⟨v,h,i⟩:=Wu (ρ:=Ren.empty) (w:=w) (ox:=ox) (oy:=oy) hE (.bool a) (.bool b) g;cases i;exact h
omit hE in
theorem FK {x:AV} {xv:Value} (hx:VR ρ x xv):(∀b,Q8 x=some (.inl b)→xv=.bool b)∧(∀p e,Q8 x=some (.inr (p,e))→xv=.bool (Ah U.V e==p)):=by
 cases x<;>simp only [Q8,reduceCtorEq,false_imp_iff,implies_true,and_self]
 ·rename_i b;cases hx;exact ⟨fun c h=>(by cases h;rfl),fun p e h=>(by cases h)⟩
 ·rename_i p e;cases hx;refine ⟨fun b h=>?_,fun p' e' h=>?_⟩
  ·split at h
   ·rename_i c hc;cases h;rw [AA U.ok hc]
   ·cases h
  ·split at h
   ·cases h
   ·cases h;rfl
theorem IT {d:BinOp} {t e:TypeId} {f g:Operand} (r:E.desc t=some (.slice e)) (a:Option Addr) (n c:Nat) (q:Bool) (i:Cb d a.isNone=some q) (y:a=none→n=0∧c=0) :
  (do eqGuard d t f g (.slice a n c) (.slice none 0 0);binOp d t (.slice a n c) (.slice none 0 0):Sem Value).run E.P w=.ok (.bool q) w∧
  (do eqGuard d t f g (.slice none 0 0) (.slice a n c);binOp d t (.slice none 0 0) (.slice a n c):Sem Value).run E.P w=.ok (.bool q) w:=by
 have j:=hE.run_und r w;have k:(eqGuard d t f g (.slice a n c) (.slice none 0 0)).run E.P w=.ok () w:=Co (by simp) (by simp)
 have l:(eqGuard d t f g (.slice none 0 0) (.slice a n c)).run E.P w=.ok () w:=Co (by simp) (by simp)
 obtain ⟨b1,b2⟩:=EN t (.slice a n c) (.slice none 0 0) (by simp) (by simp) (by simp) (by simp)
 obtain ⟨b3,s⟩:=EN t (.slice none 0 0) (.slice a n c) (by simp) (by simp) (by simp) (by simp)
 have u:∀m:Nat,(Op.equalIn (m+1) t (.slice a n c) (.slice none 0 0)).run E.P w=.ok a.isNone w:=by
  intro m;cases a<;>simp [Op.equalIn,j]
 have v:∀m:Nat,(Op.equalIn (m+1) t (.slice none 0 0) (.slice a n c)).run E.P w=.ok a.isNone w:=by
  intro m;cases a<;>simp [Op.equalIn,j]
 have e1:(Op.equal t (.slice a n c) (.slice none 0 0)).run E.P w=.ok a.isNone w:=u 9999;have o:(Op.equal t (.slice none 0 0) (.slice a n c)).run E.P w=.ok a.isNone w:=v 9999;cases d<;>simp only [Cb,reduceCtorEq,A1] at i
 ·subst i;refine ⟨?_,?_⟩
  ·simp only [B2,k,A2,b1,e1];rfl
  ·simp only [B2,l,A2,b3,o];rfl
 ·subst i;refine ⟨?_,?_⟩
  ·simp only [B2,k,A2,b2,e1];rfl
  ·simp only [B2,l,A2,s,o];rfl
theorem Nj {d:BinOp} {t o r:TypeId} {f g:Operand} (s:E.desc t=some (.map o r)) (a:Option Nat) (q:Bool) (i:Cb d a.isNone=some q) :
  (do eqGuard d t f g (.map a) (.map none);binOp d t (.map a) (.map none):Sem Value).run E.P w=.ok (.bool q) w∧
  (do eqGuard d t f g (.map none) (.map a);binOp d t (.map none) (.map a):Sem Value).run E.P w=.ok (.bool q) w:=by
 have j:=hE.run_und s w;have k:(eqGuard d t f g (.map a) (.map none)).run E.P w=.ok () w:=Co (by simp) (by simp)
 have l:(eqGuard d t f g (.map none) (.map a)).run E.P w=.ok () w:=Co (by simp) (by simp)
 obtain ⟨b1,b2⟩:=EN t (.map a) (.map none) (by simp) (by simp) (by simp) (by simp)
 obtain ⟨b3,u⟩:=EN t (.map none) (.map a) (by simp) (by simp) (by simp) (by simp)
 have v:∀m:Nat,(Op.equalIn (m+1) t (.map a) (.map none)).run E.P w=.ok a.isNone w:=by
  intro m;cases a<;>simp [Op.equalIn,j]
 have y:∀m:Nat,(Op.equalIn (m+1) t (.map none) (.map a)).run E.P w=.ok a.isNone w:=by
  intro m;cases a<;>simp [Op.equalIn,j]
 have e1:(Op.equal t (.map a) (.map none)).run E.P w=.ok a.isNone w:=v 9999;have n:(Op.equal t (.map none) (.map a)).run E.P w=.ok a.isNone w:=y 9999;cases d<;>simp only [Cb,reduceCtorEq,A1] at i
 ·subst i;refine ⟨?_,?_⟩
  ·simp only [B2,k,A2,b1,e1];rfl
  ·simp only [B2,l,A2,b3,n];rfl
 ·subst i;refine ⟨?_,?_⟩
  ·simp only [B2,k,A2,b2,e1];rfl
  ·simp only [B2,l,A2,u,n];rfl
omit hE in
theorem VK {x:AV} {xv:Value} {s:SE} (hx:VR ρ x xv) (h:cY x=some s):∃a,xv=.map a∧Ah U.V s=a.isNone:=by
 cases hx<;>simp only [cY,reduceCtorEq,A1] at h<;>subst h
 ·exact ⟨none,rfl,rfl⟩
 ·exact ⟨_,rfl,rfl⟩
 ·rename_i hn;exact ⟨_,rfl,by rw [hn];rfl⟩
 ·rename_i hn;exact ⟨_,rfl,by rw [hn];rfl⟩
omit hE in
theorem Vm {x:AV} {xv:Value} {s:SE} (hx:VR ρ x xv) (h:fH x=some s):∃a n c,xv=.slice a n c∧(a=none→n=0∧c=0)∧Ah U.V s=a.isNone:=by
 cases hx<;>simp only [fH,reduceCtorEq,A1] at h<;>subst h
 ·exact ⟨none,0,0,rfl,fun _=>⟨rfl,rfl⟩,rfl⟩
 ·exact ⟨_,_,_,rfl,fun h=>(by cases h),rfl⟩
 ·exact ⟨_,_,_,rfl,fun h=>(by cases h),rfl⟩
 ·rename_i e x a n c hd;refine ⟨a,n,c,rfl,?_,?_⟩
  ·rintro rfl
   cases hd;exact ⟨rfl,rfl⟩
  ·have:Ah U.V (.isNil x)=(Ab U.V x).isNil:=rfl;rw [this];cases hd with
   |nil _ _ h1=>rw [h1];rfl
   |empty _ _ _ _ h1=>rw [h1];rfl
   |slc _ _ _ _ _ _ _ _ _ _ _ _ h1=>rw [h1];rfl
 ·rename_i hn;exact ⟨_,_,_,rfl,fun h=>(by cases h),by rw [hn];rfl⟩
 ·rename_i a h0 hn;exact ⟨a,0,0,rfl,fun _=>⟨rfl,rfl⟩,hn.symm⟩
 ·rename_i a hn;exact ⟨a,0,0,rfl,fun _=>⟨rfl,rfl⟩,hn.symm⟩
omit hE in
theorem I8 {op:BinOp} {p q:Bool} (h:Cb op p=some q) (x:Bool):Cb op (x==p)=some (x==q):=by
 cases op<;>simp only [Cb,reduceCtorEq,A1] at h ⊢<;>subst h<;>cases x<;>cases p<;>rfl
theorem jU {op:BinOp} {t:TypeId} {u z:Operand} {x y r:AV} {xv o:Value} (hx:VR ρ x xv) (i:VR ρ y o) (d:eqV (E.desc t) op x y=some r) :
  ∃v,(do eqGuard op t u z xv o;binOp op t xv o:Sem Value).run E.P w=.ok v w∧VR ρ r v:=by
 unfold eqV at d;split at d
 ·rename_i hd;split at d
  ·rename_i a b h1 m;rw [(FK hx).1 _ h1,(FK i).1 _ m];cases f:Cb op (a==b) with
   |none=>rw [f] at d;cases d
   |some q=>rw [f] at d;cases d;exact ⟨_,Ip hE hd a b q f,.bool q⟩
  ·rename_i p e b h1 m;rw [(FK hx).2 _ _ h1,(FK i).1 _ m];cases f:Cb op (p==b) with
   |none=>rw [f] at d;cases d
   |some q=>
    rw [f] at d;cases d;refine ⟨_,Ip hE hd _ _ (Ah U.V e==q) ?_,.sb q e⟩;have:=I8 f (Ah U.V e);rw [←this];congr 1;cases Ah U.V e<;>cases p<;>cases b<;>rfl
  ·rename_i b p e h1 m;rw [(FK hx).1 _ h1,(FK i).2 _ _ m];cases f:Cb op (p==b) with
   |none=>rw [f] at d;cases d
   |some q=>
    rw [f] at d;cases d;refine ⟨_,Ip hE hd _ _ (Ah U.V e==q) ?_,.sb q e⟩;have:=I8 f (Ah U.V e);rw [←this];congr 1;cases Ah U.V e<;>cases p<;>cases b<;>rfl
  ·cases d
 ·rename_i e hd
  have one:∀{s:SE} {a:Option Addr},Ah U.V s=a.isNone→(Cb op true).map (fun q=>mkB q s)=some r→∃q,Cb op a.isNone=some q∧VR ρ r (.bool q):=by
   intro s a hs g;cases f:Cb op true with
   |none=>rw [f] at g;cases g
   |some q=>
    rw [f] at g;cases g;have:=I8 f a.isNone;refine ⟨a.isNone==q,?_,hs▸Ho ρ q s⟩;rw [←this];congr 1;cases a.isNone<;>rfl
  split at d
  ·split at d
   ·rename_i s hs;cases hx;obtain ⟨a,n,c,rfl,h0,j⟩:=Vm i hs;obtain ⟨q,k,l⟩:=one j d;exact ⟨_,(IT hE hd a n c q k h0).2,l⟩
   ·cases d
  ·split at d
   ·rename_i s hs;cases i;obtain ⟨a,n,c,rfl,h0,j⟩:=Vm hx hs;obtain ⟨q,k,l⟩:=one j d;exact ⟨_,(IT hE hd a n c q k h0).1,l⟩
   ·cases d
  ·cases d
 ·rename_i A B hd
  have one:∀{s:SE} {a:Option Nat},Ah U.V s=a.isNone→(Cb op true).map (fun q=>mkB q s)=some r→∃q,Cb op a.isNone=some q∧VR ρ r (.bool q):=by
   intro s a hs g;cases f:Cb op true with
   |none=>rw [f] at g;cases g
   |some q=>
    rw [f] at g;cases g;have:=I8 f a.isNone;refine ⟨a.isNone==q,?_,hs▸Ho ρ q s⟩;rw [←this];congr 1;cases a.isNone<;>rfl
  split at d
  ·split at d
   ·rename_i s hs;cases hx;obtain ⟨a,rfl,j⟩:=VK i hs;obtain ⟨q,k,l⟩:=one j d;exact ⟨_,(Nj hE hd a q k).2,l⟩
   ·cases d
  ·split at d
   ·rename_i s hs;cases i;obtain ⟨a,rfl,j⟩:=VK hx hs;obtain ⟨q,k,l⟩:=one j d;exact ⟨_,(Nj hE hd a q k).1,l⟩
   ·cases d
  ·cases d
 ·cases d
omit hE in
theorem LV (P:Program) (k:IntKind):∀{l:List AV} {l':List Value} {x:SE} {a:AV},VL ρ l l'→Po k x l=some a→∃v,(l'.foldlM Builtin.max2 (.int k (Af U.V x))).run P w=.ok v w∧VR ρ a v
 |[],l',x,a,hl,h=>by
  rw [hl.nil_inv];simp only [Po,A1] at h;subst h;exact ⟨_,by simp,DE ρ k x⟩
 |y::r,l',x,a,hl,h=>by
  obtain ⟨v,r',rfl,hv,hr⟩:=hl.cons_inv;simp only [Po] at h;split at h
  ·rename_i k' b hb;have ev:=DS hv hb;subst ev;split at h
   ·rename_i hd;have:=AA U.ok hd;rw [AB,F4] at this;obtain ⟨u,q1,q2⟩:=LV P k hr h;refine ⟨u,?_,q2⟩;simp only [List.foldlM_cons,Builtin.max2,B2,CU,A2];rw [if_pos (by omega)];exact q1
   ·rename_i hd;have:=AA U.ok hd;rw [AB,L2] at this;obtain ⟨u,q1,q2⟩:=LV P k hr h;refine ⟨u,?_,q2⟩;simp only [List.foldlM_cons,Builtin.max2,B2,CU,A2];rw [if_neg (by omega)];exact q1
   ·cases h
  ·cases h
omit hE in
theorem NB (P:Program) (k:IntKind):∀{l:List AV} {l':List Value} {x:SE} {a:AV},VL ρ l l'→Pj k x l=some a→∃v,(l'.foldlM Builtin.min2 (.int k (Af U.V x))).run P w=.ok v w∧VR ρ a v
 |[],l',x,a,hl,h=>by
  rw [hl.nil_inv];simp only [Pj,A1] at h;subst h;exact ⟨_,by simp,DE ρ k x⟩
 |y::r,l',x,a,hl,h=>by
  obtain ⟨v,r',rfl,hv,hr⟩:=hl.cons_inv;simp only [Pj] at h;split at h
  ·rename_i k' b hb;have ev:=DS hv hb;subst ev;split at h
   ·rename_i hd;have:=AA U.ok hd;rw [AB,F4] at this;obtain ⟨u,q1,q2⟩:=NB P k hr h;refine ⟨u,?_,q2⟩;simp only [List.foldlM_cons,Builtin.min2,B2,CU,A2];rw [if_pos (by omega)];exact q1
   ·rename_i hd;have:=AA U.ok hd;rw [AB,L2] at this;obtain ⟨u,q1,q2⟩:=NB P k hr h;refine ⟨u,?_,q2⟩;simp only [List.foldlM_cons,Builtin.min2,B2,CU,A2];rw [if_neg (by omega)];exact q1
   ·cases h
  ·cases h
omit hE in
theorem YS {ats:Array TypeId} {ty:TypeId} {args:List AV} {args':List Value} {a:AV} (ha:VL ρ args args') (hq:ay args=some a):∃v,(Builtin.max_ ats ty args'.toArray).run E.P w=.ok v w∧VR ρ a v:=by
 cases args with
 |nil=>cases hq
 |cons x r=>
  obtain ⟨v,r',rfl,hv,hl⟩:=ha.cons_inv;simp only [ay] at hq;split at hq
  ·rename_i k e he;have ev:=DS hv he;subst ev;obtain ⟨u,q1,q2⟩:=LV (w:=w) E.P k hl hq;exact ⟨u,by simpa [Builtin.max_] using q1,q2⟩
  ·cases hq
omit hE in
theorem ZG {ats:Array TypeId} {ty:TypeId} {args:List AV} {args':List Value} {a:AV} (ha:VL ρ args args') (hq:Zx args=some a):∃v,(Builtin.min_ ats ty args'.toArray).run E.P w=.ok v w∧VR ρ a v:=by
 cases args with
 |nil=>cases hq
 |cons x r=>
  obtain ⟨v,r',rfl,hv,hl⟩:=ha.cons_inv;simp only [Zx] at hq;split at hq
  ·rename_i k e he;have ev:=DS hv he;subst ev;obtain ⟨u,q1,q2⟩:=NB (w:=w) E.P k hl hq;exact ⟨u,by simpa [Builtin.min_] using q1,q2⟩
  ·cases hq
omit hE in
theorem j5 {op:UnOp} {x r:AV} {xv:Value} (hx:VR ρ x xv) (hr:unB op x=some r):∃v,(Op.unary op xv).run E.P w=.ok v w∧VR ρ r v:=by
 unfold unB at hr;split at hr
 ·rename_i k e;cases hr;cases hx;refine ⟨_,by simp only [Op.unary,Op.intArith,CU];rfl,?_⟩
  have:=DE ρ k (.arith .sub k (.c 0) e);rw [Hl] at this;simpa [D7,CB] using this
 ·exact jJ hx hr
theorem NU {h h':Aa} (hr:HR ρ h.blk.get w) {t:TypeId} {l c a:AV} {lv d:Value} (hl:VR ρ l lv) (f:VR ρ c d) (hb:In E t l c h=some (a,h')) (g:Bs ρ h.nx h'.nx) :
  Bj E ρ h h' w (Instr.makeSlice t lv d) a:=by unfold In at hb;cases hb
end
end Go.AE
namespace Go.AE
variable [U:Unk]
section
variable {E:Env} {w:World} (hE:OK E)
include hE
theorem HR.freeze {ρ:Ren} {h:Aa} (hr:HR ρ h.blk.get w) {b:Nat} {base:DF} (hb:ρ b=some base) (hl:h.blk.get b≠none) {r:Array Value} {e:TypeId} {fz:Nat×Nat} (hw:w.heap[base.cb]?=some (.cells r e fz)) :
  ∃σ:Ren,ρ.le σ∧σ.imm base.cb=some r∧HR σ (h.strike b).blk.get w∧Ext ρ σ h (h.strike b) w w:=by
 let σ:Ren:=⟨ρ.m,fun k=>if k=base.cb then some r else ρ.imm k⟩
 have ab:ρ.le σ:=⟨fun _ _ h=>h,fun k a hk=>by
  show (if k=base.cb then some r else ρ.imm k)=some a
  rw [if_neg (fun e=>hr.off k a b base hk hb hl e.symm)]
  exact hk⟩
 have I:∀c,(h.strike b).blk.get c≠none→c≠b∧h.blk.get c≠none:=by
  intro c C;simp only [Aa.strike,T.get_del] at C;by_cases e:b=c
  ·rw [if_pos e] at C;exact absurd rfl C
  ·rw [if_neg e] at C;exact ⟨fun e'=>e e'.symm,C⟩
 have ar:∀c,c≠b→(h.strike b).blk.get c=h.blk.get c:=by
  intro c C;simp only [Aa.strike,T.get_del];rw [if_neg (fun e=>C e.symm)]
 obtain ⟨p1,p2⟩:=hr.strike b;refine ⟨σ,ab,?_,⟨hr.lt,?_,?_,?_,?_⟩,⟨ab,p2.nx,fun c bs C=>.inl C,p2.calm,fun _ _ _=>rfl,p2.log,p2.live,?_⟩⟩
 ·show (if base.cb=base.cb then some r else _)=_
  rw [if_pos rfl]
 ·intro c bs x C hx;have J:=I c (by rw [hx];exact A3 _)
  rw [ar c J.1] at hx;exact (hr.blk c bs x C hx).mono ab
 ·intro c c' bs av bd C bm h1 h2;exact hr.apart c c' bs av bd C bm (I c h1).2 (I c' h2).2
 ·intro k arr hk;have j:(if k=base.cb then some r else ρ.imm k)=some arr:=hk
  by_cases c:k=base.cb
  ·rw [if_pos c] at j;cases j;subst c;exact ⟨e,fz,hw⟩
  ·rw [if_neg c] at j;exact hr.imm k arr j
 ·intro k arr c bs hk C bv;have J:=I c bv;have j:(if k=base.cb then some r else ρ.imm k)=some arr:=hk
  by_cases d:k=base.cb
  ·subst d;exact hr.apart c b bs base J.1 C hb J.2 hl
  ·rw [if_neg d] at j;exact hr.off k arr c bs j C J.2
 ·intro k arr hk;have j:(if k=base.cb then some r else ρ.imm k)=some arr:=hk
  by_cases d:k=base.cb
  ·exact .inr (.inr ⟨b,base,hb,hl,d.symm⟩)
  ·rw [if_neg d] at j;exact .inl j
theorem LS {ρ:Ren} {h h':Aa} {kd:Kd} {a G:AV} {v:Value} (t:HR ρ h.blk.get w) (C:VR ρ a v) (g:Ls E kd a h=(G,h')) :
  ∃o:Ren,VR o G v∧HR o h'.blk.get w∧Ext ρ o h h' w w:=by
 have same:(a,h)=(G,h')→∃o:Ren,VR o G v∧HR o h'.blk.get w∧Ext ρ o h h' w w:=by
  intro e;cases e;exact ⟨ρ,C,t,Ext.refl _ _ _⟩
 unfold Ls at g;split at g
 ·rename_i e;split at g
  ·rename_i b J n nl;split at g
   ·rename_i e' x ks H L;split at g
    ·rename_i M;cases g;obtain ⟨M,c3⟩:=AC M;obtain ⟨c1,c2⟩:=AC M;have e1:=AK c1;subst e1;have e2:=AK c2;have C:=JU c3 C;have q:U.K e=some ks:=by rw [hE.kd,←hE.ke];exact L
     have d:(Ab U.V (.nilIs x nl)).isNil=Ah U.V nl:=rfl;have z:(Ab U.V (.nilIs x nl)).rows=(Ab U.V x).rows:=rfl;cases C with
     |asl _ _ _ _ cap f I A k hz N=>
      obtain ⟨aa,r,et,fz,b1,b2,b3,b4,b5⟩:=t.blk b f _ I H;rw [q] at b1;cases b1;obtain ⟨o,O,P,Q,R⟩:=HR.freeze hE t I (by rw [H];exact A3 _) b2
      have m:(Af U.V (.lenL x)).toNat=(Ab U.V x).rows.length:=by rw [As];simp
      refine ⟨o,.dat e _ _ _ _ ?_,Q,R⟩;have u:=b5.mono O.imm;exact .slc e f.cb f.co _ cap _ ks r q P (by rw [z,m]) k (by rw [d,N]) (by rw [m];exact u.1) (fun i hi=>u.2.1 i (by rw [m] at hi;exact hi)) (fun i j kd hi S=>u.2.2 i j kd (by rw [m] at hi;exact hi) S)
     |aslEnd _ _ _ _ ad A p=>
      obtain ⟨p1,p2⟩:=t.strike b
      have D:(Ab U.V x).rows=[]:=by
       rw [As] at A;exact F0 (by omega)
      refine ⟨ρ,.dat e _ _ _ _ ?_,p1,p2⟩;cases ad with
      |none=>exact .nil e _ (by rw [d,←p];rfl) (by rw [z];exact D)
      |some ad=>exact .empty e ad 0 _ (by rw [d,←p];rfl) (by rw [z];exact D)
    ·exact same g
   ·exact same g
  ·rename_i nl;cases g;cases C with
   |eslc _ ad p=>
    have d:(Ab U.V (.nilIs .nilL nl)).isNil=Ah U.V nl:=rfl;refine ⟨ρ,.dat e _ _ _ _ ?_,t,Ext.refl _ _ _⟩;cases ad with
    |none=>exact .nil e _ (by rw [d,←p];rfl) rfl
    |some ad=>exact .empty e ad 0 _ (by rw [d,←p];rfl) rfl
  ·rename_i b off n J;split at g
   ·rename_i ks L;split at g
    ·rename_i l F hl;split at g
     ·rename_i y X;cases g;have F:=AK F;have q:U.K e=some ks:=by rw [hE.kd,←hE.ke];exact L
      obtain ⟨vs,v1,v2,v3⟩:=J1 hE (e:=e) (ks:=ks) t C hl;obtain ⟨Y,r1,r2,r3⟩:=FI (ρ:=ρ) n .emptyL y l vs X v1;have T:(Ab U.V y).rows=Y:=by rw [r2];rfl
      have d:(Ab U.V y).isNil=false:=by
       have:∀(n:Nat) (y0 y:SE) (l:List AV),Es ks n y0 l=some y→(Ab U.V y0).isNil=false→(Ab U.V y).isNil=false:=by
        intro n
        induction n with
        |zero=>intro y0 y l h A;cases l with
         |nil=>simp only [Es,A1] at h;subst h;exact A
         |cons=>cases h
        |succ n ih=>
         intro y0 y l h A;simp only [Es] at h;split at h
         ·exact ih _ _ _ h rfl
         ·cases h
       exact this n .emptyL y l X rfl
      rcases v3 with ⟨A,ad,rfl⟩|⟨f,r,et,fz,cap,sz,c,I,H,rfl,k,hz,hw,W,ab,hv⟩
      ·obtain ⟨p1,p2⟩:=t.strike b;exact ⟨ρ,.dat e _ _ _ _ (.empty e ad 0 _ d (by rw [T];exact F0 (by rw [r1,A]))),p1,p2⟩
      ·obtain ⟨o,O,P,Q,R⟩:=HR.freeze hE t I (by rw [H];exact A3 _) hw
       have Z:n*J≤cap*J:=F3 _ k;have B:By U.K ρ.imm ks r (f.co+off) Y:=r3.at (by rw [v2,W];omega) hv
       have u:=B.mono O.imm;rw [←T] at u;have s:(Ab U.V y).rows.length=n:=by rw [T,r1]
       refine ⟨o,.dat e _ _ _ _ (.slc e f.cb (f.co+off) n cap _ ks r q P s k d ?_ (fun i hi=>u.2.1 i (by rw [s];exact hi)) (fun i j kd hi S=>u.2.2 i j kd (by rw [s];exact hi) S)),Q,R⟩
       have:=u.1;rw [s] at this;exact this
     ·exact same g
    ·exact same g
   ·exact same g
  ·exact same g
 ·exact same g
omit hE in
theorem P9 {kd:Kd} {a a':AV} {h h':Aa} (hx:Ls E kd a h=(a',h')):h'.nx=h.nx:=by
 unfold Ls at hx
 repeat' split at hx
 all_goals (cases hx;rfl)
theorem LT:∀{i:List Kd} {l d:List AV} {vs:List Value} {c:Ren} {h h':Aa},HR c h.blk.get w→VL c l vs→Jk E i l h=(d,h')→
  h'.nx=h.nx∧∃j:Ren,VL j d vs∧HR j h'.blk.get w∧Ext c j h h' w w
 |[],l,d,vs,c,h,h',e,f,hx=>by
  cases l<;>(simp only [Jk] at hx;cases hx;exact ⟨rfl,c,f,e,Ext.refl _ _ _⟩)
 |k::i,[],d,vs,c,h,h',e,f,hx=>by
  simp only [Jk] at hx;cases hx;exact ⟨rfl,c,f,e,Ext.refl _ _ _⟩
 |k::i,a::l,d,vs,c,h,h',e,f,hx=>by
  obtain ⟨v,r,rfl,p,q⟩:=f.cons_inv;simp only [Jk] at hx;generalize g:Ls E k a h=p1 at hx;obtain ⟨a1,s⟩:=p1;simp only at hx;generalize m:Jk E i l s=p2 at hx;obtain ⟨l1,B⟩:=p2;simp only at hx;cases hx;have t:=P9 g;obtain ⟨j,u,x,n⟩:=LS hE e p g;obtain ⟨y,z,r1,r2,o⟩:=LT x (q.mono n.le) m;refine ⟨by omega,z,VL.cons (u.mono o.le) r1,r2,n.trans o (fun b C A=>by omega)⟩
omit hE in
theorem ZM {kd:Kd} {a a':AV} {h h':Aa} (hx:Ls E kd a h=(a',h')):h'=h∨∃b,h'=h.strike b:=by
 unfold Ls at hx
 repeat' split at hx
 all_goals (cases hx;first|exact .inl rfl|exact .inr ⟨_,rfl⟩)
omit hE in
theorem Rt:∀{ks:List Kd} {l l':List AV} {h h':Aa},Jk E ks l h=(l',h')→h'.nx=h.nx∧(∃m,h'.log=m++h.log∧∀c,c∉m→h'.blk.get c=h.blk.get c)∧∀c,h'.blk.get c=none∨h'.blk.get c=h.blk.get c
 |[],l,l',h,h',hx=>by
  cases l<;>(simp only [Jk] at hx;cases hx;exact ⟨rfl,⟨[],rfl,fun _ _=>rfl⟩,fun _=>.inr rfl⟩)
 |k::ks,[],l',h,h',hx=>by
  simp only [Jk] at hx;cases hx;exact ⟨rfl,⟨[],rfl,fun _ _=>rfl⟩,fun _=>.inr rfl⟩
 |k::ks,a::l,l',h,h',hx=>by
  simp only [Jk] at hx;generalize hf1:Ls E k a h=p1 at hx;obtain ⟨a1,h3⟩:=p1;simp only at hx;generalize hf2:Jk E ks l h3=p2 at hx;obtain ⟨l1,h4⟩:=p2;simp only at hx;cases hx;obtain ⟨q1,⟨m,q2,q3⟩,q4⟩:=Rt hf2;rcases ZM hf1 with rfl|⟨b,rfl⟩
  ·exact ⟨q1,⟨m,q2,q3⟩,q4⟩
  ·have hget:∀c,(h.strike b).blk.get c=if b=c then none else h.blk.get c:=fun c=>by simp only [Aa.strike,T.get_del]
   refine ⟨q1,⟨m++[b],by rw [q2];simp [Aa.strike],fun c hc=>?_⟩,fun c=>?_⟩
   ·simp only [eq,Ts,not_or] at hc;rw [q3 c hc.1,hget,if_neg (fun e=>hc.2 e.symm)]
   ·rcases q4 c with r|r
    ·exact .inl r
    ·rw [r,hget];by_cases e:b=c
     ·rw [if_pos e];exact .inl rfl
     ·rw [if_neg e];exact .inr rfl
theorem KW {j:Ren} {h:Aa} {ks:List Kd} {b:Nat} (t:HR j h.blk.get w):(EU E ks b h).nx=h.nx∧∃o:Ren,HR o (EU E ks b h).blk.get w∧Ext j o h (EU E ks b h) w w:=by
 have same:h.nx=h.nx∧∃o:Ren,HR o h.blk.get w∧Ext j o h h w w:=⟨rfl,j,t,Ext.refl _ _ _⟩
 unfold EU;split
 ·rename_i n c K;split
  ·rename_i l hl;split;rename_i l' h' L;split
   ·rename_i m A B;split
    ·rename_i hc;obtain ⟨c1,c2⟩:=AC hc;have e1:=AK c1;have X:=AK c2;subst e1;cases C:j b with
     |none=>
      obtain ⟨s1,⟨N,O,P⟩,M⟩:=Rt L;have g:HR j h'.blk.get w:=t.restrict (fun c=>M c)
      have hget:∀c,c≠b→(h'.put b (.cells m (.ofList l'))).blk.get c=h'.blk.get c:=fun c hc=>by
       simp only [Aa.put,T.get_set];rw [if_neg (fun e=>hc e.symm)]
      have u:∀{c:Nat} {p:DF},j c=some p→c≠b:=fun hc e=>by subst e;rw [C] at hc;cases hc
      refine ⟨s1,j,⟨g.lt,fun c p x hc hx=>?_,fun c A p D F hc q G y=>?_,g.imm,fun k arr c p Q hc hl=>?_⟩,⟨Ren.le_refl j,by show h.nx≤h'.nx;omega,fun _ _ e=>.inl e,IH.refl w,fun _ _ _=>rfl,⟨b::N,by simp [Aa.put,O],fun c hc _=>?_⟩,fun c hc=>?_,fun _ _ e=>.inl e⟩⟩
      ·rw [hget c (u hc)] at hx;exact g.blk c p x hc hx
      ·rw [hget c (u hc)] at G;rw [hget A (u q)] at y;exact g.apart c A p D F hc q G y
      ·rw [hget c (u hc)] at hl;exact g.off k arr c p Q hc hl
      ·simp only [F5,not_or] at hc;rw [hget c hc.1];exact P c hc.2
      ·by_cases e:c=b
       ·subst e;exact .inl (by rw [K];exact A3 _)
       ·rw [hget c e] at hc;rcases M c with r|r
        ·rw [r] at hc;exact absurd rfl hc
        ·rw [r] at hc;exact .inl hc
     |some d=>
      obtain ⟨f,R,S,b1,b2,b3,V,W⟩:=t.blk b d _ C K;obtain ⟨l1,l2⟩:=T.range_spec c _ _ _ hl
      have H:VL j l ((f.toList.drop d.co).take m):=by
       refine ⟨by simp [l1];omega,fun i a v s z=>?_⟩
       have hi:i<m:=by have:=(B3.1 s).1;omega
       have:=l2 i hi;rw [R2,s] at this;obtain ⟨Y,v1,v2⟩:=W i a hi this;rw [XB,if_pos hi,SX,K3,v1] at z;cases z;exact v2
      obtain ⟨hn,o,q1,q2,q3⟩:=LT hE t H L;have I:o b=some d:=q3.le.m b d C
      obtain ⟨r1,r2⟩:=q2.put I (by rw [B];exact A3 _) (.cells m (.ofList l')) w ⟨f,R,S,b1,b2,b3,V,fun i a hi s=>by
       rw [T.get_ofList] at s
       have z:((f.toList.drop d.co).take m)[i]?=f[d.co+i]?:=by
        rw [XB,if_pos hi,SX,K3]
       have J:d.co+i<f.size:=by omega
       have hc:f[d.co+i]?=some f[d.co+i]:=by simp [J]
       exact ⟨_,hc,q1.2 i a _ s (by rw [z,hc])⟩⟩ rfl (fun _ _=>rfl) rfl rfl rfl
      exact ⟨hn,o,r1,q3.trans r2 (fun c G y=>by simp only [Aa.put] at y;omega)⟩
    ·exact same
   ·exact same
  ·exact same
 ·exact same
theorem Ps {d:Ren} {h:Aa} {e:TypeId} {b:Nat} (f:HR d h.blk.get w):(Is E e b h).nx=h.nx∧∃g:Ren,HR g (Is E e b h).blk.get w∧Ext d g h (Is E e b h) w w:=by
 unfold Is;split
 ·exact KW hE f
 ·exact ⟨rfl,d,f,Ext.refl _ _ _⟩
omit hE in
theorem WJ {t:TypeId} {x a:AV} {h h':Aa} (hx:Er E t x a h=some h'):h'.nx=h.nx:=by
 unfold Er PF storeN at hx
 repeat' split at hx
 all_goals first | (cases hx;done) | (cases hx;rfl)
theorem RO {g:Ren} {h h':Aa} (n:HR g h.blk.get w) {t:TypeId} {x a:AV} {o v:Value} (hx:VR g x o) (p:VR g a v) (hl:M2 E t x a h=some h') :
  ∃f d,(Instr.storeAt t o v).run E.P w=.ok () d∧HR f h'.blk.get d∧Ext g f h h' w d:=by
 have plain:Er E t x a h=some h'→∃f d,(Instr.storeAt t o v).run E.P w=.ok () d∧HR f h'.blk.get d∧Ext g f h h' w d:=by
  intro hs;obtain ⟨d,q1,q2,q3⟩:=JY hE n hx p hs;exact ⟨g,d,q1,q2,q3⟩
 have i:∀{t:TypeId} {x a:AV} {h h':Aa},Er E t x a h=some h'→h'.nx=h.nx:=WJ
 unfold M2 at hl;split at hl
 ·split at hl
  ·split at hl
   ·split at hl
    ·split at hl
     ·rename_i l;split at hl;rename_i l1 u j;cases p with
      |agg _ l' e1 y=>
       obtain ⟨hn,f,q1,q2,q3⟩:=LT hE n ⟨e1,y⟩ j;obtain ⟨d,r1,r2,q⟩:=JY hE q2 (hx.mono q3.le) (.agg l1 l' q1.1 q1.2) hl;have:=i hl;exact ⟨f,d,r1,r2,q3.trans q (fun b z s=>by omega)⟩
     ·split at hl;rename_i v1 u j;obtain ⟨f,q1,q2,q3⟩:=LS hE n p j;obtain ⟨d,r1,r2,q⟩:=JY hE q2 (hx.mono q3.le) q1 hl;have:=i hl;have:=P9 j;exact ⟨f,d,r1,r2,q3.trans q (fun b z s=>by omega)⟩
    ·exact plain hl
   ·exact plain hl
  ·exact plain hl
 ·exact plain hl
theorem RY {f:Ren} {h:Aa} {e:TypeId} {a:AV} (g:HR f h.blk.get w):(GT E e a h).nx=h.nx∧∃d:Ren,HR d (GT E e a h).blk.get w∧Ext f d h (GT E e a h) w w:=by
 have same:h.nx=h.nx∧∃d:Ren,HR d h.blk.get w∧Ext f d h h w w:=⟨rfl,f,g,Ext.refl _ _ _⟩
 unfold GT;split
 ·split
  ·split
   ·exact Ps hE g
   ·exact same
  ·exact same
 ·exact same
theorem P3 {f:Ren} {h h':Aa} (j:HR f h.blk.get w) {t t' ty:TypeId} {s x a:AV} {n o:Value} (hs:VR f s n) (hx:VR f x o) (g:J4 E t t' s x h=some (a,h')) (i:Bs f h.nx h'.nx)
  (hA:∀a h',Js E t t' s x h=some (a,h')→Bs f h.nx h'.nx→Bj E f h h' w (Builtin.append_ #[t,t'] ty #[n,o]) a) :
  Bj E f h h' w (Builtin.append_ #[t,t'] ty #[n,o]) a:=by
 unfold J4 at g;split at g
 ·rename_i q;split at g
  ·rename_i e G;obtain ⟨n1,H,q1,q2⟩:=RY (e:=e) (a:=s) hE j;obtain ⟨n2,u,r1,r2⟩:=RY (e:=e) (a:=x) hE q1;have d:=q2.le.trans r2.le;have p:Bs u (GT E e x (GT E e s h)).nx h'.nx:=Ext.free r2 (Ext.free q2 i);obtain ⟨y,v,z,s1,A,B,C⟩:=IJ hE r1 (hs.mono d) (hx.mono d) g p (fun a D F hf2=>MV hE r1 (hs.mono d) (hx.mono d) F hf2)
   exact ⟨y,v,z,s1,A,B,q2.trans (r2.trans C (Ext.free q2 i)) i⟩
  ·exact IJ hE j hs hx g i hA
 ·exact IJ hE j hs hx g i hA
end
end Go.AE
namespace Go.AE
variable [U:Unk]
theorem cp {d:Option TypeDesc} (h:jy d=true):d=some (.int .u8):=by
 unfold jy at h;split at h
 ·rfl
 ·cases h
theorem WY {d:Option (List Kd)} (h:UG d=true):d=some [.int .u8]:=by
 unfold UG at h;split at h
 ·rfl
 ·cases h
theorem aT {l:List UInt8} {i:Nat} (hi:i<l.length):((l.map fun b=>D.row [.int b.toNat]).getD i default)=.row [.int l[i].toNat]:=by
 rw [A4,P8,E1 hi];rfl
theorem ew {t:ByteArray} {m i:Nat} (hi:i<t.data.toList.length):(t.data.map (fun (b:UInt8)=>Value.int .u8 b.toNat)++Array.replicate m (Value.int .u8 0)).getD i Go.undef=.int .u8 (t.data.toList[i].toNat:Nat):=by
 have a:i<t.data.size:=by rw [←Array.length_toList];exact hi
 have:(t.data.map (fun (b:UInt8)=>Value.int .u8 b.toNat)++Array.replicate m (Value.int .u8 0))[i]?=some (.int .u8 (t.data.toList[i].toNat:Nat)):=by
  rw [fk (by simpa using a),Array.getElem?_map,Array.getElem?_eq_getElem a]
  simp
 rw [C2,this];rfl
section
variable {E:Env} (hE:OK E) {ρ:Ren} {h:Aa} {w:World}
include hE
theorem WM {t:TypeId} {x i a:AV} {b c:Value} (d:VR ρ x b) (hi:VR ρ i c) (hl:S2 E t x i=some a) :
  ∃v,(Instr.index t b c).run E.P w=.ok v w∧VR ρ a v:=by unfold S2 at hl;cases hl
theorem bK (r:HR ρ h.blk.get w) {s d:TypeId} {x a:AV} {L:Value} {h':Aa} (u:VR ρ x L) (l:Yo E s d x h=some (a,h')) (v:Bs ρ h.nx h'.nx) :
  Bj E ρ h h' w (convert s d L) a:=by
 unfold Yo at l;split at l
 ·rename_i y;split at l
  ·rename_i e N;split at l
   ·rename_i z;cases l;obtain ⟨z,c3⟩:=AC z;obtain ⟨c1,c2⟩:=AC z;have O:=cp c1;have Q:=WY c2;obtain ⟨R,hs⟩:=Option.isSome_iff_exists.1 c3;have us:=hE.run_und hs w;have S:=hE.run_und N w;have T:=hE.run_und O w;cases u with
    |ss _=>
     generalize W:Ba U.V y=t;have n:ρ h.nx=none:=v h.nx (C1 _) (by simp [Aa.new])
     generalize m:grownCap w t.size 0 e=c;have A:t.size≤c:=by rw [←m];exact grownCap_ge w _ _ _
     generalize f:(t.data.map (fun b=>Value.int .u8 b.toNat)++Array.replicate (c-t.size) (.int .u8 0))=arr
     have q:arr.size=c:=by rw [←f];simp;omega
     have B:HR ρ h.blk.get {w with drawn:=w.drawn+1}:=r.same rfl
     have C:U.K e=some [.int .u8]:=by rw [hE.kd,←hE.ke];exact Q
     have M:(Ab U.V (.bytes y)).rows=t.data.toList.map fun b=>.row [.int b.toNat]:=by
      show ((Ab U.V y).toStr.data.toList.map _)=_;have:(Ab U.V y).toStr=t:=W;rw [this]
     have D:t.size=t.data.toList.length:=by simp
     have o:By U.K ρ.imm [.int .u8] arr 0 (Ab U.V (.bytes y)).rows:=by
      rw [M];refine ⟨by simp only [List.length_map,hQ];omega,fun i hi=>?_,fun i j kd hi F=>?_⟩
      ·have k:i<t.data.toList.length:=by simpa using hi
       rw [aT k];rfl
      ·have k:i<t.data.toList.length:=by simpa using hi
       have G:j=0:=by
        cases j with
        |zero=>rfl
        |succ j=>simp at F
       subst G;simp only [D1,A1] at F;subst F;rw [aT k];show DV U.K ρ.imm (.int .u8) (arr.getD (0+i*1+0) Go.undef) (.int (t.data.toList[i].toNat:Nat));rw [show 0+i*1+0=i by omega,←f,ew k]
       have X:=t.data.toList[i].toNat_lt;exact .int .u8 _ _ (.inr ⟨by show (0:Int)≤_;omega,by show _≤(255:Int);omega⟩) rfl
     obtain ⟨p1,p2⟩:=B.new n (.arr e (.bytes y)) (.cells arr e (arr.size,arr.size+1)) arr.size ⟨_,_,e,_,C,rfl,rfl,.inr (C1 _),o⟩ {w with drawn:=w.drawn+1,heap:=w.heap.push (.cells arr e (arr.size,arr.size+1))} rfl rfl rfl rfl
     refine ⟨_,.slice (some ⟨w.heap.size,0,none⟩) t.size c,_,?_,?_,p1,p2.drawn rfl rfl rfl rfl⟩
     ·have H:(choose (.appendCap t.size 0 e)).run E.P w=.ok c {w with drawn:=w.drawn+1}:=by rw [←m];simp [Question.forced,grownCap]
      have p:(convert s d (.string t)).run E.P w=(Conv.stringToBytes e t).run E.P w:=by
       cases R<;>simp [convert,us,S,T]
      rw [p];simp only [Conv.stringToBytes,B2,H,A2,newRow,fc,CU,f];simp only [markStringish,B2,run_shape,A2];have I:({w with drawn:=w.drawn+1,heap:=w.heap.push (.cells arr e)}:World).shape? w.heap.size=some (e,arr.size):=by simp [World.shape?]
      rw [I];simp only [run_freeze,A2]
      have J:({w with drawn:=w.drawn+1,heap:=w.heap.push (.cells arr e)}:World).freeze ⟨w.heap.size,arr.size,none⟩ 1={w with drawn:=w.drawn+1,heap:=w.heap.push (.cells arr e (arr.size,arr.size+1))}:=by
       simp [World.freeze,KM]
      rw [J]
     ·have g:Af U.V (.lenL (.bytes y))=(t.size:Nat):=by rw [As,M,D];simp
      have:=VR.asl (ρ:=ρ.upd h.nx ⟨w.heap.size,0,arr.size⟩) h.nx 1 (.lenL (.bytes y)) (.bc false) c ⟨w.heap.size,0,arr.size⟩ (Ren.upd_same _ _ _) (by rw [g];exact Int.natCast_nonneg _) (by rw [g];simpa using A) (by show 0+c*1≤arr.size;rw [q];omega) rfl
      rw [g] at this;simpa using this
   ·cases l
  ·exact Ro hE r u l v
 ·exact Ro hE r u l v
end
end Go.AE
namespace Go.AE
variable [U:Unk]
theorem Kb {l u n:SE} (h:inB l u n=true):0≤Af U.V l∧Af U.V l≤Af U.V u∧Af U.V u≤Af U.V n:=by
 unfold inB at h;obtain ⟨d,e⟩:=AC h;obtain ⟨f,g⟩:=AC d;have a:=Ly f;have b:=Ly g;have c:=Ly e;rw [AB,L2] at a b c;have z:Af U.V (.c 0)=0:=rfl;rw [z] at a;omega
theorem Fk {c:Ren} {d e:SE} {o:Option AV} {b:Option Value} (f:∀a,o=some a→∃v,b=some v∧VR c a v) (g:o=none→b=none) (h:H7 d o=some e) :
  (b=none∧e=d)∨∃k,b=some (.int k (Af U.V e)):=by
 cases o with
 |none=>cases h;exact .inl ⟨g rfl,rfl⟩
 |some a=>
  obtain ⟨v,i,j⟩:=f a rfl;simp only [H7] at h;split at h
  ·rename_i k m l;cases h;exact .inr ⟨k,by rw [i,DS j l]⟩
  ·cases h
theorem jH {d:Ren} {o:Option AV} {e:Option Value} (f:∀a,o=some a→∃v,e=some v∧VR d a v):∀a,o.map NR=some a→∃v,e=some v∧VR d a v:=by
 intro a c;cases o with
 |none=>cases c
 |some b=>
  simp only [X8,A1] at c;subst c;obtain ⟨v,g,h⟩:=f b rfl;exact ⟨v,g,LC h⟩
omit U in
theorem ZZ [Facts] {o:Option AV} {o':Option Value} (h0:o=none→o'=none):o.map NR=none→o'=none:=by
 intro h;cases o with
 |none=>exact h0 rfl
 |some b=>cases h
theorem JV {P:Program} {w:World} {kd:IntKind} {x:Int} {y:Nat} {code:BoundsCode} (h0:0≤x) (a:x≤y):(Instr.sliceBound (.int kd x) y code).run P w=.ok x.toNat w:=by
 simp [Instr.sliceBound,asIntOf,h0,a]
theorem H4 {P:Program} {w:World} {b:Bool} {len cap:Nat} {l u dl du:SE} {f hi':Option Value} (hl:(f=none∧l=dl)∨∃k,f=some (.int k (Af U.V l))) (j:(hi'=none∧u=du)∨∃k,hi'=some (.int k (Af U.V u)))
  (g:Af U.V dl=0) (i:Af U.V du=len) (h0:0≤Af U.V l) (n:Af U.V l≤Af U.V u) (p:Af U.V u≤len) (q:len≤cap) :
  (Instr.sliceBounds b len cap f hi' none).run P w=.ok ((Af U.V l).toNat,(Af U.V u).toNat,cap) w:=by
 rcases j with ⟨a,c⟩|⟨k,a⟩
 ·subst a;subst c;rcases hl with ⟨d,e⟩|⟨k,d⟩
  ·subst d;subst e;simp [Instr.sliceBounds,g,i]
  ·subst d;have:=JV (P:=P) (w:=w) (kd:=k) (code:=.sliceB) h0 (show Af U.V l≤(len:Int) by omega)
   simp [Instr.sliceBounds,i,this]
 ·subst a;have hs:∀code,(Instr.sliceBound (.int k (Af U.V u)) cap code).run P w=.ok (Af U.V u).toNat w:=fun code=>JV (by omega) (by omega)
  rcases hl with ⟨d,e⟩|⟨m,d⟩
  ·subst d;subst e;simp [Instr.sliceBounds,g,hs]
  ·subst d;have:=JV (P:=P) (w:=w) (kd:=m) (code:=.sliceB) h0 (show Af U.V l≤((Af U.V u).toNat:Int) by omega)
   simp [Instr.sliceBounds,hs,this]
theorem EX {y l u:SE}:(Ab U.V (.sub y l u)).rows=((Ab U.V y).rows.drop (Af U.V l).toNat).take ((Af U.V u).toNat-(Af U.V l).toNat):=rfl
theorem Mg {rows:List D} {l n i:Nat} (hi:i<n):((rows.drop l).take n).getD i default=rows.getD (l+i) default:=by
 rw [A4,A4,List.getElem?_take_of_lt hi,SX]
theorem HR.swap {ρ:Ren} {h:Aa} {w:World} (I:HR ρ h.blk.get w) {r:Nat} (hl:h.blk.get r≠none) (x:Aj) (hx:∀base,ρ r=some base→BR ρ x base w.heap[base.cb]?) :
  HR ρ (h.put r x).blk.get w∧Ext ρ ρ h (h.put r x) w w:=by
 have live:∀b,(h.put r x).blk.get b≠none→h.blk.get b≠none:=by
  intro b j;simp only [Aa.put,T.get_set] at j;by_cases e:r=b
  ·subst e;exact hl
  ·rw [if_neg e] at j;exact j
 refine ⟨⟨I.lt,?_,fun b b' c c' ab C ar j h2=>I.apart b b' c c' ab C ar (live b j) (live b' h2),I.imm,fun k arr b c hk C j=>I.off k arr b c hk C (live b j)⟩,
  ⟨Ren.le_refl ρ,C1 _,fun _ _ e=>.inl e,IH.refl w,fun _ _ _=>rfl,⟨[r],rfl,?_⟩,fun b j=>.inl (live b j),fun _ _ e=>.inl e⟩⟩
 ·intro b c y C J;simp only [Aa.put,T.get_set] at J;by_cases e:r=b
  ·subst e;rw [if_pos rfl] at J;cases J;exact hx c C
  ·rw [if_neg e] at J;exact I.blk b c y C J
 ·intro b av _;simp only [Aa.put,T.get_set];rw [if_neg (fun e=>av (by simp [e]))]
section
variable {E:Env} (hE:OK E) {ρ:Ren} {h:Aa} {w:World}
include hE
theorem OO (hr:HR ρ h.blk.get w) {t:TypeId} {x a:AV} {S:Value} {lo hi:Option AV} {f g:Option Value} {h':Aa} (X:VR ρ x S)
  (I:∀a,lo=some a→∃v,f=some v∧VR ρ a v) (p:lo=none→f=none)
  (J:∀a,hi=some a→∃v,g=some v∧VR ρ a v) (r:hi=none→g=none)
  (hl:QH E t x lo hi h=some (a,h')):h'=h∧∃v,(Instr.sliceAt t S f g none).run E.P w=.ok v w∧VR ρ a v:=by
 unfold QH at hl;split at hl
 ·rename_i e' y;split at hl
  ·rename_i e l u Y M N;split at hl
   ·rename_i c Z;split at hl
    ·rename_i O;cases hl;refine ⟨rfl,?_⟩;obtain ⟨c12,c3⟩:=AC O;obtain ⟨c1,c2⟩:=AC c12;have h0:=AK c1;subst h0;obtain ⟨b0,b1,b2⟩:=Kb c3;have s:U.K e=some c:=by rw [hE.kd,←hE.ke];exact Z
     have p1:=Fk I p M;have p2:=Fk J r N;rw [As] at b2;cases X with
     |dat _ _ ad n cap A=>
      have hn:(Ab U.V y).rows.length=n∧n≤cap:=by
       cases A with
       |nil _ _ k B=>rw [B];exact ⟨rfl,C1 _⟩
       |empty _ _ _ _ k B=>rw [B];exact ⟨rfl,hP _⟩
       |slc _ _ _ _ _ _ _ _ _ _ q1 q2=>exact ⟨q1,q2⟩
      obtain ⟨hn,O⟩:=hn;have q:=H4 (P:=E.P) (w:=w) (b:=true) (cap:=cap) p1 p2 rfl (by rw [As,hn]) b0 b1 (by rw [←hn];exact b2) O
      have C:(Instr.sliceAt t (.slice ad n cap) f g none).run E.P w=.ok (.slice (if cap=(Af U.V l).toNat then ad else ad.map (·.add ((Af U.V l).toNat*c.length))) ((Af U.V u).toNat-(Af U.V l).toNat) (cap-(Af U.V l).toNat)) w:=by
       simp [Instr.sliceAt,Instr.slice,hE.run_und Y,q,hE.run_szIs c2]
      refine ⟨_,C,?_⟩;refine .dat _ _ _ _ _ ?_;generalize T:(Af U.V l).toNat=L at *;generalize W:(Af U.V u).toNat=H at *;have aa:L≤H:=by omega
      have Q:H≤n:=by omega
      have d:(Ab U.V (.sub y l u)).rows.length=H-L:=by
       rw [EX,T,W];simp;omega
      cases A with
      |nil _ _ k B=>
       have z:L=0∧H=0:=by omega
       obtain ⟨rfl,rfl⟩:=z;simp only [Nat.sub_self,if_true];exact .nil _ _ k (F0 d)
      |empty _ a1 _ _ k B=>
       have z:L=0∧H=0:=by omega
       obtain ⟨rfl,rfl⟩:=z;have m:=F0 d;split
       ·exact .empty _ _ _ _ k m
       ·exact .empty _ _ _ _ k m
      |slc _ b o _ _ _ ab arr D R ac ae k af F hv=>
       rw [s] at D;cases D;by_cases G:cap=L
       ·rw [if_pos G];have z:H-L=0:=by omega
        rw [z] at d ⊢;exact .empty _ _ _ _ k (F0 d)
       ·rw [if_neg G];simp only [X8,CG]
        have key:∀i,i<H-L→(Ab U.V (.sub y l u)).rows.getD i default=(Ab U.V y).rows.getD (L+i) default:=by
         intro i hi;rw [EX,T,W,Mg hi]
        refine .slc _ _ _ _ _ _ c arr s R d (by omega) k ?_ ?_ ?_
        ·have e1:L*c.length+(H-L)*c.length=H*c.length:=by rw [←ce];congr 1;omega
         have e2:H*c.length≤n*c.length:=F3 _ Q;omega
        ·intro i hi;rw [key i hi];exact F _ (by omega)
        ·intro i j kd hi hj;rw [key i hi];have:=hv (L+i) j kd (by omega) hj
         rw [show o+L*c.length+i*c.length+j=o+(L+i)*c.length+j by rw [ce];omega]
         exact this
    ·cases hl
   ·cases hl
  ·cases hl
 ·cases hl
theorem O7 (K:HR ρ h.blk.get w) {t e:TypeId} {b A:Nat} {n nl y l u L:SE} {M:Value} {d f:Option Value} (N:E.desc t=some (.slice e)) (c2:E.szIs e A=true) (O:h.blk.get b=some (.arr e y)) (R:VR ρ (.asl b A n nl) M)
  (p1:(d=none∧l=.c 0)∨∃k,d=some (.int k (Af U.V l))) (p2:(f=none∧u=L)∨∃k,f=some (.int k (Af U.V u))) (C:Af U.V L=Af U.V n) (s:Af U.V l=0) (b1:0≤Af U.V u) (bn:Af U.V u≤Af U.V n) (b2:Af U.V u≤Af U.V (.lenL y)) :
  Bj E ρ h (h.put b (.arr e (.sub y (.c 0) u))) w (Instr.sliceAt t M d f none) (.asl b A (.lenL (.sub y (.c 0) u)) nl):=by
 have B:Af U.V (.lenL (.sub y (.c 0) u))=Af U.V u:=by
  rw [As,EX];rw [As] at b2;have:Af U.V (.c 0)=0:=rfl;rw [this];simp;omega
 have v:∀a,ρ b=some a→BR ρ (.arr e (.sub y (.c 0) u)) a w.heap[a.cb]?:=by
  intro a m;obtain ⟨x,D,S,T,F,G,H,I,p⟩:=K.blk b a _ m O;refine ⟨x,D,S,T,F,G,H,I,?_⟩
  have z:(Ab U.V (.sub y (.c 0) u)).rows.length≤(Ab U.V y).rows.length:=by
   rw [EX];simp;omega
  have key:∀i,i<(Ab U.V (.sub y (.c 0) u)).rows.length→(Ab U.V (.sub y (.c 0) u)).rows.getD i default=(Ab U.V y).rows.getD i default:=by
   intro i hi;rw [EX] at hi ⊢;have:Af U.V (.c 0)=0:=rfl;rw [this] at hi ⊢;rw [Mg (by simp at hi;omega)]
   congr 1
   simp
  refine ⟨?_,?_,?_⟩
  ·have:=p.1;have:=F3 x.length z;omega
  ·intro i hi;rw [key i hi];exact p.2.1 i (by omega)
  ·intro i j kd hi W;rw [key i hi];exact p.2.2 i j kd (by omega) W
 obtain ⟨r1,r2⟩:=K.swap (show h.blk.get b≠none by rw [O];exact A3 _) _ v
 cases R with
 |asl _ _ _ _ cap a m Q X Y J=>
  have q:=H4 (P:=E.P) (w:=w) (b:=true) (len:=(Af U.V n).toNat) (cap:=cap) p1 p2 rfl (by omega) (by omega) (by omega) (by omega) X
  rw [s] at q
  have g:(Instr.sliceAt t (.slice (some ⟨a.cb,a.co,none⟩) (Af U.V n).toNat cap) d f none).run E.P w=.ok (.slice (some ⟨a.cb,a.co,none⟩) (Af U.V u).toNat cap) w:=by
   simp [Instr.sliceAt,Instr.slice,hE.run_und N,q,hE.run_szIs c2,CG]
  refine ⟨ρ,_,w,g,?_,r1,r2⟩;have:=VR.asl (ρ:=ρ) b A (.lenL (.sub y (.c 0) u)) nl cap a m (by rw [B];exact b1) (by rw [B];omega) Y J
  rw [B] at this;exact this
 |aslEnd _ _ _ _ ad Q J=>
  have r:Af U.V u=0:=by omega
  have q:=H4 (P:=E.P) (w:=w) (b:=true) (len:=0) (cap:=0) p1 p2 rfl (by rw [C,Q];rfl) (by omega) (by omega) (by rw [r];exact Int.le_refl _) (C1 _)
  rw [s,r] at q
  have g:(Instr.sliceAt t (.slice ad 0 0) d f none).run E.P w=.ok (.slice ad 0 0) w:=by
   simp [Instr.sliceAt,Instr.slice,hE.run_und N,q,hE.run_szIs c2]
  exact ⟨ρ,_,w,g,.aslEnd _ _ _ _ _ (by rw [B];exact r) J,r1,r2⟩
theorem XU (r:HR ρ h.blk.get w) {t:TypeId} {x a:AV} {Q:Value} {lo hi I:Option AV} {s z A:Option Value} {h':Aa} (D:VR ρ x Q)
  (g:∀a,lo=some a→∃v,s=some v∧VR ρ a v) (c:lo=none→s=none)
  (i:∀a,hi=some a→∃v,z=some v∧VR ρ a v) (d:hi=none→z=none)
  (K:∀a,I=some a→∃v,A=some v∧VR ρ a v) (f:I=none→A=none)
  (L:I≠none→hi≠none)
  (hl:sliceB E t x lo hi I h=some (a,h')):Bj E ρ h h' w (Instr.sliceAt t Q s z A) a:=by
 unfold sliceB at hl;split at hl
 ·have e0:=f rfl;subst e0;obtain ⟨rfl,q⟩:=OO hE r D g c i d hl;exact Bc r q
 ·rename_i y;have e0:=f rfl;subst e0;split at hl
  ·rename_i l u J j k;split at hl
   ·rename_i m;cases hl;obtain ⟨F,b1,b2⟩:=Kb m;have p1:=Fk g c j;have p2:=Fk i d k;cases D with
    |ss _=>
     refine Bc r ⟨_,?_,.ss (.strSub y l u)⟩;rw [EZ] at b2;have G:(Ba U.V y).size=(Ba U.V y).data.toList.length:=by simp
     have q:=H4 (P:=E.P) (w:=w) (b:=false) (len:=(Ba U.V y).size) (cap:=(Ba U.V y).size) p1 p2 rfl (by rw [EZ,G]) F b1 (by rw [G];exact b2) (C1 _)
     have e:Ba U.V (.strSub y l u)=(Ba U.V y).extract (Af U.V l).toNat (Af U.V u).toNat:=rfl;rw [e];simp [Instr.sliceAt,Instr.slice,hE.run_und J,q]
   ·cases hl
  ·cases hl
 ·rename_i b es n nl;have e0:=f rfl;subst e0;split at hl
  ·rename_i e e' y J R;split at hl
   ·rename_i m;obtain ⟨c12,c3⟩:=AC m;obtain ⟨c1,c2⟩:=AC c12;have h0:=AK c1;subst h0;have H:=H6 c3;split at hl
    ·rename_i l u j k;split at hl
     ·rename_i B;split at hl
      ·rename_i M;cases hl;obtain ⟨F,b1,b2⟩:=Kb M;rw [CB] at F b1
       have C:Af U.V l=0:=by
        cases l<;>simp only [dP] at B<;>first|cases B|skip
        simpa [CB] using B
       exact O7 hE r J c2 R D (Fk g c j) (Fk i d k) H.symm C b1 (by rw [H];exact b2) b2
      ·cases hl
     ·split at hl;rename_i x' h1 T;obtain ⟨W,X,S,N⟩:=LS hE r D T;obtain ⟨rfl,v,Y,Z⟩:=OO hE S X (fun a O=>let ⟨v,p,q⟩:=g a O;⟨v,p,q.mono N.le⟩) c (fun a O=>let ⟨v,p,q⟩:=i a O;⟨v,p,q.mono N.le⟩) d hl
      exact ⟨W,v,w,Y,Z,S,N⟩
    ·cases hl
   ·split at hl
    ·rename_i l hv u j k;split at hl
     ·rename_i m;cases hl;obtain ⟨c1,m⟩:=AC m;obtain ⟨c2,m⟩:=AC m;obtain ⟨B,m⟩:=AC m;obtain ⟨c3,c4⟩:=AC m;have h0:=AK c1;subst h0;obtain ⟨F,b1,b2⟩:=Kb c3;obtain ⟨_,_,b3⟩:=Kb c4;rw [CB] at F b1
      have C:Af U.V l=0:=by
       cases l<;>simp only [dP] at B<;>first|cases B|skip
       simpa [CB] using B
      exact O7 hE r J c2 R D (Fk g c j) (Fk i d k) rfl C b1 b2 b3
     ·cases hl
    ·cases hl
  ·cases hl
 ·split at hl
  ·rename_i a' hs;cases hl
   exact Bc r (XS hE r D (jH g) (ZZ c) (jH i) (ZZ d) (jH K) (ZZ f) (fun q=>by cases hi with
    |none=>exact absurd rfl (L (fun e=>q (by rw [e];rfl)))
    |some a=>simp) hs)
  ·cases hl
end
end Go.AE
namespace Go.AE
variable [U:Unk]
theorem H1 {b:Ren} {x:AV} {a:Value} {e:SE} (c:VR b x a) (h:Su x=some e):a=.string (Ba U.V e):=by
 cases c<;>simp only [Su] at h<;>first | (cases h;done)|skip
 ·rename_i s;cases h
  have e1:Ba U.V (.strc s.data.toList.length (AL s.data.toList))=s:=by
   show (⟨(DO _ _).toArray⟩:ByteArray)=s;rw [EC (U:=U)]
  rw [e1]
 ·cases h;rfl
theorem JS {d:Ren} {x:AV} {c:Value} {e:SE} (f:VR d x c) (h:MG x=some e):c=.bool (Ah U.V e):=by
 cases f
 case bool b=>simp only [MG,A1] at h;subst h;rfl
 case sb p a=>
  cases p with
  |true=>
   simp only [MG,A1] at h;subst h;have:Ah U.V (.and a (.bc true))=(Ah U.V a&&true):=rfl;rw [this];cases Ah U.V a<;>rfl
  |false=>
   simp only [MG,A1] at h;subst h;have:Ah U.V (.neg a)=(!Ah U.V a):=rfl;rw [this];cases Ah U.V a<;>rfl
 all_goals (simp only [MG] at h;cases h)
theorem VX (a b:SE):Ah U.V (fR a b)=(Ah U.V a&&Ah U.V b):=by
 unfold fR;split
 ·show Ah U.V a=(Ah U.V a&&true);rw [g6]
 ·rfl
theorem VW (a b:SE):Ah U.V (kV a b)=(Af U.V a==Af U.V b):=by
 unfold kV;split<;>rfl
theorem Wc (a b:SE):Ah U.V (jc a b)=(Ah U.V a==Ah U.V b):=by
 show (!((!(Ah U.V a&&Ah U.V b))&&(!((!Ah U.V a)&&(!Ah U.V b)))))=_;cases Ah U.V a<;>cases Ah U.V b<;>rfl
section
variable {E:Env} (hE:OK E) {ρ:Ren} {w:World}
include hE
theorem IV {d:Nat} (k:∀(t:TypeId) (x y:AV) (r:SE) (l m:Value),IC E d t x y=some r→VR ρ x l→VR ρ y m→(Op.equalIn d t l m).run E.P w=.ok (Ah U.V r) w)
  {n o:List AV} {c g:List Value} (p:VL ρ n c) (q:VL ρ o g):∀{i:List Field} {r:SE},FO E (IC E d) n o i=some r→
  (Op.eqFields d c.toArray g.toArray i).run E.P w=.ok (Ah U.V r) w
 |[],r,h=>by simp only [FO,A1] at h;subst h;simp only [Op.eqFields,CU];rfl
 |f::i,r,h=>by
  simp only [FO] at h;split at h
  ·cases h
  ·rename_i hn;have j:f.name≠ "_":=by simpa using hn
   split at h
   ·rename_i a b s u;split at h
    ·rename_i e H v z;cases h;obtain ⟨I,A,B⟩:=hE.run_part s p w;obtain ⟨J,C,D⟩:=hE.run_part u q w;have F:=k _ _ _ _ _ _ v B D;have G:=IV k p q z;simp only [Op.eqFields,ne_eq,j,not_false_eq_true,if_true,B2,A,C,F,A2,VX];cases Ah U.V e with
     |true=>simp only [gg,E2,ez,hX];exact G
     |false=>simp
    ·cases h
   ·cases h
theorem Lg {d:Nat} (g:∀(t:TypeId) (x y:AV) (r:SE) (j l:Value),IC E d t x y=some r→VR ρ x j→VR ρ y l→(Op.equalIn d t j l).run E.P w=.ok (Ah U.V r) w)
  {m o:List AV} {c f:List Value} (p:VL ρ m c) (q:VL ρ o f) {e:TypeId} {n:Nat}:∀{k i:Nat} {r:SE},Hm E (IC E d) e n m o k i=some r→
  (Op.eqItems d e n c.toArray f.toArray (List.range' i k)).run E.P w=.ok (Ah U.V r) w
 |0,i,r,h=>by simp only [Hm,A1] at h;subst h;simp only [List.range'_zero,Op.eqItems,CU];rfl
 |k+1,i,r,h=>by
  simp only [Hm] at h;split at h
  ·rename_i a b s u;split at h
   ·rename_i x y v z;cases h;obtain ⟨H,A,B⟩:=hE.run_part s p w;obtain ⟨I,C,D⟩:=hE.run_part u q w;have F:=g _ _ _ _ _ _ v B D;have G:=Lg g p q z;simp only [List.range'_succ,Op.eqItems,B2,A,C,F,A2,VX];cases Ah U.V x with
    |true=>simp only [gg,E2,ez,hX];exact G
    |false=>simp
   ·cases h
  ·cases h
theorem Qq:∀(d:Nat) (t:TypeId) (x y:AV) (r:SE) (s u:Value),IC E d t x y=some r→VR ρ x s→VR ρ y u→(Op.equalIn d t s u).run E.P w=.ok (Ah U.V r) w:=by
 intro d
 induction d with
 |zero=>intro t x y r s u h;simp [IC] at h
 |succ d A=>
  intro t x y r s u h j l;simp only [IC] at h;split at h
  ·rename_i c;have m:=hE.run_und c w;split at h
   ·rename_i a b n o;cases h;rw [JS j n,JS l o,Wc];simp [Op.equalIn,m]
   ·cases h
  ·rename_i H c;have m:=hE.run_und c w;split at h
   ·rename_i k a C b n o;split at h
    ·rename_i v;cases h;have v:k=C:=by simpa using v
     subst v;rw [DS j n,DS l o,VW];simp [Op.equalIn,m]
    ·cases h
   ·cases h
  ·rename_i c;have m:=hE.run_und c w;split at h
   ·rename_i a b n o;cases h;rw [H1 j n,H1 l o]
    have e:Ah U.V (.eqSS a b)=((Ba U.V a).toList==(Ba U.V b).toList):=by
     rw [No,CS]
    rw [e];simp only [Op.equalIn,B2,m,A2,CU];rw [beq_toListBytes]
   ·cases h
  ·rename_i D c;split at h
   ·rename_i F G;split at h
    ·cases h
    ·rename_i hs;cases j with
     |agg _ g a1 a2=>
      cases l with
      |agg _ i b1 b2=>
       have f:=hE.und c;have p:E.P.fieldsOf t=D:=by simp [Program.fieldsOf,f]
       rw [run_equalIn_struct w d t g.toArray i.toArray (by rw [p];exact f) hs,p]
       exact IV hE A ⟨a1,a2⟩ ⟨b1,b2⟩ h
   ·cases h
  ·rename_i len e c;split at h
   ·rename_i F G;split at h
    ·rename_i B;cases j with
     |agg _ g a1 a2=>
      cases l with
      |agg _ i b1 b2=>
       unfold Env.has at B;cases hi:E.ty.get e with
       |none=>simp [hi] at B
       |some q=>
        have z:E.P.cellsOf e=E.size e:=by simp [Program.cellsOf,hE.ty e q hi,Env.size,hi]
        rw [run_equalIn_array w d g.toArray i.toArray (hE.und c) (hE.ty e q hi),z,List.range_eq_range'];exact Lg hE A ⟨a1,a2⟩ ⟨b1,b2⟩ h
    ·cases h
   ·cases h
  ·cases h
theorem YX {c:BinOp} {t:TypeId} {k l:Operand} {x y r:AV} {g h:Value} (m:VR ρ x g) (n:VR ρ y h) (a:YJ E c t x y=some r) :
  ∃v,(do eqGuard c t k l g h;binOp c t g h:Sem Value).run E.P w=.ok v w∧VR ρ r v:=by
 unfold YJ at a;split at a
 ·rename_i A B;split at a
  ·cases a
  ·rename_i j;split at a
   ·rename_i e s;have b:=Qq (w:=w) hE 10000 t _ _ e g h s m n;cases m with
    |agg _ d a1 a2=>
     cases n with
     |agg _ f b1 b2=>
      have o:(eqGuard c t k l (.agg d.toArray) (.agg f.toArray)).run E.P w=.ok () w:=Co (by simp) (fun _ _=>j)
      obtain ⟨u,z⟩:=EN t (.agg d.toArray) (.agg f.toArray) (by simp) (by simp) (by simp) (by simp)
      split at a
      ·rename_i q i;cases a;have p:=Ho ρ q e;cases c<;>simp only [Cb,A1] at i<;>first | (cases i;done)|skip
       ·subst i;refine ⟨.bool (Ah U.V e),?_,?_⟩
        ·simp only [B2,o,A2,u,Op.equal,Op.maxDepth,b,CU]
        ·rwa [show (Ah U.V e==true)=Ah U.V e by cases Ah U.V e<;>rfl] at p
       ·subst i;refine ⟨.bool (!Ah U.V e),?_,?_⟩
        ·simp only [B2,o,A2,z,Op.equal,Op.maxDepth,b,CU]
        ·rwa [show (Ah U.V e == !true) = !Ah U.V e by cases Ah U.V e<;>rfl] at p
      ·cases a
   ·cases a
 ·cases a
theorem kP {t:TypeId} {k key:AV} {kv a:Value} {b:Bool} (h:eqK E t k key=some b) (d:VR ρ k kv) (f:VR ρ key a):(Op.equal t kv a).run E.P w=.ok b w:=by
 unfold eqK at h;split at h
 ·rename_i c g;cases h;exact T7 (w:=w) hE 10000 t k key b kv a g d f
 ·split at h
  ·rename_i e i;have:=Qq (w:=w) hE 10000 t k key e kv a i d f;rw [AA U.ok h] at this;exact this
  ·cases h
theorem KO {t:TypeId} {k:AV} {kv:Value} (j:VR ρ k kv):∀{g:List A0} {c:List MapEntry} {i:Nat} {r:Option (Nat×AV)},ER ρ g c→Ft E t k g i=some r→
  ∃d,FR ρ r d∧(Instr.findAsking t kv c i).run E.P w=.ok d w
 |[],[],i,r,_,h=>by
  simp only [Ft,A1] at h;subst h;exact ⟨none,trivial,by simp [Instr.findAsking]⟩
 |e::g,l::c,i,r,⟨m,n,s,o⟩,h=>by
  simp only [Ft] at h;cases f:eqK E t k e.key with
  |none=>simp [f] at h
  |some b=>
   have a:(Op.equal t kv l.key).run E.P w=.ok b w:=kP hE f j m;cases b with
   |true=>
    simp only [f,A1] at h;subst h;exact ⟨some (i,l.val),⟨rfl,n⟩,by simp [Instr.findAsking,a]⟩
   |false=>
    simp only [f] at h;obtain ⟨d,p,q⟩:=KO j o h;exact ⟨d,p,by simp [Instr.findAsking,a,q]⟩
omit hE in
theorem JI {d:Nat} {t:TypeId} {ds:TypeDesc} (hd:E.desc t=some ds) {x y:AV} {e:SE} {b:Bool} {xv yv:Value} (he:IC E (d+1) t x y=some e) (hb:Ah U.V e=b) (hx:VR ρ x xv) (hy:VR ρ y yv) :
  Instr.sameNow ds xv yv=some b∨∀u v,Instr.sameNow ds u v=none:=by
 simp only [IC,hd] at he;cases ds with
 |int q=>
  simp only at he;split at he
  ·rename_i k a k' c h1 h2;split at he
   ·rename_i hk;cases he;have hk:k=k':=by simpa using hk
    subst hk;rw [DS hx h1,DS hy h2];rw [VW] at hb;exact .inl (by simp [Instr.sameNow,hb])
   ·cases he
  ·cases he
 |string=>
  simp only at he;split at he
  ·rename_i a c h1 h2;cases he;rw [H1 hx h1,H1 hy h2];rw [No,CS] at hb;exact .inl (by simp only [Instr.sameNow];rw [beq_toListBytes,hb])
  ·cases he
 |bool=>
  simp only at he;split at he
  ·rename_i a c h1 h2;cases he;rw [JS hx h1,JS hy h2];rw [Wc] at hb;exact .inl (by simp [Instr.sameNow,hb])
  ·cases he
 |_=>exact .inr (fun u v=>by cases u<;>cases v<;>rfl)
omit hE in
theorem Rv {t:TypeId} {ds:TypeDesc} (hd:E.desc t=some ds) {x y:AV} {b:Bool} {xv yv:Value} (ha:eqK E t x y=some b) (hx:VR ρ x xv) (hy:VR ρ y yv) :
  Instr.sameNow ds xv yv=some b∨∀u v,Instr.sameNow ds u v=none:=by
 unfold eqK at ha;split at ha
 ·rename_i c hc;cases ha;exact Ni (d:=9999) hd hc hx hy
 ·split at ha
  ·rename_i e he;have hb:=AA U.ok ha;exact JI (d:=9999) hd he hb hx hy
  ·cases ha
omit hE in
theorem K8 {t:TypeId} {ds:TypeDesc} (hd:E.desc t=some ds) {k:AV} {kv:Value} (hk:VR ρ k kv) (hq:¬∀u v,Instr.sameNow ds u v=none):∀{es:List A0} {es':List MapEntry} {i:Nat} {r:Option (Nat×AV)},ER ρ es es'→Ft E t k es i=some r→
  ∃r',FR ρ r r'∧Instr.findNow ds kv es' i=some r'
 |[],[],i,r,_,h=>by
  simp only [Ft,A1] at h;subst h;exact ⟨none,trivial,rfl⟩
 |e::es,e'::es',i,r,⟨h1,h2,h3,h4⟩,h=>by
  simp only [Ft] at h;cases ha:eqK E t k e.key with
  |none=>simp [ha] at h
  |some b=>
   have hs:Instr.sameNow ds kv e'.key=some b:=(Rv hd ha hk h1).resolve_right hq;cases b with
   |true=>
    simp only [ha,A1] at h;subst h;exact ⟨some (i,e'.val),⟨rfl,h2⟩,by simp [Instr.findNow,hs]⟩
   |false=>
    simp only [ha] at h;obtain ⟨r',q1,q2⟩:=K8 hd hk hq h4 h;exact ⟨r',q1,by simp [Instr.findNow,hs,q2]⟩
theorem KJ {t:TypeId} {ds:TypeDesc} (hd:E.desc t=some ds) {k:AV} {kv:Value} (hk:VR ρ k kv) {es:List A0} {es':List MapEntry} {r:Option (Nat×AV)} (he:ER ρ es es') (h:Ft E t k es 0=some r) :
  ∃r',FR ρ r r'∧(Instr.findKey t kv es').run E.P w=.ok r' w:=by
 by_cases hq:∀u v,Instr.sameNow ds u v=none
 ·cases es' with
  |nil=>
   cases es with
   |nil=>
    simp only [Ft,A1] at h;subst h;exact ⟨none,trivial,by simp [Instr.findKey,hE.run_und hd,Instr.findNow]⟩
   |cons e es=>cases he
  |cons e' es'=>
   obtain ⟨r',q1,q2⟩:=KO (w:=w) hE hk he h;exact ⟨r',q1,by simp [Instr.findKey,hE.run_und hd,Instr.findNow,hq,q2]⟩
 ·obtain ⟨r',q1,q2⟩:=K8 hd hk hq he h;exact ⟨r',q1,by simp [Instr.findKey,hE.run_und hd,q2]⟩
end
end Go.AE
namespace Go.AE
section
variable [U:Unk]
theorem Z7 (V:Val):∀e:SE,Ah V e=(LX e).all (Ah V):=by
 intro e
 induction e with
 |and a b c d=>
  show (Ah V a&&Ah V b)=(LX a++LX b).all (Ah V);rw [List.all_append,←c,←d]
 |bc b=>
  cases b with
  |true=>rfl
  |false=>rfl
 |_=>simp [LX]
theorem NE:∀{l m:List SE},Lx l m=true→l=m
 |[],[],_=>rfl
 |a::l,b::m,h=>by
  simp only [Lx] at h;obtain ⟨c,d⟩:=AC h;rw [SE.same_eq c,NE d]
 |[],_::_,h=>by cases h
 |_::_,[],h=>by cases h
theorem Pi (l b a c:Nat):strEq l b a c=strEq a c l b:=by
 simp only [strEq];rw [Bool.eq_iff_iff];simp only [B1,Nat.beq_eq];constructor<;>(rintro ⟨rfl,rfl⟩;exact ⟨rfl,rfl⟩)
theorem DB {b:Type} {a:b} {l:List b} {d:b} (q:Nat):(a::l).getD (q+1) d=l.getD q d:=by
 simp [A4]
theorem OB {b:Type} {a:b} {l:List b} {d:b}:(a::l).getD 0 d=a:=rfl
theorem Se (V:Val):∀(c:List Kd) (i j:Nat) (c1 c2:List D),Kk c=true→c.length≤c1.length→c.length≤c2.length→(∀q,q<c.length→V.d (j+q)=c1.getD q default)→(∀q,q<c.length→V.d (i+q)=c2.getD q default)→
  (U6 i j c).all (Ah V)=CC c c1 c2
 |[],i,j,c1,c2,_,_,_,_,_=>by cases c1<;>cases c2<;>rfl
 |k::c,i,j,[],c2,_,h,_,_,_=>by simp at h
 |k::c,i,j,_::_,[],_,_,h,_,_=>by simp at h
 |k::c,i,j,a::c1,b::c2,hs,p,r,n,o=>by
  have f:V.d j=a:=by have:=n 0 (by simp);simpa using this
  have g:V.d i=b:=by have:=o 0 (by simp);simpa using this
  have l:=fun m=>Se V c (i+1) (j+1) c1 c2 m (by simpa using p) (by simpa using r)
   (fun q s=>by have:=n (q+1) (by simp;omega);rw [DB] at this;rw [←this];congr 1;omega)
   (fun q s=>by have:=o (q+1) (by simp;omega);rw [DB] at this;rw [←this];congr 1;omega)
  simp only [U6,List.all_cons];cases k with
  |int k=>
   rw [l hs];show (((V.d i).toInt==(V.d j).toInt)&&_)=((a.toInt==b.toInt)&&_);rw [f,g,Bool.beq_comm]
  |bool=>
   rw [l hs]
   have:Ah V (jW i j .bool)=(a.toBool==b.toBool):=by
    show (!((!(((V.d i).toBool&&true)&&((V.d j).toBool&&true)))&&(!((!((V.d i).toBool&&true))&&(!((V.d j).toBool&&true))))))=_;rw [f,g];cases a.toBool<;>cases b.toBool<;>rfl
   rw [this];rfl
  |str=>
   rw [l hs]
   have:Ah V (jW i j .str)=D.strEq a b:=by
    show strEq (V.d i).toStr.data.toList.length (AL (V.d i).toStr.data.toList) (V.d j).toStr.data.toList.length (AL (V.d j).toStr.data.toList)=_;rw [f,g,Pi];rfl
   rw [this];rfl
  |slice e=>simp [Kk] at hs
theorem eT {ρ:Ren} {j:Nat} {kd:Kd} {v:Value} {K:TypeId→Option (List Kd)} {M:Nat→Option (Array Value)} (h:DV K M kd v (U.V.d j)):VR ρ (pC j kd) v:=by
 cases h with
 |int k n _ a e=>
  have:Af U.V (.var j)=n:=e;rw [←this];exact .si k (.var j)
 |bool b _ e=>
  have:Ah U.V (.var j)=b:=e;have q:=VR.sb (ρ:=ρ) true (.var j);rw [this,show (b==true)=b by cases b<;>rfl] at q
  exact q
 |str s _ e=>
  have:Ba U.V (.var j)=s:=e;rw [←this];exact .ss (.var j)
 |_=>exact .top _
theorem Nf {b:Ren} {K:TypeId→Option (List Kd)} {M:Nat→Option (Array Value)}:∀(a:List Kd) (j:Nat) (l:List Value),l.length=a.length→(∀q kd,a[q]?=some kd→DV K M kd (l.getD q Go.undef) (U.V.d (j+q)))→VL b (Ol j a) l
 |[],j,[],_,_=>VL.nil b
 |k::a,j,v::l,h,g=>by
  refine VL.cons (eT (g 0 k rfl)) (Nf (K:=K) (M:=M) a (j+1) l (by simpa using h) fun q kd c=>?_)
  have:=g (q+1) kd (by simpa using c)
  rw [DB] at this
  rwa [show j+(q+1)=j+1+q by omega] at this
theorem QC {ρ:Ren} {l:List AV} {vs:List Value} (h:VL ρ l vs):VR ρ (Ov l) (Ve vs):=by
 cases l with
 |nil=>
  have:=h.nil_inv;subst this;exact .agg [] [] h.1 h.2
 |cons a l=>
  obtain ⟨v,r,rfl,d,c⟩:=h.cons_inv;cases l with
  |nil=>
   have:=c.nil_inv;subst this;exact d
  |cons b l=>
   obtain ⟨e,f,rfl,_,_⟩:=c.cons_inv;exact .agg _ _ h.1 h.2
theorem Wp {K:TypeId→Option (List Kd)} {M:Nat→Option (Array Value)}:∀(c:List Kd) (l1 l2:List Value) (c1 c2:List D),Kk c=true→l1.length=c.length→l2.length=c.length→(∀(j:Nat) kd,c[j]?=some kd→DV K M kd (l1.getD j Go.undef) (c1.getD j default))→(∀(j:Nat) kd,c[j]?=some kd→DV K M kd (l2.getD j Go.undef) (c2.getD j default))→
  CC c c1 c2=true→l1=l2
 |[],[],[],_,_,_,_,_,_,_,_=>rfl
 |k::c,v::l1,u::l2,[],c2,hs,o,d,m,n,h=>by cases k<;>simp [CC] at h
 |k::c,v::l1,u::l2,_::_,[],hs,o,d,m,n,h=>by cases k<;>simp [CC] at h
 |k::c,v::l1,u::l2,a::c1,b::c2,hs,o,d,m,n,h=>by
  have p:=fun r t=>Wp c l1 l2 c1 c2 r (by simpa using o) (by simpa using d)
   (fun q kd s=>by have:=m (q+1) kd (by simpa using s);rwa [DB,DB] at this)
   (fun q kd s=>by have:=n (q+1) kd (by simpa using s);rwa [DB,DB] at this) t
  have d1:=m 0 k rfl;have d2:=n 0 k rfl;simp only [OB] at d1 d2;cases k with
  |slice e=>simp [Kk] at hs
  |int k=>
   simp only [CC] at h;obtain ⟨e1,f⟩:=AC h;rw [p hs f];cases d1 with
   |int _ n1 _ _ g=>
    cases d2 with
    |int _ n2 _ _ i=>
     have:a.toInt=b.toInt:=by simpa using e1
     rw [g,i] at this;rw [this]
  |bool=>
   simp only [CC] at h;obtain ⟨e1,f⟩:=AC h;rw [p hs f];cases d1 with
   |bool n1 _ g=>
    cases d2 with
    |bool n2 _ i=>
     have:a.toBool=b.toBool:=by simpa using e1
     rw [g,i] at this;rw [this]
  |str=>
   simp only [CC] at h;obtain ⟨e1,f⟩:=AC h;rw [p hs f];cases d1 with
   |str n1 _ g=>
    cases d2 with
    |str n2 _ i=>
     have:a.toStr.toList=b.toStr.toList:=by
      have l:strEq a.toStr.data.toList.length (AL a.toStr.data.toList) b.toStr.data.toList.length (AL b.toStr.data.toList)=true:=e1;rw [CS] at l;simpa using l
     have d:a.toStr=b.toStr:=by
      rw [ie,ie] at this;exact ByteArray.ext (Array.toList_inj.1 this)
     rw [g,i] at d;rw [d]
theorem iZ {E:Env} (hE:OK E) {l:Ren} {w:World} {i:TypeId} {a:List Kd} (j:HX E i a=true) {v1 v2:Value} {c1 c2:List D} {K:TypeId→Option (List Kd)} {M:Nat→Option (Array Value)} (o:KV K M a v1 c1) (p:KV K M a v2 c2)
  (n1:a.length≤c1.length) (n2:a.length≤c2.length) (b:∀q,q<a.length→U.V.d (0+q)=c1.getD q default) (c:∀q,q<a.length→U.V.d (a.length+q)=c2.getD q default) :
  (Op.equal i v2 v1).run E.P w=.ok (CC a c1 c2) w∧(∀k,E.desc i=some k→Instr.sameNow k v2 v1=some (CC a c1 c2)∨∀u v,Instr.sameNow k u v=none)∧(CC a c1 c2=true→v1=v2):=by
 unfold HX at j;split at j
 ·rename_i e m;obtain ⟨s1,r⟩:=AC j
  have f:Ah U.V e=CC a c1 c2:=by
   rw [Z7,NE r];exact Se U.V a a.length 0 c1 c2 s1 n1 n2 b c
  obtain ⟨l1,a1,a2,a3,a4⟩:=o;obtain ⟨l2,b1,b2,b3,n⟩:=p;have lt:∀{q:Nat} {kd:Kd},a[q]?=some kd→q<a.length:=fun h=>(B3.1 h).1
  have r1:VR l (Ov (Ol 0 a)) v1:=by
   rw [a1];exact QC (Nf (K:=K) (M:=M) a 0 l1 a2 fun q kd g=>by rw [b q (lt g)];exact a4 q kd g)
  have r2:VR l (Ov (Ol a.length a)) v2:=by
   rw [b1];exact QC (Nf (K:=K) (M:=M) a a.length l2 b2 fun q kd g=>by rw [c q (lt g)];exact n q kd g)
  refine ⟨?_,?_,?_⟩
  ·have:=Qq (w:=w) hE 10000 i _ _ e v2 v1 m r2 r1;rw [f] at this;exact this
  ·intro k s;exact JI (d:=9999) s m f r2 r1
  ·intro t;rw [a1,b1,Wp a l1 l2 c1 c2 s1 a2 b2 a4 n t]
 ·cases j
@[reducible] def pI (U:Unk) (n:Nat) (c1 c2:List D):Unk where
 facts:=[]
 V:={d:=fun i=>if i<n then c1.getD i default else c2.getD (i-n) default,fn:=U.V.fn}
 K:=U.K
 R:=U.R
 hR:=U.hR
 ok:=by intro e b h;cases h
theorem ZW {E:Env} (hE:OK E) {w:World} {b:TypeId} {a:List Kd} (d:HX E b a=true) {v1 v2:Value} {c1 c2:List D} {K:TypeId→Option (List Kd)} {M:Nat→Option (Array Value)} (e:KV K M a v1 c1) (f:KV K M a v2 c2)
  (n1:a.length≤c1.length) (n2:a.length≤c2.length) :
  (Op.equal b v2 v1).run E.P w=.ok (CC a c1 c2) w∧(∀c,E.desc b=some c→Instr.sameNow c v2 v1=some (CC a c1 c2)∨∀u v,Instr.sameNow c u v=none)∧(CC a c1 c2=true→v1=v2):=by
 refine @iZ (pI U a.length c1 c2) E (@OK.mk (pI U a.length c1 c2) E hE.ty hE.fn hE.num hE.clone hE.ixb hE.mixed hE.kd hE.ke) {m:=fun _=>none,imm:=fun _=>none} w b a d v1 v2 c1 c2 K M e f n1 n2 ?_ ?_
 ·intro q g;show (if 0+q<a.length then c1.getD (0+q) default else _)=_
  rw [if_pos (by omega),R2]
 ·intro q g;show (if a.length+q<a.length then _ else c2.getD (a.length+q-a.length) default)=_
  rw [if_neg (by omega),i7]
def Ll (a:List Kd) (k:List D):List MapEntry→List D→Nat→Option (Nat×Value)
 |e::b,r::c,i=>match CC a r.cells k with
  |true=>some (i,e.val)
  |false=>Ll a k b c (i+1)
 |_,_,_=>none
section
variable {E:Env} (hE:OK E) {w:World} {kt:TypeId} {ks vks:List Kd} (ht:HX E kt ks=true) {K:TypeId→Option (List Kd)} {M:Nat→Option (Array Value)} {kv:Value} {k:List D} (hk:KV K M ks kv k) (hkl:ks.length≤k.length)
include hE ht hk hkl w
theorem KY:∀{a:List MapEntry} {b:List D} {i:Nat},Bx K M ks vks a b→(Instr.findAsking kt kv a i).run E.P w=.ok (Ll ks k a b i) w
 |[],[],i,_=>by simp [Instr.findAsking,Ll]
 |e::a,r::b,i,⟨g,c,j,d⟩=>by
  obtain ⟨q,_,_⟩:=ZW (w:=w) hE ht c hk (by omega) hkl
  have f:=KY (i:=i+1) d;simp only [Instr.findAsking,Ll,B2,q,A2];cases CC ks r.cells k with
  |true=>simp
  |false=>simpa using f
 |[],_::_,_,h=>h.elim
 |_::_,[],_,h=>h.elim
theorem Ld {a:TypeDesc} (d:E.desc kt=some a) (f:¬∀u v,Instr.sameNow a u v=none):∀{b:List MapEntry} {c:List D} {i:Nat},Bx K M ks vks b c→Instr.findNow a kv b i=some (Ll ks k b c i)
 |[],[],i,_=>rfl
 |e::b,r::c,i,⟨m,g,n,j⟩=>by
  obtain ⟨_,q,_⟩:=ZW (w:=w) hE ht g hk (by omega) hkl
  have s:=(q a d).resolve_right f;have l:=Ld d f (i:=i+1) j;simp only [Instr.findNow,Ll,s];cases CC ks r.cells k with
  |true=>rfl
  |false=>exact l
 |[],_::_,_,h=>h.elim
 |_::_,[],_,h=>h.elim
theorem Hb {d:TypeDesc} (b:E.desc kt=some d) {a:List MapEntry} {c:List D} (h:Bx K M ks vks a c):(Instr.findKey kt kv a).run E.P w=.ok (Ll ks k a c 0) w:=by
 by_cases f:∀u v,Instr.sameNow d u v=none
 ·cases a with
  |nil=>cases c with
   |nil=>simp [Instr.findKey,hE.run_und b,Instr.findNow,Ll]
   |cons _ _=>exact h.elim
  |cons e a=>simp [Instr.findKey,hE.run_und b,Instr.findNow,f,KY (w:=w) hE ht hk hkl h]
 ·simp [Instr.findKey,hE.run_und b,Ld (w:=w) hE ht hk hkl b f h]
end
omit U in
theorem HP {ks vks:List Kd} {K:TypeId→Option (List Kd)} {M:Nat→Option (Array Value)} {k:List D}:∀{es:List MapEntry} {rs:List D} (i:Nat),Bx K M ks vks es rs→
  (Ll ks k es rs i=none∧Ev ks k rs i = -1)∨∃n e r,Ll ks k es rs i=some (i+n,e.val)∧Ev ks k rs i=((i+n:Nat):Int)∧es[n]?=some e∧rs[n]?=some r∧CC ks r.cells k=true
 |[],[],i,_=>.inl ⟨rfl,rfl⟩
 |e::es,r::rs,i,⟨h1,h2,h3,h4⟩=>by
  simp only [Ll,Ev];cases hk:CC ks r.cells k with
  |true=>exact .inr ⟨0,e,r,by simp,by simp,rfl,rfl,hk⟩
  |false=>
   rcases HP (k:=k) (i+1) h4 with ⟨a,b⟩|⟨n,e',r',a,b,c,d,f⟩
   ·exact .inl ⟨a,b⟩
   ·exact .inr ⟨n+1,e',r',by show Ll ks k es rs (i+1)=_;rw [a,show i+1+n=i+(n+1) by omega],by show Ev ks k rs (i+1)=_;rw [b,show i+1+n=i+(n+1) by omega],by simpa using c,by simpa using d,f⟩
 |[],_::_,_,h=>h.elim
 |_::_,[],_,h=>h.elim
omit U in
theorem Bx.get {ks vks:List Kd} {K:TypeId→Option (List Kd)} {M:Nat→Option (Array Value)}:∀{es:List MapEntry} {rs:List D} {n:Nat} {e:MapEntry} {r:D},Bx K M ks vks es rs→es[n]?=some e→rs[n]?=some r→
  r.cells.length=ks.length+vks.length∧KV K M ks e.key r.cells∧KV K M vks e.val (r.cells.drop ks.length)
 |e::es,r::rs,0,e',r',⟨h1,h2,h3,h4⟩,g1,g2=>by
  simp only [D1,A1] at g1 g2;subst g1;subst g2;exact ⟨h1,h2,h3⟩
 |e::es,r::rs,n+1,e',r',⟨h1,h2,h3,h4⟩,g1,g2=>h4.get (by simpa using g1) (by simpa using g2)
 |[],[],n,_,_,_,g1,_=>by simp at g1
 |[],_::_,_,_,_,h,_,_=>h.elim
 |_::_,[],_,_,_,h,_,_=>h.elim
omit U in
theorem Bx.push {ks vks:List Kd} {K:TypeId→Option (List Kd)} {M:Nat→Option (Array Value)} {x:MapEntry} {y:D} (h1:y.cells.length=ks.length+vks.length) (h2:KV K M ks x.key y.cells) (h3:KV K M vks x.val (y.cells.drop ks.length)):∀{es:List MapEntry} {rs:List D},Bx K M ks vks es rs→Bx K M ks vks (es++[x]) (rs++[y])
 |[],[],_=>⟨h1,h2,h3,trivial⟩
 |e::es,r::rs,⟨g1,g2,g3,g4⟩=>⟨g1,g2,g3,Bx.push h1 h2 h3 g4⟩
 |[],_::_,h=>h.elim
 |_::_,[],h=>h.elim
omit U in
theorem Bx.erase {ks vks:List Kd} {K:TypeId→Option (List Kd)} {M:Nat→Option (Array Value)}:∀{es:List MapEntry} {rs:List D} (n:Nat),Bx K M ks vks es rs→Bx K M ks vks (es.eraseIdx n) (rs.eraseIdx n)
 |[],[],_,_=>by simp [Bx]
 |e::es,r::rs,0,⟨g1,g2,g3,g4⟩=>g4
 |e::es,r::rs,n+1,⟨g1,g2,g3,g4⟩=>⟨g1,g2,g3,g4.erase n⟩
 |[],_::_,_,h=>h.elim
 |_::_,[],_,h=>h.elim
omit U in
theorem Bx.change {ks vks:List Kd} {K:TypeId→Option (List Kd)} {M:Nat→Option (Array Value)} {x:MapEntry} {y:D} (h1:y.cells.length=ks.length+vks.length) (h2:KV K M ks x.key y.cells) (h3:KV K M vks x.val (y.cells.drop ks.length)):∀{es es':List MapEntry} {rs rs':List D} (n:Nat),Bx K M ks vks es rs→es'.length=es.length→rs'.length=rs.length→
  (∀q,q≠n→es'[q]?=es[q]?)→(∀q,q≠n→rs'[q]?=rs[q]?)→(n<es.length→es'[n]?=some x)→(n<rs.length→rs'[n]?=some y)→Bx K M ks vks es' rs'
 |[],[],[],[],n,_,_,_,_,_,_,_=>trivial
 |e::es,e'::es',r::rs,r'::rs',0,⟨g1,g2,g3,g4⟩,l1,l2,a1,a2,a3,a4=>by
  have b1:=a3 (by simp)
  have b2:=a4 (by simp)
  simp only [D1,A1] at b1 b2;subst b1;subst b2;have c1:es'=es:=List.ext_getElem? fun q=>by have:=a1 (q+1) (by omega);simpa using this
  have c2:rs'=rs:=List.ext_getElem? fun q=>by have:=a2 (q+1) (by omega);simpa using this
  rw [c1,c2];exact ⟨h1,h2,h3,g4⟩
 |e::es,e'::es',r::rs,r'::rs',n+1,⟨g1,g2,g3,g4⟩,l1,l2,a1,a2,a3,a4=>by
  have b1:=a1 0 (by omega)
  have b2:=a2 0 (by omega)
  simp only [D1,A1] at b1 b2;subst b1;subst b2
  exact ⟨g1,g2,g3,Bx.change h1 h2 h3 n g4 (by simpa using l1) (by simpa using l2) (fun q hq=>by have:=a1 (q+1) (by omega);simpa using this) (fun q hq=>by have:=a2 (q+1) (by omega);simpa using this)
   (fun hn=>by have:=a3 (by simp;omega);simpa using this) (fun hn=>by have:=a4 (by simp;omega);simpa using this)⟩
 |[],_::_,_,_,_,_,l1,_,_,_,_,_=>by simp at l1
 |_::_,[],_,_,_,_,l1,_,_,_,_,_=>by simp at l1
 |[],[],_::_,_,_,h,_,_,_,_,_,_=>h.elim
 |[],[],[],_::_,_,_,_,l2,_,_,_,_=>by simp at l2
 |_::_,_::_,[],_,_,h,_,_,_,_,_,_=>h.elim
 |_::_,_::_,_::_,[],_,_,_,l2,_,_,_,_=>by simp at l2
end
variable [U:Unk]
theorem Kh {a:Type} {l:List a} {n j:Nat} {d:a}:(l.drop n).getD j d=l.getD (n+j) d:=by
 rw [A4,A4,SX]
theorem Pn {a:Type} {l:List a} {n q:Nat} {f:a→a} (h:q≠n):(l.modify n f)[q]?=l[q]?:=by
 rw [List.getElem?_modify];cases l[q]?<;>simp [Ne.symm h]
theorem Gm {i:Ren} {e:List Kd} {a:AV} {v:Value} (h:JE e a=true) (f:VR i a v) (hl:v.cells.toList.length=e.length) :
  v=Ve v.cells.toList∧∀u,v.cells.toList=[u]→∀x,u≠.agg x:=by
 have key:∀(b:List Value),b.length≠1→Ve b=.agg b.toArray:=by
  intro b g;rcases b with _|⟨x,_|⟨y,b⟩⟩
  ·rfl
  ·exact absurd rfl g
  ·rfl
 rcases e with _|⟨k,_|⟨k2,e⟩⟩
 ·cases f<;>simp only [JE,E2] at h
  rename_i l b j m;have c:b.length=0:=hl;exact ⟨(key b (by omega)).symm,fun u d=>by have:b=[u]:=d;rw [this] at c;simp at c⟩
 ·cases f<;>simp only [JE,E2] at h<;>exact ⟨rfl,fun u d x n=>by
   subst n;simp only [Value.cells] at d;cases d⟩
 ·cases f<;>simp only [JE,E2] at h
  rename_i l b j m;have c:b.length=e.length+2:=hl;exact ⟨(key b (by omega)).symm,fun u d=>by have:b=[u]:=d;rw [this] at c;simp at c⟩
theorem EM {b:List Kd} {a:AV} (h:JE b a=true):a≠.top:=by
 rintro rfl
 rcases b with _|⟨k,_|⟨k2,b⟩⟩<;>simp [JE] at h
theorem PJ {ρ:Ren} {a:List Kd} {k:AV} {b:SE} {kv:Value} (h:WT a k=some b) (c:VR ρ k kv):(Ab U.V b).cells.length=a.length∧KV U.K ρ.imm a kv (Ab U.V b).cells:=by
 unfold WT at h;split at h
 ·rename_i d;obtain ⟨r1,r2,e⟩:=G8 _ _ _ _ h (c.cells (EM d));obtain ⟨w1,w2⟩:=Gm d c r2;exact ⟨r1,_,w1,r2,w2,e⟩
 ·cases h
theorem VU {e:Ren} {a b:List Kd} {k v:AV} {r:SE} {kv f:Value} (h:bu a b k v=some r) (l:VR e k kv) (m:VR e v f) :
  (Ab U.V r).cells.length=a.length+b.length∧KV U.K e.imm a kv (Ab U.V r).cells∧KV U.K e.imm b f ((Ab U.V r).cells.drop a.length):=by
 unfold bu at h;split at h
 ·rename_i g;obtain ⟨g,c3⟩:=AC g;obtain ⟨c1,c2⟩:=AC g;have c3:=AK c3;have k1:=l.cells (EM c1);have v1:=m.cells (EM c2);obtain ⟨r1,r2,n⟩:=G8 _ _ _ _ h (k1.append v1);have i:kv.cells.toList.length=a.length:=by have:=k1.1;omega
  have vl:f.cells.toList.length=b.length:=by simp only [L1] at r2;omega
  obtain ⟨w1,w2⟩:=Gm c1 l i;obtain ⟨w3,w4⟩:=Gm c2 m vl;refine ⟨by rw [r1];simp,⟨_,w1,i,w2,fun j kd c=>?_⟩,⟨_,w3,vl,w4,fun j kd c=>?_⟩⟩
  ·have d:=(B3.1 c).1;have:=n j kd (by rw [Ea d];exact c)
   rwa [A4,Ea (by omega),←A4] at this
  ·have d:=(B3.1 c).1;have:=n (a.length+j) kd (by rw [E3 (by omega),i7];exact c)
   rw [A4,E3 (by omega),i,i7,←A4] at this
   rw [Kh];exact this
 ·cases h
theorem Oo {a r:SE}:(Ab U.V (.snoc a r)).rows=(Ab U.V a).rows++[Ab U.V r]:=rfl
theorem Ny {ρ:Ren} {a b:List Kd}:∀{d:List A0} {c:List MapEntry} {y z:SE} {es0:List MapEntry},NJ a b y d=some z→ER ρ d c→Bx U.K ρ.imm a b es0 (Ab U.V y).rows→Bx U.K ρ.imm a b (es0++c) (Ab U.V z).rows
 |[],[],y,z,es0,h,_,f=>by
  simp only [NJ,A1] at h;subst h;simpa using f
 |e::d,g::c,y,z,es0,h,⟨i,j,p,k⟩,f=>by
  simp only [NJ] at h;split at h
  ·rename_i x l;obtain ⟨m,n,o⟩:=VU l i j;have:=Ny (es0:=es0++[g]) h k (by rw [Oo];exact Bx.push m n o f)
   simpa using this
  ·cases h
 |[],_::_,_,_,_,_,h,_=>h.elim
 |_::_,[],_,_,_,_,h,_=>h.elim
theorem Vq {i:Ren} {j k:TypeId} {d e:List Kd} {b:Option Aj} {x:SE} {f:DF} {o:Option Obj} (h:bW j k d e b=some x) (l:∀y,b=some y→BR i y f o) (m:U.K j=some d) (n:U.K k=some e) :
  ∃c:List MapEntry,∃a,o=some (.map c.toArray a)∧Bx U.K i.imm d e c (Ab U.V x).rows:=by
 unfold bW at h;split at h
 ·rename_i p q u;split at h
  ·rename_i r;cases h;obtain ⟨c1,c2⟩:=AC r;have c1:=AK c1;have c2:=AK c2;subst c1;subst c2;obtain ⟨k1,v1,c,a,e1,g,s,t⟩:=l _ rfl;rw [m] at e1;rw [n] at g;cases e1;cases g;exact ⟨c,a,s,t⟩
  ·cases h
 ·rename_i v a;obtain ⟨c,e1,g⟩:=l _ rfl;have:=Ny (es0:=[]) h g trivial;exact ⟨c,a,e1,by simpa using this⟩
 ·cases h
theorem M3 {a i:SE} {j:Nat} {x:SE}:(Ab U.V (.upd a i j x)).rows=(Ab U.V a).rows.modify (Af U.V i).toNat fun r=>.row (r.cells.set j (Ab U.V x)):=rfl
theorem Kw {n:Ren} {o:List Kd} {i:SE}:∀(l:List AV) (vs:List Value) (j:Nat) (y d:SE) (r:D),Eb i o y j l=some d→VL n l vs→(Ab U.V y).rows[(Af U.V i).toNat]?=some r→j+l.length≤r.cells.length→
  (Ab U.V d).rows.length=(Ab U.V y).rows.length∧(∀q,q≠(Af U.V i).toNat→(Ab U.V d).rows[q]?=(Ab U.V y).rows[q]?)∧
  ∃e,(Ab U.V d).rows[(Af U.V i).toNat]?=some e∧e.cells.length=r.cells.length∧(∀p,p<j∨j+l.length≤p→e.cells.getD p default=r.cells.getD p default)∧
   ∀(q:Nat) kd,q<l.length→o[j+q]?=some kd→DV U.K n.imm kd (vs.getD q Go.undef) (e.cells.getD (j+q) default)
 |[],vs,j,y,d,r,h,s,m,t=>by
  simp only [Eb,A1] at h;subst h;exact ⟨rfl,fun _ _=>rfl,r,m,rfl,fun _ _=>rfl,fun q kd f=>absurd f (iv q)⟩
 |a::l,vs,j,y,d,r,h,s,m,t=>by
  obtain ⟨v,u,rfl,w,z⟩:=s.cons_inv;simp only [Eb] at h;split at h
  ·rename_i k A;split at h
   ·rename_i x B;have C:=LD w B
    have g:(Ab U.V (.upd y i j x)).rows[(Af U.V i).toNat]?=some (.row (r.cells.set j (Ab U.V x))):=by
     rw [M3,List.getElem?_modify_eq,m];rfl
    simp only [F2] at t;obtain ⟨a1,a2,e,a3,a4,a5,a6⟩:=Kw l u (j+1) _ d _ h z g (by show j+1+l.length≤(r.cells.set j (Ab U.V x)).length;simp;omega)
    have b:(D.row (r.cells.set j (Ab U.V x))).cells=r.cells.set j (Ab U.V x):=rfl;rw [b] at a4 a5;refine ⟨by rw [a1,M3];simp,fun q f=>by rw [a2 q f,M3,Pn f],e,a3,by rw [a4];simp,fun p hp=>?_,fun q kd f c=>?_⟩
    ·simp only [F2] at hp;rw [a5 p (by omega),A4,A4,List.getElem?_set_ne (by omega)]
    ·cases q with
     |zero=>
      rw [S1] at c ⊢;rw [A] at c;cases c;rw [a5 j (by omega),OB,A4,List.getElem?_set_self (by omega)]
      exact C
     |succ q=>
      rw [DB,show j+(q+1)=j+1+q by omega]
      exact a6 q kd (by simpa using f) (by rw [←c];congr 1;omega)
   ·cases h
  ·cases h
theorem L0 {E:Env} (hE:OK E) {t e f:TypeId} {c d:List Kd} (h:Pa E t=some (e,f,c,d)):E.desc t=some (.map e f)∧U.K e=some c∧U.K f=some d∧HX E e c=true:=by
 unfold Pa at h;split at h
 ·rename_i g i j;split at h
  ·rename_i a b k l;split at h
   ·rename_i m;cases h;exact ⟨j,by rw [hE.kd,←hE.ke];exact k,by rw [hE.kd,←hE.ke];exact l,m⟩
   ·cases h
  ·cases h
 ·cases h
theorem IB {E:Env} {b:TypeId} {k:AV} (a:CP E 20 b k=true):∃c,E.desc b=some c:=by
 simp only [CP] at a;cases d:E.desc b with
 |none=>simp [d] at a
 |some c=>exact ⟨c,rfl⟩
section
variable {E:Env} (hE:OK E) {ρ:Ren} {h:Aa} {w:World}
include hE
theorem UA (hr:HR ρ h.blk.get w) {t:TypeId} {m k a:AV} {mv kv:Value} {ok:Bool} (hm:VR ρ m mv) (hk:VR ρ k kv) (g:PN E t m k ok h=some a) :
  ∃v,(Instr.lookup t mv kv ok).run E.P w=.ok v w∧VR ρ a v:=by
 unfold PN at g;split at g
 ·rename_i kt vt d I r ht;obtain ⟨hd,Q,R,D⟩:=L0 hE ht;split at g
  ·rename_i ag ah x hg;split at g
   ·rename_i z F S hz T;obtain ⟨S,c3⟩:=AC S;obtain ⟨c1,c2⟩:=AC S;have c1:=AK c1;have c2:=AK c2;subst c1;subst c2;obtain ⟨zv,z1,z2⟩:=hE.run_zero ρ hz w;have W:=Bg ρ z2;have J:∀X,(Instr.checkKey X 10000 kt kv).run E.P w=.ok () w:=fun X=>Fb (w:=w) hE X 9980 20 kt k kv c3 hk
    obtain ⟨ds,Y⟩:=IB c3;obtain ⟨kl,Z⟩:=PJ T hk
    have fin:∀(v:AV) (b:Bool) (L:Value),VR ρ v L→VR ρ (N0 ok v b) (if ok then .tuple #[L,.bool b] else L):=by
     intro v b L N;cases ok with
     |true=>
      have:=VL.cons N (VL.cons (VR.bool (ρ:=ρ) b) (VL.nil ρ));exact .tuple _ [L,.bool b] this.1 this.2
     |false=>exact N
    cases hm with
    |map _ u hb=>
     obtain ⟨k1,v1,aa,G,e1,e2,e3,e4⟩:=hr.blk r u _ hb hg;rw [Q] at e1;rw [R] at e2;cases e1;cases e2;have y:(getObj u.cb).run E.P w=.ok (.map aa.toArray G) w:=by simp [getObj,Sem.run,e3]
     have f:=Hb (w:=w) hE D Z (by omega) Y e4
     have A:=HP (k:=(Ab U.V F).cells) 0 e4;have i:Af U.V (.mIdx d x F)=Ev d (Ab U.V F).cells (Ab U.V x).rows 0:=rfl;split at g
     ·rename_i o;cases g;have s:=AA U.ok o;rw [AB,F4] at s;have z0:Af U.V (.c 0)=0:=rfl;rw [z0,i] at s;rcases A with ⟨a1,a2⟩|⟨n,e,r',a1,a2,a3⟩
      ·rw [a1] at f;refine ⟨_,?_,fin z false zv W⟩;simp [Instr.lookup,hE.run_und hd,y,J,f,z1]
      ·omega
     ·rename_i o;split at g
      ·rename_i l ab;cases g;have s:=AA U.ok o;rw [AB,L2] at s;have z0:Af U.V (.c 0)=0:=rfl;rw [z0,i] at s;rcases A with ⟨a1,a2⟩|⟨n,e,r',a1,a2,a3,a4,a5⟩
       ·omega
       ·rw [a1] at f;obtain ⟨q1,⟨lk,k1,k2,k3,k4⟩,⟨lv,v1,v2,v3,v4⟩⟩:=e4.get a3 a4;have hn:(Af U.V (.mIdx d x F)).toNat=n:=by rw [i,a2];simp
        have M:(Ab U.V x).rows.getD n default=r':=by rw [A4,a4];rfl
        have H:∀j,Ab U.V (.cell x (.mIdx d x F) j)=r'.cells.getD j default:=by
         intro j;show ((Ab U.V x).rows.getD (Af U.V (.mIdx d x F)).toNat default).cells.getD j default=_;rw [hn,M]
        have B:∀p,((lk++lv).toArray).getD p Go.undef=(lk++lv).getD p Go.undef:=by intro p;simp [C2,A4]
        have N:∀j kd,(d++I)[j]?=some kd→DV U.K ρ.imm kd ((lk++lv).toArray.getD (0+j) Go.undef) (Ab U.V (.cell x (.mIdx d x F) j)):=by
         intro j kd O;rw [H,B,R2,A4];by_cases ac:j<d.length
         ·rw [Ea ac] at O;rw [Ea (by omega),←A4]
          exact k4 j kd O
         ·rw [E3 (by omega)] at O
          rw [E3 (by omega),←A4,k2]
          have:=v4 (j-d.length) kd O;rw [Kh,show d.length+(j-d.length)=j by omega] at this
          exact this
        obtain ⟨p1,p2,p3⟩:=IE N I.length d.length l ab
        have ad:VL ρ l lv:=by
         refine ⟨by omega,fun q a v ae af=>?_⟩
         have:=p3 q a ae;rw [B,R2,A4,E3 (by omega),k2,i7,af] at this
         exact this
        have C:=QC ad;rw [←v1] at C;refine ⟨_,?_,fin _ true e.val C⟩;simp [Instr.lookup,hE.run_und hd,y,J,f]
      ·cases g
     ·cases g
   ·cases g
  ·cases g
 ·cases g
theorem Tl (X:HR ρ h.blk.get w) {t:TypeId} {m k v:AV} {mv kv A:Value} {h':Aa} (hm:VR ρ m mv) (J:VR ρ k kv) (Y:VR ρ v A) (o:Qb E t m k v h=some h') :
  ∃Z,(Instr.mapUpdate t mv kv A).run E.P w=.ok () Z∧HR ρ h'.blk.get Z∧Ext ρ ρ h h' w Z:=by
 unfold Qb at o;split at o
 ·rename_i S vt f i r ht;obtain ⟨hd,F,G,p⟩:=L0 hE ht;split at o
  ·rename_i x T c3 H aa;have L:∀em,(Instr.checkKey em 10000 S kv).run E.P w=.ok () w:=fun em=>Fb (w:=w) hE em 9980 20 S k kv c3 J
   obtain ⟨ds,ab⟩:=IB c3;obtain ⟨kl,M⟩:=PJ aa J;cases hm with
   |map _ B hb=>
    have s:h.blk.get r≠none:=by
     intro e;rw [e] at H;cases H
    obtain ⟨l,a,e3,N⟩:=Vq H (fun y hy=>X.blk r B y hb hy) F G
    have C:=AY (w:=w) E.P e3 (by simp)
    have b:=Hb (w:=w) hE p M (by omega) ab N
    have D:=HP (k:=(Ab U.V T).cells) 0 N;have u:Af U.V (.mIdx f x T)=Ev f (Ab U.V T).cells (Ab U.V x).rows 0:=rfl;split at o
    ·rename_i row d z;cases o;have g:=AA U.ok z;rw [AB,F4] at g;have z0:Af U.V (.c 0)=0:=rfl;rw [z0,u] at g;rcases D with ⟨a1,a2⟩|⟨n,e,r',a1,a2,a3⟩
     ·rw [a1] at b;obtain ⟨q1,W,q3⟩:=VU d J Y;obtain ⟨p1,p2⟩:=X.setObj hb s (.dmap S vt (.snoc x row)) (.map (l.toArray.push {key:=kv,val:=A,born:=a}) (a+1))
       ⟨f,i,l++[{key:=kv,val:=A,born:=a}],a+1,F,G,by simp,by rw [Oo];exact Bx.push q1 W q3 N⟩
      refine ⟨_,?_,p1,p2⟩;simp [Instr.mapUpdate,hE.run_und hd,C,L,b,Bi (w:=w) E.P e3 (by simp)]
     ·omega
    ·rename_i row d z;split at o
     ·rename_i y hy;cases o;have g:=AA U.ok z;rw [AB,L2] at g;have z0:Af U.V (.c 0)=0:=rfl;rw [z0,u] at g;rcases D with ⟨a1,a2⟩|⟨n,e,r',a1,a2,a3,a4,a5⟩
      ·omega
      ·rw [a1] at b;have hn:(Af U.V (.mIdx f x T)).toNat=n:=by rw [u,a2];simp
       obtain ⟨q1,W,q3⟩:=N.get a3 a4;obtain ⟨_,_,O⟩:=ZW (w:=w) hE p W M (by omega) (by omega)
       have ac:e.key=kv:=O a5;unfold bu at d;split at d
       ·rename_i hc;obtain ⟨hc,c6⟩:=AC hc;obtain ⟨c4,c5⟩:=AC hc;have I:=Y.cells (EM c5);have ad:=G8 _ _ _ _ d ((J.cells (EM c4)).append I);have c6:=AK c6;have aj:=(J.cells (EM c4)).1;have vl:A.cells.toList.length=i.length:=by have:=ad.2.1;simp only [L1] at this;omega
        have ak:v.cells.length=i.length:=by have:=I.1;omega
        obtain ⟨u1,u2,r2,u3,u4,u5,u6⟩:=Kw _ _ _ _ _ r' hy I (by rw [hn];exact a4) (by omega)
        rw [hn] at u2 u3;obtain ⟨w3,w4⟩:=Gm c5 Y vl;obtain ⟨nk,w1,s1,s2,s3,s4,s5,s6⟩:=GV (w:=w) E.P e.key kv;have ae:nk=e.key:=by rcases s2 with rfl|rfl;exact ac.symm;rfl
        subst ae;have af:HR ρ h.blk.get w1:=X.same s3
        have ag:KV U.K ρ.imm f e.key r2.cells:=by
         obtain ⟨lk,k1,k2,k3,k4⟩:=W;refine ⟨lk,k1,k2,k3,fun j kd Q=>?_⟩
         have g:=(B3.1 Q).1;rw [u5 j (.inl g)];exact k4 j kd Q
        have ah:KV U.K ρ.imm i A (r2.cells.drop f.length):=by
         refine ⟨_,w3,vl,w4,fun j kd Q=>?_⟩
         have g:=(B3.1 Q).1;rw [Kh];exact u6 j kd (by omega) (by rw [E3 (by omega),i7];exact Q)
        have al:n<l.length:=(B3.1 a3).1
        have R:Bx U.K ρ.imm f i (l.modify n fun e0=>{e0 with key:=e.key,val:=A}) (Ab U.V y).rows:=by
         refine Bx.change (x:={key:=e.key,val:=A,born:=e.born}) (y:=r2) (by rw [u4];exact q1) ag ah n N (by simp) u1 (fun q hq=>Pn hq) (fun q hq=>u2 q hq) (fun _=>by rw [List.getElem?_modify_eq,a3];rfl) (fun _=>u3)
        obtain ⟨p1,p2⟩:=af.setObj hb s (.dmap S vt y) (.map (l.toArray.modify n fun e0=>{e0 with key:=e.key,val:=A}) a)
         ⟨f,i,_,a,F,G,by simp [List.modify_toArray],R⟩
        refine ⟨_,?_,p1,p2.drawn s3 s4 s5 s6⟩;have ai:w1.heap[B.cb]?=some (.map l.toArray a):=by rw [s3];exact e3
        simp only [R2] at b;simp only [Instr.mapUpdate,B2,hE.run_und hd,A2,C,L,b,Sf,a3,X8,j1,s1];rw [Bi (w:=w1) E.P ai (by simp)]
       ·cases d
     ·cases o
    ·cases o
  ·cases o
 ·cases o
theorem S8 (b:HR ρ h.blk.get w) {t:TypeId} {m k v:AV} {g kv i:Value} {h':Aa} (c:VR ρ m g) (d:VR ρ k kv) (e:VR ρ v i) (a:PR E t m k v h=some h') :
  ∃f,(Instr.mapUpdate t g kv i).run E.P w=.ok () f∧HR ρ h'.blk.get f∧Ext ρ ρ h h' w f:=by
 unfold PR at a;split at a
 ·split at a
  ·rename_i q;cases a;exact Tl hE b c d e q
  ·exact IQ hE b c d e a
 ·exact IQ hE b c d e a
theorem TC (J:HR ρ h.blk.get w) {t ty:TypeId} {m k:AV} {T kv:Value} {h':Aa} (Z:VR ρ m T) (W:VR ρ k kv) (l:QJ E t m k h=some h') (B:Array TypeId) (C:B[0]?=some t) :
  ∃K,(Builtin.delete_ B ty #[T,kv]).run E.P w=.ok (.tuple #[]) K∧HR ρ h'.blk.get K∧Ext ρ ρ h h' w K:=by
 unfold QJ at l;split at l
 ·rename_i H X d D r ht;obtain ⟨Y,s,u,v⟩:=L0 hE ht;split at l
  ·rename_i x z c3 A L;have F:∀M,(Instr.checkKey M 10000 H kv).run E.P w=.ok () w:=fun M=>Fb (w:=w) hE M 9980 20 H k kv c3 W
   obtain ⟨ds,N⟩:=IB c3;obtain ⟨kl,O⟩:=PJ L W;cases Z with
   |map _ G Q=>
    have f:h.blk.get r≠none:=by
     intro e;rw [e] at A;cases A
    obtain ⟨o,b,R,I⟩:=Vq A (fun y hy=>J.blk r G y Q hy) s u
    have p:=AY (w:=w) E.P R (by simp)
    have a:=Hb (w:=w) hE v O (by omega) N I
    have q:=HP (k:=(Ab U.V z).cells) 0 I;have g:Af U.V (.mIdx d x z)=Ev d (Ab U.V z).cells (Ab U.V x).rows 0:=rfl;split at l
    ·rename_i i;cases l;have j:=AA U.ok i;rw [AB,F4] at j;have z0:Af U.V (.c 0)=0:=rfl;rw [z0,g] at j;rcases q with ⟨a1,a2⟩|⟨n,e,r',a1,a2,a3⟩
     ·rw [a1] at a;obtain ⟨p1,p2⟩:=J.setObj Q f (.dmap H X x) (.map o.toArray b) ⟨d,D,o,b,s,u,rfl,I⟩;refine ⟨_,?_,p1,p2⟩;simp [Builtin.delete_,C,hE.run_und Y,p,F,a,Bi (w:=w) E.P R (by simp)]
     ·omega
    ·rename_i i;cases l;have j:=AA U.ok i;rw [AB,L2] at j;have z0:Af U.V (.c 0)=0:=rfl;rw [z0,g] at j;rcases q with ⟨a1,a2⟩|⟨n,e,r',a1,a2,a3,a4,a5⟩
     ·omega
     ·rw [a1] at a;have hn:(Af U.V (.mIdx d x z)).toNat=n:=by rw [g,a2];simp
      have S:(Ab U.V (.rmv x (.mIdx d x z))).rows=(Ab U.V x).rows.eraseIdx n:=by
       show (Ab U.V x).rows.eraseIdx (Af U.V (.mIdx d x z)).toNat=_;rw [hn]
      obtain ⟨p1,p2⟩:=J.setObj Q f (.dmap H X (.rmv x (.mIdx d x z))) (.map (o.toArray.eraseIdxIfInBounds n) b) ⟨d,D,o.eraseIdx n,b,s,u,by simp,by rw [S];exact I.erase n⟩
      refine ⟨_,?_,p1,p2⟩;simp only [R2] at a;simp [Builtin.delete_,C,hE.run_und Y,p,F,a,Bi (w:=w) E.P R (by simp)]
    ·cases l
  ·cases l
 ·cases l
theorem Tb (e:HR ρ h.blk.get w) {t ty:TypeId} {m k:AV} {f kv:Value} {h':Aa} (g:VR ρ m f) (i:VR ρ k kv) (c:QF E t m k h=some h') (a:Array TypeId) (b:a[0]?=some t) :
  ∃d,(Builtin.delete_ a ty #[f,kv]).run E.P w=.ok (.tuple #[]) d∧HR ρ h'.blk.get d∧Ext ρ ρ h h' w d:=by
 unfold QF at c;split at c
 ·rename_i q;cases c;exact T5 hE e g i q a b
 ·exact TC hE e g i c a b
theorem T0 {h:Aa} (y:HR ρ h.blk.get w) {t:TypeId} {m k a:AV} {I kv:Value} {ok:Bool} (A:VR ρ m I) (o:VR ρ k kv) (c:Qr E t m k ok h=some a) :
  ∃v,(Instr.lookup t I kv ok).run E.P w=.ok v w∧VR ρ a v:=by
 unfold Qr at c;split at c
 ·rename_i r hl;cases c;exact UC hE y A o hl
 ·split at c
  ·rename_i r hl;cases c;exact UA hE y A o hl
  split at c
  ·rename_i s T r J _ _;split at c
   ·rename_i z V g l M N;obtain ⟨O,z1,z2⟩:=hE.run_zero ρ M w;have B:=Bg ρ z2;have q:∀C,(Instr.checkKey C 10000 s kv).run E.P w=.ok () w:=fun C=>Fb (w:=w) hE C 9980 20 s k kv l o
    have d:∃u,E.desc s=some u:=by
     simp only [CP] at l;cases Q:E.desc s with
     |none=>simp [Q] at l
     |some u=>exact ⟨u,rfl⟩
    obtain ⟨u,d⟩:=d
    have fin:∀(v:AV) (b:Bool) (n:Value),VR ρ v n→VR ρ (N0 ok v b) (if ok then .tuple #[n,.bool b] else n):=by
     intro v b n K;cases ok with
     |true=>
      have:=VL.cons K (VL.cons (VR.bool (ρ:=ρ) b) (VL.nil ρ));exact .tuple _ [n,.bool b] this.1 this.2
     |false=>exact K
    cases A with
    |map _ e R=>
     obtain ⟨D,e1,L⟩:=y.blk r e _ R N;have f:(getObj e.cb).run E.P w=.ok (.map D.toArray g) w:=by simp [getObj,Sem.run,e1]
     split at c
     ·rename_i i v F;cases c;obtain ⟨G,x,H⟩:=KJ (w:=w) hE d o L F;cases G with
      |none=>cases x
      |some S=>
       obtain ⟨j,n⟩:=S;refine ⟨_,?_,fin v true n x.2⟩;simp [Instr.lookup,hE.run_und J,f,q,H]
     ·rename_i F;cases c;obtain ⟨G,x,H⟩:=KJ (w:=w) hE d o L F;cases G with
      |some p=>cases x
      |none=>
       refine ⟨_,?_,fin z false O B⟩;simp [Instr.lookup,hE.run_und J,f,q,H,z1]
     ·cases c
   ·cases c
  ·cases c
end
end Go.AE
namespace Go.AE
variable [U:Unk]
omit U in
theorem HG:∀(l b:Nat),(DO l b).length=l
 |0,_=>rfl
 |l+1,b=>by simp [DO,HG l]
theorem Pm {e:SE} (h:QG e=true):(Ba U.V e).data.toList.length<4611686018427387904:=by
 unfold QG at h;split at h
 ·rename_i l b;have:=Ep h
  have e:(Ba U.V (.strc l b)).data.toList.length=l:=by
   show ((DO l b).toArray).toList.length=l;simp [HG]
  omega
 ·have:=LL h;rw [AB,F4,EZ] at this;have z:Af U.V (.c 4611686018427387904)=4611686018427387904:=rfl;rw [z] at this;omega
section
variable {E:Env} (hE:OK E) {ρ:Ren} {h:Aa} {w:World}
omit U in
theorem lp [U:Unk] {t:TypeId} {s s':ByteArray} (h1:s.data.toList.length<4611686018427387904) (h2:s'.data.toList.length<4611686018427387904):(binOp .add t (.string s) (.string s')).run E.P w=.ok (.string (s++s')) w:=by
 have hsz:s.size=s.data.toList.length:=by simp
 have hsz':s'.size=s'.data.toList.length:=by simp
 have hmax:¬(((s.size+s'.size:Nat):Int)>IntKind.i64.max):=by
  simp only [IntKind.max,IntKind.signed,IntKind.bits];omega
 simp only [binOp,Op.stringOp];rw [if_neg hmax];rfl
theorem de {d:BinOp} {t:TypeId} {g i:Operand} {x y r:AV} {e f:Value} (j:VR ρ x e) (k:VR ρ y f) (c:kf d x y=some r) :
  ∃v,(do eqGuard d t g i e f;binOp d t e f:Sem Value).run E.P w=.ok v w∧VR ρ r v:=by
 unfold kf at c;split at c
 ·split at c
  ·rename_i a b m n;split at c
   ·rename_i o;cases c;obtain ⟨c1,c2⟩:=AC o;rw [H1 j m,H1 k n];have p:(eqGuard .add t g i (.string (Ba U.V a)) (.string (Ba U.V b))).run E.P w=.ok () w:=Co (by simp) (fun h _=>by obtain ⟨q,h⟩:=h;cases h)
    refine ⟨.string (Ba U.V a++Ba U.V b),?_,.ss (.strCat a b)⟩;simp only [B2,p,A2];exact lp (Pm c1) (Pm c2)
   ·cases c
  ·cases c
 ·cases c
theorem dj {L:SE} {n k:Nat} (h:iC L n=some k) (g:0≤Af U.V L):k=min (Af U.V L).toNat n:=by
 unfold iC at h;split at h
 ·rename_i a;cases h;have:=AA U.ok a;rw [AB,L2] at this;have z:Af U.V (.c (n:Int))=n:=rfl;rw [z] at this;omega
 ·rename_i a;have:=AA U.ok a;rw [AB,F4] at this;have z:Af U.V (.c (n:Int))=n:=rfl;rw [z] at this;split at h
  ·rename_i l d e;split at h
   ·rename_i f;cases h;obtain ⟨c1,c2⟩:=AC f;have c1:l=d:=by simpa using c1
    have c2:0≤l:=by simpa using c2
    subst c1;obtain ⟨b1,b2⟩:=Ha U.ok L;rw [e] at b1 b2;have e1:=b1 l rfl;have i:=b2 l rfl;omega
   ·cases h
  ·cases h
 ·cases h
theorem Fu {y:SE} {kd:Kd}:∀(n i:Nat),(Gn y kd i n).length=n
 |0,_=>rfl
 |n+1,i=>by simp [Gn,Fu n]
theorem ND {y:SE} {kd:Kd}:∀(n i q:Nat),q<n→(Gn y kd i n)[q]?=some (Ks y (.c (i+q:Nat)) 0 kd)
 |0,_,q,h=>absurd h (iv q)
 |n+1,i,0,h=>rfl
 |n+1,i,q+1,h=>by
  simp only [Gn,EQ];rw [ND n (i+1) q (by omega),show i+1+q=i+(q+1) by omega]
theorem Q7 {kd:Kd} {y:SE} {c:Array Value} {o k:Nat} (f:By U.K ρ.imm [kd] c o (Ab U.V y).rows) (j:k≤(Ab U.V y).rows.length):VL ρ (Gn y kd 0 k) ((c.toList.drop o).take k):=by
 have h1:=f.1;simp only [hQ,Nat.mul_one] at h1;refine ⟨by rw [Fu];simp;omega,fun q a v d g=>?_⟩
 have i:q<k:=by have:=(B3.1 d).1;rwa [Fu] at this
 rw [ND k 0 q i,R2] at d;cases d;have e:=f.2.2 q 0 kd (by omega) rfl
 rw [XB,if_pos i,SX,K3] at g;simp only [hQ,Nat.mul_one,S1] at e;rw [C2,g] at e;exact J9 e
include hE
theorem Zr (G:HR ρ h.blk.get w) {t t' ty:TypeId} {d x a:AV} {dv T:Value} {h':Aa} (H:VR ρ d dv) (X:VR ρ x T) (q:az E t d x h=some (a,h')) (z:Array TypeId) (A:z[0]?=some t) :
  Bj E ρ h h' w (Builtin.copy_ z ty #[dv,T]) a:=by
 unfold az at q;split at q
 ·rename_i r hq;cases q;exact ZY hE G (t':=t) H X hq z A
 ·split at q
  ·rename_i e hd;split at q
   ·rename_i kd b off n es y v hsz hs _;split at q
    ·rename_i k B I;split at q
     ·rename_i h2 m;cases q;have B:=AK B;subst B
      have J:U.K e=some [kd]:=by
       rw [hE.kd,←hE.ke];revert v;cases E.kinds e with
       |none=>intro v;cases v
       |some l=>cases l with
        |nil=>intro v;cases v
        |cons p l=>cases l with
         |nil=>intro v;cases v;rfl
         |cons _ _=>intro v;cases v
      have g:=dj I (by rw [As];exact Int.natCast_nonneg _)
      rw [As,Int.toNat_natCast] at g
      obtain ⟨vs,s1,s2,s3⟩:∃vs:List Value,VL ρ (Gn y kd 0 k) vs∧(Builtin.lenOf T).run E.P w=.ok (Ab U.V y).rows.length w∧(Builtin.firstCells 1 k T).run E.P w=.ok vs.toArray w:=by
       unfold S7 at hs;split at hs
       ·rename_i e' y';split at hs
        ·rename_i Y;cases hs;have Y:=AK Y;subst Y;cases X with
         |dat _ _ ad n' L M=>
          cases M with
          |nil _ _ g1 N=>
           rw [N] at g;have:k=0:=by simpa using g
           subst this;exact ⟨[],VL.nil ρ,by rw [N];simp [Builtin.lenOf],by simp [Builtin.firstCells]⟩
          |empty _ a1 _ _ g1 N=>
           rw [N] at g;have:k=0:=by simpa using g
           subst this;exact ⟨[],VL.nil ρ,by rw [N];simp [Builtin.lenOf],by simp [Builtin.firstCells,Go.loadCells,loadCellsFrom]⟩
          |slc _ W o _ _ _ ks arr O Z hn af g1 Q R hv=>
           rw [J] at O;cases O;obtain ⟨e1,fz,S⟩:=G.imm W arr Z;have C:By U.K ρ.imm [kd] arr o (Ab U.V y).rows:=⟨by rw [hn];exact Q,fun i hi=>R i (by omega),fun i j aa hi hj=>hv i j aa (by omega) hj⟩
           have u:k≤(Ab U.V y).rows.length:=by rw [g];exact Nat.min_le_left _ _
           refine ⟨_,Q7 C u,by rw [hn];simp [Builtin.lenOf],?_⟩
           simp only [Builtin.firstCells,Nat.mul_one];simp only [hQ,Nat.mul_one] at Q;exact AQ E.P w W o k arr e1 fz S (by omega)
        ·cases hs
       ·rename_i W ag n' nl _;split at hs
        ·rename_i e' y' S;split at hs
         ·rename_i hc;cases hs;obtain ⟨c12,c3⟩:=AC hc;obtain ⟨c1,c2⟩:=AC c12;have c1:=AK c1;have c2:=AK c2;subst c1;subst c2;have D:=H6 c3;rw [As] at D;have u:k≤(Ab U.V y).rows.length:=by rw [g];exact Nat.min_le_left _ _
          cases X with
          |asl _ _ _ _ L f F q0 qc qz qn=>
           obtain ⟨ah,ab,et,fz,b1,b2,b3,b4,b5⟩:=G.blk W f _ F S;rw [J] at b1;cases b1;refine ⟨_,Q7 b5 u,by rw [D];simp [Builtin.lenOf],?_⟩
           simp only [Builtin.firstCells,Nat.mul_one];have:=b5.1;simp only [hQ,Nat.mul_one] at this;exact AQ E.P w f.cb f.co k ab et fz b2 (by omega)
          |aslEnd _ _ _ _ ad q0 qn=>
           have hz:(Ab U.V y).rows.length=0:=by rw [q0] at D;omega
           have:k=0:=by omega
           subst this;refine ⟨[],VL.nil ρ,by rw [hz];simp [Builtin.lenOf],?_⟩
           cases ad with
           |none=>simp [Builtin.firstCells]
           |some ad=>simp [Builtin.firstCells,Go.loadCells,loadCellsFrom]
         ·cases hs
        ·cases hs
       ·cases hs
      cases H with
      |slice _ _ _ _ L f S ae hz=>
       obtain ⟨w',q1,q2,q3⟩:=G.storeN E.P S s1 m;refine ⟨ρ,goInt (k:Nat),w',?_,.int _ _,q2,q3⟩;unfold Builtin.copy_;have hm:Nat.min (Ab U.V y).rows.length n=k:=g.symm;simp only [A,Sf,D1,EQ,B2,hE.run_und hd,A2,s2,hE.run_szIs hsz,hm,s3,q1];simp
      |sliceEnd _ _ _ ad=>
       have ac:k=0:=by rw [g];simp
       subst ac;have:=s1.nil_inv;subst this;have hm:Nat.min (Ab U.V y).rows.length 0=0:=Nat.min_zero _
       obtain ⟨q2,q3⟩:HR ρ h'.blk.get w∧Ext ρ ρ h h' w w:=by
        unfold storeN at m;simp only [Gn] at m;split at m
        ·rename_i sz c hg;split at m
         ·cases m;refine G.swap (by rw [hg];exact A3 _) _ (fun f F=>?_)
          exact G.blk b f _ F hg
         ·cases m
        ·cases m
       refine ⟨ρ,goInt (0:Nat),w,?_,.int _ _,q2,q3⟩;unfold Builtin.copy_;simp only [A,Sf,D1,EQ,B2,hE.run_und hd,A2,s2,hE.run_szIs hsz,hm,s3];simp [storeCells]
     ·cases q
    ·cases q
   ·cases q
  ·cases q
end
end Go.AE
namespace Go.AE
variable [U:Unk]
section
variable {E:Env} (hE:OK E) {ρ:Ren} {h:Aa} {w:World}
theorem SZ {s:Sem Unit} {c:String} {o:Option Aa} (d:∀h',o=some h'→∃a b,s.run E.P w=.ok () b∧HR a h'.blk.get b∧Ext ρ a h h' w b) :
  Gd E ρ h w (do s;pure .skip) (Gv c o):=by
 cases o with
 |none=>trivial
 |some h'=>
  intro i;obtain ⟨a,b,e,f,g⟩:=d h' rfl;exact ⟨a,Go.undef,b,.inr ⟨by simp [e],rfl⟩,VR.undef a,f,g⟩
theorem Mi {s:Sem Value} {b:String} {o:Option Aa} (c:∀h',o=some h'→∃a,s.run E.P w=.ok (.tuple #[]) a∧HR ρ h'.blk.get a∧Ext ρ ρ h h' w a) :
  Gd E ρ h w (do pure (.value (←s))) (Gv b o):=by
 cases o with
 |none=>trivial
 |some h'=>
  intro g;obtain ⟨a,d,e,f⟩:=c h' rfl;exact ⟨ρ,Go.undef,a,.inl (by simp [d,Go.undef]),VR.undef ρ,e,f⟩
theorem fe {c:Array TypeId} {ty:TypeId} {args:List AV} {b:List Value} {a:AV} (e:VL ρ args b) (d:xV args=some a):∃v,(Builtin.max_ c ty b.toArray).run E.P w=.ok v w∧VR ρ a v:=by
 cases args with
 |nil=>cases d
 |cons x r=>
  obtain ⟨v,j,rfl,f,hl⟩:=e.cons_inv;cases f<;>first | (cases d;done)|skip
  obtain ⟨u,g,i⟩:=UE E.P w _ hl d;exact ⟨u,by simpa [Builtin.max_] using g,i⟩
theorem eF {c:Array TypeId} {ty:TypeId} {args:List AV} {b:List Value} {a:AV} (e:VL ρ args b) (d:qq args=some a):∃v,(Builtin.min_ c ty b.toArray).run E.P w=.ok v w∧VR ρ a v:=by
 cases args with
 |nil=>cases d
 |cons x r=>
  obtain ⟨v,j,rfl,f,hl⟩:=e.cons_inv;cases f<;>first | (cases d;done)|skip
  obtain ⟨u,g,i⟩:=Uw E.P w _ hl d;exact ⟨u,by simpa [Builtin.min_] using g,i⟩
include hE
theorem XW (j:HR ρ h.blk.get w) {t ty:TypeId} {x:AV} {F:Value} {h':Aa} (J:VR ρ x F) (a:TX E t x h=some h') (q:Array TypeId) (f:q[0]?=some t) :
  ∃r,(Builtin.clear_ q ty #[F]).run E.P w=.ok (.tuple #[]) r∧HR ρ h'.blk.get r∧Ext ρ ρ h h' w r:=by
 unfold TX at a;cases u:E.desc t with
 |none=>rw [u] at a;cases a
 |some d=>
  rw [u] at a;have m:=hE.run_und u w;simp only [] at a;cases J<;>first | (cases a;done)|skip
  ·simp only [A1] at a;subst a;exact ⟨w,by cases d<;>simp [Builtin.clear_,f,m],j,Ext.refl ρ h w⟩
  ·rename_i b off n v K g o G T;cases n with
   |zero=>
    simp only [A1] at a;subst a;exact ⟨w,by cases d<;>simp [Builtin.clear_,f,m],j,Ext.refl ρ h w⟩
   |succ n=>
    cases d<;>first | (cases a;done)|skip
    rename_i e;simp only [] at a;cases k:E.zero e with
    |none=>rw [k] at a;cases a
    |some z=>
     rw [k] at a;simp only [] at a;cases l:Nat.beq z.cells.length v with
     |false=>rw [l] at a;cases a
     |true=>
      rw [l] at a;simp only [] at a;have H:=AK l;obtain ⟨s,z1,z2⟩:=hE.run_zero ρ k w;have I:=(Bg ρ z2).cells (Cj z2);have L:=IN I (n+1) s.cells (.inr rfl);obtain ⟨r,M,N,O⟩:=j.storeN E.P o L a;refine ⟨r,?_,N,O⟩;have A:s.cells.size=z.cells.length:=by have:=I.1;simp at this;omega
      have e0:(Builtin.zeroCells s.cells (n+1)).toList=((Array.range ((n+1)*z.cells.length)).map (s.cells[· % s.cells.size]!)).toList:=by
       rw [Builtin.zeroCells,A]
      simp only [Builtin.clear_,f,Sf,D1,B2,m,A2,z1,e0,M,CU]
  ·rename_i b off v ad;simp only [A1] at a;subst a;exact ⟨w,by cases d<;>simp [Builtin.clear_,f,m],j,Ext.refl ρ h w⟩
  ·rename_i b g o;simp only [] at a;cases p:h.blk.get b with
   |none=>rw [p] at a;cases a
   |some y=>
    rw [p] at a;cases y<;>first | (cases a;done)|skip
    ·rename_i v c;simp only [A1] at a;subst a;obtain ⟨B,e1,Q⟩:=j.blk b g _ o p;have i:=AY (w:=w) E.P e1 (by simp)
     obtain ⟨p1,p2⟩:=j.setObj o (by rw [p];simp) (.map [] c) (.map #[] c) ⟨[],rfl,trivial⟩
     refine ⟨_,?_,p1,p2⟩;cases d<;>simp [Builtin.clear_,f,m,i,Bi (w:=w) E.P e1 (by simp)]
    ·rename_i R S x;simp only [A1] at a;subst a;obtain ⟨C,D,B,c,k1,k2,e1,Q⟩:=j.blk b g _ o p;have i:=AY (w:=w) E.P e1 (by simp)
     obtain ⟨p1,p2⟩:=j.setObj o (by rw [p];simp) (.dmap R S .emptyL) (.map #[] c) ⟨C,D,[],c,k1,k2,rfl,trivial⟩
     refine ⟨_,?_,p1,p2⟩;cases d<;>simp [Builtin.clear_,f,m,i,Bi (w:=w) E.P e1 (by simp)]
theorem Rg (o:HR ρ h.blk.get w) {b:Builtin} {ats:Array TypeId} {ty:TypeId} {consts:Array Bool} {args:List AV} {j:List Value} (n:VL ρ args j) :
  Gd E ρ h w (builtin b ats ty consts j.toArray) (Nv E b ats.toList args h):=by
 unfold Nv;split
 ·rename_i t ts x z e;obtain ⟨v,r,rfl,g,hl⟩:=n.cons_inv;have f:ats[0]?=some t:=by rw [←K3,e];rfl
  exact Bo o fun a c=>dM hE o g c ats f _ (by simp)
 ·rename_i t t' s x e;obtain ⟨v,r,rfl,g,hl⟩:=n.cons_inv;obtain ⟨v2,r2,rfl,i,l⟩:=hl.cons_inv;have:=l.nil_inv;subst this;have p:ats = #[t,t']:=by cases ats;simp_all
  subst p;exact BN fun a h' c q=>P3 hE o g i c q (fun a h' c q=>MV hE o g i c q)
 ·rename_i t ts d x e;obtain ⟨v,r,rfl,g,hl⟩:=n.cons_inv;obtain ⟨v2,r2,rfl,i,l⟩:=hl.cons_inv;have:=l.nil_inv;subst this;have f:ats[0]?=some t:=by rw [←K3,e];rfl
  exact BN fun a h' c q=>Zr hE o (t':=t) g i c ats f
 ·rename_i t ts m k e;obtain ⟨v,r,rfl,g,hl⟩:=n.cons_inv;obtain ⟨v2,r2,rfl,i,l⟩:=hl.cons_inv;have:=l.nil_inv;subst this;have f:ats[0]?=some t:=by rw [←K3,e];rfl
  exact Mi fun h' c=>Tb hE o g i c ats f
 ·exact Bo o fun a c=>by
   unfold orA at c;split at c
   ·rename_i u;cases c;exact fe n u
   ·exact YS n c
 ·exact Bo o fun a c=>by
   unfold orA at c;split at c
   ·rename_i u;cases c;exact eF n u
   ·exact ZG n c
 ·exact ⟨rfl,by simp [builtin]⟩
 ·obtain ⟨v,r,rfl,g,hl⟩:=n.cons_inv;have:=hl.nil_inv;subst this;have y:=g;cases g;exact ⟨rfl,_,y,by simp [builtin,Instr.panic]⟩
 ·rename_i t x e;obtain ⟨v,r,rfl,g,hl⟩:=n.cons_inv;have:=hl.nil_inv;subst this;have f:ats[0]?=some t:=by rw [←K3,e];rfl
  exact Mi fun h' c=>XW hE o g c ats f
 ·trivial
theorem WG (n:HR ρ h.blk.get w) {tmps:T AV} {ev:Operand→Value} (i:EvR ρ tmps ev) (c:Call) (ty:TypeId) :
  Gd E ρ h w (do let d ←resolve ev c ty;invoke d.target d.args) (Uu E tmps c h):=by
 have a:=i.list c.args.toList;have g:(c.args.map ev)=(c.args.toList.map ev).toArray:=by apply Array.ext';simp
 unfold Uu;cases o:c.callee with
 |builtin b=>
  have e:∃cs,(do let d ←resolve ev c ty;invoke d.target d.args)=builtin b c.argTypes ty cs (c.args.toList.map ev).toArray:=
   ⟨_,by simp only [resolve,o,pure_bind,invoke,g];rfl⟩
  obtain ⟨cs,e⟩:=e;rw [e];exact Rg (w:=w) hE n (b:=b) (ats:=c.argTypes) (ty:=ty) (consts:=cs) a
 |invoke r name=>
  have:=ES (w:=w) hE n (fn:=.method name) (fn':=.method name) (captured:=[]) (captured':=[]) rfl (VL.nil ρ) (VL.cons (i r) a)
  have e:(do let d ←resolve ev c ty;invoke d.target d.args)=invoke (.fn (.method name) #[]) (ev r::c.args.toList.map ev).toArray:=by
   simp only [resolve,o,pure_bind,g]
   congr 1
   simp
  rw [e];exact this
 |value f=>
  simp only [];have k:=i f;cases s:Al tmps f with
  |func fn first captured=>
   rw [s] at k;cases j:ev f with
   |func fn' m captured'=>
    rw [j] at k;cases k with
    |func _ _ _ _ p q t u v x y=>
     have:=ES (w:=w) hE n t (captured:=captured) (captured':=q) ⟨x,y⟩ (VL.append (l:=first) (l':=p) ⟨u,v⟩ a)
     have e:(do let d ←resolve ev c ty;invoke d.target d.args)=invoke (.fn fn' q.toArray) (p++c.args.toList.map ev).toArray:=by
      simp only [resolve,o,j,Deferred.ofValue,pure_bind,g]
      congr 1
      simp
     rw [e];exact this
   |_=>rw [j] at k;cases k
  |_=>trivial
omit hE in
theorem SY {tmps:T AV} {ev:Operand→Value} (hev:EvR ρ tmps ev) (c:Call) (ty:TypeId) :
  Gd E ρ h w (do pure (.defer (←resolve ev c ty))) (HK tmps c h):=by
 have hargs:=hev.list c.args.toList;have hmap:(c.args.map ev)=(c.args.toList.map ev).toArray:=by apply Array.ext';simp
 unfold HK;cases hc:c.callee with
 |value f=>
  simp only [];have hf:=hev f;cases hv:Al tmps f with
  |func fn first captured=>
   rw [hv] at hf;cases hvf:ev f with
   |func fn' first' captured'=>
    rw [hvf] at hf;cases hf with
    |func _ _ _ _ f' c' q1 q2 q3 q4 q5=>
     refine ⟨rfl,{target:=.fn fn' c'.toArray,args:=(f'++c.args.toList.map ev).toArray},?_,?_⟩
     ·exact ⟨fn',c',f'++c.args.toList.map ev,q1,⟨q4,q5⟩,VL.append (l:=first) (l':=f') ⟨q2,q3⟩ hargs,rfl⟩
     ·simp [resolve,hc,hvf,Deferred.ofValue,hmap]
   |_=>rw [hvf] at hf;cases hf
  |_=>trivial
 |_=>trivial
end
end Go.AE
namespace Go.AE
variable [U:Unk]
section
variable {E:Env} (hE:OK E) {ρ:Ren} {h:Aa} {w:World}
include hE
omit hE in
theorem Cs (hr:HR ρ h.blk.get w) {s:Sem Next} {a:AV} {v:Value} (hs:s.run E.P w=.ok (.value v) w) (hv:VR ρ a v):Gd E ρ h w s (.val a h):=
 fun _=>⟨ρ,v,w,.inl hs,hv,hr,Ext.refl ρ h w⟩
omit hE in
theorem IM {tmps:T AV} {ev:Operand→Value} (hev:EvR ρ tmps ev) (o:Option Operand):(∀a,Bp tmps o=some a→∃v,o.map ev=some v∧VR ρ a v)∧(Bp tmps o=none→o.map ev=none):=by
 cases o with
 |none=>exact ⟨(fun a h=>by cases h),fun _=>rfl⟩
 |some x=>exact ⟨fun a h=>by simp only [Bp,A1] at h;subst h;exact ⟨ev x,rfl,hev x⟩,(fun h=>by cases h)⟩
theorem xu {t:TypeId} {b:Array (String×TypeId)} (c:E.desc t=some (.interface b)) (d:Nat):(Op.equalIn (d+1) t .nilIface .nilIface).run E.P w=.ok true w:=by
 simp [Op.equalIn,hE.run_und c]
theorem ML (hr:HR ρ h.blk.get w) {tmps:T AV} {ev:Operand→Value} (hev:EvR ρ tmps ev) (o:Oper):Gd E ρ h w (execOp ev o) (aop E tmps h o.op):=by
 unfold execOp aop;cases af:o.op with
 |move x=>exact Cs hr (by simp) (hev x)
 |assign x=>exact Cs hr (by simp) (hev x)
 |pick c a b=>
  simp only [];have u:=hev c;cases hv:Al tmps c with
  |bool t=>
   rw [hv] at u;cases B:ev c with
   |bool t'=>
    rw [B] at u;cases u;cases t with
    |true=>exact Cs hr (by simp [asBool]) (hev a)
    |false=>exact Cs hr (by simp [asBool]) (hev b)
   |_=>rw [B] at u;cases u
  |sb pos e=>
   rw [hv] at u;simp only [];split
   ·rename_i q g;have F:=AA U.ok g;cases B:ev c with
    |bool t'=>
     rw [B] at u;cases u;rw [F];split
     ·rename_i hp;rw [hp];exact Cs hr (by simp [asBool]) (hev a)
     ·rename_i hp;rw [hp];exact Cs hr (by simp [asBool]) (hev b)
    |_=>rw [B] at u;cases u
   ·trivial
  |_=>trivial
 |alloc t=>
  simp only [];cases hz:E.zero t with
  |none=>trivial
  |some z=>
   intro p;obtain ⟨V,v,W,A,G,H,I⟩:=Yz hE hr (p h.nx (C1 _) (by simp [Cr,Aa.new])) hz
   exact ⟨V,v,W,.inl (by simp [A]),G,H,I⟩
 |box t x=>
  simp only [];cases ht:(Al tmps x).isTop with
  |true=>trivial
  |false=>
   intro p;obtain ⟨V,v,W,A,G,H,I⟩:=iE (E:=E) (t:=t) hr (p h.nx (C1 _) (by simp [Cr,Aa.new])) (hev x) (by rintro e;rw [e] at ht;cases ht)
   exact ⟨V,v,W,.inl (by simp [A]),G,H,I⟩
 |build t J=>
  have hp:=hev.parts J.toList;have C:(J.map fun (i,x)=>(i,ev x))=(J.toList.map fun (i,x)=>(i,ev x)).toArray:=by apply Array.ext';simp
  simp only [C];exact Bo hr fun a g=>Xl hE hp g
 |buildSlice t len J=>
  have hp:=hev.parts J.toList;have C:(J.map fun (i,x)=>(i,ev x))=(J.toList.map fun (i,x)=>(i,ev x)).toArray:=by apply Array.ext';simp
  simp only [C];exact BN fun a h' g p=>L7 hE hr hp g p
 |load t a=>exact Bo hr fun x g=>YV hE hr (hev a) g
 |store t a x=>exact SZ fun h' g=>RO hE hr (hev a) (hev x) g
 |nilCheck x=>
  simp only [];have n:=hev x;cases hv:Al tmps x<;>try trivial
  all_goals (rw [hv] at n)
  ·cases j:ev x<;>rw [j] at n<;>cases n
   exact Cs hr rfl (.ptr _ _ _ (by assumption))
  ·rename_i fn f c;cases fn<;>try trivial
   ·cases j:ev x with
    |func X Y Z=>
     rw [j] at n;cases n with
     |func _ _ _ _ Y Z A G H I q5=>
      have K:=A;simp only [FnR] at A;subst A;exact Cs hr rfl (.func _ _ _ _ _ _ K G H I q5)
    |_=>rw [j] at n;cases n
   ·cases j:ev x with
    |func X Y Z=>
     rw [j] at n;cases n with
     |func _ _ _ _ Y Z A G H I q5=>
      have K:=A;obtain ⟨ae,hb,rfl⟩:=A;exact Cs hr rfl (.func _ _ _ _ _ _ K G H I q5)
    |_=>rw [j] at n;cases n
  ·cases j:ev x<;>rw [j] at n<;>cases n
   exact Cs hr rfl (.iface _ _ _ (by assumption))
 |binOp M t x y ty=>
  refine Bo hr fun a g=>?_
  unfold tC at g;cases N:((Al tmps x).isSym||(Al tmps y).isSym) with
  |true=>
   rw [N] at g;simp only [] at g;split at g
   ·rename_i r D;cases g;exact jU hE (hev x) (hev y) D
   ·split at g
    ·rename_i r D;cases g;exact de (hev x) (hev y) D
    ·exact cE (hev x) (hev y) g
  |false=>
  rw [N] at g;simp only [] at g;cases hn:((Al tmps x).isNil&&(Al tmps y).isNil) with
  |false=>
   rw [hn] at g;simp only [] at g;split at g
   ·rename_i r D;cases g;exact Wu hE (hev x) (hev y) D
   ·exact YX hE (hev x) (hev y) g
  |true=>
   rw [hn] at g;simp only [] at g;obtain ⟨n1,n2⟩:=AC hn
   have e1:Al tmps x=.nilIface:=by
    generalize Al tmps x=a at n1;cases a<;>first|rfl|cases n1
   have e2:Al tmps y=.nilIface:=by
    generalize Al tmps y=a at n2;cases a<;>first|rfl|cases n2
   have v1:=hev x;have v2:=hev y;rw [e1] at v1;rw [e2] at v2;generalize n:ev x=xv at v1;generalize hy:ev y=yv at v2;cases v1;cases v2;cases u:(Region.isConst x||Region.isConst y) with
   |false=>rw [u] at g;cases g
   |true=>
    rw [u] at g;cases F:E.desc t with
    |none=>rw [F] at g;cases g
    |some d=>
     rw [F] at g;cases d<;>first | (cases g;done)|skip
     have hu:=hE.run_und F w
     have hg:(eqGuard M t x y .nilIface .nilIface).run E.P w=.ok () w:=by
      unfold eqGuard;rcases orF u with q|q
      ·cases x<;>simp only [Region.isConst,E2] at q
       cases M<;>simp
      ·cases y<;>simp only [Region.isConst,E2] at q
       cases M<;>cases x<;>simp
     have O:(Op.equal t .nilIface .nilIface).run E.P w=.ok true w:=xu hE F 9999;have aa:binOp .eql t .nilIface .nilIface=(do pure (.bool (←Op.equal t .nilIface .nilIface))):=rfl
     have ab:binOp .neq t .nilIface .nilIface=(do pure (.bool (!(←Op.equal t .nilIface .nilIface)))):=rfl
     cases M<;>first | (cases g;done)|skip
     ·simp only [A1] at g;subst g;exact ⟨.bool true,by rw [aa];simp only [B2,hg,A2,O,CU],.bool _⟩
     ·simp only [A1] at g;subst g;exact ⟨.bool false,by rw [ab];simp only [B2,hg,A2,O,CU,gg],.bool _⟩
 |unOp M t x=>exact Bo hr fun a g=>j5 (hev x) g
 |convert s d x=>exact BN fun a h' g p=>bK hE hr (hev x) g p
 |makeInterface t x=>
  simp only [];cases F:E.desc t with
  |none=>trivial
  |some d=>
   cases d<;>first|trivial|exact Cs hr (by simp [Instr.makeInterface,hE.run_und F]) (.iface t _ _ (hev x))
 |makeFunc fn first captured=>
  have R:=hev.list first.toList;have S:=hev.list captured.toList;have e1:first.map ev=(first.toList.map ev).toArray:=by apply Array.ext';simp
  have e2:captured.map ev=(captured.toList.map ev).toArray:=by apply Array.ext';simp
  cases fn with
  |yield l=>trivial
  |_=>exact Cs hr (by simp only [Instr.makeFunc,B2,CU,A2,e1,e2]) (.func _ _ _ _ _ _ rfl R.1 R.2 S.1 S.2)
 |makeMap t r=>
  have mk:∀{s:Sem Next},s.run E.P w=.ok (.value (.map (some w.heap.size))) {w with heap:=w.heap.push (.map #[] 0)}→Gd E ρ h w s (.val (.map h.nx) (h.new (.map [] 0))):=by
   intro s hs p;have L:ρ h.nx=none:=p h.nx (C1 _) (by simp [Aa.new])
   obtain ⟨p1,p2⟩:=hr.new L (.map [] 0) (.map #[] 0) 0 ⟨[],rfl,trivial⟩ {w with heap:=w.heap.push (.map #[] 0)} rfl rfl rfl rfl
   exact ⟨_,_,_,.inl hs,.map h.nx _ (Ren.upd_same _ _ _),p1,p2⟩
  cases r with
  |none=>exact mk (by simp [Instr.makeMap])
  |some r=>
   simp only [];have n:=hev r;cases F:E.desc t with
   |none=>trivial
   |some d=>
    cases d<;>try trivial
    cases hv:Al tmps r<;>try trivial
    rw [hv] at n;cases j:ev r<;>rw [j] at n<;>cases n
    exact mk (by simp [Instr.makeMap,j,hE.run_und F,asInt,asIntOf])
 |makeSlice t l c=>exact BN fun a h' g p=>NU hE hr (hev l) (hev c) g p
 |slice t x lo hi Q=>
  refine BN fun a h' g p=>?_
  obtain ⟨a1,a2⟩:=IM hev lo;obtain ⟨b1,b2⟩:=IM hev hi;obtain ⟨c1,c2⟩:=IM hev Q
  have ac:Bp tmps Q≠none→Bp tmps hi≠none:=by
   cases Q with
   |none=>intro q;exact absurd rfl q
   |some m=>cases hi with
    |none=>cases g
    |some i=>intro _ q;cases q
  have ad:sliceB E t (Al tmps x) (Bp tmps lo) (Bp tmps hi) (Bp tmps Q) h=some (a,h'):=by
   cases Q<;>cases hi<;>first|exact g|cases g
  exact XU hE hr (hev x) a1 a2 b1 b2 c1 c2 ac ad
 |fieldAddr t x f=>exact Bo hr fun a g=>N7 hE (hev x) g
 |field t x f=>exact Bo hr fun a g=>XY hE (hev x) g
 |indexAddr t x i=>exact Bo hr fun a g=>N1 hE (hev x) (hev i) g
 |index t x i=>exact Bo hr fun a g=>WM hE (hev x) (hev i) g
 |lookup t m k ok=>exact Bo hr fun a g=>T0 hE hr (hev m) (hev k) g
 |mapUpdate t m k v=>exact Kq fun h' g=>S8 hE hr (hev m) (hev k) (hev v) g
 |insert t m k v=>exact Kq fun h' g=>IQ hE hr (hev m) (hev k) (hev v) g
 |mapEntry t m k=>exact BN fun a h' g p=>Xq hE hr (hev m) (hev k) g
 |entryStore t m s v=>exact Kq fun h' g=>Na hr (hev m) (hev s) (hev v) g
 |range t x=>exact BN fun a h' g p=>XZ hE hr (hev x) g p
 |next it ag=>exact BN fun a h' g p=>Yn hr (hev it) g
 |entry it=>exact Bo hr fun a g=>N9 hr (hev it) g
 |typeAssert x xt t ok=>exact Bo hr fun a g=>UQ hE (hev x) g
 |extract t i=>
  simp only [];have n:=hev t;cases hv:Al tmps t<;>try trivial
  rw [hv] at n;cases j:ev t<;>rw [j] at n<;>cases n
  rename_i l l' R S;refine Bo hr fun a g=>?_
  obtain ⟨v,A,G⟩:=VL.get (l:=l) (l':=l') ⟨R,S⟩ g;exact ⟨v,by simp [Instr.extract,A],G⟩
 |call c=>exact WG hE hr hev c o.type
 |defer c=>exact SY hev c o.type
 |panic x=>
  simp only [];have n:=hev x;cases hv:Al tmps x<;>try trivial
  rw [hv] at n;cases j:ev x<;>rw [j] at n<;>cases n
  exact ⟨rfl,_,.iface _ _ _ (by assumption),by simp [Instr.panic]⟩
 |_=>trivial
end
end Go.AE

