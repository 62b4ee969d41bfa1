/- What is proved here: an evaluator of the model's steps that the kernel can run, and that whatever it answers is what the model does (part 3 of 8: AeOps15, AeOps16, AeOps17, AeOps18, AeDat1, AeDat2, AeDat3, AeDat4, AeFrz, AeDat5). Conditions: those that each theorem states; they hold of no one program. -/
import Derived.Test.YtmjeljjkhblgeaaGreatDoorBeB
import Derived.Lib.Bytealg
import Derived.Laws.BytesString
set_option linter.unusedVariables false
set_option linter.unusedSectionVars false
set_option linter.unusedSimpArgs false
namespace Go.AE
variable [Gl:Ax]
variable [U:Unk]
theorem PK {d:Ren} (P:Program) (w:World) (k:IntKind):∀{l:List AV} {b:List Value} {x:Int} {a:AV},VL d l b→HD k x l=some a→∃v,(b.foldlM Builtin.max2 (.int k x)).run P w=.ok v w∧VR d a v:=by
 intro l
 induction l with
 |nil=>intro b x a c h;rw [c.nil_inv];simp only [HD,Option.some.injEq] at h;subst h;exact ⟨_,by simp,.int _ _⟩
 |cons y r ih=>
  intro b x a c h;obtain ⟨v,i,rfl,e,hr⟩:=c.cons_inv;cases e<;>simp only [HD] at h<;>first | (cases h;done)|skip
  obtain ⟨u,f,g⟩:=ih hr h;exact ⟨u,by simp only [List.foldlM_cons,Builtin.max2,Sem.run_bind,Sem.run_pure,Result.andThen_ok];exact f,g⟩
theorem PB {d:Ren} (P:Program) (w:World) (k:IntKind):∀{l:List AV} {b:List Value} {x:Int} {a:AV},VL d l b→G8 k x l=some a→∃v,(b.foldlM Builtin.min2 (.int k x)).run P w=.ok v w∧VR d a v:=by
 intro l
 induction l with
 |nil=>intro b x a c h;rw [c.nil_inv];simp only [G8,Option.some.injEq] at h;subst h;exact ⟨_,by simp,.int _ _⟩
 |cons y r ih=>
  intro b x a c h;obtain ⟨v,i,rfl,e,hr⟩:=c.cons_inv;cases e<;>simp only [G8] at h<;>first | (cases h;done)|skip
  obtain ⟨u,f,g⟩:=ih hr h;exact ⟨u,by simp only [List.foldlM_cons,Builtin.min2,Sem.run_bind,Sem.run_pure,Result.andThen_ok];exact f,g⟩
theorem Nz {ρ:Ren}:∀{l:List AV} {c:List Value} {n:Nat},IG l=some n→VL ρ l c→∃b:List Int,c=b.map (Value.int .u8)∧b.length=l.length∧Au (b.map fun n=>UInt8.ofNat n.toNat)=n
 |[],c,n,h,d=>by
  simp only [IG,Option.some.injEq] at h;subst h;rw [d.nil_inv];exact ⟨[],rfl,rfl,rfl⟩
 |a::l,c,n,h,d=>by
  obtain ⟨v,r,rfl,e,f⟩:=d.cons_inv;cases e<;>first | (cases h;done)|skip
  rename_i k m;cases k<;>first | (cases h;done)|skip
  cases m with
  |negSucc m=>cases h
  |ofNat m=>
   simp only [IG] at h;cases g:IG l with
   |none=>simp [g] at h
   |some q=>
    simp only [g,Option.some.injEq] at h;subst h;obtain ⟨b,i,j,o⟩:=Nz g f;refine ⟨(m:Int)::b,by simp [i],by simp [j],?_⟩
    simp only [List.map_cons,Au,o,Int.toNat_natCast];simp
theorem JD (a:List Int):∀(s:ByteArray),(a.foldl (fun r n=>r.push (UInt8.ofNat n.toNat)) s).data.toList=s.data.toList++a.map fun n=>UInt8.ofNat n.toNat:=by
 induction a with
 |nil=>intro s;simp
 |cons n a ih=>intro s;simp only [List.foldl_cons,ih,List.map_cons];simp [ByteArray.push]
theorem Iw {b:Type} (a:Array b) (x:b) (f:b→b):(a.push x).modify a.size f=a.push (f x):=by
 apply Array.ext_getElem?;intro i;simp only [Array.getElem?_modify,Array.getElem?_push];by_cases h:i=a.size
 ·subst h;simp
 ·rw [if_neg (fun e=>h e.symm),if_neg h,if_neg h]
section
variable {E:Env} (hE:OK E) {ρ:Ren} {h:Aa} {w:World}
include hE
theorem Nn (hr:HR ρ h.blk.get w) {s d:TypeId} {x a:AV} {xv:Value} {h':Aa} (hx:VR ρ x xv) (f:Qd E s d x h=some (a,h')) (hf:AA ρ h.nx h'.nx) :
  AH E ρ h h' w (convert s d xv) a:=by
 unfold Qd at f;cases N:E.desc s with
 |none=>rw [N] at f;cases f
 |some B=>
  cases O:E.desc d with
  |none=>rw [N,O] at f;cases B<;>cases f
  |some K=>
   rw [N,O] at f;have us:=hE.run_und N w;have Y:=hE.run_und O w;cases hx with
   |int k n=>
    cases K<;>first | (cases f;done) | (cases B<;>(cases f;done))|skip
    simp only [Option.some.injEq,Prod.mk.injEq] at f;obtain ⟨rfl,rfl⟩:=f;exact At hr ⟨_,by simp [convert,us,Y,Conv.intToInt],.int _ _⟩
   |si k e=>
    cases K<;>first | (cases f;done) | (cases B<;>(cases f;done))|skip
    simp only [Option.some.injEq,Prod.mk.injEq] at f;obtain ⟨rfl,rfl⟩:=f;exact At hr ⟨_,by simp [convert,us,Y,Conv.intToInt,JG],B5 ρ _ (.conv _ e)⟩
   |ss i=>
    cases K<;>first | (cases f;done) | (cases B<;>(cases f;done))|skip
    simp only [Option.some.injEq,Prod.mk.injEq] at f;obtain ⟨rfl,rfl⟩:=f;refine At hr ⟨.string (AK U.V i),?_,.ss i⟩;cases B<;>simp [convert,us,Y]
   |str t=>
    cases K<;>first | (cases f;done) | (cases B<;>(cases f;done))|skip
    ·simp only [Option.some.injEq,Prod.mk.injEq] at f;obtain ⟨rfl,rfl⟩:=f;refine At hr ⟨.string t,?_,.str t⟩;cases B<;>simp [convert,us,Y]
    ·rename_i e;simp only [] at f;cases j:E.desc e with
     |none=>rw [j] at f;cases f
     |some C=>
      have Q:=hE.run_und j w;rw [j] at f;cases C<;>first | (cases f;done)|skip
      rename_i k;cases k<;>first | (cases f;done)|skip
      simp only [Option.some.injEq,Prod.mk.injEq] at f;obtain ⟨rfl,rfl⟩:=f;have R:ρ h.nx=none:=hf h.nx (Nat.le_refl _) (by simp [Aa.new])
      generalize z:grownCap w t.size 0 e=m;have aa:t.size≤m:=by rw [←z];exact grownCap_ge w _ _ _
      generalize D:(t.data.map (fun b=>Value.int .u8 b.toNat)++Array.replicate (m-t.size) (.int .u8 0))=arr
      have ab:arr.size=m:=by rw [←D];simp;omega
      have af:HR ρ h.blk.get {w with drawn:=w.drawn+1}:=hr.same rfl
      obtain ⟨p1,p2⟩:=af.new R (.cells t.data.toList.length (.ofList (bytesOf t.data.toList.length (Au t.data.toList)))) (.cells arr e (arr.size,arr.size+1)) arr.size (by
       refine ⟨arr,e,_,rfl,rfl,?_,.inr (Nat.le_refl _),?_⟩
       ·show 0+_≤arr.size;simp;omega
       ·intro i a hi f;rw [T.get_ofList,EX] at f;obtain ⟨v,hv,ag⟩:=(Oc (ρ.upd h.nx ⟨w.heap.size,0,arr.size⟩) t.data.toList).get f;refine ⟨v,?_,ag⟩;rw [←D];have ah:i<t.size:=by simpa using hi
        simp only [Nat.zero_add];rw [Array.getElem?_append_left (by simpa using ah)]
        simpa using hv) {w with drawn:=w.drawn+1,heap:=w.heap.push (.cells arr e (arr.size,arr.size+1))} rfl rfl rfl rfl
      refine ⟨_,.slice (some ⟨w.heap.size,0,none⟩) t.size m,_,?_,?_,p1,p2.drawn rfl rfl rfl rfl⟩
      ·have ai:(choose (.appendCap t.size 0 e)).run E.P w=.ok m {w with drawn:=w.drawn+1}:=by rw [←z];simp [Question.forced,grownCap]
       have S:(convert s d (.string t)).run E.P w=(Conv.stringToBytes e t).run E.P w:=by
        cases B<;>simp [convert,us,Y,Q]
       rw [S];simp only [Conv.stringToBytes,Sem.run_bind,ai,Result.andThen_ok,newRow,run_newObj,Sem.run_pure,D];simp only [markStringish,Sem.run_bind,run_shape,Result.andThen_ok];have W:({w with drawn:=w.drawn+1,heap:=w.heap.push (.cells arr e)}:World).shape? w.heap.size=some (e,arr.size):=by simp [World.shape?]
       rw [W];simp only [run_freeze,Result.andThen_ok]
       have aj:({w with drawn:=w.drawn+1,heap:=w.heap.push (.cells arr e)}:World).freeze ⟨w.heap.size,arr.size,none⟩ 1={w with drawn:=w.drawn+1,heap:=w.heap.push (.cells arr e (arr.size,arr.size+1))}:=by
        simp [World.freeze,Iw]
       rw [aj]
      ·have X:t.size=t.data.toList.length:=by simp
       rw [X] at aa ⊢;exact VR.slice h.nx 0 _ 1 m _ (Ren.upd_same _ _ _) aa (by simp [ab])
   |slice0=>
    cases K<;>cases B<;>first | (cases f;done)|skip
    rename_i e;simp only [] at f;cases j:E.desc e with
    |none=>rw [j] at f;cases f
    |some C=>
     have Q:=hE.run_und j w;rw [j] at f;cases C<;>first | (cases f;done)|skip
     rename_i k;cases k<;>first | (cases f;done)|skip
     simp only [Option.some.injEq,Prod.mk.injEq] at f;obtain ⟨rfl,rfl⟩:=f;exact At hr ⟨.string .empty,by simp [convert,us,Y,Q,Conv.bytesToString],.str .empty⟩
   |slice b off len es m g L z hz=>
    cases K<;>cases B<;>first | (cases f;done)|skip
    ·rename_i e;simp only [] at f;cases j:E.desc e with
     |none=>rw [j] at f;cases f
     |some C=>
      have Q:=hE.run_und j w;rw [j] at f;cases C<;>first | (cases f;done)|skip
      rename_i k;cases k<;>first | (cases f;done)|skip
      simp only [] at f;cases o:B3 h b off len with
      |none=>simp [o] at f
      |some l=>
       simp only [o] at f;cases hp:IG l with
       |none=>simp [hp] at f
       |some n=>
        simp only [hp,Option.some.injEq,Prod.mk.injEq] at f;obtain ⟨rfl,rfl⟩:=f;unfold B3 at o;cases p:h.blk.get b with
        |none=>simp [p] at o
        |some y=>
         cases y with
         |cells sz c=>
          simp only [p] at o;cases Z:Nat.ble (off+len) sz with
          |false=>simp [Z] at o
          |true=>
           simp only [Z] at o;have ac:=(T.range_spec c _ _ _ o).1;obtain ⟨vs,q1,q2,q3⟩:=hr.loadCells E.P L p (Ct Z) o;obtain ⟨ns,n1,n2,n3⟩:=Nz hp q1;rw [n1] at q2;have F:=run_bytesToString (P:=E.P) w ⟨g.cb,g.co+off,none⟩ len m ns q2;refine At hr ⟨_,by rw [run_convert_bytes_string w s d e _ _ _ (hE.und N) (hE.und j) (hE.und O)];exact F,?_⟩
           have hv:=VR.str (ρ:=ρ) (ns.foldl (fun r n=>r.push (UInt8.ofNat n.toNat)) ByteArray.empty)
           have e0:(ByteArray.empty.data.toList++ns.map fun n=>UInt8.ofNat n.toNat)=ns.map fun n=>UInt8.ofNat n.toNat:=by simp
           rw [JD,e0,List.length_map,n3,n2,ac] at hv;exact hv
         |_=>simp [p] at o
    ·rename_i e e';simp only [] at f;cases j:E.desc e with
     |none=>rw [j] at f;cases f
     |some C=>
      have Q:=hE.run_und j w;rw [j] at f;cases C<;>first | (cases f;done)|skip
      rename_i k;cases k<;>first | (cases f;done)|skip
      simp only [] at f;cases A:Nat.beq s d with
      |false=>rw [A] at f;cases f
      |true=>
       cases len with
       |zero=>rw [A] at f;cases f
       |succ len=>
        cases p:h.blk.get b with
        |none=>rw [A,p] at f;cases f
        |some y=>
         cases y<;>first | (rw [A,p] at f;cases f;done)|skip
         rename_i sz c;rw [A,p] at f;simp only [Option.some.injEq,Prod.mk.injEq] at f;obtain ⟨rfl,rfl⟩:=f;have ae:=As A;subst ae;rw [N] at O;cases O;obtain ⟨u,e1,M,r1,r2,r3,r4,r5⟩:=hr.blk b g _ L p;have ao:=hr.lt b g L;have W:w.shape? g.cb=some (e1,u.size):=by simp [World.shape?,r1]
         obtain ⟨G,H⟩:∃G,G=w.freeze ⟨g.cb,u.size,none⟩ 1:=⟨_,rfl⟩
         have ak:G.heap[g.cb]?=some (.cells u e1 (if M.1==M.2 then (u.size,u.size+1) else (min M.1 u.size,max M.2 (u.size+1)))):=by
          rw [H];unfold World.freeze;rw [if_neg (by omega)]
          show (w.heap.modify g.cb _)[g.cb]?=_;rw [Array.getElem?_modify,if_pos rfl,r1];rfl
         have I:∀k,k≠g.cb→G.heap[k]?=w.heap[k]?:=by
          intro k hk;rw [H];unfold World.freeze;rw [if_neg (by omega)]
          show (w.heap.modify g.cb _)[k]?=_;rw [Array.getElem?_modify,if_neg (fun e=>hk e.symm)]
         have X:G.heap.size=w.heap.size:=by rw [H];simp [World.freeze]
         have J:G.os=w.os∧G.tape=w.tape∧G.output=w.output:=by rw [H];simp [World.freeze]
         have al:BR ρ (.cells sz c) g G.heap[g.cb]?:=by
          refine ⟨u,e1,_,ak,r2,r3,?_,r5⟩;by_cases q:M.1=M.2
          ·right;simp [q,r2]
          ·have:=r4.resolve_left q;right;have q':(M.1==M.2)=false:=by simpa using q
           rw [q'];simp only [Bool.false_eq_true,if_false];omega
         have am:HR ρ h.blk.get G:=by
          refine ⟨fun c d hc=>X▸hr.lt c d hc,?_,hr.apart,fun k arr hk=>by rw [I k (hr.off k arr b g hk L (by rw [p];simp)).symm];exact hr.imm k arr hk,hr.off,hr.glob⟩
          intro c' d y hc hy;by_cases e:c'=b
          ·subst e;rw [L] at hc;cases hc;rw [p] at hy;cases hy;exact al
          ·rw [I _ (hr.apart c' b d g e hc L (by rw [hy];simp) (by rw [p];simp))]
           exact hr.blk c' d y hc hy
         refine ⟨ρ,.slice (some ⟨g.cb,g.co+off,none⟩) (len+1) m,G,?_,.slice b off (len+1) es m g L z hz,am,⟨Ren.le_refl ρ,Nat.le_refl _,fun _ _ e=>.inl e,⟨J.1,J.2.1,J.2.2,by omega⟩,?_,⟨[],rfl,fun _ _ _=>rfl⟩,fun _ e=>.inl e,fun _ _ e=>.inl e⟩⟩
         ·simp only [convert,Sem.run_bind,us,Result.andThen_ok,Q,beq_self_eq_true,markStringish,run_shape,W,run_freeze,Sem.run_pure,←H]
         ·intro k hk hn;exact I k (fun e=>hn b g L (by rw [p];simp) e.symm)
   |sliceEnd b off es ad=>
    cases K<;>cases B<;>first | (cases f;done)|skip
    ·rename_i e;simp only [] at f;cases j:E.desc e with
     |none=>rw [j] at f;cases f
     |some C=>
      have Q:=hE.run_und j w;rw [j] at f;cases C<;>first | (cases f;done)|skip
      rename_i k;cases k<;>first | (cases f;done)|skip
      simp only [] at f;cases o:B3 h b off 0 with
      |none=>simp [o] at f
      |some l=>
       simp only [o] at f
       have an:l=[]:=by
        unfold B3 at o;cases p:h.blk.get b with
        |none=>simp [p] at o
        |some y=>
         cases y with
         |cells sz c=>
          simp only [p] at o;cases Z:Nat.ble (off+0) sz with
          |false=>simp only [Z] at o;cases o
          |true=>simp only [Z,T.range,Option.some.injEq] at o;exact o.symm
         |_=>simp [p] at o
       subst an;simp only [IG,Option.some.injEq,Prod.mk.injEq] at f;obtain ⟨rfl,rfl⟩:=f;have F:=run_bytesToString (P:=E.P) w ad 0 0 [] (by simp [Go.loadCells,loadCellsFrom])
       exact At hr ⟨_,by rw [run_convert_bytes_string w s d e _ _ _ (hE.und N) (hE.und j) (hE.und O)];exact F,.str .empty⟩
    ·rename_i e e';simp only [] at f;cases j:E.desc e with
     |none=>rw [j] at f;cases f
     |some C=>
      rw [j] at f;cases C<;>first | (cases f;done)|skip
      rename_i k;cases k<;>first | (cases f;done)|skip
      simp only [] at f;cases Nat.beq s d<;>cases h.blk.get b<;>simp at f
   |_=>cases K<;>first | (cases f;done) | (cases B<;>(cases f;done))
end
end Go.AE
namespace Go.AE
variable [Gl:Ax]
variable [U:Unk]
theorem F6 (c:UInt8) (s:ByteArray):∀(n i:Nat),i+n=s.size→CS c.toNat n (Au (s.data.toList.drop i)) i=(match (List.range' i n).find? (fun j=>s[j]! == c) with|some j=>(j:Int)|none=>-1)
 |0,i,h=>by simp [CS]
 |n+1,i,h=>by
  have hi:i<s.data.toList.length:=by simp;omega
  have b:s.data.toList.drop i=s.data.toList[i]::s.data.toList.drop (i+1):=List.drop_eq_getElem_cons hi
  have d:s[i]! = s.data.toList[i]:=by
   have a:i<s.size:=by omega
   rw [getElem!_pos s i a];rfl
  obtain ⟨f,g⟩:=Ds s.data.toList[i] (s.data.toList.drop (i+1));rw [b];simp only [CS,f,g,List.range'_succ,List.find?_cons,d];by_cases e:s.data.toList[i]=c
  ·rw [e];simp
  ·have k:Nat.beq s.data.toList[i].toNat c.toNat=false:=DA (fun q=>e (UInt8.toNat_inj.1 q))
   have l:(s.data.toList[i]==c)=false:=by simpa using e
   rw [k,l];exact F6 c s n (i+1) (by omega)
section
variable {E:Env} (hE:OK E) {ρ:Ren} {h:Aa} {w:World}
include hE
theorem PU {x a:AV} {s:Value} {n t:TypeId} {ok:Bool} (y:VR ρ x s) (c:Mk E x t ok=some a) :
  ∃v,(Instr.typeAssert s n t ok).run E.P w=.ok v w∧VR ρ a v:=by
 unfold Mk at c;cases o:E.desc t with
 |none=>rw [o] at c;cases c
 |some d=>
  rw [o] at c;have u:=hE.run_und o w
  have e:∀(v:AV) (g:Value) (b:Bool),VR ρ v g→VR ρ (.tuple [v,.bool b]) (.tuple #[g,.bool b]):=by
   intro v g b l;have:=VL.cons l (VL.cons (VR.bool (ρ:=ρ) b) (VL.nil ρ));exact .tuple _ [g,.bool b] this.1 this.2
  simp only [] at c;cases i:NO d with
  |true=>simp [i] at c
  |false=>
   simp only [i] at c;cases y<;>first | (cases c;done)|skip
   ·rename_i m v g l;simp only [MD] at c
    have f:(Instr.typeAssert (.iface m g) n t ok).run E.P w=(if m=t then (pure (if ok then .tuple #[g,.bool true] else g):Sem Value) else
      (if ok then (do pure (.tuple #[←zeroValue t,.bool false])) else runtimePanic (.typeAssertion (some n) (some m) t ""))).run E.P w:=by
     cases d<;>first | (cases i;done)|simp only [Instr.typeAssert,Sem.run_bind,u,Result.andThen_ok]
    cases k:Nat.beq m t with
    |true=>
     have:=As k;cases ok with
     |true=>
      simp only [k,Option.some.injEq] at c;subst c;exact ⟨_,by rw [f,if_pos this];rfl,e v g true l⟩
     |false=>
      simp only [k,Option.some.injEq] at c;subst c;exact ⟨_,by rw [f,if_pos this];rfl,l⟩
    |false=>
     have:=NP k;cases ok with
     |true=>
      cases j:E.zero t with
      |none=>simp [k,j] at c
      |some z=>
       simp only [k,j,Option.some.injEq] at c;subst c;obtain ⟨p,q,r⟩:=hE.run_zero ρ j w;exact ⟨_,by rw [f,if_neg this];simp [q],e z p false (AB ρ r)⟩
     |false=>simp [k] at c
   ·simp only [MD] at c;cases ok with
    |false=>cases j:E.zero t<;>simp at c
    |true=>
     cases j:E.zero t with
     |none=>simp [j] at c
     |some z=>
      simp only [j,Option.some.injEq] at c;subst c;obtain ⟨p,q,r⟩:=hE.run_zero ρ j w;refine ⟨_,?_,e z p false (AB ρ r)⟩;cases d<;>first | (cases i;done)|simp [Instr.typeAssert,u,q]
theorem R0 (hr:HR ρ h.blk.get w) {t:TypeId} {x a:AV} {q:Value} {h':Aa} (r:VR ρ x q) (f:PS E t x h=some (a,h')) (n:AA ρ h.nx h'.nx) :
  AH E ρ h h' w (Instr.range t q) a:=by
 unfold PS at f;cases o:E.desc t with
 |none=>rw [o] at f;cases f
 |some d=>
  rw [o] at f;have p:=hE.run_und o w;cases d<;>first | (cases f;done)|skip
  ·cases r<;>first | (cases f;done)|skip
   rename_i s;simp only [Option.some.injEq,Prod.mk.injEq] at f;obtain ⟨rfl,rfl⟩:=f;have c:ρ h.nx=none:=n h.nx (Nat.le_refl _) (by simp [Aa.new])
   obtain ⟨i,j⟩:=hr.new c (.strIter s.data.toList.length (Au s.data.toList) 0) (.stringIter s 0) 0 ⟨rfl,s,rfl,rfl,rfl⟩ {w with heap:=w.heap.push (.stringIter s 0)} rfl rfl rfl rfl
   refine ⟨_,.pointer (some ⟨w.heap.size,0,none⟩),_,by simp [Instr.range,p],?_,i,j⟩
   exact .ptr h.nx 0 _ (Ren.upd_same _ _ _)
  rename_i A B
  ·cases r<;>first | (cases f;done)|skip
   ·simp only [Option.some.injEq,Prod.mk.injEq] at f;obtain ⟨rfl,rfl⟩:=f;have c:ρ h.nx=none:=n h.nx (Nat.le_refl _) (by simp [Aa.new])
    obtain ⟨i,j⟩:=hr.new c (.mapIter none 0 [] 0) (.mapIter none 0 #[] 0) 0 ⟨rfl,rfl⟩ {w with heap:=w.heap.push (.mapIter none 0 #[] 0)} rfl rfl rfl rfl
    refine ⟨_,.pointer (some ⟨w.heap.size,0,none⟩),_,by simp [Instr.range,p],?_,i,j⟩
    exact .ptr h.nx 0 _ (Ren.upd_same _ _ _)
   ·rename_i b g u;simp only [] at f;cases l:h.blk.get b with
    |none=>simp [l] at f
    |some y=>
     cases y with
     |map C e=>
      simp only [l,Option.some.injEq,Prod.mk.injEq] at f;obtain ⟨rfl,rfl⟩:=f;obtain ⟨v,z,D⟩:=hr.blk b g _ u l;have k:=Aq (w:=w) E.P z (by simp)
      have c:ρ h.nx=none:=n h.nx (Nat.le_refl _) (by simp [Aa.new])
      obtain ⟨i,j⟩:=hr.new c (.mapIter (some b) e [] e) (.mapIter (some g.cb) e #[] e) 0 ⟨rfl,g,(Ren.le_upd c _).m _ _ u,rfl⟩ {w with heap:=w.heap.push (.mapIter (some g.cb) e #[] e)} rfl rfl rfl rfl
      refine ⟨_,.pointer (some ⟨w.heap.size,0,none⟩),_,by simp [Instr.range,p,k],?_,i,j⟩
      exact .ptr h.nx 0 _ (Ren.upd_same _ _ _)
     |_=>simp [l] at f
end
end Go.AE
namespace Go.AE
variable [Gl:Ax]
variable [U:Unk]
section
variable {E:Env} (hE:OK E) {ρ:Ren} {h:Aa} {w:World}
theorem QE (b:Nat):∀(l:List Nat),Hz b l=l.toArray.contains b
 |[]=>by simp [Hz]
 |a::r=>by
  have h:=QE b r;simp only [List.contains_toArray] at h ⊢;simp only [Hz,List.contains_cons,h];by_cases e:a=b
  ·subst e;simp
  ·rw [DA e];simp [Ne.symm e]
theorem NA (seen:List Nat):∀(b:List Al) (a:List MapEntry),ER ρ b a→ER ρ (Be seen b) (a.filter fun e=>!seen.toArray.contains e.born)
 |[],[],_=>trivial
 |e::r,j::d,h=>by
  obtain ⟨f,g,c,i⟩:=h;have ih:=NA seen r d i;unfold Be;rw [List.filter_cons,c,←QE];cases Hz e.born seen with
  |true=>simp only [Bool.not_true,Bool.false_eq_true,if_false];exact ih
  |false=>simp only [Bool.not_false,if_true];exact ⟨f,g,c,ih⟩
 |[],_::_,h=>h.elim
 |_::_,[],h=>h.elim
theorem Qz (a b:Nat):∀(g:List Al) (c:List MapEntry),ER ρ g c→IX a b g=true→∀e∈c,e.born<a∧e.born<b
 |[],[],_,_=>fun e i=>by cases i
 |e::r,m::j,h,d=>by
  obtain ⟨n,o,k,l⟩:=h;simp only [IX] at d;obtain ⟨d,o3⟩:=Ao d;obtain ⟨o1,o2⟩:=Ao d;intro x f;rcases List.mem_cons.1 f with rfl|f
  ·rw [k];exact ⟨F1 o1,F1 o2⟩
  ·exact Qz a b r j l o3 x f
 |[],_::_,h,_=>h.elim
 |_::_,[],h,_=>h.elim
theorem PM {a:Type} {p:a→Bool} {l:List a} (h:∀x∈l,p x=true):l.filter p=l:=List.filter_eq_self.2 h
theorem NU {a:Type} {p:a→Bool} {l:List a} (h:∀x∈l,p x=false):l.filter p=[]:=List.filter_eq_nil_iff.2 fun x b=>by rw [h x b];simp
theorem M9 (hr:HR ρ h.blk.get w) {r m a g f:Nat} {seen:List Nat} {k:List Al} {d:Bh} {fz:Option Nat} {ty:TypeId} (v:ρ r=some d) (y:h.blk.get r=some (.mapIter (some m) a seen f)) (p:h.blk.get m=some (.map k g))
  (z:IX a f k=true) :
  ∃b q:List MapEntry,∃l,ρ m=some l∧d.co=0∧ER ρ (Be seen k) q∧(Instr.next (.pointer (some ⟨d.cb,d.co,fz⟩)) false ty).run E.P w=(do
   let c:=(if q.toArray.isEmpty then #[none] else #[])++q.toArray.map some
   match c[←choose (.mapNext c.size)]? with
   |some (some e)=>
    setObj d.cb (.mapIter (some l.cb) a (seen.toArray.push e.born) g)
    pure (.tuple #[.bool true,e.key,e.val])
   |some none=>pure (.tuple #[.bool false])
   |none=>stuck "Next: no such candidate" : Sem Value).run E.P w:=by
 obtain ⟨n,l,t,A⟩:=hr.blk r d _ v y;have o:=Aq (w:=w) E.P A (by simp)
 obtain ⟨b,B,u⟩:=hr.blk m l _ t p;have j:=Aq (w:=w) E.P B (by simp)
 refine ⟨b,b.filter fun e=>!seen.toArray.contains e.born,l,t,n,NA seen k b u,?_⟩
 have i:=Qz a f k b u z
 have C:(!b.toArray.isEmpty&&b.toArray.all (fun e=>decide (e.born≥f)))=false:=by
  cases b with
  |nil=>rfl
  |cons e r=>
   have:=(i e (by simp)).2
   simp [show ¬f≤e.born by omega]
 have D:(b.toArray.filter fun e=>!seen.toArray.contains e.born)=(b.filter fun e=>!seen.toArray.contains e.born).toArray:=by simp
 have F:((b.filter fun e=>!seen.toArray.contains e.born).toArray.filter fun e=>decide (e.born<a))=(b.filter fun e=>!seen.toArray.contains e.born).toArray:=by
  rw [List.filter_toArray,PM];intro x s;simpa using (i x (List.mem_filter.1 s).1).1
 have G:((b.filter fun e=>!seen.toArray.contains e.born).toArray.filter fun e=>decide (e.born≥a)) = #[]:=by
  rw [List.filter_toArray,NU];intro x s;have:=(i x (List.mem_filter.1 s).1).1;simpa using this
 simp only [n,Instr.next,Sem.run_bind,o,Result.andThen_ok,j];rw [Bool.and_assoc,C,Bool.and_false];simp only [Bool.false_eq_true,if_false,D,F,G,Array.append_empty];simp only [Sem.run_bind];rfl
theorem LX {x y:AV} {a b:Value} (c:VR ρ x a) (d:VR ρ y b):VR ρ (.tuple [.bool true,x,y]) (.tuple #[.bool true,a,b]):=by
 have:=VL.cons (VR.bool (ρ:=ρ) true) (VL.cons c (VL.cons d (VL.nil ρ)));exact .tuple _ [.bool true,a,b] this.1 this.2
theorem O5:VR ρ (.tuple [.bool false]) (.tuple #[.bool false]):=by
 have:=VL.cons (VR.bool (ρ:=ρ) false) (VL.nil ρ);exact .tuple _ [.bool false] this.1 this.2
theorem Jy (hr:HR ρ h.blk.get w) {it a:AV} {N:Value} {i:Bool} {ty:TypeId} {h':Aa} (hi:VR ρ it N) (c:N3 it i h=some (a,h')) :
  AH E ρ h h' w (Instr.next N i ty) a:=by
 unfold N3 at c;cases hi<;>first | (cases c;done)|skip
 rename_i r off j z;cases off with
 |succ n=>cases c
 |zero=>
  simp only [] at c;cases o:h.blk.get r with
  |none=>rw [o] at c;cases c
  |some y=>
   rw [o] at c;cases y<;>first | (cases i<;>(cases c;done))|skip
   rotate_left
   ·rename_i l b p;cases i with
    |false=>cases c
    |true=>
     simp only [] at c;obtain ⟨d,s,rfl,rfl,A⟩:=hr.blk r j _ z o;have g:=Aq (w:=w) E.P A (by simp)
     have B:s.size=s.data.toList.length:=Array.length_toList.symm;cases G:Nat.blt p s.data.toList.length with
     |false=>
      rw [G] at c;simp only [Option.some.injEq,Prod.mk.injEq] at c;obtain ⟨rfl,rfl⟩:=c
      have T:¬p<s.size:=by
       intro q;rw [B] at q;exact Nat.not_le_of_not_ble_eq_true (by rw [show Nat.ble (p+1) s.data.toList.length=false from G];simp) q
      refine At hr ⟨_,?_,O5⟩;simp [Instr.next,d,g,T]
     |true=>
      rw [G] at c;have C:p<s.data.toList.length:=Nat.le_of_ble_eq_true G;have t:p<s.size:=by rw [B];exact C
      simp only [Ll C] at c;cases I:Nat.blt (s.data.toList[p]).toNat 128 with
      |false=>rw [I] at c;cases c
      |true=>
       rw [I] at c;have H:(s.data.toList[p]).toNat<128:=Nat.le_of_ble_eq_true I;simp only [Option.some.injEq,Prod.mk.injEq] at c;obtain ⟨rfl,rfl⟩:=c
       have J:(s.get! (p+0)).toNat=(s.data.toList[p]).toNat:=by
        have:s.get! (p+0)=s.data.toList[p]:=by
         simp only [ByteArray.get!,Nat.add_zero];rw [getElem!_pos s.data p t];rfl
        rw [this]
       have D:Utf8.decode s p=((s.data.toList[p]).toNat,1):=by
        unfold Utf8.decode;simp only [J];rw [if_pos (by omega)]
       obtain ⟨K,L⟩:=hr.setObj z (by rw [o];simp) (.strIter s.data.toList.length (Au s.data.toList) (p+1)) (.stringIter s (p+1)) ⟨d,s,rfl,rfl,rfl⟩
       refine ⟨ρ,.tuple #[.bool true,goInt p,.int .i32 (s.data.toList[p]).toNat],_,?_,LX (.int .i64 p) (.int .i32 _),K,L⟩;simp only [Instr.next,d,Nat.add_zero,Sem.run_bind,g,Result.andThen_ok,t,if_true,D];rw [Av (w:=w) E.P A (by simp)]
       simp
   rename_i m f seen F;cases i with
   |true=>cases m<;>cases c
   |false=>
    cases m with
    |none=>
     simp only [Option.some.injEq,Prod.mk.injEq] at c;obtain ⟨rfl,rfl⟩:=c;obtain ⟨d,A⟩:=hr.blk r j _ z o;have g:=Aq (w:=w) E.P A (by simp)
     refine At hr ⟨_,?_,O5⟩;simp [Instr.next,d,g]
    |some m=>
     simp only [] at c;cases v:h.blk.get m with
     |none=>rw [v] at c;cases c
     |some V=>
      rw [v] at c;cases V<;>first | (cases c;done)|skip
      rename_i O k;simp only [] at c;cases M:IX f F O with
      |false=>rw [M] at c;cases c
      |true=>
       rw [M] at c;obtain ⟨W,l',Q,X,d,x,u⟩:=M9 (E:=E) hr (fz:=none) (ty:=ty) z o v M;obtain ⟨_,_,_,A⟩:=hr.blk r j _ z o;cases R:Be seen O with
       |nil=>
        rw [R] at c x;simp only [Option.some.injEq,Prod.mk.injEq] at c;obtain ⟨rfl,rfl⟩:=c;cases l' with
        |cons=>exact x.elim
        |nil=>
         refine At hr ⟨_,?_,O5⟩;rw [Nat.add_zero,u];simp [Question.forced]
       |cons e l=>
        rw [R] at c x;cases l with
        |cons=>cases c
        |nil=>
         cases l' with
         |nil=>exact x.elim
         |cons S l'=>
          obtain ⟨k1,k2,k3,x⟩:=x;cases l' with
          |cons=>exact x.elim
          |nil=>
           simp only [Lm,Option.some.injEq,Prod.mk.injEq] at c;obtain ⟨rfl,rfl⟩:=c;obtain ⟨K,L⟩:=hr.setObj z (by rw [o];simp) (.mapIter (some m) f (seen++[e.born]) k) (.mapIter (some Q.cb) f (seen++[e.born]).toArray k) ⟨d,Q,X,rfl⟩
           refine ⟨ρ,.tuple #[.bool true,S.key,S.val],_,?_,LX k1 k2,K,L⟩;rw [Nat.add_zero,u,←k3];simp [Question.forced,Av (w:=w) E.P A (by simp)]
theorem Ju (hr:HR ρ h.blk.get w) {it:AV} {Q:Value} {ty:TypeId} {l:List (AV×Aa)} (hi:VR ρ it Q) (b:Jo it h=some l) :
  ∃p∈l,AH E ρ h p.2 w (Instr.next Q false ty) p.1:=by
 unfold Jo at b;cases hi<;>first | (cases b;done)|skip
 rename_i r off u D;cases off with
 |succ n=>cases b
 |zero=>
  simp only [] at b;cases v:h.blk.get r with
  |none=>rw [v] at b;cases b
  |some y=>
   rw [v] at b;cases y<;>first | (cases b;done)|skip
   rename_i m c seen x;cases m with
   |none=>cases b
   |some m=>
    simp only [] at b;cases j:h.blk.get m with
    |none=>rw [j] at b;cases b
    |some T=>
     rw [j] at b;cases T<;>first | (cases b;done)|skip
     rename_i R f;simp only [] at b;cases F:IX c x R with
     |false=>rw [F] at b;cases b
     |true=>
      rw [F] at b;obtain ⟨V,d,G,W,H,S,z⟩:=M9 (E:=E) hr (fz:=none) (ty:=ty) D v j F;obtain ⟨_,X,Y,Z⟩:=hr.blk r u _ D v;cases I:Be seen R with
      |nil=>rw [I] at b;cases b
      |cons a1 k=>
       cases k with
       |nil=>rw [I] at b;cases b
       |cons a2 k=>
        rw [I] at b S;simp only [Option.some.injEq] at b
        have A:∀(l:List Al) (d:List MapEntry),ER ρ l d→d.length=l.length∧∀(i:Nat) (o:MapEntry),d[i]?=some o→∃e,l[i]?=some e∧VR ρ e.key o.key∧VR ρ e.val o.val∧o.born=e.born:=by
         intro l
         induction l with
         |nil=>intro d h;cases d with
          |nil=>exact ⟨rfl,fun i o B=>by simp at B⟩
          |cons=>exact h.elim
         |cons a l ih=>
          intro d h;cases d with
          |nil=>exact h.elim
          |cons a' d=>
           obtain ⟨x1,x2,x3,x4⟩:=h;obtain ⟨y1,y2⟩:=ih d x4;refine ⟨by simp [y1],fun i o B=>?_⟩
           cases i with
           |zero=>simp only [List.getElem?_cons_zero,Option.some.injEq] at B;subst B;exact ⟨a,rfl,x1,x2,x3⟩
           |succ i=>exact y2 i o (by simpa using B)
        obtain ⟨J,n2⟩:=A _ _ S;have K:d≠[]:=by intro q;subst q;simp at J
        have s:(if d.toArray.isEmpty then #[none] else #[])++d.toArray.map some=(d.map some).toArray:=by
         cases d with
         |nil=>exact absurd rfl K
         |cons=>simp
        have L:(d.map some).toArray.size=k.length+2:=by simp [J]
        generalize hi:(w.tape w.drawn (.mapNext (k.length+2)))%(k.length+2)=i at *;have C:i<k.length+2:=by rw [←hi];exact Nat.mod_lt _ (by omega)
        have g:i<d.length:=by rw [J];simpa using C
        obtain ⟨e,h1,k1,k2,k3⟩:=n2 i d[i] (List.getElem?_eq_getElem g);refine ⟨Lm r m c f seen h e,?_,?_⟩
        ·rw [←b];exact List.mem_map.2 ⟨e,List.mem_of_getElem? h1,rfl⟩
        ·have M:HR ρ h.blk.get {w with drawn:=w.drawn+1}:=hr.same rfl
         obtain ⟨p1,p2⟩:=M.setObj D (by rw [v];simp) (.mapIter (some m) c (seen++[e.born]) f) (.mapIter (some G.cb) c (seen++[e.born]).toArray f) ⟨H,G,W,rfl⟩
         refine ⟨ρ,.tuple #[.bool true,d[i].key,d[i].val],_,?_,LX k1 k2,p1,p2.drawn rfl rfl rfl rfl⟩;rw [Nat.add_zero,z];simp only [s,L]
         have N:(choose (.mapNext (k.length+2))).run E.P w=.ok i {w with drawn:=w.drawn+1}:=by
          rw [run_choose,if_neg (by simp [Question.forced])]
          simp only [Question.cut,hi]
         have O:(d.map some).toArray[i]?=some (some d[i]):=by simp [g]
         have hs:=Av (w:={w with drawn:=w.drawn+1}) (o':=.mapIter (some G.cb) c (seen++[e.born]).toArray f) E.P Z (by simp)
         have t:seen.toArray.push e.born=(seen++[e.born]).toArray:=by simp
         simp only [Sem.run_bind,N,Result.andThen_ok,O,k3,t];rw [hs];rfl
theorem NM:∀(l:List Nat) (n:Nat),SI l=some n→l.toArray.back?=some n
 |[],n,h=>by cases h
 |[a],n,h=>by cases h;rfl
 |a::b::r,n,h=>by
  have:=NM (b::r) n h;simpa using this
theorem JV (n:Nat):∀(f:List Al) (b:List MapEntry) (e:Al),ER ρ f b→NW n f=some e→∃c,b.toArray.find? (fun x=>x.born==n)=some c∧VR ρ e.key c.key∧VR ρ e.val c.val
 |[],_,_,_,h=>by cases h
 |_::_,[],_,h,_=>h.elim
 |a::r,g::j,e,h,d=>by
  obtain ⟨x1,k,i,l⟩:=h;unfold NW at d;cases q:Nat.beq a.born n with
  |true=>
   rw [q] at d;cases d;exact ⟨g,by simp [i,As q],x1,k⟩
  |false=>
   rw [q] at d;obtain ⟨c,y1,y2⟩:=JV n r j e l d;refine ⟨c,?_,y2⟩;have:(g.born==n)=false:=by rw [i];simpa using NP q
   simpa [this] using y1
theorem KW (hr:HR ρ h.blk.get w) {it a:AV} {q:Value} (hi:VR ρ it q) (b:Gk it h=some a) :
  ∃v,(Instr.entry q).run E.P w=.ok v w∧VR ρ a v:=by
 unfold Gk at b;cases hi<;>first | (cases b;done)|skip
 rename_i r off d u;cases off with
 |succ n=>cases b
 |zero=>
  simp only [] at b;cases i:h.blk.get r with
  |none=>rw [i] at b;cases b
  |some y=>
   rw [i] at b;cases y<;>first | (cases b;done)|skip
   rename_i m j seen s;cases m with
   |none=>cases b
   |some m=>
    simp only [] at b;split at b
    ·rename_i n x k z l;split at b
     ·rename_i e A B;cases b;obtain ⟨o,C,D,F⟩:=hr.blk r d _ u i;have f:=Aq (w:=w) E.P F (by simp)
      obtain ⟨p,G,H⟩:=hr.blk m C _ D l;have c:=Aq (w:=w) E.P G (by simp)
      obtain ⟨g,y1,k1,k2⟩:=JV n x p e H B;have I:=As A;have t:=VL.cons k1 (VL.cons k2 (VL.nil ρ));refine ⟨.tuple #[g.key,g.val],?_,.tuple _ [g.key,g.val] t.1 t.2⟩;simp only [Nat.add_zero,Instr.entry,o,Sem.run_bind,f,Result.andThen_ok,NM seen n z,c,I,bne_self_eq_false,Bool.false_eq_true,if_false,y1,Sem.run_pure]
     ·cases b
    ·cases b
theorem Hs {nt:Nat} {tmps:T AV} {tm:Array Value} (b:TR ρ nt tmps tm) (o:Operand):VR ρ (Ah tmps o) (match o with
  |.tmp t=>tm.getD t Go.undef
  |.const v=>v
  |.global g=>.pointer (some ⟨g,0,none⟩)
  |.func f=>.func (.func f) #[] #[]):=by
 cases o with
 |tmp t=>
  simp only [Ah];cases c:tmps.get t with
  |none=>exact .top _
  |some a=>exact b.get t a c
 |const v=>
  simp only [Ah];cases d:ofValue v with
  |none=>exact .top v
  |some a=>exact AB ρ d
 |global g=>exact .glob g 0
 |func f=>exact .func _ _ [] [] [] [] rfl rfl (by simp) rfl (by simp)
def EvR (ρ:Ren) (tmps:T AV) (a:Operand→Value):Prop:=∀o,VR ρ (Ah tmps o) (a o)
theorem EvR.list {tmps:T AV} {j:Operand→Value} (i:EvR ρ tmps j):∀(l:List Operand),VL ρ (l.map (Ah tmps)) (l.map j)
 |[]=>VL.nil ρ
 |o::l=>VL.cons (i o) (EvR.list i l)
theorem EvR.parts {tmps:T AV} {r:Operand→Value} (j:EvR ρ tmps r):∀(l:List (Nat×Operand)),PL ρ (l.map fun (i,x)=>(i,Ah tmps x)) (l.map fun (i,x)=>(i,r x))
 |[]=>trivial
 | (i,x)::l=>⟨rfl,j x,EvR.parts j l⟩
end
end Go.AE
namespace Go.AE
variable [Gl:Ax]
variable [U:Unk]
def DW (E:Env) (c:Ren) (h:Aa) (w:World) (s:Sem Next):Res→Prop
 |.val v h'=>AA c h.nx h'.nx→∃i e g,(s.run E.P w=.ok (.value e) g∨(s.run E.P w=.ok .skip g∧e=Go.undef))∧VR i v e∧HR i h'.blk.get g∧Ext c i h h' w g
 |.enter f args h'=>h'=h∧∃a:List Value,VL c args a∧s.run E.P w=.ok (.enter f a.toArray) w
 |.round l args h'=>h'=h∧∃b,∃a:List Value,c l=some b∧VL c args a∧s.run E.P w=(Instr.yield b.cb a.toArray).run E.P w
 |.defer d h'=>h'=h∧∃j,DR c d j∧s.run E.P w=.ok (.defer j) w
 |.recover h'=>h'=h∧s.run E.P w=.ok .recover w
 |.panic v h'=>h'=h∧∃e,VR c v e∧s.run E.P w=.halt (.panic e) w
 |.bad _=>True
section
variable {E:Env} (hE:OK E) {ρ:Ren} {h:Aa} {w:World}
theorem Bn {s:Sem Value} {b:String} {o:Option (AV×Aa)} (c:∀a h',o=some (a,h')→AA ρ h.nx h'.nx→AH E ρ h h' w s a) :
  DW E ρ h w (do pure (.value (←s))) (CB b o):=by
 cases o with
 |none=>trivial
 |some p=>
  obtain ⟨a,h'⟩:=p;intro d;obtain ⟨e,v,f,g,i,j,k⟩:=c a h' rfl d;exact ⟨e,v,f,.inl (by simp [g]),i,j,k⟩
theorem A1 (hr:HR ρ h.blk.get w) {s:Sem Value} {b:String} {o:Option AV} (c:∀a,o=some a→∃v,s.run E.P w=.ok v w∧VR ρ a v) :
  DW E ρ h w (do pure (.value (←s))) (Bx h b o):=by
 cases o with
 |none=>trivial
 |some a=>
  intro f;obtain ⟨v,d,e⟩:=c a rfl;exact ⟨ρ,v,w,.inl (by simp [d]),e,hr,Ext.refl ρ h w⟩
theorem Ie {s:Sem Unit} {b:String} {o:Option Aa} (c:∀h',o=some h'→∃a,s.run E.P w=.ok () a∧HR ρ h'.blk.get a∧Ext ρ ρ h h' w a) :
  DW E ρ h w (do s;pure .skip) (DD b o):=by
 cases o with
 |none=>trivial
 |some h'=>
  intro g;obtain ⟨a,d,e,f⟩:=c h' rfl;exact ⟨ρ,Go.undef,a,.inr ⟨by simp [d],rfl⟩,VR.undef ρ,e,f⟩
theorem F9 (c:UInt8):∀(l:List UInt8),CH c.toNat l.length (Au l)=l.count c
 |[]=>rfl
 |x::l=>by
  obtain ⟨a,b⟩:=Ds x l;simp only [List.length_cons,CH,a,b];rw [F9 c l,List.count_cons];by_cases e:x=c
  ·subst e;simp
  ·have d:Nat.beq x.toNat c.toNat=false:=DA (fun q=>e (UInt8.toNat_inj.1 q))
   have f:(x==c)=false:=by simpa using e
   rw [d,f];simp
include hE
theorem OS (hr:HR ρ h.blk.get w) {f:FuncId} {fn:Func} (p:E.fn.get f=some fn) (B:fn.body=none) {args:List AV} {q:List Value} (O:VL ρ args q) :
  DW E ρ h w (callFunc f q.toArray) (GU fn.name args h):=by
 have n:=hE.fn f fn p;have o:=hE.num f fn p;unfold GU;split
 ·rename_i I;obtain ⟨G,H⟩:=hE.clone f fn p B I;split
  ·rename_i t r;obtain ⟨v,l,rfl,C,J⟩:=O.cons_inv;have:=J.nil_inv;subst this;cases C with
   |iface t a v C=>
    cases C with
    |map b e K=>
     cases Y:h.blk.get r with
     |none=>trivial
     |some y=>
      cases y with
      |map Z d=>
       intro L;obtain ⟨k,Q,R⟩:=hr.blk r e _ K Y;have u:=Aq (w:=w) E.P Q (by simp)
       have j:ρ h.nx=none:=L h.nx (Nat.le_refl _) (by simp [Aa.new])
       obtain ⟨S,T⟩:=hr.new j (.map Z d) (.map k.toArray d) 0 ⟨k,rfl,R.mono (Ren.le_upd j _)⟩ {w with heap:=w.heap.push (.map k.toArray d)} rfl rfl rfl rfl
       refine ⟨_,.iface t (.map (some w.heap.size)),_,.inl ?_,?_,S,T⟩
       ·simp only [callFunc,Sem.run_bind,run_program,Result.andThen_ok,n,o,B,Option.isNone_none,Bool.false_eq_true,if_false,if_true,run_mark,G,H]
        have z:Extern.MapsClone.clone #[.iface t (.map (some e.cb))]=(do
          let .map g d ←getObj e.cb|stuck "maps.clone: a map expected"
          pure (.iface t (.map (some (←newObj (.map g d)))))):=rfl
        show ((Extern.MapsClone.clone #[.iface t (.map (some e.cb))]).run E.P w).andThen _=_;rw [z];simp only [Sem.run_bind,u,Result.andThen_ok,run_newObj,Sem.run_pure]
       ·exact .iface t _ _ (.map h.nx _ (Ren.upd_same _ _ _))
      |dmap kt vt x=>
       intro L;obtain ⟨V,W,k,d,k1,k2,Q,R,e3⟩:=hr.blk r e _ K Y;have u:=Aq (w:=w) E.P Q (by simp)
       have j:ρ h.nx=none:=L h.nx (Nat.le_refl _) (by simp [Aa.new])
       obtain ⟨S,T⟩:=hr.new j (.dmap kt vt x) (.map k.toArray d) 0 ⟨V,W,k,d,k1,k2,rfl,R,e3⟩ {w with heap:=w.heap.push (.map k.toArray d)} rfl rfl rfl rfl
       refine ⟨_,.iface t (.map (some w.heap.size)),_,.inl ?_,?_,S,T⟩
       ·simp only [callFunc,Sem.run_bind,run_program,Result.andThen_ok,n,o,B,Option.isNone_none,Bool.false_eq_true,if_false,if_true,run_mark,G,H]
        have z:Extern.MapsClone.clone #[.iface t (.map (some e.cb))]=(do
          let .map g d ←getObj e.cb|stuck "maps.clone: a map expected"
          pure (.iface t (.map (some (←newObj (.map g d)))))):=rfl
        show ((Extern.MapsClone.clone #[.iface t (.map (some e.cb))]).run E.P w).andThen _=_;rw [z];simp only [Sem.run_bind,u,Result.andThen_ok,run_newObj,Sem.run_pure]
       ·exact .iface t _ _ (.map h.nx _ (Ren.upd_same _ _ _))
      |_=>trivial
  ·trivial
 ·rename_i I;obtain ⟨G,H⟩:=hE.ixb f fn p B I;split
  ·rename_i l b c;cases m:Nat.blt c 256 with
   |false=>trivial
   |true=>
   intro L;have M:=F1 m;obtain ⟨v,r,rfl,C,J⟩:=O.cons_inv;obtain ⟨v2,r2,rfl,D,F⟩:=J.cons_inv;have:=F.nil_inv;subst this;cases C;cases D;rename_i s;refine ⟨ρ,.int .i64 (CS c s.data.toList.length (Au s.data.toList) 0),w,.inl ?_,.int _ _,hr,Ext.refl ρ h w⟩;simp only [callFunc,Sem.run_bind,run_program,Result.andThen_ok,n,o,B,Option.isNone_none,Bool.false_eq_true,if_false,if_true,run_mark,G,H]
   have z:Extern.BytealgIndexByte.indexByte #[.string s,.int .u8 (Int.ofNat c)]=(do
     let b ←Extern.Bytes.bytesOf (.string s)
     let c ←Extern.Bytes.asByte (.int .u8 (Int.ofNat c))
     match (List.range b.size).find? fun i=>b[i]! == c with
     |some i=>pure (goInt i)
     |none=>pure (goInt (-1))):=rfl
   show ((Extern.BytealgIndexByte.indexByte #[.string s,.int .u8 (Int.ofNat c)]).run E.P w).andThen _=_;rw [z];have A:=F6 (Nat.toUInt8 c) s s.size 0 (by omega)
   have X:(Nat.toUInt8 c).toNat=c:=by
    simp [Nat.toUInt8];omega
   have N:s.data.toList.length=s.size:=by simp
   rw [X,List.drop_zero] at A;rw [N,A,←List.range_eq_range'];simp only [Sem.run_bind,Extern.Bytes.bytesOf,Extern.Bytes.asByte,Sem.run_pure,Result.andThen_ok,Int.ofNat_eq_natCast,Int.toNat_natCast];cases (List.range s.size).find? (fun i=>s[i]! == Nat.toUInt8 c)<;>simp [goInt]
  ·trivial
 ·rename_i I;obtain ⟨G,H⟩:=hE.cnt f fn p B I;split
  ·rename_i l b c;cases m:Nat.blt c 256 with
   |false=>trivial
   |true=>
   intro L;have M:=F1 m;obtain ⟨v,r,rfl,C,J⟩:=O.cons_inv;obtain ⟨v2,r2,rfl,D,F⟩:=J.cons_inv;have:=F.nil_inv;subst this;cases C;cases D;rename_i s;refine ⟨ρ,.int .i64 (CH c s.data.toList.length (Au s.data.toList):Nat),w,.inl ?_,.int _ _,hr,Ext.refl ρ h w⟩;simp only [callFunc,Sem.run_bind,run_program,Result.andThen_ok,n,o,B,Option.isNone_none,Bool.false_eq_true,if_false,if_true,run_mark,G,H]
   have X:(Nat.toUInt8 c).toNat=c:=by
    simp [Nat.toUInt8];omega
   have A:=F9 (Nat.toUInt8 c) s.data.toList;rw [X] at A;show ((Extern.BytealgCount.count #[.string s,.int .u8 (Int.ofNat c)]).run E.P w).andThen _=_;rw [Go.Lib.run_countString,A];rfl
  ·trivial
 ·trivial
theorem Nk (hr:HR ρ h.blk.get w) {f:FuncId} {args:List AV} {a:List Value} (e:VL ρ args a):DW E ρ h w (callFunc f a.toArray) (Hg E f args h):=by
 unfold Hg;cases d:E.fn.get f with
 |none=>trivial
 |some fn=>
  cases b:fn.body with
  |none=>simp only [];rw [b];exact OS hE hr d b e
  |some c=>
   simp only [];rw [b];refine ⟨rfl,a,e,?_⟩;simp only [callFunc,Sem.run_bind,run_program,Result.andThen_ok,hE.fn f fn d,hE.num f fn d,b,Option.isNone_some,Bool.false_eq_true,if_false,Sem.run_pure]
theorem Du (hr:HR ρ h.blk.get w) {fn fn':Fn} {captured args:List AV} {captured' n:List Value} (s:FnR ρ fn fn') (R:VL ρ captured captured') (I:VL ρ args n) :
  DW E ρ h w (invoke (.fn fn' captured'.toArray) n.toArray) (BB E fn captured args h):=by
 cases fn with
 |func f=>
  simp only [FnR] at s;subst s;simp only [BB,invoke];have:=Nk (w:=w) hE hr (f:=f) (I.append R);simpa using this
 |yield l=>
  obtain ⟨base,S,rfl⟩:=s;simp only [BB];exact ⟨rfl,base,n,S,I,rfl⟩
 |methodOf t name=>trivial
 |via t Q f ptr=>trivial
 |method name=>
  simp only [FnR] at s;subst s;simp only [BB];cases args with
  |nil=>trivial
  |cons a rest=>
   cases a<;>try trivial
   rename_i t v;simp only [];cases hi:E.ty.get t with
   |none=>trivial
   |some G=>
    simp only [];cases T:G.methods.toList.find? (fun m=>m.name==name) with
    |none=>trivial
    |some m=>
     simp only [];cases V:m.path.isEmpty with
     |false=>cases m.func<;>trivial
     |true=>
      cases J:m.func with
      |none=>trivial
      |some p=>
       obtain ⟨f,ptr⟩:=p;simp only [];obtain ⟨vv,o,rfl,K,z⟩:=I.cons_inv;cases K with
       |iface t a A W=>
        have B:∃k,E.P.types.size+Made.depth=k+1:=⟨E.P.types.size+99,rfl⟩
        obtain ⟨k,X⟩:=B;have C:m.path.toList=[]:=by simpa using V
        have L:G.methods.find? (fun m=>m.name==name)=some m:=by rw [←T];simp
        have H:(∀d,E.desc t=some d→((∃e,d=.pointer e)→ptr=true)→((¬∃e,d=.pointer e)→ptr=false)→(method (k+1) t A name).run E.P w=.ok (f,A) w):=by
         intro d M Y Z;have hu:=hE.run_und M w;simp only [method,Sem.run_bind,hE.run_info hi,Result.andThen_ok,L,C,follow,Sem.run_pure,J,receiverAt,hu]
         cases d<;>first
          | (have:=Y ⟨_,rfl⟩;subst this;simp [Place.get])
          | (have:=Z (by simp);subst this;simp [Place.get])
        have fin:(method (k+1) t A name).run E.P w=.ok (f,A) w→DW E ρ h w (invoke (.fn (.method name) captured'.toArray) (Value.iface t A::o).toArray) (Hg E f (v::rest) h):=by
         intro hq;have c:=Nk (w:=w) hE hr (f:=f) (VL.cons W z)
         have i:∀r,(callFunc f (A::o).toArray).run E.P w=r→(invoke (.fn (.method name) captured'.toArray) (Value.iface t A::o).toArray).run E.P w=r:=by
          intro r N;rw [←N];simp only [invoke,List.getElem?_toArray,List.getElem?_cons_zero,callMethod,Sem.run_bind,run_program,Result.andThen_ok,X,hq];simp
         unfold DW at c ⊢;cases j:Hg E f (v::rest) h with
         |val x h'=>
          rw [j] at c;intro hf;obtain ⟨σ,O,w',u,y⟩:=c hf;exact ⟨σ,O,w',u.imp (i _) (fun q=>⟨i _ q.1,q.2⟩),y⟩
         |enter g as h'=>rw [j] at c;obtain ⟨D,F,u,y⟩:=c;exact ⟨D,F,u,i _ y⟩
         |round l as h'=>rw [j] at c;obtain ⟨D,b,F,u,y,q3⟩:=c;exact ⟨D,b,F,u,y,i _ q3⟩
         |defer d h'=>rw [j] at c;obtain ⟨D,d',u,y⟩:=c;exact ⟨D,d',u,i _ y⟩
         |recover h'=>rw [j] at c;exact ⟨c.1,i _ c.2⟩
         |panic x h'=>rw [j] at c;obtain ⟨D,O,u,y⟩:=c;exact ⟨D,O,u,i _ y⟩
         |bad aa=>trivial
        cases M:E.desc t with
        |none=>trivial
        |some d=>
         cases d<;>cases ptr<;>first
          |trivial
          |exact fin (H _ M (by simp) (by simp))
end
end Go.AE
namespace Go.AE
variable [Gl:Ax]
variable [U:Unk]
theorem Hp {e:SB} (h:JO e=true):Ai U.V e=true:=by
 unfold JO at h;split at h
 ·rename_i a;exact Ap U.ok a
 ·cases h
theorem G2 {e:SB} (h:OR e=true):Ai U.V e=false:=by
 unfold OR at h;split at h
 ·rename_i a;exact Ap U.ok a
 ·cases h
theorem KD {i n:SE} (h:inR i n=true):0≤Ag U.V i∧Ag U.V i<Ag U.V n:=by
 unfold inR at h;obtain ⟨c,d⟩:=Ao h;have a:=G2 c;have b:=Hp d;rw [Ar,decide_eq_false_iff_not,Bp] at a;rw [Ar,decide_eq_true_eq] at b;omega
theorem H3 {ρ:Ren} {x i:SE} {j:Nat} {kd:Kd} {v:Value} (h:DV U.K ρ.imm kd v (Af U.V (.cell x i j))):VR ρ (If x i j kd) v:=by
 cases h with
 |int k n _ hr e=>
  have e:Ag U.V (.cell x i j)=n:=e;simp only [If];split
  ·have:=B5 ρ k (.cell x i j);rw [e] at this;exact this
  ·rename_i g;have o:=hr.resolve_left (by simpa using g)
   have:=B5 ρ k (.conv k (.cell x i j));rw [JG,e,Fl k n o.1 o.2] at this;exact this
 |bool b _ e=>
  have:=Fj ρ true (.cell x i j);have e:(Ai U.V (.cell x i j)==true)=b:=by unfold Ai;rw [e];cases b<;>rfl
  rw [e] at this;exact this
 |str s _ e=>
  have:=VR.ss (ρ:=ρ) (.cell x i j);have e:AK U.V (.cell x i j)=s:=e;rw [e] at this;exact this
 |nil e _ d l=>exact .dat e _ _ _ _ (.nil e _ d l)
 |empty e a c _ d l=>exact .dat e _ _ _ _ (.empty e a c _ d l)
 |slc e b off n c _ p arr g q r t d m f u=>exact .dat e _ _ _ _ (.slc e b off n c _ p arr g q r t d m f u)
omit U in
theorem kinds_size {E:Env} {ar:Bool} {n:Nat} {t:TypeId} {ks:List Kd} (h:Da ar E.desc E.szIs n t=some ks):E.szIs t ks.length=true∧∃m,n=m+1∧HX ar E.szIs (Da ar E.desc E.szIs m) (E.desc t)=some ks:=by
 cases n with
 |zero=>cases h
 |succ m=>
  simp only [Da] at h;split at h
  ·rename_i l hl;split at h
   ·rename_i hs;cases h;exact ⟨hs,m,rfl,hl⟩
   ·cases h
  ·cases h
omit U in
theorem Env.kinds_size {E:Env} {t:TypeId} {ks:List Kd} (h:E.kinds t=some ks):E.szIs t ks.length=true:=(AE.kinds_size h).1
omit U in
theorem DV.at {K:TypeId→Option (List Kd)} {M:Nat→Option (Array Value)} {e:TypeId} {a:Option Addr} {n cap:Nat} {d:D} (h:DV K M (.slice e) (.slice a n cap) d) (hn:0<n):∃b o,a=some ⟨b,o,none⟩∧n≤cap:=by
 cases h
 ·omega
 ·omega
 ·exact ⟨_,_,rfl,by assumption⟩
omit U in
theorem DV.row {K:TypeId→Option (List Kd)} {M:Nat→Option (Array Value)} {e:TypeId} {b o n cap i:Nat} {d:D} {ks:List Kd} (h:DV K M (.slice e) (.slice (some ⟨b,o,none⟩) n cap) d) (hk:K e=some ks) (hi:i<n) :
  ∃arr,M b=some arr∧o+n*ks.length≤arr.size∧d.rows.length=n∧∀j kd,ks[j]?=some kd→DV K M kd (arr.getD (o+i*ks.length+j) Go.undef) ((d.rows.getD i default).cells.getD j default):=by
 cases h with
 |empty=>omega
 |slc _ _ _ _ _ _ ks' arr hk' ha hn hc h1 hin hrow hv=>
  rw [hk] at hk';cases hk';exact ⟨arr,ha,hin,hn,fun j kd hj=>hv i j kd hi hj⟩
omit U in
theorem A8.row {K:TypeId→Option (List Kd)} {M:Nat→Option (Array Value)} {ks:List Kd} {cur:Array Value} {o i:Nat} {rows:List D} (h:A8 K M ks cur o rows) (hi:i<rows.length) :
  o+rows.length*ks.length≤cur.size∧∀j kd,ks[j]?=some kd→DV K M kd (cur.getD (o+i*ks.length+j) Go.undef) ((rows.getD i default).cells.getD j default):=
 ⟨h.1,fun j kd hj=>h.2.2 i j kd hi hj⟩
section
variable {E:Env} (hE:OK E) {ρ:Ren} {h:Aa} {w:World}
include hE
omit hE in
theorem Gy {ks:List Kd} {y i:SE} {arr:Array Value} {p:Nat} (hv:∀j kd,ks[j]?=some kd→DV U.K ρ.imm kd (arr.getD (p+j) Go.undef) (Af U.V (.cell y i j))) :
  ∀(n j:Nat) (l:List AV),FG y i ks j n=some l→(n=0∨j+n≤ks.length)∧l.length=n∧∀q a,l[q]?=some a→VR ρ a (arr.getD (p+j+q) Go.undef)
 |0,j,l,hl=>by
  simp only [FG,Option.some.injEq] at hl;subst hl;exact ⟨.inl rfl,rfl,fun q a hq=>by simp at hq⟩
 |n+1,j,l,hl=>by
  simp only [FG] at hl;split at hl
  ·rename_i k l' hk hl';cases hl;obtain ⟨h1,h2,h3⟩:=Gy hv n (j+1) l' hl';have hjl:j<ks.length:=(List.getElem?_eq_some_iff.1 hk).1;refine ⟨.inr (by omega),by simp [h2],fun q a hq=>?_⟩
   cases q with
   |zero=>
    simp only [List.getElem?_cons_zero,Option.some.injEq] at hq;subst hq;exact H3 (hv j k hk)
   |succ q=>
    simp only [List.getElem?_cons_succ] at hq;have:=h3 q a hq;rw [show p+j+(q+1)=p+(j+1)+q by omega]
    exact this
  ·cases hl
theorem JJ {t e:TypeId} {ks:List Kd} {y i:SE} {off b p:Nat} {u:Nat×Nat} {arr:Array Value} {a:AV} (z:w.heap[b]?=some (.cells arr e u)) (B:p+ks.length≤arr.size)
  (hv:∀j kd,ks[j]?=some kd→DV U.K ρ.imm kd (arr.getD (p+j) Go.undef) (Af U.V (.cell y i j))) (hl:Ji E t ks y i off=some a) :
  ∃v,(Instr.loadAt t (.pointer (some ⟨b,p+off,none⟩))).run E.P w=.ok v w∧VR ρ a v:=by
 unfold Ji at hl;split at hl
 ·rename_i d A;unfold Instr.loadAt loadVar;simp only [Instr.sureAddr,Sem.run_bind,Sem.run_pure,Result.andThen_ok,hE.run_isAgg A];split at hl
  ·rename_i c;split at hl
   ·rename_i l hc;cases hl;obtain ⟨h1,h2,h3⟩:=Gy hv _ _ _ hc;simp only [c,if_true,Sem.run_bind,hE.run_size A,Result.andThen_ok];by_cases g:E.size t=0
    ·rw [g];refine ⟨.agg #[],by simp [loadCells,loadCellsFrom],?_⟩
     have:l=[]:=by rw [g] at h2;exact List.eq_nil_of_length_eq_zero h2
     subst this;exact .agg [] [] rfl (by simp)
    ·have C:off+E.size t≤ks.length:=h1.resolve_left g;rw [Ay E.P w b (p+off) (E.size t) arr e u z (by omega)]
     simp only [Result.andThen_ok,Sem.run_pure];refine ⟨_,rfl,.agg _ _ (by simp;omega) ?_⟩
     intro q x v hq f;have r:q<E.size t:=by have:=(List.getElem?_eq_some_iff.1 hq).1;omega
     have:=h3 q x hq;rw [List.getElem?_take,if_pos r,List.getElem?_drop,Array.getElem?_toList] at f;have F:arr.getD (p+off+q) Go.undef=v:=by simp [Array.getD_eq_getD_getElem?,f]
     rw [F] at this;exact this
   ·cases hl
  ·rename_i c;split at hl
   ·rename_i k hk;cases hl;have G:off<ks.length:=(List.getElem?_eq_some_iff.1 hk).1;have s:p+off<arr.size:=by omega
    have hc:w.cell? ⟨b,p+off,none⟩=some (arr.getD (p+off) Go.undef):=by
     simp [World.cell?,z,Array.getD_eq_getD_getElem?,s]
    simp only [c,Bool.false_eq_true,if_false,run_load,hc];exact ⟨_,rfl,H3 (hv off k hk)⟩
   ·cases hl
 ·cases hl
theorem Sy (hr:HR ρ h.blk.get w) {t:TypeId} {x a:AV} {F:Value} (s:VR ρ x F) (hl:QA E t x h=some a) :
  ∃v,(Instr.loadAt t F).run E.P w=.ok v w∧VR ρ a v:=by
 unfold QA at hl;split at hl
 ·rename_i e y i off;split at hl
  ·rename_i ks hk;cases s with
   |dptr _ _ _ _ b o n cap ks' u hk' h0 hi ho=>
    have c:U.K e=some ks:=by rw [hE.kd,←hE.ke];exact hk
    rw [c] at hk';cases hk';obtain ⟨arr,L,N,a3,a4⟩:=u.row c hi;obtain ⟨G,H,z⟩:=hr.imm b arr L;have r:((Ag U.V i).toNat+1)*ks.length≤n*ks.length:=Nat.mul_le_mul_right _ hi;rw [Nat.add_mul,Nat.one_mul] at r;exact JJ hE (p:=o+(Ag U.V i).toNat*ks.length) z (by omega) a4 hl
  ·cases hl
 ·rename_i b es i off;split at hl
  ·rename_i e y O;split at hl
   ·rename_i ks hk;split at hl
    ·rename_i hc;obtain ⟨Q,R⟩:=Ao hc;have A:=As Q;subst A;obtain ⟨r0,I⟩:=KD R
     try rw [Ak,CK,←Ak] at I
     rw [Ak] at I;cases s with
     |aptr _ _ _ _ f B h0=>
      obtain ⟨ks',cur,G,H,J,S,b3,b4,T⟩:=hr.blk b f _ B O;have c:U.K e=some ks:=by rw [hE.kd,←hE.ke];exact hk
      rw [c] at J;cases J;have hi:(Ag U.V i).toNat<(Af U.V y).rows.length:=by omega
      obtain ⟨N,a4⟩:=T.row hi;have r:((Ag U.V i).toNat+1)*ks.length≤(Af U.V y).rows.length*ks.length:=Nat.mul_le_mul_right _ hi;rw [Nat.add_mul,Nat.one_mul] at r;exact JJ hE (p:=f.co+(Ag U.V i).toNat*ks.length) S (by omega) a4 hl
    ·cases hl
   ·cases hl
  ·cases hl
 ·rename_i g off;split at hl
  ·rename_i d u;split at hl
   ·rename_i C;split at hl
    ·rename_i l W;cases s;obtain ⟨arr,X,Y⟩:=hr.glob g l (by rw [←hE.gl];exact W)
     obtain ⟨v,Z,v2⟩:=Y off a hl;obtain ⟨G,H,z⟩:=hr.imm g arr X;refine ⟨v,?_,v2.vr⟩;have hc:w.cell? ⟨g,off,none⟩=some v:=by simp [World.cell?,z,Z]
     unfold Instr.loadAt loadVar;simp only [Instr.sureAddr,Sem.run_bind,Sem.run_pure,Result.andThen_ok,hE.run_isAgg u,C,Bool.false_eq_true,if_false,run_load,hc]
    ·cases hl
   ·cases hl
  ·cases hl
 ·exact Oa hE hr s hl
theorem KP {t:TypeId} {x i a:AV} {X Y:Value} (G:VR ρ x X) (hi:VR ρ i Y) (hl:EU E t x i=some a) :
  ∃v,(Instr.indexAt t X Y).run E.P w=.ok v w∧VR ρ a v:=by
 unfold EU at hl;split at hl
 ·rename_i L y;split at hl
  ·rename_i e k s u C;split at hl
   ·rename_i Z kr hk;split at hl
    ·rename_i hc;cases hl;obtain ⟨z,A⟩:=Ao hc;have he:=As z;subst he;obtain ⟨O,H⟩:=KD A
     try rw [Ak,CK,←Ak] at H
     rw [Ak] at H;have F:=Cj hi C;subst F;have B:U.K e=some (Z::kr):=by rw [hE.kd,←hE.ke];exact hk
     cases G with
     |dat _ _ ad n cap r=>
      obtain ⟨_,_,_,q1,q2⟩:=r.slice_inv;cases q1;rw [q2] at H;obtain ⟨b,o,rfl,I⟩:=r.at (by omega)
      refine ⟨.pointer (some ⟨b,o+(Ag U.V s).toNat*(Z::kr).length+0,none⟩),?_,.dptr e y s 0 b o n cap _ r B O (by omega) (by simp)⟩
      have c:0≤Ag U.V s∧Ag U.V s<n:=by omega
      simp [Instr.indexAt,asIntOf,hE.run_und u,hE.run_szIs (Env.kinds_size hk),c,BL]
    ·cases hl
   ·cases hl
  ·cases hl
 ·rename_i b J n nl;split at hl
  ·rename_i e k s u C;split at hl
   ·rename_i hc;cases hl;obtain ⟨z,A⟩:=Ao hc;obtain ⟨O,H⟩:=KD A
    try rw [Ak,CK,←Ak] at H
    have F:=Cj hi C;subst F;cases G with
    |asl _ _ _ _ cap f Q h0 I hz R=>
     refine ⟨.pointer (some ⟨f.cb,f.co+(Ag U.V s).toNat*J+0,none⟩),?_,.aptr b J s 0 f Q O⟩;have c:0≤Ag U.V s∧Ag U.V s<((Ag U.V n).toNat:Int):=by omega
     generalize (Ag U.V n).toNat=N at c;simp [Instr.indexAt,asIntOf,hE.run_und u,hE.run_szIs z,c,BL]
    |aslEnd _ _ _ _ ad h0 R=>omega
   ·cases hl
  ·cases hl
 ·rename_i b J S off;split at hl
  ·rename_i len e n u hn;split at hl
   ·rename_i hc;cases hl;obtain ⟨z,A⟩:=Ao hc;obtain ⟨k,rfl⟩:=BH (Ha hi) hn;have c:=F1 z;cases G with
    |aptr _ _ _ _ f Q h0=>
     have:=VR.aptr (ρ:=ρ) b J S (off+n*E.size e) f Q h0;rw [←Nat.add_assoc] at this;refine ⟨_,?_,this⟩;simp [Instr.indexAt,asIntOf,hE.run_und u,hE.run_has A,Instr.sureAddr,c,BL]
   ·cases hl
  ·cases hl
 ·rename_i L y S off;split at hl
  ·rename_i len e n ks u hn hk;split at hl
   ·rename_i hc;cases hl;obtain ⟨c0,c3⟩:=Ao hc;obtain ⟨z,A⟩:=Ao c0;obtain ⟨k,rfl⟩:=BH (Ha hi) hn;have c:=F1 z;cases G with
    |dptr _ _ _ _ b o n' cap ks' r hk' h0 T ho=>
     have B:U.K L=some ks:=by rw [hE.kd,←hE.ke];exact hk
     rw [B] at hk';cases hk';have:=VR.dptr (ρ:=ρ) L y S (off+n*E.size e) b o n' cap ks r B h0 T (F1 c3);rw [←Nat.add_assoc] at this;refine ⟨_,?_,this⟩;simp [Instr.indexAt,asIntOf,hE.run_und u,hE.run_has A,Instr.sureAddr,c,BL]
   ·cases hl
  ·cases hl
 ·rename_i g off;split at hl
  ·rename_i len e n u hn;split at hl
   ·rename_i W;cases hl;cases G;obtain ⟨k,rfl⟩:=BH hi hn;obtain ⟨z,A⟩:=Ao W;have c:=F1 z;refine ⟨.pointer (some ⟨g,off+n*E.size e,none⟩),?_,.glob g _⟩;simp [Instr.indexAt,asIntOf,hE.run_und u,hE.run_has A,Instr.sureAddr,c,BL]
   ·cases hl
  ·cases hl
 ·exact KL hE G (Ha hi) hl
theorem Iy {t:TypeId} {g:Array Field} {f:Nat} {c:Field} (u:E.desc t=some (.struct g)) (v:g.toList[f]?=some c) {n:Nat} (hs:E.size c.type=n+1) (b o:Nat) :
  (Instr.fieldAt t (.pointer (some ⟨b,o,none⟩)) f).run E.P w=.ok (.pointer (some ⟨b,o+c.offset,none⟩)) w:=by
 have r:g[f]?=some c:=by simpa using v
 have s:∀w,(sizeOf c.type).run E.P w=.ok (n+1) w:=by
  intro w;unfold Env.size at hs;cases hi:E.ty.get c.type with
  |none=>simp [hi] at hs
  |some i=>simp only [hi] at hs;rw [hE.run_sz hi,hs]
 simp [Instr.fieldAt,hE.run_und u,r,Instr.sureAddr,fieldPlace,s,BL]
theorem KS {t:TypeId} {x a:AV} {f:Nat} {C:Value} (s:VR ρ x C) (hl:ED E t x f=some a) :
  ∃v,(Instr.fieldAt t C f).run E.P w=.ok v w∧VR ρ a v:=by
 unfold ED at hl;split at hl
 ·rename_i e y i off;split at hl
  ·rename_i F ks u hk;split at hl
   ·rename_i g z;split at hl
    ·rename_i n hs A;cases hl;cases s with
     |dptr _ _ _ _ b o G cap ks' B hk' h0 hi J=>
      have r:U.K e=some ks:=by rw [hE.kd,←hE.ke];exact hk
      rw [r] at hk';cases hk';have:=VR.dptr (ρ:=ρ) e y i (off+g.offset) b o G cap ks B r h0 hi (F1 A);rw [←Nat.add_assoc] at this;exact ⟨_,Iy hE u z hs b _,this⟩
    ·cases hl
   ·cases hl
  ·cases hl
 ·rename_i b H i off;split at hl
  ·rename_i F u;split at hl
   ·rename_i g z;split at hl
    ·cases hl
    ·rename_i n hs;cases hl;cases s with
     |aptr _ _ _ _ c A h0=>
      have:=VR.aptr (ρ:=ρ) b H i (off+g.offset) c A h0;rw [←Nat.add_assoc] at this
      obtain ⟨m,I⟩:∃m,E.size g.type=m+1:=by
       cases hq:E.size g.type with
       |zero=>exact absurd hq hs
       |succ m=>exact ⟨m,rfl⟩
      exact ⟨_,Iy hE u z I c.cb _,this⟩
   ·cases hl
  ·cases hl
 ·exact KN hE s hl
end
end Go.AE
namespace Go.AE
variable [Gl:Ax]
variable [U:Unk]
omit U in
theorem fv {a:AV} (h:a.isTop=false):a≠.top:=by rintro rfl;cases h
theorem Dj:∀(l:List UInt8),CY l.length (Au l)=l
 |[]=>rfl
 |b::r=>by
  have h:=Ds b r;simp only [List.length_cons,CY,h.1,h.2,Dj r]
  congr 1
  simp
theorem Ja {o:Ren} {kd:Kd} {a:AV} {v:Value} {x:SE} (h:VR o a v) (d:V4 kd a=some x):DV U.K o.imm kd v (Af U.V x):=by
 unfold V4 at d;split at d
 ·rename_i k g n;split at d
  ·rename_i f;cases d;cases h;obtain ⟨i,j⟩:=Ao f;have m:k=g:=by simpa using i
   subst m;refine .int k n _ ?_ rfl;simpa using j
  ·cases d
 ·rename_i k g e;split at d
  ·rename_i f;cases d;cases h;obtain ⟨i,j⟩:=Ao f;have m:k=g:=by simpa using i
   subst m;refine .int k _ _ ?_ rfl;rcases Bool.or_eq_true_iff.1 j with c|c
   ·exact .inl (by simpa using c)
   ·right;have p:=E7 U.ok x;unfold MQ at c;split at c
    ·rename_i l h q r;simp only [Bool.and_eq_true,decide_eq_true_eq] at c;have s:=p.1 l q;have t:=p.2 h r;omega
    ·cases c
  ·cases d
 ·rename_i b;cases d;cases h;exact .bool b _ rfl
 ·rename_i pos e;cases d;cases h;refine .bool _ _ ?_;cases pos with
  |true=>show (Af U.V e).toBool=_;unfold Ai;cases (Af U.V e).toBool<;>rfl
  |false=>show (!(Af U.V e).toBool)=_;unfold Ai;cases (Af U.V e).toBool<;>rfl
 ·rename_i l b;cases d;cases h;refine .str _ _ ?_;show (⟨(CY _ _).toArray⟩:ByteArray)=_;rw [Dj]
 ·cases d;cases h;exact .str _ _ rfl
 ·rename_i e u y;split at d
  ·rename_i f;cases d;have:=As f;subst this;cases h
   assumption
  ·cases d
 ·cases d;cases h;exact .nil _ _ rfl rfl
 ·cases d
omit U in
theorem List.getD_modify (l:List D) (i:Nat) (f:D→D) (q:Nat) (hq:q<l.length):(l.modify i f).getD q default=if i=q then f (l.getD q default) else l.getD q default:=by
 simp only [List.getD_eq_getElem?_getD,List.getElem?_modify];split
 ·rename_i h;subst h;simp [hq]
 ·simp [hq]
theorem A8.upd {ρ:Ren} {ks:List Kd} {t cur':Array Value} {o j:Nat} {y i x:SE} {kd:Kd} {v:Value} (h:A8 U.K ρ.imm ks t o (Af U.V y).rows) (hi:(Ag U.V i).toNat<(Af U.V y).rows.length) (hj:ks[j]?=some kd)
  (hd:DV U.K ρ.imm kd v (Af U.V x)) (hs:cur'.size=t.size) (hg:∀p,cur'[p]?=if p=o+(Ag U.V i).toNat*ks.length+j then some v else t[p]?):A8 U.K ρ.imm ks cur' o (Af U.V (.upd y i j x)).rows:=by
 have er:(Af U.V (.upd y i j x)).rows=(Af U.V y).rows.modify (Ag U.V i).toNat fun r=>.row (r.cells.set j (Af U.V x)):=rfl
 have el:(Af U.V (.upd y i j x)).rows.length=(Af U.V y).rows.length:=by rw [er];simp
 obtain ⟨h1,h2,h3⟩:=h;have ar:j<ks.length:=(List.getElem?_eq_some_iff.1 hj).1;refine ⟨by rw [el,hs];exact h1,fun q hq=>?_,fun q c al hq hc=>?_⟩
 ·rw [el] at hq;rw [er,List.getD_modify _ _ _ _ hq];split
  ·simp only [D.cells,List.length_set];exact h2 q hq
  ·exact h2 q hq
 ·rw [el] at hq;have an:c<ks.length:=(List.getElem?_eq_some_iff.1 hc).1;have C:=h3 q c al hq hc;rw [er,List.getD_modify _ _ _ _ hq];by_cases J:(Ag U.V i).toNat=q
  ·rw [if_pos J];simp only [D.cells];by_cases ab:c=j
   ·subst ab;rw [hj] at hc;cases hc;have e1:cur'.getD (o+q*ks.length+c) Go.undef=v:=by simp [Array.getD_eq_getD_getElem?,hg,J]
    have e2:((((Af U.V y).rows.getD q default).cells.set c (Af U.V x)).getD c default)=Af U.V x:=by
     have:=h2 q hq;generalize ((Af U.V y).rows.getD q default).cells=cl at this ⊢;simp [List.getD_eq_getElem?_getD,this,an]
    rw [e1];simp only [D.cells] at e2;rw [e2];exact hd
   ·have e1:cur'.getD (o+q*ks.length+c) Go.undef=t.getD (o+q*ks.length+c) Go.undef:=by
     simp only [Array.getD_eq_getD_getElem?,hg,J];rw [if_neg (by omega)]
    have e2:((((Af U.V y).rows.getD q default).cells.set j (Af U.V x)).getD c default)=((Af U.V y).rows.getD q default).cells.getD c default:=by
     simp only [List.getD_eq_getElem?_getD];rw [List.getElem?_set_ne (fun e=>ab e.symm)]
    rw [e1];simp only [D.cells] at e2 C ⊢;rw [e2];exact C
  ·rw [if_neg J]
   have e1:cur'.getD (o+q*ks.length+c) Go.undef=t.getD (o+q*ks.length+c) Go.undef:=by
    simp only [Array.getD_eq_getD_getElem?,hg];rw [if_neg ?_];intro e;have I:(Ag U.V i).toNat<q∨q<(Ag U.V i).toNat:=by omega
    rcases I with I|I
    ·have:=Nat.mul_le_mul_right ks.length I;rw [Nat.succ_mul] at this;omega
    ·have:=Nat.mul_le_mul_right ks.length I;rw [Nat.succ_mul] at this;omega
   rw [e1];exact C
theorem Lc {s:Ren} {b:List Kd} {o:Nat} {i:SE}:∀(l:List AV) (m:List Value) (j:Nat) (y n:SE) (d cur':Array Value),A8 U.K s.imm b d o (Af U.V y).rows→(Ag U.V i).toNat<(Af U.V y).rows.length→Cx i b y j l=some n→VL s l m→
  cur'.size=d.size→(∀p,cur'[p]?=if o+(Ag U.V i).toNat*b.length+j≤p∧p<o+(Ag U.V i).toNat*b.length+j+m.length then m[p-(o+(Ag U.V i).toNat*b.length+j)]? else d[p]?)→
  A8 U.K s.imm b cur' o (Af U.V n).rows
 |[],m,j,y,n,d,cur',h,hi,g,t,z,u=>by
  simp only [Cx,Option.some.injEq] at g;subst g;have:=t.nil_inv;subst this
  have:cur'=d:=by
   apply Array.ext_getElem?;intro p;rw [u,if_neg (by simp)]
  rw [this];exact h
 |a::r,m,j,y,n,d,cur',h,hi,g,t,z,u=>by
  obtain ⟨v,vr,rfl,B,hr⟩:=t.cons_inv;simp only [Cx] at g;split at g
  ·rename_i k A;split at g
   ·rename_i x C;have E:=Ja B C;have F:j<b.length:=(List.getElem?_eq_some_iff.1 A).1;have w:((Ag U.V i).toNat+1)*b.length≤(Af U.V y).rows.length*b.length:=Nat.mul_le_mul_right _ hi;rw [Nat.add_mul,Nat.one_mul] at w;have G:=h.1
    have H:=h.upd (cur':=d.setIfInBounds (o+(Ag U.V i).toNat*b.length+j) v) hi A E (by simp) (fun p=>by
     rw [Array.getElem?_setIfInBounds];by_cases e:o+(Ag U.V i).toNat*b.length+j=p
     ·rw [if_pos e,if_pos e.symm,if_pos (by omega)]
     ·rw [if_neg e,if_neg (fun q=>e q.symm)])
    have I:(Af U.V (.upd y i j x)).rows.length=(Af U.V y).rows.length:=by
     have J:(Af U.V (.upd y i j x)).rows=(Af U.V y).rows.modify (Ag U.V i).toNat fun r=>.row (r.cells.set j (Af U.V x)):=rfl
     rw [J];simp
    refine Lc r vr (j+1) _ n _ cur' H (by rw [I];exact hi) g hr (by rw [z];simp) (fun p=>?_)
    rw [u];simp only [List.length_cons];by_cases e:p=o+(Ag U.V i).toNat*b.length+j
    ·subst e;rw [if_pos (by omega),if_neg (by omega),Array.getElem?_setIfInBounds_self]
     rw [if_pos (by omega)]
     simp
    ·by_cases c:o+(Ag U.V i).toNat*b.length+j≤p∧p<o+(Ag U.V i).toNat*b.length+j+(vr.length+1)
     ·rw [if_pos c,if_pos (by omega)]
      rw [show p-(o+(Ag U.V i).toNat*b.length+j)=(p-(o+(Ag U.V i).toNat*b.length+(j+1)))+1 by omega]
      simp
     ·rw [if_neg c,if_neg (by omega),Array.getElem?_setIfInBounds_ne (fun q=>e q.symm)]
   ·cases g
  ·cases g
section
variable {E:Env} (hE:OK E) {ρ:Ren} {h:Aa} {w:World}
include hE
omit hE in
theorem Kr {i:SE} {ks:List Kd}:∀(l:List AV) (j:Nat) (y y':SE),Cx i ks y j l=some y'→j+l.length≤ks.length∨l=[]
 |[],_,_,_,_=>.inr rfl
 |a::r,j,y,y',hu=>by
  simp only [Cx] at hu;split at hu
  ·rename_i k hk;split at hu
   ·rename_i x hx;have hjl:j<ks.length:=(List.getElem?_eq_some_iff.1 hk).1;rcases Kr r (j+1) _ _ hu with h|h
    ·left;simp only [List.length_cons];omega
    ·left;subst h;simp;omega
   ·cases hu
  ·cases hu
omit hE in
theorem Fe {i:SE} {ks:List Kd}:∀(l:List AV) (vs:List Value) (j:Nat) (y y':SE),Cx i ks y j l=some y'→VL ρ l vs→∀v∈vs,v.oneCell'=true
 |[],vs,_,_,_,_,hv,v,hm=>by have:=hv.nil_inv;subst this;cases hm
 |a::r,vs,j,y,y',hu,hv,v,hm=>by
  obtain ⟨v0,vr,rfl,ha,hr⟩:=hv.cons_inv;simp only [Cx] at hu;split at hu
  ·rename_i k hk;split at hu
   ·rename_i x hx;rcases List.mem_cons.1 hm with rfl|hm
    ·have:=Ja ha hx;cases this<;>rfl
    ·exact Fe r vr (j+1) _ _ hu hr v hm
   ·cases hu
  ·cases hu
theorem HM (hr:HR ρ h.blk.get w) {t:TypeId} {x a:AV} {M v:Value} {h':Aa} (hx:VR ρ x M) (ha:VR ρ a v) (n:C8 E t x a h=some h') :
  ∃g,(Instr.storeAt t M v).run E.P w=.ok () g∧HR ρ h'.blk.get g∧Ext ρ ρ h h' w g:=by
 unfold C8 at n;split at n
 ·rename_i b es i off;split at n
  ·rename_i e y N;split at n
   ·rename_i ks hk;split at n
    ·rename_i Y;split at n
     ·rename_i y' hu;cases n;obtain ⟨z,Z⟩:=Ao Y;obtain ⟨F,c3⟩:=Ao z;obtain ⟨c1,c2⟩:=Ao F;have G:=As c1;subst G;obtain ⟨r0,O⟩:=KD c2
      try rw [Ak,CK,←Ak] at O
      rw [Ak] at O;have p:=ha.cells (fv (by simpa using Z))
      cases hx with
      |aptr _ _ _ _ c A h0=>
       obtain ⟨aa,m,H,I,Q,R,S,T,W⟩:=hr.blk b c _ A N;have B:U.K e=some ks:=by rw [hE.kd,←hE.ke];exact hk
       rw [B] at Q;cases Q;have hi:(Ag U.V i).toNat<(Af U.V y).rows.length:=by omega
       have J:((Ag U.V i).toNat+1)*ks.length≤(Af U.V y).rows.length*ks.length:=Nat.mul_le_mul_right _ hi;rw [Nat.add_mul,Nat.one_mul] at J;have ab:=W.1;have s:a.cells.length=v.cells.toList.length:=p.1
       have o:c.co+(Ag U.V i).toNat*ks.length+off+0+v.cells.toList.length≤m.size∨v.cells.toList=[]:=by
        rcases Kr _ _ _ _ hu with q|q
        ·left;omega
        ·right;rw [q] at s;exact List.eq_nil_of_length_eq_zero s.symm
       have L:∃g d,(storeCells ⟨c.cb,c.co+(Ag U.V i).toNat*ks.length+off,none⟩ v.cells.toList 0).run E.P w=.ok () g∧g.heap[c.cb]?=some (.cells d H I)∧d.size=m.size∧
         (∀j,d[j]?=if c.co+(Ag U.V i).toNat*ks.length+off≤j∧j<c.co+(Ag U.V i).toNat*ks.length+off+v.cells.toList.length then v.cells.toList[j-(c.co+(Ag U.V i).toNat*ks.length+off)]? else m[j]?)∧
         g.heap.size=w.heap.size∧(∀k,k≠c.cb→g.heap[k]?=w.heap[k]?)∧g.os=w.os∧g.tape=w.tape∧g.output=w.output:=by
        rcases o with o|C
        ·exact BP E.P c.cb (c.co+(Ag U.V i).toNat*ks.length+off) H I v.cells.toList 0 w m R o (by rw [S];exact T) (Fe _ _ _ _ _ hu p)
        ·rw [C];exact ⟨w,m,by simp [storeCells],R,rfl,fun j=>by rw [if_neg (by simp)],rfl,fun _ _=>rfl,rfl,rfl,rfl⟩
       obtain ⟨g,d,q1,q2,X,q4,q5,q6,q7,q8,q9⟩:=L;have u:=Lc a.cells v.cells.toList off y y' m d W hi hu p X q4;obtain ⟨p1,p2⟩:=hr.put A (by rw [N];exact Option.some_ne_none _) (.arr e y') g ⟨ks,d,H,I,B,q2,by rw [X,S],T,u⟩ q5 q6 q7 q8 q9
       refine ⟨g,?_,p1,p2⟩;unfold Instr.storeAt storeVar;have e:v.cells.size=a.cells.length:=by have:=p.1;simp at this;omega
       simp [Instr.sureAddr,hE.run_szIs c3,e,q1]
     ·cases n
    ·cases n
   ·cases n
  ·cases n
 ·exact Ro hE hr hx ha n
end
end Go.AE
namespace Go.AE
variable [Gl:Ax]
variable [U:Unk]
def A7 (K:TypeId→Option (List Kd)) (M:Nat→Option (Array Value)) (ks:List Kd) (a:List Value) (rows:List D):Prop:=
 a.length=rows.length*ks.length∧(∀i,i<rows.length→(rows.getD i default).cells.length=ks.length)∧
  ∀i j kd,i<rows.length→ks[j]?=some kd→DV K M kd (a.getD (i*ks.length+j) Go.undef) ((rows.getD i default).cells.getD j default)
section
variable {K:TypeId→Option (List Kd)} {M:Nat→Option (Array Value)} {ks:List Kd}
omit U
theorem A7.nil:A7 K M ks [] []:=⟨by simp,fun i h=>by simp at h,fun i j kd h=>by simp at h⟩
theorem Ng {l m:List D} {i:Nat}:(l++m).getD i default=if i<l.length then l.getD i default else m.getD (i-l.length) default:=by
 simp only [List.getD_eq_getElem?_getD];by_cases h:i<l.length
 ·rw [if_pos h,List.getElem?_append_left h]
 ·rw [if_neg h,List.getElem?_append_right (by omega)]
theorem RJ {l m:List Value} {i:Nat}:(l++m).getD i Go.undef=if i<l.length then l.getD i Go.undef else m.getD (i-l.length) Go.undef:=by
 simp only [List.getD_eq_getElem?_getD];by_cases h:i<l.length
 ·rw [if_pos h,List.getElem?_append_left h]
 ·rw [if_neg h,List.getElem?_append_right (by omega)]
theorem Oy {i n l j:Nat} (hi:i<n) (a:j<l):i*l+j<n*l:=by
 have:=Nat.mul_le_mul_right l hi;rw [Nat.succ_mul] at this;omega
theorem A7.append {C I:List Value} {r s:List D} (h:A7 K M ks C r) (k:A7 K M ks I s):A7 K M ks (C++I) (r++s):=by
 refine ⟨by simp [h.1,k.1,Nat.add_mul],fun i hi=>?_,fun i j kd hi l=>?_⟩
 ·rw [Ng];simp only [List.length_append] at hi;split
  ·rename_i c;exact h.2.1 i c
  ·exact k.2.1 _ (by omega)
 ·have t:j<ks.length:=(List.getElem?_eq_some_iff.1 l).1;simp only [List.length_append] at hi;rw [Ng,RJ,h.1];by_cases c:i<r.length
  ·rw [if_pos c,if_pos (Oy c t)];exact h.2.2 i j kd c l
  ·rw [if_neg c,if_neg (by
    have:=Nat.mul_le_mul_right ks.length (Nat.le_of_not_lt c);omega)]
   have e:i*ks.length+j-r.length*ks.length=(i-r.length)*ks.length+j:=by
    have:=Nat.mul_le_mul_right ks.length (Nat.le_of_not_lt c);rw [Nat.sub_mul];omega
   rw [e];exact k.2.2 _ j kd (by omega) l
theorem A7.at {r:List Value} {rows:List D} {l:Array Value} {off:Nat} (h:A7 K M ks r rows) (I:off+r.length≤l.size) (J:∀q,q<r.length→l[off+q]?=r[q]?):A8 K M ks l off rows:=by
 refine ⟨by rw [←h.1];exact I,h.2.1,fun i j kd hi C=>?_⟩
 have t:j<ks.length:=(List.getElem?_eq_some_iff.1 C).1;have:=h.2.2 i j kd hi C;have hq:i*ks.length+j<r.length:=by rw [h.1];exact Oy hi t
 have e:l.getD (off+i*ks.length+j) Go.undef=r.getD (i*ks.length+j) Go.undef:=by
  simp only [Array.getD_eq_getD_getElem?,List.getD_eq_getElem?_getD];rw [Nat.add_assoc,J _ hq]
 rw [e];exact this
theorem A8.vals {rows:List D} {l:Array Value} {off:Nat} (h:A8 K M ks l off rows):A7 K M ks ((l.toList.drop off).take (rows.length*ks.length)) rows:=by
 refine ⟨by have:=h.1;simp;omega,h.2.1,fun i j kd hi t=>?_⟩
 have r:j<ks.length:=(List.getElem?_eq_some_iff.1 t).1;have:=h.2.2 i j kd hi t
 have e:((l.toList.drop off).take (rows.length*ks.length)).getD (i*ks.length+j) Go.undef=l.getD (off+i*ks.length+j) Go.undef:=by
  simp only [Array.getD_eq_getD_getElem?,List.getD_eq_getElem?_getD];rw [List.getElem?_take,if_pos (Oy hi r),List.getElem?_drop,Array.getElem?_toList,Nat.add_assoc]
 rw [e];exact this
theorem A7.mono {N:Nat→Option (Array Value)} (l:∀k a,M k=some a→N k=some a) {r:List Value} {rows:List D} (h:A7 K M ks r rows):A7 K N ks r rows:=
 ⟨h.1,h.2.1,fun i j kd a b=>(h.2.2 i j kd a b).mono l⟩
end
section
variable {ρ:Ren}
theorem Eh:∀(b:List Kd) (l:List AV) (d:List Value) (r:SE),Fi b l=some r→VL ρ l d→(Af U.V r).cells.length=b.length∧d.length=b.length∧∀j kd,b[j]?=some kd→DV U.K ρ.imm kd (d.getD j Go.undef) ((Af U.V r).cells.getD j default)
 |[],[],d,r,h,e=>by
  simp only [Fi,Option.some.injEq] at h;subst h;have:=e.nil_inv;subst this;exact ⟨rfl,rfl,fun j kd c=>by simp at c⟩
 |k::b,a::l,d,r,h,e=>by
  obtain ⟨v,vr,rfl,f,hr⟩:=e.cons_inv;simp only [Fi] at h;split at h
  ·rename_i x y g i;cases h;obtain ⟨m,n,o⟩:=Eh b l vr y i hr;have p:(Af U.V (.rcons x y)).cells=Af U.V x::(Af U.V y).cells:=rfl;rw [p];refine ⟨by simp [m],by simp [n],fun j kd c=>?_⟩
   cases j with
   |zero=>
    simp only [List.getElem?_cons_zero,Option.some.injEq] at c;subst c;exact Ja f g
   |succ j=>
    simp only [List.getElem?_cons_succ] at c;exact o j kd c
  ·cases h
 |[],_::_,_,_,h,_=>by cases h
 |_::_,[],_,_,h,_=>by cases h
theorem A7.one {ks:List Kd} {l:List Value} {r:D} (t:r.cells.length=ks.length) (C:l.length=ks.length) (I:∀j kd,ks[j]?=some kd→DV U.K ρ.imm kd (l.getD j Go.undef) (r.cells.getD j default)):A7 U.K ρ.imm ks l [r]:=by
 refine ⟨by simp [C],fun i hi=>?_,fun i j kd hi J=>?_⟩
 ·have:i=0:=by simpa using hi
  subst this;exact t
 ·have:i=0:=by simpa using hi
  subst this;simpa using I j kd J
theorem Ek {ks:List Kd}:∀(n:Nat) (y b:SE) (l:List AV) (a:List Value),C9 ks n y l=some b→VL ρ l a→∃c:List D,c.length=n∧(Af U.V b).rows=(Af U.V y).rows++c∧A7 U.K ρ.imm ks a c
 |0,y,b,[],a,h,d=>by
  simp only [C9,Option.some.injEq] at h;subst h;have:=d.nil_inv;subst this;exact ⟨[],rfl,by simp,.nil⟩
 |0,y,b,_::_,a,h,d=>by cases h
 |n+1,y,b,l,a,h,d=>by
  simp only [C9] at h;split at h
  ·rename_i r hr;obtain ⟨e,f,g⟩:=Eh ks _ (a.take ks.length) r hr (d.take _);obtain ⟨c,i,j,k⟩:=Ek n _ b _ (a.drop ks.length) h (d.drop _);refine ⟨Af U.V r::c,by simp [i],?_,?_⟩
   ·rw [j];show ((Af U.V y).rows++[Af U.V r])++c=_;simp
   ·have:=(A7.one e f g).append k;simpa using this
  ·cases h
variable {E:Env} (hE:OK E) {h:Aa} {w:World}
include hE
theorem HQ {e:TypeId} {ks:List Kd} {b off n k:Nat} {l:List AV} {s:Value} (hr:HR ρ h.blk.get w) (A:VR ρ (.slice b off n k) s) (f:B3 h b off (n*k)=some l) :
  ∃j,VL ρ l j∧j.length=n*k∧((n=0∧∃a,s=.slice (some a) 0 0)∨∃d g t m i p c,ρ b=some d∧h.blk.get b=some (.cells p c)∧s=.slice (some ⟨d.cb,d.co+off,none⟩) n i∧n≤i∧d.co+off+i*k≤d.csz∧w.heap[d.cb]?=some (.cells g t m)∧g.size=d.csz∧(m.1=m.2∨d.csz≤m.1)∧
   ∀q,q<j.length→g[d.co+off+q]?=j[q]?):=by
 cases A with
 |slice _ _ _ _ i d u B C=>
  unfold B3 at f;split at f
  ·rename_i p c r;split at f
   ·rename_i v;obtain ⟨j,x,J,D⟩:=hr.loadCells E.P u r (Ct v) f;obtain ⟨g,t,m,y,F,K,G,L⟩:=hr.blk b d _ u r;have o:j.length=n*k:=by rw [←x.1];exact (T.range_spec c _ _ _ f).1
    refine ⟨j,x,o,.inr ⟨d,g,t,m,i,p,c,u,r,rfl,B,C,y,F,G,fun q H=>?_⟩⟩
    have z:j[q]?=some j[q]:=by simp [H]
    have:=D q _ z;rw [z];simpa [World.cell?,y] using this
   ·cases f
  ·cases f
 |sliceEnd _ _ _ a=>
  unfold B3 at f;split at f
  ·rename_i p c r;split at f
   ·have I:0*k=0:=by simp
    rw [I] at f;simp only [T.range,Option.some.injEq] at f;subst f;exact ⟨[],VL.nil ρ,by simp,.inl ⟨rfl,a,rfl⟩⟩
   ·cases f
  ·cases f
theorem VB (hr:HR ρ h.blk.get w) {Y e C:TypeId} {s:TypeInfo} {ks:List Kd} (hk:E.kinds e=some ks) (t:ks.length=s.size) (p:E.P.underlying Y=some (.slice C)) {y Z m:SE} {x:AV} {xv:Value} (u:VR ρ x xv) (f:US e ks h y x=some (Z,m)) :
  ∃D nv,(Af U.V Z).rows=(Af U.V y).rows++D∧Ag U.V m=(D.length:Nat)∧A7 U.K ρ.imm ks nv D∧So E.P w Y e s xv D.length nv:=by
 have F:U.K e=some ks:=by rw [hE.kd,←hE.ke];exact hk
 have k:∀a:Option Addr,So E.P w Y e s (.slice a 0 0) 0 []:=by
  intro a;refine .cells _ p (.inl ⟨C,rfl⟩) (by simp [Builtin.lenOf]) (fun v _=>?_)
  cases a with
  |none=>simp [Builtin.firstCells]
  |some a=>simp [Builtin.firstCells,loadCells,loadCellsFrom]
 unfold US at f;split at f
 ·cases f;cases u;exact ⟨[],[],by simp,rfl,.nil,k none⟩
 ·cases f;cases u;exact ⟨[],[],by simp,rfl,.nil,k _⟩
 ·rename_i e1 T;split at f
  ·rename_i hc;cases f;have:=As hc;subst this;cases u with
   |dat _ _ a n c W=>
    obtain ⟨_,_,_,X,q2⟩:=W.slice_inv;cases X;have G:(Af U.V (.cat y T)).rows=(Af U.V y).rows++(Af U.V T).rows:=rfl;by_cases hn:n=0
    ·subst hn;have H:(Af U.V T).rows=[]:=List.eq_nil_of_length_eq_zero q2;refine ⟨[],[],by rw [G,H],by rw [Ak,H],.nil,?_⟩
     refine .cells _ p (.inl ⟨C,rfl⟩) (by simp [Builtin.lenOf]) (fun v _=>?_)
     cases a with
     |none=>simp [Builtin.firstCells]
     |some a=>simp [Builtin.firstCells,loadCells,loadCellsFrom]
    ·obtain ⟨b,o,rfl,I⟩:=W.at (by omega)
     generalize J:Af U.V T=d at W;cases W with
     |slc _ _ _ _ _ _ aa arr L ha M ae h1 N O hv=>
      rw [F] at L;cases L;obtain ⟨Q,R,hw⟩:=hr.imm b arr ha;have ab:A8 U.K ρ.imm ks arr o d.rows:=⟨by rw [M];exact N,fun i hi=>O i (by omega),fun i j kd hi hj=>hv i j kd (by omega) hj⟩
      refine ⟨d.rows,_,by rw [G,J],by rw [Ak,J],ab.vals,?_⟩
      rw [M];refine .cells _ p (.inl ⟨C,rfl⟩) (by simp [Builtin.lenOf]) (fun v r=>?_)
      simp only [Builtin.firstCells,←t];exact Ay E.P v b o (n*ks.length) arr Q R (by rw [r];exact hw) N
     |empty=>omega
  ·cases f
 ·rename_i b es n nl;split at f
  ·rename_i e1 z A hb;split at f
   ·rename_i hc;cases f;obtain ⟨c1,c2⟩:=Ao hc;have:=As c1;subst this;have:=As A;subst this;have u:=HJ c2 u;clear c2;have G:(Af U.V (.cat y z)).rows=(Af U.V y).rows++(Af U.V z).rows:=rfl;cases u with
    |asl _ _ _ _ S g ac h0 I hz ad=>
     obtain ⟨aa,B,Q,R,b1,b2,b3,b4,b5⟩:=hr.blk b g _ ac hb;rw [F] at b1;cases b1;refine ⟨(Af U.V z).rows,_,G,Ak,b5.vals,?_⟩;have e2:(Ag U.V (.lenL z)).toNat=(Af U.V z).rows.length:=by rw [Ak];simp
     rw [e2];refine .cells _ p (.inl ⟨C,rfl⟩) (by simp [Builtin.lenOf]) (fun v r=>?_)
     simp only [Builtin.firstCells,←t];exact Ay E.P v g.cb g.co _ B Q R (by rw [r];exact b2) b5.1
    |aslEnd _ _ _ _ a h0 ad=>
     rw [Ak] at h0;have H:(Af U.V z).rows=[]:=List.eq_nil_of_length_eq_zero (by omega)
     exact ⟨[],[],by rw [G,H],by rw [Ak,H],.nil,k a⟩
   ·cases f
  ·cases f
 ·rename_i b off n es;split at f
  ·rename_i A;split at f
   ·rename_i l hl;split at f
    ·rename_i y1 hy;cases f;have:=As A;subst this;obtain ⟨vs,v1,v2,v3⟩:=HQ hE (e:=e) (ks:=ks) hr u hl;obtain ⟨D,X,q2,q3⟩:=Ek n y Z l vs hy v1;refine ⟨D,vs,q2,by rw [X];rfl,q3,?_⟩
     rw [X];rcases v3 with ⟨rfl,a,rfl⟩|⟨g,B,Q,R,S,sz,c,p1,p2,rfl,p4,p5,p6,p7,p8,p9⟩
     ·have:vs=[]:=List.eq_nil_of_length_eq_zero (by simpa using v2)
      subst this;exact k (some a)
     ·refine .cells _ p (.inl ⟨C,rfl⟩) (by simp [Builtin.lenOf]) (fun v r=>?_)
      have af:n*ks.length≤S*ks.length:=Nat.mul_le_mul_right _ p4;have:=Ay E.P v g.cb (g.co+off) (n*ks.length) B Q R (by rw [r];exact p6) (by rw [p7];omega)
      simp only [Builtin.firstCells,←t,this]
      congr 2
      apply List.ext_getElem?;intro q;rw [List.getElem?_take];by_cases hq:q<n*ks.length
      ·rw [if_pos hq,List.getElem?_drop,Array.getElem?_toList,p9 q (by omega)]
      ·rw [if_neg hq,List.getElem?_eq_none (by omega)]
    ·cases f
   ·cases f
  ·cases f
 ·cases f
inductive JH (ρ:Ren) (h:Aa) (w:World) (ks:List Kd) (ys nls:SE):Option Nat→Value→Prop
 |none (b:Option Nat) (a:Option Addr) (hy:(Af U.V ys).rows=[]) (hn:a.isNone=Ai U.V nls):JH ρ h w ks ys nls b (.slice a 0 0)
 |blk (b off cap:Nat) (base:Bh) (cur:Array Value) (et:TypeId) (fz:Nat×Nat) (hb:ρ b=some base) (hl:h.blk.get b≠.none) (hc:(Af U.V ys).rows.length≤cap) (hz:base.co+off+cap*ks.length≤base.csz)
   (hw:w.heap[base.cb]?=some (.cells cur et fz)) (hs:cur.size=base.csz) (hf:fz.1=fz.2∨base.csz≤fz.1) (hv:A8 U.K ρ.imm ks cur (base.co+off) (Af U.V ys).rows) (hn:Ai U.V nls=false) :
   JH ρ h w ks ys nls (some b) (.slice (some ⟨base.cb,base.co+off,.none⟩) (Af U.V ys).rows.length cap)
theorem S7 (hr:HR ρ h.blk.get w) {e:TypeId} {ks:List Kd} (H:E.kinds e=some ks) {s:AV} {A:Value} {ys nls:SE} {B:Option Nat} (o:VR ρ s A) (d:QJ e ks h s=some (ys,nls,B)):JH ρ h w ks ys nls B A:=by
 have t:U.K e=some ks:=by rw [hE.kd,←hE.ke];exact H
 unfold QJ at d;split at d
 ·cases d;cases o;exact .none _ _ rfl rfl
 ·cases d;cases o;rename_i a I;exact .none _ _ rfl I
 ·rename_i b off n J;split at d
  ·rename_i j;split at d
   ·rename_i l L;split at d
    ·rename_i y M;cases d;have:=As j;subst this;obtain ⟨N,O,P,v3⟩:=HQ hE (e:=e) (ks:=ks) hr o L;obtain ⟨Q,u,R,S⟩:=Ek n .emptyL ys l N M O;have r:(Af U.V ys).rows=Q:=by rw [R];rfl
     rcases v3 with ⟨rfl,a,rfl⟩|⟨f,k,v,x,g,sz,c,T,W,rfl,C,X,Y,D,Z,p9⟩
     ·exact .none _ _ (by rw [r];exact List.eq_nil_of_length_eq_zero u) rfl
     ·have aa:n*ks.length≤g*ks.length:=Nat.mul_le_mul_right _ C
      have:=JH.blk (ρ:=ρ) (h:=h) (w:=w) (ks:=ks) (ys:=ys) (nls:=.bc false) b off g f k v x T (by rw [W];exact Option.some_ne_none _) (by rw [r,u];exact C) X Y D Z
       (by rw [r];exact S.at (by rw [P,D];omega) p9) rfl
      rw [r,u] at this;exact this
    ·cases d
   ·cases d
  ·cases d
 ·rename_i b J n nl;split at d
  ·rename_i e1 z j p;split at d
   ·rename_i hc;cases d;obtain ⟨c1,F⟩:=Ao hc;have:=As c1;subst this;have:=As j;subst this;have o:=HJ F o;clear F;cases o with
    |asl _ _ _ _ g f q h0 i hz m=>
     obtain ⟨ab,k,v,x,G,b2,b3,b4,b5⟩:=hr.blk b f _ q p;rw [t] at G;cases G;have e2:(Ag U.V (.lenL ys)).toNat=(Af U.V ys).rows.length:=by rw [Ak];simp
     rw [e2] at i ⊢;exact JH.blk (ρ:=ρ) (h:=h) (w:=w) (ks:=ks) b 0 g f k v x q (by rw [p];exact Option.some_ne_none _) i (by simpa using hz) b2 b3 b4 (by simpa using b5) m
    |aslEnd _ _ _ _ a h0 m=>
     rw [Ak] at h0;exact .none _ _ (List.eq_nil_of_length_eq_zero (by omega)) m
   ·cases d
  ·cases d
 ·cases d
omit hE in
theorem HR.phantom (hr:HR ρ h.blk.get w) (hf:ρ h.nx=none) (x:Ab):HR ρ (h.new x).blk.get w∧Ext ρ ρ h (h.new x) w w:=by
 have live:∀b base,ρ b=some base→(h.new x).blk.get b=h.blk.get b:=by
  intro b base hb;simp only [Aa.new,T.get_set];rw [if_neg (by rintro rfl;rw [hf] at hb;cases hb)]
 refine ⟨⟨hr.lt,fun b base y hb hy=>hr.blk b base y hb (by rw [←live b base hb];exact hy),fun b b' base base' hne hb hb' h1 h2=>hr.apart b b' base base' hne hb hb' (by rw [←live b base hb];exact h1) (by rw [←live b' base' hb'];exact h2),hr.imm,fun k arr b base hk hb hl=>hr.off k arr b base hk hb (by rw [←live b base hb];exact hl),hr.glob⟩,
  ⟨Ren.le_refl ρ,Nat.le_succ _,fun _ _ e=>.inl e,Fu.refl w,fun _ _ _=>rfl,⟨[],rfl,fun b _ hb=>?_⟩,fun b hb=>?_,fun _ _ e=>.inl e⟩⟩
 ·simp only [Aa.new,T.get_set];simp only [Aa.new] at hb;rw [if_neg (by omega)]
 ·simp only [Aa.new,T.get_set] at hb ⊢;by_cases e:h.nx=b
  ·exact .inr ⟨by omega,by omega⟩
  ·rw [if_neg e] at hb;exact .inl hb
omit hE in
theorem Pu (hr:HR ρ h.blk.get w) (o:Option Nat):HR ρ (DZ h o).blk.get w∧Ext ρ ρ h (DZ h o) w w∧(DZ h o).nx=h.nx:=by
 cases o with
 |none=>exact ⟨hr,Ext.refl _ _ _,rfl⟩
 |some b=>obtain ⟨p1,p2⟩:=hr.strike b;exact ⟨p1,p2,rfl⟩
theorem GA (hr:HR ρ h.blk.get w) {t Q ty:TypeId} {s x a:AV} {sv Z:Value} {h':Aa} (hs:VR ρ s sv) (hx:VR ρ x Z) (p:GY E t Q s x h=some (a,h')) (hf:AA ρ h.nx h'.nx)
  (hA:∀a h',Hi E t Q s x h=some (a,h')→AA ρ h.nx h'.nx→AH E ρ h h' w (Builtin.append_ #[t,Q] ty #[sv,Z]) a) :
  AH E ρ h h' w (Builtin.append_ #[t,Q] ty #[sv,Z]) a:=by
 unfold GY at p;split at p
 ·exact hA a h' p hf
 ·split at p
  ·rename_i e e' hd au;split at p
   ·rename_i f i z hi hk hz;split at p
    ·rename_i hc;split at p
     ·rename_i B D bs aa;split at p
      ·rename_i y m af;split at p
       ·rename_i hb;cases p;obtain ⟨av,c3⟩:=Ao hc;obtain ⟨c1,c2⟩:=Ao av;have C:=As c1;have a9:=As c2;have aw:=Ct c3;have F:=hE.ty e f hi;have ag:U.K e=some i:=by rw [hE.kd,←hE.ke];exact hk
        obtain ⟨b1,b2⟩:=Ao hb;have b1:=Hp b1;have b2:=Hp b2;rw [Ar,decide_eq_true_eq,Ak,Bp] at b1;rw [Ar,decide_eq_true_eq,Bp] at b2;have ht:=hE.und hd;have ax:=hE.und au;obtain ⟨n,nv,s1,s2,R,s4⟩:=VB hE hr hk C ax hx af;have hB:=S7 hE hr hk hs aa;obtain ⟨i',zv,i1,i2,i3⟩:=E4 hz;rw [hi] at i1;cases i1
        have ay:zv.cells.size=f.size:=by
         have:=((AB ρ i3).cells (Bc i3)).1;simp at this;omega
        have S:nv.length=n.length*f.size:=by rw [R.1,C]
        have ba:n.length<1048576:=by omega
        have G:Ag U.V (.lenL y)=(((Af U.V B).rows.length+n.length:Nat):Int):=by rw [Ak,s1];simp
        have ab:Ai U.V (.and D (.eql m (.c 0)))=(Ai U.V D&&(Ag U.V m==0)):=rfl;have r:ρ h.nx=none:=hf h.nx (Nat.le_refl _) (by cases bs<;>simp [Aa.new,DZ,Aa.strike])
        obtain ⟨o1,o2,o3⟩:=Pu hr bs
        have W:∀(base:Option Addr) (d j:Nat) (J:List Value),sv=.slice base d j→d=(Af U.V B).rows.length→d≤j→j<d+n.length→A7 U.K ρ.imm i J (Af U.V B).rows→
          (∀L:World,L.heap=w.heap→(Builtin.firstCells f.size d (.slice base d j)).run E.P L=.ok J.toArray L)→
          AH E ρ h ((DZ h bs).new (.arr e y)) w (Builtin.append_ #[t,Q] ty #[sv,Z]) (.asl h.nx f.size (.lenL y) (.and D (.eql m (.c 0)))):=by
         intro base d j J az ah bb ac ai a0;subst az;have bc:(d+n.length)*f.bytes≤1074790400*1024:=Nat.mul_le_mul (by omega) aw
         obtain ⟨g,k1,k2⟩:=D3 t Q ty e f ht F zv i2 Z n.length nv s4 base d j ac (by omega) (by omega) J.toArray a0
         generalize ae:Builtin.zeroCells zv.cells (g-(d+n.length))=zs at k2;have aj:zs.size=(g-(d+n.length))*f.size:=by rw [←ae];simp [Builtin.zeroCells,ay]
         have ak:(J.toArray++nv.toArray++zs).size=g*f.size:=by
          have X:J.length=d*f.size:=by rw [ai.1,C,ah]
          simp only [Array.size_append,List.size_toArray,X,S,aj];rw [←Nat.add_mul,←Nat.add_mul]
          congr 1;omega
         have l:=ai.append R;rw [←s1] at l
         have u:A8 U.K ρ.imm i (J.toArray++nv.toArray++zs) 0 (Af U.V y).rows:=l.at (by simp) (fun q M=>by
          have a1:q<J.length+nv.length:=by simpa using M
          rw [Nat.zero_add,Array.getElem?_append_left (by simpa using a1)]
          simp only [List.append_toArray,List.getElem?_toArray])
         have a2:HR ρ (DZ h bs).blk.get {w with drawn:=w.drawn+1}:=o1.same rfl
         have a3:ρ (DZ h bs).nx=none:=by rw [o3];exact r
         obtain ⟨p1,p2⟩:=a2.new a3 (.arr e y) (.cells (J.toArray++nv.toArray++zs) e) (g*f.size) ⟨i,_,e,_,ag,rfl,ak,.inl rfl,u⟩ {w with drawn:=w.drawn+1,heap:=w.heap.push (.cells (J.toArray++nv.toArray++zs) e)} rfl rfl rfl rfl
         refine ⟨_,_,_,k2,?_,p1,(o2.trans (Ext.drawn p2 rfl rfl rfl rfl) hf)⟩;rw [o3];have H:(Ag U.V (.lenL y)).toNat=d+n.length:=by rw [G,ah];exact Int.toNat_natCast _
         have:=VR.asl (ρ:=ρ.upd h.nx ⟨w.heap.size,0,g*f.size⟩) h.nx f.size (.lenL y) (.and D (.eql m (.c 0))) g ⟨w.heap.size,0,g*f.size⟩ (Ren.upd_same _ _ _) (by rw [G];exact Int.natCast_nonneg _) (by rw [H];exact k1) (by show 0+g*f.size≤g*f.size;rw [Nat.zero_add];exact Nat.le_refl _) (by
          rw [ab,s2];have:((n.length:Int)==0)=false:=by simp;intro e;rw [e] at ac;simp at ac;omega
          rw [this,Bool.and_false])
         rw [H] at this;exact this
        cases hB with
        |none _ ad hy hn=>
         have al:(Af U.V B).rows.length=0:=by rw [hy];rfl
         by_cases hm:n.length=0
         ·
          have a4:nv=[]:=List.eq_nil_of_length_eq_zero (by rw [S,hm];simp)
          subst a4;obtain ⟨p1,p2⟩:=HR.phantom o1 (by rw [o3];exact r) (.arr e y)
          refine ⟨ρ,.slice ad 0 0,w,?_,.aslEnd _ _ _ _ _ (by rw [G,al,hm];rfl) ?_,p1,o2.trans p2 hf⟩
          ·rw [Cp t Q ty e f ht F Z n.length [] s4 ad 0 0 (by omega)]
           cases ad with
           |none=>simp [hm]
           |some ad=>simp [storeCells,hm]
          ·rw [ab,s2,hm,hn];simp
         ·exact W ad 0 0 [] rfl al.symm (Nat.le_refl _) (by omega) (by rw [hy];exact .nil) (fun L _=>by
           cases ad with
           |none=>simp [Builtin.firstCells]
           |some ad=>simp [Builtin.firstCells,loadCells,loadCellsFrom])
        |blk b off j base N et fz hb hl am ae hw O an hv hn=>
         by_cases A:(Af U.V B).rows.length+n.length≤j
         ·
          have ao:((Af U.V B).rows.length+n.length)*i.length≤j*i.length:=Nat.mul_le_mul_right _ A;rw [Nat.add_mul] at ao
          have ap:∀v∈nv,v.oneCell'=true:=by
           intro v a5;obtain ⟨q,M,rfl⟩:=List.getElem_of_mem a5
           have aq:0<i.length:=by
            rcases Nat.eq_zero_or_pos i.length with h0|h0
            ·rw [R.1,h0] at M;simp at M
            ·exact h0
           have a6:q/i.length<n.length:=by
            rw [R.1] at M;exact Nat.div_lt_of_lt_mul (by rw [Nat.mul_comm];exact M)
           have a7:q%i.length<i.length:=Nat.mod_lt _ aq;have:=R.2.2 (q/i.length) (q%i.length) (i[q%i.length]) a6 (by simp [a7])
           have e1:q/i.length*i.length+q%i.length=q:=by rw [Nat.mul_comm];exact Nat.div_add_mod _ _
           rw [e1] at this;have e2:nv.getD q Go.undef=nv[q]:=by simp [List.getD_eq_getElem?_getD,M]
           rw [e2] at this;generalize nv[q]=v0 at this;generalize i[q%i.length]=kq at this;cases this<;>rfl
          obtain ⟨L,Y,q1,q2,q3,q4,q5,q6,q7,q8,q9⟩:=BP E.P base.cb (base.co+off+(Af U.V B).rows.length*i.length) et fz nv 0 w N hw (by rw [R.1,O];omega) (by rw [O];exact an) ap
          have u:A8 U.K ρ.imm i Y (base.co+off) (Af U.V y).rows:=by
           have l:=hv.vals.append R;rw [←s1] at l
           have I:((N.toList.drop (base.co+off)).take ((Af U.V B).rows.length*i.length)).length=(Af U.V B).rows.length*i.length:=by
            have:=hv.1;simp;omega
           refine l.at (by rw [List.length_append,I,R.1,q3,O];omega) (fun q M=>?_)
           rw [List.length_append,I] at M;rw [q4];simp only [Nat.add_zero];by_cases ar:q<(Af U.V B).rows.length*i.length
           ·rw [if_neg (by omega),List.getElem?_append_left (by rw [I];exact ar),List.getElem?_take,if_pos ar,List.getElem?_drop,Array.getElem?_toList]
           ·rw [if_pos (by omega),List.getElem?_append_right (by rw [I];omega),I]
            congr 1;omega
          obtain ⟨p1,p2⟩:=hr.move hb hl r (base':=⟨base.cb,base.co+off,base.csz⟩) rfl (.arr e y) L ⟨i,Y,et,fz,ag,q2,by rw [q3,O],an,u⟩ q5 q6 q7 q8 q9
          refine ⟨_,.slice (some ⟨base.cb,base.co+off,none⟩) ((Af U.V B).rows.length+n.length) j,L,?_,?_,p1,p2⟩
          ·rw [Cp t Q ty e f ht F Z n.length nv s4 _ _ j A];simp only [BL,←C];rw [q1];rfl
          ·have H:(Ag U.V (.lenL y)).toNat=(Af U.V B).rows.length+n.length:=by rw [G];exact Int.toNat_natCast _
           have:=VR.asl (ρ:=ρ.upd h.nx ⟨base.cb,base.co+off,base.csz⟩) h.nx f.size (.lenL y) (.and D (.eql m (.c 0))) j ⟨base.cb,base.co+off,base.csz⟩ (Ren.upd_same _ _ _) (by rw [G];omega) (by rw [H];exact A) (by rw [←C];exact ae) (by rw [ab,hn];rfl)
           rw [H] at this;exact this
         ·have X:((N.toList.drop (base.co+off)).take ((Af U.V B).rows.length*i.length)).length=(Af U.V B).rows.length*i.length:=by
           have:=hv.1;simp;omega
          exact W (some ⟨base.cb,base.co+off,none⟩) _ j _ rfl rfl am (by omega) hv.vals (fun L a8=>by
           simp only [Builtin.firstCells,←C];exact Ay E.P L base.cb (base.co+off) _ N et fz (by rw [a8];exact hw) hv.1)
       ·cases p
      ·cases p
     ·cases p
    ·cases p
   ·cases p
  ·cases p
end
end Go.AE
namespace Go.AE
variable [Gl:Ax]
variable [U:Unk]
section
variable {E:Env} {ρ:Ren} {w:World} (hE:OK E)
include hE
theorem T3 {t:TypeId} (c:E.desc t=some .bool) (n:Nat) (a b:Bool):aeq E (n+1) t (.bool a) (.bool b)=some (a==b):=by
 simp only [aeq,c]
theorem Gi {c:BinOp} {t:TypeId} {ox oy:Operand} (f:E.desc t=some .bool) (a b q:Bool) (d:Bw c (a==b)=some q) :
  (do eqGuard c t ox oy (.bool a) (.bool b);binOp c t (.bool a) (.bool b):Sem Value).run E.P w=.ok (.bool q) w:=by
 have g:Pb E c t (.bool a) (.bool b)=some (.bool q):=by
  have e:=T3 hE f 9999 a b;cases c<;>simp only [Bw,reduceCtorEq,Option.some.injEq] at d
  ·subst d;show (aeq E 10000 t _ _).map AV.bool=_;rw [e];rfl
  ·subst d;show ((aeq E 10000 t _ _).map fun b=>AV.bool (!b))=_;rw [e];rfl
 obtain ⟨v,h,i⟩:=QR (ρ:=Ren.empty) (w:=w) (ox:=ox) (oy:=oy) hE (.bool a) (.bool b) g;cases i;exact h
omit hE in
theorem Em {x:AV} {xv:Value} (hx:VR ρ x xv):(∀b,Nd x=some (.inl b)→xv=.bool b)∧(∀p e,Nd x=some (.inr (p,e))→xv=.bool (Ai U.V e==p)):=by
 cases x<;>simp only [Nd,reduceCtorEq,false_imp_iff,implies_true,and_self]
 ·rename_i b;cases hx;exact ⟨fun c h=>(by cases h;rfl),fun p e h=>(by cases h)⟩
 ·rename_i p e;cases hx;refine ⟨fun b h=>?_,fun p' e' h=>?_⟩
  ·split at h
   ·rename_i c hc;cases h;rw [Ap U.ok hc]
   ·cases h
  ·split at h
   ·cases h
   ·cases h;rfl
theorem GK {d:BinOp} {t e:TypeId} {ox f:Operand} (r:E.desc t=some (.slice e)) (a:Option Addr) (n c:Nat) (q:Bool) (g:Bw d a.isNone=some q) (h0:a=none→n=0∧c=0) :
  (do eqGuard d t ox f (.slice a n c) (.slice none 0 0);binOp d t (.slice a n c) (.slice none 0 0):Sem Value).run E.P w=.ok (.bool q) w∧
  (do eqGuard d t ox f (.slice none 0 0) (.slice a n c);binOp d t (.slice none 0 0) (.slice a n c):Sem Value).run E.P w=.ok (.bool q) w:=by
 have i:=hE.run_und r w;have j:(eqGuard d t ox f (.slice a n c) (.slice none 0 0)).run E.P w=.ok () w:=BC (by simp) (by simp)
 have k:(eqGuard d t ox f (.slice none 0 0) (.slice a n c)).run E.P w=.ok () w:=BC (by simp) (by simp)
 obtain ⟨s,u⟩:=Dt t (.slice a n c) (.slice none 0 0) (by simp) (by simp) (by simp) (by simp)
 obtain ⟨v,y⟩:=Dt t (.slice none 0 0) (.slice a n c) (by simp) (by simp) (by simp) (by simp)
 have z:∀m:Nat,(Op.equalIn (m+1) t (.slice a n c) (.slice none 0 0)).run E.P w=.ok a.isNone w:=by
  intro m;cases a<;>simp [Op.equalIn,i]
 have A:∀m:Nat,(Op.equalIn (m+1) t (.slice none 0 0) (.slice a n c)).run E.P w=.ok a.isNone w:=by
  intro m;cases a<;>simp [Op.equalIn,i]
 have l:(Op.equal t (.slice a n c) (.slice none 0 0)).run E.P w=.ok a.isNone w:=z 9999;have o:(Op.equal t (.slice none 0 0) (.slice a n c)).run E.P w=.ok a.isNone w:=A 9999;cases d<;>simp only [Bw,reduceCtorEq,Option.some.injEq] at g
 ·subst g;refine ⟨?_,?_⟩
  ·simp only [Sem.run_bind,j,Result.andThen_ok,s,l];rfl
  ·simp only [Sem.run_bind,k,Result.andThen_ok,v,o];rfl
 ·subst g;refine ⟨?_,?_⟩
  ·simp only [Sem.run_bind,j,Result.andThen_ok,u,l];rfl
  ·simp only [Sem.run_bind,k,Result.andThen_ok,y,o];rfl
theorem Ko {d:BinOp} {t o r:TypeId} {ox f:Operand} (s:E.desc t=some (.map o r)) (a:Option Nat) (q:Bool) (g:Bw d a.isNone=some q) :
  (do eqGuard d t ox f (.map a) (.map none);binOp d t (.map a) (.map none):Sem Value).run E.P w=.ok (.bool q) w∧
  (do eqGuard d t ox f (.map none) (.map a);binOp d t (.map none) (.map a):Sem Value).run E.P w=.ok (.bool q) w:=by
 have i:=hE.run_und s w;have j:(eqGuard d t ox f (.map a) (.map none)).run E.P w=.ok () w:=BC (by simp) (by simp)
 have k:(eqGuard d t ox f (.map none) (.map a)).run E.P w=.ok () w:=BC (by simp) (by simp)
 obtain ⟨u,v⟩:=Dt t (.map a) (.map none) (by simp) (by simp) (by simp) (by simp)
 obtain ⟨y,z⟩:=Dt t (.map none) (.map a) (by simp) (by simp) (by simp) (by simp)
 have A:∀m:Nat,(Op.equalIn (m+1) t (.map a) (.map none)).run E.P w=.ok a.isNone w:=by
  intro m;cases a<;>simp [Op.equalIn,i]
 have B:∀m:Nat,(Op.equalIn (m+1) t (.map none) (.map a)).run E.P w=.ok a.isNone w:=by
  intro m;cases a<;>simp [Op.equalIn,i]
 have l:(Op.equal t (.map a) (.map none)).run E.P w=.ok a.isNone w:=A 9999;have n:(Op.equal t (.map none) (.map a)).run E.P w=.ok a.isNone w:=B 9999;cases d<;>simp only [Bw,reduceCtorEq,Option.some.injEq] at g
 ·subst g;refine ⟨?_,?_⟩
  ·simp only [Sem.run_bind,j,Result.andThen_ok,u,l];rfl
  ·simp only [Sem.run_bind,k,Result.andThen_ok,y,n];rfl
 ·subst g;refine ⟨?_,?_⟩
  ·simp only [Sem.run_bind,j,Result.andThen_ok,v,l];rfl
  ·simp only [Sem.run_bind,k,Result.andThen_ok,z,n];rfl
omit hE in
theorem Qr {x:AV} {xv:Value} {s:SE} (hx:VR ρ x xv) (h:UW x=some s):∃a,xv=.map a∧Ai U.V s=a.isNone:=by
 cases hx<;>simp only [UW,reduceCtorEq,Option.some.injEq] at h<;>subst h
 ·exact ⟨none,rfl,rfl⟩
 ·exact ⟨_,rfl,rfl⟩
 ·rename_i hn;exact ⟨_,rfl,by rw [hn];rfl⟩
 ·rename_i hn;exact ⟨_,rfl,by rw [hn];rfl⟩
omit hE in
theorem Qf {x:AV} {xv:Value} {s:SE} (hx:VR ρ x xv) (h:V5 x=some s):∃a n c,xv=.slice a n c∧(a=none→n=0∧c=0)∧Ai U.V s=a.isNone:=by
 cases hx<;>simp only [V5,reduceCtorEq,Option.some.injEq] at h<;>subst h
 ·exact ⟨none,0,0,rfl,fun _=>⟨rfl,rfl⟩,rfl⟩
 ·exact ⟨_,_,_,rfl,fun h=>(by cases h),rfl⟩
 ·exact ⟨_,_,_,rfl,fun h=>(by cases h),rfl⟩
 ·rename_i e x a n c hd;refine ⟨a,n,c,rfl,?_,?_⟩
  ·rintro rfl
   cases hd;exact ⟨rfl,rfl⟩
  ·have:Ai U.V (.isNil x)=(Af U.V x).isNil:=rfl;rw [this];cases hd with
   |nil _ _ h1=>rw [h1];rfl
   |empty _ _ _ _ h1=>rw [h1];rfl
   |slc _ _ _ _ _ _ _ _ _ _ _ _ h1=>rw [h1];rfl
 ·rename_i hn;exact ⟨_,_,_,rfl,fun h=>(by cases h),by rw [hn];rfl⟩
 ·rename_i a h0 hn;exact ⟨a,0,0,rfl,fun _=>⟨rfl,rfl⟩,hn.symm⟩
 ·rename_i a hn;exact ⟨a,0,0,rfl,fun _=>⟨rfl,rfl⟩,hn.symm⟩
omit hE in
theorem G1 {op:BinOp} {p q:Bool} (h:Bw op p=some q) (x:Bool):Bw op (x==p)=some (x==q):=by
 cases op<;>simp only [Bw,reduceCtorEq,Option.some.injEq] at h ⊢<;>subst h<;>cases x<;>cases p<;>rfl
theorem Zz {op:BinOp} {t:TypeId} {ox u:Operand} {x y r:AV} {xv o:Value} (hx:VR ρ x xv) (i:VR ρ y o) (hr:eqV (E.desc t) op x y=some r) :
  ∃v,(do eqGuard op t ox u xv o;binOp op t xv o:Sem Value).run E.P w=.ok v w∧VR ρ r v:=by
 unfold eqV at hr;split at hr
 ·rename_i hd;split at hr
  ·rename_i a b h1 m;rw [(Em hx).1 _ h1,(Em i).1 _ m];cases d:Bw op (a==b) with
   |none=>rw [d] at hr;cases hr
   |some q=>rw [d] at hr;cases hr;exact ⟨_,Gi hE hd a b q d,.bool q⟩
  ·rename_i p e b h1 m;rw [(Em hx).2 _ _ h1,(Em i).1 _ m];cases d:Bw op (p==b) with
   |none=>rw [d] at hr;cases hr
   |some q=>
    rw [d] at hr;cases hr;refine ⟨_,Gi hE hd _ _ (Ai U.V e==q) ?_,.sb q e⟩;have:=G1 d (Ai U.V e);rw [←this];congr 1;cases Ai U.V e<;>cases p<;>cases b<;>rfl
  ·rename_i b p e h1 m;rw [(Em hx).1 _ h1,(Em i).2 _ _ m];cases d:Bw op (p==b) with
   |none=>rw [d] at hr;cases hr
   |some q=>
    rw [d] at hr;cases hr;refine ⟨_,Gi hE hd _ _ (Ai U.V e==q) ?_,.sb q e⟩;have:=G1 d (Ai U.V e);rw [←this];congr 1;cases Ai U.V e<;>cases p<;>cases b<;>rfl
  ·cases hr
 ·rename_i e hd
  have one:∀{s:SE} {a:Option Addr},Ai U.V s=a.isNone→(Bw op true).map (fun q=>mkB q s)=some r→∃q,Bw op a.isNone=some q∧VR ρ r (.bool q):=by
   intro s a f g;cases d:Bw op true with
   |none=>rw [d] at g;cases g
   |some q=>
    rw [d] at g;cases g;have:=G1 d a.isNone;refine ⟨a.isNone==q,?_,f▸Fj ρ q s⟩;rw [←this];congr 1;cases a.isNone<;>rfl
  split at hr
  ·split at hr
   ·rename_i s f;cases hx;obtain ⟨a,n,c,rfl,h0,j⟩:=Qf i f;obtain ⟨q,k,l⟩:=one j hr;exact ⟨_,(GK hE hd a n c q k h0).2,l⟩
   ·cases hr
  ·split at hr
   ·rename_i s f;cases i;obtain ⟨a,n,c,rfl,h0,j⟩:=Qf hx f;obtain ⟨q,k,l⟩:=one j hr;exact ⟨_,(GK hE hd a n c q k h0).1,l⟩
   ·cases hr
  ·cases hr
 ·rename_i z A hd
  have one:∀{s:SE} {a:Option Nat},Ai U.V s=a.isNone→(Bw op true).map (fun q=>mkB q s)=some r→∃q,Bw op a.isNone=some q∧VR ρ r (.bool q):=by
   intro s a f g;cases d:Bw op true with
   |none=>rw [d] at g;cases g
   |some q=>
    rw [d] at g;cases g;have:=G1 d a.isNone;refine ⟨a.isNone==q,?_,f▸Fj ρ q s⟩;rw [←this];congr 1;cases a.isNone<;>rfl
  split at hr
  ·split at hr
   ·rename_i s f;cases hx;obtain ⟨a,rfl,j⟩:=Qr i f;obtain ⟨q,k,l⟩:=one j hr;exact ⟨_,(Ko hE hd a q k).2,l⟩
   ·cases hr
  ·split at hr
   ·rename_i s f;cases i;obtain ⟨a,rfl,j⟩:=Qr hx f;obtain ⟨q,k,l⟩:=one j hr;exact ⟨_,(Ko hE hd a q k).1,l⟩
   ·cases hr
  ·cases hr
 ·cases hr
omit hE in
theorem Js (P:Program) (k:IntKind):∀{l:List AV} {l':List Value} {x:SE} {a:AV},VL ρ l l'→LO k x l=some a→∃v,(l'.foldlM Builtin.max2 (.int k (Ag U.V x))).run P w=.ok v w∧VR ρ a v
 |[],l',x,a,hl,h=>by
  rw [hl.nil_inv];simp only [LO,Option.some.injEq] at h;subst h;exact ⟨_,by simp,B5 ρ k x⟩
 |y::r,l',x,a,hl,h=>by
  obtain ⟨v,r',rfl,hv,hr⟩:=hl.cons_inv;simp only [LO] at h;split at h
  ·rename_i k' b hb;have ev:=Cj hv hb;subst ev;split at h
   ·rename_i hd;have:=Ap U.ok hd;rw [Ar,decide_eq_true_eq] at this;obtain ⟨u,q1,q2⟩:=Js P k hr h;refine ⟨u,?_,q2⟩;simp only [List.foldlM_cons,Builtin.max2,Sem.run_bind,Sem.run_pure,Result.andThen_ok];rw [if_pos (by omega)];exact q1
   ·rename_i hd;have:=Ap U.ok hd;rw [Ar,decide_eq_false_iff_not] at this;obtain ⟨u,q1,q2⟩:=Js P k hr h;refine ⟨u,?_,q2⟩;simp only [List.foldlM_cons,Builtin.max2,Sem.run_bind,Sem.run_pure,Result.andThen_ok];rw [if_neg (by omega)];exact q1
   ·cases h
  ·cases h
omit hE in
theorem Kz (P:Program) (k:IntKind):∀{l:List AV} {l':List Value} {x:SE} {a:AV},VL ρ l l'→LJ k x l=some a→∃v,(l'.foldlM Builtin.min2 (.int k (Ag U.V x))).run P w=.ok v w∧VR ρ a v
 |[],l',x,a,hl,h=>by
  rw [hl.nil_inv];simp only [LJ,Option.some.injEq] at h;subst h;exact ⟨_,by simp,B5 ρ k x⟩
 |y::r,l',x,a,hl,h=>by
  obtain ⟨v,r',rfl,hv,hr⟩:=hl.cons_inv;simp only [LJ] at h;split at h
  ·rename_i k' b hb;have ev:=Cj hv hb;subst ev;split at h
   ·rename_i hd;have:=Ap U.ok hd;rw [Ar,decide_eq_true_eq] at this;obtain ⟨u,q1,q2⟩:=Kz P k hr h;refine ⟨u,?_,q2⟩;simp only [List.foldlM_cons,Builtin.min2,Sem.run_bind,Sem.run_pure,Result.andThen_ok];rw [if_pos (by omega)];exact q1
   ·rename_i hd;have:=Ap U.ok hd;rw [Ar,decide_eq_false_iff_not] at this;obtain ⟨u,q1,q2⟩:=Kz P k hr h;refine ⟨u,?_,q2⟩;simp only [List.foldlM_cons,Builtin.min2,Sem.run_bind,Sem.run_pure,Result.andThen_ok];rw [if_neg (by omega)];exact q1
   ·cases h
  ·cases h
omit hE in
theorem Sx {ats:Array TypeId} {ty:TypeId} {args:List AV} {args':List Value} {a:AV} (ha:VL ρ args args') (hq:TM args=some a):∃v,(Builtin.max_ ats ty args'.toArray).run E.P w=.ok v w∧VR ρ a v:=by
 cases args with
 |nil=>cases hq
 |cons x r=>
  obtain ⟨v,r',rfl,hv,hl⟩:=ha.cons_inv;simp only [TM] at hq;split at hq
  ·rename_i k e he;have ev:=Cj hv he;subst ev;obtain ⟨u,q1,q2⟩:=Js (w:=w) E.P k hl hq;exact ⟨u,by simpa [Builtin.max_] using q1,q2⟩
  ·cases hq
omit hE in
theorem Ta {ats:Array TypeId} {ty:TypeId} {args:List AV} {args':List Value} {a:AV} (ha:VL ρ args args') (hq:S4 args=some a):∃v,(Builtin.min_ ats ty args'.toArray).run E.P w=.ok v w∧VR ρ a v:=by
 cases args with
 |nil=>cases hq
 |cons x r=>
  obtain ⟨v,r',rfl,hv,hl⟩:=ha.cons_inv;simp only [S4] at hq;split at hq
  ·rename_i k e he;have ev:=Cj hv he;subst ev;obtain ⟨u,q1,q2⟩:=Kz (w:=w) E.P k hl hq;exact ⟨u,by simpa [Builtin.min_] using q1,q2⟩
  ·cases hq
omit hE in
theorem ae {op:UnOp} {x r:AV} {xv:Value} (hx:VR ρ x xv) (hr:unB op x=some r):∃v,(Op.unary op xv).run E.P w=.ok v w∧VR ρ r v:=by
 unfold unB at hr;split at hr
 ·rename_i k e;cases hr;cases hx;refine ⟨_,by simp only [Op.unary,Op.intArith,Sem.run_pure];rfl,?_⟩
  have:=B5 ρ k (.arith .sub k (.c 0) e);rw [D2] at this;simpa [CM,Bp] using this
 ·exact Zf hx hr
omit hE in
theorem QS {ks:List Kd} {z:List AV} {r:SE} (hrow:Fi ks z=some r):∀(n:Nat) (vs:List Value),VL ρ (Bl z n) vs→A7 U.K ρ.imm ks vs (List.replicate n (Af U.V r))
 |0,vs,h=>by
  have:=h.nil_inv;subst this;exact .nil
 |n+1,vs,h=>by
  have hzl:z.length=ks.length:=by
   have:∀(ks:List Kd) (l:List AV) (r:SE),Fi ks l=some r→l.length=ks.length:=by
    intro ks
    induction ks with
    |nil=>intro l r h;cases l with|nil=>rfl|cons=>cases h
    |cons k ks ih=>
     intro l r h;cases l with
     |nil=>cases h
     |cons a l=>
      simp only [Fi] at h;split at h
      ·rename_i x y hx hy;simp [ih l y hy]
      ·cases h
   exact this ks z r hrow
  have h1:=h.take z.length;have h2:=h.drop z.length;have e1:(Bl z (n+1)).take z.length=z:=by simp [Bl]
  have e2:(Bl z (n+1)).drop z.length=Bl z n:=by simp [Bl]
  rw [e1] at h1;rw [e2] at h2;obtain ⟨q1,q2,q3⟩:=Eh ks z _ r hrow h1;have:=(A7.one (ρ:=ρ) q1 q2 q3).append (QS hrow n _ h2);rw [List.take_append_drop] at this;simpa [List.replicate_succ] using this
theorem KM {h h':Aa} (hr:HR ρ h.blk.get w) {t:TypeId} {l c a:AV} {S T:Value} (hl:VR ρ l S) (D:VR ρ c T) (hb:Gh E t l c h=some (a,h')) (W:AA ρ h.nx h'.nx) :
  AH E ρ h h' w (Instr.makeSlice t S T) a:=by
 unfold Gh at hb;split at hb
 ·rename_i k i;split at hb
  ·rename_i k2 im;split at hb
   ·rename_i e I hd;split at hb
    ·rename_i d ks z hi hk hz;split at hb
     ·rename_i r hc hrow;cases hb;obtain ⟨J,j⟩:=Ao I;have L:k=.i64:=by simpa using J
      have M:=SE.same_ok j;subst L;subst M;obtain ⟨hc,c5⟩:=Ao hc;obtain ⟨hc,c4⟩:=Ao hc;obtain ⟨hc,c3⟩:=Ao hc;obtain ⟨c1,c2⟩:=Ao hc;have e1:=As c1;have e2:=As c2;have e3:=Ct c3;have b4:=G2 c4;have b5:=Hp c5;rw [Ar,decide_eq_false_iff_not,Bp] at b4;rw [Ar,decide_eq_true_eq,Bp] at b5;cases hl;cases D;generalize hN:Ag U.V i=N at *;obtain ⟨n,rfl⟩:∃n:Nat,N=n:=⟨N.toNat,by omega⟩
      obtain ⟨F,z1,Y⟩:=hE.run_zero ρ hz w;have zc:=(AB ρ Y).cells (Bc Y);have m:ρ h.nx=none:=W h.nx (Nat.le_refl _) (by simp [Aa.new])
      have h0:n*z.cells.length=0∨(if n*d.size=0 then #[] else F.cells)=F.cells:=by
       rw [e2];by_cases o:n*d.size=0
       ·exact .inl o
       ·exact .inr (by rw [if_neg o])
      have f:=DQ zc n (if n*d.size=0 then #[] else F.cells) h0
      have G:=QS (ρ:=ρ) hrow n _ f;rw [e2] at f G;have O:U.K e=some ks:=by rw [hE.kd,←hE.ke];exact hk
      generalize H:(Array.range (n*d.size)).map ((if n*d.size=0 then #[] else F.cells)[· % (if n*d.size=0 then #[] else F.cells).size]!)=X at *
      have Q:X.size=n*d.size:=by rw [←H];simp
      have Z:(Af U.V (.rep i r)).rows=List.replicate n (Af U.V r):=by
       show List.replicate (Af U.V i).toInt.toNat _=_;have:(Af U.V i).toInt=(n:Int):=hN;rw [this];rfl
      have A:A8 U.K ρ.imm ks X 0 (Af U.V (.rep i r)).rows:=by
       rw [Z];exact G.at (by simp) (fun q hq=>by rw [Nat.zero_add,Array.getElem?_toList])
      obtain ⟨p1,p2⟩:=hr.new m (.arr e (.rep i r)) (.cells X e) X.size ⟨ks,_,e,_,O,rfl,rfl,.inl rfl,A⟩ {w with heap:=w.heap.push (.cells X e)} rfl rfl rfl rfl
      have B:=EL n (by omega)
      refine ⟨_,.slice (some ⟨w.heap.size,0,none⟩) n n,_,?_,?_,p1,p2⟩
      ·have aa:d.bytes*n≤1024*1048577:=Nat.mul_le_mul e3 (by omega)
       simp only [Instr.makeSlice,Sem.run_bind,hE.run_und hd,Result.andThen_ok,asInt,asIntOf,Sem.run_pure,hE.run_info hi,B]
       have R:¬((d.bytes:Int)*(n:Int)>2^48):=by
        have:((d.bytes*n:Nat):Int)≤1024*1048577:=by omega
        rw [Int.natCast_mul] at this;omega
       have C:(decide ((n:Int)<0)||decide ((d.bytes:Int)*(n:Int)>2^48)||decide ((n:Int)<0)||decide ((n:Int)>(n:Int)))=false:=by
        rw [decide_eq_false R,decide_eq_false (show ¬((n:Int)<0) by omega),decide_eq_false (show ¬((n:Int)>(n:Int)) by omega)]
        rfl
       rw [if_neg (by rw [C];exact Bool.false_ne_true)]
       simp only [Sem.run_bind,run_askRoom,Result.andThen_ok,Int.toNat_natCast,hE.run_sz hi];by_cases o:n*d.size=0
       ·rw [if_pos o] at H;rw [if_pos o];simp only [Sem.run_bind,Sem.run_pure,Result.andThen_ok,newRow,run_newObj,H]
       ·rw [if_neg o] at H;rw [if_neg o];simp only [Sem.run_bind,z1,Sem.run_pure,Result.andThen_ok,newRow,run_newObj,H]
      ·have g:Ag U.V (.lenL (.rep i r))=(n:Int):=by rw [Ak,Z];simp
       have:=VR.asl (ρ:=ρ.upd h.nx ⟨w.heap.size,0,X.size⟩) h.nx d.size (.lenL (.rep i r)) (.bc false) n ⟨w.heap.size,0,X.size⟩ (Ren.upd_same _ _ _) (by rw [g];exact Int.natCast_nonneg _) (by rw [g];simp) (by show 0+n*d.size≤X.size;rw [Q];omega) rfl
       rw [g] at this;simpa using this
     ·cases hb
    ·cases hb
   ·cases hb
  ·cases hb
 ·exact KX hE hr hl D hb W
end
end Go.AE
namespace Go.AE
variable [Gl:Ax]
variable [U:Unk]
section
variable {E:Env} {w:World} (hE:OK E)
include hE
theorem HR.freeze {ρ:Ren} {h:Aa} (hr:HR ρ h.blk.get w) {b:Nat} {base:Bh} (hb:ρ b=some base) (hl:h.blk.get b≠none) {j:Array Value} {e:TypeId} {fz:Nat×Nat} (hw:w.heap[base.cb]?=some (.cells j e fz)) :
  ∃J:Ren,ρ.le J∧J.imm base.cb=some j∧HR J (h.strike b).blk.get w∧Ext ρ J h (h.strike b) w w:=by
 let J:Ren:=⟨ρ.m,fun k=>if k=base.cb then some j else ρ.imm k⟩
 have C:ρ.le J:=⟨fun _ _ h=>h,fun k a I=>by
  show (if k=base.cb then some j else ρ.imm k)=some a
  rw [if_neg (fun e=>hr.off k a b base I hb hl e.symm)]
  exact I⟩
 have r:∀c,(h.strike b).blk.get c≠none→c≠b∧h.blk.get c≠none:=by
  intro c l;simp only [Aa.strike,T.get_del] at l;by_cases e:b=c
  ·rw [if_pos e] at l;exact absurd rfl l
  ·rw [if_neg e] at l;exact ⟨fun e'=>e e'.symm,l⟩
 have ab:∀c,c≠b→(h.strike b).blk.get c=h.blk.get c:=by
  intro c l;simp only [Aa.strike,T.get_del];rw [if_neg (fun e=>l e.symm)]
 obtain ⟨p1,p2⟩:=hr.strike b;refine ⟨J,C,?_,⟨hr.lt,?_,?_,?_,?_,hr.glob.mono C.imm⟩,⟨C,p2.nx,fun c bs l=>.inl l,p2.calm,fun _ _ _=>rfl,p2.log,p2.live,?_⟩⟩
 ·show (if base.cb=base.cb then some j else _)=_
  rw [if_pos rfl]
 ·intro c bs x l hx;have t:=r c (by rw [hx];exact Option.some_ne_none _)
  rw [ab c t.1] at hx;exact (hr.blk c bs x l hx).mono C
 ·intro c c' bs al an l ar h1 h2;exact hr.apart c c' bs al an l ar (r c h1).2 (r c' h2).2
 ·intro k arr I;have i:(if k=base.cb then some j else ρ.imm k)=some arr:=I
  by_cases c:k=base.cb
  ·rw [if_pos c] at i;cases i;subst c;exact ⟨e,fz,hw⟩
  ·rw [if_neg c] at i;exact hr.imm k arr i
 ·intro k arr c bs I l av;have t:=r c av;have i:(if k=base.cb then some j else ρ.imm k)=some arr:=I
  by_cases d:k=base.cb
  ·subst d;exact hr.apart c b bs base t.1 l hb t.2 hl
  ·rw [if_neg d] at i;exact hr.off k arr c bs i l t.2
 ·intro k arr I;have i:(if k=base.cb then some j else ρ.imm k)=some arr:=I
  by_cases d:k=base.cb
  ·exact .inr (.inr ⟨b,base,hb,hl,d.symm⟩)
  ·rw [if_neg d] at i;exact .inl i
theorem Jn {ρ:Ren} {h h':Aa} {kd:Kd} {a F:AV} {v:Value} (hr:HR ρ h.blk.get w) (A:VR ρ a v) (g:IZ E kd a h=(F,h')) :
  ∃o:Ren,VR o F v∧HR o h'.blk.get w∧Ext ρ o h h' w w:=by
 have same:(a,h)=(F,h')→∃o:Ren,VR o F v∧HR o h'.blk.get w∧Ext ρ o h h' w w:=by
  intro e;cases e;exact ⟨ρ,A,hr,Ext.refl _ _ _⟩
 unfold IZ at g;split at g
 ·rename_i e;split at g
  ·rename_i b J n B;split at g
   ·rename_i e' x ks G L;split at g
    ·rename_i M;cases g;obtain ⟨M,c3⟩:=Ao M;obtain ⟨c1,c2⟩:=Ao M;have e1:=As c1;subst e1;have e2:=As c2;have A:=HJ c3 A;have q:U.K e=some ks:=by rw [hE.kd,←hE.ke];exact L
     have d:(Af U.V (.nilIs x B)).isNil=Ai U.V B:=rfl;have u:(Af U.V (.nilIs x B)).rows=(Af U.V x).rows:=rfl;cases A with
     |asl _ _ _ _ cap f H h0 k hz N=>
      obtain ⟨ab,r,et,fz,Z,b2,b3,b4,b5⟩:=hr.blk b f _ H G;rw [q] at Z;cases Z;obtain ⟨o,O,P,Q,R⟩:=HR.freeze hE hr H (by rw [G];exact Option.some_ne_none _) b2
      have m:(Ag U.V (.lenL x)).toNat=(Af U.V x).rows.length:=by rw [Ak];simp
      refine ⟨o,.dat e _ _ _ _ ?_,Q,R⟩;have t:=b5.mono O.imm;exact .slc e f.cb f.co _ cap _ ks r q P (by rw [u,m]) k (by rw [d,N]) (by rw [m];exact t.1) (fun i hi=>t.2.1 i (by rw [m] at hi;exact hi)) (fun i j kd hi S=>t.2.2 i j kd (by rw [m] at hi;exact hi) S)
     |aslEnd _ _ _ _ ad h0 p=>
      obtain ⟨T,W⟩:=hr.strike b
      have C:(Af U.V x).rows=[]:=by
       rw [Ak] at h0;exact List.eq_nil_of_length_eq_zero (by omega)
      refine ⟨ρ,.dat e _ _ _ _ ?_,T,W⟩;cases ad with
      |none=>exact .nil e _ (by rw [d,←p];rfl) (by rw [u];exact C)
      |some ad=>exact .empty e ad 0 _ (by rw [d,←p];rfl) (by rw [u];exact C)
    ·exact same g
   ·exact same g
  ·rename_i B;cases g;cases A with
   |eslc _ ad p=>
    have d:(Af U.V (.nilIs .nilL B)).isNil=Ai U.V B:=rfl;refine ⟨ρ,.dat e _ _ _ _ ?_,hr,Ext.refl _ _ _⟩;cases ad with
    |none=>exact .nil e _ (by rw [d,←p];rfl) rfl
    |some ad=>exact .empty e ad 0 _ (by rw [d,←p];rfl) rfl
  ·rename_i b off n J;split at g
   ·rename_i ks L;split at g
    ·rename_i l D hl;split at g
     ·rename_i y hy;cases g;have D:=As D;have q:U.K e=some ks:=by rw [hE.kd,←hE.ke];exact L
      obtain ⟨vs,v1,v2,v3⟩:=HQ hE (e:=e) (ks:=ks) hr A hl;obtain ⟨rs,r1,r2,r3⟩:=Ek (ρ:=ρ) n .emptyL y l vs hy v1;have X:(Af U.V y).rows=rs:=by rw [r2];rfl
      have d:(Af U.V y).isNil=false:=by
       have:∀(n:Nat) (I y:SE) (l:List AV),C9 ks n I l=some y→(Af U.V I).isNil=false→(Af U.V y).isNil=false:=by
        intro n
        induction n with
        |zero=>intro I y l h h0;cases l with
         |nil=>simp only [C9,Option.some.injEq] at h;subst h;exact h0
         |cons=>cases h
        |succ n ih=>
         intro I y l h h0;simp only [C9] at h;split at h
         ·exact ih _ _ _ h rfl
         ·cases h
       exact this n .emptyL y l hy rfl
      rcases v3 with ⟨h0,ad,rfl⟩|⟨f,r,et,fz,cap,sz,c,H,G,rfl,k,hz,hw,Y,ac,hv⟩
      ·obtain ⟨T,W⟩:=hr.strike b;exact ⟨ρ,.dat e _ _ _ _ (.empty e ad 0 _ d (by rw [X];exact List.eq_nil_of_length_eq_zero (by rw [r1,h0]))),T,W⟩
      ·obtain ⟨o,O,P,Q,R⟩:=HR.freeze hE hr H (by rw [G];exact Option.some_ne_none _) hw
       have aa:n*J≤cap*J:=Nat.mul_le_mul_right _ k;have z:A8 U.K ρ.imm ks r (f.co+off) rs:=r3.at (by rw [v2,Y];omega) hv
       have t:=z.mono O.imm;rw [←X] at t;have s:(Af U.V y).rows.length=n:=by rw [X,r1]
       refine ⟨o,.dat e _ _ _ _ (.slc e f.cb (f.co+off) n cap _ ks r q P s k d ?_ (fun i hi=>t.2.1 i (by rw [s];exact hi)) (fun i j kd hi S=>t.2.2 i j kd (by rw [s];exact hi) S)),Q,R⟩
       have:=t.1;rw [s] at this;exact this
     ·exact same g
    ·exact same g
   ·exact same g
  ·exact same g
 ·exact same g
omit hE in
theorem Ms {kd:Kd} {a a':AV} {h h':Aa} (hx:IZ E kd a h=(a',h')):h'.nx=h.nx:=by
 unfold IZ at hx
 repeat' split at hx
 all_goals (cases hx;rfl)
theorem Jq:∀{i:List Kd} {l d:List AV} {e:List Value} {c:Ren} {h h':Aa},HR c h.blk.get w→VL c l e→Hc E i l h=(d,h')→
  h'.nx=h.nx∧∃j:Ren,VL j d e∧HR j h'.blk.get w∧Ext c j h h' w w
 |[],l,d,e,c,h,h',hr,f,hx=>by
  cases l<;>(simp only [Hc] at hx;cases hx;exact ⟨rfl,c,f,hr,Ext.refl _ _ _⟩)
 |k::i,[],d,e,c,h,h',hr,f,hx=>by
  simp only [Hc] at hx;cases hx;exact ⟨rfl,c,f,hr,Ext.refl _ _ _⟩
 |k::i,a::l,d,e,c,h,h',hr,f,hx=>by
  obtain ⟨v,r,rfl,p,q⟩:=f.cons_inv;simp only [Hc] at hx;generalize g:IZ E k a h=s at hx;obtain ⟨G,t⟩:=s;simp only at hx;generalize m:Hc E i l t=u at hx;obtain ⟨H,I⟩:=u;simp only at hx;cases hx;have x:=Ms g;obtain ⟨j,y,z,n⟩:=Jn hE hr p g;obtain ⟨A,B,C,D,o⟩:=Jq z (q.mono n.le) m;refine ⟨by omega,B,VL.cons (y.mono o.le) C,D,n.trans o (fun b J F=>by omega)⟩
omit hE in
theorem Te {kd:Kd} {a a':AV} {h h':Aa} (hx:IZ E kd a h=(a',h')):h'=h∨∃b,h'=h.strike b:=by
 unfold IZ at hx
 repeat' split at hx
 all_goals (cases hx;first|exact .inl rfl|exact .inr ⟨_,rfl⟩)
omit hE in
theorem Nr:∀{ks:List Kd} {l l':List AV} {h h':Aa},Hc E ks l h=(l',h')→h'.nx=h.nx∧(∃m,h'.log=m++h.log∧∀c,c∉m→h'.blk.get c=h.blk.get c)∧∀c,h'.blk.get c=none∨h'.blk.get c=h.blk.get c
 |[],l,l',h,h',hx=>by
  cases l<;>(simp only [Hc] at hx;cases hx;exact ⟨rfl,⟨[],rfl,fun _ _=>rfl⟩,fun _=>.inr rfl⟩)
 |k::ks,[],l',h,h',hx=>by
  simp only [Hc] at hx;cases hx;exact ⟨rfl,⟨[],rfl,fun _ _=>rfl⟩,fun _=>.inr rfl⟩
 |k::ks,a::l,l',h,h',hx=>by
  simp only [Hc] at hx;generalize hf1:IZ E k a h=p1 at hx;obtain ⟨a1,h3⟩:=p1;simp only at hx;generalize hf2:Hc E ks l h3=p2 at hx;obtain ⟨l1,h4⟩:=p2;simp only at hx;cases hx;obtain ⟨q1,⟨m,q2,q3⟩,q4⟩:=Nr hf2;rcases Te hf1 with rfl|⟨b,rfl⟩
  ·exact ⟨q1,⟨m,q2,q3⟩,q4⟩
  ·have hget:∀c,(h.strike b).blk.get c=if b=c then none else h.blk.get c:=fun c=>by simp only [Aa.strike,T.get_del]
   refine ⟨q1,⟨m++[b],by rw [q2];simp [Aa.strike],fun c hc=>?_⟩,fun c=>?_⟩
   ·simp only [List.mem_append,List.mem_singleton,not_or] at hc;rw [q3 c hc.1,hget,if_neg (fun e=>hc.2 e.symm)]
   ·rcases q4 c with r|r
    ·exact .inl r
    ·rw [r,hget];by_cases e:b=c
     ·rw [if_pos e];exact .inl rfl
     ·rw [if_neg e];exact .inr rfl
theorem ID {j:Ren} {h:Aa} {ks:List Kd} {b:Nat} (hr:HR j h.blk.get w):(Dy E ks b h).nx=h.nx∧∃o:Ren,HR o (Dy E ks b h).blk.get w∧Ext j o h (Dy E ks b h) w w:=by
 have same:h.nx=h.nx∧∃o:Ren,HR o h.blk.get w∧Ext j o h h w w:=⟨rfl,j,hr,Ext.refl _ _ _⟩
 unfold Dy;split
 ·rename_i n c K;split
  ·rename_i l t;split;rename_i l' h' L;split
   ·rename_i m A B;split
    ·rename_i hc;obtain ⟨N,O⟩:=Ao hc;have P:=As N;have e2:=As O;subst P;cases C:j b with
     |none=>
      obtain ⟨Q,⟨R,S,V⟩,M⟩:=Nr L;have g:HR j h'.blk.get w:=hr.restrict (fun c=>M c)
      have hget:∀c,c≠b→(h'.put b (.cells m (.ofList l'))).blk.get c=h'.blk.get c:=fun c hc=>by
       simp only [Aa.put,T.get_set];rw [if_neg (fun e=>hc e.symm)]
      have u:∀{c:Nat} {p:Bh},j c=some p→c≠b:=fun hc e=>by subst e;rw [C] at hc;cases hc
      refine ⟨Q,j,⟨g.lt,fun c p x hc hx=>?_,fun c A p D F hc q G y=>?_,g.imm,fun k arr c p W hc t=>?_,g.glob⟩,⟨Ren.le_refl j,by show h.nx≤h'.nx;omega,fun _ _ e=>.inl e,Fu.refl w,fun _ _ _=>rfl,⟨b::R,by simp [Aa.put,S],fun c hc _=>?_⟩,fun c hc=>?_,fun _ _ e=>.inl e⟩⟩
      ·rw [hget c (u hc)] at hx;exact g.blk c p x hc hx
      ·rw [hget c (u hc)] at G;rw [hget A (u q)] at y;exact g.apart c A p D F hc q G y
      ·rw [hget c (u hc)] at t;exact g.off k arr c p W hc t
      ·simp only [List.mem_cons,not_or] at hc;rw [hget c hc.1];exact V c hc.2
      ·by_cases e:c=b
       ·subst e;exact .inl (by rw [K];exact Option.some_ne_none _)
       ·rw [hget c e] at hc;rcases M c with r|r
        ·rw [r] at hc;exact absurd rfl hc
        ·rw [r] at hc;exact .inl hc
     |some d=>
      obtain ⟨f,X,Y,Z,b2,b3,b4,b5⟩:=hr.blk b d _ C K;obtain ⟨l1,l2⟩:=T.range_spec c _ _ _ t
      have H:VL j l ((f.toList.drop d.co).take m):=by
       refine ⟨by simp [l1];omega,fun i a v s z=>?_⟩
       have hi:i<m:=by have:=(List.getElem?_eq_some_iff.1 s).1;omega
       have:=l2 i hi;rw [Nat.zero_add,s] at this;obtain ⟨v',v1,v2⟩:=b5 i a hi this;rw [List.getElem?_take,if_pos hi,List.getElem?_drop,Array.getElem?_toList,v1] at z;cases z;exact v2
      obtain ⟨hn,o,q1,q2,q3⟩:=Jq hE hr H L;have I:o b=some d:=q3.le.m b d C
      obtain ⟨r1,r2⟩:=q2.put I (by rw [B];exact Option.some_ne_none _) (.cells m (.ofList l')) w ⟨f,X,Y,Z,b2,b3,b4,fun i a hi s=>by
       rw [T.get_ofList] at s
       have z:((f.toList.drop d.co).take m)[i]?=f[d.co+i]?:=by
        rw [List.getElem?_take,if_pos hi,List.getElem?_drop,Array.getElem?_toList]
       have J:d.co+i<f.size:=by omega
       have hc:f[d.co+i]?=some f[d.co+i]:=by simp [J]
       exact ⟨_,hc,q1.2 i a _ s (by rw [z,hc])⟩⟩ rfl (fun _ _=>rfl) rfl rfl rfl
      exact ⟨hn,o,r1,q3.trans r2 (fun c G y=>by simp only [Aa.put] at y;omega)⟩
    ·exact same
   ·exact same
  ·exact same
 ·exact same
theorem LQ {d:Ren} {h:Aa} {e:TypeId} {b:Nat} (hr:HR d h.blk.get w):(Gm E e b h).nx=h.nx∧∃f:Ren,HR f (Gm E e b h).blk.get w∧Ext d f h (Gm E e b h) w w:=by
 unfold Gm;split
 ·exact ID hE hr
 ·exact ⟨rfl,d,hr,Ext.refl _ _ _⟩
omit hE in
theorem Q0 {t:TypeId} {x a:AV} {h h':Aa} (hx:C8 E t x a h=some h'):h'.nx=h.nx:=by
 unfold C8 HO storeN at hx
 repeat' split at hx
 all_goals first | (cases hx;done) | (cases hx;rfl)
theorem NN {i:Ren} {h h':Aa} (hr:HR i h.blk.get w) {t:TypeId} {x a:AV} {o v:Value} (hx:VR i x o) (p:VR i a v) (d:Ho E t x a h=some h') :
  ∃g f,(Instr.storeAt t o v).run E.P w=.ok () f∧HR g h'.blk.get f∧Ext i g h h' w f:=by
 have plain:C8 E t x a h=some h'→∃g f,(Instr.storeAt t o v).run E.P w=.ok () f∧HR g h'.blk.get f∧Ext i g h h' w f:=by
  intro z;obtain ⟨f,q1,q2,q3⟩:=HM hE hr hx p z;exact ⟨i,f,q1,q2,q3⟩
 have j:∀{t:TypeId} {x a:AV} {h h':Aa},C8 E t x a h=some h'→h'.nx=h.nx:=Q0
 unfold Ho at d;split at d
 ·split at d
  ·split at d
   ·split at d
    ·split at d
     ·rename_i l;split at d;rename_i l1 A n;cases p with
      |agg _ l' B C=>
       obtain ⟨F,g,q1,q2,q3⟩:=Jq hE hr ⟨B,C⟩ n;obtain ⟨f,q,s,u⟩:=HM hE q2 (hx.mono q3.le) (.agg l1 l' q1.1 q1.2) d;have:=j d;exact ⟨g,f,q,s,q3.trans u (fun b D y=>by omega)⟩
     ·split at d;rename_i G A n;obtain ⟨g,q1,q2,q3⟩:=Jn hE hr p n;obtain ⟨f,q,s,u⟩:=HM hE q2 (hx.mono q3.le) q1 d;have:=j d;have:=Ms n;exact ⟨g,f,q,s,q3.trans u (fun b D y=>by omega)⟩
    ·exact plain d
   ·exact plain d
  ·exact plain d
 ·exact plain d
theorem NX {f:Ren} {h:Aa} {e:TypeId} {a:AV} (hr:HR f h.blk.get w):(EZ E e a h).nx=h.nx∧∃d:Ren,HR d (EZ E e a h).blk.get w∧Ext f d h (EZ E e a h) w w:=by
 have same:h.nx=h.nx∧∃d:Ren,HR d h.blk.get w∧Ext f d h h w w:=⟨rfl,f,hr,Ext.refl _ _ _⟩
 unfold EZ;split
 ·split
  ·split
   ·exact LQ hE hr
   ·exact same
  ·exact same
 ·exact same
theorem Mn {f:Ren} {h h':Aa} (hr:HR f h.blk.get w) {t t' ty:TypeId} {s x a:AV} {n o:Value} (j:VR f s n) (hx:VR f x o) (g:HU E t t' s x h=some (a,h')) (i:AA f h.nx h'.nx)
  (u:∀a h',Hi E t t' s x h=some (a,h')→AA f h.nx h'.nx→AH E f h h' w (Builtin.append_ #[t,t'] ty #[n,o]) a) :
  AH E f h h' w (Builtin.append_ #[t,t'] ty #[n,o]) a:=by
 unfold HU at g;split at g
 ·rename_i z;split at g
  ·rename_i e K;obtain ⟨L,M,q1,q2⟩:=NX (e:=e) (a:=s) hE hr;obtain ⟨N,A,y,p⟩:=NX (e:=e) (a:=x) hE q1;have d:=q2.le.trans p.le;have q:AA A (EZ E e x (EZ E e s h)).nx h'.nx:=Ext.free p (Ext.free q2 i);obtain ⟨B,v,C,D,F,G,H⟩:=GA hE y (j.mono d) (hx.mono d) g q (fun a I J hf2=>J8 hE y (j.mono d) (hx.mono d) J hf2)
   exact ⟨B,v,C,D,F,G,q2.trans (p.trans H (Ext.free q2 i)) i⟩
  ·exact GA hE hr j hx g i u
 ·exact GA hE hr j hx g i u
end
end Go.AE
namespace Go.AE
variable [Gl:Ax]
variable [U:Unk]
theorem LU {d:Option TypeDesc} (h:SL d=true):d=some (.int .u8):=by
 unfold SL at h;split at h
 ·rfl
 ·cases h
theorem LH {d:Option TypeDesc} (h:MK d=true):d=some .string:=by
 unfold MK at h;split at h
 ·rfl
 ·cases h
theorem HV {d:Option (List Kd)} (h:Kt d=true):d=some [.int .u8]:=by
 unfold Kt at h;split at h
 ·rfl
 ·cases h
theorem UL {s:ByteArray} {n:Nat} (h:n<s.data.toList.length):s[n]?=some s.data.toList[n]:=by
 have a:n<s.size:=by simpa using h
 rw [getElem?_pos s n a];rfl
theorem T5 {l:List UInt8} {i:Nat} (hi:i<l.length):((l.map fun b=>D.row [.int b.toNat]).getD i default)=.row [.int l[i].toNat]:=by
 rw [List.getD_eq_getElem?_getD,List.getElem?_map,List.getElem?_eq_getElem hi];rfl
theorem Vy {t:ByteArray} {m i:Nat} (hi:i<t.data.toList.length):(t.data.map (fun (b:UInt8)=>Value.int .u8 b.toNat)++Array.replicate m (Value.int .u8 0)).getD i Go.undef=.int .u8 (t.data.toList[i].toNat:Nat):=by
 have a:i<t.data.size:=by rw [←Array.length_toList];exact hi
 have:(t.data.map (fun (b:UInt8)=>Value.int .u8 b.toNat)++Array.replicate m (Value.int .u8 0))[i]?=some (.int .u8 (t.data.toList[i].toNat:Nat)):=by
  rw [Array.getElem?_append_left (by simpa using a),Array.getElem?_map,Array.getElem?_eq_getElem a]
  simp
 rw [Array.getD_eq_getD_getElem?,this];rfl
theorem Va {K:TypeId→Option (List Kd)} {M:Nat→Option (Array Value)} {c:Array Value} {o:Nat} {rows:List D} (f:o+rows.length≤c.size)
  (h:∀i,i<rows.length→DV K M (.int .u8) (c.getD (o+i) Go.undef) ((rows.getD i default).cells.getD 0 default)) :
  ((c.toList.drop o).take rows.length)=(rows.map fun r=>(r.cells.getD 0 default).toInt).map (Value.int .u8):=by
 apply List.ext_getElem
 ·simp;omega
 ·intro i a b;have hi:i<rows.length:=by simpa using b
  simp only [List.getElem_take,List.getElem_drop,List.getElem_map,Array.getElem_toList];have:=h i hi;have e:c.getD (o+i) Go.undef=c[o+i]'(by omega):=by simp [Array.getD_eq_getD_getElem?,show o+i<c.size by omega]
  rw [e] at this;have d:rows.getD i default=rows[i]:=by simp [List.getD_eq_getElem?_getD,hi]
  rw [d] at this;generalize c[o+i]'(by omega)=v at this ⊢
  cases this with
  |int _ n _ _ q=>rw [q]
theorem PF {x:SE}:(AK U.V (.ofBytes x)).data.toList=((Af U.V x).rows.map fun r=>(r.cells.getD 0 default).toInt).map fun n=>UInt8.ofNat n.toNat:=by
 show (((Af U.V x).rows.map fun r=>UInt8.ofNat (r.cells.getD 0 default).toInt.toNat).toArray).toList=_
 simp
theorem Og (a:List Int) {s:ByteArray} (h:s.data.toList=a.map fun n=>UInt8.ofNat n.toNat):a.foldl (fun r n=>r.push (UInt8.ofNat n.toNat)) ByteArray.empty=s:=by
 have:=JD a ByteArray.empty;have e:(a.foldl (fun r n=>r.push (UInt8.ofNat n.toNat)) ByteArray.empty).data.toList=s.data.toList:=by rw [this,h];simp
 cases s with
 |mk d=>
  generalize a.foldl (fun r n=>r.push (UInt8.ofNat n.toNat)) ByteArray.empty=t at e
  cases t with
  |mk b=>simp only [ByteArray.mk.injEq];exact Array.toList_inj.1 e
theorem Ff {x:SE} (h:(Af U.V x).rows=[]):AK U.V (.ofBytes x)=ByteArray.empty:=by
 show ByteArray.mk (((Af U.V x).rows.map fun r=>UInt8.ofNat (r.cells.getD 0 default).toInt.toNat).toArray)=_
 rw [h];rfl
theorem Ly {P:Program} {w:World} {M:Nat→Option (Array Value)} {b o c:Nat} {a:Array Value} {e:TypeId} {d:Nat×Nat} {y:SE} (g:w.heap[b]?=some (.cells a e d)) (f:o+(Af U.V y).rows.length≤a.size)
  (h:∀i,i<(Af U.V y).rows.length→DV U.K M (.int .u8) (a.getD (o+i) Go.undef) (((Af U.V y).rows.getD i default).cells.getD 0 default)) :
  (Conv.bytesToString (.slice (some ⟨b,o,none⟩) (Af U.V y).rows.length c)).run P w=.ok (.string (AK U.V (.ofBytes y))) w:=by
 have q:=Ay P w b o (Af U.V y).rows.length a e d g f;rw [Va f h] at q;have r:=run_bytesToString w ⟨b,o,none⟩ (Af U.V y).rows.length c ((Af U.V y).rows.map fun r=>(r.cells.getD 0 default).toInt) q
 rw [Og _ PF] at r;exact r
section
variable {E:Env} (hE:OK E) {ρ:Ren} {h:Aa} {w:World}
include hE
theorem Q3 {t:TypeId} {x i a:AV} {l m:Value} (o:VR ρ x l) (hi:VR ρ i m) (b:LZ E t x i=some a) :
  ∃v,(Instr.index t l m).run E.P w=.ok v w∧VR ρ a v:=by
 unfold LZ at b;split at b
 ·rename_i y;split at b
  ·rename_i k c r g;split at b
   ·rename_i s;cases b;obtain ⟨u,p⟩:=KD s;have j:=Cj hi g;subst j;rw [Cg] at p;cases o with
    |ss _=>
     obtain ⟨n,q⟩:∃n:Nat,Ag U.V c=n:=⟨(Ag U.V c).toNat,by omega⟩
     rw [q] at u p ⊢;have d:n<(AK U.V y).data.toList.length:=by omega
     refine ⟨.int .u8 ((AK U.V y).data.toList[n].toNat:Nat),?_,?_⟩
     ·simp only [Instr.index,asIntOf,Sem.run_bind,Sem.run_pure,Result.andThen_ok,hE.run_und r];rw [if_pos (by omega),Int.toNat_natCast,UL d]
      rfl
     ·have:=B5 ρ .u8 (.strAt y c)
      have e:Ag U.V (.strAt y c)=((AK U.V y).data.toList[n].toNat:Nat):=by
       show ((((Af U.V y).toStr.data.toList[(Af U.V c).toInt.toNat]?).getD 0).toNat:Int)=_
       have z:(Af U.V c).toInt.toNat=n:=by
        have:(Af U.V c).toInt=n:=q;omega
       have f:n<(Af U.V y).toStr.data.toList.length:=d;rw [z,List.getElem?_eq_getElem f];rfl
      rw [e] at this;exact this
   ·cases b
  ·cases b
 ·exact Rz hE o (Ha hi) b
theorem Uq (hr:HR ρ h.blk.get w) {s d:TypeId} {x a:AV} {xv:Value} {h':Aa} (C:VR ρ x xv) (g:P3 E s d x h=some (a,h')) (S:AA ρ h.nx h'.nx) :
  AH E ρ h h' w (convert s d xv) a:=by
 unfold P3 at g;split at g
 ·rename_i y;split at g
  ·rename_i e p;split at g
   ·rename_i k;cases g;obtain ⟨k,D⟩:=Ao k;obtain ⟨F,G⟩:=Ao k;have q:=LU F;have H:=HV G;obtain ⟨sd,r⟩:=Option.isSome_iff_exists.1 D;have us:=hE.run_und r w;have I:=hE.run_und p w;have J:=hE.run_und q w;cases C with
    |ss _=>
     generalize ht:AK U.V y=t;have z:ρ h.nx=none:=S h.nx (Nat.le_refl _) (by simp [Aa.new])
     generalize v:grownCap w t.size 0 e=c;have T:t.size≤c:=by rw [←v];exact grownCap_ge w _ _ _
     generalize l:(t.data.map (fun b=>Value.int .u8 b.toNat)++Array.replicate (c-t.size) (.int .u8 0))=arr
     have L:arr.size=c:=by rw [←l];simp;omega
     have W:HR ρ h.blk.get {w with drawn:=w.drawn+1}:=hr.same rfl
     have m:U.K e=some [.int .u8]:=by rw [hE.kd,←hE.ke];exact H
     have er:(Af U.V (.bytes y)).rows=t.data.toList.map fun b=>.row [.int b.toNat]:=by
      show ((Af U.V y).toStr.data.toList.map _)=_;have:(Af U.V y).toStr=t:=ht;rw [this]
     have X:t.size=t.data.toList.length:=by simp
     have A:A8 U.K ρ.imm [.int .u8] arr 0 (Af U.V (.bytes y)).rows:=by
      rw [er];refine ⟨by simp only [List.length_map,List.length_singleton];omega,fun i hi=>?_,fun i j kd hi Y=>?_⟩
      ·have u:i<t.data.toList.length:=by simpa using hi
       rw [T5 u];rfl
      ·have u:i<t.data.toList.length:=by simpa using hi
       have Z:j=0:=by
        cases j with
        |zero=>rfl
        |succ j=>simp at Y
       subst Z;simp only [List.getElem?_cons_zero,Option.some.injEq] at Y;subst Y;rw [T5 u];show DV U.K ρ.imm (.int .u8) (arr.getD (0+i*1+0) Go.undef) (.int (t.data.toList[i].toNat:Nat));rw [show 0+i*1+0=i by omega,←l,Vy u]
       have R:=t.data.toList[i].toNat_lt;exact .int .u8 _ _ (.inr ⟨by show (0:Int)≤_;omega,by show _≤(255:Int);omega⟩) rfl
     obtain ⟨p1,p2⟩:=W.new z (.arr e (.bytes y)) (.cells arr e (arr.size,arr.size+1)) arr.size ⟨_,_,e,_,m,rfl,rfl,.inr (Nat.le_refl _),A⟩ {w with drawn:=w.drawn+1,heap:=w.heap.push (.cells arr e (arr.size,arr.size+1))} rfl rfl rfl rfl
     refine ⟨_,.slice (some ⟨w.heap.size,0,none⟩) t.size c,_,?_,?_,p1,p2.drawn rfl rfl rfl rfl⟩
     ·have aa:(choose (.appendCap t.size 0 e)).run E.P w=.ok c {w with drawn:=w.drawn+1}:=by rw [←v];simp [Question.forced,grownCap]
      have B:(convert s d (.string t)).run E.P w=(Conv.stringToBytes e t).run E.P w:=by
       cases sd<;>simp [convert,us,I,J]
      rw [B];simp only [Conv.stringToBytes,Sem.run_bind,aa,Result.andThen_ok,newRow,run_newObj,Sem.run_pure,l];simp only [markStringish,Sem.run_bind,run_shape,Result.andThen_ok];have ab:({w with drawn:=w.drawn+1,heap:=w.heap.push (.cells arr e)}:World).shape? w.heap.size=some (e,arr.size):=by simp [World.shape?]
      rw [ab];simp only [run_freeze,Result.andThen_ok]
      have ac:({w with drawn:=w.drawn+1,heap:=w.heap.push (.cells arr e)}:World).freeze ⟨w.heap.size,arr.size,none⟩ 1={w with drawn:=w.drawn+1,heap:=w.heap.push (.cells arr e (arr.size,arr.size+1))}:=by
       simp [World.freeze,Iw]
      rw [ac]
     ·have f:Ag U.V (.lenL (.bytes y))=(t.size:Nat):=by rw [Ak,er,X];simp
      have:=VR.asl (ρ:=ρ.upd h.nx ⟨w.heap.size,0,arr.size⟩) h.nx 1 (.lenL (.bytes y)) (.bc false) c ⟨w.heap.size,0,arr.size⟩ (Ren.upd_same _ _ _) (by rw [f];exact Int.natCast_nonneg _) (by rw [f];simpa using T) (by show 0+c*1≤arr.size;rw [L];omega) rfl
      rw [f] at this;simpa using this
   ·cases g
  ·exact Nn hE hr C g S
 ·rename_i e' y;split at g
  ·rename_i e r;split at g
   ·rename_i k;cases g;obtain ⟨k,c4⟩:=Ao k;obtain ⟨k,D⟩:=Ao k;obtain ⟨F,G⟩:=Ao k;have h0:=As F;subst h0;have q:=LU G;have H:=HV D;have p:=LH c4;have m:U.K e=some [.int .u8]:=by rw [hE.kd,←hE.ke];exact H
    cases C with
    |dat _ _ ad n c ae=>
     refine At hr ⟨_,?_,.ss (.ofBytes y)⟩;have us:=hE.run_und r w;have I:=hE.run_und p w;have J:=hE.run_und q w;cases ae with
     |nil _ _ g1 N=>
      rw [Ff N];simp [convert,us,I,J,Conv.bytesToString]
     |empty _ a1 _ _ g1 N=>
      rw [run_convert_bytes_string w s d e _ _ _ (hE.und r) (hE.und q) (hE.und p),Ff N];exact run_bytesToString (P:=E.P) w a1 0 c [] (by simp [Go.loadCells,loadCellsFrom])
     |slc _ b o _ _ _ ks arr O af hn ai g1 ag ah hv=>
      rw [m] at O;cases O;obtain ⟨e1,fz,R⟩:=hr.imm b arr af;rw [run_convert_bytes_string w s d e _ _ _ (hE.und r) (hE.und q) (hE.und p),←hn];refine Ly (M:=ρ.imm) R (by rw [hn];simpa using ag) (fun i hi=>?_)
      have:=hv i 0 _ (by omega) rfl
      simpa using this
   ·cases g
  ·cases g
 ·rename_i b es n nl;split at g
  ·rename_i e e' y r hg;split at g
   ·rename_i k;cases g;obtain ⟨k,c5⟩:=Ao k;obtain ⟨k,c4⟩:=Ao k;obtain ⟨k,D⟩:=Ao k;obtain ⟨F,G⟩:=Ao k;have h0:=As F;subst h0;have q:=LU G;have H:=HV D;have p:=LH c4;have f:=Ey c5;have m:U.K e=some [.int .u8]:=by rw [hE.kd,←hE.ke];exact H
    have us:=hE.run_und r w;have I:=hE.run_und p w;have J:=hE.run_und q w;cases C with
    |asl _ _ _ _ c Q R q0 qc qz qn=>
     refine At hr ⟨_,?_,.ss (.ofBytes y)⟩;obtain ⟨ks,aj,et,fz,r1,r2,r3,r4,r5⟩:=hr.blk b Q _ R hg;rw [m] at r1;cases r1;rw [run_convert_bytes_string w s d e _ _ _ (hE.und r) (hE.und q) (hE.und p),f,Ak,Int.toNat_natCast];refine Ly (M:=ρ.imm) r2 (by simpa using r5.1) (fun i hi=>?_)
     have:=r5.2.2 i 0 _ hi rfl;simpa using this
    |aslEnd _ _ _ _ ad q0 qn=>
     refine At hr ⟨_,?_,.ss (.ofBytes y)⟩;rw [f,Ak] at q0;have N:(Af U.V y).rows=[]:=List.eq_nil_of_length_eq_zero (by omega)
     rw [Ff N];cases ad with
     |none=>simp [convert,us,I,J,Conv.bytesToString]
     |some a1=>
      rw [run_convert_bytes_string w s d e _ _ _ (hE.und r) (hE.und q) (hE.und p)];exact run_bytesToString (P:=E.P) w a1 0 0 [] (by simp [Go.loadCells,loadCellsFrom])
   ·cases g
  ·cases g
 ·exact Nn hE hr C g S
end
end Go.AE

