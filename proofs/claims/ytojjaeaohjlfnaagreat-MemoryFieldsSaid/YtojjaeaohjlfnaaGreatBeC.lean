/- What is proved here: an evaluator of the model's steps that the kernel can run, and that whatever it answers is what the model does (part 3 of 8: AeOps15, AeOps16, AeOps17, AeOps18, AeDat1, AeDat2, AeDat3, AeDat4, AeFrz, AeDat5). Conditions: those that each theorem states; they hold of no one program. -/
import Derived.Test.YtojjaeaohjlfnaaGreatBeB
import Derived.Lib.Bytealg
import Derived.Laws.BytesString
set_option linter.unusedVariables false
set_option linter.unusedSectionVars false
set_option linter.unusedSimpArgs false
namespace Go.AE
variable [Gl:AH]
variable [U:Unk]
theorem Sz {d:Ren} (P:Program) (w:World) (k:IntKind):∀{l:List AV} {b:List Value} {x:Int} {a:AV},VL d l b→Jh k x l=some a→∃v,(b.foldlM Builtin.max2 (.int k x)).run P w=.ok v w∧VR d a v:=by
 intro l
 induction l with
 |nil=>intro b x a c h;rw [c.nil_inv];simp only [Jh,Option.some.injEq] at h;subst h;exact ⟨_,by simp,.int _ _⟩
 |cons y r ih=>
  intro b x a c h;obtain ⟨v,i,rfl,e,hr⟩:=c.cons_inv;cases e<;>simp only [Jh] at h<;>first | (cases h;done)|skip
  obtain ⟨u,f,g⟩:=ih hr h;exact ⟨u,by simp only [List.foldlM_cons,Builtin.max2,Sem.run_bind,Sem.run_pure,Result.andThen_ok];exact f,g⟩
theorem So {d:Ren} (P:Program) (w:World) (k:IntKind):∀{l:List AV} {b:List Value} {x:Int} {a:AV},VL d l b→Iy k x l=some a→∃v,(b.foldlM Builtin.min2 (.int k x)).run P w=.ok v w∧VR d a v:=by
 intro l
 induction l with
 |nil=>intro b x a c h;rw [c.nil_inv];simp only [Iy,Option.some.injEq] at h;subst h;exact ⟨_,by simp,.int _ _⟩
 |cons y r ih=>
  intro b x a c h;obtain ⟨v,i,rfl,e,hr⟩:=c.cons_inv;cases e<;>simp only [Iy] at h<;>first | (cases h;done)|skip
  obtain ⟨u,f,g⟩:=ih hr h;exact ⟨u,by simp only [List.foldlM_cons,Builtin.min2,Sem.run_bind,Sem.run_pure,Result.andThen_ok];exact f,g⟩
theorem PW {ρ:Ren}:∀{l:List AV} {c:List Value} {n:Nat},Kj l=some n→VL ρ l c→∃b:List Int,c=b.map (Value.int .u8)∧b.length=l.length∧AA (b.map fun n=>UInt8.ofNat n.toNat)=n
 |[],c,n,h,d=>by
  simp only [Kj,Option.some.injEq] at h;subst h;rw [d.nil_inv];exact ⟨[],rfl,rfl,rfl⟩
 |a::l,c,n,h,d=>by
  obtain ⟨v,r,rfl,e,f⟩:=d.cons_inv;cases e<;>first | (cases h;done)|skip
  rename_i k m;cases k<;>first | (cases h;done)|skip
  cases m with
  |negSucc m=>cases h
  |ofNat m=>
   simp only [Kj] at h;cases g:Kj l with
   |none=>simp [g] at h
   |some q=>
    simp only [g,Option.some.injEq] at h;subst h;obtain ⟨b,i,j,o⟩:=PW g f;refine ⟨(m:Int)::b,by simp [i],by simp [j],?_⟩
    simp only [List.map_cons,AA,o,Int.toNat_natCast];simp
theorem Lh (a:List Int):∀(s:ByteArray),(a.foldl (fun r n=>r.push (UInt8.ofNat n.toNat)) s).data.toList=s.data.toList++a.map fun n=>UInt8.ofNat n.toNat:=by
 induction a with
 |nil=>intro s;simp
 |cons n a ih=>intro s;simp only [List.foldl_cons,ih,List.map_cons];simp [ByteArray.push]
theorem J8 {b:Type} (a:Array b) (x:b) (f:b→b):(a.push x).modify a.size f=a.push (f x):=by
 apply Array.ext_getElem?;intro i;simp only [Array.getElem?_modify,Array.getElem?_push];by_cases h:i=a.size
 ·subst h;simp
 ·rw [if_neg (fun e=>h e.symm),if_neg h,if_neg h]
section
variable {E:Env} (hE:OK E) {ρ:Ren} {h:Aa} {w:World}
include hE
theorem PH (hr:HR ρ h.blk.get w) {s d:TypeId} {x a:AV} {xv:Value} {h':Aa} (hx:VR ρ x xv) (f:Te E s d x h=some (a,h')) (hf:AG ρ h.nx h'.nx) :
  AP E ρ h h' w (convert s d xv) a:=by
 unfold Te at f;cases M:E.desc s with
 |none=>rw [M] at f;cases f
 |some A=>
  cases N:E.desc d with
  |none=>rw [M,N] at f;cases A<;>cases f
  |some J=>
   rw [M,N] at f;have us:=hE.run_und M w;have X:=hE.run_und N w;cases hx with
   |int k n=>
    cases J<;>first | (cases f;done) | (cases A<;>(cases f;done))|skip
    simp only [Option.some.injEq,Prod.mk.injEq] at f;obtain ⟨rfl,rfl⟩:=f;exact Az hr ⟨_,by simp [convert,us,X,Conv.intToInt],.int _ _⟩
   |si k e=>
    cases J<;>first | (cases f;done) | (cases A<;>(cases f;done))|skip
    simp only [Option.some.injEq,Prod.mk.injEq] at f;obtain ⟨rfl,rfl⟩:=f;exact Az hr ⟨_,by simp [convert,us,X,Conv.intToInt,Lk],B9 ρ _ (.conv _ e)⟩
   |ss i=>
    cases J<;>first | (cases f;done) | (cases A<;>(cases f;done))|skip
    simp only [Option.some.injEq,Prod.mk.injEq] at f;obtain ⟨rfl,rfl⟩:=f;refine Az hr ⟨.string (AR U.V i),?_,.ss i⟩;cases A<;>simp [convert,us,X]
   |str t=>
    cases J<;>first | (cases f;done) | (cases A<;>(cases f;done))|skip
    ·simp only [Option.some.injEq,Prod.mk.injEq] at f;obtain ⟨rfl,rfl⟩:=f;refine Az hr ⟨.string t,?_,.str t⟩;cases A<;>simp [convert,us,X]
    ·rename_i e;simp only [] at f;cases g:E.desc e with
     |none=>rw [g] at f;cases f
     |some B=>
      have O:=hE.run_und g w;rw [g] at f;cases B<;>first | (cases f;done)|skip
      rename_i k;cases k<;>first | (cases f;done)|skip
      simp only [Option.some.injEq,Prod.mk.injEq] at f;obtain ⟨rfl,rfl⟩:=f;have Q:ρ h.nx=none:=hf h.nx (Nat.le_refl _) (by simp [Aa.new])
      generalize u:grownCap w t.size 0 e=j;have aa:t.size≤j:=by rw [←u];exact grownCap_ge w _ _ _
      generalize C:(t.data.map (fun b=>Value.int .u8 b.toNat)++Array.replicate (j-t.size) (.int .u8 0))=arr
      have ab:arr.size=j:=by rw [←C];simp;omega
      have af:HR ρ h.blk.get {w with drawn:=w.drawn+1}:=hr.same rfl
      obtain ⟨p1,p2⟩:=af.new Q (.cells t.data.toList.length (.ofList (bytesOf t.data.toList.length (AA t.data.toList)))) (.cells arr e (arr.size,arr.size+1)) arr.size (by
       refine ⟨arr,e,_,rfl,rfl,?_,.inr (Nat.le_refl _),?_⟩
       ·show 0+_≤arr.size;simp;omega
       ·intro i a hi f;rw [T.get_ofList,FY] at f;obtain ⟨v,hv,ag⟩:=(QC (ρ.upd h.nx ⟨w.heap.size,0,arr.size⟩) t.data.toList).get f;refine ⟨v,?_,ag⟩;rw [←C];have ah:i<t.size:=by simpa using hi
        simp only [Nat.zero_add];rw [Array.getElem?_append_left (by simpa using ah)]
        simpa using hv) {w with drawn:=w.drawn+1,heap:=w.heap.push (.cells arr e (arr.size,arr.size+1))} rfl rfl rfl rfl
      refine ⟨_,.slice (some ⟨w.heap.size,0,none⟩) t.size j,_,?_,?_,p1,p2.drawn rfl rfl rfl rfl⟩
      ·have ai:(choose (.appendCap t.size 0 e)).run E.P w=.ok j {w with drawn:=w.drawn+1}:=by rw [←u];simp [Question.forced,grownCap]
       have R:(convert s d (.string t)).run E.P w=(Conv.stringToBytes e t).run E.P w:=by
        cases A<;>simp [convert,us,X,O]
       rw [R];simp only [Conv.stringToBytes,Sem.run_bind,ai,Result.andThen_ok,newRow,run_newObj,Sem.run_pure,C];simp only [markStringish,Sem.run_bind,run_shape,Result.andThen_ok];have S:({w with drawn:=w.drawn+1,heap:=w.heap.push (.cells arr e)}:World).shape? w.heap.size=some (e,arr.size):=by simp [World.shape?]
       rw [S];simp only [run_freeze,Result.andThen_ok]
       have aj:({w with drawn:=w.drawn+1,heap:=w.heap.push (.cells arr e)}:World).freeze ⟨w.heap.size,arr.size,none⟩ 1={w with drawn:=w.drawn+1,heap:=w.heap.push (.cells arr e (arr.size,arr.size+1))}:=by
        simp [World.freeze,J8]
       rw [aj]
      ·have W:t.size=t.data.toList.length:=by simp
       rw [W] at aa ⊢;exact VR.slice h.nx 0 _ 1 j _ (Ren.upd_same _ _ _) aa (by simp [ab])
   |slice0=>
    cases J<;>cases A<;>first | (cases f;done)|skip
    rename_i e;simp only [] at f;cases g:E.desc e with
    |none=>rw [g] at f;cases f
    |some B=>
     have O:=hE.run_und g w;rw [g] at f;cases B<;>first | (cases f;done)|skip
     rename_i k;cases k<;>first | (cases f;done)|skip
     simp only [Option.some.injEq,Prod.mk.injEq] at f;obtain ⟨rfl,rfl⟩:=f;exact Az hr ⟨.string .empty,by simp [convert,us,X,O,Conv.bytesToString],.str .empty⟩
   |slice b off len es j base K u hz=>
    cases J<;>cases A<;>first | (cases f;done)|skip
    ·rename_i e;simp only [] at f;cases g:E.desc e with
     |none=>rw [g] at f;cases f
     |some B=>
      have O:=hE.run_und g w;rw [g] at f;cases B<;>first | (cases f;done)|skip
      rename_i k;cases k<;>first | (cases f;done)|skip
      simp only [] at f;cases m:BW h b off len with
      |none=>simp [m] at f
      |some l=>
       simp only [m] at f;cases hp:Kj l with
       |none=>simp [hp] at f
       |some n=>
        simp only [hp,Option.some.injEq,Prod.mk.injEq] at f;obtain ⟨rfl,rfl⟩:=f;unfold BW at m;cases o:h.blk.get b with
        |none=>simp [o] at m
        |some y=>
         cases y with
         |cells sz c=>
          simp only [o] at m;cases Y:Nat.ble (off+len) sz with
          |false=>simp [Y] at m
          |true=>
           simp only [Y] at m;have ac:=(T.range_spec c _ _ _ m).1;obtain ⟨vs,q1,q2,q3⟩:=hr.loadCells E.P K o (Cu Y) m;obtain ⟨ns,n1,n2,n3⟩:=PW hp q1;rw [n1] at q2;have D:=run_bytesToString (P:=E.P) w ⟨base.cb,base.co+off,none⟩ len j ns q2;refine Az hr ⟨_,by rw [run_convert_bytes_string w s d e _ _ _ (hE.und M) (hE.und g) (hE.und N)];exact D,?_⟩
           have hv:=VR.str (ρ:=ρ) (ns.foldl (fun r n=>r.push (UInt8.ofNat n.toNat)) ByteArray.empty)
           have e0:(ByteArray.empty.data.toList++ns.map fun n=>UInt8.ofNat n.toNat)=ns.map fun n=>UInt8.ofNat n.toNat:=by simp
           rw [Lh,e0,List.length_map,n3,n2,ac] at hv;exact hv
         |_=>simp [o] at m
    ·rename_i e e';simp only [] at f;cases g:E.desc e with
     |none=>rw [g] at f;cases f
     |some B=>
      have O:=hE.run_und g w;rw [g] at f;cases B<;>first | (cases f;done)|skip
      rename_i k;cases k<;>first | (cases f;done)|skip
      simp only [] at f;cases z:Nat.beq s d with
      |false=>rw [z] at f;cases f
      |true=>
       cases len with
       |zero=>rw [z] at f;cases f
       |succ len=>
        cases o:h.blk.get b with
        |none=>rw [z,o] at f;cases f
        |some y=>
         cases y<;>first | (rw [z,o] at f;cases f;done)|skip
         rename_i sz c;rw [z,o] at f;simp only [Option.some.injEq,Prod.mk.injEq] at f;obtain ⟨rfl,rfl⟩:=f;have ae:=Ay z;subst ae;rw [M] at N;cases N;obtain ⟨p,e1,L,r1,r2,r3,r4,r5⟩:=hr.blk b base _ K o;have ao:=hr.lt b base K;have S:w.shape? base.cb=some (e1,p.size):=by simp [World.shape?,r1]
         obtain ⟨F,G⟩:∃F,F=w.freeze ⟨base.cb,p.size,none⟩ 1:=⟨_,rfl⟩
         have ak:F.heap[base.cb]?=some (.cells p e1 (if L.1==L.2 then (p.size,p.size+1) else (min L.1 p.size,max L.2 (p.size+1)))):=by
          rw [G];unfold World.freeze;rw [if_neg (by omega)]
          show (w.heap.modify base.cb _)[base.cb]?=_;rw [Array.getElem?_modify,if_pos rfl,r1];rfl
         have H:∀k,k≠base.cb→F.heap[k]?=w.heap[k]?:=by
          intro k hk;rw [G];unfold World.freeze;rw [if_neg (by omega)]
          show (w.heap.modify base.cb _)[k]?=_;rw [Array.getElem?_modify,if_neg (fun e=>hk e.symm)]
         have W:F.heap.size=w.heap.size:=by rw [G];simp [World.freeze]
         have I:F.os=w.os∧F.tape=w.tape∧F.output=w.output:=by rw [G];simp [World.freeze]
         have al:BR ρ (.cells sz c) base F.heap[base.cb]?:=by
          refine ⟨p,e1,_,ak,r2,r3,?_,r5⟩;by_cases q:L.1=L.2
          ·right;simp [q,r2]
          ·have:=r4.resolve_left q;right;have q':(L.1==L.2)=false:=by simpa using q
           rw [q'];simp only [Bool.false_eq_true,if_false];omega
         have am:HR ρ h.blk.get F:=by
          refine ⟨fun c d Z=>W▸hr.lt c d Z,?_,hr.apart,fun k arr hk=>by rw [H k (hr.off k arr b base hk K (by rw [o];simp)).symm];exact hr.imm k arr hk,hr.off,hr.glob⟩
          intro c' d y Z hy;by_cases e:c'=b
          ·subst e;rw [K] at Z;cases Z;rw [o] at hy;cases hy;exact al
          ·rw [H _ (hr.apart c' b d base e Z K (by rw [hy];simp) (by rw [o];simp))]
           exact hr.blk c' d y Z hy
         refine ⟨ρ,.slice (some ⟨base.cb,base.co+off,none⟩) (len+1) j,F,?_,.slice b off (len+1) es j base K u hz,am,⟨Ren.le_refl ρ,Nat.le_refl _,fun _ _ e=>.inl e,⟨I.1,I.2.1,I.2.2,by omega⟩,?_,⟨[],rfl,fun _ _ _=>rfl⟩,fun _ e=>.inl e,fun _ _ e=>.inl e⟩⟩
         ·simp only [convert,Sem.run_bind,us,Result.andThen_ok,O,beq_self_eq_true,markStringish,run_shape,S,run_freeze,Sem.run_pure,←G]
         ·intro k hk hn;exact H k (fun e=>hn b base K (by rw [o];simp) e.symm)
   |sliceEnd b off es ad=>
    cases J<;>cases A<;>first | (cases f;done)|skip
    ·rename_i e;simp only [] at f;cases g:E.desc e with
     |none=>rw [g] at f;cases f
     |some B=>
      have O:=hE.run_und g w;rw [g] at f;cases B<;>first | (cases f;done)|skip
      rename_i k;cases k<;>first | (cases f;done)|skip
      simp only [] at f;cases m:BW h b off 0 with
      |none=>simp [m] at f
      |some l=>
       simp only [m] at f
       have an:l=[]:=by
        unfold BW at m;cases o:h.blk.get b with
        |none=>simp [o] at m
        |some y=>
         cases y with
         |cells sz c=>
          simp only [o] at m;cases Y:Nat.ble (off+0) sz with
          |false=>simp only [Y] at m;cases m
          |true=>simp only [Y,T.range,Option.some.injEq] at m;exact m.symm
         |_=>simp [o] at m
       subst an;simp only [Kj,Option.some.injEq,Prod.mk.injEq] at f;obtain ⟨rfl,rfl⟩:=f;have D:=run_bytesToString (P:=E.P) w ad 0 0 [] (by simp [Go.loadCells,loadCellsFrom])
       exact Az hr ⟨_,by rw [run_convert_bytes_string w s d e _ _ _ (hE.und M) (hE.und g) (hE.und N)];exact D,.str .empty⟩
    ·rename_i e e';simp only [] at f;cases g:E.desc e with
     |none=>rw [g] at f;cases f
     |some B=>
      rw [g] at f;cases B<;>first | (cases f;done)|skip
      rename_i k;cases k<;>first | (cases f;done)|skip
      simp only [] at f;cases Nat.beq s d<;>cases h.blk.get b<;>simp at f
   |_=>cases J<;>first | (cases f;done) | (cases A<;>(cases f;done))
end
end Go.AE
namespace Go.AE
variable [Gl:AH]
variable [U:Unk]
theorem Hb (c:UInt8) (s:ByteArray):∀(n i:Nat),i+n=s.size→Dp c.toNat n (AA (s.data.toList.drop i)) i=(match (List.range' i n).find? (fun j=>s[j]! == c) with|some j=>(j:Int)|none=>-1)
 |0,i,h=>by simp [Dp]
 |n+1,i,h=>by
  have hi:i<s.data.toList.length:=by simp;omega
  have b:s.data.toList.drop i=s.data.toList[i]::s.data.toList.drop (i+1):=List.drop_eq_getElem_cons hi
  have d:s[i]! = s.data.toList[i]:=by
   have a:i<s.size:=by omega
   rw [getElem!_pos s i a];rfl
  obtain ⟨f,g⟩:=D8 s.data.toList[i] (s.data.toList.drop (i+1));rw [b];simp only [Dp,f,g,List.range'_succ,List.find?_cons,d];by_cases e:s.data.toList[i]=c
  ·rw [e];simp
  ·have k:Nat.beq s.data.toList[i].toNat c.toNat=false:=Ef (fun q=>e (UInt8.toNat_inj.1 q))
   have l:(s.data.toList[i]==c)=false:=by simpa using e
   rw [k,l];exact Hb c s n (i+1) (by omega)
section
variable {E:Env} (hE:OK E) {ρ:Ren} {h:Aa} {w:World}
include hE
theorem SL {x a:AV} {q:Value} {n t:TypeId} {ok:Bool} (s:VR ρ x q) (c:Ot E x t ok=some a) :
  ∃v,(Instr.typeAssert q n t ok).run E.P w=.ok v w∧VR ρ a v:=by
 unfold Ot at c;cases o:E.desc t with
 |none=>rw [o] at c;cases c
 |some d=>
  rw [o] at c;have r:=hE.run_und o w
  have e:∀(v:AV) (g:Value) (b:Bool),VR ρ v g→VR ρ (.tuple [v,.bool b]) (.tuple #[g,.bool b]):=by
   intro v g b l;have:=VL.cons l (VL.cons (VR.bool (ρ:=ρ) b) (VL.nil ρ));exact .tuple _ [g,.bool b] this.1 this.2
  simp only [] at c;cases i:Qd d with
  |true=>simp [i] at c
  |false=>
   simp only [i] at c;cases s<;>first | (cases c;done)|skip
   ·rename_i m v g l;simp only [OR] at c
    have f:(Instr.typeAssert (.iface m g) n t ok).run E.P w=(if m=t then (pure (if ok then .tuple #[g,.bool true] else g):Sem Value) else
      (if ok then (do pure (.tuple #[←zeroValue t,.bool false])) else runtimePanic (.typeAssertion (some n) (some m) t ""))).run E.P w:=by
     cases d<;>first | (cases i;done)|simp only [Instr.typeAssert,Sem.run_bind,r,Result.andThen_ok]
    cases k:Nat.beq m t with
    |true=>
     have:=Ay k;cases ok with
     |true=>
      simp only [k,Option.some.injEq] at c;subst c;exact ⟨_,by rw [f,if_pos this];rfl,e v g true l⟩
     |false=>
      simp only [k,Option.some.injEq] at c;subst c;exact ⟨_,by rw [f,if_pos this];rfl,l⟩
    |false=>
     have:=Qe k;cases ok with
     |true=>
      cases j:E.zero t with
      |none=>simp [k,j] at c
      |some z=>
       simp only [k,j,Option.some.injEq] at c;subst c;obtain ⟨p,z1,z2⟩:=hE.run_zero ρ j w;exact ⟨_,by rw [f,if_neg this];simp [z1],e z p false (AL ρ z2)⟩
     |false=>simp [k] at c
   ·simp only [OR] at c;cases ok with
    |false=>cases j:E.zero t<;>simp at c
    |true=>
     cases j:E.zero t with
     |none=>simp [j] at c
     |some z=>
      simp only [j,Option.some.injEq] at c;subst c;obtain ⟨p,z1,z2⟩:=hE.run_zero ρ j w;refine ⟨_,?_,e z p false (AL ρ z2)⟩;cases d<;>first | (cases i;done)|simp [Instr.typeAssert,r,z1]
theorem Va (hr:HR ρ h.blk.get w) {t:TypeId} {x a:AV} {n:Value} {h':Aa} (o:VR ρ x n) (f:SI E t x h=some (a,h')) (j:AG ρ h.nx h'.nx) :
  AP E ρ h h' w (Instr.range t n) a:=by
 unfold SI at f;cases k:E.desc t with
 |none=>rw [k] at f;cases f
 |some d=>
  rw [k] at f;have l:=hE.run_und k w;cases d<;>first | (cases f;done)|skip
  ·cases o<;>first | (cases f;done)|skip
   rename_i s;simp only [Option.some.injEq,Prod.mk.injEq] at f;obtain ⟨rfl,rfl⟩:=f;have c:ρ h.nx=none:=j h.nx (Nat.le_refl _) (by simp [Aa.new])
   obtain ⟨p1,p2⟩:=hr.new c (.strIter s.data.toList.length (AA s.data.toList) 0) (.stringIter s 0) 0 ⟨rfl,s,rfl,rfl,rfl⟩ {w with heap:=w.heap.push (.stringIter s 0)} rfl rfl rfl rfl
   refine ⟨_,.pointer (some ⟨w.heap.size,0,none⟩),_,by simp [Instr.range,l],?_,p1,p2⟩
   exact .ptr h.nx 0 _ (Ren.upd_same _ _ _)
  rename_i u v
  ·cases o<;>first | (cases f;done)|skip
   ·simp only [Option.some.injEq,Prod.mk.injEq] at f;obtain ⟨rfl,rfl⟩:=f;have c:ρ h.nx=none:=j h.nx (Nat.le_refl _) (by simp [Aa.new])
    obtain ⟨p1,p2⟩:=hr.new c (.mapIter none 0 [] 0) (.mapIter none 0 #[] 0) 0 ⟨rfl,rfl⟩ {w with heap:=w.heap.push (.mapIter none 0 #[] 0)} rfl rfl rfl rfl
    refine ⟨_,.pointer (some ⟨w.heap.size,0,none⟩),_,by simp [Instr.range,l],?_,p1,p2⟩
    exact .ptr h.nx 0 _ (Ren.upd_same _ _ _)
   ·rename_i b base p;simp only [] at f;cases i:h.blk.get b with
    |none=>simp [i] at f
    |some y=>
     cases y with
     |map z e=>
      simp only [i,Option.some.injEq,Prod.mk.injEq] at f;obtain ⟨rfl,rfl⟩:=f;obtain ⟨q,r,A⟩:=hr.blk b base _ p i;have g:=Au (w:=w) E.P r (by simp)
      have c:ρ h.nx=none:=j h.nx (Nat.le_refl _) (by simp [Aa.new])
      obtain ⟨p1,p2⟩:=hr.new c (.mapIter (some b) e [] e) (.mapIter (some base.cb) e #[] e) 0 ⟨rfl,base,(Ren.le_upd c _).m _ _ p,rfl⟩ {w with heap:=w.heap.push (.mapIter (some base.cb) e #[] e)} rfl rfl rfl rfl
      refine ⟨_,.pointer (some ⟨w.heap.size,0,none⟩),_,by simp [Instr.range,l,g],?_,p1,p2⟩
      exact .ptr h.nx 0 _ (Ren.upd_same _ _ _)
     |_=>simp [i] at f
end
end Go.AE
namespace Go.AE
variable [Gl:AH]
variable [U:Unk]
section
variable {E:Env} (hE:OK E) {ρ:Ren} {h:Aa} {w:World}
theorem TV (b:Nat):∀(l:List Nat),Jd b l=l.toArray.contains b
 |[]=>by simp [Jd]
 |a::r=>by
  have h:=TV b r;simp only [List.contains_toArray] at h ⊢;simp only [Jd,List.contains_cons,h];by_cases e:a=b
  ·subst e;simp
  ·rw [Ef e];simp [Ne.symm e]
theorem PX (seen:List Nat):∀(b:List Aj) (a:List MapEntry),ER ρ b a→ER ρ (Bp seen b) (a.filter fun e=>!seen.toArray.contains e.born)
 |[],[],_=>trivial
 |e::r,j::d,h=>by
  obtain ⟨f,g,c,i⟩:=h;have ih:=PX seen r d i;unfold Bp;rw [List.filter_cons,c,←TV];cases Jd e.born seen with
  |true=>simp only [Bool.not_true,Bool.false_eq_true,if_false];exact ih
  |false=>simp only [Bool.not_false,if_true];exact ⟨f,g,c,ih⟩
 |[],_::_,h=>h.elim
 |_::_,[],h=>h.elim
theorem TK (a last:Nat):∀(f:List Aj) (b:List MapEntry),ER ρ f b→Kv a last f=true→∀e∈b,e.born<a∧e.born<last
 |[],[],_,_=>fun e g=>by cases g
 |e::r,l::i,h,c=>by
  obtain ⟨m,n,j,k⟩:=h;simp only [Kv] at c;obtain ⟨c,o3⟩:=An c;obtain ⟨o1,o2⟩:=An c;intro x d;rcases List.mem_cons.1 d with rfl|d
  ·rw [j];exact ⟨Ge o1,Ge o2⟩
  ·exact TK a last r i k o3 x d
 |[],_::_,h,_=>h.elim
 |_::_,[],h,_=>h.elim
theorem SA {a:Type} {p:a→Bool} {l:List a} (h:∀x∈l,p x=true):l.filter p=l:=List.filter_eq_self.2 h
theorem Qj {a:Type} {p:a→Bool} {l:List a} (h:∀x∈l,p x=false):l.filter p=[]:=List.filter_eq_nil_iff.2 fun x b=>by rw [h x b];simp
theorem Ps (hr:HR ρ h.blk.get w) {r m a d last:Nat} {seen:List Nat} {i:List Aj} {base:Br} {fz:Option Nat} {ty:TypeId} (s:ρ r=some base) (t:h.blk.get r=some (.mapIter (some m) a seen last)) (n:h.blk.get m=some (.map i d))
  (u:Kv a last i=true) :
  ∃b o:List MapEntry,∃j,ρ m=some j∧base.co=0∧ER ρ (Bp seen i) o∧(Instr.next (.pointer (some ⟨base.cb,base.co,fz⟩)) false ty).run E.P w=(do
   let c:=(if o.toArray.isEmpty then #[none] else #[])++o.toArray.map some
   match c[←choose (.mapNext c.size)]? with
   |some (some e)=>
    setObj base.cb (.mapIter (some j.cb) a (seen.toArray.push e.born) d)
    pure (.tuple #[.bool true,e.key,e.val])
   |some none=>pure (.tuple #[.bool false])
   |none=>stuck "Next: no such candidate" : Sem Value).run E.P w:=by
 obtain ⟨k,j,q,v⟩:=hr.blk r base _ s t;have l:=Au (w:=w) E.P v (by simp)
 obtain ⟨b,m1,m2⟩:=hr.blk m j _ q n;have g:=Au (w:=w) E.P m1 (by simp)
 refine ⟨b,b.filter fun e=>!seen.toArray.contains e.born,j,q,k,PX seen i b m2,?_⟩
 have f:=TK a last i b m2 u
 have y:(!b.toArray.isEmpty&&b.toArray.all (fun e=>decide (e.born≥last)))=false:=by
  cases b with
  |nil=>rfl
  |cons e r=>
   have:=(f e (by simp)).2
   simp [show ¬last≤e.born by omega]
 have z:(b.toArray.filter fun e=>!seen.toArray.contains e.born)=(b.filter fun e=>!seen.toArray.contains e.born).toArray:=by simp
 have A:((b.filter fun e=>!seen.toArray.contains e.born).toArray.filter fun e=>decide (e.born<a))=(b.filter fun e=>!seen.toArray.contains e.born).toArray:=by
  rw [List.filter_toArray,SA];intro x p;simpa using (f x (List.mem_filter.1 p).1).1
 have B:((b.filter fun e=>!seen.toArray.contains e.born).toArray.filter fun e=>decide (e.born≥a)) = #[]:=by
  rw [List.filter_toArray,Qj];intro x p;have:=(f x (List.mem_filter.1 p).1).1;simpa using this
 simp only [k,Instr.next,Sem.run_bind,l,Result.andThen_ok,g];rw [Bool.and_assoc,y,Bool.and_false];simp only [Bool.false_eq_true,if_false,z,A,B,Array.append_empty];simp only [Sem.run_bind];rfl
theorem N2 {x y:AV} {a b:Value} (c:VR ρ x a) (d:VR ρ y b):VR ρ (.tuple [.bool true,x,y]) (.tuple #[.bool true,a,b]):=by
 have:=VL.cons (VR.bool (ρ:=ρ) true) (VL.cons c (VL.cons d (VL.nil ρ)));exact .tuple _ [.bool true,a,b] this.1 this.2
theorem RG:VR ρ (.tuple [.bool false]) (.tuple #[.bool false]):=by
 have:=VL.cons (VR.bool (ρ:=ρ) false) (VL.nil ρ);exact .tuple _ [.bool false] this.1 this.2
theorem La (hr:HR ρ h.blk.get w) {it a:AV} {J:Value} {i:Bool} {ty:TypeId} {h':Aa} (hi:VR ρ it J) (c:Qv it i h=some (a,h')) :
  AP E ρ h h' w (Instr.next J i ty) a:=by
 unfold Qv at c;cases hi<;>first | (cases c;done)|skip
 rename_i r off base x;cases off with
 |succ n=>cases c
 |zero=>
  simp only [] at c;cases k:h.blk.get r with
  |none=>rw [k] at c;cases c
  |some y=>
   rw [k] at c;cases y<;>first | (cases i<;>(cases c;done))|skip
   rotate_left
   ·rename_i l b p;cases i with
    |false=>cases c
    |true=>
     simp only [] at c;obtain ⟨d,s,rfl,rfl,z⟩:=hr.blk r base _ x k;have g:=Au (w:=w) E.P z (by simp)
     have A:s.size=s.data.toList.length:=Array.length_toList.symm;cases D:Nat.blt p s.data.toList.length with
     |false=>
      rw [D] at c;simp only [Option.some.injEq,Prod.mk.injEq] at c;obtain ⟨rfl,rfl⟩:=c
      have O:¬p<s.size:=by
       intro q;rw [A] at q;exact Nat.not_le_of_not_ble_eq_true (by rw [show Nat.ble (p+1) s.data.toList.length=false from D];simp) q
      refine Az hr ⟨_,?_,RG⟩;simp [Instr.next,d,g,O]
     |true=>
      rw [D] at c;have B:p<s.data.toList.length:=Nat.le_of_ble_eq_true D;have o:p<s.size:=by rw [A];exact B
      simp only [Nj B] at c;cases G:Nat.blt (s.data.toList[p]).toNat 128 with
      |false=>rw [G] at c;cases c
      |true=>
       rw [G] at c;have F:(s.data.toList[p]).toNat<128:=Nat.le_of_ble_eq_true G;simp only [Option.some.injEq,Prod.mk.injEq] at c;obtain ⟨rfl,rfl⟩:=c
       have H:(s.get! (p+0)).toNat=(s.data.toList[p]).toNat:=by
        have:s.get! (p+0)=s.data.toList[p]:=by
         simp only [ByteArray.get!,Nat.add_zero];rw [getElem!_pos s.data p o];rfl
        rw [this]
       have C:Utf8.decode s p=((s.data.toList[p]).toNat,1):=by
        unfold Utf8.decode;simp only [H];rw [if_pos (by omega)]
       obtain ⟨p1,p2⟩:=hr.setObj x (by rw [k];simp) (.strIter s.data.toList.length (AA s.data.toList) (p+1)) (.stringIter s (p+1)) ⟨d,s,rfl,rfl,rfl⟩
       refine ⟨ρ,.tuple #[.bool true,goInt p,.int .i32 (s.data.toList[p]).toNat],_,?_,N2 (.int .i64 p) (.int .i32 _),p1,p2⟩;simp only [Instr.next,d,Nat.add_zero,Sem.run_bind,g,Result.andThen_ok,o,if_true,C];rw [AB (w:=w) E.P z (by simp)]
       simp
   rename_i m f seen last;cases i with
   |true=>cases m<;>cases c
   |false=>
    cases m with
    |none=>
     simp only [Option.some.injEq,Prod.mk.injEq] at c;obtain ⟨rfl,rfl⟩:=c;obtain ⟨d,z⟩:=hr.blk r base _ x k;have g:=Au (w:=w) E.P z (by simp)
     refine Az hr ⟨_,?_,RG⟩;simp [Instr.next,d,g]
    |some m=>
     simp only [] at c;cases u:h.blk.get m with
     |none=>rw [u] at c;cases c
     |some Q=>
      rw [u] at c;cases Q<;>first | (cases c;done)|skip
      rename_i K j;simp only [] at c;cases I:Kv f last K with
      |false=>rw [I] at c;cases c
      |true=>
       rw [I] at c;obtain ⟨R,l',L,S,d,v,t⟩:=Ps (E:=E) hr (fz:=none) (ty:=ty) x k u I;obtain ⟨_,_,_,z⟩:=hr.blk r base _ x k;cases M:Bp seen K with
       |nil=>
        rw [M] at c v;simp only [Option.some.injEq,Prod.mk.injEq] at c;obtain ⟨rfl,rfl⟩:=c;cases l' with
        |cons=>exact v.elim
        |nil=>
         refine Az hr ⟨_,?_,RG⟩;rw [Nat.add_zero,t];simp [Question.forced]
       |cons e l=>
        rw [M] at c v;cases l with
        |cons=>cases c
        |nil=>
         cases l' with
         |nil=>exact v.elim
         |cons N l'=>
          obtain ⟨k1,k2,k3,v⟩:=v;cases l' with
          |cons=>exact v.elim
          |nil=>
           simp only [Nl,Option.some.injEq,Prod.mk.injEq] at c;obtain ⟨rfl,rfl⟩:=c;obtain ⟨p1,p2⟩:=hr.setObj x (by rw [k];simp) (.mapIter (some m) f (seen++[e.born]) j) (.mapIter (some L.cb) f (seen++[e.born]).toArray j) ⟨d,L,S,rfl⟩
           refine ⟨ρ,.tuple #[.bool true,N.key,N.val],_,?_,N2 k1 k2,p1,p2⟩;rw [Nat.add_zero,t,←k3];simp [Question.forced,AB (w:=w) E.P z (by simp)]
theorem K6 (hr:HR ρ h.blk.get w) {it:AV} {N:Value} {ty:TypeId} {l:List (AV×Aa)} (hi:VR ρ it N) (b:K0 it h=some l) :
  ∃p∈l,AP E ρ h p.2 w (Instr.next N false ty) p.1:=by
 unfold K0 at b;cases hi<;>first | (cases b;done)|skip
 rename_i r off base B;cases off with
 |succ n=>cases b
 |zero=>
  simp only [] at b;cases u:h.blk.get r with
  |none=>rw [u] at b;cases b
  |some y=>
   rw [u] at b;cases y<;>first | (cases b;done)|skip
   rename_i m c seen last;cases m with
   |none=>cases b
   |some m=>
    simp only [] at b;cases j:h.blk.get m with
    |none=>rw [j] at b;cases b
    |some R=>
     rw [j] at b;cases R<;>first | (cases b;done)|skip
     rename_i O f;simp only [] at b;cases C:Kv c last O with
     |false=>rw [C] at b;cases b
     |true=>
      rw [C] at b;obtain ⟨S,d,D,T,F,Q,v⟩:=Ps (E:=E) hr (fz:=none) (ty:=ty) B u j C;obtain ⟨_,V,W,X⟩:=hr.blk r base _ B u;cases G:Bp seen O with
      |nil=>rw [G] at b;cases b
      |cons a1 k=>
       cases k with
       |nil=>rw [G] at b;cases b
       |cons a2 k=>
        rw [G] at b Q;simp only [Option.some.injEq] at b
        have x:∀(l:List Aj) (d:List MapEntry),ER ρ l d→d.length=l.length∧∀(i:Nat) (o:MapEntry),d[i]?=some o→∃e,l[i]?=some e∧VR ρ e.key o.key∧VR ρ e.val o.val∧o.born=e.born:=by
         intro l
         induction l with
         |nil=>intro d h;cases d with
          |nil=>exact ⟨rfl,fun i o z=>by simp at z⟩
          |cons=>exact h.elim
         |cons a l ih=>
          intro d h;cases d with
          |nil=>exact h.elim
          |cons a' d=>
           obtain ⟨x1,x2,x3,x4⟩:=h;obtain ⟨y1,y2⟩:=ih d x4;refine ⟨by simp [y1],fun i o z=>?_⟩
           cases i with
           |zero=>simp only [List.getElem?_cons_zero,Option.some.injEq] at z;subst z;exact ⟨a,rfl,x1,x2,x3⟩
           |succ i=>exact y2 i o (by simpa using z)
        obtain ⟨H,Y⟩:=x _ _ Q;have I:d≠[]:=by intro q;subst q;simp at H
        have s:(if d.toArray.isEmpty then #[none] else #[])++d.toArray.map some=(d.map some).toArray:=by
         cases d with
         |nil=>exact absurd rfl I
         |cons=>simp
        have J:(d.map some).toArray.size=k.length+2:=by simp [H]
        generalize hi:(w.tape w.drawn (.mapNext (k.length+2)))%(k.length+2)=i at *;have A:i<k.length+2:=by rw [←hi];exact Nat.mod_lt _ (by omega)
        have g:i<d.length:=by rw [H];simpa using A
        obtain ⟨e,Z,k1,k2,k3⟩:=Y i d[i] (List.getElem?_eq_getElem g);refine ⟨Nl r m c f seen h e,?_,?_⟩
        ·rw [←b];exact List.mem_map.2 ⟨e,List.mem_of_getElem? Z,rfl⟩
        ·have K:HR ρ h.blk.get {w with drawn:=w.drawn+1}:=hr.same rfl
         obtain ⟨p1,p2⟩:=K.setObj B (by rw [u];simp) (.mapIter (some m) c (seen++[e.born]) f) (.mapIter (some D.cb) c (seen++[e.born]).toArray f) ⟨F,D,T,rfl⟩
         refine ⟨ρ,.tuple #[.bool true,d[i].key,d[i].val],_,?_,N2 k1 k2,p1,p2.drawn rfl rfl rfl rfl⟩;rw [Nat.add_zero,v];simp only [s,J]
         have L:(choose (.mapNext (k.length+2))).run E.P w=.ok i {w with drawn:=w.drawn+1}:=by
          rw [run_choose,if_neg (by simp [Question.forced])]
          simp only [Question.cut,hi]
         have M:(d.map some).toArray[i]?=some (some d[i]):=by simp [g]
         have hs:=AB (w:={w with drawn:=w.drawn+1}) (o':=.mapIter (some D.cb) c (seen++[e.born]).toArray f) E.P X (by simp)
         have t:seen.toArray.push e.born=(seen++[e.born]).toArray:=by simp
         simp only [Sem.run_bind,L,Result.andThen_ok,M,k3,t];rw [hs];rfl
theorem Qa:∀(l:List Nat) (n:Nat),VQ l=some n→l.toArray.back?=some n
 |[],n,h=>by cases h
 |[a],n,h=>by cases h;rfl
 |a::b::r,n,h=>by
  have:=Qa (b::r) n h;simpa using this
theorem LD (n:Nat):∀(f:List Aj) (b:List MapEntry) (e:Aj),ER ρ f b→Ql n f=some e→∃c,b.toArray.find? (fun x=>x.born==n)=some c∧VR ρ e.key c.key∧VR ρ e.val c.val
 |[],_,_,_,h=>by cases h
 |_::_,[],_,h,_=>h.elim
 |a::r,g::i,e,h,d=>by
  obtain ⟨x1,x2,x3,x4⟩:=h;unfold Ql at d;cases q:Nat.beq a.born n with
  |true=>
   rw [q] at d;cases d;exact ⟨g,by simp [x3,Ay q],x1,x2⟩
  |false=>
   rw [q] at d;obtain ⟨c,y1,y2⟩:=LD n r i e x4 d;refine ⟨c,?_,y2⟩;have:(g.born==n)=false:=by rw [x3];simpa using Qe q
   simpa [this] using y1
theorem MT (hr:HR ρ h.blk.get w) {it a:AV} {p:Value} (hi:VR ρ it p) (b:Hr it h=some a) :
  ∃v,(Instr.entry p).run E.P w=.ok v w∧VR ρ a v:=by
 unfold Hr at b;cases hi<;>first | (cases b;done)|skip
 rename_i r off base s;cases off with
 |succ n=>cases b
 |zero=>
  simp only [] at b;cases g:h.blk.get r with
  |none=>rw [g] at b;cases b
  |some y=>
   rw [g] at b;cases y<;>first | (cases b;done)|skip
   rename_i m i seen last;cases m with
   |none=>cases b
   |some m=>
    simp only [] at b;split at b
    ·rename_i n t j u k;split at b
     ·rename_i e x z;cases b;obtain ⟨l,A,B,C⟩:=hr.blk r base _ s g;have d:=Au (w:=w) E.P C (by simp)
      obtain ⟨o,m1,m2⟩:=hr.blk m A _ B k;have c:=Au (w:=w) E.P m1 (by simp)
      obtain ⟨f,y1,k1,k2⟩:=LD n t o e m2 z;have c1:=Ay x;have q:=VL.cons k1 (VL.cons k2 (VL.nil ρ));refine ⟨.tuple #[f.key,f.val],?_,.tuple _ [f.key,f.val] q.1 q.2⟩;simp only [Nat.add_zero,Instr.entry,l,Sem.run_bind,d,Result.andThen_ok,Qa seen n u,c,c1,bne_self_eq_false,Bool.false_eq_true,if_false,y1,Sem.run_pure]
     ·cases b
    ·cases b
theorem I3 {nt:Nat} {tmps:T AV} {tm:Array Value} (b:TR ρ nt tmps tm) (o:Operand):VR ρ (Af tmps o) (match o with
  |.tmp t=>tm.getD t Go.undef
  |.const v=>v
  |.global g=>.pointer (some ⟨g,0,none⟩)
  |.func f=>.func (.func f) #[] #[]):=by
 cases o with
 |tmp t=>
  simp only [Af];cases c:tmps.get t with
  |none=>exact .top _
  |some a=>exact b.get t a c
 |const v=>
  simp only [Af];cases d:ofValue v with
  |none=>exact .top v
  |some a=>exact AL ρ d
 |global g=>exact .glob g 0
 |func f=>exact .func _ _ [] [] [] [] rfl rfl (by simp) rfl (by simp)
def EvR (ρ:Ren) (tmps:T AV) (a:Operand→Value):Prop:=∀o,VR ρ (Af tmps o) (a o)
theorem EvR.list {tmps:T AV} {t:Operand→Value} (r:EvR ρ tmps t):∀(l:List Operand),VL ρ (l.map (Af tmps)) (l.map t)
 |[]=>VL.nil ρ
 |o::l=>VL.cons (r o) (EvR.list r l)
theorem EvR.parts {tmps:T AV} {t:Operand→Value} (r:EvR ρ tmps t):∀(l:List (Nat×Operand)),PL ρ (l.map fun (i,x)=>(i,Af tmps x)) (l.map fun (i,x)=>(i,t x))
 |[]=>trivial
 | (i,x)::l=>⟨rfl,r x,EvR.parts r l⟩
end
end Go.AE
namespace Go.AE
variable [Gl:AH]
variable [U:Unk]
def Ez (E:Env) (b:Ren) (h:Aa) (w:World) (s:Sem Next):Res→Prop
 |.val v h'=>AG b h.nx h'.nx→∃g c e,(s.run E.P w=.ok (.value c) e∨(s.run E.P w=.ok .skip e∧c=Go.undef))∧VR g v c∧HR g h'.blk.get e∧Ext b g h h' w e
 |.enter f args h'=>h'=h∧∃a:List Value,VL b args a∧s.run E.P w=.ok (.enter f a.toArray) w
 |.round l args h'=>h'=h∧∃base,∃a:List Value,b l=some base∧VL b args a∧s.run E.P w=(Instr.yield base.cb a.toArray).run E.P w
 |.defer d h'=>h'=h∧∃i,DR b d i∧s.run E.P w=.ok (.defer i) w
 |.recover h'=>h'=h∧s.run E.P w=.ok .recover w
 |.panic v h'=>h'=h∧∃c,VR b v c∧s.run E.P w=.halt (.panic c) w
 |.bad _=>True
section
variable {E:Env} (hE:OK E) {ρ:Ren} {h:Aa} {w:World}
theorem BB {s:Sem Value} {b:String} {o:Option (AV×Aa)} (c:∀a h',o=some (a,h')→AG ρ h.nx h'.nx→AP E ρ h h' w s a) :
  Ez E ρ h w (do pure (.value (←s))) (C6 b o):=by
 cases o with
 |none=>trivial
 |some p=>
  obtain ⟨a,h'⟩:=p;intro d;obtain ⟨e,v,f,g,i,j,k⟩:=c a h' rfl d;exact ⟨e,v,f,.inl (by simp [g]),i,j,k⟩
theorem Ba (hr:HR ρ h.blk.get w) {s:Sem Value} {b:String} {o:Option AV} (c:∀a,o=some a→∃v,s.run E.P w=.ok v w∧VR ρ a v) :
  Ez E ρ h w (do pure (.value (←s))) (BM h b o):=by
 cases o with
 |none=>trivial
 |some a=>
  intro f;obtain ⟨v,d,e⟩:=c a rfl;exact ⟨ρ,v,w,.inl (by simp [d]),e,hr,Ext.refl ρ h w⟩
theorem JS {s:Sem Unit} {b:String} {o:Option Aa} (c:∀h',o=some h'→∃a,s.run E.P w=.ok () a∧HR ρ h'.blk.get a∧Ext ρ ρ h h' w a) :
  Ez E ρ h w (do s;pure .skip) (Ej b o):=by
 cases o with
 |none=>trivial
 |some h'=>
  intro g;obtain ⟨a,d,e,f⟩:=c h' rfl;exact ⟨ρ,Go.undef,a,.inr ⟨by simp [d],rfl⟩,VR.undef ρ,e,f⟩
theorem He (c:UInt8):∀(l:List UInt8),Df c.toNat l.length (AA l)=l.count c
 |[]=>rfl
 |x::l=>by
  obtain ⟨a,b⟩:=D8 x l;simp only [List.length_cons,Df,a,b];rw [He c l,List.count_cons];by_cases e:x=c
  ·subst e;simp
  ·have d:Nat.beq x.toNat c.toNat=false:=Ef (fun q=>e (UInt8.toNat_inj.1 q))
   have f:(x==c)=false:=by simpa using e
   rw [d,f];simp
include hE
theorem Rs (hr:HR ρ h.blk.get w) {f:FuncId} {fn:Func} (o:E.fn.get f=some fn) (A:fn.body=none) {args:List AV} {p:List Value} (L:VL ρ args p) :
  Ez E ρ h w (callFunc f p.toArray) (Ib fn.name args h):=by
 have m:=hE.fn f fn o;have n:=hE.num f fn o;unfold Ib;split
 ·rename_i F;obtain ⟨c1,c2⟩:=hE.clone f fn o A F;split
  ·rename_i t r;obtain ⟨v,l,rfl,B,G⟩:=L.cons_inv;have:=G.nil_inv;subst this;cases B with
   |iface t a v B=>
    cases B with
    |map b base H=>
     cases S:h.blk.get r with
     |none=>trivial
     |some y=>
      cases y with
      |map T d=>
       intro I;obtain ⟨j,M,N⟩:=hr.blk r base _ H S;have q:=Au (w:=w) E.P M (by simp)
       have g:ρ h.nx=none:=I h.nx (Nat.le_refl _) (by simp [Aa.new])
       obtain ⟨p1,p2⟩:=hr.new g (.map T d) (.map j.toArray d) 0 ⟨j,rfl,N.mono (Ren.le_upd g _)⟩ {w with heap:=w.heap.push (.map j.toArray d)} rfl rfl rfl rfl
       refine ⟨_,.iface t (.map (some w.heap.size)),_,.inl ?_,?_,p1,p2⟩
       ·simp only [callFunc,Sem.run_bind,run_program,Result.andThen_ok,m,n,A,Option.isNone_none,Bool.false_eq_true,if_false,if_true,run_mark,c1,c2]
        have u:Extern.MapsClone.clone #[.iface t (.map (some base.cb))]=(do
          let .map e d ←getObj base.cb|stuck "maps.clone: a map expected"
          pure (.iface t (.map (some (←newObj (.map e d)))))):=rfl
        show ((Extern.MapsClone.clone #[.iface t (.map (some base.cb))]).run E.P w).andThen _=_;rw [u];simp only [Sem.run_bind,q,Result.andThen_ok,run_newObj,Sem.run_pure]
       ·exact .iface t _ _ (.map h.nx _ (Ren.upd_same _ _ _))
      |dmap V W x=>
       intro I;obtain ⟨O,Q,j,d,k1,k2,M,N,X⟩:=hr.blk r base _ H S;have q:=Au (w:=w) E.P M (by simp)
       have g:ρ h.nx=none:=I h.nx (Nat.le_refl _) (by simp [Aa.new])
       obtain ⟨p1,p2⟩:=hr.new g (.dmap V W x) (.map j.toArray d) 0 ⟨O,Q,j,d,k1,k2,rfl,N,X⟩ {w with heap:=w.heap.push (.map j.toArray d)} rfl rfl rfl rfl
       refine ⟨_,.iface t (.map (some w.heap.size)),_,.inl ?_,?_,p1,p2⟩
       ·simp only [callFunc,Sem.run_bind,run_program,Result.andThen_ok,m,n,A,Option.isNone_none,Bool.false_eq_true,if_false,if_true,run_mark,c1,c2]
        have u:Extern.MapsClone.clone #[.iface t (.map (some base.cb))]=(do
          let .map e d ←getObj base.cb|stuck "maps.clone: a map expected"
          pure (.iface t (.map (some (←newObj (.map e d)))))):=rfl
        show ((Extern.MapsClone.clone #[.iface t (.map (some base.cb))]).run E.P w).andThen _=_;rw [u];simp only [Sem.run_bind,q,Result.andThen_ok,run_newObj,Sem.run_pure]
       ·exact .iface t _ _ (.map h.nx _ (Ren.upd_same _ _ _))
      |_=>trivial
  ·trivial
 ·rename_i F;obtain ⟨c1,c2⟩:=hE.ixb f fn o A F;split
  ·rename_i l b c;cases k:Nat.blt c 256 with
   |false=>trivial
   |true=>
   intro I;have J:=Ge k;obtain ⟨v,r,rfl,B,G⟩:=L.cons_inv;obtain ⟨Y,Z,rfl,C,D⟩:=G.cons_inv;have:=D.nil_inv;subst this;cases B;cases C;rename_i s;refine ⟨ρ,.int .i64 (Dp c s.data.toList.length (AA s.data.toList) 0),w,.inl ?_,.int _ _,hr,Ext.refl ρ h w⟩;simp only [callFunc,Sem.run_bind,run_program,Result.andThen_ok,m,n,A,Option.isNone_none,Bool.false_eq_true,if_false,if_true,run_mark,c1,c2]
   have u:Extern.BytealgIndexByte.indexByte #[.string s,.int .u8 (Int.ofNat c)]=(do
     let b ←Extern.Bytes.bytesOf (.string s)
     let c ←Extern.Bytes.asByte (.int .u8 (Int.ofNat c))
     match (List.range b.size).find? fun i=>b[i]! == c with
     |some i=>pure (goInt i)
     |none=>pure (goInt (-1))):=rfl
   show ((Extern.BytealgIndexByte.indexByte #[.string s,.int .u8 (Int.ofNat c)]).run E.P w).andThen _=_;rw [u];have z:=Hb (Nat.toUInt8 c) s s.size 0 (by omega)
   have R:(Nat.toUInt8 c).toNat=c:=by
    simp [Nat.toUInt8];omega
   have K:s.data.toList.length=s.size:=by simp
   rw [R,List.drop_zero] at z;rw [K,z,←List.range_eq_range'];simp only [Sem.run_bind,Extern.Bytes.bytesOf,Extern.Bytes.asByte,Sem.run_pure,Result.andThen_ok,Int.ofNat_eq_natCast,Int.toNat_natCast];cases (List.range s.size).find? (fun i=>s[i]! == Nat.toUInt8 c)<;>simp [goInt]
  ·trivial
 ·rename_i F;obtain ⟨c1,c2⟩:=hE.cnt f fn o A F;split
  ·rename_i l b c;cases k:Nat.blt c 256 with
   |false=>trivial
   |true=>
   intro I;have J:=Ge k;obtain ⟨v,r,rfl,B,G⟩:=L.cons_inv;obtain ⟨Y,Z,rfl,C,D⟩:=G.cons_inv;have:=D.nil_inv;subst this;cases B;cases C;rename_i s;refine ⟨ρ,.int .i64 (Df c s.data.toList.length (AA s.data.toList):Nat),w,.inl ?_,.int _ _,hr,Ext.refl ρ h w⟩;simp only [callFunc,Sem.run_bind,run_program,Result.andThen_ok,m,n,A,Option.isNone_none,Bool.false_eq_true,if_false,if_true,run_mark,c1,c2]
   have R:(Nat.toUInt8 c).toNat=c:=by
    simp [Nat.toUInt8];omega
   have z:=He (Nat.toUInt8 c) s.data.toList;rw [R] at z;show ((Extern.BytealgCount.count #[.string s,.int .u8 (Int.ofNat c)]).run E.P w).andThen _=_;rw [Go.Lib.run_countString,z];rfl
  ·trivial
 ·trivial
theorem PE (hr:HR ρ h.blk.get w) {f:FuncId} {args:List AV} {a:List Value} (e:VL ρ args a):Ez E ρ h w (callFunc f a.toArray) (IJ E f args h):=by
 unfold IJ;cases d:E.fn.get f with
 |none=>trivial
 |some fn=>
  cases b:fn.body with
  |none=>simp only [];rw [b];exact Rs hE hr d b e
  |some c=>
   simp only [];rw [b];refine ⟨rfl,a,e,?_⟩;simp only [callFunc,Sem.run_bind,run_program,Result.andThen_ok,hE.fn f fn d,hE.num f fn d,b,Option.isNone_some,Bool.false_eq_true,if_false,Sem.run_pure]
theorem Ea (hr:HR ρ h.blk.get w) {fn fn':Fn} {captured args:List AV} {captured' n:List Value} (s:FnR ρ fn fn') (R:VL ρ captured captured') (I:VL ρ args n) :
  Ez E ρ h w (invoke (.fn fn' captured'.toArray) n.toArray) (BS E fn captured args h):=by
 cases fn with
 |func f=>
  simp only [FnR] at s;subst s;simp only [BS,invoke];have:=PE (w:=w) hE hr (f:=f) (I.append R);simpa using this
 |yield l=>
  obtain ⟨base,S,rfl⟩:=s;simp only [BS];exact ⟨rfl,base,n,S,I,rfl⟩
 |methodOf t name=>trivial
 |via t Q f ptr=>trivial
 |method name=>
  simp only [FnR] at s;subst s;simp only [BS];cases args with
  |nil=>trivial
  |cons a rest=>
   cases a<;>try trivial
   rename_i t v;simp only [];cases hi:E.ty.get t with
   |none=>trivial
   |some G=>
    simp only [];cases T:G.methods.toList.find? (fun m=>m.name==name) with
    |none=>trivial
    |some m=>
     simp only [];cases V:m.path.isEmpty with
     |false=>cases m.func<;>trivial
     |true=>
      cases J:m.func with
      |none=>trivial
      |some p=>
       obtain ⟨f,ptr⟩:=p;simp only [];obtain ⟨vv,o,rfl,K,z⟩:=I.cons_inv;cases K with
       |iface t a A W=>
        have B:∃k,E.P.types.size+Made.depth=k+1:=⟨E.P.types.size+99,rfl⟩
        obtain ⟨k,X⟩:=B;have C:m.path.toList=[]:=by simpa using V
        have L:G.methods.find? (fun m=>m.name==name)=some m:=by rw [←T];simp
        have H:(∀d,E.desc t=some d→((∃e,d=.pointer e)→ptr=true)→((¬∃e,d=.pointer e)→ptr=false)→(method (k+1) t A name).run E.P w=.ok (f,A) w):=by
         intro d M Y Z;have hu:=hE.run_und M w;simp only [method,Sem.run_bind,hE.run_info hi,Result.andThen_ok,L,C,follow,Sem.run_pure,J,receiverAt,hu]
         cases d<;>first
          | (have:=Y ⟨_,rfl⟩;subst this;simp [Place.get])
          | (have:=Z (by simp);subst this;simp [Place.get])
        have fin:(method (k+1) t A name).run E.P w=.ok (f,A) w→Ez E ρ h w (invoke (.fn (.method name) captured'.toArray) (Value.iface t A::o).toArray) (IJ E f (v::rest) h):=by
         intro hq;have c:=PE (w:=w) hE hr (f:=f) (VL.cons W z)
         have i:∀r,(callFunc f (A::o).toArray).run E.P w=r→(invoke (.fn (.method name) captured'.toArray) (Value.iface t A::o).toArray).run E.P w=r:=by
          intro r N;rw [←N];simp only [invoke,List.getElem?_toArray,List.getElem?_cons_zero,callMethod,Sem.run_bind,run_program,Result.andThen_ok,X,hq];simp
         unfold Ez at c ⊢;cases j:IJ E f (v::rest) h with
         |val x h'=>
          rw [j] at c;intro hf;obtain ⟨σ,O,w',u,y⟩:=c hf;exact ⟨σ,O,w',u.imp (i _) (fun q=>⟨i _ q.1,q.2⟩),y⟩
         |enter g as h'=>rw [j] at c;obtain ⟨D,F,u,y⟩:=c;exact ⟨D,F,u,i _ y⟩
         |round l as h'=>rw [j] at c;obtain ⟨D,b,F,u,y,q3⟩:=c;exact ⟨D,b,F,u,y,i _ q3⟩
         |defer d h'=>rw [j] at c;obtain ⟨D,d',u,y⟩:=c;exact ⟨D,d',u,i _ y⟩
         |recover h'=>rw [j] at c;exact ⟨c.1,i _ c.2⟩
         |panic x h'=>rw [j] at c;obtain ⟨D,O,u,y⟩:=c;exact ⟨D,O,u,i _ y⟩
         |bad aa=>trivial
        cases M:E.desc t with
        |none=>trivial
        |some d=>
         cases d<;>cases ptr<;>first
          |trivial
          |exact fin (H _ M (by simp) (by simp))
end
end Go.AE
namespace Go.AE
variable [Gl:AH]
variable [U:Unk]
theorem IY {e:SB} (h:Lu e=true):Ad U.V e=true:=by
 unfold Lu at h;split at h
 ·rename_i a;exact As U.ok a
 ·cases h
theorem Ip {e:SB} (h:Rr e=true):Ad U.V e=false:=by
 unfold Rr at h;split at h
 ·rename_i a;exact As U.ok a
 ·cases h
theorem My {i n:SE} (h:inR i n=true):0≤Ac U.V i∧Ac U.V i<Ac U.V n:=by
 unfold inR at h;obtain ⟨c,d⟩:=An h;have a:=Ip c;have b:=IY d;rw [Av,decide_eq_false_iff_not,BD] at a;rw [Av,decide_eq_true_eq] at b;omega
theorem JH {ρ:Ren} {x i:SE} {j:Nat} {kd:Kd} {v:Value} (h:DV U.K ρ.imm kd v (Ab U.V (.cell x i j))):VR ρ (JT x i j kd) v:=by
 cases h with
 |int k n _ hr e=>
  have e:Ac U.V (.cell x i j)=n:=e;simp only [JT];split
  ·have:=B9 ρ k (.cell x i j);rw [e] at this;exact this
  ·rename_i g;have o:=hr.resolve_left (by simpa using g)
   have:=B9 ρ k (.conv k (.cell x i j));rw [Lk,e,GC k n o.1 o.2] at this;exact this
 |bool b _ e=>
  have:=GA ρ true (.cell x i j);have e:(Ad U.V (.cell x i j)==true)=b:=by unfold Ad;rw [e];cases b<;>rfl
  rw [e] at this;exact this
 |str s _ e=>
  have:=VR.ss (ρ:=ρ) (.cell x i j);have e:AR U.V (.cell x i j)=s:=e;rw [e] at this;exact this
 |nil e _ d l=>exact .dat e _ _ _ _ (.nil e _ d l)
 |empty e a c _ d l=>exact .dat e _ _ _ _ (.empty e a c _ d l)
 |slc e b off n c _ ks arr g p q r d m f t=>exact .dat e _ _ _ _ (.slc e b off n c _ ks arr g p q r d m f t)
omit U in
theorem kinds_size {E:Env} {ar:Bool} {n:Nat} {t:TypeId} {ks:List Kd} (h:DK ar E.desc E.szIs n t=some ks):E.szIs t ks.length=true∧∃m,n=m+1∧JB ar E.szIs (DK ar E.desc E.szIs m) (E.desc t)=some ks:=by
 cases n with
 |zero=>cases h
 |succ m=>
  simp only [DK] at h;split at h
  ·rename_i l hl;split at h
   ·rename_i hs;cases h;exact ⟨hs,m,rfl,hl⟩
   ·cases h
  ·cases h
omit U in
theorem Env.kinds_size {E:Env} {t:TypeId} {ks:List Kd} (h:E.kinds t=some ks):E.szIs t ks.length=true:=(AE.kinds_size h).1
omit U in
theorem DV.at {K:TypeId→Option (List Kd)} {M:Nat→Option (Array Value)} {e:TypeId} {a:Option Addr} {n cap:Nat} {d:D} (h:DV K M (.slice e) (.slice a n cap) d) (hn:0<n):∃b o,a=some ⟨b,o,none⟩∧n≤cap:=by
 cases h
 ·omega
 ·omega
 ·exact ⟨_,_,rfl,by assumption⟩
omit U in
theorem DV.row {K:TypeId→Option (List Kd)} {M:Nat→Option (Array Value)} {e:TypeId} {b o n cap i:Nat} {d:D} {ks:List Kd} (h:DV K M (.slice e) (.slice (some ⟨b,o,none⟩) n cap) d) (hk:K e=some ks) (hi:i<n) :
  ∃arr,M b=some arr∧o+n*ks.length≤arr.size∧d.rows.length=n∧∀j kd,ks[j]?=some kd→DV K M kd (arr.getD (o+i*ks.length+j) Go.undef) ((d.rows.getD i default).cells.getD j default):=by
 cases h with
 |empty=>omega
 |slc _ _ _ _ _ _ ks' arr hk' ha hn hc h1 hin hrow hv=>
  rw [hk] at hk';cases hk';exact ⟨arr,ha,hin,hn,fun j kd hj=>hv i j kd hi hj⟩
omit U in
theorem Bk.row {K:TypeId→Option (List Kd)} {M:Nat→Option (Array Value)} {ks:List Kd} {cur:Array Value} {o i:Nat} {rows:List D} (h:Bk K M ks cur o rows) (hi:i<rows.length) :
  o+rows.length*ks.length≤cur.size∧∀j kd,ks[j]?=some kd→DV K M kd (cur.getD (o+i*ks.length+j) Go.undef) ((rows.getD i default).cells.getD j default):=
 ⟨h.1,fun j kd hj=>h.2.2 i j kd hi hj⟩
section
variable {E:Env} (hE:OK E) {ρ:Ren} {h:Aa} {w:World}
include hE
omit hE in
theorem HD {ks:List Kd} {y i:SE} {arr:Array Value} {p:Nat} (hv:∀j kd,ks[j]?=some kd→DV U.K ρ.imm kd (arr.getD (p+j) Go.undef) (Ab U.V (.cell y i j))) :
  ∀(n j:Nat) (l:List AV),GR y i ks j n=some l→(n=0∨j+n≤ks.length)∧l.length=n∧∀q a,l[q]?=some a→VR ρ a (arr.getD (p+j+q) Go.undef)
 |0,j,l,hl=>by
  simp only [GR,Option.some.injEq] at hl;subst hl;exact ⟨.inl rfl,rfl,fun q a hq=>by simp at hq⟩
 |n+1,j,l,hl=>by
  simp only [GR] at hl;split at hl
  ·rename_i k l' hk hl';cases hl;obtain ⟨h1,h2,h3⟩:=HD hv n (j+1) l' hl';have hjl:j<ks.length:=(List.getElem?_eq_some_iff.1 hk).1;refine ⟨.inr (by omega),by simp [h2],fun q a hq=>?_⟩
   cases q with
   |zero=>
    simp only [List.getElem?_cons_zero,Option.some.injEq] at hq;subst hq;exact JH (hv j k hk)
   |succ q=>
    simp only [List.getElem?_cons_succ] at hq;have:=h3 q a hq;rw [show p+j+(q+1)=p+(j+1)+q by omega]
    exact this
  ·cases hl
theorem Lo {t e:TypeId} {ks:List Kd} {y i:SE} {off b p:Nat} {u:Nat×Nat} {arr:Array Value} {a:AV} (z:w.heap[b]?=some (.cells arr e u)) (B:p+ks.length≤arr.size)
  (hv:∀j kd,ks[j]?=some kd→DV U.K ρ.imm kd (arr.getD (p+j) Go.undef) (Ab U.V (.cell y i j))) (hl:KS E t ks y i off=some a) :
  ∃v,(Instr.loadAt t (.pointer (some ⟨b,p+off,none⟩))).run E.P w=.ok v w∧VR ρ a v:=by
 unfold KS at hl;split at hl
 ·rename_i d A;unfold Instr.loadAt loadVar;simp only [Instr.sureAddr,Sem.run_bind,Sem.run_pure,Result.andThen_ok,hE.run_isAgg A];split at hl
  ·rename_i c;split at hl
   ·rename_i l hc;cases hl;obtain ⟨h1,h2,h3⟩:=HD hv _ _ _ hc;simp only [c,if_true,Sem.run_bind,hE.run_size A,Result.andThen_ok];by_cases g:E.size t=0
    ·rw [g];refine ⟨.agg #[],by simp [loadCells,loadCellsFrom],?_⟩
     have:l=[]:=by rw [g] at h2;exact List.eq_nil_of_length_eq_zero h2
     subst this;exact .agg [] [] rfl (by simp)
    ·have C:off+E.size t≤ks.length:=h1.resolve_left g;rw [AC E.P w b (p+off) (E.size t) arr e u z (by omega)]
     simp only [Result.andThen_ok,Sem.run_pure];refine ⟨_,rfl,.agg _ _ (by simp;omega) ?_⟩
     intro q x v hq f;have r:q<E.size t:=by have:=(List.getElem?_eq_some_iff.1 hq).1;omega
     have:=h3 q x hq;rw [List.getElem?_take,if_pos r,List.getElem?_drop,Array.getElem?_toList] at f;have F:arr.getD (p+off+q) Go.undef=v:=by simp [Array.getD_eq_getD_getElem?,f]
     rw [F] at this;exact this
   ·cases hl
  ·rename_i c;split at hl
   ·rename_i k hk;cases hl;have G:off<ks.length:=(List.getElem?_eq_some_iff.1 hk).1;have s:p+off<arr.size:=by omega
    have hc:w.cell? ⟨b,p+off,none⟩=some (arr.getD (p+off) Go.undef):=by
     simp [World.cell?,z,Array.getD_eq_getD_getElem?,s]
    simp only [c,Bool.false_eq_true,if_false,run_load,hc];exact ⟨_,rfl,JH (hv off k hk)⟩
   ·cases hl
 ·cases hl
theorem VH (hr:HR ρ h.blk.get w) {t:TypeId} {x a:AV} {C:Value} (r:VR ρ x C) (hl:TM E t x h=some a) :
  ∃v,(Instr.loadAt t C).run E.P w=.ok v w∧VR ρ a v:=by
 unfold TM at hl;split at hl
 ·rename_i e y i off;split at hl
  ·rename_i ks hk;cases r with
   |dptr _ _ _ _ b o n cap ks' s hk' h0 hi S=>
    have c:U.K e=some ks:=by rw [hE.kd,←hE.ke];exact hk
    rw [c] at hk';cases hk';obtain ⟨arr,a1,a2,a3,a4⟩:=s.row c hi;obtain ⟨F,G,u⟩:=hr.imm b arr a1;have f:((Ac U.V i).toNat+1)*ks.length≤n*ks.length:=Nat.mul_le_mul_right _ hi;rw [Nat.add_mul,Nat.one_mul] at f;exact Lo hE (p:=o+(Ac U.V i).toNat*ks.length) u (by omega) a4 hl
  ·cases hl
 ·rename_i b T i off;split at hl
  ·rename_i e y J;split at hl
   ·rename_i ks hk;split at hl
    ·rename_i hc;obtain ⟨c1,c2⟩:=An hc;have z:=Ay c1;subst z;obtain ⟨W,H⟩:=My c2
     try rw [Ai,Di,←Ai] at H
     rw [Ai] at H;cases r with
     |aptr _ _ _ _ base A h0=>
      obtain ⟨ks',cur,F,G,I,L,b3,b4,N⟩:=hr.blk b base _ A J;have c:U.K e=some ks:=by rw [hE.kd,←hE.ke];exact hk
      rw [c] at I;cases I;have hi:(Ac U.V i).toNat<(Ab U.V y).rows.length:=by omega
      obtain ⟨a2,a4⟩:=N.row hi;have f:((Ac U.V i).toNat+1)*ks.length≤(Ab U.V y).rows.length*ks.length:=Nat.mul_le_mul_right _ hi;rw [Nat.add_mul,Nat.one_mul] at f;exact Lo hE (p:=base.co+(Ac U.V i).toNat*ks.length) L (by omega) a4 hl
    ·cases hl
   ·cases hl
  ·cases hl
 ·rename_i g off;split at hl
  ·rename_i d s;split at hl
   ·rename_i B;split at hl
    ·rename_i l O;cases r;obtain ⟨arr,m1,m2⟩:=hr.glob g l (by rw [←hE.gl];exact O)
     obtain ⟨v,Q,R⟩:=m2 off a hl;obtain ⟨F,G,u⟩:=hr.imm g arr m1;refine ⟨v,?_,R.vr⟩;have hc:w.cell? ⟨g,off,none⟩=some v:=by simp [World.cell?,u,Q]
     unfold Instr.loadAt loadVar;simp only [Instr.sureAddr,Sem.run_bind,Sem.run_pure,Result.andThen_ok,hE.run_isAgg s,B,Bool.false_eq_true,if_false,run_load,hc]
    ·cases hl
   ·cases hl
  ·cases hl
 ·exact QB hE hr r hl
theorem ML {t:TypeId} {x i a:AV} {S T:Value} (B:VR ρ x S) (hi:VR ρ i T) (hl:FU E t x i=some a) :
  ∃v,(Instr.indexAt t S T).run E.P w=.ok v w∧VR ρ a v:=by
 unfold FU at hl;split at hl
 ·rename_i H y;split at hl
  ·rename_i e k r s z;split at hl
   ·rename_i W X hk;split at hl
    ·rename_i hc;cases hl;obtain ⟨c1,c2⟩:=An hc;have Y:=Ay c1;subst Y;obtain ⟨I,C⟩:=My c2
     try rw [Ai,Di,←Ai] at C
     rw [Ai] at C;have A:=Ch hi z;subst A;have u:U.K e=some (W::X):=by rw [hE.kd,←hE.ke];exact hk
     cases B with
     |dat _ _ ad n cap f=>
      obtain ⟨_,_,_,Z,q2⟩:=f.slice_inv;cases Z;rw [q2] at C;obtain ⟨b,o,rfl,F⟩:=f.at (by omega)
      refine ⟨.pointer (some ⟨b,o+(Ac U.V r).toNat*(W::X).length+0,none⟩),?_,.dptr e y r 0 b o n cap _ f u I (by omega) (by simp)⟩
      have c:0≤Ac U.V r∧Ac U.V r<n:=by omega
      simp [Instr.indexAt,asIntOf,hE.run_und s,hE.run_szIs (Env.kinds_size hk),c,BT]
    ·cases hl
   ·cases hl
  ·cases hl
 ·rename_i b G n nl;split at hl
  ·rename_i e k r s z;split at hl
   ·rename_i hc;cases hl;obtain ⟨c1,c2⟩:=An hc;obtain ⟨I,C⟩:=My c2
    try rw [Ai,Di,←Ai] at C
    have A:=Ch hi z;subst A;cases B with
    |asl _ _ _ _ cap base J h0 F hz L=>
     refine ⟨.pointer (some ⟨base.cb,base.co+(Ac U.V r).toNat*G+0,none⟩),?_,.aptr b G r 0 base J I⟩;have c:0≤Ac U.V r∧Ac U.V r<((Ac U.V n).toNat:Int):=by omega
     generalize (Ac U.V n).toNat=N at c;simp [Instr.indexAt,asIntOf,hE.run_und s,hE.run_szIs c1,c,BT]
    |aslEnd _ _ _ _ ad h0 L=>omega
   ·cases hl
  ·cases hl
 ·rename_i b G O off;split at hl
  ·rename_i len e n s hn;split at hl
   ·rename_i hc;cases hl;obtain ⟨c1,c2⟩:=An hc;obtain ⟨k,rfl⟩:=B0 (IA hi) hn;have c:=Ge c1;cases B with
    |aptr _ _ _ _ base J h0=>
     have:=VR.aptr (ρ:=ρ) b G O (off+n*E.size e) base J h0;rw [←Nat.add_assoc] at this;refine ⟨_,?_,this⟩;simp [Instr.indexAt,asIntOf,hE.run_und s,hE.run_has c2,Instr.sureAddr,c,BT]
   ·cases hl
  ·cases hl
 ·rename_i H y O off;split at hl
  ·rename_i len e n ks s hn hk;split at hl
   ·rename_i hc;cases hl;obtain ⟨c0,c3⟩:=An hc;obtain ⟨c1,c2⟩:=An c0;obtain ⟨k,rfl⟩:=B0 (IA hi) hn;have c:=Ge c1;cases B with
    |dptr _ _ _ _ b o n' cap ks' f hk' h0 Q ho=>
     have u:U.K H=some ks:=by rw [hE.kd,←hE.ke];exact hk
     rw [u] at hk';cases hk';have:=VR.dptr (ρ:=ρ) H y O (off+n*E.size e) b o n' cap ks f u h0 Q (Ge c3);rw [←Nat.add_assoc] at this;refine ⟨_,?_,this⟩;simp [Instr.indexAt,asIntOf,hE.run_und s,hE.run_has c2,Instr.sureAddr,c,BT]
   ·cases hl
  ·cases hl
 ·rename_i g off;split at hl
  ·rename_i len e n s hn;split at hl
   ·rename_i R;cases hl;cases B;obtain ⟨k,rfl⟩:=B0 hi hn;obtain ⟨c1,c2⟩:=An R;have c:=Ge c1;refine ⟨.pointer (some ⟨g,off+n*E.size e,none⟩),?_,.glob g _⟩;simp [Instr.indexAt,asIntOf,hE.run_und s,hE.run_has c2,Instr.sureAddr,c,BT]
   ·cases hl
  ·cases hl
 ·exact MH hE B (IA hi) hl
theorem Ka {t:TypeId} {g:Array Field} {f:Nat} {c:Field} (u:E.desc t=some (.struct g)) (v:g.toList[f]?=some c) {n:Nat} (hs:E.size c.type=n+1) (b o:Nat) :
  (Instr.fieldAt t (.pointer (some ⟨b,o,none⟩)) f).run E.P w=.ok (.pointer (some ⟨b,o+c.offset,none⟩)) w:=by
 have r:g[f]?=some c:=by simpa using v
 have s:∀w,(sizeOf c.type).run E.P w=.ok (n+1) w:=by
  intro w;unfold Env.size at hs;cases hi:E.ty.get c.type with
  |none=>simp [hi] at hs
  |some i=>simp only [hi] at hs;rw [hE.run_sz hi,hs]
 simp [Instr.fieldAt,hE.run_und u,r,Instr.sureAddr,fieldPlace,s,BT]
theorem MS {t:TypeId} {x a:AV} {f:Nat} {B:Value} (r:VR ρ x B) (hl:Fx E t x f=some a) :
  ∃v,(Instr.fieldAt t B f).run E.P w=.ok v w∧VR ρ a v:=by
 unfold Fx at hl;split at hl
 ·rename_i e y i off;split at hl
  ·rename_i C ks s hk;split at hl
   ·rename_i c u;split at hl
    ·rename_i n hs z;cases hl;cases r with
     |dptr _ _ _ _ b o F cap ks' A hk' h0 hi I=>
      have g:U.K e=some ks:=by rw [hE.kd,←hE.ke];exact hk
      rw [g] at hk';cases hk';have:=VR.dptr (ρ:=ρ) e y i (off+c.offset) b o F cap ks A g h0 hi (Ge z);rw [←Nat.add_assoc] at this;exact ⟨_,Ka hE s u hs b _,this⟩
    ·cases hl
   ·cases hl
  ·cases hl
 ·rename_i b G i off;split at hl
  ·rename_i C s;split at hl
   ·rename_i c u;split at hl
    ·cases hl
    ·rename_i n hs;cases hl;cases r with
     |aptr _ _ _ _ base z h0=>
      have:=VR.aptr (ρ:=ρ) b G i (off+c.offset) base z h0;rw [←Nat.add_assoc] at this
      obtain ⟨m,H⟩:∃m,E.size c.type=m+1:=by
       cases hq:E.size c.type with
       |zero=>exact absurd hq hs
       |succ m=>exact ⟨m,rfl⟩
      exact ⟨_,Ka hE s u H base.cb _,this⟩
   ·cases hl
  ·cases hl
 ·exact MJ hE r hl
end
end Go.AE
namespace Go.AE
variable [Gl:AH]
variable [U:Unk]
omit U in
theorem cV {a:AV} (h:a.isTop=false):a≠.top:=by rintro rfl;cases h
theorem DX:∀(l:List UInt8),C1 l.length (AA l)=l
 |[]=>rfl
 |b::r=>by
  have h:=D8 b r;simp only [List.length_cons,C1,h.1,h.2,DX r]
  congr 1
  simp
theorem KI {j:Ren} {kd:Kd} {a:AV} {v:Value} {x:SE} (h:VR j a v) (d:Y3 kd a=some x):DV U.K j.imm kd v (Ab U.V x):=by
 unfold Y3 at d;split at d
 ·rename_i k g n;split at d
  ·rename_i f;cases d;cases h;obtain ⟨c1,c2⟩:=An f;have i:k=g:=by simpa using c1
   subst i;refine .int k n _ ?_ rfl;simpa using c2
  ·cases d
 ·rename_i k g e;split at d
  ·rename_i f;cases d;cases h;obtain ⟨c1,c2⟩:=An f;have i:k=g:=by simpa using c1
   subst i;refine .int k _ _ ?_ rfl;rcases Bool.or_eq_true_iff.1 c2 with c|c
   ·exact .inl (by simpa using c)
   ·right;have m:=Gm U.ok x;unfold O5 at c;split at c
    ·rename_i l h o p;simp only [Bool.and_eq_true,decide_eq_true_eq] at c;have q:=m.1 l o;have r:=m.2 h p;omega
    ·cases c
  ·cases d
 ·rename_i b;cases d;cases h;exact .bool b _ rfl
 ·rename_i pos e;cases d;cases h;refine .bool _ _ ?_;cases pos with
  |true=>show (Ab U.V e).toBool=_;unfold Ad;cases (Ab U.V e).toBool<;>rfl
  |false=>show (!(Ab U.V e).toBool)=_;unfold Ad;cases (Ab U.V e).toBool<;>rfl
 ·rename_i l b;cases d;cases h;refine .str _ _ ?_;show (⟨(C1 _ _).toArray⟩:ByteArray)=_;rw [DX]
 ·cases d;cases h;exact .str _ _ rfl
 ·rename_i e s y;split at d
  ·rename_i f;cases d;have:=Ay f;subst this;cases h
   assumption
  ·cases d
 ·cases d;cases h;exact .nil _ _ rfl rfl
 ·cases d
omit U in
theorem List.getD_modify (l:List D) (i:Nat) (f:D→D) (q:Nat) (hq:q<l.length):(l.modify i f).getD q default=if i=q then f (l.getD q default) else l.getD q default:=by
 simp only [List.getD_eq_getElem?_getD,List.getElem?_modify];split
 ·rename_i h;subst h;simp [hq]
 ·simp [hq]
theorem Bk.upd {ρ:Ren} {ks:List Kd} {t cur':Array Value} {o j:Nat} {y i x:SE} {kd:Kd} {v:Value} (h:Bk U.K ρ.imm ks t o (Ab U.V y).rows) (hi:(Ac U.V i).toNat<(Ab U.V y).rows.length) (hj:ks[j]?=some kd)
  (hd:DV U.K ρ.imm kd v (Ab U.V x)) (hs:cur'.size=t.size) (hg:∀p,cur'[p]?=if p=o+(Ac U.V i).toNat*ks.length+j then some v else t[p]?):Bk U.K ρ.imm ks cur' o (Ab U.V (.upd y i j x)).rows:=by
 have er:(Ab U.V (.upd y i j x)).rows=(Ab U.V y).rows.modify (Ac U.V i).toNat fun r=>.row (r.cells.set j (Ab U.V x)):=rfl
 have el:(Ab U.V (.upd y i j x)).rows.length=(Ab U.V y).rows.length:=by rw [er];simp
 obtain ⟨h1,h2,h3⟩:=h;have av:j<ks.length:=(List.getElem?_eq_some_iff.1 hj).1;refine ⟨by rw [el,hs];exact h1,fun q hq=>?_,fun q c an hq hc=>?_⟩
 ·rw [el] at hq;rw [er,List.getD_modify _ _ _ _ hq];split
  ·simp only [D.cells,List.length_set];exact h2 q hq
  ·exact h2 q hq
 ·rw [el] at hq;have ar:c<ks.length:=(List.getElem?_eq_some_iff.1 hc).1;have I:=h3 q c an hq hc;rw [er,List.getD_modify _ _ _ _ hq];by_cases ab:(Ac U.V i).toNat=q
  ·rw [if_pos ab];simp only [D.cells];by_cases al:c=j
   ·subst al;rw [hj] at hc;cases hc;have e1:cur'.getD (o+q*ks.length+c) Go.undef=v:=by simp [Array.getD_eq_getD_getElem?,hg,ab]
    have e2:((((Ab U.V y).rows.getD q default).cells.set c (Ab U.V x)).getD c default)=Ab U.V x:=by
     have:=h2 q hq;generalize ((Ab U.V y).rows.getD q default).cells=cl at this ⊢;simp [List.getD_eq_getElem?_getD,this,ar]
    rw [e1];simp only [D.cells] at e2;rw [e2];exact hd
   ·have e1:cur'.getD (o+q*ks.length+c) Go.undef=t.getD (o+q*ks.length+c) Go.undef:=by
     simp only [Array.getD_eq_getD_getElem?,hg,ab];rw [if_neg (by omega)]
    have e2:((((Ab U.V y).rows.getD q default).cells.set j (Ab U.V x)).getD c default)=((Ab U.V y).rows.getD q default).cells.getD c default:=by
     simp only [List.getD_eq_getElem?_getD];rw [List.getElem?_set_ne (fun e=>al e.symm)]
    rw [e1];simp only [D.cells] at e2 I ⊢;rw [e2];exact I
  ·rw [if_neg ab]
   have e1:cur'.getD (o+q*ks.length+c) Go.undef=t.getD (o+q*ks.length+c) Go.undef:=by
    simp only [Array.getD_eq_getD_getElem?,hg];rw [if_neg ?_];intro e;have J:(Ac U.V i).toNat<q∨q<(Ac U.V i).toNat:=by omega
    rcases J with J|J
    ·have:=Nat.mul_le_mul_right ks.length J;rw [Nat.succ_mul] at this;omega
    ·have:=Nat.mul_le_mul_right ks.length J;rw [Nat.succ_mul] at this;omega
   rw [e1];exact I
theorem Nb {n:Ren} {ks:List Kd} {o:Nat} {i:SE}:∀(l:List AV) (g:List Value) (j:Nat) (y m:SE) (b cur':Array Value),Bk U.K n.imm ks b o (Ab U.V y).rows→(Ac U.V i).toNat<(Ab U.V y).rows.length→C2 i ks y j l=some m→VL n l g→
  cur'.size=b.size→(∀p,cur'[p]?=if o+(Ac U.V i).toNat*ks.length+j≤p∧p<o+(Ac U.V i).toNat*ks.length+j+g.length then g[p-(o+(Ac U.V i).toNat*ks.length+j)]? else b[p]?)→
  Bk U.K n.imm ks cur' o (Ab U.V m).rows
 |[],g,j,y,m,b,cur',h,hi,d,s,w,t=>by
  simp only [C2,Option.some.injEq] at d;subst d;have:=s.nil_inv;subst this
  have:cur'=b:=by
   apply Array.ext_getElem?;intro p;rw [t,if_neg (by simp)]
  rw [this];exact h
 |a::r,g,j,y,m,b,cur',h,hi,d,s,w,t=>by
  obtain ⟨v,vr,rfl,A,hr⟩:=s.cons_inv;simp only [C2] at d;split at d
  ·rename_i k z;split at d
   ·rename_i x B;have C:=KI A B;have E:j<ks.length:=(List.getElem?_eq_some_iff.1 z).1;have u:((Ac U.V i).toNat+1)*ks.length≤(Ab U.V y).rows.length*ks.length:=Nat.mul_le_mul_right _ hi;rw [Nat.add_mul,Nat.one_mul] at u;have F:=h.1
    have G:=h.upd (cur':=b.setIfInBounds (o+(Ac U.V i).toNat*ks.length+j) v) hi z C (by simp) (fun p=>by
     rw [Array.getElem?_setIfInBounds];by_cases e:o+(Ac U.V i).toNat*ks.length+j=p
     ·rw [if_pos e,if_pos e.symm,if_pos (by omega)]
     ·rw [if_neg e,if_neg (fun q=>e q.symm)])
    have H:(Ab U.V (.upd y i j x)).rows.length=(Ab U.V y).rows.length:=by
     have I:(Ab U.V (.upd y i j x)).rows=(Ab U.V y).rows.modify (Ac U.V i).toNat fun r=>.row (r.cells.set j (Ab U.V x)):=rfl
     rw [I];simp
    refine Nb r vr (j+1) _ m _ cur' G (by rw [H];exact hi) d hr (by rw [w];simp) (fun p=>?_)
    rw [t];simp only [List.length_cons];by_cases e:p=o+(Ac U.V i).toNat*ks.length+j
    ·subst e;rw [if_pos (by omega),if_neg (by omega),Array.getElem?_setIfInBounds_self]
     rw [if_pos (by omega)]
     simp
    ·by_cases c:o+(Ac U.V i).toNat*ks.length+j≤p∧p<o+(Ac U.V i).toNat*ks.length+j+(vr.length+1)
     ·rw [if_pos c,if_pos (by omega)]
      rw [show p-(o+(Ac U.V i).toNat*ks.length+j)=(p-(o+(Ac U.V i).toNat*ks.length+(j+1)))+1 by omega]
      simp
     ·rw [if_neg c,if_neg (by omega),Array.getElem?_setIfInBounds_ne (fun q=>e q.symm)]
   ·cases d
  ·cases d
section
variable {E:Env} (hE:OK E) {ρ:Ren} {h:Aa} {w:World}
include hE
omit hE in
theorem Mj {i:SE} {ks:List Kd}:∀(l:List AV) (j:Nat) (y y':SE),C2 i ks y j l=some y'→j+l.length≤ks.length∨l=[]
 |[],_,_,_,_=>.inr rfl
 |a::r,j,y,y',hu=>by
  simp only [C2] at hu;split at hu
  ·rename_i k hk;split at hu
   ·rename_i x hx;have hjl:j<ks.length:=(List.getElem?_eq_some_iff.1 hk).1;rcases Mj r (j+1) _ _ hu with h|h
    ·left;simp only [List.length_cons];omega
    ·left;subst h;simp;omega
   ·cases hu
  ·cases hu
omit hE in
theorem Gu {i:SE} {ks:List Kd}:∀(l:List AV) (vs:List Value) (j:Nat) (y y':SE),C2 i ks y j l=some y'→VL ρ l vs→∀v∈vs,v.oneCell'=true
 |[],vs,_,_,_,_,hv,v,hm=>by have:=hv.nil_inv;subst this;cases hm
 |a::r,vs,j,y,y',hu,hv,v,hm=>by
  obtain ⟨v0,vr,rfl,ha,hr⟩:=hv.cons_inv;simp only [C2] at hu;split at hu
  ·rename_i k hk;split at hu
   ·rename_i x hx;rcases List.mem_cons.1 hm with rfl|hm
    ·have:=KI ha hx;cases this<;>rfl
    ·exact Gu r vr (j+1) _ _ hu hr v hm
   ·cases hu
  ·cases hu
theorem Jq (hr:HR ρ h.blk.get w) {t:TypeId} {x a:AV} {J v:Value} {h':Aa} (hx:VR ρ x J) (ha:VR ρ a v) (m:DI E t x a h=some h') :
  ∃d,(Instr.storeAt t J v).run E.P w=.ok () d∧HR ρ h'.blk.get d∧Ext ρ ρ h h' w d:=by
 unfold DI at m;split at m
 ·rename_i b es i off;split at m
  ·rename_i e y L;split at m
   ·rename_i ks hk;split at m
    ·rename_i S;split at m
     ·rename_i y' hu;cases m;obtain ⟨u,c4⟩:=An S;obtain ⟨c12,c3⟩:=An u;obtain ⟨c1,c2⟩:=An c12;have C:=Ay c1;subst C;obtain ⟨r0,M⟩:=My c2
      try rw [Ai,Di,←Ai] at M
      rw [Ai] at M;have o:=ha.cells (cV (by simpa using c4))
      cases hx with
      |aptr _ _ _ _ base z h0=>
       obtain ⟨T,g,F,G,N,O,b3,b4,Q⟩:=hr.blk b base _ z L;have A:U.K e=some ks:=by rw [hE.kd,←hE.ke];exact hk
       rw [A] at N;cases N;have hi:(Ac U.V i).toNat<(Ab U.V y).rows.length:=by omega
       have H:((Ac U.V i).toNat+1)*ks.length≤(Ab U.V y).rows.length*ks.length:=Nat.mul_le_mul_right _ hi;rw [Nat.add_mul,Nat.one_mul] at H;have W:=Q.1;have p:a.cells.length=v.cells.toList.length:=o.1
       have n:base.co+(Ac U.V i).toNat*ks.length+off+0+v.cells.toList.length≤g.size∨v.cells.toList=[]:=by
        rcases Mj _ _ _ _ hu with q|q
        ·left;omega
        ·right;rw [q] at p;exact List.eq_nil_of_length_eq_zero p.symm
       have I:∃d c,(storeCells ⟨base.cb,base.co+(Ac U.V i).toNat*ks.length+off,none⟩ v.cells.toList 0).run E.P w=.ok () d∧d.heap[base.cb]?=some (.cells c F G)∧c.size=g.size∧
         (∀j,c[j]?=if base.co+(Ac U.V i).toNat*ks.length+off≤j∧j<base.co+(Ac U.V i).toNat*ks.length+off+v.cells.toList.length then v.cells.toList[j-(base.co+(Ac U.V i).toNat*ks.length+off)]? else g[j]?)∧
         d.heap.size=w.heap.size∧(∀k,k≠base.cb→d.heap[k]?=w.heap[k]?)∧d.os=w.os∧d.tape=w.tape∧d.output=w.output:=by
        rcases n with n|B
        ·exact Cb E.P base.cb (base.co+(Ac U.V i).toNat*ks.length+off) F G v.cells.toList 0 w g O n (by rw [b3];exact b4) (Gu _ _ _ _ _ hu o)
        ·rw [B];exact ⟨w,g,by simp [storeCells],O,rfl,fun j=>by rw [if_neg (by simp)],rfl,fun _ _=>rfl,rfl,rfl,rfl⟩
       obtain ⟨d,c,X,Y,R,Z,q5,q6,q7,q8,q9⟩:=I;have s:=Nb a.cells v.cells.toList off y y' g c Q hi hu o R Z;obtain ⟨p1,p2⟩:=hr.put z (by rw [L];exact Option.some_ne_none _) (.arr e y') d ⟨ks,c,F,G,A,Y,by rw [R,b3],b4,s⟩ q5 q6 q7 q8 q9
       refine ⟨d,?_,p1,p2⟩;unfold Instr.storeAt storeVar;have e:v.cells.size=a.cells.length:=by have:=o.1;simp at this;omega
       simp [Instr.sureAddr,hE.run_szIs c3,e,X]
     ·cases m
    ·cases m
   ·cases m
  ·cases m
 ·exact UF hE hr hx ha m
end
end Go.AE
namespace Go.AE
variable [Gl:AH]
variable [U:Unk]
def Bi (K:TypeId→Option (List Kd)) (M:Nat→Option (Array Value)) (ks:List Kd) (a:List Value) (rows:List D):Prop:=
 a.length=rows.length*ks.length∧(∀i,i<rows.length→(rows.getD i default).cells.length=ks.length)∧
  ∀i j kd,i<rows.length→ks[j]?=some kd→DV K M kd (a.getD (i*ks.length+j) Go.undef) ((rows.getD i default).cells.getD j default)
section
variable {K:TypeId→Option (List Kd)} {M:Nat→Option (Array Value)} {ks:List Kd}
omit U
theorem Bi.nil:Bi K M ks [] []:=⟨by simp,fun i h=>by simp at h,fun i j kd h=>by simp at h⟩
theorem PB {l m:List D} {i:Nat}:(l++m).getD i default=if i<l.length then l.getD i default else m.getD (i-l.length) default:=by
 simp only [List.getD_eq_getElem?_getD];by_cases h:i<l.length
 ·rw [if_pos h,List.getElem?_append_left h]
 ·rw [if_neg h,List.getElem?_append_right (by omega)]
theorem UZ {l m:List Value} {i:Nat}:(l++m).getD i Go.undef=if i<l.length then l.getD i Go.undef else m.getD (i-l.length) Go.undef:=by
 simp only [List.getD_eq_getElem?_getD];by_cases h:i<l.length
 ·rw [if_pos h,List.getElem?_append_left h]
 ·rw [if_neg h,List.getElem?_append_right (by omega)]
theorem QX {i n l j:Nat} (hi:i<n) (a:j<l):i*l+j<n*l:=by
 have:=Nat.mul_le_mul_right l hi;rw [Nat.succ_mul] at this;omega
theorem Bi.append {I J:List Value} {r s:List D} (h:Bi K M ks I r) (k:Bi K M ks J s):Bi K M ks (I++J) (r++s):=by
 refine ⟨by simp [h.1,k.1,Nat.add_mul],fun i hi=>?_,fun i j kd hi l=>?_⟩
 ·rw [PB];simp only [List.length_append] at hi;split
  ·rename_i c;exact h.2.1 i c
  ·exact k.2.1 _ (by omega)
 ·have t:j<ks.length:=(List.getElem?_eq_some_iff.1 l).1;simp only [List.length_append] at hi;rw [PB,UZ,h.1];by_cases c:i<r.length
  ·rw [if_pos c,if_pos (QX c t)];exact h.2.2 i j kd c l
  ·rw [if_neg c,if_neg (by
    have:=Nat.mul_le_mul_right ks.length (Nat.le_of_not_lt c);omega)]
   have e:i*ks.length+j-r.length*ks.length=(i-r.length)*ks.length+j:=by
    have:=Nat.mul_le_mul_right ks.length (Nat.le_of_not_lt c);rw [Nat.sub_mul];omega
   rw [e];exact k.2.2 _ j kd (by omega) l
theorem Bi.at {r:List Value} {rows:List D} {l:Array Value} {off:Nat} (h:Bi K M ks r rows) (J:off+r.length≤l.size) (hg:∀q,q<r.length→l[off+q]?=r[q]?):Bk K M ks l off rows:=by
 refine ⟨by rw [←h.1];exact J,h.2.1,fun i j kd hi I=>?_⟩
 have t:j<ks.length:=(List.getElem?_eq_some_iff.1 I).1;have:=h.2.2 i j kd hi I;have hq:i*ks.length+j<r.length:=by rw [h.1];exact QX hi t
 have e:l.getD (off+i*ks.length+j) Go.undef=r.getD (i*ks.length+j) Go.undef:=by
  simp only [Array.getD_eq_getD_getElem?,List.getD_eq_getElem?_getD];rw [Nat.add_assoc,hg _ hq]
 rw [e];exact this
theorem Bk.vals {rows:List D} {l:Array Value} {off:Nat} (h:Bk K M ks l off rows):Bi K M ks ((l.toList.drop off).take (rows.length*ks.length)) rows:=by
 refine ⟨by have:=h.1;simp;omega,h.2.1,fun i j kd hi t=>?_⟩
 have r:j<ks.length:=(List.getElem?_eq_some_iff.1 t).1;have:=h.2.2 i j kd hi t
 have e:((l.toList.drop off).take (rows.length*ks.length)).getD (i*ks.length+j) Go.undef=l.getD (off+i*ks.length+j) Go.undef:=by
  simp only [Array.getD_eq_getD_getElem?,List.getD_eq_getElem?_getD];rw [List.getElem?_take,if_pos (QX hi r),List.getElem?_drop,Array.getElem?_toList,Nat.add_assoc]
 rw [e];exact this
theorem Bi.mono {N:Nat→Option (Array Value)} (l:∀k a,M k=some a→N k=some a) {r:List Value} {rows:List D} (h:Bi K M ks r rows):Bi K N ks r rows:=
 ⟨h.1,h.2.1,fun i j kd a b=>(h.2.2 i j kd a b).mono l⟩
end
section
variable {ρ:Ren}
theorem E6:∀(ks:List Kd) (l:List AV) (c:List Value) (r:SE),Gz ks l=some r→VL ρ l c→(Ab U.V r).cells.length=ks.length∧c.length=ks.length∧∀j kd,ks[j]?=some kd→DV U.K ρ.imm kd (c.getD j Go.undef) ((Ab U.V r).cells.getD j default)
 |[],[],c,r,h,d=>by
  simp only [Gz,Option.some.injEq] at h;subst h;have:=d.nil_inv;subst this;exact ⟨rfl,rfl,fun j kd b=>by simp at b⟩
 |k::ks,a::l,c,r,h,d=>by
  obtain ⟨v,vr,rfl,e,hr⟩:=d.cons_inv;simp only [Gz] at h;split at h
  ·rename_i x y f g;cases h;obtain ⟨i,m,n⟩:=E6 ks l vr y g hr;have o:(Ab U.V (.rcons x y)).cells=Ab U.V x::(Ab U.V y).cells:=rfl;rw [o];refine ⟨by simp [i],by simp [m],fun j kd b=>?_⟩
   cases j with
   |zero=>
    simp only [List.getElem?_cons_zero,Option.some.injEq] at b;subst b;exact KI e f
   |succ j=>
    simp only [List.getElem?_cons_succ] at b;exact n j kd b
  ·cases h
 |[],_::_,_,_,h,_=>by cases h
 |_::_,[],_,_,h,_=>by cases h
theorem Bi.one {ks:List Kd} {l:List Value} {r:D} (t:r.cells.length=ks.length) (I:l.length=ks.length) (J:∀j kd,ks[j]?=some kd→DV U.K ρ.imm kd (l.getD j Go.undef) (r.cells.getD j default)):Bi U.K ρ.imm ks l [r]:=by
 refine ⟨by simp [I],fun i hi=>?_,fun i j kd hi hj=>?_⟩
 ·have:i=0:=by simpa using hi
  subst this;exact t
 ·have:i=0:=by simpa using hi
  subst this;simpa using J j kd hj
theorem Fa {ks:List Kd}:∀(n:Nat) (y b:SE) (l:List AV) (a:List Value),DJ ks n y l=some b→VL ρ l a→∃c:List D,c.length=n∧(Ab U.V b).rows=(Ab U.V y).rows++c∧Bi U.K ρ.imm ks a c
 |0,y,b,[],a,h,d=>by
  simp only [DJ,Option.some.injEq] at h;subst h;have:=d.nil_inv;subst this;exact ⟨[],rfl,by simp,.nil⟩
 |0,y,b,_::_,a,h,d=>by cases h
 |n+1,y,b,l,a,h,d=>by
  simp only [DJ] at h;split at h
  ·rename_i r hr;obtain ⟨e,f,g⟩:=E6 ks _ (a.take ks.length) r hr (d.take _);obtain ⟨c,i,j,k⟩:=Fa n _ b _ (a.drop ks.length) h (d.drop _);refine ⟨Ab U.V r::c,by simp [i],?_,?_⟩
   ·rw [j];show ((Ab U.V y).rows++[Ab U.V r])++c=_;simp
   ·have:=(Bi.one e f g).append k;simpa using this
  ·cases h
variable {E:Env} (hE:OK E) {h:Aa} {w:World}
include hE
theorem Ju {e:TypeId} {ks:List Kd} {b off n j:Nat} {l:List AV} {r:Value} (hr:HR ρ h.blk.get w) (z:VR ρ (.slice b off n j) r) (d:BW h b off (n*j)=some l) :
  ∃i,VL ρ l i∧i.length=n*j∧((n=0∧∃a,r=.slice (some a) 0 0)∨∃base f s k g o c,ρ b=some base∧h.blk.get b=some (.cells o c)∧r=.slice (some ⟨base.cb,base.co+off,none⟩) n g∧n≤g∧base.co+off+g*j≤base.csz∧w.heap[base.cb]?=some (.cells f s k)∧f.size=base.csz∧(k.1=k.2∨base.csz≤k.1)∧
   ∀q,q<i.length→f[base.co+off+q]?=i[q]?):=by
 cases z with
 |slice _ _ _ _ g base t A B=>
  unfold BW at d;split at d
  ·rename_i o c p;split at d
   ·rename_i u;obtain ⟨i,v,I,C⟩:=hr.loadCells E.P t p (Cu u) d;obtain ⟨f,s,k,x,D,J,F,K⟩:=hr.blk b base _ t p;have m:i.length=n*j:=by rw [←v.1];exact (T.range_spec c _ _ _ d).1
    refine ⟨i,v,m,.inr ⟨base,f,s,k,g,o,c,t,p,rfl,A,B,x,D,F,fun q G=>?_⟩⟩
    have y:i[q]?=some i[q]:=by simp [G]
    have:=C q _ y;rw [y];simpa [World.cell?,x] using this
   ·cases d
  ·cases d
 |sliceEnd _ _ _ a=>
  unfold BW at d;split at d
  ·rename_i o c p;split at d
   ·have H:0*j=0:=by simp
    rw [H] at d;simp only [T.range,Option.some.injEq] at d;subst d;exact ⟨[],VL.nil ρ,by simp,.inl ⟨rfl,a,rfl⟩⟩
   ·cases d
  ·cases d
theorem YE (hr:HR ρ h.blk.get w) {X e B:TypeId} {r:TypeInfo} {ks:List Kd} (hk:E.kinds e=some ks) (s:ks.length=r.size) (k:E.P.underlying X=some (.slice B)) {y Y m:SE} {x:AV} {xv:Value} (t:VR ρ x xv) (f:X0 e ks h y x=some (Y,m)) :
  ∃C nv,(Ab U.V Y).rows=(Ab U.V y).rows++C∧Ac U.V m=(C.length:Nat)∧Bi U.K ρ.imm ks nv C∧Vx E.P w X e r xv C.length nv:=by
 have D:U.K e=some ks:=by rw [hE.kd,←hE.ke];exact hk
 have g:∀a:Option Addr,Vx E.P w X e r (.slice a 0 0) 0 []:=by
  intro a;refine .cells _ k (.inl ⟨B,rfl⟩) (by simp [Builtin.lenOf]) (fun u _=>?_)
  cases a with
  |none=>simp [Builtin.firstCells]
  |some a=>simp [Builtin.firstCells,loadCells,loadCellsFrom]
 unfold X0 at f;split at f
 ·cases f;cases t;exact ⟨[],[],by simp,rfl,.nil,g none⟩
 ·cases f;cases t;exact ⟨[],[],by simp,rfl,.nil,g _⟩
 ·rename_i e1 S;split at f
  ·rename_i Z;cases f;have:=Ay Z;subst this;cases t with
   |dat _ _ a n c T=>
    obtain ⟨_,_,_,W,q2⟩:=T.slice_inv;cases W;have F:(Ab U.V (.cat y S)).rows=(Ab U.V y).rows++(Ab U.V S).rows:=rfl;by_cases hn:n=0
    ·subst hn;have G:(Ab U.V S).rows=[]:=List.eq_nil_of_length_eq_zero q2;refine ⟨[],[],by rw [F,G],by rw [Ai,G],.nil,?_⟩
     refine .cells _ k (.inl ⟨B,rfl⟩) (by simp [Builtin.lenOf]) (fun u _=>?_)
     cases a with
     |none=>simp [Builtin.firstCells]
     |some a=>simp [Builtin.firstCells,loadCells,loadCellsFrom]
    ·obtain ⟨b,o,rfl,H⟩:=T.at (by omega)
     generalize I:Ab U.V S=d at T;cases T with
     |slc _ _ _ _ _ _ aa arr J ha L ae h1 M N hv=>
      rw [D] at J;cases J;obtain ⟨O,Q,hw⟩:=hr.imm b arr ha;have ab:Bk U.K ρ.imm ks arr o d.rows:=⟨by rw [L];exact M,fun i hi=>N i (by omega),fun i j kd hi hj=>hv i j kd (by omega) hj⟩
      refine ⟨d.rows,_,by rw [F,I],by rw [Ai,I],ab.vals,?_⟩
      rw [L];refine .cells _ k (.inl ⟨B,rfl⟩) (by simp [Builtin.lenOf]) (fun u p=>?_)
      simp only [Builtin.firstCells,←s];exact AC E.P u b o (n*ks.length) arr O Q (by rw [p];exact hw) M
     |empty=>omega
  ·cases f
 ·rename_i b es n nl;split at f
  ·rename_i e1 z v hb;split at f
   ·rename_i Z;cases f;obtain ⟨c1,c2⟩:=An Z;have:=Ay c1;subst this;have:=Ay v;subst this;have t:=Jn c2 t;clear c2;have F:(Ab U.V (.cat y z)).rows=(Ab U.V y).rows++(Ab U.V z).rows:=rfl;cases t with
    |asl _ _ _ _ R base ac h0 H hz ad=>
     obtain ⟨aa,A,O,Q,b1,b2,b3,b4,b5⟩:=hr.blk b base _ ac hb;rw [D] at b1;cases b1;refine ⟨(Ab U.V z).rows,_,F,Ai,b5.vals,?_⟩;have e2:(Ac U.V (.lenL z)).toNat=(Ab U.V z).rows.length:=by rw [Ai];simp
     rw [e2];refine .cells _ k (.inl ⟨B,rfl⟩) (by simp [Builtin.lenOf]) (fun u p=>?_)
     simp only [Builtin.firstCells,←s];exact AC E.P u base.cb base.co _ A O Q (by rw [p];exact b2) b5.1
    |aslEnd _ _ _ _ a h0 ad=>
     rw [Ai] at h0;have G:(Ab U.V z).rows=[]:=List.eq_nil_of_length_eq_zero (by omega)
     exact ⟨[],[],by rw [F,G],by rw [Ai,G],.nil,g a⟩
   ·cases f
  ·cases f
 ·rename_i b off n es;split at f
  ·rename_i v;split at f
   ·rename_i l hl;split at f
    ·rename_i y1 hy;cases f;have:=Ay v;subst this;obtain ⟨vs,v1,v2,v3⟩:=Ju hE (e:=e) (ks:=ks) hr t hl;obtain ⟨C,W,q2,q3⟩:=Fa n y Y l vs hy v1;refine ⟨C,vs,q2,by rw [W];rfl,q3,?_⟩
     rw [W];rcases v3 with ⟨rfl,a,rfl⟩|⟨base,A,O,Q,R,sz,c,p1,p2,rfl,p4,p5,p6,p7,p8,p9⟩
     ·have:vs=[]:=List.eq_nil_of_length_eq_zero (by simpa using v2)
      subst this;exact g (some a)
     ·refine .cells _ k (.inl ⟨B,rfl⟩) (by simp [Builtin.lenOf]) (fun u p=>?_)
      have af:n*ks.length≤R*ks.length:=Nat.mul_le_mul_right _ p4;have:=AC E.P u base.cb (base.co+off) (n*ks.length) A O Q (by rw [p];exact p6) (by rw [p7];omega)
      simp only [Builtin.firstCells,←s,this]
      congr 2
      apply List.ext_getElem?;intro q;rw [List.getElem?_take];by_cases hq:q<n*ks.length
      ·rw [if_pos hq,List.getElem?_drop,Array.getElem?_toList,p9 q (by omega)]
      ·rw [if_neg hq,List.getElem?_eq_none (by omega)]
    ·cases f
   ·cases f
  ·cases f
 ·cases f
inductive Lm (ρ:Ren) (h:Aa) (w:World) (ks:List Kd) (ys nls:SE):Option Nat→Value→Prop
 |none (b:Option Nat) (a:Option Addr) (hy:(Ab U.V ys).rows=[]) (hn:a.isNone=Ad U.V nls):Lm ρ h w ks ys nls b (.slice a 0 0)
 |blk (b off cap:Nat) (base:Br) (cur:Array Value) (et:TypeId) (fz:Nat×Nat) (hb:ρ b=some base) (hl:h.blk.get b≠.none) (hc:(Ab U.V ys).rows.length≤cap) (hz:base.co+off+cap*ks.length≤base.csz)
   (hw:w.heap[base.cb]?=some (.cells cur et fz)) (hs:cur.size=base.csz) (hf:fz.1=fz.2∨base.csz≤fz.1) (hv:Bk U.K ρ.imm ks cur (base.co+off) (Ab U.V ys).rows) (hn:Ad U.V nls=false) :
   Lm ρ h w ks ys nls (some b) (.slice (some ⟨base.cb,base.co+off,.none⟩) (Ab U.V ys).rows.length cap)
theorem Wh (hr:HR ρ h.blk.get w) {e:TypeId} {ks:List Kd} (C:E.kinds e=some ks) {s:AV} {x:Value} {ys nls:SE} {A:Option Nat} (m:VR ρ s x) (d:T2 e ks h s=some (ys,nls,A)):Lm ρ h w ks ys nls A x:=by
 have r:U.K e=some ks:=by rw [hE.kd,←hE.ke];exact C
 unfold T2 at d;split at d
 ·cases d;cases m;exact .none _ _ rfl rfl
 ·cases d;cases m;rename_i a D;exact .none _ _ rfl D
 ·rename_i b off n F;split at d
  ·rename_i i;split at d
   ·rename_i l G;split at d
    ·rename_i y H;cases d;have:=Ay i;subst this;obtain ⟨I,J,L,M⟩:=Ju hE (e:=e) (ks:=ks) hr m G;obtain ⟨N,t,O,P⟩:=Fa n .emptyL ys l I H J;have q:(Ab U.V ys).rows=N:=by rw [O];rfl
     rcases M with ⟨rfl,a,rfl⟩|⟨base,j,u,v,f,Z,c,p1,p2,rfl,p4,p5,p6,p7,p8,p9⟩
     ·exact .none _ _ (by rw [q];exact List.eq_nil_of_length_eq_zero t) rfl
     ·have Q:n*ks.length≤f*ks.length:=Nat.mul_le_mul_right _ p4
      have:=Lm.blk (ρ:=ρ) (h:=h) (w:=w) (ks:=ks) (ys:=ys) (nls:=.bc false) b off f base j u v p1 (by rw [p2];exact Option.some_ne_none _) (by rw [q,t];exact p4) p5 p6 p7 p8
       (by rw [q];exact P.at (by rw [L,p7];omega) p9) rfl
      rw [q,t] at this;exact this
    ·cases d
   ·cases d
  ·cases d
 ·rename_i b F n nl;split at d
  ·rename_i e1 z i o;split at d
   ·rename_i R;cases d;obtain ⟨c1,c2⟩:=An R;have:=Ay c1;subst this;have:=Ay i;subst this;have m:=Jn c2 m;clear c2;cases m with
    |asl _ _ _ _ f base p h0 g S k=>
     obtain ⟨T,j,u,v,B,W,b3,b4,X⟩:=hr.blk b base _ p o;rw [r] at B;cases B;have Y:(Ac U.V (.lenL ys)).toNat=(Ab U.V ys).rows.length:=by rw [Ai];simp
     rw [Y] at g ⊢;exact Lm.blk (ρ:=ρ) (h:=h) (w:=w) (ks:=ks) b 0 f base j u v p (by rw [o];exact Option.some_ne_none _) g (by simpa using S) W b3 b4 (by simpa using X) k
    |aslEnd _ _ _ _ a h0 k=>
     rw [Ai] at h0;exact .none _ _ (List.eq_nil_of_length_eq_zero (by omega)) k
   ·cases d
  ·cases d
 ·cases d
omit hE in
theorem HR.phantom (hr:HR ρ h.blk.get w) (hf:ρ h.nx=none) (x:Ag):HR ρ (h.new x).blk.get w∧Ext ρ ρ h (h.new x) w w:=by
 have live:∀b base,ρ b=some base→(h.new x).blk.get b=h.blk.get b:=by
  intro b base hb;simp only [Aa.new,T.get_set];rw [if_neg (by rintro rfl;rw [hf] at hb;cases hb)]
 refine ⟨⟨hr.lt,fun b base y hb hy=>hr.blk b base y hb (by rw [←live b base hb];exact hy),fun b b' base base' hne hb hb' h1 h2=>hr.apart b b' base base' hne hb hb' (by rw [←live b base hb];exact h1) (by rw [←live b' base' hb'];exact h2),hr.imm,fun k arr b base hk hb hl=>hr.off k arr b base hk hb (by rw [←live b base hb];exact hl),hr.glob⟩,
  ⟨Ren.le_refl ρ,Nat.le_succ _,fun _ _ e=>.inl e,GH.refl w,fun _ _ _=>rfl,⟨[],rfl,fun b _ hb=>?_⟩,fun b hb=>?_,fun _ _ e=>.inl e⟩⟩
 ·simp only [Aa.new,T.get_set];simp only [Aa.new] at hb;rw [if_neg (by omega)]
 ·simp only [Aa.new,T.get_set] at hb ⊢;by_cases e:h.nx=b
  ·exact .inr ⟨by omega,by omega⟩
  ·rw [if_neg e] at hb;exact .inl hb
omit hE in
theorem Sd (hr:HR ρ h.blk.get w) (o:Option Nat):HR ρ (ED h o).blk.get w∧Ext ρ ρ h (ED h o) w w∧(ED h o).nx=h.nx:=by
 cases o with
 |none=>exact ⟨hr,Ext.refl _ _ _,rfl⟩
 |some b=>obtain ⟨p1,p2⟩:=hr.strike b;exact ⟨p1,p2,rfl⟩
theorem HG (hr:HR ρ h.blk.get w) {t O ty:TypeId} {s x a:AV} {sv Y:Value} {h':Aa} (hs:VR ρ s sv) (hx:VR ρ x Y) (n:Ik E t O s x h=some (a,h')) (hf:AG ρ h.nx h'.nx)
  (hA:∀a h',IN E t O s x h=some (a,h')→AG ρ h.nx h'.nx→AP E ρ h h' w (Builtin.append_ #[t,O] ty #[sv,Y]) a) :
  AP E ρ h h' w (Builtin.append_ #[t,O] ty #[sv,Y]) a:=by
 unfold Ik at n;split at n
 ·exact hA a h' n hf
 ·split at n
  ·rename_i e e' hd ar;split at n
   ·rename_i f ks z hi hk hz;split at n
    ·rename_i hc;split at n
     ·rename_i A C bs Z;split at n
      ·rename_i y m ae;split at n
       ·rename_i hb;cases n;obtain ⟨c12,c3⟩:=An hc;obtain ⟨c1,c2⟩:=An c12;have B:=Ay c1;have a7:=Ay c2;have au:=Cu c3;have D:=hE.ty e f hi;have af:U.K e=some ks:=by rw [hE.kd,←hE.ke];exact hk
        obtain ⟨b1,b2⟩:=An hb;have b1:=IY b1;have b2:=IY b2;rw [Av,decide_eq_true_eq,Ai,BD] at b1;rw [Av,decide_eq_true_eq,BD] at b2;have ht:=hE.und hd;have av:=hE.und ar;obtain ⟨l,nv,s1,s2,Q,s4⟩:=YE hE hr hk B av hx ae;have hB:=Wh hE hr hk hs Z;obtain ⟨i',zv,i1,i2,i3⟩:=Gi hz;rw [hi] at i1;cases i1
        have aw:zv.cells.size=f.size:=by
         have:=((AL ρ i3).cells (Bo i3)).1;simp at this;omega
        have R:nv.length=l.length*f.size:=by rw [Q.1,B]
        have a8:l.length<1048576:=by omega
        have F:Ac U.V (.lenL y)=(((Ab U.V A).rows.length+l.length:Nat):Int):=by rw [Ai,s1];simp
        have aa:Ad U.V (.and C (.eql m (.c 0)))=(Ad U.V C&&(Ac U.V m==0)):=rfl;have p:ρ h.nx=none:=hf h.nx (Nat.le_refl _) (by cases bs<;>simp [Aa.new,ED,Aa.strike])
        obtain ⟨o1,o2,o3⟩:=Sd hr bs
        have S:∀(base:Option Addr) (d i:Nat) (I:List Value),sv=.slice base d i→d=(Ab U.V A).rows.length→d≤i→i<d+l.length→Bi U.K ρ.imm ks I (Ab U.V A).rows→
          (∀J:World,J.heap=w.heap→(Builtin.firstCells f.size d (.slice base d i)).run E.P J=.ok I.toArray J)→
          AP E ρ h ((ED h bs).new (.arr e y)) w (Builtin.append_ #[t,O] ty #[sv,Y]) (.asl h.nx f.size (.lenL y) (.and C (.eql m (.c 0)))):=by
         intro base d i I ax ag a9 ab ah ay;subst ax;have ba:(d+l.length)*f.bytes≤1074790400*1024:=Nat.mul_le_mul (by omega) au
         obtain ⟨g,k1,k2⟩:=DE t O ty e f ht D zv i2 Y l.length nv s4 base d i ab (by omega) (by omega) I.toArray ay
         generalize ac:Builtin.zeroCells zv.cells (g-(d+l.length))=zs at k2;have ai:zs.size=(g-(d+l.length))*f.size:=by rw [←ac];simp [Builtin.zeroCells,aw]
         have aj:(I.toArray++nv.toArray++zs).size=g*f.size:=by
          have W:I.length=d*f.size:=by rw [ah.1,B,ag]
          simp only [Array.size_append,List.size_toArray,W,R,ai];rw [←Nat.add_mul,←Nat.add_mul]
          congr 1;omega
         have j:=ah.append Q;rw [←s1] at j
         have r:Bk U.K ρ.imm ks (I.toArray++nv.toArray++zs) 0 (Ab U.V y).rows:=j.at (by simp) (fun q L=>by
          have az:q<I.length+nv.length:=by simpa using L
          rw [Nat.zero_add,Array.getElem?_append_left (by simpa using az)]
          simp only [List.append_toArray,List.getElem?_toArray])
         have a0:HR ρ (ED h bs).blk.get {w with drawn:=w.drawn+1}:=o1.same rfl
         have a1:ρ (ED h bs).nx=none:=by rw [o3];exact p
         obtain ⟨p1,p2⟩:=a0.new a1 (.arr e y) (.cells (I.toArray++nv.toArray++zs) e) (g*f.size) ⟨ks,_,e,_,af,rfl,aj,.inl rfl,r⟩ {w with drawn:=w.drawn+1,heap:=w.heap.push (.cells (I.toArray++nv.toArray++zs) e)} rfl rfl rfl rfl
         refine ⟨_,_,_,k2,?_,p1,(o2.trans (Ext.drawn p2 rfl rfl rfl rfl) hf)⟩;rw [o3];have G:(Ac U.V (.lenL y)).toNat=d+l.length:=by rw [F,ag];exact Int.toNat_natCast _
         have:=VR.asl (ρ:=ρ.upd h.nx ⟨w.heap.size,0,g*f.size⟩) h.nx f.size (.lenL y) (.and C (.eql m (.c 0))) g ⟨w.heap.size,0,g*f.size⟩ (Ren.upd_same _ _ _) (by rw [F];exact Int.natCast_nonneg _) (by rw [G];exact k1) (by show 0+g*f.size≤g*f.size;rw [Nat.zero_add];exact Nat.le_refl _) (by
          rw [aa,s2];have:((l.length:Int)==0)=false:=by simp;intro e;rw [e] at ab;simp at ab;omega
          rw [this,Bool.and_false])
         rw [G] at this;exact this
        cases hB with
        |none _ ad hy hn=>
         have ak:(Ab U.V A).rows.length=0:=by rw [hy];rfl
         by_cases hm:l.length=0
         ·
          have a2:nv=[]:=List.eq_nil_of_length_eq_zero (by rw [R,hm];simp)
          subst a2;obtain ⟨p1,p2⟩:=HR.phantom o1 (by rw [o3];exact p) (.arr e y)
          refine ⟨ρ,.slice ad 0 0,w,?_,.aslEnd _ _ _ _ _ (by rw [F,ak,hm];rfl) ?_,p1,o2.trans p2 hf⟩
          ·rw [CT t O ty e f ht D Y l.length [] s4 ad 0 0 (by omega)]
           cases ad with
           |none=>simp [hm]
           |some ad=>simp [storeCells,hm]
          ·rw [aa,s2,hm,hn];simp
         ·exact S ad 0 0 [] rfl ak.symm (Nat.le_refl _) (by omega) (by rw [hy];exact .nil) (fun J _=>by
           cases ad with
           |none=>simp [Builtin.firstCells]
           |some ad=>simp [Builtin.firstCells,loadCells,loadCellsFrom])
        |blk b off i base M et fz hb hl al ac hw N am hv hn=>
         by_cases u:(Ab U.V A).rows.length+l.length≤i
         ·
          have an:((Ab U.V A).rows.length+l.length)*ks.length≤i*ks.length:=Nat.mul_le_mul_right _ u;rw [Nat.add_mul] at an
          have ao:∀v∈nv,v.oneCell'=true:=by
           intro v a3;obtain ⟨q,L,rfl⟩:=List.getElem_of_mem a3
           have ap:0<ks.length:=by
            rcases Nat.eq_zero_or_pos ks.length with h0|h0
            ·rw [Q.1,h0] at L;simp at L
            ·exact h0
           have a4:q/ks.length<l.length:=by
            rw [Q.1] at L;exact Nat.div_lt_of_lt_mul (by rw [Nat.mul_comm];exact L)
           have a5:q%ks.length<ks.length:=Nat.mod_lt _ ap;have:=Q.2.2 (q/ks.length) (q%ks.length) (ks[q%ks.length]) a4 (by simp [a5])
           have e1:q/ks.length*ks.length+q%ks.length=q:=by rw [Nat.mul_comm];exact Nat.div_add_mod _ _
           rw [e1] at this;have e2:nv.getD q Go.undef=nv[q]:=by simp [List.getD_eq_getElem?_getD,L]
           rw [e2] at this;generalize nv[q]=v0 at this;generalize ks[q%ks.length]=kq at this;cases this<;>rfl
          obtain ⟨J,X,q1,q2,q3,q4,q5,q6,q7,q8,q9⟩:=Cb E.P base.cb (base.co+off+(Ab U.V A).rows.length*ks.length) et fz nv 0 w M hw (by rw [Q.1,N];omega) (by rw [N];exact am) ao
          have r:Bk U.K ρ.imm ks X (base.co+off) (Ab U.V y).rows:=by
           have j:=hv.vals.append Q;rw [←s1] at j
           have H:((M.toList.drop (base.co+off)).take ((Ab U.V A).rows.length*ks.length)).length=(Ab U.V A).rows.length*ks.length:=by
            have:=hv.1;simp;omega
           refine j.at (by rw [List.length_append,H,Q.1,q3,N];omega) (fun q L=>?_)
           rw [List.length_append,H] at L;rw [q4];simp only [Nat.add_zero];by_cases aq:q<(Ab U.V A).rows.length*ks.length
           ·rw [if_neg (by omega),List.getElem?_append_left (by rw [H];exact aq),List.getElem?_take,if_pos aq,List.getElem?_drop,Array.getElem?_toList]
           ·rw [if_pos (by omega),List.getElem?_append_right (by rw [H];omega),H]
            congr 1;omega
          obtain ⟨p1,p2⟩:=hr.move hb hl p (base':=⟨base.cb,base.co+off,base.csz⟩) rfl (.arr e y) J ⟨ks,X,et,fz,af,q2,by rw [q3,N],am,r⟩ q5 q6 q7 q8 q9
          refine ⟨_,.slice (some ⟨base.cb,base.co+off,none⟩) ((Ab U.V A).rows.length+l.length) i,J,?_,?_,p1,p2⟩
          ·rw [CT t O ty e f ht D Y l.length nv s4 _ _ i u];simp only [BT,←B];rw [q1];rfl
          ·have G:(Ac U.V (.lenL y)).toNat=(Ab U.V A).rows.length+l.length:=by rw [F];exact Int.toNat_natCast _
           have:=VR.asl (ρ:=ρ.upd h.nx ⟨base.cb,base.co+off,base.csz⟩) h.nx f.size (.lenL y) (.and C (.eql m (.c 0))) i ⟨base.cb,base.co+off,base.csz⟩ (Ren.upd_same _ _ _) (by rw [F];omega) (by rw [G];exact u) (by rw [←B];exact ac) (by rw [aa,hn];rfl)
           rw [G] at this;exact this
         ·have W:((M.toList.drop (base.co+off)).take ((Ab U.V A).rows.length*ks.length)).length=(Ab U.V A).rows.length*ks.length:=by
           have:=hv.1;simp;omega
          exact S (some ⟨base.cb,base.co+off,none⟩) _ i _ rfl rfl al (by omega) hv.vals (fun J a6=>by
           simp only [Builtin.firstCells,←B];exact AC E.P J base.cb (base.co+off) _ M et fz (by rw [a6];exact hw) hv.1)
       ·cases n
      ·cases n
     ·cases n
    ·cases n
   ·cases n
  ·cases n
end
end Go.AE
namespace Go.AE
variable [Gl:AH]
variable [U:Unk]
section
variable {E:Env} {ρ:Ren} {w:World} (hE:OK E)
include hE
theorem Xd {t:TypeId} (c:E.desc t=some .bool) (n:Nat) (a b:Bool):aeq E (n+1) t (.bool a) (.bool b)=some (a==b):=by
 simp only [aeq,c]
theorem Hp {c:BinOp} {t:TypeId} {ox oy:Operand} (f:E.desc t=some .bool) (a b q:Bool) (d:BL c (a==b)=some q) :
  (do eqGuard c t ox oy (.bool a) (.bool b);binOp c t (.bool a) (.bool b):Sem Value).run E.P w=.ok (.bool q) w:=by
 have g:RQ E c t (.bool a) (.bool b)=some (.bool q):=by
  have e:=Xd hE f 9999 a b;cases c<;>simp only [BL,reduceCtorEq,Option.some.injEq] at d
  ·subst d;show (aeq E 10000 t _ _).map AV.bool=_;rw [e];rfl
  ·subst d;show ((aeq E 10000 t _ _).map fun b=>AV.bool (!b))=_;rw [e];rfl
 obtain ⟨v,h,i⟩:=Ub (ρ:=Ren.empty) (w:=w) (ox:=ox) (oy:=oy) hE (.bool a) (.bool b) g;cases i;exact h
omit hE in
theorem Fc {x:AV} {xv:Value} (hx:VR ρ x xv):(∀b,Py x=some (.inl b)→xv=.bool b)∧(∀p e,Py x=some (.inr (p,e))→xv=.bool (Ad U.V e==p)):=by
 cases x<;>simp only [Py,reduceCtorEq,false_imp_iff,implies_true,and_self]
 ·rename_i b;cases hx;exact ⟨fun c h=>(by cases h;rfl),fun p e h=>(by cases h)⟩
 ·rename_i p e;cases hx;refine ⟨fun b h=>?_,fun p' e' h=>?_⟩
  ·split at h
   ·rename_i c hc;cases h;rw [As U.ok hc]
   ·cases h
  ·split at h
   ·cases h
   ·cases h;rfl
theorem HQ {d:BinOp} {t e:TypeId} {ox f:Operand} (r:E.desc t=some (.slice e)) (a:Option Addr) (n c:Nat) (q:Bool) (g:BL d a.isNone=some q) (h0:a=none→n=0∧c=0) :
  (do eqGuard d t ox f (.slice a n c) (.slice none 0 0);binOp d t (.slice a n c) (.slice none 0 0):Sem Value).run E.P w=.ok (.bool q) w∧
  (do eqGuard d t ox f (.slice none 0 0) (.slice a n c);binOp d t (.slice none 0 0) (.slice a n c):Sem Value).run E.P w=.ok (.bool q) w:=by
 have i:=hE.run_und r w;have j:(eqGuard d t ox f (.slice a n c) (.slice none 0 0)).run E.P w=.ok () w:=BU (by simp) (by simp)
 have k:(eqGuard d t ox f (.slice none 0 0) (.slice a n c)).run E.P w=.ok () w:=BU (by simp) (by simp)
 obtain ⟨s,u⟩:=D9 t (.slice a n c) (.slice none 0 0) (by simp) (by simp) (by simp) (by simp)
 obtain ⟨b3,b4⟩:=D9 t (.slice none 0 0) (.slice a n c) (by simp) (by simp) (by simp) (by simp)
 have v:∀m:Nat,(Op.equalIn (m+1) t (.slice a n c) (.slice none 0 0)).run E.P w=.ok a.isNone w:=by
  intro m;cases a<;>simp [Op.equalIn,i]
 have y:∀m:Nat,(Op.equalIn (m+1) t (.slice none 0 0) (.slice a n c)).run E.P w=.ok a.isNone w:=by
  intro m;cases a<;>simp [Op.equalIn,i]
 have l:(Op.equal t (.slice a n c) (.slice none 0 0)).run E.P w=.ok a.isNone w:=v 9999;have o:(Op.equal t (.slice none 0 0) (.slice a n c)).run E.P w=.ok a.isNone w:=y 9999;cases d<;>simp only [BL,reduceCtorEq,Option.some.injEq] at g
 ·subst g;refine ⟨?_,?_⟩
  ·simp only [Sem.run_bind,j,Result.andThen_ok,s,l];rfl
  ·simp only [Sem.run_bind,k,Result.andThen_ok,b3,o];rfl
 ·subst g;refine ⟨?_,?_⟩
  ·simp only [Sem.run_bind,j,Result.andThen_ok,u,l];rfl
  ·simp only [Sem.run_bind,k,Result.andThen_ok,b4,o];rfl
theorem Mg {d:BinOp} {t o r:TypeId} {ox f:Operand} (s:E.desc t=some (.map o r)) (a:Option Nat) (q:Bool) (g:BL d a.isNone=some q) :
  (do eqGuard d t ox f (.map a) (.map none);binOp d t (.map a) (.map none):Sem Value).run E.P w=.ok (.bool q) w∧
  (do eqGuard d t ox f (.map none) (.map a);binOp d t (.map none) (.map a):Sem Value).run E.P w=.ok (.bool q) w:=by
 have i:=hE.run_und s w;have j:(eqGuard d t ox f (.map a) (.map none)).run E.P w=.ok () w:=BU (by simp) (by simp)
 have k:(eqGuard d t ox f (.map none) (.map a)).run E.P w=.ok () w:=BU (by simp) (by simp)
 obtain ⟨u,v⟩:=D9 t (.map a) (.map none) (by simp) (by simp) (by simp) (by simp)
 obtain ⟨b3,b4⟩:=D9 t (.map none) (.map a) (by simp) (by simp) (by simp) (by simp)
 have y:∀m:Nat,(Op.equalIn (m+1) t (.map a) (.map none)).run E.P w=.ok a.isNone w:=by
  intro m;cases a<;>simp [Op.equalIn,i]
 have z:∀m:Nat,(Op.equalIn (m+1) t (.map none) (.map a)).run E.P w=.ok a.isNone w:=by
  intro m;cases a<;>simp [Op.equalIn,i]
 have l:(Op.equal t (.map a) (.map none)).run E.P w=.ok a.isNone w:=y 9999;have n:(Op.equal t (.map none) (.map a)).run E.P w=.ok a.isNone w:=z 9999;cases d<;>simp only [BL,reduceCtorEq,Option.some.injEq] at g
 ·subst g;refine ⟨?_,?_⟩
  ·simp only [Sem.run_bind,j,Result.andThen_ok,u,l];rfl
  ·simp only [Sem.run_bind,k,Result.andThen_ok,b3,n];rfl
 ·subst g;refine ⟨?_,?_⟩
  ·simp only [Sem.run_bind,j,Result.andThen_ok,v,l];rfl
  ·simp only [Sem.run_bind,k,Result.andThen_ok,b4,n];rfl
omit hE in
theorem TA {x:AV} {xv:Value} {s:SE} (hx:VR ρ x xv) (h:X3 x=some s):∃a,xv=.map a∧Ad U.V s=a.isNone:=by
 cases hx<;>simp only [X3,reduceCtorEq,Option.some.injEq] at h<;>subst h
 ·exact ⟨none,rfl,rfl⟩
 ·exact ⟨_,rfl,rfl⟩
 ·rename_i hn;exact ⟨_,rfl,by rw [hn];rfl⟩
 ·rename_i hn;exact ⟨_,rfl,by rw [hn];rfl⟩
omit hE in
theorem Tg {x:AV} {xv:Value} {s:SE} (hx:VR ρ x xv) (h:Y4 x=some s):∃a n c,xv=.slice a n c∧(a=none→n=0∧c=0)∧Ad U.V s=a.isNone:=by
 cases hx<;>simp only [Y4,reduceCtorEq,Option.some.injEq] at h<;>subst h
 ·exact ⟨none,0,0,rfl,fun _=>⟨rfl,rfl⟩,rfl⟩
 ·exact ⟨_,_,_,rfl,fun h=>(by cases h),rfl⟩
 ·exact ⟨_,_,_,rfl,fun h=>(by cases h),rfl⟩
 ·rename_i e x a n c hd;refine ⟨a,n,c,rfl,?_,?_⟩
  ·rintro rfl
   cases hd;exact ⟨rfl,rfl⟩
  ·have:Ad U.V (.isNil x)=(Ab U.V x).isNil:=rfl;rw [this];cases hd with
   |nil _ _ h1=>rw [h1];rfl
   |empty _ _ _ _ h1=>rw [h1];rfl
   |slc _ _ _ _ _ _ _ _ _ _ _ _ h1=>rw [h1];rfl
 ·rename_i hn;exact ⟨_,_,_,rfl,fun h=>(by cases h),by rw [hn];rfl⟩
 ·rename_i a h0 hn;exact ⟨a,0,0,rfl,fun _=>⟨rfl,rfl⟩,hn.symm⟩
 ·rename_i a hn;exact ⟨a,0,0,rfl,fun _=>⟨rfl,rfl⟩,hn.symm⟩
omit hE in
theorem Io {op:BinOp} {p q:Bool} (h:BL op p=some q) (x:Bool):BL op (x==p)=some (x==q):=by
 cases op<;>simp only [BL,reduceCtorEq,Option.some.injEq] at h ⊢<;>subst h<;>cases x<;>cases p<;>rfl
theorem aR {op:BinOp} {t:TypeId} {ox u:Operand} {x y r:AV} {xv o:Value} (hx:VR ρ x xv) (i:VR ρ y o) (hr:eqV (E.desc t) op x y=some r) :
  ∃v,(do eqGuard op t ox u xv o;binOp op t xv o:Sem Value).run E.P w=.ok v w∧VR ρ r v:=by
 unfold eqV at hr;split at hr
 ·rename_i hd;split at hr
  ·rename_i a b h1 m;rw [(Fc hx).1 _ h1,(Fc i).1 _ m];cases d:BL op (a==b) with
   |none=>rw [d] at hr;cases hr
   |some q=>rw [d] at hr;cases hr;exact ⟨_,Hp hE hd a b q d,.bool q⟩
  ·rename_i p e b h1 m;rw [(Fc hx).2 _ _ h1,(Fc i).1 _ m];cases d:BL op (p==b) with
   |none=>rw [d] at hr;cases hr
   |some q=>
    rw [d] at hr;cases hr;refine ⟨_,Hp hE hd _ _ (Ad U.V e==q) ?_,.sb q e⟩;have:=Io d (Ad U.V e);rw [←this];congr 1;cases Ad U.V e<;>cases p<;>cases b<;>rfl
  ·rename_i b p e h1 m;rw [(Fc hx).1 _ h1,(Fc i).2 _ _ m];cases d:BL op (p==b) with
   |none=>rw [d] at hr;cases hr
   |some q=>
    rw [d] at hr;cases hr;refine ⟨_,Hp hE hd _ _ (Ad U.V e==q) ?_,.sb q e⟩;have:=Io d (Ad U.V e);rw [←this];congr 1;cases Ad U.V e<;>cases p<;>cases b<;>rfl
  ·cases hr
 ·rename_i e hd
  have one:∀{s:SE} {a:Option Addr},Ad U.V s=a.isNone→(BL op true).map (fun q=>mkB q s)=some r→∃q,BL op a.isNone=some q∧VR ρ r (.bool q):=by
   intro s a f g;cases d:BL op true with
   |none=>rw [d] at g;cases g
   |some q=>
    rw [d] at g;cases g;have:=Io d a.isNone;refine ⟨a.isNone==q,?_,f▸GA ρ q s⟩;rw [←this];congr 1;cases a.isNone<;>rfl
  split at hr
  ·split at hr
   ·rename_i s f;cases hx;obtain ⟨a,n,c,rfl,h0,j⟩:=Tg i f;obtain ⟨q,k,l⟩:=one j hr;exact ⟨_,(HQ hE hd a n c q k h0).2,l⟩
   ·cases hr
  ·split at hr
   ·rename_i s f;cases i;obtain ⟨a,n,c,rfl,h0,j⟩:=Tg hx f;obtain ⟨q,k,l⟩:=one j hr;exact ⟨_,(HQ hE hd a n c q k h0).1,l⟩
   ·cases hr
  ·cases hr
 ·rename_i z A hd
  have one:∀{s:SE} {a:Option Nat},Ad U.V s=a.isNone→(BL op true).map (fun q=>mkB q s)=some r→∃q,BL op a.isNone=some q∧VR ρ r (.bool q):=by
   intro s a f g;cases d:BL op true with
   |none=>rw [d] at g;cases g
   |some q=>
    rw [d] at g;cases g;have:=Io d a.isNone;refine ⟨a.isNone==q,?_,f▸GA ρ q s⟩;rw [←this];congr 1;cases a.isNone<;>rfl
  split at hr
  ·split at hr
   ·rename_i s f;cases hx;obtain ⟨a,rfl,j⟩:=TA i f;obtain ⟨q,k,l⟩:=one j hr;exact ⟨_,(Mg hE hd a q k).2,l⟩
   ·cases hr
  ·split at hr
   ·rename_i s f;cases i;obtain ⟨a,rfl,j⟩:=TA hx f;obtain ⟨q,k,l⟩:=one j hr;exact ⟨_,(Mg hE hd a q k).1,l⟩
   ·cases hr
  ·cases hr
 ·cases hr
omit hE in
theorem K4 (P:Program) (k:IntKind):∀{l:List AV} {l':List Value} {x:SE} {a:AV},VL ρ l l'→NT k x l=some a→∃v,(l'.foldlM Builtin.max2 (.int k (Ac U.V x))).run P w=.ok v w∧VR ρ a v
 |[],l',x,a,hl,h=>by
  rw [hl.nil_inv];simp only [NT,Option.some.injEq] at h;subst h;exact ⟨_,by simp,B9 ρ k x⟩
 |y::r,l',x,a,hl,h=>by
  obtain ⟨v,r',rfl,hv,hr⟩:=hl.cons_inv;simp only [NT] at h;split at h
  ·rename_i k' b hb;have ev:=Ch hv hb;subst ev;split at h
   ·rename_i hd;have:=As U.ok hd;rw [Av,decide_eq_true_eq] at this;obtain ⟨u,q1,q2⟩:=K4 P k hr h;refine ⟨u,?_,q2⟩;simp only [List.foldlM_cons,Builtin.max2,Sem.run_bind,Sem.run_pure,Result.andThen_ok];rw [if_pos (by omega)];exact q1
   ·rename_i hd;have:=As U.ok hd;rw [Av,decide_eq_false_iff_not] at this;obtain ⟨u,q1,q2⟩:=K4 P k hr h;refine ⟨u,?_,q2⟩;simp only [List.foldlM_cons,Builtin.max2,Sem.run_bind,Sem.run_pure,Result.andThen_ok];rw [if_neg (by omega)];exact q1
   ·cases h
  ·cases h
omit hE in
theorem Mu (P:Program) (k:IntKind):∀{l:List AV} {l':List Value} {x:SE} {a:AV},VL ρ l l'→NL k x l=some a→∃v,(l'.foldlM Builtin.min2 (.int k (Ac U.V x))).run P w=.ok v w∧VR ρ a v
 |[],l',x,a,hl,h=>by
  rw [hl.nil_inv];simp only [NL,Option.some.injEq] at h;subst h;exact ⟨_,by simp,B9 ρ k x⟩
 |y::r,l',x,a,hl,h=>by
  obtain ⟨v,r',rfl,hv,hr⟩:=hl.cons_inv;simp only [NL] at h;split at h
  ·rename_i k' b hb;have ev:=Ch hv hb;subst ev;split at h
   ·rename_i hd;have:=As U.ok hd;rw [Av,decide_eq_true_eq] at this;obtain ⟨u,q1,q2⟩:=Mu P k hr h;refine ⟨u,?_,q2⟩;simp only [List.foldlM_cons,Builtin.min2,Sem.run_bind,Sem.run_pure,Result.andThen_ok];rw [if_pos (by omega)];exact q1
   ·rename_i hd;have:=As U.ok hd;rw [Av,decide_eq_false_iff_not] at this;obtain ⟨u,q1,q2⟩:=Mu P k hr h;refine ⟨u,?_,q2⟩;simp only [List.foldlM_cons,Builtin.min2,Sem.run_bind,Sem.run_pure,Result.andThen_ok];rw [if_neg (by omega)];exact q1
   ·cases h
  ·cases h
omit hE in
theorem VE {ats:Array TypeId} {ty:TypeId} {args:List AV} {args':List Value} {a:AV} (ha:VL ρ args args') (hq:WU args=some a):∃v,(Builtin.max_ ats ty args'.toArray).run E.P w=.ok v w∧VR ρ a v:=by
 cases args with
 |nil=>cases hq
 |cons x r=>
  obtain ⟨v,r',rfl,hv,hl⟩:=ha.cons_inv;simp only [WU] at hq;split at hq
  ·rename_i k e he;have ev:=Ch hv he;subst ev;obtain ⟨u,q1,q2⟩:=K4 (w:=w) E.P k hl hq;exact ⟨u,by simpa [Builtin.max_] using q1,q2⟩
  ·cases hq
omit hE in
theorem Wl {ats:Array TypeId} {ty:TypeId} {args:List AV} {args':List Value} {a:AV} (ha:VL ρ args args') (hq:Wd args=some a):∃v,(Builtin.min_ ats ty args'.toArray).run E.P w=.ok v w∧VR ρ a v:=by
 cases args with
 |nil=>cases hq
 |cons x r=>
  obtain ⟨v,r',rfl,hv,hl⟩:=ha.cons_inv;simp only [Wd] at hq;split at hq
  ·rename_i k e he;have ev:=Ch hv he;subst ev;obtain ⟨u,q1,q2⟩:=Mu (w:=w) E.P k hl hq;exact ⟨u,by simpa [Builtin.min_] using q1,q2⟩
  ·cases hq
omit hE in
theorem be {op:UnOp} {x r:AV} {xv:Value} (hx:VR ρ x xv) (hr:unB op x=some r):∃v,(Op.unary op xv).run E.P w=.ok v w∧VR ρ r v:=by
 unfold unB at hr;split at hr
 ·rename_i k e;cases hr;cases hx;refine ⟨_,by simp only [Op.unary,Op.intArith,Sem.run_pure];rfl,?_⟩
  have:=B9 ρ k (.arith .sub k (.c 0) e);rw [Dz] at this;simpa [CK,BD] using this
 ·exact aI hx hr
omit hE in
theorem Ue {ks:List Kd} {z:List AV} {r:SE} (hrow:Gz ks z=some r):∀(n:Nat) (vs:List Value),VL ρ (Bz z n) vs→Bi U.K ρ.imm ks vs (List.replicate n (Ab U.V r))
 |0,vs,h=>by
  have:=h.nil_inv;subst this;exact .nil
 |n+1,vs,h=>by
  have hzl:z.length=ks.length:=by
   have:∀(ks:List Kd) (l:List AV) (r:SE),Gz ks l=some r→l.length=ks.length:=by
    intro ks
    induction ks with
    |nil=>intro l r h;cases l with|nil=>rfl|cons=>cases h
    |cons k ks ih=>
     intro l r h;cases l with
     |nil=>cases h
     |cons a l=>
      simp only [Gz] at h;split at h
      ·rename_i x y hx hy;simp [ih l y hy]
      ·cases h
   exact this ks z r hrow
  have h1:=h.take z.length;have h2:=h.drop z.length;have e1:(Bz z (n+1)).take z.length=z:=by simp [Bz]
  have e2:(Bz z (n+1)).drop z.length=Bz z n:=by simp [Bz]
  rw [e1] at h1;rw [e2] at h2;obtain ⟨q1,q2,q3⟩:=E6 ks z _ r hrow h1;have:=(Bi.one (ρ:=ρ) q1 q2 q3).append (Ue hrow n _ h2);rw [List.take_append_drop] at this;simpa [List.replicate_succ] using this
theorem MI {h h':Aa} (hr:HR ρ h.blk.get w) {t:TypeId} {l c a:AV} {S T:Value} (hl:VR ρ l S) (D:VR ρ c T) (hb:Ho E t l c h=some (a,h')) (W:AG ρ h.nx h'.nx) :
  AP E ρ h h' w (Instr.makeSlice t S T) a:=by
 unfold Ho at hb;split at hb
 ·rename_i k i;split at hb
  ·rename_i k2 im;split at hb
   ·rename_i e I hd;split at hb
    ·rename_i d ks z hi Z hz;split at hb
     ·rename_i r hc hrow;cases hb;obtain ⟨J,j⟩:=An I;have L:k=.i64:=by simpa using J
      have M:=SE.same_ok j;subst L;subst M;obtain ⟨hc,c5⟩:=An hc;obtain ⟨hc,c4⟩:=An hc;obtain ⟨hc,c3⟩:=An hc;obtain ⟨c1,c2⟩:=An hc;have e1:=Ay c1;have e2:=Ay c2;have e3:=Cu c3;have b4:=Ip c4;have b5:=IY c5;rw [Av,decide_eq_false_iff_not,BD] at b4;rw [Av,decide_eq_true_eq,BD] at b5;cases hl;cases D;generalize hN:Ac U.V i=N at *;obtain ⟨n,rfl⟩:∃n:Nat,N=n:=⟨N.toNat,by omega⟩
      obtain ⟨F,z1,z2⟩:=hE.run_zero ρ hz w;have zc:=(AL ρ z2).cells (Bo z2);have m:ρ h.nx=none:=W h.nx (Nat.le_refl _) (by simp [Aa.new])
      have h0:n*z.cells.length=0∨(if n*d.size=0 then #[] else F.cells)=F.cells:=by
       rw [e2];by_cases o:n*d.size=0
       ·exact .inl o
       ·exact .inr (by rw [if_neg o])
      have f:=Eu zc n (if n*d.size=0 then #[] else F.cells) h0
      have G:=Ue (ρ:=ρ) hrow n _ f;rw [e2] at f G;have O:U.K e=some ks:=by rw [hE.kd,←hE.ke];exact Z
      generalize H:(Array.range (n*d.size)).map ((if n*d.size=0 then #[] else F.cells)[· % (if n*d.size=0 then #[] else F.cells).size]!)=X at *
      have Q:X.size=n*d.size:=by rw [←H];simp
      have Y:(Ab U.V (.rep i r)).rows=List.replicate n (Ab U.V r):=by
       show List.replicate (Ab U.V i).toInt.toNat _=_;have:(Ab U.V i).toInt=(n:Int):=hN;rw [this];rfl
      have A:Bk U.K ρ.imm ks X 0 (Ab U.V (.rep i r)).rows:=by
       rw [Y];exact G.at (by simp) (fun q hq=>by rw [Nat.zero_add,Array.getElem?_toList])
      obtain ⟨p1,p2⟩:=hr.new m (.arr e (.rep i r)) (.cells X e) X.size ⟨ks,_,e,_,O,rfl,rfl,.inl rfl,A⟩ {w with heap:=w.heap.push (.cells X e)} rfl rfl rfl rfl
      have B:=FH n (by omega)
      refine ⟨_,.slice (some ⟨w.heap.size,0,none⟩) n n,_,?_,?_,p1,p2⟩
      ·have aa:d.bytes*n≤1024*1048577:=Nat.mul_le_mul e3 (by omega)
       simp only [Instr.makeSlice,Sem.run_bind,hE.run_und hd,Result.andThen_ok,asInt,asIntOf,Sem.run_pure,hE.run_info hi,B]
       have R:¬((d.bytes:Int)*(n:Int)>2^48):=by
        have:((d.bytes*n:Nat):Int)≤1024*1048577:=by omega
        rw [Int.natCast_mul] at this;omega
       have C:(decide ((n:Int)<0)||decide ((d.bytes:Int)*(n:Int)>2^48)||decide ((n:Int)<0)||decide ((n:Int)>(n:Int)))=false:=by
        rw [decide_eq_false R,decide_eq_false (show ¬((n:Int)<0) by omega),decide_eq_false (show ¬((n:Int)>(n:Int)) by omega)]
        rfl
       rw [if_neg (by rw [C];exact Bool.false_ne_true)]
       simp only [Sem.run_bind,run_askRoom,Result.andThen_ok,Int.toNat_natCast,hE.run_sz hi];by_cases o:n*d.size=0
       ·rw [if_pos o] at H;rw [if_pos o];simp only [Sem.run_bind,Sem.run_pure,Result.andThen_ok,newRow,run_newObj,H]
       ·rw [if_neg o] at H;rw [if_neg o];simp only [Sem.run_bind,z1,Sem.run_pure,Result.andThen_ok,newRow,run_newObj,H]
      ·have g:Ac U.V (.lenL (.rep i r))=(n:Int):=by rw [Ai,Y];simp
       have:=VR.asl (ρ:=ρ.upd h.nx ⟨w.heap.size,0,X.size⟩) h.nx d.size (.lenL (.rep i r)) (.bc false) n ⟨w.heap.size,0,X.size⟩ (Ren.upd_same _ _ _) (by rw [g];exact Int.natCast_nonneg _) (by rw [g];simp) (by show 0+n*d.size≤X.size;rw [Q];omega) rfl
       rw [g] at this;simpa using this
     ·cases hb
    ·cases hb
   ·cases hb
  ·cases hb
 ·exact MU hE hr hl D hb W
end
end Go.AE
namespace Go.AE
variable [Gl:AH]
variable [U:Unk]
section
variable {E:Env} {w:World} (hE:OK E)
include hE
theorem HR.freeze {ρ:Ren} {h:Aa} (hr:HR ρ h.blk.get w) {b:Nat} {base:Br} (hb:ρ b=some base) (hl:h.blk.get b≠none) {r:Array Value} {e:TypeId} {fz:Nat×Nat} (hw:w.heap[base.cb]?=some (.cells r e fz)) :
  ∃σ:Ren,ρ.le σ∧σ.imm base.cb=some r∧HR σ (h.strike b).blk.get w∧Ext ρ σ h (h.strike b) w w:=by
 let σ:Ren:=⟨ρ.m,fun k=>if k=base.cb then some r else ρ.imm k⟩
 have ab:ρ.le σ:=⟨fun _ _ h=>h,fun k a hk=>by
  show (if k=base.cb then some r else ρ.imm k)=some a
  rw [if_neg (fun e=>hr.off k a b base hk hb hl e.symm)]
  exact hk⟩
 have I:∀c,(h.strike b).blk.get c≠none→c≠b∧h.blk.get c≠none:=by
  intro c t;simp only [Aa.strike,T.get_del] at t;by_cases e:b=c
  ·rw [if_pos e] at t;exact absurd rfl t
  ·rw [if_neg e] at t;exact ⟨fun e'=>e e'.symm,t⟩
 have al:∀c,c≠b→(h.strike b).blk.get c=h.blk.get c:=by
  intro c t;simp only [Aa.strike,T.get_del];rw [if_neg (fun e=>t e.symm)]
 obtain ⟨p1,p2⟩:=hr.strike b;refine ⟨σ,ab,?_,⟨hr.lt,?_,?_,?_,?_,hr.glob.mono ab.imm⟩,⟨ab,p2.nx,fun c bs t=>.inl t,p2.calm,fun _ _ _=>rfl,p2.log,p2.live,?_⟩⟩
 ·show (if base.cb=base.cb then some r else _)=_
  rw [if_pos rfl]
 ·intro c bs x t hx;have J:=I c (by rw [hx];exact Option.some_ne_none _)
  rw [al c J.1] at hx;exact (hr.blk c bs x t hx).mono ab
 ·intro c c' bs an ar t av h1 h2;exact hr.apart c c' bs an ar t av (I c h1).2 (I c' h2).2
 ·intro k arr hk;have l:(if k=base.cb then some r else ρ.imm k)=some arr:=hk
  by_cases c:k=base.cb
  ·rw [if_pos c] at l;cases l;subst c;exact ⟨e,fz,hw⟩
  ·rw [if_neg c] at l;exact hr.imm k arr l
 ·intro k arr c bs hk t bd;have J:=I c bd;have l:(if k=base.cb then some r else ρ.imm k)=some arr:=hk
  by_cases d:k=base.cb
  ·subst d;exact hr.apart c b bs base J.1 t hb J.2 hl
  ·rw [if_neg d] at l;exact hr.off k arr c bs l t J.2
 ·intro k arr hk;have l:(if k=base.cb then some r else ρ.imm k)=some arr:=hk
  by_cases d:k=base.cb
  ·exact .inr (.inr ⟨b,base,hb,hl,d.symm⟩)
  ·rw [if_neg d] at l;exact .inl l
theorem KZ {ρ:Ren} {h h':Aa} {kd:Kd} {a D:AV} {v:Value} (hr:HR ρ h.blk.get w) (z:VR ρ a v) (f:Ky E kd a h=(D,h')) :
  ∃m:Ren,VR m D v∧HR m h'.blk.get w∧Ext ρ m h h' w w:=by
 have same:(a,h)=(D,h')→∃m:Ren,VR m D v∧HR m h'.blk.get w∧Ext ρ m h h' w w:=by
  intro e;cases e;exact ⟨ρ,z,hr,Ext.refl _ _ _⟩
 unfold Ky at f;split at f
 ·rename_i e;split at f
  ·rename_i b I n A;split at f
   ·rename_i e' x ks F J;split at f
    ·rename_i L;cases f;obtain ⟨L,c3⟩:=An L;obtain ⟨c1,c2⟩:=An L;have e1:=Ay c1;subst e1;have e2:=Ay c2;have z:=Jn c3 z;have p:U.K e=some ks:=by rw [hE.kd,←hE.ke];exact J
     have d:(Ab U.V (.nilIs x A)).isNil=Ad U.V A:=rfl;have t:(Ab U.V (.nilIs x A)).rows=(Ab U.V x).rows:=rfl;cases z with
     |asl _ _ _ _ cap base G h0 g hz M=>
      obtain ⟨ab,q,et,fz,W,b2,b3,b4,b5⟩:=hr.blk b base _ G F;rw [p] at W;cases W;obtain ⟨m,N,O,P,Q⟩:=HR.freeze hE hr G (by rw [F];exact Option.some_ne_none _) b2
      have k:(Ac U.V (.lenL x)).toNat=(Ab U.V x).rows.length:=by rw [Ai];simp
      refine ⟨m,.dat e _ _ _ _ ?_,P,Q⟩;have s:=b5.mono N.imm;exact .slc e base.cb base.co _ cap _ ks q p O (by rw [t,k]) g (by rw [d,M]) (by rw [k];exact s.1) (fun i hi=>s.2.1 i (by rw [k] at hi;exact hi)) (fun i j kd hi R=>s.2.2 i j kd (by rw [k] at hi;exact hi) R)
     |aslEnd _ _ _ _ ad h0 o=>
      obtain ⟨p1,p2⟩:=hr.strike b
      have B:(Ab U.V x).rows=[]:=by
       rw [Ai] at h0;exact List.eq_nil_of_length_eq_zero (by omega)
      refine ⟨ρ,.dat e _ _ _ _ ?_,p1,p2⟩;cases ad with
      |none=>exact .nil e _ (by rw [d,←o];rfl) (by rw [t];exact B)
      |some ad=>exact .empty e ad 0 _ (by rw [d,←o];rfl) (by rw [t];exact B)
    ·exact same f
   ·exact same f
  ·rename_i A;cases f;cases z with
   |eslc _ ad o=>
    have d:(Ab U.V (.nilIs .nilL A)).isNil=Ad U.V A:=rfl;refine ⟨ρ,.dat e _ _ _ _ ?_,hr,Ext.refl _ _ _⟩;cases ad with
    |none=>exact .nil e _ (by rw [d,←o];rfl) rfl
    |some ad=>exact .empty e ad 0 _ (by rw [d,←o];rfl) rfl
  ·rename_i b off n I;split at f
   ·rename_i ks J;split at f
    ·rename_i l C hl;split at f
     ·rename_i y X;cases f;have C:=Ay C;have p:U.K e=some ks:=by rw [hE.kd,←hE.ke];exact J
      obtain ⟨vs,v1,v2,v3⟩:=Ju hE (e:=e) (ks:=ks) hr z hl;obtain ⟨Y,Z,r2,r3⟩:=Fa (ρ:=ρ) n .emptyL y l vs X v1;have S:(Ab U.V y).rows=Y:=by rw [r2];rfl
      have d:(Ab U.V y).isNil=false:=by
       have:∀(n:Nat) (H y:SE) (l:List AV),DJ ks n H l=some y→(Ab U.V H).isNil=false→(Ab U.V y).isNil=false:=by
        intro n
        induction n with
        |zero=>intro H y l h h0;cases l with
         |nil=>simp only [DJ,Option.some.injEq] at h;subst h;exact h0
         |cons=>cases h
        |succ n ih=>
         intro H y l h h0;simp only [DJ] at h;split at h
         ·exact ih _ _ _ h rfl
         ·cases h
       exact this n .emptyL y l X rfl
      rcases v3 with ⟨h0,ad,rfl⟩|⟨base,q,et,fz,cap,sz,c,G,F,rfl,g,hz,hw,T,ac,hv⟩
      ·obtain ⟨p1,p2⟩:=hr.strike b;exact ⟨ρ,.dat e _ _ _ _ (.empty e ad 0 _ d (by rw [S];exact List.eq_nil_of_length_eq_zero (by rw [Z,h0]))),p1,p2⟩
      ·obtain ⟨m,N,O,P,Q⟩:=HR.freeze hE hr G (by rw [F];exact Option.some_ne_none _) hw
       have aa:n*I≤cap*I:=Nat.mul_le_mul_right _ g;have u:Bk U.K ρ.imm ks q (base.co+off) Y:=r3.at (by rw [v2,T];omega) hv
       have s:=u.mono N.imm;rw [←S] at s;have r:(Ab U.V y).rows.length=n:=by rw [S,Z]
       refine ⟨m,.dat e _ _ _ _ (.slc e base.cb (base.co+off) n cap _ ks q p O r g d ?_ (fun i hi=>s.2.1 i (by rw [r];exact hi)) (fun i j kd hi R=>s.2.2 i j kd (by rw [r];exact hi) R)),P,Q⟩
       have:=s.1;rw [r] at this;exact this
     ·exact same f
    ·exact same f
   ·exact same f
  ·exact same f
 ·exact same f
omit hE in
theorem OE {kd:Kd} {a a':AV} {h h':Aa} (hx:Ky E kd a h=(a',h')):h'.nx=h.nx:=by
 unfold Ky at hx
 repeat' split at hx
 all_goals (cases hx;rfl)
theorem K1:∀{ks:List Kd} {l d:List AV} {e:List Value} {c:Ren} {h h':Aa},HR c h.blk.get w→VL c l e→IE E ks l h=(d,h')→
  h'.nx=h.nx∧∃i:Ren,VL i d e∧HR i h'.blk.get w∧Ext c i h h' w w
 |[],l,d,e,c,h,h',hr,f,hx=>by
  cases l<;>(simp only [IE] at hx;cases hx;exact ⟨rfl,c,f,hr,Ext.refl _ _ _⟩)
 |k::ks,[],d,e,c,h,h',hr,f,hx=>by
  simp only [IE] at hx;cases hx;exact ⟨rfl,c,f,hr,Ext.refl _ _ _⟩
 |k::ks,a::l,d,e,c,h,h',hr,f,hx=>by
  obtain ⟨v,r,rfl,o,p⟩:=f.cons_inv;simp only [IE] at hx;generalize g:Ky E k a h=p1 at hx;obtain ⟨a1,q⟩:=p1;simp only at hx;generalize j:IE E ks l q=p2 at hx;obtain ⟨C,D⟩:=p2;simp only at hx;cases hx;have s:=OE g;obtain ⟨i,t,u,m⟩:=KZ hE hr o g;obtain ⟨x,y,z,A,n⟩:=K1 u (p.mono m.le) j;refine ⟨by omega,y,VL.cons (t.mono n.le) z,A,m.trans n (fun b F B=>by omega)⟩
omit hE in
theorem Wq {kd:Kd} {a a':AV} {h h':Aa} (hx:Ky E kd a h=(a',h')):h'=h∨∃b,h'=h.strike b:=by
 unfold Ky at hx
 repeat' split at hx
 all_goals (cases hx;first|exact .inl rfl|exact .inr ⟨_,rfl⟩)
omit hE in
theorem PM:∀{ks:List Kd} {l l':List AV} {h h':Aa},IE E ks l h=(l',h')→h'.nx=h.nx∧(∃m,h'.log=m++h.log∧∀c,c∉m→h'.blk.get c=h.blk.get c)∧∀c,h'.blk.get c=none∨h'.blk.get c=h.blk.get c
 |[],l,l',h,h',hx=>by
  cases l<;>(simp only [IE] at hx;cases hx;exact ⟨rfl,⟨[],rfl,fun _ _=>rfl⟩,fun _=>.inr rfl⟩)
 |k::ks,[],l',h,h',hx=>by
  simp only [IE] at hx;cases hx;exact ⟨rfl,⟨[],rfl,fun _ _=>rfl⟩,fun _=>.inr rfl⟩
 |k::ks,a::l,l',h,h',hx=>by
  simp only [IE] at hx;generalize hf1:Ky E k a h=p1 at hx;obtain ⟨a1,h3⟩:=p1;simp only at hx;generalize hf2:IE E ks l h3=p2 at hx;obtain ⟨l1,h4⟩:=p2;simp only at hx;cases hx;obtain ⟨q1,⟨m,q2,q3⟩,q4⟩:=PM hf2;rcases Wq hf1 with rfl|⟨b,rfl⟩
  ·exact ⟨q1,⟨m,q2,q3⟩,q4⟩
  ·have hget:∀c,(h.strike b).blk.get c=if b=c then none else h.blk.get c:=fun c=>by simp only [Aa.strike,T.get_del]
   refine ⟨q1,⟨m++[b],by rw [q2];simp [Aa.strike],fun c hc=>?_⟩,fun c=>?_⟩
   ·simp only [List.mem_append,List.mem_singleton,not_or] at hc;rw [q3 c hc.1,hget,if_neg (fun e=>hc.2 e.symm)]
   ·rcases q4 c with r|r
    ·exact .inl r
    ·rw [r,hget];by_cases e:b=c
     ·rw [if_pos e];exact .inl rfl
     ·rw [if_neg e];exact .inr rfl
theorem Kg {g:Ren} {h:Aa} {ks:List Kd} {b:Nat} (hr:HR g h.blk.get w):(Ee E ks b h).nx=h.nx∧∃j:Ren,HR j (Ee E ks b h).blk.get w∧Ext g j h (Ee E ks b h) w w:=by
 have same:h.nx=h.nx∧∃j:Ren,HR j h.blk.get w∧Ext g j h h w w:=⟨rfl,g,hr,Ext.refl _ _ _⟩
 unfold Ee;split
 ·rename_i n c I;split
  ·rename_i l s;split;rename_i l' h' J;split
   ·rename_i m y z;split
    ·rename_i hc;obtain ⟨c1,c2⟩:=An hc;have L:=Ay c1;have e2:=Ay c2;subst L;cases A:g b with
     |none=>
      obtain ⟨M,⟨N,O,P⟩,K⟩:=PM J;have f:HR g h'.blk.get w:=hr.restrict (fun c=>K c)
      have hget:∀c,c≠b→(h'.put b (.cells m (.ofList l'))).blk.get c=h'.blk.get c:=fun c hc=>by
       simp only [Aa.put,T.get_set];rw [if_neg (fun e=>hc e.symm)]
      have ne:∀{c:Nat} {o:Br},g c=some o→c≠b:=fun hc e=>by subst e;rw [A] at hc;cases hc
      refine ⟨M,g,⟨f.lt,fun c o x hc hx=>?_,fun c y o B C hc p D t=>?_,f.imm,fun k arr c o Q hc s=>?_,f.glob⟩,⟨Ren.le_refl g,by show h.nx≤h'.nx;omega,fun _ _ e=>.inl e,GH.refl w,fun _ _ _=>rfl,⟨b::N,by simp [Aa.put,O],fun c hc _=>?_⟩,fun c hc=>?_,fun _ _ e=>.inl e⟩⟩
      ·rw [hget c (ne hc)] at hx;exact f.blk c o x hc hx
      ·rw [hget c (ne hc)] at D;rw [hget y (ne p)] at t;exact f.apart c y o B C hc p D t
      ·rw [hget c (ne hc)] at s;exact f.off k arr c o Q hc s
      ·simp only [List.mem_cons,not_or] at hc;rw [hget c hc.1];exact P c hc.2
      ·by_cases e:c=b
       ·subst e;exact .inl (by rw [I];exact Option.some_ne_none _)
       ·rw [hget c e] at hc;rcases K c with r|r
        ·rw [r] at hc;exact absurd rfl hc
        ·rw [r] at hc;exact .inl hc
     |some base=>
      obtain ⟨d,R,S,V,W,b3,b4,X⟩:=hr.blk b base _ A I;obtain ⟨l1,l2⟩:=T.range_spec c _ _ _ s
      have F:VL g l ((d.toList.drop base.co).take m):=by
       refine ⟨by simp [l1];omega,fun i a v q u=>?_⟩
       have hi:i<m:=by have:=(List.getElem?_eq_some_iff.1 q).1;omega
       have:=l2 i hi;rw [Nat.zero_add,q] at this;obtain ⟨v',Y,Z⟩:=X i a hi this;rw [List.getElem?_take,if_pos hi,List.getElem?_drop,Array.getElem?_toList,Y] at u;cases u;exact Z
      obtain ⟨hn,j,q1,q2,q3⟩:=K1 hE hr F J;have G:j b=some base:=q3.le.m b base A
      obtain ⟨r1,r2⟩:=q2.put G (by rw [z];exact Option.some_ne_none _) (.cells m (.ofList l')) w ⟨d,R,S,V,W,b3,b4,fun i a hi q=>by
       rw [T.get_ofList] at q
       have u:((d.toList.drop base.co).take m)[i]?=d[base.co+i]?:=by
        rw [List.getElem?_take,if_pos hi,List.getElem?_drop,Array.getElem?_toList]
       have H:base.co+i<d.size:=by omega
       have hc:d[base.co+i]?=some d[base.co+i]:=by simp [H]
       exact ⟨_,hc,q1.2 i a _ q (by rw [u,hc])⟩⟩ rfl (fun _ _=>rfl) rfl rfl rfl
      exact ⟨hn,j,r1,q3.trans r2 (fun c D t=>by simp only [Aa.put] at t;omega)⟩
    ·exact same
   ·exact same
  ·exact same
 ·exact same
theorem NW {d:Ren} {h:Aa} {e:TypeId} {b:Nat} (hr:HR d h.blk.get w):(Hs E e b h).nx=h.nx∧∃f:Ren,HR f (Hs E e b h).blk.get w∧Ext d f h (Hs E e b h) w w:=by
 unfold Hs;split
 ·exact Kg hE hr
 ·exact ⟨rfl,d,hr,Ext.refl _ _ _⟩
omit hE in
theorem Un {t:TypeId} {x a:AV} {h h':Aa} (hx:DI E t x a h=some h'):h'.nx=h.nx:=by
 unfold DI Js storeN at hx
 repeat' split at hx
 all_goals first | (cases hx;done) | (cases hx;rfl)
theorem Qb {j:Ren} {h h':Aa} (hr:HR j h.blk.get w) {t:TypeId} {x a:AV} {p v:Value} (hx:VR j x p) (q:VR j a v) (f:IX E t x a h=some h') :
  ∃i g,(Instr.storeAt t p v).run E.P w=.ok () g∧HR i h'.blk.get g∧Ext j i h h' w g:=by
 have d:DI E t x a h=some h'→∃i g,(Instr.storeAt t p v).run E.P w=.ok () g∧HR i h'.blk.get g∧Ext j i h h' w g:=by
  intro A;obtain ⟨g,q1,q2,q3⟩:=Jq hE hr hx q A;exact ⟨j,g,q1,q2,q3⟩
 have n:∀{t:TypeId} {x a:AV} {h h':Aa},DI E t x a h=some h'→h'.nx=h.nx:=Un
 unfold IX at f;split at f
 ·split at f
  ·split at f
   ·split at f
    ·split at f
     ·rename_i l;split at f;rename_i l1 B o;cases q with
      |agg _ l' C D=>
       obtain ⟨G,i,q1,q2,q3⟩:=K1 hE hr ⟨C,D⟩ o;obtain ⟨g,s,u,y⟩:=Jq hE q2 (hx.mono q3.le) (.agg l1 l' q1.1 q1.2) f;have:=n f;exact ⟨i,g,s,u,q3.trans y (fun b F z=>by omega)⟩
     ·split at f;rename_i H B o;obtain ⟨i,q1,q2,q3⟩:=KZ hE hr q o;obtain ⟨g,s,u,y⟩:=Jq hE q2 (hx.mono q3.le) q1 f;have:=n f;have:=OE o;exact ⟨i,g,s,u,q3.trans y (fun b F z=>by omega)⟩
    ·exact d f
   ·exact d f
  ·exact d f
 ·exact d f
theorem Qm {f:Ren} {h:Aa} {e:TypeId} {a:AV} (hr:HR f h.blk.get w):(Gc E e a h).nx=h.nx∧∃d:Ren,HR d (Gc E e a h).blk.get w∧Ext f d h (Gc E e a h) w w:=by
 have same:h.nx=h.nx∧∃d:Ren,HR d h.blk.get w∧Ext f d h h w w:=⟨rfl,f,hr,Ext.refl _ _ _⟩
 unfold Gc;split
 ·split
  ·split
   ·exact NW hE hr
   ·exact same
  ·exact same
 ·exact same
theorem Oz {f:Ren} {h h':Aa} (hr:HR f h.blk.get w) {t t' ty:TypeId} {s x a:AV} {n o:Value} (j:VR f s n) (hx:VR f x o) (g:Jy E t t' s x h=some (a,h')) (i:AG f h.nx h'.nx)
  (u:∀a h',IN E t t' s x h=some (a,h')→AG f h.nx h'.nx→AP E f h h' w (Builtin.append_ #[t,t'] ty #[n,o]) a) :
  AP E f h h' w (Builtin.append_ #[t,t'] ty #[n,o]) a:=by
 unfold Jy at g;split at g
 ·rename_i z;split at g
  ·rename_i e K;obtain ⟨L,M,q1,q2⟩:=Qm (e:=e) (a:=s) hE hr;obtain ⟨N,A,y,p⟩:=Qm (e:=e) (a:=x) hE q1;have d:=q2.le.trans p.le;have q:AG A (Gc E e x (Gc E e s h)).nx h'.nx:=Ext.free p (Ext.free q2 i);obtain ⟨B,v,C,D,F,G,H⟩:=HG hE y (j.mono d) (hx.mono d) g q (fun a I J hf2=>LU hE y (j.mono d) (hx.mono d) J hf2)
   exact ⟨B,v,C,D,F,G,q2.trans (p.trans H (Ext.free q2 i)) i⟩
  ·exact HG hE hr j hx g i u
 ·exact HG hE hr j hx g i u
end
end Go.AE
namespace Go.AE
variable [Gl:AH]
variable [U:Unk]
theorem NZ {d:Option TypeDesc} (h:VU d=true):d=some (.int .u8):=by
 unfold VU at h;split at h
 ·rfl
 ·cases h
theorem NH {d:Option TypeDesc} (h:OZ d=true):d=some .string:=by
 unfold OZ at h;split at h
 ·rfl
 ·cases h
theorem Jz {d:Option (List Kd)} (h:Ml d=true):d=some [.int .u8]:=by
 unfold Ml at h;split at h
 ·rfl
 ·cases h
theorem XU {s:ByteArray} {n:Nat} (h:n<s.data.toList.length):s[n]?=some s.data.toList[n]:=by
 have a:n<s.size:=by simpa using h
 rw [getElem?_pos s n a];rfl
theorem Xe {l:List UInt8} {i:Nat} (hi:i<l.length):((l.map fun b=>D.row [.int b.toNat]).getD i default)=.row [.int l[i].toNat]:=by
 rw [List.getD_eq_getElem?_getD,List.getElem?_map,List.getElem?_eq_getElem hi];rfl
theorem YD {t:ByteArray} {m i:Nat} (hi:i<t.data.toList.length):(t.data.map (fun (b:UInt8)=>Value.int .u8 b.toNat)++Array.replicate m (Value.int .u8 0)).getD i Go.undef=.int .u8 (t.data.toList[i].toNat:Nat):=by
 have a:i<t.data.size:=by rw [←Array.length_toList];exact hi
 have:(t.data.map (fun (b:UInt8)=>Value.int .u8 b.toNat)++Array.replicate m (Value.int .u8 0))[i]?=some (.int .u8 (t.data.toList[i].toNat:Nat)):=by
  rw [Array.getElem?_append_left (by simpa using a),Array.getElem?_map,Array.getElem?_eq_getElem a]
  simp
 rw [Array.getD_eq_getD_getElem?,this];rfl
theorem Yg {K:TypeId→Option (List Kd)} {M:Nat→Option (Array Value)} {c:Array Value} {o:Nat} {rows:List D} (f:o+rows.length≤c.size)
  (h:∀i,i<rows.length→DV K M (.int .u8) (c.getD (o+i) Go.undef) ((rows.getD i default).cells.getD 0 default)) :
  ((c.toList.drop o).take rows.length)=(rows.map fun r=>(r.cells.getD 0 default).toInt).map (Value.int .u8):=by
 apply List.ext_getElem
 ·simp;omega
 ·intro i a b;have hi:i<rows.length:=by simpa using b
  simp only [List.getElem_take,List.getElem_drop,List.getElem_map,Array.getElem_toList];have:=h i hi;have e:c.getD (o+i) Go.undef=c[o+i]'(by omega):=by simp [Array.getD_eq_getD_getElem?,show o+i<c.size by omega]
  rw [e] at this;have d:rows.getD i default=rows[i]:=by simp [List.getD_eq_getElem?_getD,hi]
  rw [d] at this;generalize c[o+i]'(by omega)=v at this ⊢
  cases this with
  |int _ n _ _ q=>rw [q]
theorem Sv {x:SE}:(AR U.V (.ofBytes x)).data.toList=((Ab U.V x).rows.map fun r=>(r.cells.getD 0 default).toInt).map fun n=>UInt8.ofNat n.toNat:=by
 show (((Ab U.V x).rows.map fun r=>UInt8.ofNat (r.cells.getD 0 default).toInt.toNat).toArray).toList=_
 simp
theorem QG (a:List Int) {s:ByteArray} (h:s.data.toList=a.map fun n=>UInt8.ofNat n.toNat):a.foldl (fun r n=>r.push (UInt8.ofNat n.toNat)) ByteArray.empty=s:=by
 have:=Lh a ByteArray.empty;have e:(a.foldl (fun r n=>r.push (UInt8.ofNat n.toNat)) ByteArray.empty).data.toList=s.data.toList:=by rw [this,h];simp
 cases s with
 |mk d=>
  generalize a.foldl (fun r n=>r.push (UInt8.ofNat n.toNat)) ByteArray.empty=t at e
  cases t with
  |mk b=>simp only [ByteArray.mk.injEq];exact Array.toList_inj.1 e
theorem Gv {x:SE} (h:(Ab U.V x).rows=[]):AR U.V (.ofBytes x)=ByteArray.empty:=by
 show ByteArray.mk (((Ab U.V x).rows.map fun r=>UInt8.ofNat (r.cells.getD 0 default).toInt.toNat).toArray)=_
 rw [h];rfl
theorem Ny {P:Program} {w:World} {M:Nat→Option (Array Value)} {b o c:Nat} {a:Array Value} {e:TypeId} {d:Nat×Nat} {y:SE} (g:w.heap[b]?=some (.cells a e d)) (f:o+(Ab U.V y).rows.length≤a.size)
  (h:∀i,i<(Ab U.V y).rows.length→DV U.K M (.int .u8) (a.getD (o+i) Go.undef) (((Ab U.V y).rows.getD i default).cells.getD 0 default)) :
  (Conv.bytesToString (.slice (some ⟨b,o,none⟩) (Ab U.V y).rows.length c)).run P w=.ok (.string (AR U.V (.ofBytes y))) w:=by
 have q:=AC P w b o (Ab U.V y).rows.length a e d g f;rw [Yg f h] at q;have r:=run_bytesToString w ⟨b,o,none⟩ (Ab U.V y).rows.length c ((Ab U.V y).rows.map fun r=>(r.cells.getD 0 default).toInt) q
 rw [QG _ Sv] at r;exact r
section
variable {E:Env} (hE:OK E) {ρ:Ren} {h:Aa} {w:World}
include hE
theorem Ur {t:TypeId} {x i a:AV} {l m:Value} (o:VR ρ x l) (hi:VR ρ i m) (b:N5 E t x i=some a) :
  ∃v,(Instr.index t l m).run E.P w=.ok v w∧VR ρ a v:=by
 unfold N5 at b;split at b
 ·rename_i y;split at b
  ·rename_i k c r g;split at b
   ·rename_i s;cases b;obtain ⟨u,p⟩:=My s;have j:=Ch hi g;subst j;rw [CJ] at p;cases o with
    |ss _=>
     obtain ⟨n,q⟩:∃n:Nat,Ac U.V c=n:=⟨(Ac U.V c).toNat,by omega⟩
     rw [q] at u p ⊢;have d:n<(AR U.V y).data.toList.length:=by omega
     refine ⟨.int .u8 ((AR U.V y).data.toList[n].toNat:Nat),?_,?_⟩
     ·simp only [Instr.index,asIntOf,Sem.run_bind,Sem.run_pure,Result.andThen_ok,hE.run_und r];rw [if_pos (by omega),Int.toNat_natCast,XU d]
      rfl
     ·have:=B9 ρ .u8 (.strAt y c)
      have e:Ac U.V (.strAt y c)=((AR U.V y).data.toList[n].toNat:Nat):=by
       show ((((Ab U.V y).toStr.data.toList[(Ab U.V c).toInt.toNat]?).getD 0).toNat:Int)=_
       have z:(Ab U.V c).toInt.toNat=n:=by
        have:(Ab U.V c).toInt=n:=q;omega
       have f:n<(Ab U.V y).toStr.data.toList.length:=d;rw [z,List.getElem?_eq_getElem f];rfl
      rw [e] at this;exact this
   ·cases b
  ·cases b
 ·exact UM hE o (IA hi) b
theorem XC (hr:HR ρ h.blk.get w) {s d:TypeId} {x a:AV} {xv:Value} {h':Aa} (C:VR ρ x xv) (g:SY E s d x h=some (a,h')) (N:AG ρ h.nx h'.nx) :
  AP E ρ h h' w (convert s d xv) a:=by
 unfold SY at g;split at g
 ·rename_i y;split at g
  ·rename_i e p;split at g
   ·rename_i k;cases g;obtain ⟨k,c3⟩:=An k;obtain ⟨c1,c2⟩:=An k;have q:=NZ c1;have D:=Jz c2;obtain ⟨sd,r⟩:=Option.isSome_iff_exists.1 c3;have us:=hE.run_und r w;have F:=hE.run_und p w;have G:=hE.run_und q w;cases C with
    |ss _=>
     generalize ht:AR U.V y=t;have z:ρ h.nx=none:=N h.nx (Nat.le_refl _) (by simp [Aa.new])
     generalize v:grownCap w t.size 0 e=c;have O:t.size≤c:=by rw [←v];exact grownCap_ge w _ _ _
     generalize l:(t.data.map (fun b=>Value.int .u8 b.toNat)++Array.replicate (c-t.size) (.int .u8 0))=arr
     have H:arr.size=c:=by rw [←l];simp;omega
     have Q:HR ρ h.blk.get {w with drawn:=w.drawn+1}:=hr.same rfl
     have m:U.K e=some [.int .u8]:=by rw [hE.kd,←hE.ke];exact D
     have er:(Ab U.V (.bytes y)).rows=t.data.toList.map fun b=>.row [.int b.toNat]:=by
      show ((Ab U.V y).toStr.data.toList.map _)=_;have:(Ab U.V y).toStr=t:=ht;rw [this]
     have R:t.size=t.data.toList.length:=by simp
     have A:Bk U.K ρ.imm [.int .u8] arr 0 (Ab U.V (.bytes y)).rows:=by
      rw [er];refine ⟨by simp only [List.length_map,List.length_singleton];omega,fun i hi=>?_,fun i j kd hi S=>?_⟩
      ·have u:i<t.data.toList.length:=by simpa using hi
       rw [Xe u];rfl
      ·have u:i<t.data.toList.length:=by simpa using hi
       have T:j=0:=by
        cases j with
        |zero=>rfl
        |succ j=>simp at S
       subst T;simp only [List.getElem?_cons_zero,Option.some.injEq] at S;subst S;rw [Xe u];show DV U.K ρ.imm (.int .u8) (arr.getD (0+i*1+0) Go.undef) (.int (t.data.toList[i].toNat:Nat));rw [show 0+i*1+0=i by omega,←l,YD u]
       have L:=t.data.toList[i].toNat_lt;exact .int .u8 _ _ (.inr ⟨by show (0:Int)≤_;omega,by show _≤(255:Int);omega⟩) rfl
     obtain ⟨p1,p2⟩:=Q.new z (.arr e (.bytes y)) (.cells arr e (arr.size,arr.size+1)) arr.size ⟨_,_,e,_,m,rfl,rfl,.inr (Nat.le_refl _),A⟩ {w with drawn:=w.drawn+1,heap:=w.heap.push (.cells arr e (arr.size,arr.size+1))} rfl rfl rfl rfl
     refine ⟨_,.slice (some ⟨w.heap.size,0,none⟩) t.size c,_,?_,?_,p1,p2.drawn rfl rfl rfl rfl⟩
     ·have W:(choose (.appendCap t.size 0 e)).run E.P w=.ok c {w with drawn:=w.drawn+1}:=by rw [←v];simp [Question.forced,grownCap]
      have B:(convert s d (.string t)).run E.P w=(Conv.stringToBytes e t).run E.P w:=by
       cases sd<;>simp [convert,us,F,G]
      rw [B];simp only [Conv.stringToBytes,Sem.run_bind,W,Result.andThen_ok,newRow,run_newObj,Sem.run_pure,l];simp only [markStringish,Sem.run_bind,run_shape,Result.andThen_ok];have X:({w with drawn:=w.drawn+1,heap:=w.heap.push (.cells arr e)}:World).shape? w.heap.size=some (e,arr.size):=by simp [World.shape?]
      rw [X];simp only [run_freeze,Result.andThen_ok]
      have Y:({w with drawn:=w.drawn+1,heap:=w.heap.push (.cells arr e)}:World).freeze ⟨w.heap.size,arr.size,none⟩ 1={w with drawn:=w.drawn+1,heap:=w.heap.push (.cells arr e (arr.size,arr.size+1))}:=by
       simp [World.freeze,J8]
      rw [Y]
     ·have f:Ac U.V (.lenL (.bytes y))=(t.size:Nat):=by rw [Ai,er,R];simp
      have:=VR.asl (ρ:=ρ.upd h.nx ⟨w.heap.size,0,arr.size⟩) h.nx 1 (.lenL (.bytes y)) (.bc false) c ⟨w.heap.size,0,arr.size⟩ (Ren.upd_same _ _ _) (by rw [f];exact Int.natCast_nonneg _) (by rw [f];simpa using O) (by show 0+c*1≤arr.size;rw [H];omega) rfl
      rw [f] at this;simpa using this
   ·cases g
  ·exact PH hE hr C g N
 ·rename_i e' y;split at g
  ·rename_i e r;split at g
   ·rename_i k;cases g;obtain ⟨k,c4⟩:=An k;obtain ⟨k,c3⟩:=An k;obtain ⟨c1,c2⟩:=An k;have h0:=Ay c1;subst h0;have q:=NZ c2;have D:=Jz c3;have p:=NH c4;have m:U.K e=some [.int .u8]:=by rw [hE.kd,←hE.ke];exact D
    cases C with
    |dat _ _ ad n c Z=>
     refine Az hr ⟨_,?_,.ss (.ofBytes y)⟩;have us:=hE.run_und r w;have F:=hE.run_und p w;have G:=hE.run_und q w;cases Z with
     |nil _ _ g1 I=>
      rw [Gv I];simp [convert,us,F,G,Conv.bytesToString]
     |empty _ a1 _ _ g1 I=>
      rw [run_convert_bytes_string w s d e _ _ _ (hE.und r) (hE.und q) (hE.und p),Gv I];exact run_bytesToString (P:=E.P) w a1 0 c [] (by simp [Go.loadCells,loadCellsFrom])
     |slc _ b o _ _ _ ks arr J aa hn ae g1 ab ac hv=>
      rw [m] at J;cases J;obtain ⟨e1,fz,L⟩:=hr.imm b arr aa;rw [run_convert_bytes_string w s d e _ _ _ (hE.und r) (hE.und q) (hE.und p),←hn];refine Ny (M:=ρ.imm) L (by rw [hn];simpa using ab) (fun i hi=>?_)
      have:=hv i 0 _ (by omega) rfl
      simpa using this
   ·cases g
  ·cases g
 ·rename_i b es n nl;split at g
  ·rename_i e e' y r hg;split at g
   ·rename_i k;cases g;obtain ⟨k,c5⟩:=An k;obtain ⟨k,c4⟩:=An k;obtain ⟨k,c3⟩:=An k;obtain ⟨c1,c2⟩:=An k;have h0:=Ay c1;subst h0;have q:=NZ c2;have D:=Jz c3;have p:=NH c4;have f:=Fq c5;have m:U.K e=some [.int .u8]:=by rw [hE.kd,←hE.ke];exact D
    have us:=hE.run_und r w;have F:=hE.run_und p w;have G:=hE.run_und q w;cases C with
    |asl _ _ _ _ c base L q0 qc qz qn=>
     refine Az hr ⟨_,?_,.ss (.ofBytes y)⟩;obtain ⟨ks,af,et,fz,r1,r2,r3,r4,r5⟩:=hr.blk b base _ L hg;rw [m] at r1;cases r1;rw [run_convert_bytes_string w s d e _ _ _ (hE.und r) (hE.und q) (hE.und p),f,Ai,Int.toNat_natCast];refine Ny (M:=ρ.imm) r2 (by simpa using r5.1) (fun i hi=>?_)
     have:=r5.2.2 i 0 _ hi rfl;simpa using this
    |aslEnd _ _ _ _ ad q0 qn=>
     refine Az hr ⟨_,?_,.ss (.ofBytes y)⟩;rw [f,Ai] at q0;have I:(Ab U.V y).rows=[]:=List.eq_nil_of_length_eq_zero (by omega)
     rw [Gv I];cases ad with
     |none=>simp [convert,us,F,G,Conv.bytesToString]
     |some a1=>
      rw [run_convert_bytes_string w s d e _ _ _ (hE.und r) (hE.und q) (hE.und p)];exact run_bytesToString (P:=E.P) w a1 0 0 [] (by simp [Go.loadCells,loadCellsFrom])
   ·cases g
  ·cases g
 ·exact PH hE hr C g N
end
end Go.AE

