/- What is proved here: an evaluator of the model's steps that the kernel can run, and that whatever it answers is what the model does (part 3 of 8: AeOps15, AeOps16, AeOps17, AeOps18, AeDat1, AeDat2, AeDat3, AeDat4, AeFrz, AeDat5). Conditions: those that each theorem states; they hold of no one program. -/
import Derived.Test.YtmjeljjkhblgeaaGreatDoorBeB
import Derived.Lib.Bytealg
import Derived.Laws.BytesString
set_option linter.unusedVariables false
set_option linter.unusedSectionVars false
set_option linter.unusedSimpArgs false
namespace Go.AE
variable [Gl:Au]
variable [U:Unk]
theorem PB {ρ:Ren} (P:Program) (w:World) (k:IntKind):∀{l:List AV} {l':List Value} {x:Int} {a:AV},VL ρ l l'→HA k x l=some a→∃v,(l'.foldlM Builtin.max2 (.int k x)).run P w=.ok v w∧VR ρ a v:=by
 intro l
 induction l with
 |nil=>intro l' x a hl h;rw [hl.nil_inv];simp only [HA,Option.some.injEq] at h;subst h;exact ⟨_,by simp,.int _ _⟩
 |cons y r ih=>
  intro l' x a hl h;obtain ⟨v,r',rfl,hv,hr⟩:=hl.cons_inv;cases hv<;>simp only [HA] at h<;>first | (cases h;done)|skip
  obtain ⟨u,q1,q2⟩:=ih hr h;exact ⟨u,by simp only [List.foldlM_cons,Builtin.max2,Sem.run_bind,Sem.run_pure,Result.andThen_ok];exact q1,q2⟩
theorem Pr {ρ:Ren} (P:Program) (w:World) (k:IntKind):∀{l:List AV} {l':List Value} {x:Int} {a:AV},VL ρ l l'→G5 k x l=some a→∃v,(l'.foldlM Builtin.min2 (.int k x)).run P w=.ok v w∧VR ρ a v:=by
 intro l
 induction l with
 |nil=>intro l' x a hl h;rw [hl.nil_inv];simp only [G5,Option.some.injEq] at h;subst h;exact ⟨_,by simp,.int _ _⟩
 |cons y r ih=>
  intro l' x a hl h;obtain ⟨v,r',rfl,hv,hr⟩:=hl.cons_inv;cases hv<;>simp only [G5] at h<;>first | (cases h;done)|skip
  obtain ⟨u,q1,q2⟩:=ih hr h;exact ⟨u,by simp only [List.foldlM_cons,Builtin.min2,Sem.run_bind,Sem.run_pure,Result.andThen_ok];exact q1,q2⟩
theorem Ns {ρ:Ren}:∀{l:List AV} {vs:List Value} {n:Nat},ID l=some n→VL ρ l vs→∃ns:List Int,vs=ns.map (Value.int .u8)∧ns.length=l.length∧As (ns.map fun n=>UInt8.ofNat n.toNat)=n
 |[],vs,n,h,hv=>by
  simp only [ID,Option.some.injEq] at h;subst h;rw [hv.nil_inv];exact ⟨[],rfl,rfl,rfl⟩
 |a::l,vs,n,h,hv=>by
  obtain ⟨v,r,rfl,hv1,hv2⟩:=hv.cons_inv;cases hv1<;>first | (cases h;done)|skip
  rename_i k m;cases k<;>first | (cases h;done)|skip
  cases m with
  |negSucc m=>cases h
  |ofNat m=>
   simp only [ID] at h;cases hp:ID l with
   |none=>simp [hp] at h
   |some q=>
    simp only [hp,Option.some.injEq] at h;subst h;obtain ⟨ns,h1,h2,h3⟩:=Ns hp hv2;refine ⟨(m:Int)::ns,by simp [h1],by simp [h2],?_⟩
    simp only [List.map_cons,As,h3,Int.toNat_natCast];simp
theorem Jz (ns:List Int):∀(s:ByteArray),(ns.foldl (fun r n=>r.push (UInt8.ofNat n.toNat)) s).data.toList=s.data.toList++ns.map fun n=>UInt8.ofNat n.toNat:=by
 induction ns with
 |nil=>intro s;simp
 |cons n ns ih=>intro s;simp only [List.foldl_cons,ih,List.map_cons];simp [ByteArray.push]
theorem It {α:Type} (a:Array α) (x:α) (f:α→α):(a.push x).modify a.size f=a.push (f x):=by
 apply Array.ext_getElem?;intro i;simp only [Array.getElem?_modify,Array.getElem?_push];by_cases h:i=a.size
 ·subst h;simp
 ·rw [if_neg (fun e=>h e.symm),if_neg h,if_neg h]
section
variable {E:Env} (hE:OK E) {ρ:Ren} {h:Aa} {w:World}
include hE
theorem Ng (hr:HR ρ h.blk.get w) {s d:TypeId} {x a:AV} {xv:Value} {h':Aa} (hx:VR ρ x xv) (ha:P3 E s d x h=some (a,h')) (hf:Ax ρ h.nx h'.nx) :
  AB E ρ h h' w (convert s d xv) a:=by
 unfold P3 at ha;cases hs:E.desc s with
 |none=>rw [hs] at ha;cases ha
 |some sd=>
  cases hd:E.desc d with
  |none=>rw [hs,hd] at ha;cases sd<;>cases ha
  |some dd=>
   rw [hs,hd] at ha;have us:=hE.run_und hs w;have ud:=hE.run_und hd w;cases hx with
   |int k n=>
    cases dd<;>first | (cases ha;done) | (cases sd<;>(cases ha;done))|skip
    simp only [Option.some.injEq,Prod.mk.injEq] at ha;obtain ⟨rfl,rfl⟩:=ha;exact Ar hr ⟨_,by simp [convert,us,ud,Conv.intToInt],.int _ _⟩
   |si k e=>
    cases dd<;>first | (cases ha;done) | (cases sd<;>(cases ha;done))|skip
    simp only [Option.some.injEq,Prod.mk.injEq] at ha;obtain ⟨rfl,rfl⟩:=ha;exact Ar hr ⟨_,by simp [convert,us,ud,Conv.intToInt,JC],B3 ρ _ (.conv _ e)⟩
   |ss i=>
    cases dd<;>first | (cases ha;done) | (cases sd<;>(cases ha;done))|skip
    simp only [Option.some.injEq,Prod.mk.injEq] at ha;obtain ⟨rfl,rfl⟩:=ha;refine Ar hr ⟨.string (AG U.V i),?_,.ss i⟩;cases sd<;>simp [convert,us,ud]
   |str t=>
    cases dd<;>first | (cases ha;done) | (cases sd<;>(cases ha;done))|skip
    ·simp only [Option.some.injEq,Prod.mk.injEq] at ha;obtain ⟨rfl,rfl⟩:=ha;refine Ar hr ⟨.string t,?_,.str t⟩;cases sd<;>simp [convert,us,ud]
    ·rename_i e;simp only [] at ha;cases he:E.desc e with
     |none=>rw [he] at ha;cases ha
     |some ed=>
      have ue:=hE.run_und he w;rw [he] at ha;cases ed<;>first | (cases ha;done)|skip
      rename_i k;cases k<;>first | (cases ha;done)|skip
      simp only [Option.some.injEq,Prod.mk.injEq] at ha;obtain ⟨rfl,rfl⟩:=ha;have hfree:ρ h.nx=none:=hf h.nx (Nat.le_refl _) (by simp [Aa.new])
      generalize hcap:grownCap w t.size 0 e=cap;have hge:t.size≤cap:=by rw [←hcap];exact grownCap_ge w _ _ _
      generalize harr:(t.data.map (fun b=>Value.int .u8 b.toNat)++Array.replicate (cap-t.size) (.int .u8 0))=arr
      have hasz:arr.size=cap:=by rw [←harr];simp;omega
      have hr1:HR ρ h.blk.get {w with drawn:=w.drawn+1}:=hr.same rfl
      obtain ⟨p1,p2⟩:=hr1.new hfree (.cells t.data.toList.length (.ofList (bytesOf t.data.toList.length (As t.data.toList)))) (.cells arr e (arr.size,arr.size+1)) arr.size (by
       refine ⟨arr,e,_,rfl,rfl,?_,.inr (Nat.le_refl _),?_⟩
       ·show 0+_≤arr.size;simp;omega
       ·intro i a hi ha;rw [T.get_ofList,EV] at ha;obtain ⟨v,hv,hvr⟩:=(N4 (ρ.upd h.nx ⟨w.heap.size,0,arr.size⟩) t.data.toList).get ha;refine ⟨v,?_,hvr⟩;rw [←harr];have hi':i<t.size:=by simpa using hi
        simp only [Nat.zero_add];rw [Array.getElem?_append_left (by simpa using hi')]
        simpa using hv) {w with drawn:=w.drawn+1,heap:=w.heap.push (.cells arr e (arr.size,arr.size+1))} rfl rfl rfl rfl
      refine ⟨_,.slice (some ⟨w.heap.size,0,none⟩) t.size cap,_,?_,?_,p1,p2.drawn rfl rfl rfl rfl⟩
      ·have hch:(choose (.appendCap t.size 0 e)).run E.P w=.ok cap {w with drawn:=w.drawn+1}:=by rw [←hcap];simp [Question.forced,grownCap]
       have hconv:(convert s d (.string t)).run E.P w=(Conv.stringToBytes e t).run E.P w:=by
        cases sd<;>simp [convert,us,ud,ue]
       rw [hconv];simp only [Conv.stringToBytes,Sem.run_bind,hch,Result.andThen_ok,newRow,run_newObj,Sem.run_pure,harr];simp only [markStringish,Sem.run_bind,run_shape,Result.andThen_ok];have hsh:({w with drawn:=w.drawn+1,heap:=w.heap.push (.cells arr e)}:World).shape? w.heap.size=some (e,arr.size):=by simp [World.shape?]
       rw [hsh];simp only [run_freeze,Result.andThen_ok]
       have hfz:({w with drawn:=w.drawn+1,heap:=w.heap.push (.cells arr e)}:World).freeze ⟨w.heap.size,arr.size,none⟩ 1={w with drawn:=w.drawn+1,heap:=w.heap.push (.cells arr e (arr.size,arr.size+1))}:=by
        simp [World.freeze,It]
       rw [hfz]
      ·have hsz:t.size=t.data.toList.length:=by simp
       rw [hsz] at hge ⊢;exact VR.slice h.nx 0 _ 1 cap _ (Ren.upd_same _ _ _) hge (by simp [hasz])
   |slice0=>
    cases dd<;>cases sd<;>first | (cases ha;done)|skip
    rename_i e;simp only [] at ha;cases he:E.desc e with
    |none=>rw [he] at ha;cases ha
    |some ed=>
     have ue:=hE.run_und he w;rw [he] at ha;cases ed<;>first | (cases ha;done)|skip
     rename_i k;cases k<;>first | (cases ha;done)|skip
     simp only [Option.some.injEq,Prod.mk.injEq] at ha;obtain ⟨rfl,rfl⟩:=ha;exact Ar hr ⟨.string .empty,by simp [convert,us,ud,ue,Conv.bytesToString],.str .empty⟩
   |slice b off len es cap base hb hcap hz=>
    cases dd<;>cases sd<;>first | (cases ha;done)|skip
    ·rename_i e;simp only [] at ha;cases he:E.desc e with
     |none=>rw [he] at ha;cases ha
     |some ed=>
      have ue:=hE.run_und he w;rw [he] at ha;cases ed<;>first | (cases ha;done)|skip
      rename_i k;cases k<;>first | (cases ha;done)|skip
      simp only [] at ha;cases hl:B1 h b off len with
      |none=>simp [hl] at ha
      |some l=>
       simp only [hl] at ha;cases hp:ID l with
       |none=>simp [hp] at ha
       |some n=>
        simp only [hp,Option.some.injEq,Prod.mk.injEq] at ha;obtain ⟨rfl,rfl⟩:=ha;unfold B1 at hl;cases hg:h.blk.get b with
        |none=>simp [hg] at hl
        |some y=>
         cases y with
         |cells sz c=>
          simp only [hg] at hl;cases hq:Nat.ble (off+len) sz with
          |false=>simp [hq] at hl
          |true=>
           simp only [hq] at hl;have hlen:=(T.range_spec c _ _ _ hl).1;obtain ⟨vs,q1,q2,q3⟩:=hr.loadCells E.P hb hg (Cs hq) hl;obtain ⟨ns,n1,n2,n3⟩:=Ns hp q1;rw [n1] at q2;have hrun:=run_bytesToString (P:=E.P) w ⟨base.cb,base.co+off,none⟩ len cap ns q2;refine Ar hr ⟨_,by rw [run_convert_bytes_string w s d e _ _ _ (hE.und hs) (hE.und he) (hE.und hd)];exact hrun,?_⟩
           have hv:=VR.str (ρ:=ρ) (ns.foldl (fun r n=>r.push (UInt8.ofNat n.toNat)) ByteArray.empty)
           have e0:(ByteArray.empty.data.toList++ns.map fun n=>UInt8.ofNat n.toNat)=ns.map fun n=>UInt8.ofNat n.toNat:=by simp
           rw [Jz,e0,List.length_map,n3,n2,hlen] at hv;exact hv
         |_=>simp [hg] at hl
    ·rename_i e e';simp only [] at ha;cases he:E.desc e with
     |none=>rw [he] at ha;cases ha
     |some ed=>
      have ue:=hE.run_und he w;rw [he] at ha;cases ed<;>first | (cases ha;done)|skip
      rename_i k;cases k<;>first | (cases ha;done)|skip
      simp only [] at ha;cases hsd:Nat.beq s d with
      |false=>rw [hsd] at ha;cases ha
      |true=>
       cases len with
       |zero=>rw [hsd] at ha;cases ha
       |succ len=>
        cases hg:h.blk.get b with
        |none=>rw [hsd,hg] at ha;cases ha
        |some y=>
         cases y<;>first | (rw [hsd,hg] at ha;cases ha;done)|skip
         rename_i sz c;rw [hsd,hg] at ha;simp only [Option.some.injEq,Prod.mk.injEq] at ha;obtain ⟨rfl,rfl⟩:=ha;have hsd':=Aq hsd;subst hsd';rw [hs] at hd;cases hd;obtain ⟨cur,e1,fz,r1,r2,r3,r4,r5⟩:=hr.blk b base _ hb hg;have hlt:=hr.lt b base hb;have hsh:w.shape? base.cb=some (e1,cur.size):=by simp [World.shape?,r1]
         obtain ⟨w',hw'⟩:∃w',w'=w.freeze ⟨base.cb,cur.size,none⟩ 1:=⟨_,rfl⟩
         have hat:w'.heap[base.cb]?=some (.cells cur e1 (if fz.1==fz.2 then (cur.size,cur.size+1) else (min fz.1 cur.size,max fz.2 (cur.size+1)))):=by
          rw [hw'];unfold World.freeze;rw [if_neg (by omega)]
          show (w.heap.modify base.cb _)[base.cb]?=_;rw [Array.getElem?_modify,if_pos rfl,r1];rfl
         have hnot:∀k,k≠base.cb→w'.heap[k]?=w.heap[k]?:=by
          intro k hk;rw [hw'];unfold World.freeze;rw [if_neg (by omega)]
          show (w.heap.modify base.cb _)[k]?=_;rw [Array.getElem?_modify,if_neg (fun e=>hk e.symm)]
         have hsz:w'.heap.size=w.heap.size:=by rw [hw'];simp [World.freeze]
         have hstr:w'.os=w.os∧w'.tape=w.tape∧w'.output=w.output:=by rw [hw'];simp [World.freeze]
         have hbr:BR ρ (.cells sz c) base w'.heap[base.cb]?:=by
          refine ⟨cur,e1,_,hat,r2,r3,?_,r5⟩;by_cases q:fz.1=fz.2
          ·right;simp [q,r2]
          ·have:=r4.resolve_left q;right;have q':(fz.1==fz.2)=false:=by simpa using q
           rw [q'];simp only [Bool.false_eq_true,if_false];omega
         have hr':HR ρ h.blk.get w':=by
          refine ⟨fun c d hc=>hsz▸hr.lt c d hc,?_,hr.apart,fun k arr hk=>by rw [hnot k (hr.off k arr b base hk hb (by rw [hg];simp)).symm];exact hr.imm k arr hk,hr.off,hr.glob⟩
          intro c' d y hc hy;by_cases e:c'=b
          ·subst e;rw [hb] at hc;cases hc;rw [hg] at hy;cases hy;exact hbr
          ·rw [hnot _ (hr.apart c' b d base e hc hb (by rw [hy];simp) (by rw [hg];simp))]
           exact hr.blk c' d y hc hy
         refine ⟨ρ,.slice (some ⟨base.cb,base.co+off,none⟩) (len+1) cap,w',?_,.slice b off (len+1) es cap base hb hcap hz,hr',⟨Ren.le_refl ρ,Nat.le_refl _,fun _ _ e=>.inl e,⟨hstr.1,hstr.2.1,hstr.2.2,by omega⟩,?_,⟨[],rfl,fun _ _ _=>rfl⟩,fun _ e=>.inl e,fun _ _ e=>.inl e⟩⟩
         ·simp only [convert,Sem.run_bind,us,Result.andThen_ok,ue,beq_self_eq_true,markStringish,run_shape,hsh,run_freeze,Sem.run_pure,←hw']
         ·intro k hk hn;exact hnot k (fun e=>hn b base hb (by rw [hg];simp) e.symm)
   |sliceEnd b off es ad=>
    cases dd<;>cases sd<;>first | (cases ha;done)|skip
    ·rename_i e;simp only [] at ha;cases he:E.desc e with
     |none=>rw [he] at ha;cases ha
     |some ed=>
      have ue:=hE.run_und he w;rw [he] at ha;cases ed<;>first | (cases ha;done)|skip
      rename_i k;cases k<;>first | (cases ha;done)|skip
      simp only [] at ha;cases hl:B1 h b off 0 with
      |none=>simp [hl] at ha
      |some l=>
       simp only [hl] at ha
       have hl0:l=[]:=by
        unfold B1 at hl;cases hg:h.blk.get b with
        |none=>simp [hg] at hl
        |some y=>
         cases y with
         |cells sz c=>
          simp only [hg] at hl;cases hq:Nat.ble (off+0) sz with
          |false=>simp only [hq] at hl;cases hl
          |true=>simp only [hq,T.range,Option.some.injEq] at hl;exact hl.symm
         |_=>simp [hg] at hl
       subst hl0;simp only [ID,Option.some.injEq,Prod.mk.injEq] at ha;obtain ⟨rfl,rfl⟩:=ha;have hrun:=run_bytesToString (P:=E.P) w ad 0 0 [] (by simp [Go.loadCells,loadCellsFrom])
       exact Ar hr ⟨_,by rw [run_convert_bytes_string w s d e _ _ _ (hE.und hs) (hE.und he) (hE.und hd)];exact hrun,.str .empty⟩
    ·rename_i e e';simp only [] at ha;cases he:E.desc e with
     |none=>rw [he] at ha;cases ha
     |some ed=>
      rw [he] at ha;cases ed<;>first | (cases ha;done)|skip
      rename_i k;cases k<;>first | (cases ha;done)|skip
      simp only [] at ha;cases Nat.beq s d<;>cases h.blk.get b<;>simp at ha
   |_=>cases dd<;>first | (cases ha;done) | (cases sd<;>(cases ha;done))
end
end Go.AE
namespace Go.AE
variable [Gl:Au]
variable [U:Unk]
theorem F3 (c:UInt8) (s:ByteArray):∀(n i:Nat),i+n=s.size→CR c.toNat n (As (s.data.toList.drop i)) i=(match (List.range' i n).find? (fun j=>s[j]! == c) with|some j=>(j:Int)|none=>-1)
 |0,i,h=>by simp [CR]
 |n+1,i,h=>by
  have hi:i<s.data.toList.length:=by simp;omega
  have hd:s.data.toList.drop i=s.data.toList[i]::s.data.toList.drop (i+1):=List.drop_eq_getElem_cons hi
  have hg:s[i]! = s.data.toList[i]:=by
   have hi':i<s.size:=by omega
   rw [getElem!_pos s i hi'];rfl
  obtain ⟨h1,h2⟩:=Dq s.data.toList[i] (s.data.toList.drop (i+1));rw [hd];simp only [CR,h1,h2,List.range'_succ,List.find?_cons,hg];by_cases e:s.data.toList[i]=c
  ·rw [e];simp
  ·have e1:Nat.beq s.data.toList[i].toNat c.toNat=false:=Dx (fun q=>e (UInt8.toNat_inj.1 q))
   have e2:(s.data.toList[i]==c)=false:=by simpa using e
   rw [e1,e2];exact F3 c s n (i+1) (by omega)
section
variable {E:Env} (hE:OK E) {ρ:Ren} {h:Aa} {w:World}
include hE
theorem PJ {x a:AV} {xv:Value} {xt t:TypeId} {ok:Bool} (hx:VR ρ x xv) (ha:Me E x t ok=some a) :
  ∃v,(Instr.typeAssert xv xt t ok).run E.P w=.ok v w∧VR ρ a v:=by
 unfold Me at ha;cases hd:E.desc t with
 |none=>rw [hd] at ha;cases ha
 |some d=>
  rw [hd] at ha;have hu:=hE.run_und hd w
  have pair:∀(v:AV) (vv:Value) (b:Bool),VR ρ v vv→VR ρ (.tuple [v,.bool b]) (.tuple #[vv,.bool b]):=by
   intro v vv b hv;have:=VL.cons hv (VL.cons (VR.bool (ρ:=ρ) b) (VL.nil ρ));exact .tuple _ [vv,.bool b] this.1 this.2
  simp only [] at ha;cases hif:NH d with
  |true=>simp [hif] at ha
  |false=>
   simp only [hif] at ha;cases hx<;>first | (cases ha;done)|skip
   ·rename_i t' v vv hv;simp only [Mx] at ha
    have run1:(Instr.typeAssert (.iface t' vv) xt t ok).run E.P w=(if t'=t then (pure (if ok then .tuple #[vv,.bool true] else vv):Sem Value) else
      (if ok then (do pure (.tuple #[←zeroValue t,.bool false])) else runtimePanic (.typeAssertion (some xt) (some t') t ""))).run E.P w:=by
     cases d<;>first | (cases hif;done)|simp only [Instr.typeAssert,Sem.run_bind,hu,Result.andThen_ok]
    cases hb:Nat.beq t' t with
    |true=>
     have:=Aq hb;cases ok with
     |true=>
      simp only [hb,Option.some.injEq] at ha;subst ha;exact ⟨_,by rw [run1,if_pos this];rfl,pair v vv true hv⟩
     |false=>
      simp only [hb,Option.some.injEq] at ha;subst ha;exact ⟨_,by rw [run1,if_pos this];rfl,hv⟩
    |false=>
     have:=NI hb;cases ok with
     |true=>
      cases hz:E.zero t with
      |none=>simp [hb,hz] at ha
      |some z=>
       simp only [hb,hz,Option.some.injEq] at ha;subst ha;obtain ⟨zv,z1,z2⟩:=hE.run_zero ρ hz w;exact ⟨_,by rw [run1,if_neg this];simp [z1],pair z zv false (Ay ρ z2)⟩
     |false=>simp [hb] at ha
   ·simp only [Mx] at ha;cases ok with
    |false=>cases hz:E.zero t<;>simp at ha
    |true=>
     cases hz:E.zero t with
     |none=>simp [hz] at ha
     |some z=>
      simp only [hz,Option.some.injEq] at ha;subst ha;obtain ⟨zv,z1,z2⟩:=hE.run_zero ρ hz w;refine ⟨_,?_,pair z zv false (Ay ρ z2)⟩;cases d<;>first | (cases hif;done)|simp [Instr.typeAssert,hu,z1]
theorem RI (hr:HR ρ h.blk.get w) {t:TypeId} {x a:AV} {xv:Value} {h':Aa} (hx:VR ρ x xv) (ha:PH E t x h=some (a,h')) (hf:Ax ρ h.nx h'.nx) :
  AB E ρ h h' w (Instr.range t xv) a:=by
 unfold PH at ha;cases hd:E.desc t with
 |none=>rw [hd] at ha;cases ha
 |some d=>
  rw [hd] at ha;have hu:=hE.run_und hd w;cases d<;>first | (cases ha;done)|skip
  ·cases hx<;>first | (cases ha;done)|skip
   rename_i s;simp only [Option.some.injEq,Prod.mk.injEq] at ha;obtain ⟨rfl,rfl⟩:=ha;have hfree:ρ h.nx=none:=hf h.nx (Nat.le_refl _) (by simp [Aa.new])
   obtain ⟨p1,p2⟩:=hr.new hfree (.strIter s.data.toList.length (As s.data.toList) 0) (.stringIter s 0) 0 ⟨rfl,s,rfl,rfl,rfl⟩ {w with heap:=w.heap.push (.stringIter s 0)} rfl rfl rfl rfl
   refine ⟨_,.pointer (some ⟨w.heap.size,0,none⟩),_,by simp [Instr.range,hu],?_,p1,p2⟩
   exact .ptr h.nx 0 _ (Ren.upd_same _ _ _)
  rename_i kt et
  ·cases hx<;>first | (cases ha;done)|skip
   ·simp only [Option.some.injEq,Prod.mk.injEq] at ha;obtain ⟨rfl,rfl⟩:=ha;have hfree:ρ h.nx=none:=hf h.nx (Nat.le_refl _) (by simp [Aa.new])
    obtain ⟨p1,p2⟩:=hr.new hfree (.mapIter none 0 [] 0) (.mapIter none 0 #[] 0) 0 ⟨rfl,rfl⟩ {w with heap:=w.heap.push (.mapIter none 0 #[] 0)} rfl rfl rfl rfl
    refine ⟨_,.pointer (some ⟨w.heap.size,0,none⟩),_,by simp [Instr.range,hu],?_,p1,p2⟩
    exact .ptr h.nx 0 _ (Ren.upd_same _ _ _)
   ·rename_i b base hb;simp only [] at ha;cases hg:h.blk.get b with
    |none=>simp [hg] at ha
    |some y=>
     cases y with
     |map es clock=>
      simp only [hg,Option.some.injEq,Prod.mk.injEq] at ha;obtain ⟨rfl,rfl⟩:=ha;obtain ⟨es',e1,e2⟩:=hr.blk b base _ hb hg;have hget:=Ao (w:=w) E.P e1 (by simp)
      have hfree:ρ h.nx=none:=hf h.nx (Nat.le_refl _) (by simp [Aa.new])
      obtain ⟨p1,p2⟩:=hr.new hfree (.mapIter (some b) clock [] clock) (.mapIter (some base.cb) clock #[] clock) 0 ⟨rfl,base,(Ren.le_upd hfree _).m _ _ hb,rfl⟩ {w with heap:=w.heap.push (.mapIter (some base.cb) clock #[] clock)} rfl rfl rfl rfl
      refine ⟨_,.pointer (some ⟨w.heap.size,0,none⟩),_,by simp [Instr.range,hu,hget],?_,p1,p2⟩
      exact .ptr h.nx 0 _ (Ren.upd_same _ _ _)
     |_=>simp [hg] at ha
end
end Go.AE
namespace Go.AE
variable [Gl:Au]
variable [U:Unk]
section
variable {E:Env} (hE:OK E) {ρ:Ren} {h:Aa} {w:World}
theorem Qu (b:Nat):∀(l:List Nat),Hw b l=l.toArray.contains b
 |[]=>by simp [Hw]
 |a::r=>by
  have h:=Qu b r;simp only [List.contains_toArray] at h ⊢;simp only [Hw,List.contains_cons,h];by_cases e:a=b
  ·subst e;simp
  ·rw [Dx e];simp [Ne.symm e]
theorem Nt (seen:List Nat):∀(es:List Ak) (es':List MapEntry),ER ρ es es'→ER ρ (Bb seen es) (es'.filter fun e=>!seen.toArray.contains e.born)
 |[],[],_=>trivial
 |e::r,e'::r',h=>by
  obtain ⟨h1,h2,h3,h4⟩:=h;have ih:=Nt seen r r' h4;unfold Bb;rw [List.filter_cons,h3,←Qu];cases Hw e.born seen with
  |true=>simp only [Bool.not_true,Bool.false_eq_true,if_false];exact ih
  |false=>simp only [Bool.not_false,if_true];exact ⟨h1,h2,h3,ih⟩
 |[],_::_,h=>h.elim
 |_::_,[],h=>h.elim
theorem Qp (since last:Nat):∀(es:List Ak) (es':List MapEntry),ER ρ es es'→IT since last es=true→∀e∈es',e.born<since∧e.born<last
 |[],[],_,_=>fun e he=>by cases he
 |e::r,e'::r',h,ho=>by
  obtain ⟨h1,h2,h3,h4⟩:=h;simp only [IT] at ho;obtain ⟨ho,o3⟩:=Am ho;obtain ⟨o1,o2⟩:=Am ho;intro x hx;rcases List.mem_cons.1 hx with rfl|hx
  ·rw [h3];exact ⟨FY o1,FY o2⟩
  ·exact Qp since last r r' h4 o3 x hx
 |[],_::_,h,_=>h.elim
 |_::_,[],h,_=>h.elim
theorem PC {α:Type} {p:α→Bool} {l:List α} (h:∀x∈l,p x=true):l.filter p=l:=List.filter_eq_self.2 h
theorem NN {α:Type} {p:α→Bool} {l:List α} (h:∀x∈l,p x=false):l.filter p=[]:=List.filter_eq_nil_iff.2 fun x hx=>by rw [h x hx];simp
theorem M2 (hr:HR ρ h.blk.get w) {r m since clock last:Nat} {seen:List Nat} {es:List Ak} {base:Bf} {fz:Option Nat} {ty:TypeId} (hb:ρ r=some base) (hg:h.blk.get r=some (.mapIter (some m) since seen last)) (hgm:h.blk.get m=some (.map es clock))
  (ho:IT since last es=true) :
  ∃es' l':List MapEntry,∃bm,ρ m=some bm∧base.co=0∧ER ρ (Bb seen es) l'∧(Instr.next (.pointer (some ⟨base.cb,base.co,fz⟩)) false ty).run E.P w=(do
   let candidates:=(if l'.toArray.isEmpty then #[none] else #[])++l'.toArray.map some
   match candidates[←choose (.mapNext candidates.size)]? with
   |some (some e)=>
    setObj base.cb (.mapIter (some bm.cb) since (seen.toArray.push e.born) clock)
    pure (.tuple #[.bool true,e.key,e.val])
   |some none=>pure (.tuple #[.bool false])
   |none=>stuck "Next: no such candidate" : Sem Value).run E.P w:=by
 obtain ⟨hc0,bm,hm,e1⟩:=hr.blk r base _ hb hg;have hget:=Ao (w:=w) E.P e1 (by simp)
 obtain ⟨es',m1,m2⟩:=hr.blk m bm _ hm hgm;have hgetm:=Ao (w:=w) E.P m1 (by simp)
 refine ⟨es',es'.filter fun e=>!seen.toArray.contains e.born,bm,hm,hc0,Nt seen es es' m2,?_⟩
 have hold:=Qp since last es es' m2 ho
 have g1:(!es'.toArray.isEmpty&&es'.toArray.all (fun e=>decide (e.born≥last)))=false:=by
  cases es' with
  |nil=>rfl
  |cons e r=>
   have:=(hold e (by simp)).2
   simp [show ¬last≤e.born by omega]
 have g2:(es'.toArray.filter fun e=>!seen.toArray.contains e.born)=(es'.filter fun e=>!seen.toArray.contains e.born).toArray:=by simp
 have g3:((es'.filter fun e=>!seen.toArray.contains e.born).toArray.filter fun e=>decide (e.born<since))=(es'.filter fun e=>!seen.toArray.contains e.born).toArray:=by
  rw [List.filter_toArray,PC];intro x hx;simpa using (hold x (List.mem_filter.1 hx).1).1
 have g4:((es'.filter fun e=>!seen.toArray.contains e.born).toArray.filter fun e=>decide (e.born≥since)) = #[]:=by
  rw [List.filter_toArray,NN];intro x hx;have:=(hold x (List.mem_filter.1 hx).1).1;simpa using this
 simp only [hc0,Instr.next,Sem.run_bind,hget,Result.andThen_ok,hgetm];rw [Bool.and_assoc,g1,Bool.and_false];simp only [Bool.false_eq_true,if_false,g2,g3,g4,Array.append_empty];simp only [Sem.run_bind];rfl
theorem LP {x y:AV} {xv yv:Value} (hx:VR ρ x xv) (hy:VR ρ y yv):VR ρ (.tuple [.bool true,x,y]) (.tuple #[.bool true,xv,yv]):=by
 have:=VL.cons (VR.bool (ρ:=ρ) true) (VL.cons hx (VL.cons hy (VL.nil ρ)));exact .tuple _ [.bool true,xv,yv] this.1 this.2
theorem OW:VR ρ (.tuple [.bool false]) (.tuple #[.bool false]):=by
 have:=VL.cons (VR.bool (ρ:=ρ) false) (VL.nil ρ);exact .tuple _ [.bool false] this.1 this.2
theorem Ju (hr:HR ρ h.blk.get w) {it a:AV} {iv:Value} {isS:Bool} {ty:TypeId} {h':Aa} (hi:VR ρ it iv) (ha:NW it isS h=some (a,h')) :
  AB E ρ h h' w (Instr.next iv isS ty) a:=by
 unfold NW at ha;cases hi<;>first | (cases ha;done)|skip
 rename_i r off base hb;cases off with
 |succ n=>cases ha
 |zero=>
  simp only [] at ha;cases hg:h.blk.get r with
  |none=>rw [hg] at ha;cases ha
  |some y=>
   rw [hg] at ha;cases y<;>first | (cases isS<;>(cases ha;done))|skip
   rotate_left
   ·rename_i l b p;cases isS with
    |false=>cases ha
    |true=>
     simp only [] at ha;obtain ⟨hc0,s,rfl,rfl,e1⟩:=hr.blk r base _ hb hg;have hget:=Ao (w:=w) E.P e1 (by simp)
     have hsz:s.size=s.data.toList.length:=Array.length_toList.symm;cases hp:Nat.blt p s.data.toList.length with
     |false=>
      rw [hp] at ha;simp only [Option.some.injEq,Prod.mk.injEq] at ha;obtain ⟨rfl,rfl⟩:=ha
      have hn:¬p<s.size:=by
       intro q;rw [hsz] at q;exact Nat.not_le_of_not_ble_eq_true (by rw [show Nat.ble (p+1) s.data.toList.length=false from hp];simp) q
      refine Ar hr ⟨_,?_,OW⟩;simp [Instr.next,hc0,hget,hn]
     |true=>
      rw [hp] at ha;have hlt:p<s.data.toList.length:=Nat.le_of_ble_eq_true hp;have hlt':p<s.size:=by rw [hsz];exact hlt
      simp only [Le hlt] at ha;cases hc:Nat.blt (s.data.toList[p]).toNat 128 with
      |false=>rw [hc] at ha;cases ha
      |true=>
       rw [hc] at ha;have hsmall:(s.data.toList[p]).toNat<128:=Nat.le_of_ble_eq_true hc;simp only [Option.some.injEq,Prod.mk.injEq] at ha;obtain ⟨rfl,rfl⟩:=ha
       have hgt:(s.get! (p+0)).toNat=(s.data.toList[p]).toNat:=by
        have:s.get! (p+0)=s.data.toList[p]:=by
         simp only [ByteArray.get!,Nat.add_zero];rw [getElem!_pos s.data p hlt'];rfl
        rw [this]
       have hdec:Utf8.decode s p=((s.data.toList[p]).toNat,1):=by
        unfold Utf8.decode;simp only [hgt];rw [if_pos (by omega)]
       obtain ⟨p1,p2⟩:=hr.setObj hb (by rw [hg];simp) (.strIter s.data.toList.length (As s.data.toList) (p+1)) (.stringIter s (p+1)) ⟨hc0,s,rfl,rfl,rfl⟩
       refine ⟨ρ,.tuple #[.bool true,goInt p,.int .i32 (s.data.toList[p]).toNat],_,?_,LP (.int .i64 p) (.int .i32 _),p1,p2⟩;simp only [Instr.next,hc0,Nat.add_zero,Sem.run_bind,hget,Result.andThen_ok,hlt',if_true,hdec];rw [At (w:=w) E.P e1 (by simp)]
       simp
   rename_i m since seen last;cases isS with
   |true=>cases m<;>cases ha
   |false=>
    cases m with
    |none=>
     simp only [Option.some.injEq,Prod.mk.injEq] at ha;obtain ⟨rfl,rfl⟩:=ha;obtain ⟨hc0,e1⟩:=hr.blk r base _ hb hg;have hget:=Ao (w:=w) E.P e1 (by simp)
     refine Ar hr ⟨_,?_,OW⟩;simp [Instr.next,hc0,hget]
    |some m=>
     simp only [] at ha;cases hgm:h.blk.get m with
     |none=>rw [hgm] at ha;cases ha
     |some ym=>
      rw [hgm] at ha;cases ym<;>first | (cases ha;done)|skip
      rename_i es clock;simp only [] at ha;cases ho:IT since last es with
      |false=>rw [ho] at ha;cases ha
      |true=>
       rw [ho] at ha;obtain ⟨es',l',bm,hm,hc0,hl,hrun⟩:=M2 (E:=E) hr (fz:=none) (ty:=ty) hb hg hgm ho;obtain ⟨_,_,_,e1⟩:=hr.blk r base _ hb hg;cases hq:Bb seen es with
       |nil=>
        rw [hq] at ha hl;simp only [Option.some.injEq,Prod.mk.injEq] at ha;obtain ⟨rfl,rfl⟩:=ha;cases l' with
        |cons=>exact hl.elim
        |nil=>
         refine Ar hr ⟨_,?_,OW⟩;rw [Nat.add_zero,hrun];simp [Question.forced]
       |cons e l=>
        rw [hq] at ha hl;cases l with
        |cons=>cases ha
        |nil=>
         cases l' with
         |nil=>exact hl.elim
         |cons e' l'=>
          obtain ⟨k1,k2,k3,hl⟩:=hl;cases l' with
          |cons=>exact hl.elim
          |nil=>
           simp only [Lg,Option.some.injEq,Prod.mk.injEq] at ha;obtain ⟨rfl,rfl⟩:=ha;obtain ⟨p1,p2⟩:=hr.setObj hb (by rw [hg];simp) (.mapIter (some m) since (seen++[e.born]) clock) (.mapIter (some bm.cb) since (seen++[e.born]).toArray clock) ⟨hc0,bm,hm,rfl⟩
           refine ⟨ρ,.tuple #[.bool true,e'.key,e'.val],_,?_,LP k1 k2,p1,p2⟩;rw [Nat.add_zero,hrun,←k3];simp [Question.forced,At (w:=w) E.P e1 (by simp)]
theorem Jq (hr:HR ρ h.blk.get w) {it:AV} {iv:Value} {ty:TypeId} {l:List (AV×Aa)} (hi:VR ρ it iv) (ha:Jk it h=some l) :
  ∃p∈l,AB E ρ h p.2 w (Instr.next iv false ty) p.1:=by
 unfold Jk at ha;cases hi<;>first | (cases ha;done)|skip
 rename_i r off base hb;cases off with
 |succ n=>cases ha
 |zero=>
  simp only [] at ha;cases hg:h.blk.get r with
  |none=>rw [hg] at ha;cases ha
  |some y=>
   rw [hg] at ha;cases y<;>first | (cases ha;done)|skip
   rename_i m since seen last;cases m with
   |none=>cases ha
   |some m=>
    simp only [] at ha;cases hgm:h.blk.get m with
    |none=>rw [hgm] at ha;cases ha
    |some ym=>
     rw [hgm] at ha;cases ym<;>first | (cases ha;done)|skip
     rename_i es clock;simp only [] at ha;cases ho:IT since last es with
     |false=>rw [ho] at ha;cases ha
     |true=>
      rw [ho] at ha;obtain ⟨es',l',bm,hm,hc0,hl,hrun⟩:=M2 (E:=E) hr (fz:=none) (ty:=ty) hb hg hgm ho;obtain ⟨_,bm',hm',e1⟩:=hr.blk r base _ hb hg;cases hq:Bb seen es with
      |nil=>rw [hq] at ha;cases ha
      |cons a1 l1=>
       cases l1 with
       |nil=>rw [hq] at ha;cases ha
       |cons a2 l1=>
        rw [hq] at ha hl;simp only [Option.some.injEq] at ha
        have hlen:∀(l:List Ak) (l':List MapEntry),ER ρ l l'→l'.length=l.length∧∀(i:Nat) (e':MapEntry),l'[i]?=some e'→∃e,l[i]?=some e∧VR ρ e.key e'.key∧VR ρ e.val e'.val∧e'.born=e.born:=by
         intro l
         induction l with
         |nil=>intro l' h;cases l' with
          |nil=>exact ⟨rfl,fun i e' he=>by simp at he⟩
          |cons=>exact h.elim
         |cons a l ih=>
          intro l' h;cases l' with
          |nil=>exact h.elim
          |cons a' l'=>
           obtain ⟨x1,x2,x3,x4⟩:=h;obtain ⟨y1,y2⟩:=ih l' x4;refine ⟨by simp [y1],fun i e' he=>?_⟩
           cases i with
           |zero=>simp only [List.getElem?_cons_zero,Option.some.injEq] at he;subst he;exact ⟨a,rfl,x1,x2,x3⟩
           |succ i=>exact y2 i e' (by simpa using he)
        obtain ⟨n1,n2⟩:=hlen _ _ hl;have hne:l'≠[]:=by intro q;subst q;simp at n1
        have hcand:(if l'.toArray.isEmpty then #[none] else #[])++l'.toArray.map some=(l'.map some).toArray:=by
         cases l' with
         |nil=>exact absurd rfl hne
         |cons=>simp
        have hsz:(l'.map some).toArray.size=l1.length+2:=by simp [n1]
        generalize hi:(w.tape w.drawn (.mapNext (l1.length+2)))%(l1.length+2)=i at *;have hilt:i<l1.length+2:=by rw [←hi];exact Nat.mod_lt _ (by omega)
        have hilt':i<l'.length:=by rw [n1];simpa using hilt
        obtain ⟨e,h1,k1,k2,k3⟩:=n2 i l'[i] (List.getElem?_eq_getElem hilt');refine ⟨Lg r m since clock seen h e,?_,?_⟩
        ·rw [←ha];exact List.mem_map.2 ⟨e,List.mem_of_getElem? h1,rfl⟩
        ·have hr1:HR ρ h.blk.get {w with drawn:=w.drawn+1}:=hr.same rfl
         obtain ⟨p1,p2⟩:=hr1.setObj hb (by rw [hg];simp) (.mapIter (some m) since (seen++[e.born]) clock) (.mapIter (some bm.cb) since (seen++[e.born]).toArray clock) ⟨hc0,bm,hm,rfl⟩
         refine ⟨ρ,.tuple #[.bool true,l'[i].key,l'[i].val],_,?_,LP k1 k2,p1,p2.drawn rfl rfl rfl rfl⟩;rw [Nat.add_zero,hrun];simp only [hcand,hsz]
         have hch:(choose (.mapNext (l1.length+2))).run E.P w=.ok i {w with drawn:=w.drawn+1}:=by
          rw [run_choose,if_neg (by simp [Question.forced])]
          simp only [Question.cut,hi]
         have hel:(l'.map some).toArray[i]?=some (some l'[i]):=by simp [hilt']
         have hs:=At (w:={w with drawn:=w.drawn+1}) (o':=.mapIter (some bm.cb) since (seen++[e.born]).toArray clock) E.P e1 (by simp)
         have hpush:seen.toArray.push e.born=(seen++[e.born]).toArray:=by simp
         simp only [Sem.run_bind,hch,Result.andThen_ok,hel,k3,hpush];rw [hs];rfl
theorem NF:∀(l:List Nat) (n:Nat),Sl l=some n→l.toArray.back?=some n
 |[],n,h=>by cases h
 |[a],n,h=>by cases h;rfl
 |a::b::r,n,h=>by
  have:=NF (b::r) n h;simpa using this
theorem JR (n:Nat):∀(es:List Ak) (es':List MapEntry) (e:Ak),ER ρ es es'→NP n es=some e→∃e',es'.toArray.find? (fun x=>x.born==n)=some e'∧VR ρ e.key e'.key∧VR ρ e.val e'.val
 |[],_,_,_,h=>by cases h
 |_::_,[],_,h,_=>h.elim
 |a::r,a'::r',e,h,hb=>by
  obtain ⟨x1,x2,x3,x4⟩:=h;unfold NP at hb;cases q:Nat.beq a.born n with
  |true=>
   rw [q] at hb;cases hb;exact ⟨a',by simp [x3,Aq q],x1,x2⟩
  |false=>
   rw [q] at hb;obtain ⟨e',y1,y2⟩:=JR n r r' e x4 hb;refine ⟨e',?_,y2⟩;have:(a'.born==n)=false:=by rw [x3];simpa using NI q
   simpa [this] using y1
theorem KP (hr:HR ρ h.blk.get w) {it a:AV} {iv:Value} (hi:VR ρ it iv) (ha:Gh it h=some a) :
  ∃v,(Instr.entry iv).run E.P w=.ok v w∧VR ρ a v:=by
 unfold Gh at ha;cases hi<;>first | (cases ha;done)|skip
 rename_i r off base hb;cases off with
 |succ n=>cases ha
 |zero=>
  simp only [] at ha;cases hg:h.blk.get r with
  |none=>rw [hg] at ha;cases ha
  |some y=>
   rw [hg] at ha;cases y<;>first | (cases ha;done)|skip
   rename_i m since seen last;cases m with
   |none=>cases ha
   |some m=>
    simp only [] at ha;split at ha
    ·rename_i n es clock hn hgm;split at ha
     ·rename_i e hc he;cases ha;obtain ⟨hc0,bm,hm,e1⟩:=hr.blk r base _ hb hg;have hget:=Ao (w:=w) E.P e1 (by simp)
      obtain ⟨es',m1,m2⟩:=hr.blk m bm _ hm hgm;have hgetm:=Ao (w:=w) E.P m1 (by simp)
      obtain ⟨e',y1,k1,k2⟩:=JR n es es' e m2 he;have c1:=Aq hc;have hv:=VL.cons k1 (VL.cons k2 (VL.nil ρ));refine ⟨.tuple #[e'.key,e'.val],?_,.tuple _ [e'.key,e'.val] hv.1 hv.2⟩;simp only [Nat.add_zero,Instr.entry,hc0,Sem.run_bind,hget,Result.andThen_ok,NF seen n hn,hgetm,c1,bne_self_eq_false,Bool.false_eq_true,if_false,y1,Sem.run_pure]
     ·cases ha
    ·cases ha
theorem Hp {nt:Nat} {tmps:T AV} {tm:Array Value} (ht:TR ρ nt tmps tm) (o:Operand):VR ρ (Ah tmps o) (match o with
  |.tmp t=>tm.getD t Go.undef
  |.const v=>v
  |.global g=>.pointer (some ⟨g,0,none⟩)
  |.func f=>.func (.func f) #[] #[]):=by
 cases o with
 |tmp t=>
  simp only [Ah];cases hg:tmps.get t with
  |none=>exact .top _
  |some a=>exact ht.get t a hg
 |const v=>
  simp only [Ah];cases hv:ofValue v with
  |none=>exact .top v
  |some a=>exact Ay ρ hv
 |global g=>exact .glob g 0
 |func f=>exact .func _ _ [] [] [] [] rfl rfl (by simp) rfl (by simp)
def EvR (ρ:Ren) (tmps:T AV) (ev:Operand→Value):Prop:=∀o,VR ρ (Ah tmps o) (ev o)
theorem EvR.list {tmps:T AV} {ev:Operand→Value} (hev:EvR ρ tmps ev):∀(l:List Operand),VL ρ (l.map (Ah tmps)) (l.map ev)
 |[]=>VL.nil ρ
 |o::l=>VL.cons (hev o) (EvR.list hev l)
theorem EvR.parts {tmps:T AV} {ev:Operand→Value} (hev:EvR ρ tmps ev):∀(l:List (Nat×Operand)),PL ρ (l.map fun (i,x)=>(i,Ah tmps x)) (l.map fun (i,x)=>(i,ev x))
 |[]=>trivial
 | (i,x)::l=>⟨rfl,hev x,EvR.parts hev l⟩
end
end Go.AE
namespace Go.AE
variable [Gl:Au]
variable [U:Unk]
def DQ (E:Env) (ρ:Ren) (h:Aa) (w:World) (s:Sem Next):Res→Prop
 |.val v h'=>Ax ρ h.nx h'.nx→∃σ v' w',(s.run E.P w=.ok (.value v') w'∨(s.run E.P w=.ok .skip w'∧v'=Go.undef))∧VR σ v v'∧HR σ h'.blk.get w'∧Ext ρ σ h h' w w'
 |.enter f args h'=>h'=h∧∃args':List Value,VL ρ args args'∧s.run E.P w=.ok (.enter f args'.toArray) w
 |.round l args h'=>h'=h∧∃base,∃args':List Value,ρ l=some base∧VL ρ args args'∧s.run E.P w=(Instr.yield base.cb args'.toArray).run E.P w
 |.defer d h'=>h'=h∧∃d',DR ρ d d'∧s.run E.P w=.ok (.defer d') w
 |.recover h'=>h'=h∧s.run E.P w=.ok .recover w
 |.panic v h'=>h'=h∧∃v',VR ρ v v'∧s.run E.P w=.halt (.panic v') w
 |.bad _=>True
section
variable {E:Env} (hE:OK E) {ρ:Ren} {h:Aa} {w:World}
theorem Bl {s:Sem Value} {why:String} {o:Option (AV×Aa)} (ho:∀a h',o=some (a,h')→Ax ρ h.nx h'.nx→AB E ρ h h' w s a) :
  DQ E ρ h w (do pure (.value (←s))) (CA why o):=by
 cases o with
 |none=>trivial
 |some p=>
  obtain ⟨a,h'⟩:=p;intro hf;obtain ⟨σ,v,w',q1,q2,q3,q4⟩:=ho a h' rfl hf;exact ⟨σ,v,w',.inl (by simp [q1]),q2,q3,q4⟩
theorem AY (hr:HR ρ h.blk.get w) {s:Sem Value} {why:String} {o:Option AV} (ho:∀a,o=some a→∃v,s.run E.P w=.ok v w∧VR ρ a v) :
  DQ E ρ h w (do pure (.value (←s))) (Bv h why o):=by
 cases o with
 |none=>trivial
 |some a=>
  intro hf;obtain ⟨v,q1,q2⟩:=ho a rfl;exact ⟨ρ,v,w,.inl (by simp [q1]),q2,hr,Ext.refl ρ h w⟩
theorem Ia {s:Sem Unit} {why:String} {o:Option Aa} (ho:∀h',o=some h'→∃w',s.run E.P w=.ok () w'∧HR ρ h'.blk.get w'∧Ext ρ ρ h h' w w') :
  DQ E ρ h w (do s;pure .skip) (DA why o):=by
 cases o with
 |none=>trivial
 |some h'=>
  intro hf;obtain ⟨w',q1,q2,q3⟩:=ho h' rfl;exact ⟨ρ,Go.undef,w',.inr ⟨by simp [q1],rfl⟩,VR.undef ρ,q2,q3⟩
theorem F6 (c:UInt8):∀(l:List UInt8),CG c.toNat l.length (As l)=l.count c
 |[]=>rfl
 |x::l=>by
  obtain ⟨h1,h2⟩:=Dq x l;simp only [List.length_cons,CG,h1,h2];rw [F6 c l,List.count_cons];by_cases e:x=c
  ·subst e;simp
  ·have e1:Nat.beq x.toNat c.toNat=false:=Dx (fun q=>e (UInt8.toNat_inj.1 q))
   have e2:(x==c)=false:=by simpa using e
   rw [e1,e2];simp
include hE
theorem OI (hr:HR ρ h.blk.get w) {f:FuncId} {fn:Func} (hfn:E.fn.get f=some fn) (hb:fn.body=none) {args:List AV} {args':List Value} (ha:VL ρ args args') :
  DQ E ρ h w (callFunc f args'.toArray) (GR fn.name args h):=by
 have hfun:=hE.fn f fn hfn;have hnum:=hE.num f fn hfn;unfold GR;split
 ·rename_i hn;obtain ⟨c1,c2⟩:=hE.clone f fn hfn hb hn;split
  ·rename_i t r;obtain ⟨v,l,rfl,hv,hl⟩:=ha.cons_inv;have:=hl.nil_inv;subst this;cases hv with
   |iface t a v hv=>
    cases hv with
    |map b base hbs=>
     cases hg:h.blk.get r with
     |none=>trivial
     |some y=>
      cases y with
      |map es clock=>
       intro hf;obtain ⟨es',e1,e2⟩:=hr.blk r base _ hbs hg;have hget:=Ao (w:=w) E.P e1 (by simp)
       have hfree:ρ h.nx=none:=hf h.nx (Nat.le_refl _) (by simp [Aa.new])
       obtain ⟨p1,p2⟩:=hr.new hfree (.map es clock) (.map es'.toArray clock) 0 ⟨es',rfl,e2.mono (Ren.le_upd hfree _)⟩ {w with heap:=w.heap.push (.map es'.toArray clock)} rfl rfl rfl rfl
       refine ⟨_,.iface t (.map (some w.heap.size)),_,.inl ?_,?_,p1,p2⟩
       ·simp only [callFunc,Sem.run_bind,run_program,Result.andThen_ok,hfun,hnum,hb,Option.isNone_none,Bool.false_eq_true,if_false,if_true,run_mark,c1,c2]
        have hcl:Extern.MapsClone.clone #[.iface t (.map (some base.cb))]=(do
          let .map entries clock ←getObj base.cb|stuck "maps.clone: a map expected"
          pure (.iface t (.map (some (←newObj (.map entries clock)))))):=rfl
        show ((Extern.MapsClone.clone #[.iface t (.map (some base.cb))]).run E.P w).andThen _=_;rw [hcl];simp only [Sem.run_bind,hget,Result.andThen_ok,run_newObj,Sem.run_pure]
       ·exact .iface t _ _ (.map h.nx _ (Ren.upd_same _ _ _))
      |dmap kt vt x=>
       intro hf;obtain ⟨kks,vks,es',clock,k1,k2,e1,e2,e3⟩:=hr.blk r base _ hbs hg;have hget:=Ao (w:=w) E.P e1 (by simp)
       have hfree:ρ h.nx=none:=hf h.nx (Nat.le_refl _) (by simp [Aa.new])
       obtain ⟨p1,p2⟩:=hr.new hfree (.dmap kt vt x) (.map es'.toArray clock) 0 ⟨kks,vks,es',clock,k1,k2,rfl,e2,e3⟩ {w with heap:=w.heap.push (.map es'.toArray clock)} rfl rfl rfl rfl
       refine ⟨_,.iface t (.map (some w.heap.size)),_,.inl ?_,?_,p1,p2⟩
       ·simp only [callFunc,Sem.run_bind,run_program,Result.andThen_ok,hfun,hnum,hb,Option.isNone_none,Bool.false_eq_true,if_false,if_true,run_mark,c1,c2]
        have hcl:Extern.MapsClone.clone #[.iface t (.map (some base.cb))]=(do
          let .map entries clock ←getObj base.cb|stuck "maps.clone: a map expected"
          pure (.iface t (.map (some (←newObj (.map entries clock)))))):=rfl
        show ((Extern.MapsClone.clone #[.iface t (.map (some base.cb))]).run E.P w).andThen _=_;rw [hcl];simp only [Sem.run_bind,hget,Result.andThen_ok,run_newObj,Sem.run_pure]
       ·exact .iface t _ _ (.map h.nx _ (Ren.upd_same _ _ _))
      |_=>trivial
  ·trivial
 ·rename_i hn;obtain ⟨c1,c2⟩:=hE.ixb f fn hfn hb hn;split
  ·rename_i l b c;cases hc256:Nat.blt c 256 with
   |false=>trivial
   |true=>
   intro hf;have hclt:=FY hc256;obtain ⟨v,r,rfl,hv,hl⟩:=ha.cons_inv;obtain ⟨v2,r2,rfl,hv2,hl2⟩:=hl.cons_inv;have:=hl2.nil_inv;subst this;cases hv;cases hv2;rename_i s;refine ⟨ρ,.int .i64 (CR c s.data.toList.length (As s.data.toList) 0),w,.inl ?_,.int _ _,hr,Ext.refl ρ h w⟩;simp only [callFunc,Sem.run_bind,run_program,Result.andThen_ok,hfun,hnum,hb,Option.isNone_none,Bool.false_eq_true,if_false,if_true,run_mark,c1,c2]
   have hcl:Extern.BytealgIndexByte.indexByte #[.string s,.int .u8 (Int.ofNat c)]=(do
     let b ←Extern.Bytes.bytesOf (.string s)
     let c ←Extern.Bytes.asByte (.int .u8 (Int.ofNat c))
     match (List.range b.size).find? fun i=>b[i]! == c with
     |some i=>pure (goInt i)
     |none=>pure (goInt (-1))):=rfl
   show ((Extern.BytealgIndexByte.indexByte #[.string s,.int .u8 (Int.ofNat c)]).run E.P w).andThen _=_;rw [hcl];have hix:=F3 (Nat.toUInt8 c) s s.size 0 (by omega)
   have hc:(Nat.toUInt8 c).toNat=c:=by
    simp [Nat.toUInt8];omega
   have hlen:s.data.toList.length=s.size:=by simp
   rw [hc,List.drop_zero] at hix;rw [hlen,hix,←List.range_eq_range'];simp only [Sem.run_bind,Extern.Bytes.bytesOf,Extern.Bytes.asByte,Sem.run_pure,Result.andThen_ok,Int.ofNat_eq_natCast,Int.toNat_natCast];cases (List.range s.size).find? (fun i=>s[i]! == Nat.toUInt8 c)<;>simp [goInt]
  ·trivial
 ·rename_i hn;obtain ⟨c1,c2⟩:=hE.cnt f fn hfn hb hn;split
  ·rename_i l b c;cases hc256:Nat.blt c 256 with
   |false=>trivial
   |true=>
   intro hf;have hclt:=FY hc256;obtain ⟨v,r,rfl,hv,hl⟩:=ha.cons_inv;obtain ⟨v2,r2,rfl,hv2,hl2⟩:=hl.cons_inv;have:=hl2.nil_inv;subst this;cases hv;cases hv2;rename_i s;refine ⟨ρ,.int .i64 (CG c s.data.toList.length (As s.data.toList):Nat),w,.inl ?_,.int _ _,hr,Ext.refl ρ h w⟩;simp only [callFunc,Sem.run_bind,run_program,Result.andThen_ok,hfun,hnum,hb,Option.isNone_none,Bool.false_eq_true,if_false,if_true,run_mark,c1,c2]
   have hc:(Nat.toUInt8 c).toNat=c:=by
    simp [Nat.toUInt8];omega
   have hix:=F6 (Nat.toUInt8 c) s.data.toList;rw [hc] at hix;show ((Extern.BytealgCount.count #[.string s,.int .u8 (Int.ofNat c)]).run E.P w).andThen _=_;rw [Go.Lib.run_countString,hix];rfl
  ·trivial
 ·trivial
theorem Nc (hr:HR ρ h.blk.get w) {f:FuncId} {args:List AV} {args':List Value} (ha:VL ρ args args'):DQ E ρ h w (callFunc f args'.toArray) (Hd E f args h):=by
 unfold Hd;cases hf:E.fn.get f with
 |none=>trivial
 |some fn=>
  cases hb:fn.body with
  |none=>simp only [];rw [hb];exact OI hE hr hf hb ha
  |some c=>
   simp only [];rw [hb];refine ⟨rfl,args',ha,?_⟩;simp only [callFunc,Sem.run_bind,run_program,Result.andThen_ok,hE.fn f fn hf,hE.num f fn hf,hb,Option.isNone_some,Bool.false_eq_true,if_false,Sem.run_pure]
theorem Ds (hr:HR ρ h.blk.get w) {fn fn':Fn} {captured args:List AV} {captured' args':List Value} (hfn:FnR ρ fn fn') (hc:VL ρ captured captured') (ha:VL ρ args args') :
  DQ E ρ h w (invoke (.fn fn' captured'.toArray) args'.toArray) (Bz E fn captured args h):=by
 cases fn with
 |func f=>
  simp only [FnR] at hfn;subst hfn;simp only [Bz,invoke];have:=Nc (w:=w) hE hr (f:=f) (ha.append hc);simpa using this
 |yield l=>
  obtain ⟨base,hb,rfl⟩:=hfn;simp only [Bz];exact ⟨rfl,base,args',hb,ha,rfl⟩
 |methodOf t name=>trivial
 |via t path f ptr=>trivial
 |method name=>
  simp only [FnR] at hfn;subst hfn;simp only [Bz];cases args with
  |nil=>trivial
  |cons a rest=>
   cases a<;>try trivial
   rename_i t v;simp only [];cases hi:E.ty.get t with
   |none=>trivial
   |some inf=>
    simp only [];cases hm:inf.methods.toList.find? (fun m=>m.name==name) with
    |none=>trivial
    |some m=>
     simp only [];cases hp:m.path.isEmpty with
     |false=>cases m.func<;>trivial
     |true=>
      cases hfu:m.func with
      |none=>trivial
      |some p=>
       obtain ⟨f,ptr⟩:=p;simp only [];obtain ⟨vv,rest',rfl,hvv,hrest⟩:=ha.cons_inv;cases hvv with
       |iface t a v' hv=>
        have hfuel:∃k,E.P.types.size+Made.depth=k+1:=⟨E.P.types.size+99,rfl⟩
        obtain ⟨k,hk⟩:=hfuel;have hpath:m.path.toList=[]:=by simpa using hp
        have hm':inf.methods.find? (fun m=>m.name==name)=some m:=by rw [←hm];simp
        have core:(∀d,E.desc t=some d→((∃e,d=.pointer e)→ptr=true)→((¬∃e,d=.pointer e)→ptr=false)→(method (k+1) t v' name).run E.P w=.ok (f,v') w):=by
         intro d hd h1 h2;have hu:=hE.run_und hd w;simp only [method,Sem.run_bind,hE.run_info hi,Result.andThen_ok,hm',hpath,follow,Sem.run_pure,hfu,receiverAt,hu]
         cases d<;>first
          | (have:=h1 ⟨_,rfl⟩;subst this;simp [Place.get])
          | (have:=h2 (by simp);subst this;simp [Place.get])
        have fin:(method (k+1) t v' name).run E.P w=.ok (f,v') w→DQ E ρ h w (invoke (.fn (.method name) captured'.toArray) (Value.iface t v'::rest').toArray) (Hd E f (v::rest) h):=by
         intro hq;have hcall:=Nc (w:=w) hE hr (f:=f) (VL.cons hv hrest)
         have hrun:∀r,(callFunc f (v'::rest').toArray).run E.P w=r→(invoke (.fn (.method name) captured'.toArray) (Value.iface t v'::rest').toArray).run E.P w=r:=by
          intro r hr';rw [←hr'];simp only [invoke,List.getElem?_toArray,List.getElem?_cons_zero,callMethod,Sem.run_bind,run_program,Result.andThen_ok,hk,hq];simp
         unfold DQ at hcall ⊢;cases hres:Hd E f (v::rest) h with
         |val x h'=>
          rw [hres] at hcall;intro hf;obtain ⟨σ,x',w',q1,q2⟩:=hcall hf;exact ⟨σ,x',w',q1.imp (hrun _) (fun q=>⟨hrun _ q.1,q.2⟩),q2⟩
         |enter g as h'=>rw [hres] at hcall;obtain ⟨q0,as',q1,q2⟩:=hcall;exact ⟨q0,as',q1,hrun _ q2⟩
         |round l as h'=>rw [hres] at hcall;obtain ⟨q0,b,as',q1,q2,q3⟩:=hcall;exact ⟨q0,b,as',q1,q2,hrun _ q3⟩
         |defer d h'=>rw [hres] at hcall;obtain ⟨q0,d',q1,q2⟩:=hcall;exact ⟨q0,d',q1,hrun _ q2⟩
         |recover h'=>rw [hres] at hcall;exact ⟨hcall.1,hrun _ hcall.2⟩
         |panic x h'=>rw [hres] at hcall;obtain ⟨q0,x',q1,q2⟩:=hcall;exact ⟨q0,x',q1,hrun _ q2⟩
         |bad why=>trivial
        cases hd:E.desc t with
        |none=>trivial
        |some d=>
         cases d<;>cases ptr<;>first
          |trivial
          |exact fin (core _ hd (by simp) (by simp))
end
end Go.AE
namespace Go.AE
variable [Gl:Au]
variable [U:Unk]
theorem Hm {e:SB} (h:JK e=true):Ai U.V e=true:=by
 unfold JK at h;split at h
 ·rename_i hd;exact An U.ok hd
 ·cases h
theorem GZ {e:SB} (h:OH e=true):Ai U.V e=false:=by
 unfold OH at h;split at h
 ·rename_i hd;exact An U.ok hd
 ·cases h
theorem Ky {i n:SE} (h:inR i n=true):0≤Ag U.V i∧Ag U.V i<Ag U.V n:=by
 unfold inR at h;obtain ⟨h1,h2⟩:=Am h;have a:=GZ h1;have b:=Hm h2;rw [Ap,decide_eq_false_iff_not,Bn] at a;rw [Ap,decide_eq_true_eq] at b;omega
theorem H0 {ρ:Ren} {x i:SE} {j:Nat} {kd:Kd} {v:Value} (h:DV U.K ρ.imm kd v (Af U.V (.cell x i j))):VR ρ (Ib x i j kd) v:=by
 cases h with
 |int k n _ hr e=>
  have e:Ag U.V (.cell x i j)=n:=e;simp only [Ib];split
  ·have:=B3 ρ k (.cell x i j);rw [e] at this;exact this
  ·rename_i hk;have hb:=hr.resolve_left (by simpa using hk)
   have:=B3 ρ k (.conv k (.cell x i j));rw [JC,e,Fj k n hb.1 hb.2] at this;exact this
 |bool b _ e=>
  have:=Fh ρ true (.cell x i j);have e:(Ai U.V (.cell x i j)==true)=b:=by unfold Ai;rw [e];cases b<;>rfl
  rw [e] at this;exact this
 |str s _ e=>
  have:=VR.ss (ρ:=ρ) (.cell x i j);have e:AG U.V (.cell x i j)=s:=e;rw [e] at this;exact this
 |nil e _ h1 h2=>exact .dat e _ _ _ _ (.nil e _ h1 h2)
 |empty e a cap _ h1 h2=>exact .dat e _ _ _ _ (.empty e a cap _ h1 h2)
 |slc e b off n cap _ ks arr hk ha hn hc h1 hin hrow hv=>exact .dat e _ _ _ _ (.slc e b off n cap _ ks arr hk ha hn hc h1 hin hrow hv)
omit U in
theorem kinds_size {E:Env} {ar:Bool} {n:Nat} {t:TypeId} {ks:List Kd} (h:C9 ar E.desc E.szIs n t=some ks):E.szIs t ks.length=true∧∃m,n=m+1∧HU ar E.szIs (C9 ar E.desc E.szIs m) (E.desc t)=some ks:=by
 cases n with
 |zero=>cases h
 |succ m=>
  simp only [C9] at h;split at h
  ·rename_i l hl;split at h
   ·rename_i hs;cases h;exact ⟨hs,m,rfl,hl⟩
   ·cases h
  ·cases h
omit U in
theorem Env.kinds_size {E:Env} {t:TypeId} {ks:List Kd} (h:E.kinds t=some ks):E.szIs t ks.length=true:=(AE.kinds_size h).1
omit U in
theorem DV.at {K:TypeId→Option (List Kd)} {M:Nat→Option (Array Value)} {e:TypeId} {a:Option Addr} {n cap:Nat} {d:D} (h:DV K M (.slice e) (.slice a n cap) d) (hn:0<n):∃b o,a=some ⟨b,o,none⟩∧n≤cap:=by
 cases h
 ·omega
 ·omega
 ·exact ⟨_,_,rfl,by assumption⟩
omit U in
theorem DV.row {K:TypeId→Option (List Kd)} {M:Nat→Option (Array Value)} {e:TypeId} {b o n cap i:Nat} {d:D} {ks:List Kd} (h:DV K M (.slice e) (.slice (some ⟨b,o,none⟩) n cap) d) (hk:K e=some ks) (hi:i<n) :
  ∃arr,M b=some arr∧o+n*ks.length≤arr.size∧d.rows.length=n∧∀j kd,ks[j]?=some kd→DV K M kd (arr.getD (o+i*ks.length+j) Go.undef) ((d.rows.getD i default).cells.getD j default):=by
 cases h with
 |empty=>omega
 |slc _ _ _ _ _ _ ks' arr hk' ha hn hc h1 hin hrow hv=>
  rw [hk] at hk';cases hk';exact ⟨arr,ha,hin,hn,fun j kd hj=>hv i j kd hi hj⟩
omit U in
theorem A6.row {K:TypeId→Option (List Kd)} {M:Nat→Option (Array Value)} {ks:List Kd} {cur:Array Value} {o i:Nat} {rows:List D} (h:A6 K M ks cur o rows) (hi:i<rows.length) :
  o+rows.length*ks.length≤cur.size∧∀j kd,ks[j]?=some kd→DV K M kd (cur.getD (o+i*ks.length+j) Go.undef) ((rows.getD i default).cells.getD j default):=
 ⟨h.1,fun j kd hj=>h.2.2 i j kd hi hj⟩
section
variable {E:Env} (hE:OK E) {ρ:Ren} {h:Aa} {w:World}
include hE
omit hE in
theorem Gv {ks:List Kd} {y i:SE} {arr:Array Value} {p:Nat} (hv:∀j kd,ks[j]?=some kd→DV U.K ρ.imm kd (arr.getD (p+j) Go.undef) (Af U.V (.cell y i j))) :
  ∀(n j:Nat) (l:List AV),FC y i ks j n=some l→(n=0∨j+n≤ks.length)∧l.length=n∧∀q a,l[q]?=some a→VR ρ a (arr.getD (p+j+q) Go.undef)
 |0,j,l,hl=>by
  simp only [FC,Option.some.injEq] at hl;subst hl;exact ⟨.inl rfl,rfl,fun q a hq=>by simp at hq⟩
 |n+1,j,l,hl=>by
  simp only [FC] at hl;split at hl
  ·rename_i k l' hk hl';cases hl;obtain ⟨h1,h2,h3⟩:=Gv hv n (j+1) l' hl';have hjl:j<ks.length:=(List.getElem?_eq_some_iff.1 hk).1;refine ⟨.inr (by omega),by simp [h2],fun q a hq=>?_⟩
   cases q with
   |zero=>
    simp only [List.getElem?_cons_zero,Option.some.injEq] at hq;subst hq;exact H0 (hv j k hk)
   |succ q=>
    simp only [List.getElem?_cons_succ] at hq;have:=h3 q a hq;rw [show p+j+(q+1)=p+(j+1)+q by omega]
    exact this
  ·cases hl
theorem JF {t e:TypeId} {ks:List Kd} {y i:SE} {off b p:Nat} {fz:Nat×Nat} {arr:Array Value} {a:AV} (hb:w.heap[b]?=some (.cells arr e fz)) (hsz:p+ks.length≤arr.size)
  (hv:∀j kd,ks[j]?=some kd→DV U.K ρ.imm kd (arr.getD (p+j) Go.undef) (Af U.V (.cell y i j))) (hl:Je E t ks y i off=some a) :
  ∃v,(Instr.loadAt t (.pointer (some ⟨b,p+off,none⟩))).run E.P w=.ok v w∧VR ρ a v:=by
 unfold Je at hl;split at hl
 ·rename_i d hd;unfold Instr.loadAt loadVar;simp only [Instr.sureAddr,Sem.run_bind,Sem.run_pure,Result.andThen_ok,hE.run_isAgg hd];split at hl
  ·rename_i hag;split at hl
   ·rename_i l hc;cases hl;obtain ⟨h1,h2,h3⟩:=Gv hv _ _ _ hc;simp only [hag,if_true,Sem.run_bind,hE.run_size hd,Result.andThen_ok];by_cases hz:E.size t=0
    ·rw [hz];refine ⟨.agg #[],by simp [loadCells,loadCellsFrom],?_⟩
     have:l=[]:=by rw [hz] at h2;exact List.eq_nil_of_length_eq_zero h2
     subst this;exact .agg [] [] rfl (by simp)
    ·have hle:off+E.size t≤ks.length:=h1.resolve_left hz;rw [Av E.P w b (p+off) (E.size t) arr e fz hb (by omega)]
     simp only [Result.andThen_ok,Sem.run_pure];refine ⟨_,rfl,.agg _ _ (by simp;omega) ?_⟩
     intro q x v hq hqv;have hql:q<E.size t:=by have:=(List.getElem?_eq_some_iff.1 hq).1;omega
     have:=h3 q x hq;rw [List.getElem?_take,if_pos hql,List.getElem?_drop,Array.getElem?_toList] at hqv;have ev:arr.getD (p+off+q) Go.undef=v:=by simp [Array.getD_eq_getD_getElem?,hqv]
     rw [ev] at this;exact this
   ·cases hl
  ·rename_i hag;split at hl
   ·rename_i k hk;cases hl;have hkl:off<ks.length:=(List.getElem?_eq_some_iff.1 hk).1;have hlt:p+off<arr.size:=by omega
    have hc:w.cell? ⟨b,p+off,none⟩=some (arr.getD (p+off) Go.undef):=by
     simp [World.cell?,hb,Array.getD_eq_getD_getElem?,hlt]
    simp only [hag,Bool.false_eq_true,if_false,run_load,hc];exact ⟨_,rfl,H0 (hv off k hk)⟩
   ·cases hl
 ·cases hl
theorem Sd (hr:HR ρ h.blk.get w) {t:TypeId} {x a:AV} {xv:Value} (hx:VR ρ x xv) (hl:Qq E t x h=some a) :
  ∃v,(Instr.loadAt t xv).run E.P w=.ok v w∧VR ρ a v:=by
 unfold Qq at hl;split at hl
 ·rename_i e y i off;split at hl
  ·rename_i ks hk;cases hx with
   |dptr _ _ _ _ b o n cap ks' hd hk' h0 hi ho=>
    have hk2:U.K e=some ks:=by rw [hE.kd,←hE.ke];exact hk
    rw [hk2] at hk';cases hk';obtain ⟨arr,a1,a2,a3,a4⟩:=hd.row hk2 hi;obtain ⟨et,fz,hw⟩:=hr.imm b arr a1;have hle:((Ag U.V i).toNat+1)*ks.length≤n*ks.length:=Nat.mul_le_mul_right _ hi;rw [Nat.add_mul,Nat.one_mul] at hle;exact JF hE (p:=o+(Ag U.V i).toNat*ks.length) hw (by omega) a4 hl
  ·cases hl
 ·rename_i b es i off;split at hl
  ·rename_i e y hb;split at hl
   ·rename_i ks hk;split at hl
    ·rename_i hc;obtain ⟨c1,c2⟩:=Am hc;have hes:=Aq c1;subst hes;obtain ⟨r0,r1⟩:=Ky c2
     try rw [Aj,CJ,←Aj] at r1
     rw [Aj] at r1;cases hx with
     |aptr _ _ _ _ base hρ h0=>
      obtain ⟨ks',cur,et,fz,b1,b2,b3,b4,b5⟩:=hr.blk b base _ hρ hb;have hk2:U.K e=some ks:=by rw [hE.kd,←hE.ke];exact hk
      rw [hk2] at b1;cases b1;have hi:(Ag U.V i).toNat<(Af U.V y).rows.length:=by omega
      obtain ⟨a2,a4⟩:=b5.row hi;have hle:((Ag U.V i).toNat+1)*ks.length≤(Af U.V y).rows.length*ks.length:=Nat.mul_le_mul_right _ hi;rw [Nat.add_mul,Nat.one_mul] at hle;exact JF hE (p:=base.co+(Ag U.V i).toNat*ks.length) b2 (by omega) a4 hl
    ·cases hl
   ·cases hl
  ·cases hl
 ·rename_i g off;split at hl
  ·rename_i d hd;split at hl
   ·rename_i hag;split at hl
    ·rename_i l hg;cases hx;obtain ⟨arr,m1,m2⟩:=hr.glob g l (by rw [←hE.gl];exact hg)
     obtain ⟨v,v1,v2⟩:=m2 off a hl;obtain ⟨et,fz,hw⟩:=hr.imm g arr m1;refine ⟨v,?_,v2.vr⟩;have hc:w.cell? ⟨g,off,none⟩=some v:=by simp [World.cell?,hw,v1]
     unfold Instr.loadAt loadVar;simp only [Instr.sureAddr,Sem.run_bind,Sem.run_pure,Result.andThen_ok,hE.run_isAgg hd,hag,Bool.false_eq_true,if_false,run_load,hc]
    ·cases hl
   ·cases hl
  ·cases hl
 ·exact N3 hE hr hx hl
theorem KJ {t:TypeId} {x i a:AV} {xv iv:Value} (hx:VR ρ x xv) (hi:VR ρ i iv) (hl:ES E t x i=some a) :
  ∃v,(Instr.indexAt t xv iv).run E.P w=.ok v w∧VR ρ a v:=by
 unfold ES at hl;split at hl
 ·rename_i e' y;split at hl
  ·rename_i e k ie hd hti;split at hl
   ·rename_i k0 kr hk;split at hl
    ·rename_i hc;cases hl;obtain ⟨c1,c2⟩:=Am hc;have he:=Aq c1;subst he;obtain ⟨r0,r1⟩:=Ky c2
     try rw [Aj,CJ,←Aj] at r1
     rw [Aj] at r1;have hiv:=Ci hi hti;subst hiv;have hk2:U.K e=some (k0::kr):=by rw [hE.kd,←hE.ke];exact hk
     cases hx with
     |dat _ _ ad n cap hdv=>
      obtain ⟨_,_,_,q1,q2⟩:=hdv.slice_inv;cases q1;rw [q2] at r1;obtain ⟨b,o,rfl,hcap⟩:=hdv.at (by omega)
      refine ⟨.pointer (some ⟨b,o+(Ag U.V ie).toNat*(k0::kr).length+0,none⟩),?_,.dptr e y ie 0 b o n cap _ hdv hk2 r0 (by omega) (by simp)⟩
      have hlt:0≤Ag U.V ie∧Ag U.V ie<n:=by omega
      simp [Instr.indexAt,asIntOf,hE.run_und hd,hE.run_szIs (Env.kinds_size hk),hlt,BJ]
    ·cases hl
   ·cases hl
  ·cases hl
 ·rename_i b es n nl;split at hl
  ·rename_i e k ie hd hti;split at hl
   ·rename_i hc;cases hl;obtain ⟨c1,c2⟩:=Am hc;obtain ⟨r0,r1⟩:=Ky c2
    try rw [Aj,CJ,←Aj] at r1
    have hiv:=Ci hi hti;subst hiv;cases hx with
    |asl _ _ _ _ cap base hb h0 hcap hz hnl=>
     refine ⟨.pointer (some ⟨base.cb,base.co+(Ag U.V ie).toNat*es+0,none⟩),?_,.aptr b es ie 0 base hb r0⟩;have hlt:0≤Ag U.V ie∧Ag U.V ie<((Ag U.V n).toNat:Int):=by omega
     generalize (Ag U.V n).toNat=N at hlt;simp [Instr.indexAt,asIntOf,hE.run_und hd,hE.run_szIs c1,hlt,BJ]
    |aslEnd _ _ _ _ ad h0 hnl=>omega
   ·cases hl
  ·cases hl
 ·rename_i b es i0 off;split at hl
  ·rename_i len e n hd hn;split at hl
   ·rename_i hc;cases hl;obtain ⟨c1,c2⟩:=Am hc;obtain ⟨k,rfl⟩:=BF (G7 hi) hn;have hlt:=FY c1;cases hx with
    |aptr _ _ _ _ base hb h0=>
     have:=VR.aptr (ρ:=ρ) b es i0 (off+n*E.size e) base hb h0;rw [←Nat.add_assoc] at this;refine ⟨_,?_,this⟩;simp [Instr.indexAt,asIntOf,hE.run_und hd,hE.run_has c2,Instr.sureAddr,hlt,BJ]
   ·cases hl
  ·cases hl
 ·rename_i e' y i0 off;split at hl
  ·rename_i len e n ks hd hn hk;split at hl
   ·rename_i hc;cases hl;obtain ⟨c0,c3⟩:=Am hc;obtain ⟨c1,c2⟩:=Am c0;obtain ⟨k,rfl⟩:=BF (G7 hi) hn;have hlt:=FY c1;cases hx with
    |dptr _ _ _ _ b o n' cap ks' hdv hk' h0 hi' ho=>
     have hk2:U.K e'=some ks:=by rw [hE.kd,←hE.ke];exact hk
     rw [hk2] at hk';cases hk';have:=VR.dptr (ρ:=ρ) e' y i0 (off+n*E.size e) b o n' cap ks hdv hk2 h0 hi' (FY c3);rw [←Nat.add_assoc] at this;refine ⟨_,?_,this⟩;simp [Instr.indexAt,asIntOf,hE.run_und hd,hE.run_has c2,Instr.sureAddr,hlt,BJ]
   ·cases hl
  ·cases hl
 ·rename_i g off;split at hl
  ·rename_i len e n hd hn;split at hl
   ·rename_i hc2;cases hl;cases hx;obtain ⟨k,rfl⟩:=BF hi hn;obtain ⟨c1,c2⟩:=Am hc2;have hlt:=FY c1;refine ⟨.pointer (some ⟨g,off+n*E.size e,none⟩),?_,.glob g _⟩;simp [Instr.indexAt,asIntOf,hE.run_und hd,hE.run_has c2,Instr.sureAddr,hlt,BJ]
   ·cases hl
  ·cases hl
 ·exact KF hE hx (G7 hi) hl
theorem Iv {t:TypeId} {fs:Array Field} {f:Nat} {fd:Field} (hd:E.desc t=some (.struct fs)) (hf:fs.toList[f]?=some fd) {n:Nat} (hs:E.size fd.type=n+1) (b o:Nat) :
  (Instr.fieldAt t (.pointer (some ⟨b,o,none⟩)) f).run E.P w=.ok (.pointer (some ⟨b,o+fd.offset,none⟩)) w:=by
 have hf':fs[f]?=some fd:=by simpa using hf
 have hsz:∀w,(sizeOf fd.type).run E.P w=.ok (n+1) w:=by
  intro w;unfold Env.size at hs;cases hi:E.ty.get fd.type with
  |none=>simp [hi] at hs
  |some i=>simp only [hi] at hs;rw [hE.run_sz hi,hs]
 simp [Instr.fieldAt,hE.run_und hd,hf',Instr.sureAddr,fieldPlace,hsz,BJ]
theorem KO {t:TypeId} {x a:AV} {f:Nat} {xv:Value} (hx:VR ρ x xv) (hl:EB E t x f=some a) :
  ∃v,(Instr.fieldAt t xv f).run E.P w=.ok v w∧VR ρ a v:=by
 unfold EB at hl;split at hl
 ·rename_i e y i off;split at hl
  ·rename_i fs ks hd hk;split at hl
   ·rename_i fd hf;split at hl
    ·rename_i n hs hb;cases hl;cases hx with
     |dptr _ _ _ _ b o n' cap ks' hdv hk' h0 hi ho=>
      have hk2:U.K e=some ks:=by rw [hE.kd,←hE.ke];exact hk
      rw [hk2] at hk';cases hk';have:=VR.dptr (ρ:=ρ) e y i (off+fd.offset) b o n' cap ks hdv hk2 h0 hi (FY hb);rw [←Nat.add_assoc] at this;exact ⟨_,Iv hE hd hf hs b _,this⟩
    ·cases hl
   ·cases hl
  ·cases hl
 ·rename_i b es i off;split at hl
  ·rename_i fs hd;split at hl
   ·rename_i fd hf;split at hl
    ·cases hl
    ·rename_i n hs;cases hl;cases hx with
     |aptr _ _ _ _ base hb h0=>
      have:=VR.aptr (ρ:=ρ) b es i (off+fd.offset) base hb h0;rw [←Nat.add_assoc] at this
      obtain ⟨m,hm⟩:∃m,E.size fd.type=m+1:=by
       cases hq:E.size fd.type with
       |zero=>exact absurd hq hs
       |succ m=>exact ⟨m,rfl⟩
      exact ⟨_,Iv hE hd hf hm base.cb _,this⟩
   ·cases hl
  ·cases hl
 ·exact KH hE hx hl
end
end Go.AE
namespace Go.AE
variable [Gl:Au]
variable [U:Unk]
omit U in
theorem cK {a:AV} (h:a.isTop=false):a≠.top:=by rintro rfl;cases h
theorem Dh:∀(l:List UInt8),CW l.length (As l)=l
 |[]=>rfl
 |b::r=>by
  have h:=Dq b r;simp only [List.length_cons,CW,h.1,h.2,Dh r]
  congr 1
  simp
theorem I6 {ρ:Ren} {kd:Kd} {a:AV} {v:Value} {x:SE} (h:VR ρ a v) (hs:Vy kd a=some x):DV U.K ρ.imm kd v (Af U.V x):=by
 unfold Vy at hs;split at hs
 ·rename_i k k' n;split at hs
  ·rename_i hc;cases hs;cases h;obtain ⟨c1,c2⟩:=Am hc;have hk:k=k':=by simpa using c1
   subst hk;refine .int k n _ ?_ rfl;simpa using c2
  ·cases hs
 ·rename_i k k' e;split at hs
  ·rename_i hc;cases hs;cases h;obtain ⟨c1,c2⟩:=Am hc;have hk:k=k':=by simpa using c1
   subst hk;refine .int k _ _ ?_ rfl;rcases Bool.or_eq_true_iff.1 c2 with c|c
   ·exact .inl (by simpa using c)
   ·right;have hb:=E5 U.ok x;unfold MK at c;split at c
    ·rename_i l h hl hh;simp only [Bool.and_eq_true,decide_eq_true_eq] at c;have h1:=hb.1 l hl;have h2:=hb.2 h hh;omega
    ·cases c
  ·cases hs
 ·rename_i b;cases hs;cases h;exact .bool b _ rfl
 ·rename_i pos e;cases hs;cases h;refine .bool _ _ ?_;cases pos with
  |true=>show (Af U.V e).toBool=_;unfold Ai;cases (Af U.V e).toBool<;>rfl
  |false=>show (!(Af U.V e).toBool)=_;unfold Ai;cases (Af U.V e).toBool<;>rfl
 ·rename_i l b;cases hs;cases h;refine .str _ _ ?_;show (⟨(CW _ _).toArray⟩:ByteArray)=_;rw [Dh]
 ·cases hs;cases h;exact .str _ _ rfl
 ·rename_i e e' y;split at hs
  ·rename_i hc;cases hs;have:=Aq hc;subst this;cases h
   assumption
  ·cases hs
 ·cases hs;cases h;exact .nil _ _ rfl rfl
 ·cases hs
omit U in
theorem List.getD_modify (l:List D) (i:Nat) (f:D→D) (q:Nat) (hq:q<l.length):(l.modify i f).getD q default=if i=q then f (l.getD q default) else l.getD q default:=by
 simp only [List.getD_eq_getElem?_getD,List.getElem?_modify];split
 ·rename_i h;subst h;simp [hq]
 ·simp [hq]
theorem A6.upd {ρ:Ren} {ks:List Kd} {cur cur':Array Value} {o j:Nat} {y i x:SE} {kd:Kd} {v:Value} (h:A6 U.K ρ.imm ks cur o (Af U.V y).rows) (hi:(Ag U.V i).toNat<(Af U.V y).rows.length) (hj:ks[j]?=some kd)
  (hd:DV U.K ρ.imm kd v (Af U.V x)) (hs:cur'.size=cur.size) (hg:∀p,cur'[p]?=if p=o+(Ag U.V i).toNat*ks.length+j then some v else cur[p]?):A6 U.K ρ.imm ks cur' o (Af U.V (.upd y i j x)).rows:=by
 have er:(Af U.V (.upd y i j x)).rows=(Af U.V y).rows.modify (Ag U.V i).toNat fun r=>.row (r.cells.set j (Af U.V x)):=rfl
 have el:(Af U.V (.upd y i j x)).rows.length=(Af U.V y).rows.length:=by rw [er];simp
 obtain ⟨h1,h2,h3⟩:=h;have hjl:j<ks.length:=(List.getElem?_eq_some_iff.1 hj).1;refine ⟨by rw [el,hs];exact h1,fun q hq=>?_,fun q c kd' hq hc=>?_⟩
 ·rw [el] at hq;rw [er,List.getD_modify _ _ _ _ hq];split
  ·simp only [D.cells,List.length_set];exact h2 q hq
  ·exact h2 q hq
 ·rw [el] at hq;have hcl:c<ks.length:=(List.getElem?_eq_some_iff.1 hc).1;have hold:=h3 q c kd' hq hc;rw [er,List.getD_modify _ _ _ _ hq];by_cases hqi:(Ag U.V i).toNat=q
  ·rw [if_pos hqi];simp only [D.cells];by_cases hcj:c=j
   ·subst hcj;rw [hj] at hc;cases hc;have e1:cur'.getD (o+q*ks.length+c) Go.undef=v:=by simp [Array.getD_eq_getD_getElem?,hg,hqi]
    have e2:((((Af U.V y).rows.getD q default).cells.set c (Af U.V x)).getD c default)=Af U.V x:=by
     have:=h2 q hq;generalize ((Af U.V y).rows.getD q default).cells=cl at this ⊢;simp [List.getD_eq_getElem?_getD,this,hcl]
    rw [e1];simp only [D.cells] at e2;rw [e2];exact hd
   ·have e1:cur'.getD (o+q*ks.length+c) Go.undef=cur.getD (o+q*ks.length+c) Go.undef:=by
     simp only [Array.getD_eq_getD_getElem?,hg,hqi];rw [if_neg (by omega)]
    have e2:((((Af U.V y).rows.getD q default).cells.set j (Af U.V x)).getD c default)=((Af U.V y).rows.getD q default).cells.getD c default:=by
     simp only [List.getD_eq_getElem?_getD];rw [List.getElem?_set_ne (fun e=>hcj e.symm)]
    rw [e1];simp only [D.cells] at e2 hold ⊢;rw [e2];exact hold
  ·rw [if_neg hqi]
   have e1:cur'.getD (o+q*ks.length+c) Go.undef=cur.getD (o+q*ks.length+c) Go.undef:=by
    simp only [Array.getD_eq_getD_getElem?,hg];rw [if_neg ?_];intro e;have hlt:(Ag U.V i).toNat<q∨q<(Ag U.V i).toNat:=by omega
    rcases hlt with hlt|hlt
    ·have:=Nat.mul_le_mul_right ks.length hlt;rw [Nat.succ_mul] at this;omega
    ·have:=Nat.mul_le_mul_right ks.length hlt;rw [Nat.succ_mul] at this;omega
   rw [e1];exact hold
theorem K7 {ρ:Ren} {ks:List Kd} {o:Nat} {i:SE}:∀(l:List AV) (vs:List Value) (j:Nat) (y y':SE) (cur cur':Array Value),A6 U.K ρ.imm ks cur o (Af U.V y).rows→(Ag U.V i).toNat<(Af U.V y).rows.length→Cw i ks y j l=some y'→VL ρ l vs→
  cur'.size=cur.size→(∀p,cur'[p]?=if o+(Ag U.V i).toNat*ks.length+j≤p∧p<o+(Ag U.V i).toNat*ks.length+j+vs.length then vs[p-(o+(Ag U.V i).toNat*ks.length+j)]? else cur[p]?)→
  A6 U.K ρ.imm ks cur' o (Af U.V y').rows
 |[],vs,j,y,y',cur,cur',h,hi,hu,hv,hs,hg=>by
  simp only [Cw,Option.some.injEq] at hu;subst hu;have:=hv.nil_inv;subst this
  have:cur'=cur:=by
   apply Array.ext_getElem?;intro p;rw [hg,if_neg (by simp)]
  rw [this];exact h
 |a::r,vs,j,y,y',cur,cur',h,hi,hu,hv,hs,hg=>by
  obtain ⟨v,vr,rfl,ha,hr⟩:=hv.cons_inv;simp only [Cw] at hu;split at hu
  ·rename_i k hk;split at hu
   ·rename_i x hx;have hd:=I6 ha hx;have hjl:j<ks.length:=(List.getElem?_eq_some_iff.1 hk).1;have hle:((Ag U.V i).toNat+1)*ks.length≤(Af U.V y).rows.length*ks.length:=Nat.mul_le_mul_right _ hi;rw [Nat.add_mul,Nat.one_mul] at hle;have hin:=h.1
    have h1:=h.upd (cur':=cur.setIfInBounds (o+(Ag U.V i).toNat*ks.length+j) v) hi hk hd (by simp) (fun p=>by
     rw [Array.getElem?_setIfInBounds];by_cases e:o+(Ag U.V i).toNat*ks.length+j=p
     ·rw [if_pos e,if_pos e.symm,if_pos (by omega)]
     ·rw [if_neg e,if_neg (fun q=>e q.symm)])
    have el:(Af U.V (.upd y i j x)).rows.length=(Af U.V y).rows.length:=by
     have er:(Af U.V (.upd y i j x)).rows=(Af U.V y).rows.modify (Ag U.V i).toNat fun r=>.row (r.cells.set j (Af U.V x)):=rfl
     rw [er];simp
    refine K7 r vr (j+1) _ y' _ cur' h1 (by rw [el];exact hi) hu hr (by rw [hs];simp) (fun p=>?_)
    rw [hg];simp only [List.length_cons];by_cases e:p=o+(Ag U.V i).toNat*ks.length+j
    ·subst e;rw [if_pos (by omega),if_neg (by omega),Array.getElem?_setIfInBounds_self]
     rw [if_pos (by omega)]
     simp
    ·by_cases c:o+(Ag U.V i).toNat*ks.length+j≤p∧p<o+(Ag U.V i).toNat*ks.length+j+(vr.length+1)
     ·rw [if_pos c,if_pos (by omega)]
      rw [show p-(o+(Ag U.V i).toNat*ks.length+j)=(p-(o+(Ag U.V i).toNat*ks.length+(j+1)))+1 by omega]
      simp
     ·rw [if_neg c,if_neg (by omega),Array.getElem?_setIfInBounds_ne (fun q=>e q.symm)]
   ·cases hu
  ·cases hu
section
variable {E:Env} (hE:OK E) {ρ:Ren} {h:Aa} {w:World}
include hE
omit hE in
theorem Kn {i:SE} {ks:List Kd}:∀(l:List AV) (j:Nat) (y y':SE),Cw i ks y j l=some y'→j+l.length≤ks.length∨l=[]
 |[],_,_,_,_=>.inr rfl
 |a::r,j,y,y',hu=>by
  simp only [Cw] at hu;split at hu
  ·rename_i k hk;split at hu
   ·rename_i x hx;have hjl:j<ks.length:=(List.getElem?_eq_some_iff.1 hk).1;rcases Kn r (j+1) _ _ hu with h|h
    ·left;simp only [List.length_cons];omega
    ·left;subst h;simp;omega
   ·cases hu
  ·cases hu
omit hE in
theorem Fc {i:SE} {ks:List Kd}:∀(l:List AV) (vs:List Value) (j:Nat) (y y':SE),Cw i ks y j l=some y'→VL ρ l vs→∀v∈vs,v.oneCell'=true
 |[],vs,_,_,_,_,hv,v,hm=>by have:=hv.nil_inv;subst this;cases hm
 |a::r,vs,j,y,y',hu,hv,v,hm=>by
  obtain ⟨v0,vr,rfl,ha,hr⟩:=hv.cons_inv;simp only [Cw] at hu;split at hu
  ·rename_i k hk;split at hu
   ·rename_i x hx;rcases List.mem_cons.1 hm with rfl|hm
    ·have:=I6 ha hx;cases this<;>rfl
    ·exact Fc r vr (j+1) _ _ hu hr v hm
   ·cases hu
  ·cases hu
theorem HJ (hr:HR ρ h.blk.get w) {t:TypeId} {x a:AV} {xv v:Value} {h':Aa} (hx:VR ρ x xv) (ha:VR ρ a v) (hl:C7 E t x a h=some h') :
  ∃w',(Instr.storeAt t xv v).run E.P w=.ok () w'∧HR ρ h'.blk.get w'∧Ext ρ ρ h h' w w':=by
 unfold C7 at hl;split at hl
 ·rename_i b es i off;split at hl
  ·rename_i e y hb;split at hl
   ·rename_i ks hk;split at hl
    ·rename_i hc;split at hl
     ·rename_i y' hu;cases hl;obtain ⟨c123,c4⟩:=Am hc;obtain ⟨c12,c3⟩:=Am c123;obtain ⟨c1,c2⟩:=Am c12;have hes:=Aq c1;subst hes;obtain ⟨r0,r1⟩:=Ky c2
      try rw [Aj,CJ,←Aj] at r1
      rw [Aj] at r1;have hcs:=ha.cells (cK (by simpa using c4))
      cases hx with
      |aptr _ _ _ _ base hρ h0=>
       obtain ⟨ks',cur,et,fz,b1,b2,b3,b4,b5⟩:=hr.blk b base _ hρ hb;have hk2:U.K e=some ks:=by rw [hE.kd,←hE.ke];exact hk
       rw [hk2] at b1;cases b1;have hi:(Ag U.V i).toNat<(Af U.V y).rows.length:=by omega
       have hle:((Ag U.V i).toNat+1)*ks.length≤(Af U.V y).rows.length*ks.length:=Nat.mul_le_mul_right _ hi;rw [Nat.add_mul,Nat.one_mul] at hle;have hin:=b5.1;have hlen:a.cells.length=v.cells.toList.length:=hcs.1
       have hfit:base.co+(Ag U.V i).toNat*ks.length+off+0+v.cells.toList.length≤cur.size∨v.cells.toList=[]:=by
        rcases Kn _ _ _ _ hu with q|q
        ·left;omega
        ·right;rw [q] at hlen;exact List.eq_nil_of_length_eq_zero hlen.symm
       have hst:∃w' cur',(storeCells ⟨base.cb,base.co+(Ag U.V i).toNat*ks.length+off,none⟩ v.cells.toList 0).run E.P w=.ok () w'∧w'.heap[base.cb]?=some (.cells cur' et fz)∧cur'.size=cur.size∧
         (∀j,cur'[j]?=if base.co+(Ag U.V i).toNat*ks.length+off≤j∧j<base.co+(Ag U.V i).toNat*ks.length+off+v.cells.toList.length then v.cells.toList[j-(base.co+(Ag U.V i).toNat*ks.length+off)]? else cur[j]?)∧
         w'.heap.size=w.heap.size∧(∀k,k≠base.cb→w'.heap[k]?=w.heap[k]?)∧w'.os=w.os∧w'.tape=w.tape∧w'.output=w.output:=by
        rcases hfit with hfit|hnil
        ·exact BN E.P base.cb (base.co+(Ag U.V i).toNat*ks.length+off) et fz v.cells.toList 0 w cur b2 hfit (by rw [b3];exact b4) (Fc _ _ _ _ _ hu hcs)
        ·rw [hnil];exact ⟨w,cur,by simp [storeCells],b2,rfl,fun j=>by rw [if_neg (by simp)],rfl,fun _ _=>rfl,rfl,rfl,rfl⟩
       obtain ⟨w',cur',q1,q2,q3,q4,q5,q6,q7,q8,q9⟩:=hst;have hrows:=K7 a.cells v.cells.toList off y y' cur cur' b5 hi hu hcs q3 q4;obtain ⟨p1,p2⟩:=hr.put hρ (by rw [hb];exact Option.some_ne_none _) (.arr e y') w' ⟨ks,cur',et,fz,hk2,q2,by rw [q3,b3],b4,hrows⟩ q5 q6 q7 q8 q9
       refine ⟨w',?_,p1,p2⟩;unfold Instr.storeAt storeVar;have e:v.cells.size=a.cells.length:=by have:=hcs.1;simp at this;omega
       simp [Instr.sureAddr,hE.run_szIs c3,e,q1]
     ·cases hl
    ·cases hl
   ·cases hl
  ·cases hl
 ·exact Ra hE hr hx ha hl
end
end Go.AE
namespace Go.AE
variable [Gl:Au]
variable [U:Unk]
def A5 (K:TypeId→Option (List Kd)) (M:Nat→Option (Array Value)) (ks:List Kd) (vs:List Value) (rows:List D):Prop:=
 vs.length=rows.length*ks.length∧(∀i,i<rows.length→(rows.getD i default).cells.length=ks.length)∧
  ∀i j kd,i<rows.length→ks[j]?=some kd→DV K M kd (vs.getD (i*ks.length+j) Go.undef) ((rows.getD i default).cells.getD j default)
section
variable {K:TypeId→Option (List Kd)} {M:Nat→Option (Array Value)} {ks:List Kd}
omit U
theorem A5.nil:A5 K M ks [] []:=⟨by simp,fun i h=>by simp at h,fun i j kd h=>by simp at h⟩
theorem M8 {l m:List D} {i:Nat}:(l++m).getD i default=if i<l.length then l.getD i default else m.getD (i-l.length) default:=by
 simp only [List.getD_eq_getElem?_getD];by_cases h:i<l.length
 ·rw [if_pos h,List.getElem?_append_left h]
 ·rw [if_neg h,List.getElem?_append_right (by omega)]
theorem Ru {l m:List Value} {i:Nat}:(l++m).getD i Go.undef=if i<l.length then l.getD i Go.undef else m.getD (i-l.length) Go.undef:=by
 simp only [List.getD_eq_getElem?_getD];by_cases h:i<l.length
 ·rw [if_pos h,List.getElem?_append_left h]
 ·rw [if_neg h,List.getElem?_append_right (by omega)]
theorem On {i n l j:Nat} (hi:i<n) (hj:j<l):i*l+j<n*l:=by
 have:=Nat.mul_le_mul_right l hi;rw [Nat.succ_mul] at this;omega
theorem A5.append {vs ws:List Value} {r s:List D} (h:A5 K M ks vs r) (k:A5 K M ks ws s):A5 K M ks (vs++ws) (r++s):=by
 refine ⟨by simp [h.1,k.1,Nat.add_mul],fun i hi=>?_,fun i j kd hi hj=>?_⟩
 ·rw [M8];simp only [List.length_append] at hi;split
  ·rename_i c;exact h.2.1 i c
  ·exact k.2.1 _ (by omega)
 ·have hjl:j<ks.length:=(List.getElem?_eq_some_iff.1 hj).1;simp only [List.length_append] at hi;rw [M8,Ru,h.1];by_cases c:i<r.length
  ·rw [if_pos c,if_pos (On c hjl)];exact h.2.2 i j kd c hj
  ·rw [if_neg c,if_neg (by
    have:=Nat.mul_le_mul_right ks.length (Nat.le_of_not_lt c);omega)]
   have e:i*ks.length+j-r.length*ks.length=(i-r.length)*ks.length+j:=by
    have:=Nat.mul_le_mul_right ks.length (Nat.le_of_not_lt c);rw [Nat.sub_mul];omega
   rw [e];exact k.2.2 _ j kd (by omega) hj
theorem A5.at {vs:List Value} {rows:List D} {cur:Array Value} {off:Nat} (h:A5 K M ks vs rows) (hs:off+vs.length≤cur.size) (hg:∀q,q<vs.length→cur[off+q]?=vs[q]?):A6 K M ks cur off rows:=by
 refine ⟨by rw [←h.1];exact hs,h.2.1,fun i j kd hi hj=>?_⟩
 have hjl:j<ks.length:=(List.getElem?_eq_some_iff.1 hj).1;have:=h.2.2 i j kd hi hj;have hq:i*ks.length+j<vs.length:=by rw [h.1];exact On hi hjl
 have e:cur.getD (off+i*ks.length+j) Go.undef=vs.getD (i*ks.length+j) Go.undef:=by
  simp only [Array.getD_eq_getD_getElem?,List.getD_eq_getElem?_getD];rw [Nat.add_assoc,hg _ hq]
 rw [e];exact this
theorem A6.vals {rows:List D} {cur:Array Value} {off:Nat} (h:A6 K M ks cur off rows):A5 K M ks ((cur.toList.drop off).take (rows.length*ks.length)) rows:=by
 refine ⟨by have:=h.1;simp;omega,h.2.1,fun i j kd hi hj=>?_⟩
 have hjl:j<ks.length:=(List.getElem?_eq_some_iff.1 hj).1;have:=h.2.2 i j kd hi hj
 have e:((cur.toList.drop off).take (rows.length*ks.length)).getD (i*ks.length+j) Go.undef=cur.getD (off+i*ks.length+j) Go.undef:=by
  simp only [Array.getD_eq_getD_getElem?,List.getD_eq_getElem?_getD];rw [List.getElem?_take,if_pos (On hi hjl),List.getElem?_drop,Array.getElem?_toList,Nat.add_assoc]
 rw [e];exact this
theorem A5.mono {N:Nat→Option (Array Value)} (hle:∀k a,M k=some a→N k=some a) {vs:List Value} {rows:List D} (h:A5 K M ks vs rows):A5 K N ks vs rows:=
 ⟨h.1,h.2.1,fun i j kd a b=>(h.2.2 i j kd a b).mono hle⟩
end
section
variable {ρ:Ren}
theorem Ee:∀(ks:List Kd) (l:List AV) (vs:List Value) (r:SE),Fg ks l=some r→VL ρ l vs→(Af U.V r).cells.length=ks.length∧vs.length=ks.length∧∀j kd,ks[j]?=some kd→DV U.K ρ.imm kd (vs.getD j Go.undef) ((Af U.V r).cells.getD j default)
 |[],[],vs,r,h,hv=>by
  simp only [Fg,Option.some.injEq] at h;subst h;have:=hv.nil_inv;subst this;exact ⟨rfl,rfl,fun j kd hj=>by simp at hj⟩
 |k::ks,a::l,vs,r,h,hv=>by
  obtain ⟨v,vr,rfl,ha,hr⟩:=hv.cons_inv;simp only [Fg] at h;split at h
  ·rename_i x y hx hy;cases h;obtain ⟨h1,h2,h3⟩:=Ee ks l vr y hy hr;have ec:(Af U.V (.rcons x y)).cells=Af U.V x::(Af U.V y).cells:=rfl;rw [ec];refine ⟨by simp [h1],by simp [h2],fun j kd hj=>?_⟩
   cases j with
   |zero=>
    simp only [List.getElem?_cons_zero,Option.some.injEq] at hj;subst hj;exact I6 ha hx
   |succ j=>
    simp only [List.getElem?_cons_succ] at hj;exact h3 j kd hj
  ·cases h
 |[],_::_,_,_,h,_=>by cases h
 |_::_,[],_,_,h,_=>by cases h
theorem A5.one {ks:List Kd} {vs:List Value} {r:D} (h1:r.cells.length=ks.length) (h2:vs.length=ks.length) (h3:∀j kd,ks[j]?=some kd→DV U.K ρ.imm kd (vs.getD j Go.undef) (r.cells.getD j default)):A5 U.K ρ.imm ks vs [r]:=by
 refine ⟨by simp [h2],fun i hi=>?_,fun i j kd hi hj=>?_⟩
 ·have:i=0:=by simpa using hi
  subst this;exact h1
 ·have:i=0:=by simpa using hi
  subst this;simpa using h3 j kd hj
theorem Eh {ks:List Kd}:∀(n:Nat) (y y':SE) (l:List AV) (vs:List Value),C8 ks n y l=some y'→VL ρ l vs→∃rs:List D,rs.length=n∧(Af U.V y').rows=(Af U.V y).rows++rs∧A5 U.K ρ.imm ks vs rs
 |0,y,y',[],vs,h,hv=>by
  simp only [C8,Option.some.injEq] at h;subst h;have:=hv.nil_inv;subst this;exact ⟨[],rfl,by simp,.nil⟩
 |0,y,y',_::_,vs,h,hv=>by cases h
 |n+1,y,y',l,vs,h,hv=>by
  simp only [C8] at h;split at h
  ·rename_i r hr;obtain ⟨h1,h2,h3⟩:=Ee ks _ (vs.take ks.length) r hr (hv.take _);obtain ⟨rs,q1,q2,q3⟩:=Eh n _ y' _ (vs.drop ks.length) h (hv.drop _);refine ⟨Af U.V r::rs,by simp [q1],?_,?_⟩
   ·rw [q2];show ((Af U.V y).rows++[Af U.V r])++rs=_;simp
   ·have:=(A5.one h1 h2 h3).append q3;simpa using this
  ·cases h
variable {E:Env} (hE:OK E) {h:Aa} {w:World}
include hE
theorem HN {e:TypeId} {ks:List Kd} {b off n es:Nat} {l:List AV} {sv:Value} (hr:HR ρ h.blk.get w) (hx:VR ρ (.slice b off n es) sv) (hl:B1 h b off (n*es)=some l) :
  ∃vs,VL ρ l vs∧vs.length=n*es∧((n=0∧∃a,sv=.slice (some a) 0 0)∨∃base cur et fz cap sz c,ρ b=some base∧h.blk.get b=some (.cells sz c)∧sv=.slice (some ⟨base.cb,base.co+off,none⟩) n cap∧n≤cap∧base.co+off+cap*es≤base.csz∧w.heap[base.cb]?=some (.cells cur et fz)∧cur.size=base.csz∧(fz.1=fz.2∨base.csz≤fz.1)∧
   ∀q,q<vs.length→cur[base.co+off+q]?=vs[q]?):=by
 cases hx with
 |slice _ _ _ _ cap base hb hc hz=>
  unfold B1 at hl;split at hl
  ·rename_i sz c hg;split at hl
   ·rename_i hle;obtain ⟨vs,q1,q2,q3⟩:=hr.loadCells E.P hb hg (Cs hle) hl;obtain ⟨cur,et,fz,r1,r2,r3,r4,r5⟩:=hr.blk b base _ hb hg;have hlen:vs.length=n*es:=by rw [←q1.1];exact (T.range_spec c _ _ _ hl).1
    refine ⟨vs,q1,hlen,.inr ⟨base,cur,et,fz,cap,sz,c,hb,hg,rfl,hc,hz,r1,r2,r4,fun q hq=>?_⟩⟩
    have hv:vs[q]?=some vs[q]:=by simp [hq]
    have:=q3 q _ hv;rw [hv];simpa [World.cell?,r1] using this
   ·cases hl
  ·cases hl
 |sliceEnd _ _ _ a=>
  unfold B1 at hl;split at hl
  ·rename_i sz c hg;split at hl
   ·have e0:0*es=0:=by simp
    rw [e0] at hl;simp only [T.range,Option.some.injEq] at hl;subst hl;exact ⟨[],VL.nil ρ,by simp,.inl ⟨rfl,a,rfl⟩⟩
   ·cases hl
  ·cases hl
theorem U7 (hr:HR ρ h.blk.get w) {t' e e':TypeId} {inf:TypeInfo} {ks:List Kd} (hk:E.kinds e=some ks) (hsz:ks.length=inf.size) (ht':E.P.underlying t'=some (.slice e')) {y y' m:SE} {x:AV} {xv:Value} (hx:VR ρ x xv) (hs:Us e ks h y x=some (y',m)) :
  ∃rs nv,(Af U.V y').rows=(Af U.V y).rows++rs∧Ag U.V m=(rs.length:Nat)∧A5 U.K ρ.imm ks nv rs∧R4 E.P w t' e inf xv rs.length nv:=by
 have hk2:U.K e=some ks:=by rw [hE.kd,←hE.ke];exact hk
 have none_:∀a:Option Addr,R4 E.P w t' e inf (.slice a 0 0) 0 []:=by
  intro a;refine .cells _ ht' (.inl ⟨e',rfl⟩) (by simp [Builtin.lenOf]) (fun w' _=>?_)
  cases a with
  |none=>simp [Builtin.firstCells]
  |some a=>simp [Builtin.firstCells,loadCells,loadCellsFrom]
 unfold Us at hs;split at hs
 ·cases hs;cases hx;exact ⟨[],[],by simp,rfl,.nil,none_ none⟩
 ·cases hs;cases hx;exact ⟨[],[],by simp,rfl,.nil,none_ _⟩
 ·rename_i e1 x';split at hs
  ·rename_i hc;cases hs;have:=Aq hc;subst this;cases hx with
   |dat _ _ a n c hd=>
    obtain ⟨_,_,_,q1,q2⟩:=hd.slice_inv;cases q1;have er:(Af U.V (.cat y x')).rows=(Af U.V y).rows++(Af U.V x').rows:=rfl;by_cases hn:n=0
    ·subst hn;have e0:(Af U.V x').rows=[]:=List.eq_nil_of_length_eq_zero q2;refine ⟨[],[],by rw [er,e0],by rw [Aj,e0],.nil,?_⟩
     refine .cells _ ht' (.inl ⟨e',rfl⟩) (by simp [Builtin.lenOf]) (fun w' _=>?_)
     cases a with
     |none=>simp [Builtin.firstCells]
     |some a=>simp [Builtin.firstCells,loadCells,loadCellsFrom]
    ·obtain ⟨b,o,rfl,hcap⟩:=hd.at (by omega)
     generalize hdd:Af U.V x'=d at hd;cases hd with
     |slc _ _ _ _ _ _ ks' arr hk' ha hn' hc' h1 hin hrow hv=>
      rw [hk2] at hk';cases hk';obtain ⟨et,fz,hw⟩:=hr.imm b arr ha;have hra:A6 U.K ρ.imm ks arr o d.rows:=⟨by rw [hn'];exact hin,fun i hi=>hrow i (by omega),fun i j kd hi hj=>hv i j kd (by omega) hj⟩
      refine ⟨d.rows,_,by rw [er,hdd],by rw [Aj,hdd],hra.vals,?_⟩
      rw [hn'];refine .cells _ ht' (.inl ⟨e',rfl⟩) (by simp [Builtin.lenOf]) (fun w' hw'=>?_)
      simp only [Builtin.firstCells,←hsz];exact Av E.P w' b o (n*ks.length) arr et fz (by rw [hw'];exact hw) hin
     |empty=>omega
  ·cases hs
 ·rename_i b es n nl;split at hs
  ·rename_i e1 z hes hb;split at hs
   ·rename_i hc;cases hs;obtain ⟨c1,c2⟩:=Am hc;have:=Aq c1;subst this;have:=Aq hes;subst this;have hx:=HG c2 hx;clear c2;have er:(Af U.V (.cat y z)).rows=(Af U.V y).rows++(Af U.V z).rows:=rfl;cases hx with
    |asl _ _ _ _ cap base hρ h0 hcap hz hnl=>
     obtain ⟨ks',cur,et,fz,b1,b2,b3,b4,b5⟩:=hr.blk b base _ hρ hb;rw [hk2] at b1;cases b1;refine ⟨(Af U.V z).rows,_,er,Aj,b5.vals,?_⟩;have e2:(Ag U.V (.lenL z)).toNat=(Af U.V z).rows.length:=by rw [Aj];simp
     rw [e2];refine .cells _ ht' (.inl ⟨e',rfl⟩) (by simp [Builtin.lenOf]) (fun w' hw'=>?_)
     simp only [Builtin.firstCells,←hsz];exact Av E.P w' base.cb base.co _ cur et fz (by rw [hw'];exact b2) b5.1
    |aslEnd _ _ _ _ a h0 hnl=>
     rw [Aj] at h0;have e0:(Af U.V z).rows=[]:=List.eq_nil_of_length_eq_zero (by omega)
     exact ⟨[],[],by rw [er,e0],by rw [Aj,e0],.nil,none_ a⟩
   ·cases hs
  ·cases hs
 ·rename_i b off n es;split at hs
  ·rename_i hes;split at hs
   ·rename_i l hl;split at hs
    ·rename_i y1 hy;cases hs;have:=Aq hes;subst this;obtain ⟨vs,v1,v2,v3⟩:=HN hE (e:=e) (ks:=ks) hr hx hl;obtain ⟨rs,q1,q2,q3⟩:=Eh n y y' l vs hy v1;refine ⟨rs,vs,q2,by rw [q1];rfl,q3,?_⟩
     rw [q1];rcases v3 with ⟨rfl,a,rfl⟩|⟨base,cur,et,fz,cap,sz,c,p1,p2,rfl,p4,p5,p6,p7,p8,p9⟩
     ·have:vs=[]:=List.eq_nil_of_length_eq_zero (by simpa using v2)
      subst this;exact none_ (some a)
     ·refine .cells _ ht' (.inl ⟨e',rfl⟩) (by simp [Builtin.lenOf]) (fun w' hw'=>?_)
      have hle:n*ks.length≤cap*ks.length:=Nat.mul_le_mul_right _ p4;have:=Av E.P w' base.cb (base.co+off) (n*ks.length) cur et fz (by rw [hw'];exact p6) (by rw [p7];omega)
      simp only [Builtin.firstCells,←hsz,this]
      congr 2
      apply List.ext_getElem?;intro q;rw [List.getElem?_take];by_cases hq:q<n*ks.length
      ·rw [if_pos hq,List.getElem?_drop,Array.getElem?_toList,p9 q (by omega)]
      ·rw [if_neg hq,List.getElem?_eq_none (by omega)]
    ·cases hs
   ·cases hs
  ·cases hs
 ·cases hs
inductive JD (ρ:Ren) (h:Aa) (w:World) (ks:List Kd) (ys nls:SE):Option Nat→Value→Prop
 |none (b:Option Nat) (a:Option Addr) (hy:(Af U.V ys).rows=[]) (hn:a.isNone=Ai U.V nls):JD ρ h w ks ys nls b (.slice a 0 0)
 |blk (b off cap:Nat) (base:Bf) (cur:Array Value) (et:TypeId) (fz:Nat×Nat) (hb:ρ b=some base) (hl:h.blk.get b≠.none) (hc:(Af U.V ys).rows.length≤cap) (hz:base.co+off+cap*ks.length≤base.csz)
   (hw:w.heap[base.cb]?=some (.cells cur et fz)) (hs:cur.size=base.csz) (hf:fz.1=fz.2∨base.csz≤fz.1) (hv:A6 U.K ρ.imm ks cur (base.co+off) (Af U.V ys).rows) (hn:Ai U.V nls=false) :
   JD ρ h w ks ys nls (some b) (.slice (some ⟨base.cb,base.co+off,.none⟩) (Af U.V ys).rows.length cap)
theorem SL (hr:HR ρ h.blk.get w) {e:TypeId} {ks:List Kd} (hk:E.kinds e=some ks) {s:AV} {sv:Value} {ys nls:SE} {bs:Option Nat} (hx:VR ρ s sv) (hb:Qz e ks h s=some (ys,nls,bs)):JD ρ h w ks ys nls bs sv:=by
 have hk2:U.K e=some ks:=by rw [hE.kd,←hE.ke];exact hk
 unfold Qz at hb;split at hb
 ·cases hb;cases hx;exact .none _ _ rfl rfl
 ·cases hb;cases hx;rename_i a hn;exact .none _ _ rfl hn
 ·rename_i b off n es;split at hb
  ·rename_i hes;split at hb
   ·rename_i l hl;split at hb
    ·rename_i y hy;cases hb;have:=Aq hes;subst this;obtain ⟨vs,v1,v2,v3⟩:=HN hE (e:=e) (ks:=ks) hr hx hl;obtain ⟨rs,q1,q2,q3⟩:=Eh n .emptyL ys l vs hy v1;have er:(Af U.V ys).rows=rs:=by rw [q2];rfl
     rcases v3 with ⟨rfl,a,rfl⟩|⟨base,cur,et,fz,cap,sz,c,p1,p2,rfl,p4,p5,p6,p7,p8,p9⟩
     ·exact .none _ _ (by rw [er];exact List.eq_nil_of_length_eq_zero q1) rfl
     ·have hle:n*ks.length≤cap*ks.length:=Nat.mul_le_mul_right _ p4
      have:=JD.blk (ρ:=ρ) (h:=h) (w:=w) (ks:=ks) (ys:=ys) (nls:=.bc false) b off cap base cur et fz p1 (by rw [p2];exact Option.some_ne_none _) (by rw [er,q1];exact p4) p5 p6 p7 p8
       (by rw [er];exact q3.at (by rw [v2,p7];omega) p9) rfl
      rw [er,q1] at this;exact this
    ·cases hb
   ·cases hb
  ·cases hb
 ·rename_i b es n nl;split at hb
  ·rename_i e1 z hes hbk;split at hb
   ·rename_i hc;cases hb;obtain ⟨c1,c2⟩:=Am hc;have:=Aq c1;subst this;have:=Aq hes;subst this;have hx:=HG c2 hx;clear c2;cases hx with
    |asl _ _ _ _ cap base hρ h0 hcap hz hnl=>
     obtain ⟨ks',cur,et,fz,b1,b2,b3,b4,b5⟩:=hr.blk b base _ hρ hbk;rw [hk2] at b1;cases b1;have e2:(Ag U.V (.lenL ys)).toNat=(Af U.V ys).rows.length:=by rw [Aj];simp
     rw [e2] at hcap ⊢;exact JD.blk (ρ:=ρ) (h:=h) (w:=w) (ks:=ks) b 0 cap base cur et fz hρ (by rw [hbk];exact Option.some_ne_none _) hcap (by simpa using hz) b2 b3 b4 (by simpa using b5) hnl
    |aslEnd _ _ _ _ a h0 hnl=>
     rw [Aj] at h0;exact .none _ _ (List.eq_nil_of_length_eq_zero (by omega)) hnl
   ·cases hb
  ·cases hb
 ·cases hb
omit hE in
theorem HR.phantom (hr:HR ρ h.blk.get w) (hf:ρ h.nx=none) (x:Ac):HR ρ (h.new x).blk.get w∧Ext ρ ρ h (h.new x) w w:=by
 have live:∀b base,ρ b=some base→(h.new x).blk.get b=h.blk.get b:=by
  intro b base hb;simp only [Aa.new,T.get_set];rw [if_neg (by rintro rfl;rw [hf] at hb;cases hb)]
 refine ⟨⟨hr.lt,fun b base y hb hy=>hr.blk b base y hb (by rw [←live b base hb];exact hy),fun b b' base base' hne hb hb' h1 h2=>hr.apart b b' base base' hne hb hb' (by rw [←live b base hb];exact h1) (by rw [←live b' base' hb'];exact h2),hr.imm,fun k arr b base hk hb hl=>hr.off k arr b base hk hb (by rw [←live b base hb];exact hl),hr.glob⟩,
  ⟨Ren.le_refl ρ,Nat.le_succ _,fun _ _ e=>.inl e,Fq.refl w,fun _ _ _=>rfl,⟨[],rfl,fun b _ hb=>?_⟩,fun b hb=>?_,fun _ _ e=>.inl e⟩⟩
 ·simp only [Aa.new,T.get_set];simp only [Aa.new] at hb;rw [if_neg (by omega)]
 ·simp only [Aa.new,T.get_set] at hb ⊢;by_cases e:h.nx=b
  ·exact .inr ⟨by omega,by omega⟩
  ·rw [if_neg e] at hb;exact .inl hb
omit hE in
theorem Pk (hr:HR ρ h.blk.get w) (o:Option Nat):HR ρ (DW h o).blk.get w∧Ext ρ ρ h (DW h o) w w∧(DW h o).nx=h.nx:=by
 cases o with
 |none=>exact ⟨hr,Ext.refl _ _ _,rfl⟩
 |some b=>obtain ⟨p1,p2⟩:=hr.strike b;exact ⟨p1,p2,rfl⟩
theorem Gx (hr:HR ρ h.blk.get w) {t t' ty:TypeId} {s x a:AV} {sv xv:Value} {h':Aa} (hs:VR ρ s sv) (hx:VR ρ x xv) (ha:GV E t t' s x h=some (a,h')) (hf:Ax ρ h.nx h'.nx)
  (hA:∀a h',Hf E t t' s x h=some (a,h')→Ax ρ h.nx h'.nx→AB E ρ h h' w (Builtin.append_ #[t,t'] ty #[sv,xv]) a) :
  AB E ρ h h' w (Builtin.append_ #[t,t'] ty #[sv,xv]) a:=by
 unfold GV at ha;split at ha
 ·exact hA a h' ha hf
 ·split at ha
  ·rename_i e e' hd hd';split at ha
   ·rename_i inf ks z hi hk hz;split at ha
    ·rename_i hc;split at ha
     ·rename_i ys nls bs hbase;split at ha
      ·rename_i y m hsrc;split at ha
       ·rename_i hb;cases ha;obtain ⟨c12,c3⟩:=Am hc;obtain ⟨c1,c2⟩:=Am c12;have hsz:=Aq c1;have hzl:=Aq c2;have hby:=Cs c3;have hinf:=hE.ty e inf hi;have hk2:U.K e=some ks:=by rw [hE.kd,←hE.ke];exact hk
        obtain ⟨b1,b2⟩:=Am hb;have b1:=Hm b1;have b2:=Hm b2;rw [Ap,decide_eq_true_eq,Aj,Bn] at b1;rw [Ap,decide_eq_true_eq,Bn] at b2;have ht:=hE.und hd;have ht':=hE.und hd';obtain ⟨rs,nv,s1,s2,s3,s4⟩:=U7 hE hr hk hsz ht' hx hsrc;have hB:=SL hE hr hk hs hbase;obtain ⟨i',zv,i1,i2,i3⟩:=E2 hz;rw [hi] at i1;cases i1
        have hzc:zv.cells.size=inf.size:=by
         have:=((Ay ρ i3).cells (Ba i3)).1;simp at this;omega
        have hnvl:nv.length=rs.length*inf.size:=by rw [s3.1,hsz]
        have hrl:rs.length<1048576:=by omega
        have hyl:Ag U.V (.lenL y)=(((Af U.V ys).rows.length+rs.length:Nat):Int):=by rw [Aj,s1];simp
        have hnl:Ai U.V (.and nls (.eql m (.c 0)))=(Ai U.V nls&&(Ag U.V m==0)):=rfl;have hfree:ρ h.nx=none:=hf h.nx (Nat.le_refl _) (by cases bs<;>simp [Aa.new,DW,Aa.strike])
        obtain ⟨o1,o2,o3⟩:=Pk hr bs
        have grow:∀(base:Option Addr) (sLen cap:Nat) (ov:List Value),sv=.slice base sLen cap→sLen=(Af U.V ys).rows.length→sLen≤cap→cap<sLen+rs.length→A5 U.K ρ.imm ks ov (Af U.V ys).rows→
          (∀w':World,w'.heap=w.heap→(Builtin.firstCells inf.size sLen (.slice base sLen cap)).run E.P w'=.ok ov.toArray w')→
          AB E ρ h ((DW h bs).new (.arr e y)) w (Builtin.append_ #[t,t'] ty #[sv,xv]) (.asl h.nx inf.size (.lenL y) (.and nls (.eql m (.c 0)))):=by
         intro base sLen cap ov hsv hsl hle hgr hov hfc;subst hsv;have hb1:(sLen+rs.length)*inf.bytes≤1074790400*1024:=Nat.mul_le_mul (by omega) hby
         obtain ⟨cap',k1,k2⟩:=D0 t t' ty e inf ht hinf zv i2 xv rs.length nv s4 base sLen cap hgr (by omega) (by omega) ov.toArray hfc
         generalize hzz:Builtin.zeroCells zv.cells (cap'-(sLen+rs.length))=zs at k2;have hzsz:zs.size=(cap'-(sLen+rs.length))*inf.size:=by rw [←hzz];simp [Builtin.zeroCells,hzc]
         have hasz:(ov.toArray++nv.toArray++zs).size=cap'*inf.size:=by
          have hovl:ov.length=sLen*inf.size:=by rw [hov.1,hsz,hsl]
          simp only [Array.size_append,List.size_toArray,hovl,hnvl,hzsz];rw [←Nat.add_mul,←Nat.add_mul]
          congr 1;omega
         have hvals:=hov.append s3;rw [←s1] at hvals
         have hrows:A6 U.K ρ.imm ks (ov.toArray++nv.toArray++zs) 0 (Af U.V y).rows:=hvals.at (by simp) (fun q hq=>by
          have hq':q<ov.length+nv.length:=by simpa using hq
          rw [Nat.zero_add,Array.getElem?_append_left (by simpa using hq')]
          simp only [List.append_toArray,List.getElem?_toArray])
         have hr1:HR ρ (DW h bs).blk.get {w with drawn:=w.drawn+1}:=o1.same rfl
         have hf1:ρ (DW h bs).nx=none:=by rw [o3];exact hfree
         obtain ⟨p1,p2⟩:=hr1.new hf1 (.arr e y) (.cells (ov.toArray++nv.toArray++zs) e) (cap'*inf.size) ⟨ks,_,e,_,hk2,rfl,hasz,.inl rfl,hrows⟩ {w with drawn:=w.drawn+1,heap:=w.heap.push (.cells (ov.toArray++nv.toArray++zs) e)} rfl rfl rfl rfl
         refine ⟨_,_,_,k2,?_,p1,(o2.trans (Ext.drawn p2 rfl rfl rfl rfl) hf)⟩;rw [o3];have hNl:(Ag U.V (.lenL y)).toNat=sLen+rs.length:=by rw [hyl,hsl];exact Int.toNat_natCast _
         have:=VR.asl (ρ:=ρ.upd h.nx ⟨w.heap.size,0,cap'*inf.size⟩) h.nx inf.size (.lenL y) (.and nls (.eql m (.c 0))) cap' ⟨w.heap.size,0,cap'*inf.size⟩ (Ren.upd_same _ _ _) (by rw [hyl];exact Int.natCast_nonneg _) (by rw [hNl];exact k1) (by show 0+cap'*inf.size≤cap'*inf.size;rw [Nat.zero_add];exact Nat.le_refl _) (by
          rw [hnl,s2];have:((rs.length:Int)==0)=false:=by simp;intro e;rw [e] at hgr;simp at hgr;omega
          rw [this,Bool.and_false])
         rw [hNl] at this;exact this
        cases hB with
        |none _ ad hy hn=>
         have hy0:(Af U.V ys).rows.length=0:=by rw [hy];rfl
         by_cases hm:rs.length=0
         ·
          have hnv:nv=[]:=List.eq_nil_of_length_eq_zero (by rw [hnvl,hm];simp)
          subst hnv;obtain ⟨p1,p2⟩:=HR.phantom o1 (by rw [o3];exact hfree) (.arr e y)
          refine ⟨ρ,.slice ad 0 0,w,?_,.aslEnd _ _ _ _ _ (by rw [hyl,hy0,hm];rfl) ?_,p1,o2.trans p2 hf⟩
          ·rw [Co t t' ty e inf ht hinf xv rs.length [] s4 ad 0 0 (by omega)]
           cases ad with
           |none=>simp [hm]
           |some ad=>simp [storeCells,hm]
          ·rw [hnl,s2,hm,hn];simp
         ·exact grow ad 0 0 [] rfl hy0.symm (Nat.le_refl _) (by omega) (by rw [hy];exact .nil) (fun w' _=>by
           cases ad with
           |none=>simp [Builtin.firstCells]
           |some ad=>simp [Builtin.firstCells,loadCells,loadCellsFrom])
        |blk b off cap base cur et fz hb hl hcap hzz hw hcs hfz hv hn=>
         by_cases hroom:(Af U.V ys).rows.length+rs.length≤cap
         ·
          have hfit:((Af U.V ys).rows.length+rs.length)*ks.length≤cap*ks.length:=Nat.mul_le_mul_right _ hroom;rw [Nat.add_mul] at hfit
          have hone:∀v∈nv,v.oneCell'=true:=by
           intro v hvm;obtain ⟨q,hq,rfl⟩:=List.getElem_of_mem hvm
           have hpos:0<ks.length:=by
            rcases Nat.eq_zero_or_pos ks.length with h0|h0
            ·rw [s3.1,h0] at hq;simp at hq
            ·exact h0
           have hqd:q/ks.length<rs.length:=by
            rw [s3.1] at hq;exact Nat.div_lt_of_lt_mul (by rw [Nat.mul_comm];exact hq)
           have hqm:q%ks.length<ks.length:=Nat.mod_lt _ hpos;have:=s3.2.2 (q/ks.length) (q%ks.length) (ks[q%ks.length]) hqd (by simp [hqm])
           have e1:q/ks.length*ks.length+q%ks.length=q:=by rw [Nat.mul_comm];exact Nat.div_add_mod _ _
           rw [e1] at this;have e2:nv.getD q Go.undef=nv[q]:=by simp [List.getD_eq_getElem?_getD,hq]
           rw [e2] at this;generalize nv[q]=v0 at this;generalize ks[q%ks.length]=kq at this;cases this<;>rfl
          obtain ⟨w',cur',q1,q2,q3,q4,q5,q6,q7,q8,q9⟩:=BN E.P base.cb (base.co+off+(Af U.V ys).rows.length*ks.length) et fz nv 0 w cur hw (by rw [s3.1,hcs];omega) (by rw [hcs];exact hfz) hone
          have hrows:A6 U.K ρ.imm ks cur' (base.co+off) (Af U.V y).rows:=by
           have hvals:=hv.vals.append s3;rw [←s1] at hvals
           have hl1:((cur.toList.drop (base.co+off)).take ((Af U.V ys).rows.length*ks.length)).length=(Af U.V ys).rows.length*ks.length:=by
            have:=hv.1;simp;omega
           refine hvals.at (by rw [List.length_append,hl1,s3.1,q3,hcs];omega) (fun q hq=>?_)
           rw [List.length_append,hl1] at hq;rw [q4];simp only [Nat.add_zero];by_cases hq1:q<(Af U.V ys).rows.length*ks.length
           ·rw [if_neg (by omega),List.getElem?_append_left (by rw [hl1];exact hq1),List.getElem?_take,if_pos hq1,List.getElem?_drop,Array.getElem?_toList]
           ·rw [if_pos (by omega),List.getElem?_append_right (by rw [hl1];omega),hl1]
            congr 1;omega
          obtain ⟨p1,p2⟩:=hr.move hb hl hfree (base':=⟨base.cb,base.co+off,base.csz⟩) rfl (.arr e y) w' ⟨ks,cur',et,fz,hk2,q2,by rw [q3,hcs],hfz,hrows⟩ q5 q6 q7 q8 q9
          refine ⟨_,.slice (some ⟨base.cb,base.co+off,none⟩) ((Af U.V ys).rows.length+rs.length) cap,w',?_,?_,p1,p2⟩
          ·rw [Co t t' ty e inf ht hinf xv rs.length nv s4 _ _ cap hroom];simp only [BJ,←hsz];rw [q1];rfl
          ·have hNl:(Ag U.V (.lenL y)).toNat=(Af U.V ys).rows.length+rs.length:=by rw [hyl];exact Int.toNat_natCast _
           have:=VR.asl (ρ:=ρ.upd h.nx ⟨base.cb,base.co+off,base.csz⟩) h.nx inf.size (.lenL y) (.and nls (.eql m (.c 0))) cap ⟨base.cb,base.co+off,base.csz⟩ (Ren.upd_same _ _ _) (by rw [hyl];omega) (by rw [hNl];exact hroom) (by rw [←hsz];exact hzz) (by rw [hnl,hn];rfl)
           rw [hNl] at this;exact this
         ·have hovl:((cur.toList.drop (base.co+off)).take ((Af U.V ys).rows.length*ks.length)).length=(Af U.V ys).rows.length*ks.length:=by
           have:=hv.1;simp;omega
          exact grow (some ⟨base.cb,base.co+off,none⟩) _ cap _ rfl rfl hcap (by omega) hv.vals (fun w' hw'=>by
           simp only [Builtin.firstCells,←hsz];exact Av E.P w' base.cb (base.co+off) _ cur et fz (by rw [hw'];exact hw) hv.1)
       ·cases ha
      ·cases ha
     ·cases ha
    ·cases ha
   ·cases ha
  ·cases ha
end
end Go.AE
namespace Go.AE
variable [Gl:Au]
variable [U:Unk]
section
variable {E:Env} {ρ:Ren} {w:World} (hE:OK E)
include hE
theorem TG {t:TypeId} (hd:E.desc t=some .bool) (n:Nat) (a b:Bool):aeq E (n+1) t (.bool a) (.bool b)=some (a==b):=by
 simp only [aeq,hd]
theorem Gf {op:BinOp} {t:TypeId} {ox oy:Operand} (hd:E.desc t=some .bool) (a b q:Bool) (hq:Bu op (a==b)=some q) :
  (do eqGuard op t ox oy (.bool a) (.bool b);binOp op t (.bool a) (.bool b):Sem Value).run E.P w=.ok (.bool q) w:=by
 have hb:O2 E op t (.bool a) (.bool b)=some (.bool q):=by
  have h1:=TG hE hd 9999 a b;cases op<;>simp only [Bu,reduceCtorEq,Option.some.injEq] at hq
  ·subst hq;show (aeq E 10000 t _ _).map AV.bool=_;rw [h1];rfl
  ·subst hq;show ((aeq E 10000 t _ _).map fun b=>AV.bool (!b))=_;rw [h1];rfl
 obtain ⟨v,q1,q2⟩:=QH (ρ:=Ren.empty) (w:=w) (ox:=ox) (oy:=oy) hE (.bool a) (.bool b) hb;cases q2;exact q1
omit hE in
theorem Ej {x:AV} {xv:Value} (hx:VR ρ x xv):(∀b,M6 x=some (.inl b)→xv=.bool b)∧(∀p e,M6 x=some (.inr (p,e))→xv=.bool (Ai U.V e==p)):=by
 cases x<;>simp only [M6,reduceCtorEq,false_imp_iff,implies_true,and_self]
 ·rename_i b;cases hx;exact ⟨fun c h=>(by cases h;rfl),fun p e h=>(by cases h)⟩
 ·rename_i p e;cases hx;refine ⟨fun b h=>?_,fun p' e' h=>?_⟩
  ·split at h
   ·rename_i c hc;cases h;rw [An U.ok hc]
   ·cases h
  ·split at h
   ·cases h
   ·cases h;rfl
theorem GH {op:BinOp} {t e:TypeId} {ox oy:Operand} (hd:E.desc t=some (.slice e)) (a:Option Addr) (n c:Nat) (q:Bool) (hq:Bu op a.isNone=some q) (h0:a=none→n=0∧c=0) :
  (do eqGuard op t ox oy (.slice a n c) (.slice none 0 0);binOp op t (.slice a n c) (.slice none 0 0):Sem Value).run E.P w=.ok (.bool q) w∧
  (do eqGuard op t ox oy (.slice none 0 0) (.slice a n c);binOp op t (.slice none 0 0) (.slice a n c):Sem Value).run E.P w=.ok (.bool q) w:=by
 have hu:=hE.run_und hd w;have g1:(eqGuard op t ox oy (.slice a n c) (.slice none 0 0)).run E.P w=.ok () w:=BA (by simp) (by simp)
 have g2:(eqGuard op t ox oy (.slice none 0 0) (.slice a n c)).run E.P w=.ok () w:=BA (by simp) (by simp)
 obtain ⟨b1,b2⟩:=Dr t (.slice a n c) (.slice none 0 0) (by simp) (by simp) (by simp) (by simp)
 obtain ⟨b3,b4⟩:=Dr t (.slice none 0 0) (.slice a n c) (by simp) (by simp) (by simp) (by simp)
 have f1:∀m:Nat,(Op.equalIn (m+1) t (.slice a n c) (.slice none 0 0)).run E.P w=.ok a.isNone w:=by
  intro m;cases a<;>simp [Op.equalIn,hu]
 have f2:∀m:Nat,(Op.equalIn (m+1) t (.slice none 0 0) (.slice a n c)).run E.P w=.ok a.isNone w:=by
  intro m;cases a<;>simp [Op.equalIn,hu]
 have e1:(Op.equal t (.slice a n c) (.slice none 0 0)).run E.P w=.ok a.isNone w:=f1 9999;have e2:(Op.equal t (.slice none 0 0) (.slice a n c)).run E.P w=.ok a.isNone w:=f2 9999;cases op<;>simp only [Bu,reduceCtorEq,Option.some.injEq] at hq
 ·subst hq;refine ⟨?_,?_⟩
  ·simp only [Sem.run_bind,g1,Result.andThen_ok,b1,e1];rfl
  ·simp only [Sem.run_bind,g2,Result.andThen_ok,b3,e2];rfl
 ·subst hq;refine ⟨?_,?_⟩
  ·simp only [Sem.run_bind,g1,Result.andThen_ok,b2,e1];rfl
  ·simp only [Sem.run_bind,g2,Result.andThen_ok,b4,e2];rfl
theorem Kk {op:BinOp} {t kt vt:TypeId} {ox oy:Operand} (hd:E.desc t=some (.map kt vt)) (a:Option Nat) (q:Bool) (hq:Bu op a.isNone=some q) :
  (do eqGuard op t ox oy (.map a) (.map none);binOp op t (.map a) (.map none):Sem Value).run E.P w=.ok (.bool q) w∧
  (do eqGuard op t ox oy (.map none) (.map a);binOp op t (.map none) (.map a):Sem Value).run E.P w=.ok (.bool q) w:=by
 have hu:=hE.run_und hd w;have g1:(eqGuard op t ox oy (.map a) (.map none)).run E.P w=.ok () w:=BA (by simp) (by simp)
 have g2:(eqGuard op t ox oy (.map none) (.map a)).run E.P w=.ok () w:=BA (by simp) (by simp)
 obtain ⟨b1,b2⟩:=Dr t (.map a) (.map none) (by simp) (by simp) (by simp) (by simp)
 obtain ⟨b3,b4⟩:=Dr t (.map none) (.map a) (by simp) (by simp) (by simp) (by simp)
 have f1:∀m:Nat,(Op.equalIn (m+1) t (.map a) (.map none)).run E.P w=.ok a.isNone w:=by
  intro m;cases a<;>simp [Op.equalIn,hu]
 have f2:∀m:Nat,(Op.equalIn (m+1) t (.map none) (.map a)).run E.P w=.ok a.isNone w:=by
  intro m;cases a<;>simp [Op.equalIn,hu]
 have e1:(Op.equal t (.map a) (.map none)).run E.P w=.ok a.isNone w:=f1 9999;have e2:(Op.equal t (.map none) (.map a)).run E.P w=.ok a.isNone w:=f2 9999;cases op<;>simp only [Bu,reduceCtorEq,Option.some.injEq] at hq
 ·subst hq;refine ⟨?_,?_⟩
  ·simp only [Sem.run_bind,g1,Result.andThen_ok,b1,e1];rfl
  ·simp only [Sem.run_bind,g2,Result.andThen_ok,b3,e2];rfl
 ·subst hq;refine ⟨?_,?_⟩
  ·simp only [Sem.run_bind,g1,Result.andThen_ok,b2,e1];rfl
  ·simp only [Sem.run_bind,g2,Result.andThen_ok,b4,e2];rfl
omit hE in
theorem Qh {x:AV} {xv:Value} {s:SE} (hx:VR ρ x xv) (h:Ux x=some s):∃a,xv=.map a∧Ai U.V s=a.isNone:=by
 cases hx<;>simp only [Ux,reduceCtorEq,Option.some.injEq] at h<;>subst h
 ·exact ⟨none,rfl,rfl⟩
 ·exact ⟨_,rfl,rfl⟩
 ·rename_i hn;exact ⟨_,rfl,by rw [hn];rfl⟩
 ·rename_i hn;exact ⟨_,rfl,by rw [hn];rfl⟩
omit hE in
theorem P5 {x:AV} {xv:Value} {s:SE} (hx:VR ρ x xv) (h:Vz x=some s):∃a n c,xv=.slice a n c∧(a=none→n=0∧c=0)∧Ai U.V s=a.isNone:=by
 cases hx<;>simp only [Vz,reduceCtorEq,Option.some.injEq] at h<;>subst h
 ·exact ⟨none,0,0,rfl,fun _=>⟨rfl,rfl⟩,rfl⟩
 ·exact ⟨_,_,_,rfl,fun h=>(by cases h),rfl⟩
 ·exact ⟨_,_,_,rfl,fun h=>(by cases h),rfl⟩
 ·rename_i e x a n c hd;refine ⟨a,n,c,rfl,?_,?_⟩
  ·rintro rfl
   cases hd;exact ⟨rfl,rfl⟩
  ·have:Ai U.V (.isNil x)=(Af U.V x).isNil:=rfl;rw [this];cases hd with
   |nil _ _ h1=>rw [h1];rfl
   |empty _ _ _ _ h1=>rw [h1];rfl
   |slc _ _ _ _ _ _ _ _ _ _ _ _ h1=>rw [h1];rfl
 ·rename_i hn;exact ⟨_,_,_,rfl,fun h=>(by cases h),by rw [hn];rfl⟩
 ·rename_i a h0 hn;exact ⟨a,0,0,rfl,fun _=>⟨rfl,rfl⟩,hn.symm⟩
 ·rename_i a hn;exact ⟨a,0,0,rfl,fun _=>⟨rfl,rfl⟩,hn.symm⟩
omit hE in
theorem GY {op:BinOp} {p q:Bool} (h:Bu op p=some q) (x:Bool):Bu op (x==p)=some (x==q):=by
 cases op<;>simp only [Bu,reduceCtorEq,Option.some.injEq] at h ⊢<;>subst h<;>cases x<;>cases p<;>rfl
theorem YC {op:BinOp} {t:TypeId} {ox oy:Operand} {x y r:AV} {xv yv:Value} (hx:VR ρ x xv) (hy:VR ρ y yv) (hr:eqV (E.desc t) op x y=some r) :
  ∃v,(do eqGuard op t ox oy xv yv;binOp op t xv yv:Sem Value).run E.P w=.ok v w∧VR ρ r v:=by
 unfold eqV at hr;split at hr
 ·rename_i hd;split at hr
  ·rename_i a b h1 h2;rw [(Ej hx).1 _ h1,(Ej hy).1 _ h2];cases hq:Bu op (a==b) with
   |none=>rw [hq] at hr;cases hr
   |some q=>rw [hq] at hr;cases hr;exact ⟨_,Gf hE hd a b q hq,.bool q⟩
  ·rename_i p e b h1 h2;rw [(Ej hx).2 _ _ h1,(Ej hy).1 _ h2];cases hq:Bu op (p==b) with
   |none=>rw [hq] at hr;cases hr
   |some q=>
    rw [hq] at hr;cases hr;refine ⟨_,Gf hE hd _ _ (Ai U.V e==q) ?_,.sb q e⟩;have:=GY hq (Ai U.V e);rw [←this];congr 1;cases Ai U.V e<;>cases p<;>cases b<;>rfl
  ·rename_i b p e h1 h2;rw [(Ej hx).1 _ h1,(Ej hy).2 _ _ h2];cases hq:Bu op (p==b) with
   |none=>rw [hq] at hr;cases hr
   |some q=>
    rw [hq] at hr;cases hr;refine ⟨_,Gf hE hd _ _ (Ai U.V e==q) ?_,.sb q e⟩;have:=GY hq (Ai U.V e);rw [←this];congr 1;cases Ai U.V e<;>cases p<;>cases b<;>rfl
  ·cases hr
 ·rename_i e hd
  have one:∀{s:SE} {a:Option Addr},Ai U.V s=a.isNone→(Bu op true).map (fun q=>mkB q s)=some r→∃q,Bu op a.isNone=some q∧VR ρ r (.bool q):=by
   intro s a hs hm;cases hq:Bu op true with
   |none=>rw [hq] at hm;cases hm
   |some q=>
    rw [hq] at hm;cases hm;have:=GY hq a.isNone;refine ⟨a.isNone==q,?_,hs▸Fh ρ q s⟩;rw [←this];congr 1;cases a.isNone<;>rfl
  split at hr
  ·split at hr
   ·rename_i s hs;cases hx;obtain ⟨a,n,c,rfl,h0,hb⟩:=P5 hy hs;obtain ⟨q,q1,q2⟩:=one hb hr;exact ⟨_,(GH hE hd a n c q q1 h0).2,q2⟩
   ·cases hr
  ·split at hr
   ·rename_i s hs;cases hy;obtain ⟨a,n,c,rfl,h0,hb⟩:=P5 hx hs;obtain ⟨q,q1,q2⟩:=one hb hr;exact ⟨_,(GH hE hd a n c q q1 h0).1,q2⟩
   ·cases hr
  ·cases hr
 ·rename_i kt vt hd
  have one:∀{s:SE} {a:Option Nat},Ai U.V s=a.isNone→(Bu op true).map (fun q=>mkB q s)=some r→∃q,Bu op a.isNone=some q∧VR ρ r (.bool q):=by
   intro s a hs hm;cases hq:Bu op true with
   |none=>rw [hq] at hm;cases hm
   |some q=>
    rw [hq] at hm;cases hm;have:=GY hq a.isNone;refine ⟨a.isNone==q,?_,hs▸Fh ρ q s⟩;rw [←this];congr 1;cases a.isNone<;>rfl
  split at hr
  ·split at hr
   ·rename_i s hs;cases hx;obtain ⟨a,rfl,hb⟩:=Qh hy hs;obtain ⟨q,q1,q2⟩:=one hb hr;exact ⟨_,(Kk hE hd a q q1).2,q2⟩
   ·cases hr
  ·split at hr
   ·rename_i s hs;cases hy;obtain ⟨a,rfl,hb⟩:=Qh hx hs;obtain ⟨q,q1,q2⟩:=one hb hr;exact ⟨_,(Kk hE hd a q q1).1,q2⟩
   ·cases hr
  ·cases hr
 ·cases hr
omit hE in
theorem Jo (P:Program) (k:IntKind):∀{l:List AV} {l':List Value} {x:SE} {a:AV},VL ρ l l'→LI k x l=some a→∃v,(l'.foldlM Builtin.max2 (.int k (Ag U.V x))).run P w=.ok v w∧VR ρ a v
 |[],l',x,a,hl,h=>by
  rw [hl.nil_inv];simp only [LI,Option.some.injEq] at h;subst h;exact ⟨_,by simp,B3 ρ k x⟩
 |y::r,l',x,a,hl,h=>by
  obtain ⟨v,r',rfl,hv,hr⟩:=hl.cons_inv;simp only [LI] at h;split at h
  ·rename_i k' b hb;have ev:=Ci hv hb;subst ev;split at h
   ·rename_i hd;have:=An U.ok hd;rw [Ap,decide_eq_true_eq] at this;obtain ⟨u,q1,q2⟩:=Jo P k hr h;refine ⟨u,?_,q2⟩;simp only [List.foldlM_cons,Builtin.max2,Sem.run_bind,Sem.run_pure,Result.andThen_ok];rw [if_pos (by omega)];exact q1
   ·rename_i hd;have:=An U.ok hd;rw [Ap,decide_eq_false_iff_not] at this;obtain ⟨u,q1,q2⟩:=Jo P k hr h;refine ⟨u,?_,q2⟩;simp only [List.foldlM_cons,Builtin.max2,Sem.run_bind,Sem.run_pure,Result.andThen_ok];rw [if_neg (by omega)];exact q1
   ·cases h
  ·cases h
omit hE in
theorem Ku (P:Program) (k:IntKind):∀{l:List AV} {l':List Value} {x:SE} {a:AV},VL ρ l l'→LC k x l=some a→∃v,(l'.foldlM Builtin.min2 (.int k (Ag U.V x))).run P w=.ok v w∧VR ρ a v
 |[],l',x,a,hl,h=>by
  rw [hl.nil_inv];simp only [LC,Option.some.injEq] at h;subst h;exact ⟨_,by simp,B3 ρ k x⟩
 |y::r,l',x,a,hl,h=>by
  obtain ⟨v,r',rfl,hv,hr⟩:=hl.cons_inv;simp only [LC] at h;split at h
  ·rename_i k' b hb;have ev:=Ci hv hb;subst ev;split at h
   ·rename_i hd;have:=An U.ok hd;rw [Ap,decide_eq_true_eq] at this;obtain ⟨u,q1,q2⟩:=Ku P k hr h;refine ⟨u,?_,q2⟩;simp only [List.foldlM_cons,Builtin.min2,Sem.run_bind,Sem.run_pure,Result.andThen_ok];rw [if_pos (by omega)];exact q1
   ·rename_i hd;have:=An U.ok hd;rw [Ap,decide_eq_false_iff_not] at this;obtain ⟨u,q1,q2⟩:=Ku P k hr h;refine ⟨u,?_,q2⟩;simp only [List.foldlM_cons,Builtin.min2,Sem.run_bind,Sem.run_pure,Result.andThen_ok];rw [if_neg (by omega)];exact q1
   ·cases h
  ·cases h
omit hE in
theorem Sc {ats:Array TypeId} {ty:TypeId} {args:List AV} {args':List Value} {a:AV} (ha:VL ρ args args') (hq:To args=some a):∃v,(Builtin.max_ ats ty args'.toArray).run E.P w=.ok v w∧VR ρ a v:=by
 cases args with
 |nil=>cases hq
 |cons x r=>
  obtain ⟨v,r',rfl,hv,hl⟩:=ha.cons_inv;simp only [To] at hq;split at hq
  ·rename_i k e he;have ev:=Ci hv he;subst ev;obtain ⟨u,q1,q2⟩:=Jo (w:=w) E.P k hl hq;exact ⟨u,by simpa [Builtin.max_] using q1,q2⟩
  ·cases hq
omit hE in
theorem SO {ats:Array TypeId} {ty:TypeId} {args:List AV} {args':List Value} {a:AV} (ha:VL ρ args args') (hq:SI args=some a):∃v,(Builtin.min_ ats ty args'.toArray).run E.P w=.ok v w∧VR ρ a v:=by
 cases args with
 |nil=>cases hq
 |cons x r=>
  obtain ⟨v,r',rfl,hv,hl⟩:=ha.cons_inv;simp only [SI] at hq;split at hq
  ·rename_i k e he;have ev:=Ci hv he;subst ev;obtain ⟨u,q1,q2⟩:=Ku (w:=w) E.P k hl hq;exact ⟨u,by simpa [Builtin.min_] using q1,q2⟩
  ·cases hq
omit hE in
theorem Y9 {op:UnOp} {x r:AV} {xv:Value} (hx:VR ρ x xv) (hr:unB op x=some r):∃v,(Op.unary op xv).run E.P w=.ok v w∧VR ρ r v:=by
 unfold unB at hr;split at hr
 ·rename_i k e;cases hr;cases hx;refine ⟨_,by simp only [Op.unary,Op.intArith,Sem.run_pure];rfl,?_⟩
  have:=B3 ρ k (.arith .sub k (.c 0) e);rw [DZ] at this;simpa [CK,Bn] using this
 ·exact Yl hx hr
omit hE in
theorem QI {ks:List Kd} {z:List AV} {r:SE} (hrow:Fg ks z=some r):∀(n:Nat) (vs:List Value),VL ρ (Bj z n) vs→A5 U.K ρ.imm ks vs (List.replicate n (Af U.V r))
 |0,vs,h=>by
  have:=h.nil_inv;subst this;exact .nil
 |n+1,vs,h=>by
  have hzl:z.length=ks.length:=by
   have:∀(ks:List Kd) (l:List AV) (r:SE),Fg ks l=some r→l.length=ks.length:=by
    intro ks
    induction ks with
    |nil=>intro l r h;cases l with|nil=>rfl|cons=>cases h
    |cons k ks ih=>
     intro l r h;cases l with
     |nil=>cases h
     |cons a l=>
      simp only [Fg] at h;split at h
      ·rename_i x y hx hy;simp [ih l y hy]
      ·cases h
   exact this ks z r hrow
  have h1:=h.take z.length;have h2:=h.drop z.length;have e1:(Bj z (n+1)).take z.length=z:=by simp [Bj]
  have e2:(Bj z (n+1)).drop z.length=Bj z n:=by simp [Bj]
  rw [e1] at h1;rw [e2] at h2;obtain ⟨q1,q2,q3⟩:=Ee ks z _ r hrow h1;have:=(A5.one (ρ:=ρ) q1 q2 q3).append (QI hrow n _ h2);rw [List.take_append_drop] at this;simpa [List.replicate_succ] using this
theorem KG {h h':Aa} (hr:HR ρ h.blk.get w) {t:TypeId} {l c a:AV} {lv cv:Value} (hl:VR ρ l lv) (hcv:VR ρ c cv) (hb:Ge E t l c h=some (a,h')) (hf:Ax ρ h.nx h'.nx) :
  AB E ρ h h' w (Instr.makeSlice t lv cv) a:=by
 unfold Ge at hb;split at hb
 ·rename_i k ie;split at hb
  ·rename_i k2 im;split at hb
   ·rename_i e hc0 hd;split at hb
    ·rename_i inf ks z hi hk hz;split at hb
     ·rename_i r hc hrow;cases hb;obtain ⟨hk0,hsame⟩:=Am hc0;have hk1:k=.i64:=by simpa using hk0
      have hsm:=SE.same_ok hsame;subst hk1;subst hsm;obtain ⟨hc,c5⟩:=Am hc;obtain ⟨hc,c4⟩:=Am hc;obtain ⟨hc,c3⟩:=Am hc;obtain ⟨c1,c2⟩:=Am hc;have e1:=Aq c1;have e2:=Aq c2;have e3:=Cs c3;have b4:=GZ c4;have b5:=Hm c5;rw [Ap,decide_eq_false_iff_not,Bn] at b4;rw [Ap,decide_eq_true_eq,Bn] at b5;cases hl;cases hcv;generalize hN:Ag U.V ie=N at *;obtain ⟨n,rfl⟩:∃n:Nat,N=n:=⟨N.toNat,by omega⟩
      obtain ⟨zv,z1,z2⟩:=hE.run_zero ρ hz w;have zc:=(Ay ρ z2).cells (Ba z2);have hfree:ρ h.nx=none:=hf h.nx (Nat.le_refl _) (by simp [Aa.new])
      have h0:n*z.cells.length=0∨(if n*inf.size=0 then #[] else zv.cells)=zv.cells:=by
       rw [e2];by_cases e0:n*inf.size=0
       ·exact .inl e0
       ·exact .inr (by rw [if_neg e0])
      have hcells:=DN zc n (if n*inf.size=0 then #[] else zv.cells) h0
      have hvr:=QI (ρ:=ρ) hrow n _ hcells;rw [e2] at hcells hvr;have hk2:U.K e=some ks:=by rw [hE.kd,←hE.ke];exact hk
      generalize hX:(Array.range (n*inf.size)).map ((if n*inf.size=0 then #[] else zv.cells)[· % (if n*inf.size=0 then #[] else zv.cells).size]!)=X at *
      have hXs:X.size=n*inf.size:=by rw [←hX];simp
      have er:(Af U.V (.rep ie r)).rows=List.replicate n (Af U.V r):=by
       show List.replicate (Af U.V ie).toInt.toNat _=_;have:(Af U.V ie).toInt=(n:Int):=hN;rw [this];rfl
      have hrows:A6 U.K ρ.imm ks X 0 (Af U.V (.rep ie r)).rows:=by
       rw [er];exact hvr.at (by simp) (fun q hq=>by rw [Nat.zero_add,Array.getElem?_toList])
      obtain ⟨p1,p2⟩:=hr.new hfree (.arr e (.rep ie r)) (.cells X e) X.size ⟨ks,_,e,_,hk2,rfl,rfl,.inl rfl,hrows⟩ {w with heap:=w.heap.push (.cells X e)} rfl rfl rfl rfl
      have hwrap:=EJ n (by omega)
      refine ⟨_,.slice (some ⟨w.heap.size,0,none⟩) n n,_,?_,?_,p1,p2⟩
      ·have hby:inf.bytes*n≤1024*1048577:=Nat.mul_le_mul e3 (by omega)
       simp only [Instr.makeSlice,Sem.run_bind,hE.run_und hd,Result.andThen_ok,asInt,asIntOf,Sem.run_pure,hE.run_info hi,hwrap]
       have hbn:¬((inf.bytes:Int)*(n:Int)>2^48):=by
        have:((inf.bytes*n:Nat):Int)≤1024*1048577:=by omega
        rw [Int.natCast_mul] at this;omega
       have hcond:(decide ((n:Int)<0)||decide ((inf.bytes:Int)*(n:Int)>2^48)||decide ((n:Int)<0)||decide ((n:Int)>(n:Int)))=false:=by
        rw [decide_eq_false hbn,decide_eq_false (show ¬((n:Int)<0) by omega),decide_eq_false (show ¬((n:Int)>(n:Int)) by omega)]
        rfl
       rw [if_neg (by rw [hcond];exact Bool.false_ne_true)]
       simp only [Sem.run_bind,run_askRoom,Result.andThen_ok,Int.toNat_natCast,hE.run_sz hi];by_cases e0:n*inf.size=0
       ·rw [if_pos e0] at hX;rw [if_pos e0];simp only [Sem.run_bind,Sem.run_pure,Result.andThen_ok,newRow,run_newObj,hX]
       ·rw [if_neg e0] at hX;rw [if_neg e0];simp only [Sem.run_bind,z1,Sem.run_pure,Result.andThen_ok,newRow,run_newObj,hX]
      ·have hlen:Ag U.V (.lenL (.rep ie r))=(n:Int):=by rw [Aj,er];simp
       have:=VR.asl (ρ:=ρ.upd h.nx ⟨w.heap.size,0,X.size⟩) h.nx inf.size (.lenL (.rep ie r)) (.bc false) n ⟨w.heap.size,0,X.size⟩ (Ren.upd_same _ _ _) (by rw [hlen];exact Int.natCast_nonneg _) (by rw [hlen];simp) (by show 0+n*inf.size≤X.size;rw [hXs];omega) rfl
       rw [hlen] at this;simpa using this
     ·cases hb
    ·cases hb
   ·cases hb
  ·cases hb
 ·exact KQ hE hr hl hcv hb hf
end
end Go.AE
namespace Go.AE
variable [Gl:Au]
variable [U:Unk]
section
variable {E:Env} {w:World} (hE:OK E)
include hE
theorem HR.freeze {ρ:Ren} {h:Aa} (hr:HR ρ h.blk.get w) {b:Nat} {base:Bf} (hb:ρ b=some base) (hl:h.blk.get b≠none) {cur:Array Value} {e:TypeId} {fz:Nat×Nat} (hw:w.heap[base.cb]?=some (.cells cur e fz)) :
  ∃σ:Ren,ρ.le σ∧σ.imm base.cb=some cur∧HR σ (h.strike b).blk.get w∧Ext ρ σ h (h.strike b) w w:=by
 let σ:Ren:=⟨ρ.m,fun k=>if k=base.cb then some cur else ρ.imm k⟩
 have hle:ρ.le σ:=⟨fun _ _ h=>h,fun k a hk=>by
  show (if k=base.cb then some cur else ρ.imm k)=some a
  rw [if_neg (fun e=>hr.off k a b base hk hb hl e.symm)]
  exact hk⟩
 have hstr:∀c,(h.strike b).blk.get c≠none→c≠b∧h.blk.get c≠none:=by
  intro c hc;simp only [Aa.strike,T.get_del] at hc;by_cases e:b=c
  ·rw [if_pos e] at hc;exact absurd rfl hc
  ·rw [if_neg e] at hc;exact ⟨fun e'=>e e'.symm,hc⟩
 have hget:∀c,c≠b→(h.strike b).blk.get c=h.blk.get c:=by
  intro c hc;simp only [Aa.strike,T.get_del];rw [if_neg (fun e=>hc e.symm)]
 obtain ⟨p1,p2⟩:=hr.strike b;refine ⟨σ,hle,?_,⟨hr.lt,?_,?_,?_,?_,hr.glob.mono hle.imm⟩,⟨hle,p2.nx,fun c bs hc=>.inl hc,p2.calm,fun _ _ _=>rfl,p2.log,p2.live,?_⟩⟩
 ·show (if base.cb=base.cb then some cur else _)=_
  rw [if_pos rfl]
 ·intro c bs x hc hx;have hc2:=hstr c (by rw [hx];exact Option.some_ne_none _)
  rw [hget c hc2.1] at hx;exact (hr.blk c bs x hc hx).mono hle
 ·intro c c' bs bs' hne hc hc' h1 h2;exact hr.apart c c' bs bs' hne hc hc' (hstr c h1).2 (hstr c' h2).2
 ·intro k arr hk;have hk':(if k=base.cb then some cur else ρ.imm k)=some arr:=hk
  by_cases c:k=base.cb
  ·rw [if_pos c] at hk';cases hk';subst c;exact ⟨e,fz,hw⟩
  ·rw [if_neg c] at hk';exact hr.imm k arr hk'
 ·intro k arr c bs hk hc hlc;have hc2:=hstr c hlc;have hk':(if k=base.cb then some cur else ρ.imm k)=some arr:=hk
  by_cases d:k=base.cb
  ·subst d;exact hr.apart c b bs base hc2.1 hc hb hc2.2 hl
  ·rw [if_neg d] at hk';exact hr.off k arr c bs hk' hc hc2.2
 ·intro k arr hk;have hk':(if k=base.cb then some cur else ρ.imm k)=some arr:=hk
  by_cases d:k=base.cb
  ·exact .inr (.inr ⟨b,base,hb,hl,d.symm⟩)
  ·rw [if_neg d] at hk';exact .inl hk'
theorem Jj {ρ:Ren} {h h':Aa} {kd:Kd} {a a':AV} {v:Value} (hr:HR ρ h.blk.get w) (ha:VR ρ a v) (hx:IV E kd a h=(a',h')) :
  ∃σ:Ren,VR σ a' v∧HR σ h'.blk.get w∧Ext ρ σ h h' w w:=by
 have same:(a,h)=(a',h')→∃σ:Ren,VR σ a' v∧HR σ h'.blk.get w∧Ext ρ σ h h' w w:=by
  intro e;cases e;exact ⟨ρ,ha,hr,Ext.refl _ _ _⟩
 unfold IV at hx;split at hx
 ·rename_i e;split at hx
  ·rename_i b es n nl;split at hx
   ·rename_i e' x ks hg hk;split at hx
    ·rename_i hc;cases hx;obtain ⟨hc,c3⟩:=Am hc;obtain ⟨c1,c2⟩:=Am hc;have e1:=Aq c1;subst e1;have e2:=Aq c2;have ha:=HG c3 ha;have hk2:U.K e=some ks:=by rw [hE.kd,←hE.ke];exact hk
     have hnil:(Af U.V (.nilIs x nl)).isNil=Ai U.V nl:=rfl;have hrw:(Af U.V (.nilIs x nl)).rows=(Af U.V x).rows:=rfl;cases ha with
     |asl _ _ _ _ cap base hb h0 hcap hz hnl=>
      obtain ⟨ks',cur,et,fz,b1,b2,b3,b4,b5⟩:=hr.blk b base _ hb hg;rw [hk2] at b1;cases b1;obtain ⟨σ,q1,q2,q3,q4⟩:=HR.freeze hE hr hb (by rw [hg];exact Option.some_ne_none _) b2
      have hlen:(Ag U.V (.lenL x)).toNat=(Af U.V x).rows.length:=by rw [Aj];simp
      refine ⟨σ,.dat e _ _ _ _ ?_,q3,q4⟩;have b6:=b5.mono q1.imm;exact .slc e base.cb base.co _ cap _ ks cur hk2 q2 (by rw [hrw,hlen]) hcap (by rw [hnil,hnl]) (by rw [hlen];exact b6.1) (fun i hi=>b6.2.1 i (by rw [hlen] at hi;exact hi)) (fun i j kd hi hj=>b6.2.2 i j kd (by rw [hlen] at hi;exact hi) hj)
     |aslEnd _ _ _ _ ad h0 hn0=>
      obtain ⟨p1,p2⟩:=hr.strike b
      have hl0:(Af U.V x).rows=[]:=by
       rw [Aj] at h0;exact List.eq_nil_of_length_eq_zero (by omega)
      refine ⟨ρ,.dat e _ _ _ _ ?_,p1,p2⟩;cases ad with
      |none=>exact .nil e _ (by rw [hnil,←hn0];rfl) (by rw [hrw];exact hl0)
      |some ad=>exact .empty e ad 0 _ (by rw [hnil,←hn0];rfl) (by rw [hrw];exact hl0)
    ·exact same hx
   ·exact same hx
  ·rename_i nl;cases hx;cases ha with
   |eslc _ ad hn0=>
    have hnil:(Af U.V (.nilIs .nilL nl)).isNil=Ai U.V nl:=rfl;refine ⟨ρ,.dat e _ _ _ _ ?_,hr,Ext.refl _ _ _⟩;cases ad with
    |none=>exact .nil e _ (by rw [hnil,←hn0];rfl) rfl
    |some ad=>exact .empty e ad 0 _ (by rw [hnil,←hn0];rfl) rfl
  ·rename_i b off n es;split at hx
   ·rename_i ks hk;split at hx
    ·rename_i l hes hl;split at hx
     ·rename_i y hy;cases hx;have hes:=Aq hes;have hk2:U.K e=some ks:=by rw [hE.kd,←hE.ke];exact hk
      obtain ⟨vs,v1,v2,v3⟩:=HN hE (e:=e) (ks:=ks) hr ha hl;obtain ⟨rs,r1,r2,r3⟩:=Eh (ρ:=ρ) n .emptyL y l vs hy v1;have er:(Af U.V y).rows=rs:=by rw [r2];rfl
      have hnil:(Af U.V y).isNil=false:=by
       have:∀(n:Nat) (y0 y:SE) (l:List AV),C8 ks n y0 l=some y→(Af U.V y0).isNil=false→(Af U.V y).isNil=false:=by
        intro n
        induction n with
        |zero=>intro y0 y l h h0;cases l with
         |nil=>simp only [C8,Option.some.injEq] at h;subst h;exact h0
         |cons=>cases h
        |succ n ih=>
         intro y0 y l h h0;simp only [C8] at h;split at h
         ·exact ih _ _ _ h rfl
         ·cases h
       exact this n .emptyL y l hy rfl
      rcases v3 with ⟨h0,ad,rfl⟩|⟨base,cur,et,fz,cap,sz,c,hb,hg,rfl,hcap,hz,hw,hcs,hfz,hv⟩
      ·obtain ⟨p1,p2⟩:=hr.strike b;exact ⟨ρ,.dat e _ _ _ _ (.empty e ad 0 _ hnil (by rw [er];exact List.eq_nil_of_length_eq_zero (by rw [r1,h0]))),p1,p2⟩
      ·obtain ⟨σ,q1,q2,q3,q4⟩:=HR.freeze hE hr hb (by rw [hg];exact Option.some_ne_none _) hw
       have hmul:n*es≤cap*es:=Nat.mul_le_mul_right _ hcap;have hrows:A6 U.K ρ.imm ks cur (base.co+off) rs:=r3.at (by rw [v2,hcs];omega) hv
       have b6:=hrows.mono q1.imm;rw [←er] at b6;have hln:(Af U.V y).rows.length=n:=by rw [er,r1]
       refine ⟨σ,.dat e _ _ _ _ (.slc e base.cb (base.co+off) n cap _ ks cur hk2 q2 hln hcap hnil ?_ (fun i hi=>b6.2.1 i (by rw [hln];exact hi)) (fun i j kd hi hj=>b6.2.2 i j kd (by rw [hln];exact hi) hj)),q3,q4⟩
       have:=b6.1;rw [hln] at this;exact this
     ·exact same hx
    ·exact same hx
   ·exact same hx
  ·exact same hx
 ·exact same hx
omit hE in
theorem Mm {kd:Kd} {a a':AV} {h h':Aa} (hx:IV E kd a h=(a',h')):h'.nx=h.nx:=by
 unfold IV at hx
 repeat' split at hx
 all_goals (cases hx;rfl)
theorem Jm:∀{ks:List Kd} {l l':List AV} {vs:List Value} {ρ:Ren} {h h':Aa},HR ρ h.blk.get w→VL ρ l vs→G9 E ks l h=(l',h')→
  h'.nx=h.nx∧∃σ:Ren,VL σ l' vs∧HR σ h'.blk.get w∧Ext ρ σ h h' w w
 |[],l,l',vs,ρ,h,h',hr,hv,hx=>by
  cases l<;>(simp only [G9] at hx;cases hx;exact ⟨rfl,ρ,hv,hr,Ext.refl _ _ _⟩)
 |k::ks,[],l',vs,ρ,h,h',hr,hv,hx=>by
  simp only [G9] at hx;cases hx;exact ⟨rfl,ρ,hv,hr,Ext.refl _ _ _⟩
 |k::ks,a::l,l',vs,ρ,h,h',hr,hv,hx=>by
  obtain ⟨v,r,rfl,h1,h2⟩:=hv.cons_inv;simp only [G9] at hx;generalize hf1:IV E k a h=p1 at hx;obtain ⟨a1,h3⟩:=p1;simp only at hx;generalize hf2:G9 E ks l h3=p2 at hx;obtain ⟨l1,h4⟩:=p2;simp only at hx;cases hx;have hn1:=Mm hf1;obtain ⟨σ,q1,q2,q3⟩:=Jj hE hr h1 hf1;obtain ⟨hn2,τ,r1,r2,r3⟩:=Jm q2 (h2.mono q3.le) hf2;refine ⟨by omega,τ,VL.cons (q1.mono r3.le) r1,r2,q3.trans r3 (fun b hb hb2=>by omega)⟩
omit hE in
theorem SU {kd:Kd} {a a':AV} {h h':Aa} (hx:IV E kd a h=(a',h')):h'=h∨∃b,h'=h.strike b:=by
 unfold IV at hx
 repeat' split at hx
 all_goals (cases hx;first|exact .inl rfl|exact .inr ⟨_,rfl⟩)
omit hE in
theorem Nj:∀{ks:List Kd} {l l':List AV} {h h':Aa},G9 E ks l h=(l',h')→h'.nx=h.nx∧(∃m,h'.log=m++h.log∧∀c,c∉m→h'.blk.get c=h.blk.get c)∧∀c,h'.blk.get c=none∨h'.blk.get c=h.blk.get c
 |[],l,l',h,h',hx=>by
  cases l<;>(simp only [G9] at hx;cases hx;exact ⟨rfl,⟨[],rfl,fun _ _=>rfl⟩,fun _=>.inr rfl⟩)
 |k::ks,[],l',h,h',hx=>by
  simp only [G9] at hx;cases hx;exact ⟨rfl,⟨[],rfl,fun _ _=>rfl⟩,fun _=>.inr rfl⟩
 |k::ks,a::l,l',h,h',hx=>by
  simp only [G9] at hx;generalize hf1:IV E k a h=p1 at hx;obtain ⟨a1,h3⟩:=p1;simp only at hx;generalize hf2:G9 E ks l h3=p2 at hx;obtain ⟨l1,h4⟩:=p2;simp only at hx;cases hx;obtain ⟨q1,⟨m,q2,q3⟩,q4⟩:=Nj hf2;rcases SU hf1 with rfl|⟨b,rfl⟩
  ·exact ⟨q1,⟨m,q2,q3⟩,q4⟩
  ·have hget:∀c,(h.strike b).blk.get c=if b=c then none else h.blk.get c:=fun c=>by simp only [Aa.strike,T.get_del]
   refine ⟨q1,⟨m++[b],by rw [q2];simp [Aa.strike],fun c hc=>?_⟩,fun c=>?_⟩
   ·simp only [List.mem_append,List.mem_singleton,not_or] at hc;rw [q3 c hc.1,hget,if_neg (fun e=>hc.2 e.symm)]
   ·rcases q4 c with r|r
    ·exact .inl r
    ·rw [r,hget];by_cases e:b=c
     ·rw [if_pos e];exact .inl rfl
     ·rw [if_neg e];exact .inr rfl
theorem IA {ρ:Ren} {h:Aa} {ks:List Kd} {b:Nat} (hr:HR ρ h.blk.get w):(Dw E ks b h).nx=h.nx∧∃σ:Ren,HR σ (Dw E ks b h).blk.get w∧Ext ρ σ h (Dw E ks b h) w w:=by
 have same:h.nx=h.nx∧∃σ:Ren,HR σ h.blk.get w∧Ext ρ σ h h w w:=⟨rfl,ρ,hr,Ext.refl _ _ _⟩
 unfold Dw;split
 ·rename_i n c hg;split
  ·rename_i l hl;split;rename_i l' h' hf;split
   ·rename_i m c' hg';split
    ·rename_i hc;obtain ⟨c1,c2⟩:=Am hc;have e1:=Aq c1;have e2:=Aq c2;subst e1;cases hb:ρ b with
     |none=>
      obtain ⟨s1,⟨mm,s2,s3⟩,s4⟩:=Nj hf;have hr':HR ρ h'.blk.get w:=hr.restrict (fun c=>s4 c)
      have hget:∀c,c≠b→(h'.put b (.cells m (.ofList l'))).blk.get c=h'.blk.get c:=fun c hc=>by
       simp only [Aa.put,T.get_set];rw [if_neg (fun e=>hc e.symm)]
      have ne:∀{c:Nat} {bs:Bf},ρ c=some bs→c≠b:=fun hc e=>by subst e;rw [hb] at hc;cases hc
      refine ⟨s1,ρ,⟨hr'.lt,fun c bs x hc hx=>?_,fun c c' bs bs' hne hc hc' h1 h2=>?_,hr'.imm,fun k arr c bs hk hc hl=>?_,hr'.glob⟩,⟨Ren.le_refl ρ,by show h.nx≤h'.nx;omega,fun _ _ e=>.inl e,Fq.refl w,fun _ _ _=>rfl,⟨b::mm,by simp [Aa.put,s2],fun c hc _=>?_⟩,fun c hc=>?_,fun _ _ e=>.inl e⟩⟩
      ·rw [hget c (ne hc)] at hx;exact hr'.blk c bs x hc hx
      ·rw [hget c (ne hc)] at h1;rw [hget c' (ne hc')] at h2;exact hr'.apart c c' bs bs' hne hc hc' h1 h2
      ·rw [hget c (ne hc)] at hl;exact hr'.off k arr c bs hk hc hl
      ·simp only [List.mem_cons,not_or] at hc;rw [hget c hc.1];exact s3 c hc.2
      ·by_cases e:c=b
       ·subst e;exact .inl (by rw [hg];exact Option.some_ne_none _)
       ·rw [hget c e] at hc;rcases s4 c with r|r
        ·rw [r] at hc;exact absurd rfl hc
        ·rw [r] at hc;exact .inl hc
     |some base=>
      obtain ⟨cur,et,fz,b1,b2,b3,b4,b5⟩:=hr.blk b base _ hb hg;obtain ⟨l1,l2⟩:=T.range_spec c _ _ _ hl
      have hvl:VL ρ l ((cur.toList.drop base.co).take m):=by
       refine ⟨by simp [l1];omega,fun i a v ha hv=>?_⟩
       have hi:i<m:=by have:=(List.getElem?_eq_some_iff.1 ha).1;omega
       have:=l2 i hi;rw [Nat.zero_add,ha] at this;obtain ⟨v',v1,v2⟩:=b5 i a hi this;rw [List.getElem?_take,if_pos hi,List.getElem?_drop,Array.getElem?_toList,v1] at hv;cases hv;exact v2
      obtain ⟨hn,σ,q1,q2,q3⟩:=Jm hE hr hvl hf;have hσ:σ b=some base:=q3.le.m b base hb
      obtain ⟨r1,r2⟩:=q2.put hσ (by rw [hg'];exact Option.some_ne_none _) (.cells m (.ofList l')) w ⟨cur,et,fz,b1,b2,b3,b4,fun i a hi ha=>by
       rw [T.get_ofList] at ha
       have hv:((cur.toList.drop base.co).take m)[i]?=cur[base.co+i]?:=by
        rw [List.getElem?_take,if_pos hi,List.getElem?_drop,Array.getElem?_toList]
       have hlt:base.co+i<cur.size:=by omega
       have hc:cur[base.co+i]?=some cur[base.co+i]:=by simp [hlt]
       exact ⟨_,hc,q1.2 i a _ ha (by rw [hv,hc])⟩⟩ rfl (fun _ _=>rfl) rfl rfl rfl
      exact ⟨hn,σ,r1,q3.trans r2 (fun c h1 h2=>by simp only [Aa.put] at h2;omega)⟩
    ·exact same
   ·exact same
  ·exact same
 ·exact same
theorem LK {ρ:Ren} {h:Aa} {e:TypeId} {b:Nat} (hr:HR ρ h.blk.get w):(Gi E e b h).nx=h.nx∧∃σ:Ren,HR σ (Gi E e b h).blk.get w∧Ext ρ σ h (Gi E e b h) w w:=by
 unfold Gi;split
 ·exact IA hE hr
 ·exact ⟨rfl,ρ,hr,Ext.refl _ _ _⟩
omit hE in
theorem QR {t:TypeId} {x a:AV} {h h':Aa} (hx:C7 E t x a h=some h'):h'.nx=h.nx:=by
 unfold C7 HL storeN at hx
 repeat' split at hx
 all_goals first | (cases hx;done) | (cases hx;rfl)
theorem NG {ρ:Ren} {h h':Aa} (hr:HR ρ h.blk.get w) {t:TypeId} {x a:AV} {xv v:Value} (hx:VR ρ x xv) (ha:VR ρ a v) (hl:Hl E t x a h=some h') :
  ∃σ w',(Instr.storeAt t xv v).run E.P w=.ok () w'∧HR σ h'.blk.get w'∧Ext ρ σ h h' w w':=by
 have plain:C7 E t x a h=some h'→∃σ w',(Instr.storeAt t xv v).run E.P w=.ok () w'∧HR σ h'.blk.get w'∧Ext ρ σ h h' w w':=by
  intro hs;obtain ⟨w',q1,q2,q3⟩:=HJ hE hr hx ha hs;exact ⟨ρ,w',q1,q2,q3⟩
 have snx:∀{t:TypeId} {x a:AV} {h h':Aa},C7 E t x a h=some h'→h'.nx=h.nx:=QR
 unfold Hl at hl;split at hl
 ·split at hl
  ·split at hl
   ·split at hl
    ·split at hl
     ·rename_i l;split at hl;rename_i l1 h1 hf;cases ha with
      |agg _ l' e1 e2=>
       obtain ⟨hn,σ,q1,q2,q3⟩:=Jm hE hr ⟨e1,e2⟩ hf;obtain ⟨w',r1,r2,r3⟩:=HJ hE q2 (hx.mono q3.le) (.agg l1 l' q1.1 q1.2) hl;have:=snx hl;exact ⟨σ,w',r1,r2,q3.trans r3 (fun b hb hb2=>by omega)⟩
     ·split at hl;rename_i v1 h1 hf;obtain ⟨σ,q1,q2,q3⟩:=Jj hE hr ha hf;obtain ⟨w',r1,r2,r3⟩:=HJ hE q2 (hx.mono q3.le) q1 hl;have:=snx hl;have:=Mm hf;exact ⟨σ,w',r1,r2,q3.trans r3 (fun b hb hb2=>by omega)⟩
    ·exact plain hl
   ·exact plain hl
  ·exact plain hl
 ·exact plain hl
theorem NQ {ρ:Ren} {h:Aa} {e:TypeId} {a:AV} (hr:HR ρ h.blk.get w):(EX E e a h).nx=h.nx∧∃σ:Ren,HR σ (EX E e a h).blk.get w∧Ext ρ σ h (EX E e a h) w w:=by
 have same:h.nx=h.nx∧∃σ:Ren,HR σ h.blk.get w∧Ext ρ σ h h w w:=⟨rfl,ρ,hr,Ext.refl _ _ _⟩
 unfold EX;split
 ·split
  ·split
   ·exact LK hE hr
   ·exact same
  ·exact same
 ·exact same
theorem Mh {ρ:Ren} {h h':Aa} (hr:HR ρ h.blk.get w) {t t' ty:TypeId} {s x a:AV} {sv xv:Value} (hs:VR ρ s sv) (hx:VR ρ x xv) (ha:HQ E t t' s x h=some (a,h')) (hf:Ax ρ h.nx h'.nx)
  (hA:∀a h',Hf E t t' s x h=some (a,h')→Ax ρ h.nx h'.nx→AB E ρ h h' w (Builtin.append_ #[t,t'] ty #[sv,xv]) a) :
  AB E ρ h h' w (Builtin.append_ #[t,t'] ty #[sv,xv]) a:=by
 unfold HQ at ha;split at ha
 ·rename_i hsy;split at ha
  ·rename_i e hd;obtain ⟨n1,σ,q1,q2⟩:=NQ (e:=e) (a:=s) hE hr;obtain ⟨n2,τ,r1,r2⟩:=NQ (e:=e) (a:=x) hE q1;have hle:=q2.le.trans r2.le;have hfr:Ax τ (EX E e x (EX E e s h)).nx h'.nx:=Ext.free r2 (Ext.free q2 hf);obtain ⟨υ,v,w',s1,s2,s3,s4⟩:=Gx hE r1 (hs.mono hle) (hx.mono hle) ha hfr (fun a h'' hq hf2=>J4 hE r1 (hs.mono hle) (hx.mono hle) hq hf2)
   exact ⟨υ,v,w',s1,s2,s3,q2.trans (r2.trans s4 (Ext.free q2 hf)) hf⟩
  ·exact Gx hE hr hs hx ha hf hA
 ·exact Gx hE hr hs hx ha hf hA
end
end Go.AE
namespace Go.AE
variable [Gl:Au]
variable [U:Unk]
theorem LM {d:Option TypeDesc} (h:Sp d=true):d=some (.int .u8):=by
 unfold Sp at h;split at h
 ·rfl
 ·cases h
theorem LA {d:Option TypeDesc} (h:ME d=true):d=some .string:=by
 unfold ME at h;split at h
 ·rfl
 ·cases h
theorem HS {d:Option (List Kd)} (h:Kp d=true):d=some [.int .u8]:=by
 unfold Kp at h;split at h
 ·rfl
 ·cases h
theorem Ul {s:ByteArray} {n:Nat} (h:n<s.data.toList.length):s[n]?=some s.data.toList[n]:=by
 have hsz:n<s.size:=by simpa using h
 rw [getElem?_pos s n hsz];rfl
theorem TH {l:List UInt8} {i:Nat} (hi:i<l.length):((l.map fun b=>D.row [.int b.toNat]).getD i default)=.row [.int l[i].toNat]:=by
 rw [List.getD_eq_getElem?_getD,List.getElem?_map,List.getElem?_eq_getElem hi];rfl
theorem U5 {t:ByteArray} {m i:Nat} (hi:i<t.data.toList.length):(t.data.map (fun (b:UInt8)=>Value.int .u8 b.toNat)++Array.replicate m (Value.int .u8 0)).getD i Go.undef=.int .u8 (t.data.toList[i].toNat:Nat):=by
 have hi2:i<t.data.size:=by rw [←Array.length_toList];exact hi
 have:(t.data.map (fun (b:UInt8)=>Value.int .u8 b.toNat)++Array.replicate m (Value.int .u8 0))[i]?=some (.int .u8 (t.data.toList[i].toNat:Nat)):=by
  rw [Array.getElem?_append_left (by simpa using hi2),Array.getElem?_map,Array.getElem?_eq_getElem hi2]
  simp
 rw [Array.getD_eq_getD_getElem?,this];rfl
theorem UJ {K:TypeId→Option (List Kd)} {M:Nat→Option (Array Value)} {cur:Array Value} {o:Nat} {rows:List D} (h1:o+rows.length≤cur.size)
  (h:∀i,i<rows.length→DV K M (.int .u8) (cur.getD (o+i) Go.undef) ((rows.getD i default).cells.getD 0 default)) :
  ((cur.toList.drop o).take rows.length)=(rows.map fun r=>(r.cells.getD 0 default).toInt).map (Value.int .u8):=by
 apply List.ext_getElem
 ·simp;omega
 ·intro i a b;have hi:i<rows.length:=by simpa using b
  simp only [List.getElem_take,List.getElem_drop,List.getElem_map,Array.getElem_toList];have:=h i hi;have e:cur.getD (o+i) Go.undef=cur[o+i]'(by omega):=by simp [Array.getD_eq_getD_getElem?,show o+i<cur.size by omega]
  rw [e] at this;have e2:rows.getD i default=rows[i]:=by simp [List.getD_eq_getElem?_getD,hi]
  rw [e2] at this;generalize cur[o+i]'(by omega)=v at this ⊢
  cases this with
  |int _ n _ _ q=>rw [q]
theorem Pw {x:SE}:(AG U.V (.ofBytes x)).data.toList=((Af U.V x).rows.map fun r=>(r.cells.getD 0 default).toInt).map fun n=>UInt8.ofNat n.toNat:=by
 show (((Af U.V x).rows.map fun r=>UInt8.ofNat (r.cells.getD 0 default).toInt.toNat).toArray).toList=_
 simp
theorem N8 (ns:List Int) {s:ByteArray} (h:s.data.toList=ns.map fun n=>UInt8.ofNat n.toNat):ns.foldl (fun r n=>r.push (UInt8.ofNat n.toNat)) ByteArray.empty=s:=by
 have:=Jz ns ByteArray.empty;have e:(ns.foldl (fun r n=>r.push (UInt8.ofNat n.toNat)) ByteArray.empty).data.toList=s.data.toList:=by rw [this,h];simp
 cases s with
 |mk d=>
  generalize ns.foldl (fun r n=>r.push (UInt8.ofNat n.toNat)) ByteArray.empty=t at e
  cases t with
  |mk d'=>simp only [ByteArray.mk.injEq];exact Array.toList_inj.1 e
theorem Fd {x:SE} (h:(Af U.V x).rows=[]):AG U.V (.ofBytes x)=ByteArray.empty:=by
 show ByteArray.mk (((Af U.V x).rows.map fun r=>UInt8.ofNat (r.cells.getD 0 default).toInt.toNat).toArray)=_
 rw [h];rfl
theorem Ls {P:Program} {w:World} {M:Nat→Option (Array Value)} {b o cap:Nat} {cur:Array Value} {e:TypeId} {fz:Nat×Nat} {y:SE} (hb:w.heap[b]?=some (.cells cur e fz)) (h1:o+(Af U.V y).rows.length≤cur.size)
  (h:∀i,i<(Af U.V y).rows.length→DV U.K M (.int .u8) (cur.getD (o+i) Go.undef) (((Af U.V y).rows.getD i default).cells.getD 0 default)) :
  (Conv.bytesToString (.slice (some ⟨b,o,none⟩) (Af U.V y).rows.length cap)).run P w=.ok (.string (AG U.V (.ofBytes y))) w:=by
 have q:=Av P w b o (Af U.V y).rows.length cur e fz hb h1;rw [UJ h1 h] at q;have r:=run_bytesToString w ⟨b,o,none⟩ (Af U.V y).rows.length cap ((Af U.V y).rows.map fun r=>(r.cells.getD 0 default).toInt) q
 rw [N8 _ Pw] at r;exact r
section
variable {E:Env} (hE:OK E) {ρ:Ren} {h:Aa} {w:World}
include hE
theorem QU {t:TypeId} {x i a:AV} {xv iv:Value} (hx:VR ρ x xv) (hi:VR ρ i iv) (hl:LS E t x i=some a) :
  ∃v,(Instr.index t xv iv).run E.P w=.ok v w∧VR ρ a v:=by
 unfold LS at hl;split at hl
 ·rename_i y;split at hl
  ·rename_i k ie hd hti;split at hl
   ·rename_i hc;cases hl;obtain ⟨r0,r1⟩:=Ky hc;have hiv:=Ci hi hti;subst hiv;rw [Cf] at r1;cases hx with
    |ss _=>
     obtain ⟨n,hn⟩:∃n:Nat,Ag U.V ie=n:=⟨(Ag U.V ie).toNat,by omega⟩
     rw [hn] at r0 r1 ⊢;have hlt:n<(AG U.V y).data.toList.length:=by omega
     refine ⟨.int .u8 ((AG U.V y).data.toList[n].toNat:Nat),?_,?_⟩
     ·simp only [Instr.index,asIntOf,Sem.run_bind,Sem.run_pure,Result.andThen_ok,hE.run_und hd];rw [if_pos (by omega),Int.toNat_natCast,Ul hlt]
      rfl
     ·have:=B3 ρ .u8 (.strAt y ie)
      have e:Ag U.V (.strAt y ie)=((AG U.V y).data.toList[n].toNat:Nat):=by
       show ((((Af U.V y).toStr.data.toList[(Af U.V ie).toInt.toNat]?).getD 0).toNat:Int)=_
       have e1:(Af U.V ie).toInt.toNat=n:=by
        have:(Af U.V ie).toInt=n:=hn;omega
       have hlt':n<(Af U.V y).toStr.data.toList.length:=hlt;rw [e1,List.getElem?_eq_getElem hlt'];rfl
      rw [e] at this;exact this
   ·cases hl
  ·cases hl
 ·exact Rl hE hx (G7 hi) hl
theorem T1 (hr:HR ρ h.blk.get w) {s d:TypeId} {x a:AV} {xv:Value} {h':Aa} (hx:VR ρ x xv) (ha:PU E s d x h=some (a,h')) (hf:Ax ρ h.nx h'.nx) :
  AB E ρ h h' w (convert s d xv) a:=by
 unfold PU at ha;split at ha
 ·rename_i y;split at ha
  ·rename_i e hd;split at ha
   ·rename_i hc;cases ha;obtain ⟨hc,c3⟩:=Am hc;obtain ⟨c1,c2⟩:=Am hc;have he:=LM c1;have hk:=HS c2;obtain ⟨sd,hs⟩:=Option.isSome_iff_exists.1 c3;have us:=hE.run_und hs w;have ud:=hE.run_und hd w;have ue:=hE.run_und he w;cases hx with
    |ss _=>
     generalize ht:AG U.V y=t;have hfree:ρ h.nx=none:=hf h.nx (Nat.le_refl _) (by simp [Aa.new])
     generalize hcap:grownCap w t.size 0 e=cap;have hge:t.size≤cap:=by rw [←hcap];exact grownCap_ge w _ _ _
     generalize harr:(t.data.map (fun b=>Value.int .u8 b.toNat)++Array.replicate (cap-t.size) (.int .u8 0))=arr
     have hasz:arr.size=cap:=by rw [←harr];simp;omega
     have hr1:HR ρ h.blk.get {w with drawn:=w.drawn+1}:=hr.same rfl
     have hk2:U.K e=some [.int .u8]:=by rw [hE.kd,←hE.ke];exact hk
     have er:(Af U.V (.bytes y)).rows=t.data.toList.map fun b=>.row [.int b.toNat]:=by
      show ((Af U.V y).toStr.data.toList.map _)=_;have:(Af U.V y).toStr=t:=ht;rw [this]
     have hsz:t.size=t.data.toList.length:=by simp
     have hrows:A6 U.K ρ.imm [.int .u8] arr 0 (Af U.V (.bytes y)).rows:=by
      rw [er];refine ⟨by simp only [List.length_map,List.length_singleton];omega,fun i hi=>?_,fun i j kd hi hj=>?_⟩
      ·have hi':i<t.data.toList.length:=by simpa using hi
       rw [TH hi'];rfl
      ·have hi':i<t.data.toList.length:=by simpa using hi
       have hj0:j=0:=by
        cases j with
        |zero=>rfl
        |succ j=>simp at hj
       subst hj0;simp only [List.getElem?_cons_zero,Option.some.injEq] at hj;subst hj;rw [TH hi'];show DV U.K ρ.imm (.int .u8) (arr.getD (0+i*1+0) Go.undef) (.int (t.data.toList[i].toNat:Nat));rw [show 0+i*1+0=i by omega,←harr,U5 hi']
       have hb:=t.data.toList[i].toNat_lt;exact .int .u8 _ _ (.inr ⟨by show (0:Int)≤_;omega,by show _≤(255:Int);omega⟩) rfl
     obtain ⟨p1,p2⟩:=hr1.new hfree (.arr e (.bytes y)) (.cells arr e (arr.size,arr.size+1)) arr.size ⟨_,_,e,_,hk2,rfl,rfl,.inr (Nat.le_refl _),hrows⟩ {w with drawn:=w.drawn+1,heap:=w.heap.push (.cells arr e (arr.size,arr.size+1))} rfl rfl rfl rfl
     refine ⟨_,.slice (some ⟨w.heap.size,0,none⟩) t.size cap,_,?_,?_,p1,p2.drawn rfl rfl rfl rfl⟩
     ·have hch:(choose (.appendCap t.size 0 e)).run E.P w=.ok cap {w with drawn:=w.drawn+1}:=by rw [←hcap];simp [Question.forced,grownCap]
      have hconv:(convert s d (.string t)).run E.P w=(Conv.stringToBytes e t).run E.P w:=by
       cases sd<;>simp [convert,us,ud,ue]
      rw [hconv];simp only [Conv.stringToBytes,Sem.run_bind,hch,Result.andThen_ok,newRow,run_newObj,Sem.run_pure,harr];simp only [markStringish,Sem.run_bind,run_shape,Result.andThen_ok];have hsh:({w with drawn:=w.drawn+1,heap:=w.heap.push (.cells arr e)}:World).shape? w.heap.size=some (e,arr.size):=by simp [World.shape?]
      rw [hsh];simp only [run_freeze,Result.andThen_ok]
      have hfz:({w with drawn:=w.drawn+1,heap:=w.heap.push (.cells arr e)}:World).freeze ⟨w.heap.size,arr.size,none⟩ 1={w with drawn:=w.drawn+1,heap:=w.heap.push (.cells arr e (arr.size,arr.size+1))}:=by
       simp [World.freeze,It]
      rw [hfz]
     ·have hlen:Ag U.V (.lenL (.bytes y))=(t.size:Nat):=by rw [Aj,er,hsz];simp
      have:=VR.asl (ρ:=ρ.upd h.nx ⟨w.heap.size,0,arr.size⟩) h.nx 1 (.lenL (.bytes y)) (.bc false) cap ⟨w.heap.size,0,arr.size⟩ (Ren.upd_same _ _ _) (by rw [hlen];exact Int.natCast_nonneg _) (by rw [hlen];simpa using hge) (by show 0+cap*1≤arr.size;rw [hasz];omega) rfl
      rw [hlen] at this;simpa using this
   ·cases ha
  ·exact Ng hE hr hx ha hf
 ·rename_i e' y;split at ha
  ·rename_i e hs;split at ha
   ·rename_i hc;cases ha;obtain ⟨hc,c4⟩:=Am hc;obtain ⟨hc,c3⟩:=Am hc;obtain ⟨c1,c2⟩:=Am hc;have h0:=Aq c1;subst h0;have he:=LM c2;have hk:=HS c3;have hd:=LA c4;have hk2:U.K e=some [.int .u8]:=by rw [hE.kd,←hE.ke];exact hk
    cases hx with
    |dat _ _ ad n cap hdv=>
     refine Ar hr ⟨_,?_,.ss (.ofBytes y)⟩;have us:=hE.run_und hs w;have ud:=hE.run_und hd w;have ue:=hE.run_und he w;cases hdv with
     |nil _ _ g1 g2=>
      rw [Fd g2];simp [convert,us,ud,ue,Conv.bytesToString]
     |empty _ a1 _ _ g1 g2=>
      rw [run_convert_bytes_string w s d e _ _ _ (hE.und hs) (hE.und he) (hE.und hd),Fd g2];exact run_bytesToString (P:=E.P) w a1 0 cap [] (by simp [Go.loadCells,loadCellsFrom])
     |slc _ b o _ _ _ ks arr hk' ha' hn hc' g1 hin hrow hv=>
      rw [hk2] at hk';cases hk';obtain ⟨e1,fz,hb⟩:=hr.imm b arr ha';rw [run_convert_bytes_string w s d e _ _ _ (hE.und hs) (hE.und he) (hE.und hd),←hn];refine Ls (M:=ρ.imm) hb (by rw [hn];simpa using hin) (fun i hi=>?_)
      have:=hv i 0 _ (by omega) rfl
      simpa using this
   ·cases ha
  ·cases ha
 ·rename_i b es n nl;split at ha
  ·rename_i e e' y hs hg;split at ha
   ·rename_i hc;cases ha;obtain ⟨hc,c5⟩:=Am hc;obtain ⟨hc,c4⟩:=Am hc;obtain ⟨hc,c3⟩:=Am hc;obtain ⟨c1,c2⟩:=Am hc;have h0:=Aq c1;subst h0;have he:=LM c2;have hk:=HS c3;have hd:=LA c4;have hlen:=Ev c5;have hk2:U.K e=some [.int .u8]:=by rw [hE.kd,←hE.ke];exact hk
    have us:=hE.run_und hs w;have ud:=hE.run_und hd w;have ue:=hE.run_und he w;cases hx with
    |asl _ _ _ _ cap base hb q0 qc qz qn=>
     refine Ar hr ⟨_,?_,.ss (.ofBytes y)⟩;obtain ⟨ks,cur,et,fz,r1,r2,r3,r4,r5⟩:=hr.blk b base _ hb hg;rw [hk2] at r1;cases r1;rw [run_convert_bytes_string w s d e _ _ _ (hE.und hs) (hE.und he) (hE.und hd),hlen,Aj,Int.toNat_natCast];refine Ls (M:=ρ.imm) r2 (by simpa using r5.1) (fun i hi=>?_)
     have:=r5.2.2 i 0 _ hi rfl;simpa using this
    |aslEnd _ _ _ _ ad q0 qn=>
     refine Ar hr ⟨_,?_,.ss (.ofBytes y)⟩;rw [hlen,Aj] at q0;have g2:(Af U.V y).rows=[]:=List.eq_nil_of_length_eq_zero (by omega)
     rw [Fd g2];cases ad with
     |none=>simp [convert,us,ud,ue,Conv.bytesToString]
     |some a1=>
      rw [run_convert_bytes_string w s d e _ _ _ (hE.und hs) (hE.und he) (hE.und hd)];exact run_bytesToString (P:=E.P) w a1 0 0 [] (by simp [Go.loadCells,loadCellsFrom])
   ·cases ha
  ·cases ha
 ·exact Ng hE hr hx ha hf
end
end Go.AE

