/- What is proved here: an evaluator of the model's steps that the kernel can run, and that whatever it answers is what the model does (part 4 of 6: AeStep1, AeStep2, AeStep3, AeStep4, AeStep5, AeStep6, AeStep7, AeDraw1, AeDraw2, AeDraw3, AeDraw4, AeDraw5, AeDraw6, AeDraw7, AeDraw8, AeRun1, AeRun2, AeNorm, AeCode). Conditions: those that each theorem states; they hold of no one program. -/
import Derived.Test.YtmgppdghdeokbaaGreatBeC
import Derived.Orders
set_option linter.unusedVariables false
set_option linter.unusedSectionVars false
set_option linter.unusedSimpArgs false
namespace Go.AE
variable [U:Unk]
section
variable {P:Program} {fr:Frame} {k:List Item} {cs:List Frame} {w:World}
theorem lZ {a b:Code} (c:fr.mode=.run) (d:fr.todo=.code (.seq a b)::k):step P (lone fr cs w)=.next (lone {fr with todo:=.code a::.code b::k} cs w):=
 step_lone_go (by cases fr;simp only at c d;subst c;subst d;simp [stepG,stepG.exec])
theorem ci (a:fr.mode=.run) (b:fr.todo=.code .skip::k):step P (lone fr cs w)=.next (lone {fr with todo:=k} cs w):=
 step_lone_go (by cases fr;simp only at a b;subst a;subst b;simp [stepG,stepG.exec])
theorem Yu {l:Nat} (a:fr.mode=.run) (b:fr.todo=.code (.label l)::k):step P (lone fr cs w)=.next (lone {fr with todo:=k} cs w):=
 step_lone_go (by cases fr;simp only at a b;subst a;subst b;simp [stepG,stepG.exec])
theorem UM {l:Nat} (a:fr.mode=.run) (b:fr.todo=.inBlock l::k):step P (lone fr cs w)=.next (lone {fr with todo:=k} cs w):=
 step_lone_go (by cases fr;simp only at a b;subst a;subst b;simp [stepG,stepG.exec])
theorem Uq {l:Code} (a:fr.mode=.run) (b:fr.todo=.inScope l::k):step P (lone fr cs w)=.next (lone {fr with todo:=k} cs w):=
 step_lone_go (by cases fr;simp only at a b;subst a;subst b;simp [stepG,stepG.exec])
theorem Lw {c:Operand} {x y:Code} {b:Bool} (a:fr.mode=.run) (d:fr.todo=.code (.cond c x y)::k) (e:fr.eval c=.bool b):step P (lone fr cs w)=.next (lone {fr with todo:=.code (if b then x else y)::k} cs w):=
 step_lone_go (by cases fr;simp only at a d;subst a;subst d;simp [stepG,stepG.exec,e])
theorem aB {id:Nat} {c:Code} (a:fr.mode=.run) (b:fr.todo=.code (.block id c)::k):step P (lone fr cs w)=.next (lone {fr with todo:=.code c::.inBlock id::k} cs w):=
 step_lone_go (by cases fr;simp only at a b;subst a;subst b;simp [stepG,stepG.exec])
theorem dI {c:Code} (a:fr.mode=.run) (b:fr.todo=.code (.loop c)::k):step P (lone fr cs w)=.next (lone {fr with todo:=.code c::.inLoop c::k} cs w):=
 step_lone_go (by cases fr;simp only at a b;subst a;subst b;simp [stepG,stepG.exec])
theorem WD {c:Code} (a:fr.mode=.run) (b:fr.todo=.inLoop c::k):step P (lone fr cs w)=.next (lone {fr with todo:=.code c::.inLoop c::k} cs w):=
 step_lone_go (by cases fr;simp only at a b;subst a;subst b;simp [stepG,stepG.exec])
theorem Z6 {c:Code} (a:fr.mode=.run) (b:fr.todo=.code (.scope c)::k):step P (lone fr cs w)=.next (lone {fr with todo:=.code c::.inScope c::k} cs w):=
 step_lone_go (by cases fr;simp only at a b;subst a;subst b;simp [stepG,stepG.exec])
theorem W0 {id:Nat} {ops:Array Oper} (a:fr.mode=.run) (b:fr.todo=.code (.region id ops false)::k):step P (lone fr cs w)=.next (lone {fr with todo:=.inRegion ops (List.range ops.size)::k} cs w):=
 step_lone_go (by cases fr;simp only at a b;subst a;subst b;simp [stepG,stepG.exec])
theorem cV {id:Nat} {ops:Array Oper} (a:fr.mode=.run) (b:fr.todo=.code (.region id ops true)::k) :
  step P (lone fr cs w)=.next (lone {fr with todo:=.inRegion ops (Region.schedule (P.follows .mixedOrders) ops (w.tape w.drawn (.order fr.fn id)))::k} cs {w with drawn:=w.drawn+1}):=
 step_lone_go (by cases fr;simp only at a b;subst a;subst b;simp [stepG,stepG.exec,choose,Sem.run,Question.forced,Question.cut])
theorem JM {ops:Array Oper} (a:fr.mode=.run) (b:fr.todo=.inRegion ops []::k):step P (lone fr cs w)=.next (lone {fr with todo:=k} cs w):=
 step_lone_go (by cases fr;simp only at a b;subst a;subst b;simp [stepG,stepG.exec])
theorem dy {id:Nat} {a:List Item} (b:fr.mode=.run) (c:fr.todo=.code (.exit id)::k) (d:exitTo id k=some a):step P (lone fr cs w)=.next (lone {fr with todo:=a} cs w):=
 step_lone_go (by cases fr;simp only at b c;subst b;subst c;simp [stepG,stepG.exec,d])
theorem dq {l:Nat} {a:List Item} (b:fr.mode=.run) (c:fr.todo=.code (.goto l)::k) (d:gotoIn l k=some a):step P (lone fr cs w)=.next (lone {fr with todo:=a} cs w):=
 step_lone_go (by cases fr;simp only at b c;subst b;subst c;simp [stepG,stepG.exec,d])
theorem kA (b:fr.mode=.run) (a:fr.todo=[]∨∃k,fr.todo=.code .ret::k) (c:fr.roundOf=none):step P (lone fr cs w)=.next (lone {fr with mode:=.returning} cs w):=by
 rcases a with a|⟨k,a⟩<;>
 exact step_lone_go (by cases fr;simp only at b a c;subst b;subst a;subst c;simp [stepG,stepG.exec])
theorem RI {l:Nat} {a:Option Code} {c:Frame} {d:World} {v:Value} (e:fr.mode=.run) (f:fr.roundOf=some l) (g:fr.kind=.normal)
  (b:(fr.todo=[]∧a=none)∨(∃k,fr.todo=.code .ret::k∧a=some .ret)∨(∃id k,fr.todo=.code (.exit id)::k∧exitTo id k=none∧a=some (.exit id))∨(∃l k,fr.todo=.code (.goto l)::k∧gotoIn l k=none∧a=some (.goto l)))
  (h:(Instr.endRound l a).run P w=.ok v d):step P (lone fr (c::cs) w)=.next (lone (c.finish v) cs d):=by
 rcases b with ⟨b,rfl⟩|⟨k,b,rfl⟩|⟨id,k,b,i,rfl⟩|⟨j,k,b,i,rfl⟩<;>
 exact step_lone_go (by cases fr;simp only at e b f g;subst e;subst b;subst f;subst g;simp [stepG,stepG.exec,Sem.runT_eq,doReturn, *])
theorem Pe {ops:Array Oper} {i:Nat} {rest:List Nat} {o:Oper} (a:fr.mode=.run) (b:fr.todo=.inRegion ops (i::rest)::k) (d:ops[i]?=some o) (c:Region.wanted o (yielded ops fr.tmps)=false) :
  step P (lone fr cs w)=.next (lone (fr.finish undef) cs w):=
 step_lone_go (by cases fr;simp only at a b;subst a;subst b;simp at c;simp [stepG,stepG.exec,d,c])
theorem H0 {ops:Array Oper} {i:Nat} {rest:List Nat} {o:Oper} (e:fr.mode=.run) (f:fr.todo=.inRegion ops (i::rest)::k) (g:ops[i]?=some o) (b:Region.wanted o (yielded ops fr.tmps)=true)
  (a:fr.roundOf=none∨∀c,o.op≠.defer c) :
  stepG P true {frame:=fr,callers:=cs,status:=.running,dying:=none} w=stepG.apply P true fr cs none (execOp fr.eval o) w:=by
 cases fr;simp only at e f a;subst e;subst f;simp at b;rcases a with a|a
 ·subst a;simp [stepG,stepG.exec,stepG.oper,Frame.oper?,g,b]
 ·simp only [stepG,stepG.exec,g,X8,b,j1,if_true,stepG.oper,Frame.oper?];split
  ·rename_i c d;exact absurd d (a c)
  ·rfl
theorem US {ops:Array Oper} {i:Nat} {rest:List Nat} {o:Oper} {b:World} {v:Value} (d:fr.mode=.run) (e:fr.todo=.inRegion ops (i::rest)::k) (f:ops[i]?=some o) (g:Region.wanted o (yielded ops fr.tmps)=true)
  (h:fr.roundOf=none∨∀c,o.op≠.defer c) (a:(execOp fr.eval o).run P w=.ok (.value v) b∨((execOp fr.eval o).run P w=.ok .skip b∧v=undef)) :
  step P (lone fr cs w)=.next (lone (fr.finish v) cs b):=by
 refine step_lone_go ?_;rw [H0 d e f g h];rcases a with a|⟨a,rfl⟩<;>simp [stepG.apply,a]
theorem RW {ops:Array Oper} {i:Nat} {rest:List Nat} {o:Oper} {f:FuncId} {args:Array Value} {b:World} (e:fr.mode=.run) (d:fr.todo=.inRegion ops (i::rest)::k) (g:ops[i]?=some o) (h:Region.wanted o (yielded ops fr.tmps)=true)
  (j:fr.roundOf=none∨∀c,o.op≠.defer c) (a:(execOp fr.eval o).run P w=.ok (.enter f args) b):step P (lone fr cs w)=.next (lone (Frame.enter P f args .normal) (fr::cs) b):=by
 refine step_lone_go ?_;rw [H0 e d g h j];simp [stepG.apply,a,d]
theorem bC {ops:Array Oper} {i:Nat} {rest:List Nat} {o:Oper} {l:Nat} {f:FuncId} {tmps:Array Value} {assign body:Code} {b:World} (d:fr.mode=.run) (e:fr.todo=.inRegion ops (i::rest)::k) (g:ops[i]?=some o) (h:Region.wanted o (yielded ops fr.tmps)=true)
  (j:fr.roundOf=none∨∀c,o.op≠.defer c) (a:(execOp fr.eval o).run P w=.ok (.round l f tmps assign body) b):step P (lone fr cs w)=.next (lone (Frame.round l f tmps assign body .normal) (fr::cs) b):=by
 refine step_lone_go ?_;rw [H0 d e g h j];simp [stepG.apply,a]
theorem N6 {l:Nat} {b:World} (c:fr.mode=.run) (d:fr.todo=.beginRound::k) (e:fr.roundOf=some l) (a:(Instr.beginRound l).run P w=.ok () b) :
  step P (lone fr cs w)=.next (lone {fr with todo:=k} cs b):=by
 refine step_lone_go ?_;cases fr;simp only at c d e;subst c;subst d;subst e;simp [stepG,stepG.exec,stepG.apply,a,Frame.finish]
theorem T1 {l:Nat} {c:World} {a:Option Code} (d:fr.mode=.run) (e:fr.todo=.endRangeFunc l::k) (b:(Instr.endLoop l).run P w=.ok a c) :
  step P (lone fr cs w)=.next (lone {fr with todo:=(a.map Item.code).toList++k} cs c):=by
 refine step_lone_go ?_;cases fr;simp only at d e;subst d;subst e;simp [stepG,stepG.exec,Sem.runT_eq,b]
theorem K9 {f:Operand} {params:Array Tmp} {assign body:Code} {l:Nat} {mark:List Deferred} {b:World} (c:fr.mode=.run) (e:fr.todo=.code (.rangeFunc f params assign body)::k)
  (a:(Instr.enterLoop fr.fn fr.tmps params assign body fr.roundOf).run P w=.ok (l,mark) b) :
  (stepG P true {frame:=fr,callers:=cs,status:=.running,dying:=none} w).bare =
  (stepG.apply P true {fr with todo:=.inRangeFunc l::k,defers:=mark++fr.defers} cs none (do let d ←resolve fr.eval {callee:=.value f,args:=#[.const (.func (.yield l) #[] #[])],argTypes:=#[]} 0;invoke d.target d.args) b).bare:=by
 cases fr;simp only at c e a;subst c;subst e;simp only [stepG,stepG.exec,Sem.runT_eq,a,GStep.bare_after]
 congr 2
theorem cX {d:Deferred} {h:List Deferred} {f:FuncId} {args:Array Value} {i:World} (j:fr.mode≠.run) (l:fr.defers=d::h) (e:∀b,d.target≠.collected b) (hn:d.target≠.nil)
  (a:(invoke d.target d.args).run P w=.ok (.enter f args) i):step P (lone fr cs w)=.next (lone (Frame.enter P f args .deferred) ({fr with defers:=h}::cs) i):=by
 refine step_lone_go ?_;cases fr with|mk fn tmps todo defers mode kind c=>
 cases d with|mk target g=>
 simp only at j l e hn a;subst l;cases mode with
 |run=>exact absurd rfl j
 |returning=>cases target<;>first|exact absurd rfl hn|exact absurd rfl (e _)|simp [stepG,unwind,callDeferred,Sem.runT_eq,a]
 |panicking m=>cases target<;>first|exact absurd rfl hn|exact absurd rfl (e _)|simp [stepG,unwind,callDeferred,Sem.runT_eq,a]
theorem Ze {b:Nat} {args:Array Value} {d l:List Deferred} {e:World} (f:fr.mode≠.run) (g:fr.defers={target:=.collected b,args}::d)
  (a:(Instr.takeDeferred b).run P w=.ok l e):step P (lone fr cs w)=.next (lone {fr with defers:=l++d} cs e):=by
 refine step_lone_go ?_;cases fr with|mk fn tmps todo defers mode kind c=>
 simp only at f g;subst g;cases mode with
 |run=>exact absurd rfl f
 |returning=>simp [stepG,unwind,Sem.runT_eq,a]
 |panicking h=>simp [stepG,unwind,Sem.runT_eq,a]
end
end Go.AE
namespace Go.AE
section
variable [U:Vals]
inductive IR (ρ:Ren):AI→Item→Prop
 |code (c:Code):IR ρ (.code c) (.code c)
 |inBlock (id:Nat):IR ρ (.inBlock id) (.inBlock id)
 |inLoop (b:Code):IR ρ (.inLoop b) (.inLoop b)
 |inScope (b:Code):IR ρ (.inScope b) (.inScope b)
 |ops (all:Array Oper) (rest:List Oper) (idx:List Nat) (h:rest.map some=idx.map fun i=>all[i]?):IR ρ (.ops all rest) (.inRegion all idx)
 |inRange (l:Nat) (base:DF) (h:ρ l=some base):IR ρ (.inRange l) (.inRangeFunc base.cb)
 |endRange (l:Nat) (base:DF) (h:ρ l=some base):IR ρ (.endRange l) (.endRangeFunc base.cb)
 |beginRound:IR ρ .beginRound .beginRound
 |dead (all:Array Oper) (idx:List Nat):IR ρ .dead (.inRegion all idx)
inductive IL (ρ:Ren):List AI→List Item→Prop
 |nil:IL ρ [] []
 |cons {a:AI} {x:Item} {l:List AI} {l':List Item} (h:IR ρ a x) (k:IL ρ l l'):IL ρ (a::l) (x::l')
 |rest:IL ρ [.rest] U.R
def CL (b:Ren):List (AV×Bool)→List PanicEntry→Prop
 |[],[]=>True
 |a::r,e::c=>VR b a.1 e.v∧e.recovered=a.2∧e.goexit=false∧CL b r c
 |_,_=>False
inductive MR (ρ:Ren):Jf→FrameMode→Prop
 |run:MR ρ .run .run
 |ret:MR ρ .ret .returning
 |panic (ch:List (AV×Bool)) (ch':List PanicEntry) (h:CL ρ ch ch'):MR ρ (.panic ch) (.panicking ch')
def RR (ρ:Ren):Option Nat→Option Nat→Prop
 |none,none=>True
 |some l,some c=>∃a,ρ l=some a∧c=a.cb
 |_,_=>False
structure FrR (ρ:Ren) (f:AF) (c:Frame):Prop where
 fn:c.fn=f.fn
 tm:TR ρ f.nt f.tmps c.tmps
 todo:IL ρ f.todo c.todo
 defers:DL ρ f.defers c.defers
 mode:MR ρ f.mode c.mode
 kind:c.kind=f.kind
 round:RR ρ f.round c.roundOf
inductive FrL (ρ:Ren):List AF→List Frame→Prop
 |nil:FrL ρ [] []
 |cons {f:AF} {c:Frame} {l:List AF} {l':List Frame} (h:FrR ρ f c) (k:FrL ρ l l'):FrL ρ (f::l) (c::l')
theorem IR.mono {ρ C:Ren} (r:ρ.le C) {a:AI} {x:Item} (h:IR ρ a x):IR C a x:=by
 cases h with
 |code c=>exact .code c
 |inBlock id=>exact .inBlock id
 |inLoop b=>exact .inLoop b
 |inScope b=>exact .inScope b
 |ops all rest j h=>exact .ops all rest j h
 |inRange l base h=>exact .inRange l base (r.m _ _ h)
 |endRange l base h=>exact .endRange l base (r.m _ _ h)
 |beginRound=>exact .beginRound
 |dead all j=>exact .dead all j
theorem IL.mono {ρ r:Ren} (j:ρ.le r) {a:List AI} {x:List Item} (h:IL ρ a x):IL r a x:=by
 induction h with
 |nil=>exact .nil
 |cons h _ C=>exact .cons (h.mono j) C
 |rest=>exact .rest
theorem CL.mono {ρ r:Ren} (j:ρ.le r):∀{l:List (AV×Bool)} {C:List PanicEntry},CL ρ l C→CL r l C
 |[],[],_=>trivial
 |_::_,_::_,⟨h1,h2,h3,h4⟩=>⟨h1.mono j,h2,h3,h4.mono j⟩
theorem MR.mono {ρ C:Ren} (j:ρ.le C) {a:Jf} {x:FrameMode} (h:MR ρ a x):MR C a x:=by
 cases h with
 |run=>exact .run
 |ret=>exact .ret
 |panic I r h=>exact .panic I r (h.mono j)
theorem RR.mono {ρ r:Ren} (j:ρ.le r) {a x:Option Nat} (h:RR ρ a x):RR r a x:=by
 cases a<;>cases x<;>simp only [RR] at h ⊢
 obtain ⟨base,h1,h2⟩:=h;exact ⟨base,j.m _ _ h1,h2⟩
theorem FrR.mono {ρ r:Ren} (j:ρ.le r) {f:AF} {c:Frame} (h:FrR ρ f c):FrR r f c:=
 ⟨h.fn,h.tm.mono j,h.todo.mono j,h.defers.mono j,h.mode.mono j,h.kind,h.round.mono j⟩
theorem FrL.mono {ρ r:Ren} (j:ρ.le r) {f:List AF} {c:List Frame} (h:FrL ρ f c):FrL r f c:=by
 induction h with
 |nil=>exact .nil
 |cons h _ C=>exact .cons (h.mono j) C
end
variable [U:Unk]
theorem FrR.evR {ρ:Ren} {f:AF} {c:Frame} (h:FrR ρ f c):EvR ρ f.tmps c.eval:=by
 intro o;have:=LO h.tm o;cases o<;>exact this
theorem TR.put {ρ:Ren} {nt:Nat} {t:T AV} {a:Array Value} (h:TR ρ nt t a) {d:Nat} {v:AV} {r:Value} (C:d<nt) (I:VR ρ v r):TR ρ nt (t.set d v) (a.setIfInBounds d r):=by
 refine ⟨by simp [h.size],fun i x j=>?_⟩
 rw [T.get_set] at j;by_cases e:d=i
 ·subst e;rw [if_pos rfl] at j;cases j;have:d<a.size:=by rw [h.size];exact C
  simpa [C2,this] using I
 ·rw [if_neg e] at j;have:=h.get i x j;simpa [C2,X1 e] using this
def Jm (a:Array Value) (dst:Option Tmp) (v:Value):Array Value:=match dst with|some d=>a.setIfInBounds d v|none=>a
theorem cS {b:Ren} {nt:Nat} {t e:T AV} {a:Array Value} (h:TR b nt t a) {dst:Option Tmp} {v:AV} {f:Value} (hp:MX nt t dst v=some e) (g:VR b v f) :
  TR b nt e (Jm a dst f):=by
 cases dst with
 |none=>simp only [MX,A1] at hp;subst hp;exact h
 |some d=>
  simp only [MX] at hp;cases c:Nat.blt d nt with
  |false=>rw [c] at hp;cases hp
  |true=>
   rw [c] at hp;simp only [A1] at hp;subst hp;exact h.put (by simpa [Nat.blt_eq] using c) g
theorem VR.not_bool {ρ:Ren} {a:AV} {v:Value} (h:VR ρ a v) (j:∀b,a≠.bool b) (r:a≠.top) (C:∀p e,a≠.sb p e) (b:Bool):v≠.bool b:=by
 cases h with
 |sb p e=>exact absurd rfl (C p e)
 |top v=>exact absurd rfl r
 |bool c=>exact absurd rfl (j c)
 |_=>exact fun e=>by cases e
theorem Di {w:Ren} {nt:Nat} {t:T AV} {a:Array Value} (h:TR w nt t a) {all:Array Oper} {o:Oper} {b:Bool} (f:Eh all o t=some b):Region.wanted o (yielded all a)=b:=by
 unfold Eh at f;unfold Region.wanted;cases r:o.guard with
 |none=>rw [r] at f;simpa using f
 |some p=>
  obtain ⟨j,l⟩:=p;rw [r] at f;simp only at f ⊢;unfold yielded;have y:all[j]?=all.toList[j]?:=by simp
  rw [y];cases s:all.toList[j]? with
  |none=>rw [s] at f;simp at f ⊢;exact f
  |some g=>
   rw [s] at f;simp only [Option.bind_some] at f ⊢;cases u:g.dst with
   |none=>rw [u] at f;simp at f ⊢;exact f
   |some d=>
    rw [u] at f;simp only [Option.bind_some] at f ⊢;cases m:t.get d with
    |none=>rw [m] at f;cases f
    |some v=>
     rw [m] at f;have i:=h.get d v m;rw [C2] at i
     have n:(∀b,v≠.bool b)→v≠.top→(∀p e,v≠.sb p e)→((match a[d]? with|some (.bool b)=>some b|_=>none)==some l)=false:=by
      intro z A B;cases k:a[d]? with
      |none=>rfl
      |some x=>
       rw [k] at i;cases x with
       |bool c=>exact absurd rfl (i.not_bool z A B c)
       |_=>rfl
     cases v with
     |top=>cases f
     |sb p e=>
      simp only at f;split at f
      ·rename_i q C;have D:=AA U.ok C;simp only [A1] at f;cases k:a[d]? with
       |none=>rw [k] at i;cases i
       |some x=>
        rw [k] at i;cases i;rw [D];simpa using f
      ·cases f
     |bool e=>
      simp only [A1] at f;cases k:a[d]? with
      |none=>rw [k] at i;cases i
      |some x=>
       rw [k] at i;cases i;subst f;simp
     |_=>
      simp only [A1] at f;subst f;exact n (fun b e=>by cases e) (fun e=>by cases e) (fun p b e=>by cases e)
end Go.AE
namespace Go.AE
variable [U:Unk]
theorem IL.ops_inv {ρ:Ren} {all:Array Oper} {o:Oper} {rest:List Oper} {k:List AI} {l:List Item} (h:IL ρ (.ops all (o::rest)::k) l) :
  ∃i j r,l=.inRegion all (i::j)::r∧all[i]?=some o∧rest.map some=j.map (fun i=>all[i]?)∧IL ρ k r:=by
 cases h with
 |cons h C=>
  cases h with
  |ops all rest j h=>
   cases j with
   |nil=>cases h
   |cons i j=>
    simp only [i6,List.cons.injEq] at h;exact ⟨i,j,_,rfl,h.1.symm,h.2,C⟩
theorem BU {n:Ren} {f q:AF} {c:Frame} (h:FrR n f c) {v:AV} {m:Value} (d:Dh f v=some q) (s:VR n v m):FrR n q (c.finish m):=by
 have b:=h.todo;unfold Dh at d;split at d
 ·rename_i all o rest k g;rw [g] at b;obtain ⟨i,p,u,e,w,x,j⟩:=b.ops_inv;split at d
  ·rename_i t hp;simp only [A1] at d;subst d;have:=cS h.tm hp s
   have y:c.finish m={c with tmps:=Jm c.tmps o.dst m,todo:=.inRegion all p::u}:=by
    simp only [Frame.finish,e,w,Option.bind_some,Jm];cases o.dst<;>rfl
   rw [y];exact ⟨h.fn,this,.cons (.ops _ _ _ x) j,h.defers,h.mode,h.kind,h.round⟩
  ·cases d
 ·rename_i l k g;rw [g] at b;simp only [A1] at d;subst d;generalize hl:c.todo=z at b;cases b with
  |cons a j=>
   cases a with
   |inRange l r A=>
    simp only [Frame.finish,hl];exact ⟨h.fn,h.tm,.cons (.endRange _ _ A) j,h.defers,h.mode,h.kind,h.round⟩
 ·rename_i k g;rw [g] at b;simp only [A1] at d;subst d;generalize hl:c.todo=z at b;cases b with
  |cons a j=>
   cases a with
   |beginRound=>
    simp only [Frame.finish,hl];exact ⟨h.fn,h.tm,j,h.defers,h.mode,h.kind,h.round⟩
 ·cases d
theorem TR.ofArgs {ρ:Ren} {n:Nat} {args:List AV} {j:List Value} (C:VL ρ args j):TR ρ (max n args.length) (.ofList args) (j.toArray++Array.replicate (n-j.toArray.size) undef):=by
 have hl:=C.1;refine ⟨by simp;omega,fun i x I=>?_⟩
 rw [T.get_ofList] at I;obtain ⟨v,J,r⟩:=C.get I;have hi:i<j.length:=(B3.1 J).1;rw [C2,fk (by simpa using hi)]
 simpa [J] using r
theorem Ec {E:Env} (hE:OK E) {d:Ren} {f:FuncId} {args:List AV} {a:List Value} {kind:CallKind} {g:AF} (b:BT E f args kind=some g) (h:VL d args a) :
  FrR d g (Frame.enter E.P f a.toArray kind):=by
 unfold BT at b;split at b
 ·rename_i fn i;split at b
  ·rename_i c j;simp only [A1] at b;subst b
   have e:Frame.enter E.P f a.toArray kind={fn:=f,tmps:=a.toArray++Array.replicate (fn.ntmps-a.toArray.size) undef,todo:=[.code c],defers:=[],mode:=.run,kind}:=by
    simp [Frame.enter,hE.fn f fn i,j]
   rw [e];exact ⟨rfl,TR.ofArgs h,.cons (.code c) .nil,trivial,.run,rfl,trivial⟩
  ·cases b
 ·cases b
theorem JR {f:Ren} {nt:Nat}:∀{e:List Tmp} {t c:T AV} {tm:Array Value} {args:List AV} {b:List Value},TR f nt t tm→VL f args b→FD nt t e args=some c→
  b.length=e.length∧TR f nt c ((e.zip b).foldl (fun tmps x=>tmps.setIfInBounds x.1 x.2) tm)
 |[],t,c,tm,[],b,h,d,hs=>by
  cases d.nil_inv;simp only [FD,A1] at hs;subst hs;exact ⟨rfl,h⟩
 |[],t,c,tm,_::_,b,h,d,hs=>by cases hs
 |_::_,t,c,tm,[],b,h,d,hs=>by cases hs
 |p::e,t,c,tm,a::m,b,h,d,hs=>by
  obtain ⟨v,r,rfl,i,j⟩:=d.cons_inv;simp only [FD] at hs;cases g:Nat.blt p nt with
  |false=>rw [g] at hs;cases hs
  |true=>
   rw [g] at hs;obtain ⟨k,l⟩:=JR (h.put (by simpa [Nat.blt_eq] using g) i) j hs
   exact ⟨by simp [k],l⟩
theorem Oh {E:Env} {f:Ren} {h:Aa} {w:World} (k:HR f h.blk.get w) {l:Nat} {a:DF} {args:List AV} {b:List Value} {g:AF} (j:f l=some a) (c:Hr l args h=some g) (m:VL f args b) :
  ∃fn tm assign body,(Instr.yield a.cb b.toArray).run E.P w=.ok (.round a.cb fn tm assign body) w∧FrR f g (Frame.round a.cb fn tm assign body .normal):=by
 unfold Hr at c;split at c
 ·rename_i st pending fn nt tmps params assign body d hl;split at c
  ·rename_i t hs;simp only [A1] at c;subst c;obtain ⟨tm,r,s,n,o⟩:=k.blk l a _ j hl;obtain ⟨p,q⟩:=JR n m hs;refine ⟨fn,_,assign,body,?_,⟨rfl,q,.cons (.code _) (.cons .beginRound (.cons (.code _) .nil)),trivial,.run,rfl,⟨a,j,rfl⟩⟩⟩;have i:=AY E.P o (fun _ _ _ e=>by cases e)
   simp only [Instr.yield,Instr.getLoop,B2,i,A2,CU];simp [p]
  ·cases c
 ·cases c
end Go.AE
namespace Go.AE
section
variable [U:Vals]
structure SR (ρ:Ren) (s:AS) (cf:Frame) (ccs:List Frame) (w:World):Prop where
 fr:FrR ρ s.fr cf
 cs:FrL ρ s.cs ccs
 h:HR ρ s.h.blk.get w
end
variable [U:Unk]
def A7 (P:Program) (a:List Frame) (j:Ren) (h:Aa) (d:Frame) (e:List Frame) (w0 w:World) (g:AS):Prop:=
 ∃i c b f,step P (lone d (e++a) w0)=.next (lone c (b++a) f)∧SR i g c b f∧Ext j i h g.h w f
theorem IL.not_call {ρ:Ren} {l:List AI} {j:List Item} (h:IL ρ l j) (d:Deferred) (b:Bool) (r:String) (a:Array Value) (k:List Item):j≠.call d b r a::k:=by
 intro e;cases h with
 |nil=>cases e
 |cons h _=>cases e;cases h
 |rest=>exact U.hR _ _ _ _ _ e
section
variable {E:Env} (hE:OK E) {ρ:Ren} {h:Aa} {w w0:World} {fr0 c:Frame} {f:AF} {cs:List AF} {ccs base:List Frame} {s:Sem Next} {r:Res} {s':AS}
include hE
theorem OI (n:(stepG E.P true {frame:=fr0,callers:=ccs++base,status:=.running,dying:=none} w0).bare=(stepG.apply E.P true c (ccs++base) none s w).bare)
  (J:Gd E ρ h w s r) (F:HR ρ h.blk.get w) (o:FrR ρ f c) (u:FrL ρ cs ccs) (hm:c.mode=.run) (b:CM E f cs r=.next s') (G:Bs ρ h.nx s'.h.nx) :
  A7 E.P base ρ h fr0 ccs w0 w s':=by
 cases r with
 |val v h'=>
  simp only [CM] at b;split at b
  ·rename_i Q p;cases b;obtain ⟨σ,S,w',K,T,q3,V⟩:=J G;refine ⟨σ,c.finish S,ccs,w',step_lone_go ?_,⟨BU (o.mono V.le) p T,u.mono V.le,q3⟩,V⟩;rw [n];rcases K with K|⟨K,rfl⟩<;>simp [stepG.apply,K]
  ·cases b
 |enter g args h'=>
  obtain ⟨rfl,H,z,i⟩:=J;simp only [CM] at b;split at b
  ·rename_i g' W;cases b;refine ⟨ρ,_,c::ccs,w,step_lone_go ?_,⟨Ec hE W z,.cons o u,F⟩,Ext.refl _ _ _⟩;rw [n];have X:=o.todo;simp only [stepG.apply,Sem.runT_eq,i,if_true,GStep.bare_after,GStep.bare_go,List.cons_append];generalize c.todo=td at X;generalize f.todo=fd at X;cases X with
   |nil=>rfl
   |cons a _=>cases a<;>rfl
   |rest=>
    generalize hq:U.R=r;cases r with
    |nil=>rfl
    |cons x k=>cases x<;>first|rfl|exact absurd hq (U.hR _ _ _ _ _)
  ·cases b
 |round l args h'=>
  obtain ⟨rfl,lb,H,hb,z,i⟩:=J;simp only [CM] at b;split at b
  ·rename_i g' W;cases b;obtain ⟨fn,tm,assign,body,K,T⟩:=Oh (E:=E) F hb W z;refine ⟨ρ,_,c::ccs,w,step_lone_go ?_,⟨T,.cons o u,F⟩,Ext.refl _ _ _⟩;rw [n];simp [stepG.apply,i,K]
  ·cases b
 |defer d h'=>
  obtain ⟨rfl,Y,Z,i⟩:=J;simp only [CM] at b;split at b
  ·cases b
  ·split at b
   ·rename_i Q p;cases b;have m:=BU o p (VR.undef ρ);refine ⟨ρ,{c with defers:=Y::c.defers}.finish undef,ccs,w,step_lone_go ?_,⟨?_,u,F⟩,Ext.refl _ _ _⟩
    ·rw [n];simp [stepG.apply,i]
    ·have e:({c with defers:=Y::c.defers}:Frame).finish undef={c.finish undef with defers:=Y::(c.finish undef).defers}:=by
      unfold Frame.finish;simp only;split<;>rfl
     rw [e];exact ⟨m.fn,m.tm,m.todo,⟨Z,m.defers⟩,m.mode,m.kind,m.round⟩
   ·cases b
 |recover h'=>
  obtain ⟨rfl,i⟩:=J;simp only [CM] at b;split at b
  ·rename_i a rest C I;have hk:c.kind=.deferred:=o.kind.trans I
   have L:c.roundOf=none:=by
    have:=o.round;rw [C] at this;cases hc:c.roundOf with
    |none=>rfl
    |some l=>rw [hc] at this;exact this.elim
   cases u with
   |cons z A=>
    rename_i M q;have j:=z.mode;split at b
    ·rename_i v t aa;split at b
     ·rename_i Q p;cases b;rw [aa] at j;generalize ab:M.mode=cm at j;cases j with
      |panic _ ac B=>
       cases ac with
       |nil=>exact B.elim
       |cons e D=>
        obtain ⟨O,N,h3,h4⟩:=B;obtain ⟨ev,er,eg⟩:=e;simp only at O N h3;subst N;subst h3;refine ⟨ρ,c.finish ev,{M with mode:=.panicking ({v:=ev,recovered:=true}::D)}::q,w,step_lone_go ?_,⟨BU o p O,.cons ⟨z.fn,z.tm,z.todo,z.defers,.panic _ _ ⟨O,rfl,rfl,h4⟩,z.kind,z.round⟩ A,F⟩,Ext.refl _ _ _⟩
        rw [n];simp [stepG.apply,i,L,tryRecover,hk,ab]
     ·cases b
    ·rename_i ad;split at b
     ·rename_i Q p;cases b;refine ⟨ρ,c.finish .nilIface,M::q,w,step_lone_go ?_,⟨BU o p .nilIface,.cons z A,F⟩,Ext.refl _ _ _⟩;rw [n]
      have:tryRecover c (M::(q++base))=none:=by
       have af:∀v t,M.mode≠.panicking ({v,recovered:=false,goexit:=false}::t):=by
        intro v t he;rw [he] at j;generalize ae:a.mode=am at j;cases j with
        |panic ch _ B=>
         cases ch with
         |nil=>exact B.elim
         |cons x r=>
          obtain ⟨xv,xb⟩:=x;obtain ⟨O,N,h3,h4⟩:=B;simp only at N;subst N;exact ad _ _ ae
       simp only [tryRecover,hk]
      simp [stepG.apply,i,L,this]
     ·cases b
  ·cases b
 |panic v h'=>
  obtain ⟨rfl,S,hv,i⟩:=J;simp only [CM] at b;split at b
  ·cases b;refine ⟨ρ,{c with mode:=.panicking [{v:=S,recovered:=false}]},ccs,w,step_lone_go ?_,⟨⟨o.fn,o.tm,o.todo,o.defers,.panic _ _ ⟨hv,rfl,rfl,trivial⟩,o.kind,o.round⟩,u,F⟩,Ext.refl _ _ _⟩
   rw [n];simp [stepG.apply,i,Frame.raise,hm]
  ·cases b
 |bad y=>cases b
end
end Go.AE
namespace Go.AE
variable [U:Unk]
theorem MI {d:Ren} {id:Nat} {k:List AI} {a:List Item} (h:IL d k a):(∀r,Oy id k=some r→∃e,exitTo id a=some e∧IL d r e)∧(Oy id k=none→Jc k=false→exitTo id a=none):=by
 induction h with
 |nil=>exact ⟨(fun r h=>by cases h),fun _ _=>rfl⟩
 |rest=>exact ⟨(fun r h=>by cases h),(fun _ h=>by cases h)⟩
 |cons h j f=>
  cases h with
  |inBlock i=>
   simp only [Oy,exitTo];cases g:Nat.beq i id with
   |true=>
    have:=AK g;subst this;exact ⟨fun r b=>⟨_,if_pos (by simp),by cases b;exact j⟩,(fun b _=>by cases b)⟩
   |false=>
    have c:(i==id)=false:=by simpa using ZX g
    rw [c];exact f
  |_=>exact f
theorem MK {d:Ren} {l:Nat} {k:List AI} {a:List Item} (h:IL d k a):(∀r,Om l k=some r→∃e,gotoIn l a=some e∧IL d r e)∧(Om l k=none→Jc k=false→gotoIn l a=none):=by
 induction h with
 |nil=>exact ⟨(fun r h=>by cases h),fun _ _=>rfl⟩
 |rest=>exact ⟨(fun r h=>by cases h),(fun _ h=>by cases h)⟩
 |cons h g f=>
  cases h with
  |inScope b=>
   simp only [Om,gotoIn];cases i:findLabel b l with
   |some rest=>exact ⟨fun r c=>⟨_,rfl,by cases c;exact .cons (.code _) (.cons (.inScope _) g)⟩,(fun c _=>by cases c)⟩
   |none=>exact f
  |_=>exact f
theorem CL.calm {I:Ren}:∀{l:List (AV×Bool)} {C:List PanicEntry},CL I l C→∀y∈C,y.goexit=false
 |[],[],_,y,j=>by cases j
 |_::_,e::r,⟨h1,h2,J,h4⟩,y,j=>by
  rcases F5.1 j with rfl|j
  ·exact J
  ·exact CL.calm h4 y j
theorem R0:∀(l:List PanicEntry),(∀y∈l,y.goexit=false)→l.dropWhile (!·.goexit)=[]
 |[],_=>rfl
 |y::r,h=>by
  rw [List.dropWhile_cons_of_pos (by simp [h y (by simp)])]
  exact R0 r fun z a=>h z (by simp [a])
section
variable {E:Env} (hE:OK E) {ρ:Ren} {h:Aa} {w w0:World} {fr0 c:Frame} {f:AF} {cs:List AF} {ccs base:List Frame} {s':AS}
theorem Iz {v:AV} {J:Value} (p:(stepG E.P true {frame:=fr0,callers:=ccs++base,status:=.running,dying:=none} w0).bare=(doReturn E.P true c (ccs++base) none J w).bare)
  (t:HR ρ h.blk.get w) (u:c.kind=f.kind) (z:FrL ρ cs ccs) (L:VR ρ v J) (l:EB f cs v h=.next s'):A7 E.P base ρ h fr0 ccs w0 w s':=by
 unfold EB at l;cases z with
 |nil=>
  simp only at l;split at l<;>cases l
 |cons n i=>
  rename_i a A rest j;simp only at l;split at l
  ·rename_i d;split at l
   ·rename_i S B;cases l;refine ⟨ρ,_,j,w,step_lone_go ?_,⟨BU n B L,i,t⟩,Ext.refl _ _ _⟩;rw [p];simp [doReturn,u,d]
   ·cases l
  ·rename_i d;have b:=n.mode;split at l
   ·rename_i x k C;cases l;rw [C] at b;generalize D:A.mode=T at b;cases b with
    |panic _ F m=>
     cases F with
     |nil=>exact m.elim
     |cons e o=>
      have q:=m.calm;obtain ⟨K,s,G,M⟩:=m;obtain ⟨ev,V,W⟩:=e;simp only at K s G;subst s;subst G;refine ⟨ρ,{A with mode:=.returning},j,w,step_lone_go ?_,⟨⟨n.fn,n.tm,n.todo,n.defers,.ret,n.kind,n.round⟩,i,t⟩,Ext.refl _ _ _⟩
      rw [p];simp [doReturn,u,d,D,R0 o fun y N=>q y (by simp [N])]
   ·rename_i H;cases l;refine ⟨ρ,_,j,w,step_lone_go ?_,⟨n,i,t⟩,Ext.refl _ _ _⟩;rw [p]
    have O:∀x g k,A.mode≠.panicking ({v:=x,recovered:=true,goexit:=g}::k):=by
     intro x g k Q;rw [Q] at b;generalize I:a.mode=X at b;cases b with
     |panic R _ m=>
      cases R with
      |nil=>exact m.elim
      |cons x r=>
       obtain ⟨Y,Z⟩:=x;obtain ⟨K,s,G,M⟩:=m;simp only at s;subst s;exact H _ _ I
    simp only [List.cons_append,doReturn,u,d,GStep.bare_go]
  ·cases l
include hE
theorem HB (i:HR ρ h.blk.get w) (g:FrR ρ f c):∀{m:List ResultVar} {l:List AV},Dc E f h m=some l→
  ∃d:List Value,VL ρ l d∧(m.mapM fun|.tmp t=>pure (c.tmps.getD t undef)|.cell a t=>do loadVar t (←asAddr (c.tmps.getD a undef)):Sem (List Value)).run E.P w=.ok d w
 |[],l,hs=>by
  simp only [Dc,A1] at hs;subst hs;exact ⟨[],VL.nil ρ,by simp⟩
 |.tmp t::r,l,hs=>by
  simp only [Dc] at hs;cases b:Dc E f h r with
  |none=>rw [b] at hs;cases hs
  |some l1=>
   rw [b] at hs;simp only [A1] at hs;subst hs;obtain ⟨d,j,k⟩:=HB i g b;refine ⟨c.tmps.getD t undef::d,VL.cons ?_ j,?_⟩
   ·cases e:f.tmps.get t with
    |none=>exact .top _
    |some a=>exact g.tm.get t a e
   ·simp only [List.mapM_cons,B2,CU,A2,k]
 |.cell a t::r,l,hs=>by
  simp only [Dc] at hs;cases e:f.tmps.get a with
  |none=>rw [e] at hs;cases hs
  |some p=>
   rw [e] at hs;simp only at hs;cases hl:Sz E t p h with
   |none=>rw [hl] at hs;cases hs
   |some v=>
    cases b:Dc E f h r with
    |none=>rw [hl,b] at hs;cases hs
    |some l1=>
     rw [hl,b] at hs;simp only [A1] at hs;subst hs;obtain ⟨d,j,k⟩:=HB i g b;have hp:=g.tm.get a p e;obtain ⟨n,p1,p2⟩:=Sp hE i hp hl;refine ⟨n::d,VL.cons p2 j,?_⟩
     have:(do loadVar t (←asAddr (c.tmps.getD a undef)):Sem Value).run E.P w=.ok n w:=by
      generalize c.tmps.getD a undef=x at p1 hp;cases x with
      |pointer o=>cases o with
       |none=>simp [Instr.loadAt,Instr.sureAddr,stuck] at p1
       |some y=>simpa [Instr.loadAt,Instr.sureAddr,asAddr] using p1
      |_=>simp [Instr.loadAt,Instr.sureAddr,stuck] at p1
     simp only [List.mapM_cons,B2,CU] at this ⊢;rw [this];simp only [A2,k]
theorem Gx (k:HR ρ h.blk.get w) (m:FrR ρ f c) {fn:Func} {l:List AV} (hs:Dc E f h fn.results.toList=some l) :
  ∃e,(results fn c.tmps).run E.P w=.ok e w∧(∀a,l=[a]→VR ρ a e)∧((∀a,l≠[a])→VR ρ (.tuple l) e):=by
 obtain ⟨b,d,n⟩:=HB hE k m hs;unfold results;rw [Array.mapM_eq_mapM_toList];simp only [B2,Sem.run_map,CU];refine ⟨if h:b.toArray.size=1 then b.toArray[0] else .tuple b.toArray,?_,?_,?_⟩
 ·have key:∀R:Result (List Value),R=.ok b w→((R.andThen fun a g=>Result.ok a.toArray g).andThen fun a g=>Result.ok (if h:a.size=1 then a[0] else Value.tuple a) g) =
    Result.ok (if h:b.toArray.size=1 then b.toArray[0] else Value.tuple b.toArray) w:=by rintro _ rfl;rfl
  refine key _ ?_;rw [←n]
  congr 2
 ·rintro a rfl
  obtain ⟨v,r,rfl,o,p⟩:=d.cons_inv;cases p.nil_inv;simpa using o
 ·intro i
  have:b.toArray.size≠1:=by
   intro j;have hl:=d.1;simp only [List.size_toArray] at j;rw [j] at hl;obtain ⟨a,rfl⟩:=List.length_eq_one_iff.1 hl;exact i a rfl
  rw [dif_neg this];exact .tuple _ _ d.1 d.2
end
end Go.AE
namespace Go.AE
variable [U:Unk]
theorem A7.pre {P:Program} {base:List Frame} {ρ σ:Ren} {h h1:Aa} {j:Frame} {r:List Frame} {w0 w w1:World} {I:AS} (e:Ext ρ σ h h1 w w1) (st:A7 P base σ h1 j r w0 w1 I) (hf:Bs ρ h.nx I.h.nx) :
  A7 P base ρ h j r w0 w I:=by
 obtain ⟨τ,J,C,w',q1,q2,q3⟩:=st;exact ⟨τ,J,C,w',q1,q2,e.trans q3 hf⟩
section
variable {P:Program} {fr:Frame} {k:List Item} {cs:List Frame} {w:World}
theorem Mh {l:Nat} {a:Option Code} {c:World} {v:Value} (d:fr.mode=.run) (e:fr.roundOf=some l)
  (b:(fr.todo=[]∧a=none)∨(∃k,fr.todo=.code .ret::k∧a=some .ret)∨(∃id k,fr.todo=.code (.exit id)::k∧exitTo id k=none∧a=some (.exit id))∨(∃l k,fr.todo=.code (.goto l)::k∧gotoIn l k=none∧a=some (.goto l)))
  (f:(Instr.endRound l a).run P w=.ok v c):(stepG P true {frame:=fr,callers:=cs,status:=.running,dying:=none} w).bare=(doReturn P true fr cs none v c).bare:=by
 rcases b with ⟨b,rfl⟩|⟨k,b,rfl⟩|⟨id,k,b,g,rfl⟩|⟨h,k,b,g,rfl⟩<;>
 (cases fr;simp only at d b e;subst d;subst b;subst e;simp [stepG,stepG.exec,Sem.runT_eq, *])
theorem JQ {v:Value} {fn:Func} (a:fr.mode=.returning) (b:fr.defers=[]) (c:P.funcs[fr.fn]?=some fn) (d:(results fn fr.tmps).run P w=.ok v w) :
  (stepG P true {frame:=fr,callers:=cs,status:=.running,dying:=none} w).bare=(doReturn P true fr cs none v w).bare:=by
 simp [stepG,unwind,a,b,c,Sem.runT_eq,d]
theorem ng {c:Frame} {Jp:List PanicEntry} (e:fr.mode=.panicking Jp) (f:fr.defers=[]) (g:∀d b r a k,fr.todo≠.call d b r a::k):step P (lone fr (c::cs) w)=.next (lone (c.raise Jp) cs w):=by
 have h:fr.catches P=false:=by
  unfold Frame.catches;split
  ·rename_i j i;exact absurd i (g _ _ _ _ _)
  ·rfl
 exact step_lone_go (by simp [stepG,unwind,e,f,h])
end
section
variable {E:Env} (hE:OK E) {ρ:Ren} {h:Aa} {w:World} {c:Frame} {f:AF} {cs:List AF} {ccs base:List Frame} {s':AS}
theorem KB (i:HR ρ h.blk.get w) {l:Nat} {b:DF} {st:LoopState} {pending:Option Code} {fn:FuncId} {nt:Nat} {tmps:T AV} {params:List Tmp} {assign body:Code} {d:Nat} (j:ρ l=some b)
  (hl:h.blk.get l=some (.loop st pending fn nt tmps params assign body d)) (a:Option Code) :
  ∃g,(Instr.endRound b.cb a).run E.P w=.ok (.bool a.isNone) g∧HR ρ (h.put l (.loop (if a.isNone then .ready else .done) a fn nt tmps params assign body d)).blk.get g∧
   Ext ρ ρ h (h.put l (.loop (if a.isNone then .ready else .done) a fn nt tmps params assign body d)) w g:=by
 obtain ⟨tm,k,n,o,m⟩:=i.blk l b _ j hl;have p:=AY E.P m (fun _ _ _ e=>by cases e)
 obtain ⟨q,r⟩:=i.setObj j (by rw [hl];exact fun e=>by cases e) (.loop (if a.isNone then .ready else .done) a fn nt tmps params assign body d)
  (.loop {state:=if a.isNone then .ready else .done,pending:=a,fn:=fn,tmps:=tm,params:=params.toArray,assign:=assign,body:=body,defers:=k.cb}) ⟨tm,k,n,o,rfl⟩
 refine ⟨_,?_,q,r⟩;have hs:=fun o'=>Bi (o':=o') E.P m (fun _ _ _ e=>by cases e)
 simp only [Instr.endRound,Instr.getLoop,B2,p,A2,CU,hs]
theorem RR.none_inv {ρ:Ren} {x:Option Nat} (h:RR ρ none x):x=none:=by
 cases x with
 |none=>rfl
 |some l=>exact h.elim
theorem RR.some_inv {ρ:Ren} {l:Nat} {x:Option Nat} (h:RR ρ (some l) x):∃b,ρ l=some b∧x=some b.cb:=by
 cases x with
 |none=>exact h.elim
 |some c=>obtain ⟨b,j,rfl⟩:=h;exact ⟨b,j,rfl⟩
theorem HW (s:HR ρ h.blk.get w) (i:FrR ρ f c) (o:FrL ρ cs ccs) (t:c.mode=.run) {e:Option Code}
  (j:(c.todo=[]∧e=none)∨(∃k,c.todo=.code .ret::k∧e=some .ret)∨(∃id k,c.todo=.code (.exit id)::k∧exitTo id k=none∧e=some (.exit id))∨(∃l k,c.todo=.code (.goto l)::k∧gotoIn l k=none∧e=some (.goto l)))
  (g:Fs f cs h e=.next s') (m:Bs ρ h.nx s'.h.nx):A7 E.P base ρ h c ccs w w s':=by
 have a:=i.round;unfold Fs at g;split at g
 ·rename_i p;rw [p] at a;have n:=a.none_inv
  have q:c.todo=[]∨∃k,c.todo=.code .ret::k:=by
   rcases j with ⟨j,_⟩|⟨k,j,_⟩|⟨id,k,j,u,rfl⟩|⟨A,k,j,u,rfl⟩
   ·exact .inl j
   ·exact .inr ⟨k,j⟩
   ·cases g
   ·cases g
  have hs:s'={fr:={f with mode:=.ret},cs,h}:=by
   split at g
   ·cases g;rfl
   ·cases g;rfl
   ·cases g
  subst hs;exact ⟨ρ,_,ccs,w,kA t q n,⟨⟨i.fn,i.tm,i.todo,i.defers,.ret,i.kind,i.round⟩,o,s⟩,Ext.refl _ _ _⟩
 ·rename_i l r;rw [r] at a;obtain ⟨b,v,n⟩:=a.some_inv;split at g
  ·rename_i st pending fn nt tmps params assign body d hl;obtain ⟨B,x,y,z⟩:=KB (E:=E) s v hl e;exact A7.pre z (Iz (Mh t n j x) y i.kind o (.bool _) g) m
  ·cases g
include hE
theorem S3 (u:HR ρ h.blk.get w) (o:FrR ρ f c) (q:FrL ρ cs ccs) (V:c.mode≠.run) (i:GK E f cs h=.next s'):A7 E.P base ρ h c ccs w w s':=by
 have m:=o.defers;unfold GK at i;split at i
 ·rename_i d ds B;rw [B] at m;cases n:c.defers with
  |nil=>rw [n] at m;exact m.elim
  |cons Y H=>
   rw [n] at m;obtain ⟨s,I⟩:=m;unfold DR at s;split at i
   ·rename_i t;rw [t] at s;obtain ⟨b,W,rfl⟩:=s;split at i
    ·rename_i l hl;cases i;obtain ⟨l',Z,X⟩:=u.blk _ b _ W hl;obtain ⟨p1,p2⟩:=u.setObj W (by rw [hl];exact fun e=>by cases e) (.deferred none) (.deferred none) rfl
     refine ⟨ρ,_,ccs,_,Ze V n ?_,⟨⟨o.fn,o.tm,o.todo,Z.append I,o.mode,o.kind,o.round⟩,q,p1⟩,p2⟩;have N:=AY E.P X (fun _ _ _ e=>by cases e)
     have hs:=Bi (o':=.deferred none) E.P X (fun _ _ _ e=>by cases e)
     simp only [Instr.takeDeferred,B2,N,A2,CU,hs]
    ·cases i
   ·rename_i fn t;rw [t] at s;obtain ⟨aa,c',a',h1,h2,h3,rfl⟩:=s;have hi:=ES hE u h1 h2 h3;split at i
    ·rename_i g args h' O;rw [O] at hi;obtain ⟨rfl,Q,y,J⟩:=hi;split at i
     ·rename_i gf N;cases i;exact ⟨ρ,_,{c with defers:=H}::ccs,w,cX V n (fun b e=>by cases e) (fun e=>by cases e) J,⟨Ec hE N y,.cons ⟨o.fn,o.tm,o.todo,I,o.mode,o.kind,o.round⟩ q,u⟩,Ext.refl _ _ _⟩
     ·cases i
    ·cases i
 ·rename_i B;rw [B] at m
  have n:c.defers=[]:=by
   cases n:c.defers with
   |nil=>rfl
   |cons Y H=>rw [n] at m;exact m.elim
  have j:=o.mode;split at i
  ·cases i
  ·rename_i Jp C;rw [C] at j;generalize z:c.mode=cm at j;cases j with
   |panic _ K R=>
    cases q with
    |nil=>
     simp only at i;split at i
     ·split at i<;>cases i
     ·cases i
    |cons y D=>
     rename_i a M rest F;simp only at i;split at i
     ·rename_i S;cases i;have p:=y.mode;rw [S] at p
      have L:M.mode=.run:=by
       generalize M.mode=x at p;cases p;rfl
      refine ⟨ρ,_,F,w,ng z n (fun d b r a k=>o.todo.not_call d b r a k),⟨?_,D,u⟩,Ext.refl _ _ _⟩
      have e:M.raise K={M with mode:=.panicking K}:=by simp [Frame.raise,L]
      rw [e];exact ⟨y.fn,y.tm,y.todo,y.defers,.panic _ _ R,y.kind,y.round⟩
     ·cases i
  ·rename_i C;rw [C] at j
   have z:c.mode=.returning:=by
    generalize c.mode=x at j;cases j;rfl
   split at i
   ·rename_i fn t;have A:E.P.funcs[c.fn]?=some fn:=by rw [o.fn];exact hE.fn _ _ t
    split at i
    ·rename_i v G;obtain ⟨v',p1,p2,p3⟩:=Gx hE u o G;exact Iz (JQ z n A p1) u o.kind q (p2 _ rfl) i
    ·rename_i l T G;obtain ⟨v',p1,p2,p3⟩:=Gx hE u o G;exact Iz (JQ z n A p1) u o.kind q (p3 fun a e=>T a (by rw [e])) i
    ·cases i
   ·cases i
end
end Go.AE
namespace Go.AE
variable [U:Unk]
section
variable {E:Env} (hE:OK E) {ρ:Ren} {h:Aa} {w:World} {c:Frame} {f:AF} {cs:List AF} {ccs base:List Frame} {s s':AS}
theorem A7.to {P:Program} (j:SR ρ s c ccs w) {k:List AI} {C:List Item} (I:IL ρ k C) (r:step P (lone c (ccs++base) w)=.next (lone {c with todo:=C} (ccs++base) w)) :
  A7 P base ρ s.h c ccs w w {s with fr:={s.fr with todo:=k}}:=
 ⟨ρ,_,ccs,w,r,⟨⟨j.fr.fn,j.fr.tm,I,j.fr.defers,j.fr.mode,j.fr.kind,j.fr.round⟩,j.cs,j.h⟩,Ext.refl _ _ _⟩
theorem WK (ops:Array Oper):ops.toList.map some=(List.range ops.size).map fun i=>ops[i]?:=by
 apply List.ext_getElem (by simp)
 intro i a b;simp at a;simp [a]
theorem Fx (tmps:T AV) (c:Call) (h:Aa):(∃d,HK tmps c h=.defer d h)∨∃y,HK tmps c h=.bad y:=by
 unfold HK;split
 ·split
  ·exact .inl ⟨_,rfl⟩
  ·exact .inr ⟨_,rfl⟩
 ·exact .inr ⟨_,rfl⟩
theorem Jf.not_run {ρ:Ren} {a:Jf} {m:FrameMode} (h:MR ρ a m) (j:a≠.run):m≠.run:=by
 cases h with
 |run=>exact absurd rfl j
 |ret=>exact fun e=>by cases e
 |panic=>exact fun e=>by cases e
include hE
theorem wR (a:SR ρ s c ccs w) (q:c.mode=.run) (A:s.fr.mode=.run) {all:Array Oper} {o:Oper} {rest:List Oper} {k:List AI} (B:s.fr.todo=.ops all (o::rest)::k)
  (g:(match Eh all o s.fr.tmps with
   |some true=>CM E s.fr s.cs (aop E s.fr.tmps s.h o.op)
   |some false=>CM E s.fr s.cs (.val .undef s.h)
   |none=>.bad "wanted")=.next s') (m:Bs ρ s.h.nx s'.h.nx):A7 E.P base ρ s.h c ccs w w s':=by
 have j:=a.fr.todo;rw [B] at j;obtain ⟨i,C,F,e,x,z,G⟩:=j.ops_inv;split at g
 ·rename_i r;have n:=Di a.fr.tm r
  have D:c.roundOf=none∨∀cl,o.op≠.defer cl:=by
   cases p:o.op with
   |defer cl=>
    left;have b:=a.fr.round;rcases Fx s.fr.tmps cl s.h with ⟨d,t⟩|⟨y,t⟩
    ·have l:aop E s.fr.tmps s.h o.op=.defer d s.h:=by rw [p];simpa [aop] using t
     rw [l] at g;simp only [CM] at g;split at g
     ·cases g
     ·rename_i u;rw [u] at b;exact b.none_inv
    ·have l:aop E s.fr.tmps s.h o.op=.bad y:=by rw [p];simpa [aop] using t
     rw [l] at g;cases g
   |_=>exact .inr fun cl e=>by cases e
  exact OI hE (by rw [H0 q e x n D]) (ML hE a.h a.fr.evR o) a.h a.fr a.cs q g m
 ·rename_i r;have n:=Di a.fr.tm r;simp only [CM] at g;split at g
  ·rename_i H v;cases g;exact ⟨ρ,_,ccs,w,Pe q e x n,⟨BU a.fr v (VR.undef ρ),a.cs,a.h⟩,Ext.refl _ _ _⟩
  ·cases g
 ·cases g
omit hE in
theorem Gd.congr {s t:Sem Next} {r:Res} (e:s.run E.P w=t.run E.P w) (d:Gd E ρ h w t r):Gd E ρ h w s r:=by
 cases r with
 |bad y=>trivial
 |_=>simpa only [Gd,e] using d
def Mu (a:Option Nat):Sem (Nat×List Deferred):=match a with
  |some l=>do pure ((←Instr.getLoop l).defers,[])
  |none=>do
   let r ←newObj (.deferred (some []))
   pure (r,[{target:=.collected r,args:=#[]}])
omit hE in
theorem ST (hr:HR ρ h.blk.get w) (hf:FrR ρ f c) {d:Nat} {h1:Aa} {mark:List AD} (hc:U9 f h=some (d,h1,mark)) (hfree:Bs ρ h.nx h1.nx) :
  ∃σ w1 bd mark',(Mu c.roundOf).run E.P w=.ok (bd.cb,mark') w1∧σ d=some bd∧DL σ mark mark'∧HR σ h1.blk.get w1∧Ext ρ σ h h1 w w1:=by
 have hround:=hf.round;unfold U9 at hc;split at hc
 ·rename_i l hrs;rw [hrs] at hround;obtain ⟨b,hb,hro⟩:=hround.some_inv;split at hc
  ·rename_i hl;simp only [A1,E5] at hc;obtain ⟨rfl,rfl,rfl⟩:=hc;obtain ⟨tm,bd,q1,q2,q3⟩:=hr.blk l b _ hb hl;have hg:=AY E.P q3 (fun _ _ _ e=>by cases e)
   refine ⟨ρ,w,bd,[],?_,q1,trivial,hr,Ext.refl _ _ _⟩;simp only [hro,Mu,Instr.getLoop,B2,hg,A2,CU]
  ·cases hc
 ·rename_i hrn;rw [hrn] at hround;have hro:=hround.none_inv;simp only [A1,E5] at hc;obtain ⟨rfl,rfl,rfl⟩:=hc;obtain ⟨q1,q2⟩:=hr.new (hfree h.nx (C1 _) (by simp [Aa.new])) (.deferred (some [])) (.deferred (some [])) 0 ⟨[],trivial,rfl⟩ {w with heap:=w.heap.push (.deferred (some []))} rfl rfl rfl rfl
  have hu:(ρ.upd h.nx ⟨w.heap.size,0,0⟩) h.nx=some ⟨w.heap.size,0,0⟩:=by simp [Ren.upd]
  refine ⟨_,_,⟨w.heap.size,0,0⟩,[{target:=.collected w.heap.size,args:=#[]}],?_,hu,⟨⟨_,hu,rfl⟩,trivial⟩,q1,q2⟩;simp only [hro,Mu,B2,fc,A2,CU]
theorem aC (q:SR ρ s c ccs w) (M:c.mode=.run) {D:Operand} {params:Array Tmp} {assign body:Code} {k:List AI} {F:List Item} (O:IL ρ k F) (Q:c.todo=.code (.rangeFunc D params assign body)::F)
  (p:H3 E s D params.toList assign body k=.next s') (hfree:Bs ρ s.h.nx s'.h.nx):A7 E.P base ρ s.h c ccs w w s':=by
 unfold H3 at p;split at p
 ·rename_i d h1 mark u;split at p
  ·rename_i fn first captured G;split at p
   ·rename_i g args R H;split at p
    ·rename_i gf hg;cases p;have z:(h1.new (.loop .ready none s.fr.fn s.fr.nt s.fr.tmps params.toList assign body d)).nx=h1.nx+1:=rfl;obtain ⟨σ,w1,bd,mark',q1,q2,q3,S,A⟩:=ST (E:=E) q.h q.fr u (fun b h1 h2=>hfree b h1 (by simp only [z];omega))
     have v:=q.fr.mono A.le;have n:σ h1.nx=none:=(A.free hfree) h1.nx (C1 _) (by simp only [z];omega)
     have o:=Ren.le_upd n ⟨w1.heap.size,0,0⟩;obtain ⟨p1,p2⟩:=S.new n (.loop .ready none s.fr.fn s.fr.nt s.fr.tmps params.toList assign body d)
      (.loop {state:=.ready,pending:=none,fn:=c.fn,tmps:=c.tmps,params:=params,assign:=assign,body:=body,defers:=bd.cb}) 0
      ⟨c.tmps,bd,o.m _ _ q2,v.tm.mono o,by rw [v.fn]⟩
      {w1 with heap:=w1.heap.push (.loop {state:=.ready,pending:=none,fn:=c.fn,tmps:=c.tmps,params:=params,assign:=assign,body:=body,defers:=bd.cb})} rfl rfl rfl rfl
     have hu:(σ.upd h1.nx ⟨w1.heap.size,0,0⟩) h1.nx=some ⟨w1.heap.size,0,0⟩:=by simp [Ren.upd]
     have B:(Instr.enterLoop c.fn c.tmps params assign body c.roundOf).run E.P w=.ok (w1.heap.size,mark') {w1 with heap:=w1.heap.push (.loop {state:=.ready,pending:=none,fn:=c.fn,tmps:=c.tmps,params:=params,assign:=assign,body:=body,defers:=bd.cb})}:=by
      cases hro:c.roundOf with
      |some l=>
       rw [hro] at q1;simp only [Mu,B2,CU] at q1;simp only [Instr.enterLoop,B2,CU,fc,A2];cases N:(Instr.getLoop l).run E.P w with
       |ok a w2=>
        rw [N] at q1;simp only [A2,Result.ok.injEq,E5] at q1 ⊢;obtain ⟨⟨e1,I⟩,J⟩:=q1;rw [e1,I,J];exact ⟨⟨rfl,rfl⟩,rfl⟩
       |halt x w2=>rw [N] at q1;cases q1
      |none=>
       rw [hro] at q1;simp only [Mu,B2,CU,fc,A2,Result.ok.injEq,E5] at q1;obtain ⟨⟨e1,I⟩,J⟩:=q1;simp only [Instr.enterLoop,B2,CU,fc,A2];rw [←e1,←I,←J]
     refine A7.pre (A.trans p2 hfree) ?_ hfree;have i:=v.mono o;have K:=i.evR D;rw [G] at K;generalize L:c.eval D=cv at K;cases K with
     |func _ T _ _ V c' r1 r2 W X Y=>
      have Z:VL (σ.upd h1.nx ⟨w1.heap.size,0,0⟩) (first++[.func (.yield h1.nx) [] []]) (V++[.func (.yield w1.heap.size) #[] #[]]):=
       VL.append ⟨r2,W⟩ (VL.cons (.func _ _ [] [] [] [] ⟨_,hu,rfl⟩ rfl (by simp) rfl (by simp)) (VL.nil _))
      have j:=ES hE p1 r1 ⟨X,Y⟩ Z;rw [H] at j;have he:R=_:=j.1;subst he
      refine OI hE (c:={c with todo:=.inRangeFunc w1.heap.size::F,defers:=mark'++c.defers})
       (f:={s.fr with todo:=.inRange h1.nx::k,defers:=mark++s.fr.defers}) (cs:=s.cs) (K9 M Q B) (j.congr ?_) p1
       ⟨i.fn,i.tm,.cons (.inRange _ _ hu) ((O.mono A.le).mono o),(q3.mono o).append i.defers,i.mode,i.kind,i.round⟩ ((q.cs.mono A.le).mono o) M ?_ (fun b l1 l2=>absurd (Nat.lt_of_le_of_lt l1 l2) (Nat.lt_irrefl _))
      ·have C:c.eval (.const (.func (.yield w1.heap.size) #[] #[]))=.func (.yield w1.heap.size) #[] #[]:=rfl;simp [resolve,L,C,Deferred.ofValue]
      ·simp only [CM,hg]
    ·cases p
   ·cases p
  ·cases p
 ·cases p
theorem RG (g:SR ρ s c ccs w) (p:HD E s=.next s') (hfree:Bs ρ s.h.nx s'.h.nx):A7 E.P base ρ s.h c ccs w w s':=by
 have z:=g.fr.mode;have m:=g.fr.todo;unfold HD at p;simp only at p;split at p
 ·rename_i D;rw [D] at z
  have v:c.mode=.run:=by
   generalize c.mode=x at z;cases z;rfl
  split at p
  ·rename_i B;rw [B] at m;generalize n:c.todo=H at m;cases m;exact HW g.h g.fr g.cs v (.inl ⟨n,rfl⟩) p hfree
  ·rename_i id k B;rw [B] at m;generalize n:c.todo=H at m;cases m with|cons a u=>
   cases a;cases p;exact A7.to g u (UM v n)
  ·rename_i id k B;rw [B] at m;generalize n:c.todo=H at m;cases m with|cons a u=>
   cases a;cases p;exact A7.to g u (Uq v n)
  ·rename_i b k B;rw [B] at m;generalize n:c.todo=H at m;cases m with|cons a u=>
   cases a;cases p;exact A7.to g (.cons (.code _) (.cons (.inLoop _) u)) (WD v n)
  ·rename_i all k B;rw [B] at m;generalize n:c.todo=H at m;cases m with|cons a u=>
   cases a with|ops _ _ K L=>
   cases K with
   |cons i K=>cases L
   |nil=>
    cases p;exact A7.to g u (JM v n)
  ·rename_i all o rest k B;exact wR hE g v D B p hfree
  ·cases p
  ·cases p
  ·cases p
  ·rename_i l k B;rw [B] at m;generalize n:c.todo=H at m;cases m with|cons a u=>
   cases a with|endRange _ b hb=>
   split at p
   ·rename_i st pending fn nt tmps params assign body d hl;split at p
    ·cases p
    ·rename_i O;cases p;obtain ⟨tm,bd,h1,I,M⟩:=g.h.blk l b _ hb hl;have hg:=AY E.P M (fun _ _ _ e=>by cases e)
     obtain ⟨q1,q2⟩:=g.h.setObj hb (by rw [hl];exact fun e=>by cases e) (.loop .exhausted pending fn nt tmps params assign body d)
      (.loop {state:=.exhausted,pending,fn:=fn,tmps:=tm,params:=params.toArray,assign:=assign,body:=body,defers:=bd.cb}) ⟨tm,bd,h1,I,rfl⟩
     have hs:=fun o'=>Bi (o':=o') E.P M (fun _ _ _ e=>by cases e)
     have Q:(st==LoopState.busy)=false:=by
      cases st<;>first|rfl|exact absurd rfl O
     have N:(Instr.endLoop b.cb).run E.P w=.ok pending {w with heap:=w.heap.setIfInBounds b.cb (.loop {state:=.exhausted,pending,fn:=fn,tmps:=tm,params:=params.toArray,assign:=assign,body:=body,defers:=bd.cb})}:=by
      simp only [Instr.endLoop,Instr.getLoop,B2,hg,A2,CU,Q,E2,ez,hs]
     refine ⟨ρ,_,ccs,_,T1 v n N,⟨⟨g.fr.fn,g.fr.tm,?_,g.fr.defers,g.fr.mode,g.fr.kind,g.fr.round⟩,g.cs,q1⟩,q2⟩;cases pending with
     |none=>exact u
     |some j=>exact .cons (.code _) u
   ·cases p
  ·rename_i k B;rw [B] at m;generalize n:c.todo=H at m;cases m with|cons a u=>
   cases a;have hround:=g.fr.round;split at p
   ·rename_i l hrs;rw [hrs] at hround;obtain ⟨b,hb,hro⟩:=hround.some_inv;split at p
    ·rename_i pending fn nt tmps params assign body d hl;cases p;obtain ⟨tm,bd,h1,I,M⟩:=g.h.blk l b _ hb hl;have hg:=AY E.P M (fun _ _ _ e=>by cases e)
     obtain ⟨q1,q2⟩:=g.h.setObj hb (by rw [hl];exact fun e=>by cases e) (.loop .busy pending fn nt tmps params assign body d)
      (.loop {state:=.busy,pending,fn:=fn,tmps:=tm,params:=params.toArray,assign:=assign,body:=body,defers:=bd.cb}) ⟨tm,bd,h1,I,rfl⟩
     have hs:=fun o'=>Bi (o':=o') E.P M (fun _ _ _ e=>by cases e)
     refine ⟨ρ,_,ccs,_,N6 v n hro ?_,⟨⟨g.fr.fn,g.fr.tm,u,g.fr.defers,g.fr.mode,g.fr.kind,g.fr.round⟩,g.cs,q1⟩,q2⟩;simp only [Instr.beginRound,Instr.getLoop,B2,hg,A2,CU,hs]
    ·cases p
   ·cases p
  ·rename_i X k B;rw [B] at m;generalize n:c.todo=H at m;cases m with|cons a u=>
   cases a;split at p
   ·exact HW g.h g.fr g.cs v (.inr (.inl ⟨_,n,rfl⟩)) p hfree
   ·cases p;exact A7.to g u (ci v n)
   ·cases p;exact A7.to g u (Yu v n)
   ·cases p;exact A7.to g (.cons (.code _) (.cons (.code _) u)) (lZ v n)
   ·rename_i F x y;have G:=g.fr.evR F;split at p
    ·rename_i C;rw [C] at G;generalize A:c.eval F=R at G;cases G;cases p;exact A7.to g (.cons (.code _) u) (Lw v n A)
    ·rename_i C;rw [C] at G;generalize A:c.eval F=R at G;cases G;cases p;exact A7.to g (.cons (.code _) u) (Lw v n A)
    ·rename_i pos e C;rw [C] at G;generalize A:c.eval F=R at G;cases G;split at p
     ·rename_i q T;have V:=AA U.ok T;rw [V] at A;split at p
      ·rename_i hp;rw [hp] at A;cases p;exact A7.to g (.cons (.code _) u) (Lw v n A)
      ·rename_i hp;rw [hp] at A;cases p;exact A7.to g (.cons (.code _) u) (Lw v n A)
     ·cases p
    ·cases p
   ·cases p;exact A7.to g (.cons (.code _) (.cons (.inBlock _) u)) (aB v n)
   ·cases p;exact A7.to g (.cons (.code _) (.cons (.inLoop _) u)) (dI v n)
   ·cases p;exact A7.to g (.cons (.code _) (.cons (.inScope _) u)) (Z6 v n)
   ·rename_i id;split at p
    ·rename_i k2 C;cases p;obtain ⟨W,h1,I⟩:=(MI u).1 _ C;exact A7.to g I (dy v n h1)
    ·rename_i C;split at p
     ·cases p
     ·rename_i J;exact HW g.h g.fr g.cs v (.inr (.inr (.inl ⟨_,_,n,(MI u).2 C J,rfl⟩))) p hfree
   ·rename_i id;split at p
    ·rename_i k2 C;cases p;obtain ⟨W,h1,I⟩:=(MK u).1 _ C;exact A7.to g I (dq v n h1)
    ·rename_i C;split at p
     ·cases p
     ·rename_i J;exact HW g.h g.fr g.cs v (.inr (.inr (.inr ⟨_,_,n,(MK u).2 C J,rfl⟩))) p hfree
   ·exact aC hE g v u n p hfree
   ·rename_i id ops S;split at p
    ·cases p;exact A7.to g (.cons (.ops _ _ _ (WK _)) u) (W0 v n)
    ·cases p
   ·cases p
 ·rename_i D;exact S3 hE g.h g.fr g.cs (Jf.not_run z D) p
end
end Go.AE
namespace Go.AE
variable [U:Unk]
def WF (h:Aa):Prop:=∀b,h.nx≤b→h.blk.get b=none
theorem Ext.wf {ρ j:Ren} {h h':Aa} {w r:World} (e:Ext ρ j h h' w r) (C:WF h):WF h':=by
 intro b hb;have:=e.nx;cases I:h'.blk.get b with
 |none=>rfl
 |some x=>
  rcases e.live b (by rw [I];exact fun e=>by cases e) with J|⟨_,h2⟩
  ·exact absurd (C b (by omega)) J
  ·omega
def Cm (P:Program) (m:Machine) (c0:Frame) (base:List Frame) (ok:Bool) (v:Value) (w:World):Prop:=
 match ok with
 |true=>Steps P m (lone (c0.finish v) base w)
 |false=>Steps P m (lone (c0.raise [{v:=v,recovered:=false}]) base w)
theorem Cm.head {P:Program} {m j:Machine} {c0:Frame} {base:List Frame} {ok:Bool} {v:Value} {w:World} (h:step P m=.next j) (k:Cm P j c0 base ok v w):Cm P m c0 base ok v w:=by
 cases ok
 ·exact Steps.head h k
 ·exact Steps.head h k
def Mb (E:Env) (a:Ask→Aa→Option (Bool×AV×Aa)):Prop:=
 (∀(f:FuncId) (args:List AV) (b:List Value) (h g:Aa) (ok:Bool) (v:AV) (c:Ren) (w:World),VL c args b→HR c h.blk.get w→WF h→a (.enter f args) h=some (ok,v,g)→Bs c h.nx g.nx→
  ∀(c0:Frame) (base:List Frame),∃d i e,Cm E.P (lone (Frame.enter E.P f b.toArray .normal) (c0::base) w) c0 base ok i e∧VR d v i∧HR d g.blk.get e∧Ext c d h g w e)∧
 (∀(l:Nat) (args:List AV) (h g:Aa) (ok:Bool) (v:AV) (c:Ren) (w:World),HR c h.blk.get w→WF h→a (.round l args) h=some (ok,v,g)→Bs c h.nx g.nx→
  ∃fr,Hr l args h=some fr∧∀(j:Frame),FrR c fr j→∀(c0:Frame) (base:List Frame),∃d i e,Cm E.P (lone j (c0::base) w) c0 base ok i e∧VR d v i∧HR d g.blk.get e∧Ext c d h g w e)
def part (h:Aa):Option (List Nat)→Aa
 |some a=>{blk:=D8 h a,nx:=h.nx,log:=[]}
 |none=>{h with log:=[]}
theorem Ee (h:Aa):∀(l:List Nat) (b:Nat),(D8 h l).get b=none∨(b∈l∧(D8 h l).get b=h.blk.get b)
 |[],b=>.inl rfl
 |c::r,b=>by
  simp only [D8];cases f:h.blk.get c with
  |none=>
   rcases Ee h r b with q|⟨a,d⟩
   ·exact .inl q
   ·exact .inr ⟨by simp [a],d⟩
  |some x=>
   simp only [T.get_set];by_cases e:c=b
   ·subst e;rw [if_pos rfl];exact .inr ⟨by simp,f.symm⟩
   ·rw [if_neg e];rcases Ee h r b with q|⟨a,d⟩
    ·exact .inl q
    ·exact .inr ⟨by simp [a],d⟩
theorem LB {h:Aa} (c:WF h) (fp:Option (List Nat)):WF (part h fp):=by
 intro b d;cases fp with
 |none=>exact c b d
 |some a=>
  rcases Ee h a b with q|⟨_,q⟩
  ·exact q
  ·exact q.trans (c b d)
theorem PA {f:Ren} {a:AV} {v:Value} (h:VR f a v):VR f (aW a) v:=by
 unfold aW;split
 ·rename_i b nl;split
  ·rename_i d;have e:=AA U.ok d;cases h with
   |nmap _ _ c g hn=>rw [hn] at e;cases e
   |nmap0=>exact .map0
  ·rename_i d;have e:=AA U.ok d;cases h with
   |nmap _ _ c g hn=>exact .map _ c g
   |nmap0 _ _ hn=>rw [hn] at e;cases e
  ·exact h
 ·exact h
theorem Ei (t:T AV):∀(l:List Tmp) (i:Tmp) (x:AV),(B9 t l).get i=some x→i∈l∧∃y,t.get i=some y∧x=aW y
 |[],i,x,h=>by cases h
 |c::r,i,x,h=>by
  simp only [B9] at h;cases a:t.get c with
  |none=>
   rw [a] at h;obtain ⟨b,d⟩:=Ei t r i x h;exact ⟨by simp [b],d⟩
  |some y=>
   rw [a] at h;simp only [T.get_set] at h;by_cases e:c=i
   ·subst e;rw [if_pos rfl] at h;cases h;exact ⟨by simp,_,a,rfl⟩
   ·rw [if_neg e] at h;obtain ⟨b,d⟩:=Ei t r i x h;exact ⟨by simp [b],d⟩
section
variable {E:Env} (hE:OK E) {callF:Ask→Aa→Option (Bool×AV×Aa)} {ρ:Ren} {h:Aa} {w:World} {c:Frame} {cs:List Frame}
include hE
theorem Pp (Z:Mb E callF) {all:Array Oper} {o:Oper} {nt:Nat} {t:T AV} {d:Did} {i:Nat} {rest:List Nat} {k:List Item} (m:G7 E callF all o t h=some d) (J:WF h) (M:c.mode=.run)
  (B:c.todo=.inRegion all (i::rest)::k) (N:all[i]?=some o) (O:TR ρ nt t c.tmps) (H:HR ρ (part h d.fp).blk.get w) (n:Bs ρ h.nx d.g.nx) :
  ∃C F D,Cm E.P (lone c cs w) c cs d.ok F D∧VR C d.v F∧HR C d.g.blk.get D∧Ext ρ C (part h d.fp) d.g w D:=by
 have I:EvR ρ t c.eval:=by
  intro x;have:=LO O x;cases x<;>exact this
 unfold G7 at m;split at m
 ·cases m
 ·rename_i Q;have q:=Di O Q;cases m;exact ⟨ρ,undef,w,Steps.one (Pe M B N q),VR.undef ρ,H,Ext.refl _ _ _⟩
 ·rename_i Q;have q:=Di O Q;split at m
  ·rename_i G
   have s:∀cl,o.op≠.defer cl:=by
    intro cl e;rw [e] at G;cases G
   simp only at m;split at m
   ·rename_i v g j;cases m;have a:=ML hE (h:=part h (some (Y2 t h o.op))) H I o;rw [show aop E t (part h (some (Y2 t h o.op))) o.op=_ from j] at a
    obtain ⟨C,F,D,K,L,R,S⟩:=a n;exact ⟨C,F,D,Steps.one (US M B N q (.inr s) K),L,R,S⟩
   ·cases m
  ·have u:∀{r:Res},aop E t {h with log:=[]} o.op=r→(∀d g,r≠.defer d g)→(∀y,r≠.bad y)→∀cl,o.op≠.defer cl:=by
    intro r j n1 n2 cl e;rw [e] at j;simp only [aop] at j;rcases Fx t cl {h with log:=[]} with ⟨d,V⟩|⟨y,V⟩
    ·exact n1 _ _ (j.symm.trans V)
    ·exact n2 _ (j.symm.trans V)
   split at m
   ·rename_i f args h' j;split at m
    ·rename_i ok v g p;cases m;have a:=ML hE (h:=part h none) H I o;rw [show aop E t (part h none) o.op=_ from j] at a
     obtain ⟨rfl,z,W,A⟩:=a;have s:=u j (fun _ _ e=>by cases e) (fun _ e=>by cases e)
     obtain ⟨C,F,D,K,L,R,S⟩:=Z.1 f args z (part h none) g ok v ρ w W H (LB J none) p n c cs;exact ⟨C,F,D,K.head (RW M B N q (.inr s) A),L,R,S⟩
    ·cases m
   ·rename_i l args h' j;split at m
    ·rename_i ok v g p;cases m;have a:=ML hE (h:=part h none) H I o;rw [show aop E t (part h none) o.op=_ from j] at a
     obtain ⟨rfl,b,z,hb,W,A⟩:=a;have s:=u j (fun _ _ e=>by cases e) (fun _ e=>by cases e)
     obtain ⟨fr,X,Y⟩:=Z.2 l args (part h none) g ok v ρ w H (LB J none) p n;obtain ⟨fn,tm,assign,body,K,L⟩:=Oh (E:=E) (h:=h) H hb (show Hr l args h=some fr from X) W
     obtain ⟨C,F,D,p1,p2,p3,p4⟩:=Y _ L c cs;exact ⟨C,F,D,p1.head (bC M B N q (.inr s) (A.trans K)),p2,p3,p4⟩
    ·cases m
   ·cases m
end
end Go.AE
namespace Go.AE
variable [U:Unk]
theorem IX {b:Nat}:∀{l:List Nat},NQ b l=true↔b∈l
 |[]=>by simp [NQ]
 |c::r=>by
  simp only [NQ,F5];cases e:Nat.beq b c with
  |true=>simp [AK e]
  |false=>simp only;rw [IX];simp [ZX e]
theorem Iv:∀{l m:List Nat},Ma l m=true→∀b∈l,b∉m
 |[],m,_,b,a=>by cases a
 |c::r,m,h,b,a=>by
  simp only [Ma] at h;cases e:NQ c m with
  |true=>rw [e] at h;cases h
  |false=>
   rw [e] at h;rcases F5.1 a with rfl|a
   ·exact fun d=>by rw [IX.2 d] at e;cases e
   ·exact Iv h b a
theorem SK {lo hi:Nat}:∀{l:List Nat},dz lo hi l=true→∀b∈l,¬(lo≤b∧b<hi)
 |[],_,b,a=>by cases a
 |c::r,h,b,a=>by
  simp only [dz] at h;cases e:Nat.ble lo c&&Nat.blt c hi with
  |true=>rw [e] at h;cases h
  |false=>
   rw [e] at h;rcases F5.1 a with rfl|a
   ·rintro ⟨d,f⟩
    have:(Nat.ble lo b&&Nat.blt b hi)=true:=by simp [Nat.ble_eq,Nat.blt_eq,d,f]
    rw [this] at e;cases e
   ·exact SK h b a
theorem CY {n b:Nat}:∀{l:List Nat},b∈Db n l↔b∈l∧b<n
 |[]=>by simp [Db]
 |c::r=>by
  simp only [Db];cases e:Nat.blt c n with
  |true=>
   simp only [F5,CY];have:c<n:=by simpa [Nat.blt_eq] using e
   constructor
   ·rintro (rfl|h)
    ·exact ⟨.inl rfl,this⟩
    ·exact ⟨.inr h.1,h.2⟩
   ·rintro ⟨rfl|h,a⟩
    ·exact .inl rfl
    ·exact .inr ⟨h,a⟩
  |false=>
   simp only [F5,CY]
   have:¬c<n:=by
    intro h;have:Nat.blt c n=true:=by simpa [Nat.blt_eq] using h
    rw [this] at e;cases e
   constructor
   ·rintro h;exact ⟨.inr h.1,h.2⟩
   ·rintro ⟨rfl|h,a⟩
    ·exact absurd a this
    ·exact ⟨h,a⟩
structure Rc.Apart (x y:Rc):Prop where
 fp1:∀b∈x.wr,∀l,y.fp=some l→b∉l
 fp1n:y.fp=none→x.wr=[]
 fp2:∀b∈y.wr,∀l,x.fp=some l→b∉l
 fp2n:x.fp=none→y.wr=[]
 wr:∀b∈x.wr,b∉y.wr
 out:∀b∈y.wr,¬(x.lo≤b∧b<x.hi)
 look1:∀t,x.dst=some t→t∉y.looks
 look2:∀t,y.dst=some t→t∉x.looks
 dst:∀t,x.dst=some t→y.dst≠some t
theorem KE {w l:List Nat} (h:M9 w (some l)=true):∀b∈w,b∉l:=Iv h
theorem Rc.apart_ok {x y:Rc} (h:x.apart y=true):x.Apart y:=by
 simp only [Rc.apart,B1,X9] at h;obtain ⟨⟨⟨⟨⟨⟨r,C⟩,h3⟩,h4⟩,I⟩,J⟩,h7⟩:=h;refine ⟨fun b hb l hl=>?_,fun hn=>?_,fun b hb l hl=>?_,fun hn=>?_,Iv h3,SK h4,fun t j hm=>?_,fun t j hm=>?_,fun t j ab=>?_⟩
 ·rw [hl] at r;exact KE r b hb
 ·rw [hn] at r;simpa [M9] using r
 ·rw [hl] at C;exact KE C b hb
 ·rw [hn] at C;simpa [M9] using C
 ·rw [j] at I;rw [eS,IX.2 hm] at I;cases I
 ·rw [j] at J;rw [eS,IX.2 hm] at J;cases J
 ·rw [j,ab,gN,FL] at h7;cases h7
theorem Yi (m i:Nat):Nat.beq (m/2^i%2) 1=m.testBit i:=by
 rw [Nat.testBit_eq_decide_div_mod_eq];by_cases h:m/2^i%2=1
 ·rw [h];rfl
 ·rw [Gr h];simp [h]
theorem KT {y:Rc}:∀{l:List Rc} {p:Nat},Gi y l p=true→∀i x,l[i]?=some x→y.mask.testBit (p+i)=true∨x.Apart y
 |[],p,h,i,x,a=>by cases a
 |c::r,p,h,i,x,a=>by
  simp only [Gi,Yi] at h;cases e:y.mask.testBit p||c.apart y with
  |false=>rw [e] at h;cases h
  |true=>
   rw [e] at h;cases i with
   |zero=>
    simp only [D1,A1] at a;subst a;rcases Bool.or_eq_true_iff.1 e with e|e
    ·exact .inl e
    ·exact .inr (Rc.apart_ok e)
   |succ i=>
    have:=KT h i x (by simpa using a)
    rw [show p+(i+1)=p+1+i by omega]
    exact this
theorem En {recs:List Rc}:∀{j:List Edge} {m:Nat},C7 recs j=some m→
  (∀e∈j,Region.binds .any e=true→∃x,recs[e.on]?=some x)∧
  ∀i,m.testBit i=true↔∃e∈j,Region.binds .any e=true∧∃x,recs[e.on]?=some x∧(x.mask.testBit i=true∨i=e.on)
 |[],m,h=>by
  simp only [C7,A1] at h;subst h;simp
 |e::r,m,h=>by
  simp only [C7] at h;cases k:C7 recs r with
  |none=>rw [k] at h;cases h
  |some m1=>
   rw [k] at h;obtain ⟨n,o⟩:=En k;simp only at h;cases f:Region.binds .any e with
   |false=>
    rw [f] at h;simp only [A1] at h;subst h;refine ⟨fun a c b=>?_,fun i=>?_⟩
    ·rcases F5.1 c with rfl|c
     ·rw [f] at b;cases b
     ·exact n a c b
    ·rw [o];constructor
     ·rintro ⟨a,c,d⟩;exact ⟨a,by simp [c],d⟩
     ·rintro ⟨a,c,b,d⟩
      rcases F5.1 c with rfl|c
      ·rw [f] at b;cases b
      ·exact ⟨a,c,b,d⟩
   |true=>
    rw [f] at h;simp only at h;cases g:recs[e.on]? with
    |none=>rw [g] at h;cases h
    |some x=>
     rw [g] at h;simp only [A1] at h;subst h;refine ⟨fun a c b=>?_,fun i=>?_⟩
     ·rcases F5.1 c with rfl|c
      ·exact ⟨x,g⟩
      ·exact n a c b
     ·simp only [Nat.testBit_or,g0,Nat.testBit_two_pow,F4,o];constructor
      ·rintro ((⟨a,c,d⟩|h)|h)
       ·exact ⟨a,by simp [c],d⟩
       ·exact ⟨e,by simp,f,x,g,.inl h⟩
       ·exact ⟨e,by simp,f,x,g,.inr h.symm⟩
      ·rintro ⟨a,c,b,y,l,d⟩
       rcases F5.1 c with rfl|c
       ·rw [g] at l;cases l;rcases d with d|d
        ·exact .inl (.inr d)
        ·exact .inr d.symm
       ·exact .inl (.inl ⟨a,c,b,y,l,d⟩)
theorem Gq (blk g:T Aj):∀(l:List Nat) (b:Nat),(b∉l→(IG blk g l).get b=blk.get b)∧(b∈l→(IG blk g l).get b=none∨(blk.get b≠none∧(IG blk g l).get b=g.get b))
 |[],b=>⟨fun _=>rfl,(fun h=>by cases h)⟩
 |c::r,b=>by
  have a:=Gq blk g r b;simp only [IG];split
  ·rename_i x y d f;rw [T.get_set];refine ⟨fun h=>?_,fun h=>?_⟩
   ·rw [if_neg (by rintro rfl;simp at h)];exact a.1 (by simp at h;exact h.2)
   ·by_cases e:c=b
    ·subst e;rw [if_pos rfl];exact .inr ⟨(by rw [f];exact A3 _),d.symm⟩
    ·rw [if_neg e];exact a.2 ((F5.1 h).resolve_left (fun q=>e q.symm))
  ·rw [T.get_del];refine ⟨fun h=>?_,fun h=>?_⟩
   ·rw [if_neg (by rintro rfl;simp at h)];exact a.1 (by simp at h;exact h.2)
   ·by_cases e:c=b
    ·subst e;rw [if_pos rfl];exact .inl rfl
    ·rw [if_neg e];exact a.2 ((F5.1 h).resolve_left (fun q=>e q.symm))
theorem Gu (blk g:T Aj):∀(n i b:Nat),(Kv blk g i n).get b=if i≤b∧b<i+n∧g.get b≠none then g.get b else blk.get b
 |0,i,b=>by
  simp only [Kv];rw [if_neg (by omega)]
 |n+1,i,b=>by
  have d:=Gu blk g n (i+1) b;simp only [Kv];cases a:g.get i with
  |none=>
   simp only;rw [d];by_cases e:i=b
   ·subst e;rw [if_neg (by omega),if_neg (by rintro ⟨_,_,h⟩;exact h a)]
   ·by_cases q:i+1≤b∧b<i+1+n∧g.get b≠none
    ·rw [if_pos q,if_pos ⟨by omega,by omega,q.2.2⟩]
    ·rw [if_neg q,if_neg (by rintro ⟨f,j,c⟩;exact q ⟨by omega,by omega,c⟩)]
  |some x=>
   simp only [T.get_set];by_cases e:i=b
   ·subst e;rw [if_pos rfl,if_pos ⟨by omega,by omega,(by rw [a];exact A3 _)⟩,a]
   ·rw [if_neg e,d];by_cases q:i+1≤b∧b<i+1+n∧g.get b≠none
    ·rw [if_pos q,if_pos ⟨by omega,by omega,q.2.2⟩]
    ·rw [if_neg q,if_neg (by rintro ⟨f,j,c⟩;exact q ⟨by omega,by omega,c⟩)]
section
variable {h g:Aa}
theorem Dk (hn:h.nx≤g.nx) {b:Nat} (a:b∉Db h.nx g.log) (c:b<h.nx∨g.nx≤b):(BA h g).blk.get b=h.blk.get b:=by
 simp only [BA,Gu];rw [if_neg (by omega)]
 exact (Gq _ _ _ b).1 a
theorem HS {b:Nat} (a:b∈Db h.nx g.log):(BA h g).blk.get b=none∨(h.blk.get b≠none∧(BA h g).blk.get b=g.blk.get b):=by
 have c:=(CY.1 a).2;simp only [BA,Gu];rw [if_neg (by omega)]
 exact (Gq _ _ _ b).2 a
theorem Iw (c:WF h) (hn:h.nx≤g.nx) {b:Nat} (a:h.nx≤b) (f:b<g.nx):(BA h g).blk.get b=g.blk.get b:=by
 simp only [BA,Gu];have d:b∉Db h.nx g.log:=fun e=>by have:=(CY.1 e).2;omega
 cases i:g.blk.get b with
 |none=>
  rw [if_neg (by rintro ⟨_,_,h⟩;exact h rfl),(Gq _ _ _ b).1 d,c b a]
 |some x=>rw [if_pos ⟨a,by omega,fun e=>by cases e⟩]
theorem HZ (c:WF h) (hn:h.nx≤g.nx):WF (BA h g):=by
 intro b d;have a:g.nx≤b:=d;rw [Dk hn (fun e=>by have:=(CY.1 e).2;omega) (.inr a)]
 exact c b (by omega)
theorem Ht (d:WF h) (hn:h.nx≤g.nx) {b:Nat} (a:(BA h g).blk.get b≠none):h.blk.get b≠none∨(h.nx≤b∧b<g.nx):=by
 by_cases e:b<h.nx
 ·by_cases c:b∈Db h.nx g.log
  ·rcases HS c with q|⟨q,_⟩
   ·exact absurd q a
   ·exact .inl q
  ·rw [Dk hn c (.inl e)] at a;exact .inl a
 ·by_cases c:b<g.nx
  ·exact .inr ⟨by omega,c⟩
  ·exact absurd (HZ d hn b (by show g.nx≤b;omega)) a
end
end Go.AE
namespace Go.AE
variable [U:Unk]
structure Tx (E:Env) (callF:Ask→Aa→Option (Bool×AV×Aa)) (all:Array Oper) (H:Nat→Aa) (Tm:Nat→T AV) (R:Nat→Rc) (Dd:Nat→Did) (j:Nat) (o:Oper):Prop where
 mask:C7 ((List.range j).map R) o.after.toList=some (R j).mask
 did:G7 E callF all o (B9 (Tm j) (C0 all o)) (H j)=some (Dd j)
 nx:(H j).nx≤(Dd j).g.nx
structure Good (E:Env) (callF:Ask→Aa→Option (Bool×AV×Aa)) (all:Array Oper) (nt:Nat) (H:Nat→Aa) (Tm:Nat→T AV) (R:Nat→Rc) (Dd:Nat→Did) (j:Nat) (o:Oper):Prop where
 tx:Tx E callF all H Tm R Dd j o
 wr:(R j).wr=Db (H j).nx (Dd j).g.log
 fp:(R j).fp=(Dd j).fp
 lo:(R j).lo=(H j).nx
 hi:(R j).hi=(Dd j).g.nx
 dst:(R j).dst=o.dst
 looks:(R j).looks=C0 all o
 apart:Gi (R j) ((List.range j).map R) 0=true
 put:MX nt (Tm j) o.dst (Dd j).v=some (Tm (j+1))
 heap:H (j+1)=BA (H j) (Dd j).g
 ok:(Dd j).ok=true
structure Bad (E:Env) (callF:Ask→Aa→Option (Bool×AV×Aa)) (all:Array Oper) (H:Nat→Aa) (Tm:Nat→T AV) (R:Nat→Rc) (Dd:Nat→Did) (j:Nat) (o:Oper) (rest:List Oper):Prop where
 tx:Tx E callF all H Tm R Dd j o
 ok:(Dd j).ok=false
 all:(R j).mask+1=2^j
 after:∃recs:List Rc,recs.length=j∧recs=(List.range j).map R∧FQ (recs++[{wr:=[],fp:=none,lo:=0,hi:=0,dst:=none,looks:=[],mask:=(R j).mask}]) j rest=true
section
variable {E:Env} {callF:Ask→Aa→Option (Bool×AV×Aa)} {all:Array Oper} {nt:Nat}
theorem JG {b:Type} {R:Nat→b} {a:List b} (h:∀i x,a[i]?=some x→R i=x):(List.range a.length).map R=a:=by
 apply List.ext_getElem (by simp)
 intro i d c;simp only [List.getElem_map,List.getElem_range];exact h i _ (by simp [c])
theorem Jg:∀(l:List Oper) (a:List Rc) (tmps:T AV) (h:Aa) (r:Option AV) (f:T AV) (h':Aa),DJ E callF all nt l a tmps h=some (r,f,h')→
  ∃H A R F m,(∀i x,a[i]?=some x→R i=x)∧H a.length=h∧A a.length=tmps∧(∀i,i<m→∃o,l[i]?=some o∧Good E callF all nt H A R F (a.length+i) o)∧
   (r=none→m=l.length∧f=A (a.length+m)∧h'=H (a.length+m))∧
   (∀v,r=some v→∃o,l[m]?=some o∧Bad E callF all H A R F (a.length+m) o (l.drop (m+1))∧v=(F (a.length+m)).v∧f=A (a.length+m)∧h'=BA (H (a.length+m)) (F (a.length+m)).g)
 |[],a,tmps,h,r,f,h',c=>by
  simp only [DJ,A1,E5] at c;obtain ⟨rfl,rfl,rfl⟩:=c;exact ⟨fun _=>h,fun _=>tmps,fun i=>a.getD i default,fun _=>default,0,fun i x B=>by simp [B],rfl,rfl,fun i hi=>absurd hi (iv _),fun _=>⟨rfl,rfl,rfl⟩,(fun v K=>by cases K)⟩
 |o::rest,a,tmps,h,r,f,h',c=>by
  simp only [DJ] at c;cases s:C7 a o.after.toList with
  |none=>rw [s] at c;cases c
  |some mask=>
   rw [s] at c;simp only at c;cases z:G7 E callF all o (B9 tmps (C0 all o)) h with
   |none=>rw [z] at c;cases c
   |some d=>
    rw [z] at c;simp only at c;cases G:Nat.ble h.nx d.g.nx with
    |false=>rw [G] at c;cases c
    |true=>
     have N:h.nx≤d.g.nx:=XA G;cases I:d.ok with
     |true=>
      rw [G,I] at c;simp only at c;cases L:Gi {wr:=Db h.nx d.g.log,fp:=d.fp,lo:=h.nx,hi:=d.g.nx,dst:=o.dst,looks:=C0 all o,mask} a 0 with
      |false=>rw [L] at c;cases c
      |true=>
       rw [L] at c;simp only at c;cases C:MX nt tmps o.dst d.v with
       |none=>rw [C] at c;cases c
       |some t1=>
        rw [C] at c;simp only at c;obtain ⟨H,A,R,F,m,W,X,Y,Z,q5,q6⟩:=Jg rest _ t1 _ r f h' c;have hl:(a++[({wr:=Db h.nx d.g.log,fp:=d.fp,lo:=h.nx,hi:=d.g.nx,dst:=o.dst,looks:=C0 all o,mask}:Rc)]).length=a.length+1:=by simp
        rw [hl] at X Y Z q5 q6;have hR:R a.length={wr:=Db h.nx d.g.log,fp:=d.fp,lo:=h.nx,hi:=d.g.nx,dst:=o.dst,looks:=C0 all o,mask}:=W _ _ (by simp)
        have k:∀i x,a[i]?=some x→R i=x:=fun i x B=>W i x (by rw [Ea (B3.1 B).1];exact B)
        have D:=JG k;have q:∀j,a.length+1≤j→(fun i=>if i≤a.length then h else H i) j=H j:=fun j n=>if_neg (by omega)
        have w:∀j,a.length+1≤j→(fun i=>if i≤a.length then tmps else A i) j=A j:=fun j n=>if_neg (by omega)
        have p:∀j,a.length+1≤j→(fun i=>if i≤a.length then d else F i) j=F j:=fun j n=>if_neg (by omega)
        have y:(fun i=>if i≤a.length then h else H i) a.length=h:=if_pos (C1 _)
        have J:(fun i=>if i≤a.length then tmps else A i) a.length=tmps:=if_pos (C1 _)
        have u:(fun i=>if i≤a.length then d else F i) a.length=d:=if_pos (C1 _)
        generalize (fun i=>if i≤a.length then h else H i)=Q at q y
        generalize (fun i=>if i≤a.length then tmps else A i)=O at w J
        generalize (fun i=>if i≤a.length then d else F i)=M at p u
        have P:∀j x,a.length+1≤j→Tx E callF all H A R F j x→Tx E callF all Q O R M j x:=by
         intro j x n t;refine ⟨t.mask,?_,?_⟩
         ·rw [w j n,q j n,p j n];exact t.did
         ·rw [q j n,p j n];exact t.nx
        have e:∀i,a.length+(i+1)=a.length+1+i:=fun i=>by omega
        refine ⟨Q,O,R,M,m+1,k,y,J,?_,?_,?_⟩
        ·intro i hi;cases i with
         |zero=>
          refine ⟨o,rfl,⟨⟨?_,?_,?_⟩,?_,?_,?_,?_,?_,?_,?_,?_,?_,?_⟩⟩
          ·rw [S1,D,hR];exact s
          ·rw [S1,J,y,u];exact z
          ·rw [S1,y,u];exact N
          ·rw [S1,hR,y,u]
          ·rw [S1,hR,u]
          ·rw [S1,hR,y]
          ·rw [S1,hR,u]
          ·rw [S1,hR]
          ·rw [S1,hR]
          ·rw [S1,D,hR];exact L
          ·rw [S1,J,u,w _ (C1 _),Y];exact C
          ·show Q (a.length+1)=BA (Q a.length) (M a.length).g;rw [y,u,q _ (C1 _),X]
          ·rw [S1,u];exact I
         |succ i=>
          obtain ⟨x,B,g⟩:=Z i (by omega)
          have n:a.length+1≤a.length+1+i:=by omega
          refine ⟨x,by simpa using B,?_⟩
          rw [e];refine ⟨P _ _ n g.tx,?_,?_,?_,?_,g.dst,g.looks,g.apart,?_,?_,?_⟩
          ·rw [q _ n,p _ n];exact g.wr
          ·rw [p _ n];exact g.fp
          ·rw [q _ n];exact g.lo
          ·rw [p _ n];exact g.hi
          ·rw [w _ n,p _ n,w _ (by omega)];exact g.put
          ·rw [q _ n,p _ n,q _ (by omega)];exact g.heap
          ·rw [p _ n];exact g.ok
        ·intro hr;obtain ⟨r1,r2,S⟩:=q5 hr;refine ⟨by simp [r1],?_,?_⟩
         ·rw [e,w _ (by omega)];exact r2
         ·rw [e,q _ (by omega)];exact S
        ·intro v K;obtain ⟨x,B,b,r1,r2,S⟩:=q6 v K;have n:a.length+1≤a.length+1+m:=by omega
         refine ⟨x,by simpa using B,?_,?_,?_,?_⟩
         ·rw [e];exact ⟨P _ _ n b.tx,by rw [p _ n];exact b.ok,b.all,by simpa using b.after⟩
         ·rw [e,p _ n];exact r1
         ·rw [e,w _ n];exact r2
         ·rw [e,q _ n,p _ n];exact S
     |false=>
      rw [G,I] at c;simp only at c;cases V:Nat.beq (mask+1) (2^a.length)&&FQ (a++[{wr:=[],fp:=none,lo:=0,hi:=0,dst:=none,looks:=[],mask}]) a.length rest with
      |false=>rw [V] at c;cases c
      |true=>
       rw [V] at c;simp only [A1,E5] at c;obtain ⟨rfl,rfl,rfl⟩:=c;obtain ⟨c1,c2⟩:=AC V
       have k:∀i x,a[i]?=some x→(fun i=>if i<a.length then a.getD i default else ({wr:=[],fp:=none,lo:=0,hi:=0,dst:=none,looks:=[],mask}:Rc)) i=x:=by
        intro i x B;have:=(B3.1 B).1;simp only [this,if_true];simp [B]
       have hR:(fun i=>if i<a.length then a.getD i default else ({wr:=[],fp:=none,lo:=0,hi:=0,dst:=none,looks:=[],mask}:Rc)) a.length={wr:=[],fp:=none,lo:=0,hi:=0,dst:=none,looks:=[],mask}:=if_neg (Nat.lt_irrefl _)
       generalize (fun i=>if i<a.length then a.getD i default else ({wr:=[],fp:=none,lo:=0,hi:=0,dst:=none,looks:=[],mask}:Rc))=R at k hR
       have D:=JG k;refine ⟨fun _=>h,fun _=>tmps,R,fun _=>d,0,k,rfl,rfl,fun i hi=>absurd hi (iv _),(fun K=>by cases K),fun v K=>?_⟩
       cases K;refine ⟨o,rfl,⟨⟨?_,z,N⟩,I,?_,a,rfl,?_,?_⟩,rfl,rfl,rfl⟩
       ·rw [S1,D,hR];exact s
       ·show (R a.length).mask+1=2^a.length;rw [hR];exact AK c1
       ·rw [S1,D]
       ·rw [S1,hR];simpa using c2
end
end Go.AE
namespace Go.AE
variable [U:Unk]
def ins (D:Nat→Bool) (j:Nat):Nat→Bool:=fun i=>if i=j then true else D i
def Cn (H:Nat→Aa) (R:Nat→Rc) (D:Nat→Bool):Nat→Nat→Option Aj
 |0,b=>(H 0).blk.get b
 |j+1,b=>if D j=true∧(b∈(R j).wr∨((R j).lo≤b∧b<(R j).hi)) then (H (j+1)).blk.get b else Cn H R D j b
def Tn (a:Nat→T AV) (R:Nat→Rc) (D:Nat→Bool):Nat→Tmp→Option AV
 |0,t=>(a 0).get t
 |j+1,t=>if D j=true∧(R j).dst=some t then (a (j+1)).get t else Tn a R D j t
structure CD (E:Env) (callF:Ask→Aa→Option (Bool×AV×Aa)) (all:Array Oper) (nt:Nat) (H:Nat→Aa) (Tm:Nat→T AV) (R:Nat→Rc) (Dd:Nat→Did) (n:Nat):Prop where
 good:∀j,j<n→∃o,all[j]?=some o∧Good E callF all nt H Tm R Dd j o
 wf:WF (H 0)
section
variable {E:Env} {callF:Ask→Aa→Option (Bool×AV×Aa)} {all:Array Oper} {nt:Nat} {H:Nat→Aa} {Tm:Nat→T AV} {R:Nat→Rc} {Dd:Nat→Did} {n:Nat}
 (X:CD E callF all nt H Tm R Dd n)
include X
theorem CD.hi {j:Nat} (r:j<n):(H (j+1)).nx=(R j).hi:=by
 obtain ⟨o,_,g⟩:=X.good j r;rw [g.heap,g.hi];rfl
theorem CD.lo {j:Nat} (r:j<n):(R j).lo=(H j).nx:=by
 obtain ⟨o,_,g⟩:=X.good j r;exact g.lo
theorem CD.le {j:Nat} (r:j<n):(R j).lo≤(R j).hi:=by
 obtain ⟨o,_,g⟩:=X.good j r;rw [g.lo,g.hi];exact g.tx.nx
theorem CD.mono {i:Nat}:∀{j:Nat},i≤j→j≤n→(H i).nx≤(H j).nx
 |0,r,_=>by rw [Nat.le_zero.1 r];exact C1 _
 |j+1,r,C=>by
  rcases F8 i (j+1) with h|h
  ·have:=CD.mono (i:=i) (j:=j) (by omega) (by omega)
   have h1:=X.hi (j:=j) (by omega)
   have h2:=X.lo (j:=j) (by omega)
   have h3:=X.le (j:=j) (by omega)
   omega
  ·have:i=j+1:=by omega
   rw [this];exact C1 _
theorem CD.wfAt:∀{j:Nat},j≤n→WF (H j)
 |0,_=>X.wf
 |j+1,r=>by
  obtain ⟨o,_,g⟩:=X.good j (by omega)
  rw [g.heap];exact HZ (CD.wfAt (j:=j) (by omega)) g.tx.nx
theorem CD.bits {j:Nat} (J:j<n):∀{i:Nat},(R j).mask.testBit i=true→i<j:=by
 induction j using Nat.strongRecOn with
 |ind j ih=>
  intro i hi;obtain ⟨o,_,g⟩:=X.good j J;obtain ⟨e,he,hb,x,C,h⟩:=((En g.tx.mask).2 i).1 hi
  have r:e.on<j:=by
   have:=(B3.1 C).1;simpa using this
  have I:x=R e.on:=by
   rw [P8,hI r] at C;simpa using C.symm
  rcases h with h|h
  ·rw [I] at h;have:=ih e.on r (by omega) h
   omega
  ·omega
theorem CD.apart {i j:Nat} (r:i<j) (C:j<n) (I:(R j).mask.testBit i=false):(R i).Apart (R j):=by
 obtain ⟨o,_,g⟩:=X.good j C;rcases KT g.apart i (R i) (by rw [P8,hI r];rfl) with h|h
 ·rw [R2,I] at h;cases h
 ·exact h
theorem CD.stay {j:Nat} (C:j<n) {b:Nat} (r:b∉(R j).wr) (I:¬((R j).lo≤b∧b<(R j).hi)):(H (j+1)).blk.get b=(H j).blk.get b:=by
 obtain ⟨o,_,g⟩:=X.good j C;rw [g.wr] at r;rw [g.lo,g.hi] at I;rw [g.heap];exact Dk g.tx.nx r (by omega)
theorem CD.wr_lt {j:Nat} (C:j<n) {b:Nat} (r:b∈(R j).wr):b<(H j).nx:=by
 obtain ⟨o,_,g⟩:=X.good j C;rw [g.wr] at r;exact (CY.1 r).2
theorem CD.cn_text {D:Nat→Bool} {b:Nat}:∀{m:Nat},m≤n→(∀i,i<m→D i=false→b∉(R i).wr∧¬((R i).lo≤b∧b<(R i).hi))→Cn H R D m b=(H m).blk.get b
 |0,_,_=>rfl
 |m+1,C,h=>by
  simp only [Cn];by_cases j:D m=true∧(b∈(R m).wr∨((R m).lo≤b∧b<(R m).hi))
  ·rw [if_pos j]
  ·rw [if_neg j,CD.cn_text (m:=m) (by omega) fun i hi=>h i (by omega)]
   have:b∉(R m).wr∧¬((R m).lo≤b∧b<(R m).hi):=by
    cases r:D m with
    |false=>exact h m (by omega) r
    |true=>exact ⟨fun q=>j ⟨r,.inl q⟩,fun q=>j ⟨r,.inr q⟩⟩
   exact (X.stay (by omega) this.1 this.2).symm
omit X in
theorem LM {D:Nat→Bool} {b j:Nat}:∀{m:Nat},j≤m→(∀i,j≤i→i<m→D i=true→b∉(R i).wr∧¬((R i).lo≤b∧b<(R i).hi))→Cn H R D m b=Cn H R D j b
 |0,hj,_=>by rw [Nat.le_zero.1 hj]
 |m+1,hj,h=>by
  rcases F8 j (m+1) with hlt|hge
  ·simp only [Cn];rw [if_neg,LM (by omega) fun i h1 h2=>h i h1 (by omega)]
   rintro ⟨hD,q⟩
   obtain ⟨a1,a2⟩:=h m (by omega) (by omega) hD
   exact q.elim a1 a2
  ·rw [show j=m+1 by omega]
omit X in
theorem bM {D:Nat→Bool} {b j:Nat} (hD:D j=false) (h1:b∉(R j).wr) (h2:¬((R j).lo≤b∧b<(R j).hi)):∀m,Cn H R (ins D j) m b=Cn H R D m b
 |0=>rfl
 |m+1=>by
  simp only [Cn];rw [bM hD h1 h2 m];by_cases e:m=j
  ·subst e;rw [if_neg (by rintro ⟨_,q⟩;exact q.elim h1 h2),if_neg (by rintro ⟨q,_⟩;rw [hD] at q;cases q)]
  ·simp [ins,e]
omit X in
theorem Xj {D:Nat→Bool} {b j m:Nat} (hjm:j<m) (h1:b∈(R j).wr∨((R j).lo≤b∧b<(R j).hi)) (h2:∀i,j<i→i<m→D i=true→b∉(R i).wr∧¬((R i).lo≤b∧b<(R i).hi)) :
  Cn H R (ins D j) m b=(H (j+1)).blk.get b:=by
 rw [LM (j:=j+1) hjm fun i a1 a2 hD=>h2 i a1 a2 (by simpa [ins,show i≠j by omega] using hD)]
 simp only [Cn];rw [if_pos ⟨by simp [ins],h1⟩]
theorem CD.tput {j:Nat} (hj:j<n) {t:Tmp} (r:(R j).dst≠some t):(Tm (j+1)).get t=(Tm j).get t:=by
 obtain ⟨o,_,g⟩:=X.good j hj;have hp:=g.put;rw [g.dst] at r;unfold MX at hp;split at hp
 ·rename_i d C;split at hp
  ·simp only [A1] at hp;rw [←hp,T.get_set,if_neg]
   rintro rfl;exact r C
  ·cases hp
 ·simp only [A1] at hp;rw [hp]
theorem CD.tn_text {D:Nat→Bool} {t:Tmp}:∀{m:Nat},m≤n→(∀i,i<m→D i=false→(R i).dst≠some t)→Tn Tm R D m t=(Tm m).get t
 |0,_,_=>rfl
 |m+1,C,h=>by
  simp only [Tn];by_cases r:D m=true∧(R m).dst=some t
  ·rw [if_pos r]
  ·rw [if_neg r,CD.tn_text (m:=m) (by omega) fun i hi=>h i (by omega)]
   refine (X.tput (by omega) ?_).symm
   cases hD:D m with
   |false=>exact h m (by omega) hD
   |true=>exact fun q=>r ⟨hD,q⟩
omit X in
theorem LU {D:Nat→Bool} {t:Tmp} {j:Nat}:∀{m:Nat},j≤m→(∀i,j≤i→i<m→D i=true→(R i).dst≠some t)→Tn Tm R D m t=Tn Tm R D j t
 |0,hj,_=>by rw [Nat.le_zero.1 hj]
 |m+1,hj,h=>by
  rcases F8 j (m+1) with hlt|hge
  ·simp only [Tn];rw [if_neg,LU (by omega) fun i h1 h2=>h i h1 (by omega)]
   rintro ⟨hD,q⟩
   exact h m (by omega) (by omega) hD q
  ·rw [show j=m+1 by omega]
omit X in
theorem Yy {D:Nat→Bool} {t:Tmp} {j:Nat} (hD:D j=false) (h1:(R j).dst≠some t):∀m,Tn Tm R (ins D j) m t=Tn Tm R D m t
 |0=>rfl
 |m+1=>by
  simp only [Tn];rw [Yy hD h1 m];by_cases e:m=j
  ·subst e;rw [if_neg (by rintro ⟨_,q⟩;exact h1 q),if_neg (by rintro ⟨q,_⟩;rw [hD] at q;cases q)]
  ·simp [ins,e]
omit X in
theorem XP {D:Nat→Bool} {t:Tmp} {j m:Nat} (hjm:j<m) (h1:(R j).dst=some t) (h2:∀i,j<i→i<m→D i=true→(R i).dst≠some t):Tn Tm R (ins D j) m t=(Tm (j+1)).get t:=by
 rw [LU (j:=j+1) hjm fun i a1 a2 hD=>h2 i a1 a2 (by simpa [ins,show i≠j by omega] using hD)]
 simp only [Tn];rw [if_pos ⟨by simp [ins],h1⟩]
end
end Go.AE
namespace Go.AE
variable [U:Unk]
theorem HR.weaken {ρ:Ren} {g C:Nat→Option Aj} {w:World} (h:HR ρ g w) (J:∀b x,ρ b≠none→C b=some x→g b=some x):HR ρ C w:=by
 refine ⟨h.lt,fun b base x r j=>h.blk b base x r (J b x (by rw [r];exact A3 _) j),fun b b' base base' ab r I h1 h2=>h.apart b b' base base' ab r I ?_ ?_,h.imm,fun k arr b base hk r hl=>h.off k arr b base hk r ?_⟩
 ·cases j:C b with
  |none=>exact absurd j h1
  |some x=>rw [J b x (by rw [r];exact A3 _) j];exact A3 _
 ·cases j:C b' with
  |none=>exact absurd j h2
  |some x=>rw [J b' x (by rw [I];exact A3 _) j];exact A3 _
 ·cases j:C b with
  |none=>exact absurd j hl
  |some x=>rw [J b x (by rw [r];exact A3 _) j];exact A3 _
structure Inv (nt:Nat) (H:Nat→Aa) (Tm:Nat→T AV) (R:Nat→Rc) (n M:Nat) (ρ0:Ren) (w0:World) (D:Nat→Bool) (ρ:Ren) (tm:Array Value) (w:World):Prop where
 sub:∀j,D j=true→j<n
 closed:∀j,D j=true→∀i,(R j).mask.testBit i=true→D i=true
 size:tm.size=nt
 tmp:∀t x,Tn Tm R D n t=some x→VR ρ x (tm.getD t undef)
 heap:HR ρ (Cn H R D n) w
 free:∀b,(H 0).nx≤b→b<M→ρ b≠none→∃j,D j=true∧(R j).lo≤b∧b<(R j).hi
 le:ρ0.le ρ
 calm:IH w0 w
 new:∀b base,ρ b=some base→ρ0 b=some base∨((H 0).nx≤b∧b<(H n).nx∧(w0.heap.size≤base.cb∨∃b0 base0,ρ0 b0=some base0∧(H 0).blk.get b0≠none∧base0.cb=base.cb))
 kept:∀k,k<w0.heap.size→(∀b base,ρ0 b=some base→(H 0).blk.get b≠none→base.cb≠k)→w.heap[k]?=w0.heap[k]?
 imm:∀k arr,ρ.imm k=some arr→ρ0.imm k=some arr∨w0.heap.size≤k∨∃b0 base0,ρ0 b0=some base0∧(H 0).blk.get b0≠none∧base0.cb=k
section
variable {E:Env} {callF:Ask→Aa→Option (Bool×AV×Aa)} {all:Array Oper} {nt:Nat} {H:Nat→Aa} {Tm:Nat→T AV} {R:Nat→Rc} {Dd:Nat→Did} {n M:Nat}
 {ρ0 ρ:Ren} {w0 w:World} {tm:Array Value} {D:Nat→Bool} (X:CD E callF all nt H Tm R Dd n)
include X
theorem CD.live {b:Nat} (r:b<(H 0).nx):∀{j:Nat},j≤n→(H j).blk.get b≠none→(H 0).blk.get b≠none
 |0,_,h=>h
 |j+1,C,h=>by
  obtain ⟨o,_,g⟩:=X.good j (by omega)
  rw [g.heap] at h;have:=X.mono (i:=0) (j:=j) (by omega) (by omega)
  rcases Ht (X.wfAt (by omega)) g.tx.nx h with h|h
  ·exact CD.live r (j:=j) (by omega) h
  ·omega
theorem CD.cn_live {b:Nat} (j:b<(H 0).nx):∀{m:Nat},m≤n→Cn H R D m b≠none→(H 0).blk.get b≠none
 |0,_,h=>h
 |m+1,r,h=>by
  simp only [Cn] at h;split at h
  ·exact X.live j (by omega) h
  ·exact CD.cn_live j (m:=m) (by omega) h
theorem CD.disj {i j b:Nat} (hi:i<n) (r:j<n) (C:(R i).lo≤b∧b<(R i).hi) (I:(R j).lo≤b∧b<(R j).hi):i=j:=by
 rcases Nat.lt_trichotomy i j with h|h|h
 ·have:=X.mono (i:=i+1) (j:=j) (by omega) (by omega)
  have a:=X.hi hi;have c:=X.lo r;omega
 ·exact h
 ·have:=X.mono (i:=j+1) (j:=i) (by omega) (by omega)
  have a:=X.hi r;have c:=X.lo hi;omega
theorem CD.agree (I:Inv nt H Tm R n M ρ0 w0 D ρ tm w) (hM:(H n).nx≤M) {j:Nat} (hj:j<n) (hD:D j=false) (ab:∀i,(R j).mask.testBit i=true→D i=true) {b:Nat} {x:Aj} (hb:ρ b≠none)
  (hx:(part (H j) (Dd j).fp).blk.get b=some x):Cn H R D n b=some x:=by
 obtain ⟨o,ho,g⟩:=X.good j hj
 have J:(H j).blk.get b=some x∧(∀l,(R j).fp=some l→b∈l):=by
  rw [g.fp];cases r:(Dd j).fp with
  |none=>rw [r] at hx;exact ⟨hx,(fun l hl=>by cases hl)⟩
  |some bs=>
   rw [r] at hx;rcases Ee (H j) bs b with q|⟨q1,q2⟩
   ·simp only [part] at hx;rw [q] at hx;cases hx
   ·exact ⟨q2▸hx,fun l hl=>by cases hl;exact q1⟩
 have b0:b<(H j).nx:=by
  rcases F8 b (H j).nx with h|h
  ·exact h
  ·rw [X.wfAt (by omega) b h] at J;cases J.1
 have av:∀i,i<n→i≠j→(i<j→(R j).mask.testBit i=false)→(j<i→(R i).mask.testBit j=false)→b∉(R i).wr:=by
  intro i hi bd h1 h2 hm;rcases F8 i j with h|h
  ·have a:=X.apart h hj (h1 h);cases r:(R j).fp with
   |none=>rw [a.fp1n r] at hm;cases hm
   |some l=>exact a.fp1 b hm l r (J.2 l r)
  ·have a:=X.apart (show j<i by omega) hi (h2 (by omega))
   cases r:(R j).fp with
   |none=>rw [a.fp2n r] at hm;cases hm
   |some l=>exact a.fp2 b hm l r (J.2 l r)
 have hC:Cn H R D n b=Cn H R D j b:=by
  refine LM (by omega) fun i h1 h2 C=>?_
  have bd:i≠j:=by rintro rfl;rw [hD] at C;cases C
  refine ⟨av i h2 bd (fun h=>by omega) fun h=>?_,?_⟩
  ·cases hb:(R i).mask.testBit j with
   |false=>rfl
   |true=>rw [I.closed i C j hb] at hD;cases hD
  ·have:=X.mono (i:=j) (j:=i) h1 (by omega)
   have:=X.lo h2;omega
 rw [hC,X.cn_text (by omega) fun i hi C=>?_,J.1]
 refine ⟨av i (by omega) (by omega) (fun h=>?_) (fun h=>by omega),fun bm=>?_⟩
 ·cases hb:(R j).mask.testBit i with
  |false=>rfl
  |true=>rw [ab i hb] at C;cases C
 ·have b4:=X.lo (show i<n by omega)
  have h0:=X.mono (i:=0) (j:=i) (by omega) (by omega)
  have h1:=X.mono (i:=j) (j:=n) (by omega) (by omega)
  obtain ⟨j',ar,bv⟩:=I.free b (by omega) (by omega) hb
  have:=X.disj (show i<n by omega) (I.sub j' ar) bm bv
  subst this;rw [C] at ar;cases ar
theorem CD.tagree (I:Inv nt H Tm R n M ρ0 w0 D ρ tm w) {j:Nat} (hj:j<n) (J:D j=false) (C:∀i,(R j).mask.testBit i=true→D i=true):TR ρ nt (B9 (Tm j) (R j).looks) tm:=by
 refine ⟨I.size,fun t x hx=>?_⟩
 obtain ⟨hl,y,hy,rfl⟩:=Ei _ _ _ _ hx;refine PA (I.tmp t y ?_)
 have hT:Tn Tm R D n t=Tn Tm R D j t:=by
  refine LU (by omega) fun i h1 h2 r hd=>?_
  have ab:i≠j:=by rintro rfl;rw [J] at r;cases r
  have a:=X.apart (show j<i by omega) h2 (by
   cases hb:(R i).mask.testBit j with
   |false=>rfl
   |true=>rw [I.closed i r j hb] at J;cases J)
  exact a.look2 t hd hl
 rw [hT,X.tn_text (by omega) fun i hi r hd=>?_,hy]
 have a:=X.apart hi hj (by
  cases hb:(R j).mask.testBit i with
  |false=>rfl
  |true=>rw [C i hb] at r;cases r)
 exact a.look1 t hd hl
end
end Go.AE
namespace Go.AE
variable [U:Unk]
section
variable {E:Env} {callF:Ask→Aa→Option (Bool×AV×Aa)} {all:Array Oper} {nt:Nat} {H:Nat→Aa} {Tm:Nat→T AV} {R:Nat→Rc} {Dd:Nat→Did} {n M:Nat}
 {ρ0 ρ σ:Ren} {w0 w w':World} {tm:Array Value} {D:Nat→Bool} (X:CD E callF all nt H Tm R Dd n)
include X
theorem CD.after (I:Inv nt H Tm R n M ρ0 w0 D ρ tm w) (hM:(H n).nx≤M) {j:Nat} (hj:j<n) (hD:D j=false) (b8:∀i,(R j).mask.testBit i=true→D i=true)
  (q3:HR σ (Dd j).g.blk.get w') (q4:Ext ρ σ (part (H j) (Dd j).fp) (Dd j).g w w'):HR σ (Cn H R (ins D j) n) w':=by
 obtain ⟨o,ho,g⟩:=X.good j hj;have bm:(part (H j) (Dd j).fp).nx=(H j).nx:=by cases (Dd j).fp<;>rfl
 have cf:(part (H j) (Dd j).fp).log=[]:=by cases (Dd j).fp<;>rfl
 obtain ⟨l,ck,ea⟩:=q4.log;rw [cf,i0] at ck;have b9:∀b x,ρ b≠none→(part (H j) (Dd j).fp).blk.get b=some x→Cn H R D n b=some x:=fun b x hb hx=>X.agree I hM hj hD b8 hb hx
 have cc:∀b,(b∈(R j).wr∨((R j).lo≤b∧b<(R j).hi))→∀i,j<i→i<n→D i=true→b∉(R i).wr∧¬((R i).lo≤b∧b<(R i).hi):=by
  intro b hb i hi cm eb
  have a:=X.apart hi cm (by
   cases hb:(R i).mask.testBit j with
   |false=>rfl
   |true=>rw [I.closed i eb j hb] at hD;cases hD)
  have h1:=X.mono (i:=j+1) (j:=i) (by omega) (by omega)
  have h2:=X.hi hj;have h3:=X.lo cm;have h4:=X.lo hj;have h5:=X.le hj;rcases hb with hb|hb
  ·have:=X.wr_lt hj hb;exact ⟨a.wr b hb,fun h=>by omega⟩
  ·exact ⟨fun h=>a.out b h hb,fun h=>by omega⟩
 have av:∀b x,Cn H R (ins D j) n b=some x→((b∈(R j).wr∨((R j).lo≤b∧b<(R j).hi))∧(Dd j).g.blk.get b=some x)∨((b∉(R j).wr∧¬((R j).lo≤b∧b<(R j).hi))∧Cn H R D n b=some x):=by
  intro b x hx;by_cases hb:b∈(R j).wr∨((R j).lo≤b∧b<(R j).hi)
  ·refine .inl ⟨hb,?_⟩;rw [Xj hj hb (cc b hb),g.heap] at hx;rcases hb with hb|hb
   ·rw [g.wr] at hb;rcases HS hb with q|⟨_,q⟩
    ·rw [q] at hx;cases hx
    ·rw [←q];exact hx
   ·rw [g.lo,g.hi] at hb;rw [Iw (X.wfAt (by omega)) g.tx.nx hb.1 hb.2] at hx
    exact hx
  ·have cn:b∉(R j).wr:=fun q=>hb (.inl q)
   have cv:¬((R j).lo≤b∧b<(R j).hi):=fun q=>hb (.inr q)
   rw [bM hD cn cv] at hx;exact .inr ⟨⟨cn,cv⟩,hx⟩
 have ar:∀b r x,(b∉(R j).wr∧¬((R j).lo≤b∧b<(R j).hi))→σ b=some r→Cn H R D n b=some x→ρ b=some r∧((part (H j) (Dd j).fp).blk.get b≠none→(Dd j).g.blk.get b=some x):=by
  intro b r x hb hs hx
  have ab:ρ b=some r:=by
   rcases q4.new b r hs with h|⟨h1,h2,_⟩
   ·exact h
   ·rw [bm] at h1;exact absurd ⟨g.lo▸h1,g.hi▸h2⟩ hb.2
  refine ⟨ab,fun hp=>?_⟩
  cases hy:(part (H j) (Dd j).fp).blk.get b with
  |none=>exact absurd hy hp
  |some y=>
   have:=b9 b y (by rw [ab];exact A3 _) hy
   rw [hx] at this;cases this
   have da:b<(H j).nx:=by
    rcases F8 b (H j).nx with h|h
    ·exact h
    ·have:=LB (X.wfAt (j:=j) (by omega)) (Dd j).fp b (by rw [bm];exact h)
     rw [this] at hy;cases hy
   rw [ea b ?_ (.inl (by rw [bm];exact da)),hy]
   intro hm;refine hb.1 ?_;rw [g.wr,CY,ck];exact ⟨hm,da⟩
 refine ⟨q3.lt,fun b r x hs hx=>?_,fun b b' r C bd hs bs h1 h2=>?_,q3.imm,fun k arr b r hk hs hl=>?_⟩
 ·rcases av b x hx with ⟨_,hg⟩|⟨hb,hc⟩
  ·exact q3.blk b r x hs hg
  ·obtain ⟨ab,bv⟩:=ar b r x hb hs hc;by_cases hp:(part (H j) (Dd j).fp).blk.get b=none
   ·have hk:=q4.kept r.cb (I.heap.lt b r ab) (fun b0 J b4 b5=>by
     have bd:b0≠b:=by rintro rfl;exact b5 hp
     cases hy:(part (H j) (Dd j).fp).blk.get b0 with
     |none=>exact absurd hy b5
     |some y=>
      have:=b9 b0 y (by rw [b4];exact A3 _) hy
      exact I.heap.apart b0 b J r bd b4 ab (by rw [this];exact A3 _) (by rw [hc];exact A3 _))
    rw [hk];exact (I.heap.blk b r x ab hc).mono q4.le
   ·exact q3.blk b r x hs (bv hp)
 ·have key:∀b b' r C,b≠b'→σ b=some r→σ b'=some C→Cn H R (ins D j) n b≠none→Cn H R (ins D j) n b'≠none→(Dd j).g.blk.get b=none→r.cb≠C.cb:=by
   intro b b' r C bd hs bs h1 h2 db;cases hx:Cn H R (ins D j) n b with
   |none=>exact absurd hx h1
   |some x=>
    cases dc:Cn H R (ins D j) n b' with
    |none=>exact absurd dc h2
    |some x'=>
     rcases av b x hx with ⟨_,hg⟩|⟨hb,hc⟩
     ·rw [db] at hg;cases hg
     ·obtain ⟨ab,bv⟩:=ar b r x hb hs hc
      have hp:(part (H j) (Dd j).fp).blk.get b=none:=by
       cases hp:(part (H j) (Dd j).fp).blk.get b with
       |none=>rfl
       |some y=>have:=bv (by rw [hp];exact A3 _);rw [db] at this;cases this
      have b6:Cn H R D n b≠none:=by rw [hc];exact A3 _
      have dd:∀b0 J,ρ b0=some J→(part (H j) (Dd j).fp).blk.get b0≠none→r.cb≠J.cb:=by
       intro b0 J b4 b5;have b7:b≠b0:=by rintro rfl;exact b5 hp
       cases hy:(part (H j) (Dd j).fp).blk.get b0 with
       |none=>exact absurd hy b5
       |some y=>
        have:=b9 b0 y (by rw [b4];exact A3 _) hy
        exact I.heap.apart b b0 r J b7 ab b4 b6 (by rw [this];exact A3 _)
      rcases av b' x' dc with ⟨ds,cd⟩|⟨ds,du⟩
      ·rcases q4.new b' C bs with h|⟨_,_,h|⟨b0,J,e1,e2,e3⟩⟩
       ·rcases q4.live b' (by rw [cd];exact A3 _) with hl|⟨hl,ec⟩
        ·exact dd b' C h hl
        ·
         rw [bm] at hl;have ef:=X.lo hj;have h0:=X.mono (i:=0) (j:=j) (by omega) (by omega)
         have h1:=X.mono (i:=j+1) (j:=n) (by omega) (by omega)
         have h2:=X.hi hj;rw [g.hi] at h2;obtain ⟨j',ch,ed⟩:=I.free b' (by omega) (by omega) (by rw [h];exact A3 _)
         have:=X.disj hj (I.sub j' ch) ⟨by omega,by rw [g.hi];exact ec⟩ ed
         subst this;rw [hD] at ch;cases ch
       ·have:=I.heap.lt b r ab;omega
       ·rw [←e3];exact dd b0 J e1 e2
      ·obtain ⟨dv,_⟩:=ar b' C x' ds bs du;exact I.heap.apart b b' r C bd ab dv b6 (by rw [du];exact A3 _)
  by_cases hg:(Dd j).g.blk.get b=none
  ·exact key b b' r C bd hs bs h1 h2 hg
  ·by_cases cd:(Dd j).g.blk.get b'=none
   ·exact fun e=>key b' b C r (Ne.symm bd) bs hs h2 h1 cd e.symm
   ·exact q3.apart b b' r C bd hs bs hg cd
 ·cases hx:Cn H R (ins D j) n b with
  |none=>exact absurd hx hl
  |some x=>
   rcases av b x hx with ⟨_,hg⟩|⟨hb,hc⟩
   ·exact q3.off k arr b r hk hs (by rw [hg];exact A3 _)
   ·obtain ⟨ab,bv⟩:=ar b r x hb hs hc;have b6:Cn H R D n b≠none:=by rw [hc];exact A3 _
    by_cases hp:(part (H j) (Dd j).fp).blk.get b=none
    ·rcases q4.imm k arr hk with h|h|⟨b0,J,e1,e2,e3⟩
     ·exact I.heap.off k arr b r h ab b6
     ·have:=I.heap.lt b r ab;omega
     ·have b7:b≠b0:=by rintro rfl;exact e2 hp
      cases hy:(part (H j) (Dd j).fp).blk.get b0 with
      |none=>exact absurd hy e2
      |some y=>
       have:=b9 b0 y (by rw [e1];exact A3 _) hy
       rw [←e3];exact I.heap.apart b b0 r J b7 ab e1 b6 (by rw [this];exact A3 _)
    ·exact q3.off k arr b r hk hs (by rw [bv hp];exact A3 _)
theorem CD.step (I:Inv nt H Tm R n M ρ0 w0 D ρ tm w) (hM:(H n).nx≤M) (bd:Bs ρ0 (H 0).nx M) {j:Nat} (hj:j<n) (hD:D j=false) (J:∀i,(R j).mask.testBit i=true→D i=true) {v':Value}
  (q2:VR σ (Dd j).v v') (q3:HR σ (Dd j).g.blk.get w') (q4:Ext ρ σ (part (H j) (Dd j).fp) (Dd j).g w w'):Inv nt H Tm R n M ρ0 w0 (ins D j) σ (Jm tm (R j).dst v') w':=by
 obtain ⟨o,ho,g⟩:=X.good j hj;have bs:(part (H j) (Dd j).fp).nx=(H j).nx:=by cases (Dd j).fp<;>rfl
 have b9:=X.lo hj;have b4:=X.hi hj;have cc:=X.mono (i:=0) (j:=j) (by omega) (by omega)
 have cd:=X.mono (i:=j+1) (j:=n) (by omega) (by omega)
 have ab:∀b0 r,ρ b0=some r→(part (H j) (Dd j).fp).blk.get b0≠none→w0.heap.size≤r.cb∨∃b1 C,ρ0 b1=some C∧(H 0).blk.get b1≠none∧C.cb=r.cb:=by
  intro b0 r ar bm;cases hy:(part (H j) (Dd j).fp).blk.get b0 with
  |none=>exact absurd hy bm
  |some y=>
   have hc:=X.agree I hM hj hD J (by rw [ar];exact A3 _) hy
   rcases I.new b0 r ar with h|⟨_,_,h⟩
   ·right;refine ⟨b0,r,h,?_,rfl⟩
    have av:b0<(H 0).nx:=by
     rcases F8 b0 (H 0).nx with q|q
     ·exact q
     ·have av:b0<(H j).nx:=by
       rcases F8 b0 (H j).nx with h|h
       ·exact h
       ·have:=LB (X.wfAt (j:=j) (by omega)) (Dd j).fp b0 (by rw [bs];exact h)
        rw [this] at hy;cases hy
      have:=X.le hj;rw [bd b0 q (by omega)] at h;cases h
    exact X.cn_live (D:=D) av (C1 n) (by rw [hc];exact A3 _)
   ·exact h
 refine ⟨?_,?_,?_,?_,X.after I hM hj hD J q3 q4,?_,I.le.trans q4.le,I.calm.trans q4.calm,?_,?_,?_⟩
 ·intro i hi;by_cases e:i=j
  ·omega
  ·exact I.sub i (by simpa [ins,e] using hi)
 ·intro i hi k hk;by_cases e:i=j
  ·subst e;have:=J k hk;by_cases e2:k=i
   ·simp [ins,e2]
   ·simpa [ins,e2] using this
  ·have:=I.closed i (by simpa [ins,e] using hi) k hk
   by_cases e2:k=j
   ·simp [ins,e2]
   ·simpa [ins,e2] using this
 ·unfold Jm;split<;>simp [I.size]
 ·intro t x hx;by_cases hd:(R j).dst=some t
  ·rw [XP hj hd (fun i h1 h2 b5 b6=>by
    have a:=X.apart h1 h2 (by
     cases hb:(R i).mask.testBit j with
     |false=>rfl
     |true=>rw [I.closed i b5 j hb] at hD;cases hD)
    exact a.dst t hd b6)] at hx
   have hp:=g.put;rw [g.dst] at hd;rw [hd] at hp;simp only [MX] at hp;cases hb:Nat.blt t nt with
   |false=>rw [hb] at hp;cases hp
   |true=>
    rw [hb] at hp;simp only [A1] at hp;rw [←hp,T.get_set,if_pos rfl] at hx;cases hx;have av:t<tm.size:=by rw [I.size];simpa [Nat.blt_eq] using hb
    rw [g.dst,hd];simpa [Jm,C2,av] using q2
  ·rw [Yy hD hd] at hx;have:=(I.tmp t x hx).mono q4.le;unfold Jm;split
   ·rename_i d b7;have b8:d≠t:=by rintro rfl;exact hd b7
    simpa [C2,X1 b8] using this
   ·exact this
 ·intro b h1 h2 hb;cases hs:σ b with
  |none=>exact absurd hs hb
  |some base=>
   rcases q4.new b base hs with h|⟨a1,a2,_⟩
   ·obtain ⟨i,hi,hr⟩:=I.free b h1 h2 (by rw [h];exact A3 _)
    refine ⟨i,?_,hr⟩;by_cases e:i=j
    ·simp [ins,e]
    ·simpa [ins,e] using hi
   ·exact ⟨j,by simp [ins],by omega,by rw [g.hi];exact a2⟩
 ·intro b base hs;rcases q4.new b base hs with h|⟨a1,a2,a3⟩
  ·exact I.new b base h
  ·right;rw [g.hi] at b4;refine ⟨by omega,by omega,?_⟩
   rcases a3 with a3|⟨b0,r,e1,e2,e3⟩
   ·left;have:=I.calm.size;omega
   ·rw [←e3];exact ab b0 r e1 e2
 ·intro k hk bv
  rw [q4.kept k (by have:=I.calm.size;omega) (fun b0 r ar bm=>by
   rcases ab b0 r ar bm with h|⟨b1,C,e1,e2,e3⟩
   ·omega
   ·rw [←e3];exact bv b1 C e1 e2)]
  exact I.kept k hk bv
 ·intro k arr hk;rcases q4.imm k arr hk with h|h|⟨b0,r,e1,e2,e3⟩
  ·exact I.imm k arr h
  ·right;left;have:=I.calm.size;omega
  ·right;rcases ab b0 r e1 e2 with h|⟨b1,C,f1,f2,f3⟩
   ·left;omega
   ·right;exact ⟨b1,C,f1,f2,f3.trans e3⟩
end
end Go.AE
namespace Go.AE
variable [U:Unk]
theorem Ky {j:Nat}:∀{rest:List Oper} {recs:List Rc},(∀i x,i<j→recs[i]?=some x→x.mask.testBit j=false)→j<recs.length→FQ recs j rest=true→∀o∈rest,∃e∈o.after.toList,Region.binds .any e=true∧j≤e.on
 |[],recs,_,_,_,o,n=>by cases n
 |o::rest,recs,m,q,h,x,c=>by
  simp only [FQ] at h;cases d:C7 recs o.after.toList with
  |none=>rw [d] at h;cases h
  |some mask=>
   rw [d] at h;simp only [Yi] at h;cases f:mask.testBit j with
   |false=>rw [f] at h;cases h
   |true=>
    rw [f] at h;rcases F5.1 c with rfl|c
    ·obtain ⟨e,p,g,y,b,a⟩:=((En d).2 j).1 f;refine ⟨e,p,g,?_⟩;rcases F8 e.on j with k|l
     ·rcases a with a|a
      ·rw [m e.on y k b] at a;cases a
      ·omega
     ·exact l
    ·refine Ky (recs:=recs++[{wr:=[],fp:=none,lo:=0,hi:=0,dst:=none,looks:=[],mask}]) (fun i y hi b=>?_) (by simp;omega) h x c
     rw [Ea (by omega)] at b
     exact m i y hi b
theorem Ur {E:Env} {b:Ask→Aa→Option (Bool×AV×Aa)} {all:Array Oper} {o:Oper} {t:T AV} {h:Aa} {d:Did} (a:G7 E b all o t h=some d) (c:d.ok=false):d.fp=none:=by
 unfold G7 at a;split at a
 ·cases a
 ·cases a;cases c
 ·split at a
  ·simp only at a;split at a
   ·cases a;cases c
   ·cases a
  ·split at a
   ·split at a
    ·cases a;rfl
    ·cases a
   ·split at a
    ·cases a;rfl
    ·cases a
   ·cases a
section
variable {E:Env} {callF:Ask→Aa→Option (Bool×AV×Aa)} {all:Array Oper} {nt:Nat} {H:Nat→Aa} {Tm:Nat→T AV} {R:Nat→Rc} {Dd:Nat→Did} {n M:Nat}
 {ρ0 ρ σ:Ren} {w0 w w':World} {tm:Array Value} {D:Nat→Bool} (X:CD E callF all nt H Tm R Dd n)
include X
omit X in
theorem yK (ht:TR ρ0 nt (Tm 0) tm) (hr:HR ρ0 (H 0).blk.get w0) (hfree:Bs ρ0 (H 0).nx M) (hD:∀i,D i=false):Inv nt H Tm R n M ρ0 w0 D ρ0 tm w0:=by
 have hno:∀i,D i≠true:=fun i h=>by rw [hD i] at h;cases h
 refine ⟨fun j h=>absurd h (hno j),fun j h=>absurd h (hno j),ht.size,fun t x hx=>ht.get t x ?_,hr.weaken fun b x hb hx=>?_,fun b h1 h2 hb=>absurd (hfree b h1 h2) hb,Ren.le_refl _,IH.refl _,fun b base h=>.inl h,fun k hk hno=>rfl,fun k arr h=>.inl h⟩
 ·rw [LU (j:=0) (hP _) fun i _ _ h=>absurd h (hno i)] at hx;exact hx
 ·rw [LM (j:=0) (hP _) fun i _ _ h=>absurd h (hno i)] at hx;exact hx
theorem CD.logs:∀{j:Nat},j≤n→∃l,(H j).log=l++(H 0).log∧∀b,b∉l→(b<(H 0).nx∨(H j).nx≤b)→(H j).blk.get b=(H 0).blk.get b
 |0,_=>⟨[],rfl,fun _ _ _=>rfl⟩
 |j+1,C=>by
  obtain ⟨l,h1,h2⟩:=CD.logs (j:=j) (by omega)
  obtain ⟨o,_,g⟩:=X.good j (by omega)
  have I:=X.mono (i:=0) (j:=j) (by omega) (by omega)
  have hl:=X.lo (show j<n by omega)
  have J:=X.hi (show j<n by omega)
  have r:=X.le (show j<n by omega)
  refine ⟨(R j).wr++l,?_,fun b hb ho=>?_⟩
  ·rw [g.heap,g.wr,List.append_assoc,←h1];rfl
  ·simp only [eq,not_or] at hb;rw [X.stay (by omega) hb.1 (by omega),h2 b hb.2 (by omega)]
theorem CD.final (I:Inv nt H Tm R n M ρ0 w0 D ρ tm w) (hD:∀i,i<n→D i=true):TR ρ nt (Tm n) tm∧HR ρ (H n).blk.get w∧Ext ρ0 ρ (H 0) (H n) w0 w:=by
 have hno:∀i,i<n→D i≠false:=fun i hi h=>by rw [hD i hi] at h;cases h
 refine ⟨⟨I.size,fun t x hx=>I.tmp t x ?_⟩,I.heap.weaken fun b x hb hx=>?_,⟨I.le,X.mono (hP _) (C1 _),I.new,I.calm,I.kept,X.logs (C1 _),fun b hb=>?_,I.imm⟩⟩
 ·rw [X.tn_text (C1 _) fun i hi h=>absurd h (hno i hi)];exact hx
 ·rw [X.cn_text (C1 _) fun i hi h=>absurd h (hno i hi)];exact hx
 ·rcases F8 b (H 0).nx with h|h
  ·exact .inl (X.live h (C1 _) hb)
  ·refine .inr ⟨h,?_⟩;rcases F8 b (H n).nx with h'|h'
   ·exact h'
   ·exact absurd (X.wfAt (C1 _) b h') hb
omit X in
theorem So {j:Nat} {o:Oper} (t:Tx E callF all H Tm R Dd j o) {e:Edge} (he:e∈o.after.toList) (hb:Region.binds .any e=true):e.on<j:=by
 obtain ⟨x,hx⟩:=(En t.mask).1 e he hb;have:=(B3.1 hx).1;simpa using this
omit X in
theorem VS {j:Nat} {o:Oper} (t:Tx E callF all H Tm R Dd j o) (hcl:∀j,D j=true→∀i,(R j).mask.testBit i=true→D i=true)
  (hon:∀e∈o.after.toList,Region.binds .any e=true→D e.on=true) {i:Nat} (hi:(R j).mask.testBit i=true):D i=true:=by
 obtain ⟨e,he,hb,x,hx,h⟩:=((En t.mask).2 i).1 hi;have hlt:=So t he hb;rw [P8,hI hlt] at hx;simp only [X8,A1] at hx;subst hx;rcases h with h|h
 ·exact hcl e.on (hon e he hb) i h
 ·rw [h];exact hon e he hb
end
end Go.AE
namespace Go.AE
variable [U:Unk]
theorem Pd:∀{l:List Bool} {i:Nat},l[i]?=some false→(l.set i true).count true=l.count true+1
 |[],i,h=>by cases h
 |b::l,0,h=>by
  simp only [D1,A1] at h;subst h;simp
 |b::l,i+1,h=>by
  have:=Pd (l:=l) (i:=i) (by simpa using h)
  simp only [List.set_cons_succ,List.count_cons,this];omega
theorem ZF {a:Array Bool} {i:Nat} (hi:i<a.size):(fun j=>(a.setIfInBounds i true).getD j false)=ins (fun j=>a.getD j false) i:=by
 funext j
 simp only [ins,C2];by_cases e:j=i
 ·subst e;simp [hi]
 ·rw [if_neg e,X1 (Ne.symm e)]
section
variable {E:Env} (hE:OK E) {callF:Ask→Aa→Option (Bool×AV×Aa)} (hF:Mb E callF) {all:Array Oper} {nt:Nat} {H:Nat→Aa} {Tm:Nat→T AV} {R:Nat→Rc} {Dd:Nat→Did} {n M:Nat}
 {ρ0:Ren} {w0:World} {k:List Item} {cs:List Frame} (X:CD E callF all nt H Tm R Dd n)
include hE hF X
theorem CD.sched (hM:(H n).nx≤M) (b8:Bs ρ0 (H 0).nx M) (ed:n≤all.size)
  (b0:n<all.size→∃o,all[n]?=some o∧Bad E callF all H Tm R Dd n o (all.toList.drop (n+1))) :
  ∀(J t:Nat) (C:Array Bool) (ρ:Ren) (w:World) (c:Frame),c.mode=.run→c.todo=.inRegion all (Region.linearise.go .any all J t C [])::k→C.size=all.size→
   all.size≤J+C.toList.count true→Inv nt H Tm R n M ρ0 w0 (fun i=>C.getD i false) ρ c.tmps w→
   ∃rest σ bd w' D',Inv nt H Tm R n M ρ0 w0 D' σ bd w'∧(∀i,i<n→D' i=true)∧Steps E.P (lone c cs w) (lone {c with tmps:=bd,todo:=.inRegion all rest::k} cs w')∧
    (n=all.size→rest=[])∧(n<all.size→∃r,rest=n::r):=by
 have ds:∀j,j<all.size→j≤n→∃o,all[j]?=some o∧Tx E callF all H Tm R Dd j o:=by
  intro j hj ef;rcases F8 j n with h|h
  ·obtain ⟨o,h1,h2⟩:=X.good j h;exact ⟨o,h1,h2.tx⟩
  ·have:j=n:=by omega
   subst this;obtain ⟨o,h1,h2⟩:=b0 hj;exact ⟨o,h1,h2.tx⟩
 have b6:∀(C:Array Bool) (ρ:Ren) (w:World) (c:Frame),C.size=all.size→c.todo=.inRegion all []::k→Inv nt H Tm R n M ρ0 w0 (fun i=>C.getD i false) ρ c.tmps w→(∀i,i<all.size→C.getD i false=true)→
   ∃rest σ bd w' D',Inv nt H Tm R n M ρ0 w0 D' σ bd w'∧(∀i,i<n→D' i=true)∧Steps E.P (lone c cs w) (lone {c with tmps:=bd,todo:=.inRegion all rest::k} cs w')∧
    (n=all.size→rest=[])∧(n<all.size→∃r,rest=n::r):=by
  intro C ρ w c bs ht I b7;refine ⟨[],ρ,c.tmps,w,_,I,fun i hi=>b7 i (by omega),?_,fun _=>rfl,fun h=>?_⟩
  ·rw [←ht];exact Steps.refl _ _
  ·exact absurd (I.sub n (b7 n h)) (Nat.lt_irrefl _)
 intro J
 induction J with
 |zero=>
  intro t C ρ w c hm ht bs cf I;refine b6 C ρ w c bs (by simpa [Region.linearise.go] using ht) I fun i hi=>?_
  have ch:C.toList.count true=C.toList.length:=by
   have:=List.count_le_length (a:=true) (l:=C.toList);have e:C.toList.length=C.size:=Array.length_toList;omega
  have:=(List.count_eq_length.1 ch) (C[i]'(by omega)) (by simp)
  rw [C2];simp [bs,hi,←this]
 |succ J ih=>
  intro t C ρ w c hm ht bs cf I
  have ck:Region.linearise.go .any all (J+1) t C []=(match (Region.ready .any all C)[t%(Region.ready .any all C).length]? with
   |some i=>Region.linearise.go .any all J (t/(Region.ready .any all C).length) (C.setIfInBounds i true) [i]
   |none=>[].reverse):=rfl
  cases hi:(Region.ready .any all C)[t%(Region.ready .any all C).length]? with
  |none=>
   have cm:Region.ready .any all C=[]:=by
    cases hr:Region.ready .any all C with
    |nil=>rfl
    |cons x xs=>
     rw [hr] at hi;have b9:t%(x::xs).length<(x::xs).length:=Nat.mod_lt _ (by simp)
     simp at hi;simp at b9;omega
   rw [ck,hi] at ht;refine b6 C ρ w c bs ht I fun i=>?_
   induction i using Nat.strongRecOn with
   |ind i cn=>
    intro bv;cases cv:C.getD i false with
    |true=>rfl
    |false=>
     exfalso
     have ab:i≤n:=by
      rcases F8 n i with h|h
      ·exact absurd (I.sub n (cn n h (by omega))) (Nat.lt_irrefl _)
      ·exact h
     obtain ⟨o,ho,tx⟩:=ds i bv ab
     have:i∈Region.ready .any all C:=by
      unfold Region.ready;rw [i9];refine ⟨by simpa using bv,?_⟩
      have h1:C.getD i true=false:=by
       rw [C2] at cv ⊢;have:i<C.size:=by omega
       simpa [this] using cv
      simp only [h1,ho,X8,j1,fg,hX];rw [Array.all_eq_true_iff_forall_mem];intro e he;cases hb:Region.binds .any e with
      |false=>rfl
      |true=>
       have b9:=So tx (by simpa using he) hb
       simp [cn e.on b9 (by omega)]
     rw [cm] at this;cases this
  |some i=>
   have b4:i∈Region.ready .any all C:=Nn hi;rw [ck,hi] at ht;simp only at ht;rw [linearise_go_acc,List.reverse_singleton,List.singleton_append] at ht;unfold Region.ready at b4;rw [i9] at b4;obtain ⟨bv,b5⟩:=b4;simp only [List.mem_range] at bv;simp only [B1,X9] at b5;obtain ⟨da,ar⟩:=b5
   have bm:C.getD i false=false:=by
    rw [C2] at da ⊢;have:i<C.size:=by omega
    simpa [this] using da
   have cc:∀o,all[i]?=some o→∀e∈o.after.toList,Region.binds .any e=true→C.getD e.on false=true:=by
    intro o ho e he hb;rw [ho] at ar;simp only [X8,j1] at ar;rw [Array.all_eq_true_iff_forall_mem] at ar;have:=ar e (by simpa using he)
    simpa [hb] using this
   rcases Nat.lt_trichotomy i n with ab|ab|ab
   ·obtain ⟨o,ho,g⟩:=X.good i ab;have av:∀q,(R i).mask.testBit q=true→(fun i=>C.getD i false) q=true:=fun q hq=>VS (D:=fun i=>C.getD i false) g.tx I.closed (cc o ho) hq
    have hD:(fun i=>C.getD i false) i=false:=bm
    have db:=X.tagree I ab hD av;rw [g.looks] at db;have eg:=X.lo ab;have du:=X.hi ab;have ej:=X.mono (i:=0) (j:=i) (by omega) (by omega)
    have em:=X.mono (i:=i+1) (j:=n) (by omega) (by omega)
    rw [g.hi] at du
    have dv:Bs ρ (H i).nx (Dd i).g.nx:=by
     intro b h1 h2;cases hb:ρ b with
     |none=>rfl
     |some ec=>
      obtain ⟨j',cd,ea⟩:=I.free b (by omega) (by omega) (by rw [hb];exact A3 _)
      have:=X.disj ab (I.sub j' cd) ⟨by omega,by rw [g.hi];exact h2⟩ ea
      subst this;rw [bm] at cd;cases cd
    obtain ⟨σ,v',w',q1,q2,q3,q4⟩:=Pp hE hF (cs:=cs) g.tx.did (X.wfAt (by omega)) hm ht ho db (I.heap.weaken fun b x hb hx=>X.agree I hM ab hD av hb hx) dv
    have I':=X.step I hM b8 ab hD av q2 q3 q4;rw [←ZF (by omega)] at I'
    rw [g.ok] at q1
    have dc:c.finish v'={c with tmps:=Jm c.tmps (R i).dst v',todo:=.inRegion all (Region.linearise.go .any all J (t/(Region.ready .any all C).length) (C.setIfInBounds i true) [])::k}:=by
     simp only [Frame.finish,ht,ho,Option.bind_some,Jm,g.dst];cases o.dst<;>rfl
    simp only [Cm] at q1;rw [dc] at q1
    obtain ⟨rest,τ,bd,w2,D',r1,r2,r3,r4,r5⟩:=ih _ (C.setIfInBounds i true) σ w' {c with tmps:=Jm c.tmps (R i).dst v',todo:=.inRegion all (Region.linearise.go .any all J (t/(Region.ready .any all C).length) (C.setIfInBounds i true) [])::k} hm rfl (by simp [bs]) (by
     rw [Array.toList_setIfInBounds,Pd]
     ·omega
     ·have:i<C.size:=by omega
      rw [C2] at bm;simpa [this] using bm) I'
    exact ⟨rest,τ,bd,w2,D',r1,r2,Steps.trans q1 r3,r4,r5⟩
   ·subst ab;obtain ⟨o,ho,b⟩:=b0 bv;refine ⟨i::Region.linearise.go .any all J (t/(Region.ready .any all C).length) (C.setIfInBounds i true) [],ρ,c.tmps,w,_,I,fun q hq=>?_,?_,fun h=>by omega,fun _=>⟨_,rfl⟩⟩
    ·refine VS (D:=fun i=>C.getD i false) b.tx I.closed (cc o ho) ?_
     have:(R i).mask=2^i-1:=by have:=b.all;omega
     rw [this,Nat.testBit_two_pow_sub_one];simpa using hq
    ·rw [←ht];exact Steps.refl _ _
   ·exfalso
    obtain ⟨o,ho,b⟩:=b0 (by omega)
    obtain ⟨recs,a1,a2,a3⟩:=b.after;have eb:all[i]?=some all[i]:=by simp [bv]
    have:=Ky (recs:=recs++[{wr:=[],fp:=none,lo:=0,hi:=0,dst:=none,looks:=[],mask:=(R n).mask}]) (fun q x hq hx=>?_) (by simp [a1]) a3 all[i] ?_
    ·obtain ⟨e,he,hb,ep⟩:=this;have:=cc _ eb e he hb;have:=I.sub e.on this;omega
    ·rw [Ea (by omega),a2,P8,hI hq] at hx
     simp only [X8,A1] at hx;subst hx;cases dd:(R q).mask.testBit n with
     |false=>rfl
     |true=>have:=X.bits hq dd;omega
    ·rw [List.mem_iff_getElem?];refine ⟨i-(n+1),?_⟩;rw [SX];rw [show n+1+(i-(n+1))=i by omega]
     simp
end
end Go.AE
namespace Go.AE
variable [U:Unk]
theorem GL {f:AF} {cs:List AF} {v v2:AV} {h b:Aa} {ok:Bool} (a:EB f cs v h=.done ok v2 b):cs=[]∧f.kind=.normal∧ok=true∧v2=v∧b=h:=by
 unfold EB at a;split at a
 ·split at a
  ·split at a<;>cases a
  ·split at a<;>cases a
  ·cases a
 ·split at a
  ·rename_i c;cases a;exact ⟨rfl,c,rfl,rfl,rfl⟩
  ·cases a
theorem Gt {f:AF} {cs:List AF} {v:AV} {h:Aa} {s:AS} {ops:Array Oper} {k:List AI}:EB f cs v h≠.draw s ops k:=by
 intro a;unfold EB at a;split at a
 ·split at a
  ·split at a<;>cases a
  ·split at a<;>cases a
  ·cases a
 ·split at a<;>cases a
theorem Fp {E:Env} {f:AF} {cs:List AF} {r:Res}:(∃s,CM E f cs r=.next s)∨∃y,CM E f cs r=.bad y:=by
 cases r<;>simp only [CM]<;>repeat' (first|exact .inl ⟨_,rfl⟩|exact .inr ⟨_,rfl⟩|split)
theorem Jb {E:Env} {s:AS} {f:Operand} {c:List Tmp} {a b:Code} {k:List AI}:(∃d,H3 E s f c a b k=.next d)∨∃y,H3 E s f c a b k=.bad y:=by
 unfold H3
 repeat' (first|exact .inl ⟨_,rfl⟩|exact .inr ⟨_,rfl⟩|split)
theorem Fq {f:AF} {cs:List AF} {h:Aa} {j:Option Code} {s:AS} {ops:Array Oper} {k:List AI}:Fs f cs h j≠.draw s ops k:=by
 intro a;unfold Fs at a;split at a
 ·split at a<;>cases a
 ·split at a
  ·exact Gt a
  ·cases a
theorem Pz {E:Env} {f:AF} {cs:List AF} {h:Aa} {s:AS} {ops:Array Oper} {k:List AI}:GK E f cs h≠.draw s ops k:=by
 intro a;unfold GK at a;split at a
 ·split at a
  ·split at a<;>cases a
  ·split at a
   ·split at a<;>cases a
   ·cases a
 ·split at a
  ·cases a
  ·split at a
   ·split at a<;>cases a
   ·split at a
    ·split at a<;>cases a
    ·cases a
  ·split at a
   ·split at a
    ·exact Gt a
    ·exact Gt a
    ·cases a
   ·cases a
theorem Iy {E:Env} {s b:AS} {ops:Array Oper} {k:List AI} (a:HD E s=.draw b ops k):b=s∧s.fr.mode=.run∧∃id,s.fr.todo=.code (.region id ops true)::k:=by
 unfold HD at a;simp only at a;split at a
 ·rename_i d;split at a
  ·exact absurd a Fq
  ·cases a
  ·cases a
  ·cases a
  ·cases a
  ·split at a
   ·rcases Fp (E:=E) (f:=s.fr) (cs:=s.cs) (r:=aop E s.fr.tmps s.h _) with ⟨y,h⟩|⟨y,h⟩<;>(rw [h] at a;cases a)
   ·rcases Fp (E:=E) (f:=s.fr) (cs:=s.cs) (r:=.val .undef s.h) with ⟨y,h⟩|⟨y,h⟩<;>(rw [h] at a;cases a)
   ·cases a
  ·cases a
  ·cases a
  ·cases a
  ·split at a
   ·split at a<;>cases a
   ·cases a
  ·split at a
   ·split at a<;>cases a
   ·cases a
  ·rename_i c k2 e;split at a
   ·exact absurd a Fq
   ·cases a
   ·cases a
   ·cases a
   ·split at a
    ·cases a
    ·cases a
    ·split at a
     ·split at a<;>cases a
     ·cases a
    ·cases a
   ·cases a
   ·cases a
   ·cases a
   ·split at a
    ·cases a
    ·split at a
     ·cases a
     ·exact absurd a Fq
   ·split at a
    ·cases a
    ·split at a
     ·cases a
     ·exact absurd a Fq
   ·rcases Jb (E:=E) (s:=s) with ⟨y,h⟩|⟨y,h⟩<;>(rw [h] at a;cases a)
   ·split at a
    ·cases a
    ·cases a;exact ⟨rfl,d,_,e⟩
   ·cases a
 ·exact absurd a Pz
end Go.AE
namespace Go.AE
variable [U:Unk]
def uH (ok:Bool) (v:Value):Ending:=match ok with
 |true=>.returned v
 |false=>.panicked [{v:=v,recovered:=false}]
def lH (c0:Frame) (ok:Bool) (v:Value):Frame:=match ok with
 |true=>c0.finish v
 |false=>c0.raise [{v:=v,recovered:=false}]
structure Qk (P:Program) (cf:Frame) (w:World) (ok:Bool) (v':Value) (w':World):Prop where
 back:∀(c0:Frame) (base:List Frame),step P (lone cf (c0::base) w)=.next (lone (lH c0 ok v') base w')
 leaves:cf.roundOf=none→w'=w∧cf.leaving P w (uH ok v')
section
variable {E:Env} (hE:OK E) {ρ:Ren} {h h2:Aa} {w:World} {c:Frame} {f:AF} {cs:List AF} {ccs base:List Frame} {s s':AS} {ok:Bool} {v:AV}
theorem FrL.nil_inv {ρ:Ren} {l:List Frame} (h:FrL ρ [] l):l=[]:=by cases h;rfl
theorem Fi (p:HR ρ h.blk.get w) (n:FrR ρ f c) (q:c.mode=.run) {a:Option Code}
  (r:(c.todo=[]∧a=none)∨(∃k,c.todo=.code .ret::k∧a=some .ret)∨(∃id k,c.todo=.code (.exit id)::k∧exitTo id k=none∧a=some (.exit id))∨(∃l k,c.todo=.code (.goto l)::k∧gotoIn l k=none∧a=some (.goto l)))
  (g:Fs f cs h a=.done ok v h2):cs=[]∧∃o i,VR ρ v o∧HR ρ h2.blk.get i∧Ext ρ ρ h h2 w i∧Qk E.P c w ok o i:=by
 have e:=n.round;unfold Fs at g;split at g
 ·split at g<;>cases g
 ·rename_i l m;rw [m] at e;obtain ⟨b,t,j⟩:=e.some_inv;split at g
  ·rename_i st pending fn nt tmps params assign body d hl;obtain ⟨i,u,x,y⟩:=KB (E:=E) p t hl a;obtain ⟨rfl,z,rfl,rfl,rfl⟩:=GL g;refine ⟨rfl,_,i,.bool _,x,y,⟨fun c0 base=>RI q j (n.kind.trans z) r u,fun h=>by rw [j] at h;cases h⟩⟩
  ·cases g
include hE
theorem Qg (t:HR ρ h.blk.get w) (k:FrR ρ f c) (I:c.mode≠.run) (d:GK E f cs h=.done ok v h2):cs=[]∧∃m y,VR ρ v m∧HR ρ h2.blk.get y∧Ext ρ ρ h h2 w y∧Qk E.P c w ok m y:=by
 have g:=k.defers;unfold GK at d;split at d
 ·split at d
  ·split at d<;>cases d
  ·split at d
   ·split at d<;>cases d
   ·cases d
 ·rename_i z;rw [z] at g
  have i:c.defers=[]:=by
   cases i:c.defers with
   |nil=>rfl
   |cons J G=>rw [i] at g;exact g.elim
  have b:=k.mode;split at d
  ·cases d
  ·rename_i Jp o;rw [o] at b;split at d
   ·split at d<;>cases d
   ·split at d
    ·split at d
     ·rename_i fn p;cases d;generalize j:c.mode=K at b;cases b with
      |panic _ A u=>
       cases A with
       |nil=>exact u.elim
       |cons e r=>
        obtain ⟨D,h2,F,H⟩:=u;cases r with
        |cons _ _=>exact H.elim
        |nil=>
         obtain ⟨ev,L,M⟩:=e;simp only at D h2 F;subst h2;subst F;have hl:c.leaving E.P w (.panicked [{v:=ev,recovered:=false}]):=⟨j,i,fn,by rw [k.fn];exact hE.fn _ _ p⟩
         exact ⟨rfl,ev,w,D,t,Ext.refl _ _ _,⟨fun c0 base=>step_leave_panicked hl,fun _=>⟨rfl,hl⟩⟩⟩
     ·cases d
    ·cases d
  ·rename_i o;rw [o] at b
   have j:c.mode=.returning:=by
    generalize c.mode=x at b;cases b;rfl
   split at d
   ·rename_i fn p;have n:E.P.funcs[c.fn]?=some fn:=by rw [k.fn];exact hE.fn _ _ p
    split at d
    ·rename_i v q;obtain ⟨m,p1,p2,p3⟩:=Gx hE t k q;obtain ⟨rfl,B,rfl,rfl,rfl⟩:=GL d;have hl:c.leaving E.P w (.returned m):=⟨j,i,k.kind.trans B,fn,n,p1⟩;exact ⟨rfl,m,w,p2 _ rfl,t,Ext.refl _ _ _,⟨fun c0 base=>step_leave_returned hl,fun _=>⟨rfl,hl⟩⟩⟩
    ·rename_i l C q;obtain ⟨m,p1,p2,p3⟩:=Gx hE t k q;obtain ⟨rfl,B,rfl,rfl,rfl⟩:=GL d;have hl:c.leaving E.P w (.returned m):=⟨j,i,k.kind.trans B,fn,n,p1⟩;exact ⟨rfl,m,w,p3 fun a e=>C a (by rw [e]),t,Ext.refl _ _ _,⟨fun c0 base=>step_leave_returned hl,fun _=>⟨rfl,hl⟩⟩⟩
    ·cases d
   ·cases d
theorem Nu (d:SR ρ s c ccs w) (b:HD E s=.done ok v h2):ccs=[]∧∃n j,VR ρ v n∧HR ρ h2.blk.get j∧Ext ρ ρ s.h h2 w j∧Qk E.P c w ok n j:=by
 have g:=d.fr.mode;have e:=d.fr.todo
 suffices hs:s.cs=[]∧∃n j,VR ρ v n∧HR ρ h2.blk.get j∧Ext ρ ρ s.h h2 w j∧Qk E.P c w ok n j by
  obtain ⟨z,h2⟩:=hs;have o:=d.cs;rw [z] at o;exact ⟨o.nil_inv,h2⟩
 unfold HD at b;simp only at b;split at b
 ·rename_i l;rw [l] at g
  have p:c.mode=.run:=by
   generalize c.mode=x at g;cases g;rfl
  split at b
  ·rename_i q;rw [q] at e;generalize i:c.todo=A at e;cases e;exact Fi d.h d.fr p (.inl ⟨i,rfl⟩) b
  ·cases b
  ·cases b
  ·cases b
  ·cases b
  ·split at b
   ·rcases Fp (E:=E) (f:=s.fr) (cs:=s.cs) (r:=aop E s.fr.tmps s.h _) with ⟨y,h⟩|⟨y,h⟩<;>(rw [h] at b;cases b)
   ·rcases Fp (E:=E) (f:=s.fr) (cs:=s.cs) (r:=.val .undef s.h) with ⟨y,h⟩|⟨y,h⟩<;>(rw [h] at b;cases b)
   ·cases b
  ·cases b
  ·cases b
  ·cases b
  ·split at b
   ·split at b<;>cases b
   ·cases b
  ·split at b
   ·split at b<;>cases b
   ·cases b
  ·rename_i B k q;rw [q] at e;generalize i:c.todo=A at e;cases e with|cons a u=>
   cases a;split at b
   ·exact Fi d.h d.fr p (.inr (.inl ⟨_,i,rfl⟩)) b
   ·cases b
   ·cases b
   ·cases b
   ·split at b
    ·cases b
    ·cases b
    ·split at b
     ·split at b<;>cases b
     ·cases b
    ·cases b
   ·cases b
   ·cases b
   ·cases b
   ·split at b
    ·cases b
    ·rename_i t;split at b
     ·cases b
     ·rename_i m;exact Fi d.h d.fr p (.inr (.inr (.inl ⟨_,_,i,(MI u).2 t m,rfl⟩))) b
   ·split at b
    ·cases b
    ·rename_i t;split at b
     ·cases b
     ·rename_i m;exact Fi d.h d.fr p (.inr (.inr (.inr ⟨_,_,i,(MK u).2 t m,rfl⟩))) b
   ·rcases Jb (E:=E) (s:=s) with ⟨y,h⟩|⟨y,h⟩<;>(rw [h] at b;cases b)
   ·split at b<;>cases b
   ·cases b
 ·rename_i l;exact Qg hE d.h d.fr (Jf.not_run g l) b
end
end Go.AE
namespace Go.AE
@[reducible] def zt:Unk:={facts:=[],V:=⟨fun _=>default,fun _ d=>d⟩,K:=fun _=>none,R:=[],hR:=fun _ _ _ _ _ h=>(by cases h),ok:=by simp}
def HF:SE→SE
 |.nilIs y _=>HF y
 |.nilL=>.c 0
 |.emptyL=>.c 0
 |.upd a _ _ _=>HF a
 |.cat a b=>match HF a with
  |.c n=>match n==0 with
   |true=>HF b
   |false=>.lenL (.cat a b)
  |_=>.lenL (.cat a b)
 |.snoc a r=>match HF a with
  |.c n=>.c (n+1)
  |_=>.lenL (.snoc a r)
 |x=>.lenL x
def JX:SE→SE
 |.nilIs _ b=>b
 |.nilL=>.bc true
 |.emptyL=>.bc false
 |.snoc _ _=>.bc false
 |.rep _ _=>.bc false
 |.upd a _ _ _=>JX a
 |x=>.isNil x
def Zh:SE→SE→SE
 |.bc true,b=>b
 |.bc false,_=>.bc false
 |_,.bc false=>.bc false
 |a,.bc true=>a
 |a,b=>.and a b
def SE.isB:SE→Bool
 |.bc _=>true
 |.lss _ _=>true
 |.eql _ _=>true
 |.eqS _ _ _=>true
 |.eqSS _ _=>true
 |.isNil _=>true
 |.neg _=>true
 |.and _ _=>true
 |_=>false
def tS:SE→SE
 |.bc b=>.bc (!b)
 |x=>.neg x
def jk:SE→SE→SE
 |.c n,.c m=>.bc (n==m)
 |a,b=>match a.same b with
  |true=>.bc true
  |false=>.eql a b
def jd:SE→SE→SE
 |.c n,.c m=>.bc (decide (n<m))
 |a,b=>.lss a b
def SE.norm:SE→SE
 |.lenL a=>HF a.norm
 |.isNil a=>match (JX a.norm).isB with
  |true=>JX a.norm
  |false=>.isNil a.norm
 |.and a b=>match (Zh a.norm b.norm).isB with
  |true=>Zh a.norm b.norm
  |false=>.and a.norm b.norm
 |.neg a=>tS a.norm
 |.nilIs a b=>.nilIs a.norm b.norm
 |.eql a b=>jk a.norm b.norm
 |.lss a b=>jd a.norm b.norm
 |.arith C k a b=>.arith C k a.norm b.norm
 |.cell a i j=>.cell a.norm i.norm j
 |.snoc a r=>.snoc a.norm r.norm
 |.rcons x r=>.rcons x.norm r.norm
 |.upd a i j x=>.upd a.norm i.norm j x.norm
 |.sel a j=>.sel a.norm j
 |.app g a=>.app g a.norm
 |.cat a b=>.cat a.norm b.norm
 |.rmv a i=>.rmv a.norm i.norm
 |.mIdx ks a k=>.mIdx ks a.norm k.norm
 |e=>e
theorem ZA (V:Val):∀x:SE,Ab V (HF x)=.int ((Ab V x).rows.length:Nat):=by
 intro x
 induction x
 case nilIs y b c _=>simp only [HF,c,Ab,D.rows]
 case upd a i j x c _ _=>simp only [HF,c,Ab,D.rows,List.length_modify]
 case cat a b d f=>
  simp only [HF];split
  ·rename_i n h;split
   ·rename_i hn;have hn:=eq_of_beq hn;subst hn;rw [h] at d
    have g:(Ab V a).rows.length=0:=by
     simp only [Ab,D.int.injEq] at d;omega
    rw [f];have e:(Ab V (.cat a b)).rows=(Ab V a).rows++(Ab V b).rows:=rfl;rw [e,L1,g,R2]
   ·rfl
  ·rfl
 case snoc a r c _=>
  simp only [HF];split
  ·rename_i n h;rw [h] at c;simp only [Ab,D.int.injEq,D.rows,L1,hQ] at c ⊢;omega
  ·rfl
 all_goals rfl
theorem XI (V:Val):∀x:SE,(JX x).isB=true→Ab V (JX x)=.bool (Ab V x).isNil:=by
 intro x
 induction x<;>intro c<;>first|rfl|skip
 case upd a i j x d _ _=>exact d c
 case nilIs y b _ _=>
  simp only [JX] at c ⊢;cases b<;>first|rfl | (simp [SE.isB] at c;done)|skip
theorem PH (V:Val) {x:SE} (h:x.isB=true):Ab V x=.bool (Ab V x).toBool:=by
 cases x<;>first|rfl | (simp [SE.isB] at h;done)
theorem fS (V:Val) (a b:SE) (h:(Zh a b).isB=true):Ab V (Zh a b)=Ab V (.and a b):=by
 unfold Zh at h ⊢;split
 ·simp only at h;rw [PH V h];simp only [Ab,D.toBool,hX]
 ·simp only [Ab,D.toBool,Bool.false_and]
 ·simp only [Ab,D.toBool,Bool.and_false]
 ·simp only at h;rw [PH V h];simp only [Ab,D.toBool,g6]
 ·rfl
theorem eh (V:Val) (a b:SE):Ab V (jk a b)=Ab V (.eql a b):=by
 unfold jk;split
 ·rfl
 ·split
  ·rename_i h;rw [SE.same_ok (U:=zt) h];simp only [Ab,beq_self_eq_true]
  ·rfl
theorem eD (V:Val) (a b:SE):Ab V (jd a b)=Ab V (.lss a b):=by
 unfold jd;split<;>rfl
theorem C3 (V:Val):∀e:SE,Ab V e.norm=Ab V e:=by
 intro e
 induction e
 case lenL a f=>simp only [SE.norm,ZA,f];rfl
 case isNil a f=>
  simp only [SE.norm];split
  ·rename_i h;rw [XI V _ h,f];rfl
  ·simp only [Ab,f]
 case and a b c d=>
  simp only [SE.norm];split
  ·rename_i h;rw [fS V _ _ h];simp only [Ab,c,d]
  ·simp only [Ab,c,d]
 case neg a f=>
  simp only [SE.norm];unfold tS;split
  ·rename_i b h;rw [h] at f;simp only [Ab] at f ⊢;rw [←f];rfl
  ·simp only [Ab,f]
 case eql a b c d=>simp only [SE.norm,eh,Ab,c,d]
 case lss a b c d=>simp only [SE.norm,eD,Ab,c,d]
 all_goals simp_all only [SE.norm,Ab]
def eqD {c:Type} [DecidableEq c] (a b:c):Bool:=decide (a=b)
theorem C6 {c:Type} [DecidableEq c] {a b:c} (h:eqD a b=true):a=b:=hZ h
theorem Br {i j:Nat} (h:Nat.beq i j=true):i=j:=F7 h
def Qp:Value→Value→Bool
 |.bool a,.bool b=>eqD a b
 |.int k a,.int c b=>eqD k c&&eqD a b
 |.string a,.string b=>eqD a.data.toList b.data.toList
 |.pointer none,.pointer none=>true
 |.slice none a b,.slice none d e=>Nat.beq a d&&Nat.beq b e
 |.map none,.map none=>true
 |.nilFunc,.nilFunc=>true
 |.nilIface,.nilIface=>true
 |_,_=>false
theorem TJ {a b:Value} (h:Qp a b=true):a=b:=by
 unfold Qp at h;split at h<;>first|rfl | (cases h;done)|skip
 ·rw [C6 h]
 ·simp only [B1] at h;rw [C6 h.1,C6 h.2]
 ·rename_i a b;have:=C6 h
  have e:a=b:=by
   cases a;cases b;simp only [ByteArray.mk.injEq];exact Array.ext' this
  rw [e]
 ·simp only [B1] at h;rw [Br h.1,Br h.2]
def AN:Operand→Operand→Bool
 |.tmp a,.tmp b=>Nat.beq a b
 |.const a,.const b=>Qp a b
 |.global a,.global b=>Nat.beq a b
 |.func a,.func b=>Nat.beq a b
 |_,_=>false
theorem Au {a b:Operand} (h:AN a b=true):a=b:=by
 unfold AN at h;split at h<;>first | (cases h;done)|skip
 ·rw [Br h]
 ·rw [TJ h]
 ·rw [Br h]
 ·rw [Br h]
def Nk {c:Type} (d:c→c→Bool):List c→List c→Bool
 |[],[]=>true
 |a::l,b::m=>d a b&&Nk d l m
 |_,_=>false
theorem Kn {c:Type} {d:c→c→Bool} (e:∀a b,d a b=true→a=b):∀{l m:List c},Nk d l m=true→l=m
 |[],[],_=>rfl
 |a::l,b::m,h=>by
  simp only [Nk,B1] at h;rw [e a b h.1,Kn e h.2]
 |[],_::_,h=>by cases h
 |_::_,[],h=>by cases h
def M0 {c:Type} (d:c→c→Bool) (a b:Array c):Bool:=Nk d a.toList b.toList
theorem Gg {c:Type} {d:c→c→Bool} (e:∀a b,d a b=true→a=b) {a b:Array c} (h:M0 d a b=true):a=b:=Array.ext' (Kn e h)
def Vz (a b:Array Operand):Bool:=M0 AN a b
theorem MT {a b:Array Operand} (h:Vz a b=true):a=b:=Gg (fun _ _=>Au) h
def kK (a b:Array (Nat×Operand)):Bool:=M0 (fun x y=>Nat.beq x.1 y.1&&AN x.2 y.2) a b
theorem V8 {a b:Array (Nat×Operand)} (h:kK a b=true):a=b:=Gg (fun x y h=>by
 simp only [B1] at h;exact Prod.ext (Br h.1) (Au h.2)) h
def Sv {c:Type} (d:c→c→Bool):Option c→Option c→Bool
 |none,none=>true
 |some a,some b=>d a b
 |_,_=>false
theorem JH {c:Type} {d:c→c→Bool} (e:∀a b,d a b=true→a=b) {a b:Option c} (h:Sv d a b=true):a=b:=by
 cases a<;>cases b<;>first|rfl | (cases h;done)|skip
 rw [e _ _ h]
def Z5 (a b:Option Operand):Bool:=Sv AN a b
theorem Lz {a b:Option Operand} (h:Z5 a b=true):a=b:=JH (fun _ _=>Au) h
def Z8:Fn→Fn→Bool
 |.func f,.func g=>Nat.beq f g
 |.method n,.method m=>eqD n m
 |_,_=>false
theorem bi {a b:Fn} (h:Z8 a b=true):a=b:=by
 unfold Z8 at h;split at h<;>first | (cases h;done)|skip
 ·rw [Br h]
 ·rw [C6 h]
def MF:Callee→Callee→Bool
 |.value f,.value g=>AN f g
 |.invoke r n,.invoke a c=>AN r a&&eqD n c
 |.builtin b,.builtin d=>eqD b d
 |_,_=>false
theorem Sw {a b:Callee} (h:MF a b=true):a=b:=by
 unfold MF at h;split at h<;>first | (cases h;done)|skip
 ·rw [Au h]
 ·simp only [B1] at h;rw [Au h.1,C6 h.2]
 ·rw [C6 h]
def Qf (a b:Call):Bool:=MF a.callee b.callee&&Vz a.args b.args&&M0 Nat.beq a.argTypes b.argTypes
theorem Pb {a b:Call} (h:Qf a b=true):a=b:=by
 cases a;cases b;simp only [Qf,B1] at h;simp only [Call.mk.injEq];exact ⟨Sw h.1.1,MT h.1.2,Gg (fun _ _=>Br) h.2⟩
def lW:Op→Op→Bool
 |.move x0,.move y0=>AN x0 y0
 |.assign x0,.assign y0=>AN x0 y0
 |.pick x0 x1 x2,.pick y0 y1 y2=>AN x0 y0&&AN x1 y1&&AN x2 y2
 |.alloc x0,.alloc y0=>Nat.beq x0 y0
 |.box x0 x1,.box y0 y1=>Nat.beq x0 y0&&AN x1 y1
 |.build x0 x1,.build y0 y1=>Nat.beq x0 y0&&kK x1 y1
 |.buildSlice x0 x1 x2,.buildSlice y0 y1 y2=>Nat.beq x0 y0&&Nat.beq x1 y1&&kK x2 y2
 |.insert x0 x1 x2 x3,.insert y0 y1 y2 y3=>Nat.beq x0 y0&&AN x1 y1&&AN x2 y2&&AN x3 y3
 |.load x0 x1,.load y0 y1=>Nat.beq x0 y0&&AN x1 y1
 |.store x0 x1 x2,.store y0 y1 y2=>Nat.beq x0 y0&&AN x1 y1&&AN x2 y2
 |.ready x0,.ready y0=>Nat.beq x0 y0
 |.waits x0,.waits y0=>Nat.beq x0 y0
 |.nilCheck x0,.nilCheck y0=>AN x0 y0
 |.binOp x0 x1 x2 x3 x4,.binOp y0 y1 y2 y3 y4=>eqD x0 y0&&Nat.beq x1 y1&&AN x2 y2&&AN x3 y3&&Nat.beq x4 y4
 |.unOp x0 x1 x2,.unOp y0 y1 y2=>eqD x0 y0&&Nat.beq x1 y1&&AN x2 y2
 |.convert x0 x1 x2,.convert y0 y1 y2=>Nat.beq x0 y0&&Nat.beq x1 y1&&AN x2 y2
 |.sliceToArrayPointer x0 x1,.sliceToArrayPointer y0 y1=>Nat.beq x0 y0&&AN x1 y1
 |.makeInterface x0 x1,.makeInterface y0 y1=>Nat.beq x0 y0&&AN x1 y1
 |.makeFunc x0 x1 x2,.makeFunc y0 y1 y2=>Z8 x0 y0&&Vz x1 y1&&Vz x2 y2
 |.makeMap x0 x1,.makeMap y0 y1=>Nat.beq x0 y0&&Z5 x1 y1
 |.makeSlice x0 x1 x2,.makeSlice y0 y1 y2=>Nat.beq x0 y0&&AN x1 y1&&AN x2 y2
 |.slice x0 x1 x2 x3 x4,.slice y0 y1 y2 y3 y4=>Nat.beq x0 y0&&AN x1 y1&&Z5 x2 y2&&Z5 x3 y3&&Z5 x4 y4
 |.fieldAddr x0 x1 x2,.fieldAddr y0 y1 y2=>Nat.beq x0 y0&&AN x1 y1&&Nat.beq x2 y2
 |.field x0 x1 x2,.field y0 y1 y2=>Nat.beq x0 y0&&AN x1 y1&&Nat.beq x2 y2
 |.indexAddr x0 x1 x2,.indexAddr y0 y1 y2=>Nat.beq x0 y0&&AN x1 y1&&AN x2 y2
 |.index x0 x1 x2,.index y0 y1 y2=>Nat.beq x0 y0&&AN x1 y1&&AN x2 y2
 |.lookup x0 x1 x2 x3,.lookup y0 y1 y2 y3=>Nat.beq x0 y0&&AN x1 y1&&AN x2 y2&&eqD x3 y3
 |.mapUpdate x0 x1 x2 x3,.mapUpdate y0 y1 y2 y3=>Nat.beq x0 y0&&AN x1 y1&&AN x2 y2&&AN x3 y3
 |.mapEntry x0 x1 x2,.mapEntry y0 y1 y2=>Nat.beq x0 y0&&AN x1 y1&&AN x2 y2
 |.entryStore x0 x1 x2 x3,.entryStore y0 y1 y2 y3=>Nat.beq x0 y0&&AN x1 y1&&AN x2 y2&&AN x3 y3
 |.range x0 x1,.range y0 y1=>Nat.beq x0 y0&&AN x1 y1
 |.next x0 x1,.next y0 y1=>AN x0 y0&&eqD x1 y1
 |.entry x0,.entry y0=>AN x0 y0
 |.typeAssert x0 x1 x2 x3,.typeAssert y0 y1 y2 y3=>AN x0 y0&&Nat.beq x1 y1&&Nat.beq x2 y2&&eqD x3 y3
 |.extract x0 x1,.extract y0 y1=>AN x0 y0&&Nat.beq x1 y1
 |.call x0,.call y0=>Qf x0 y0
 |.defer x0,.defer y0=>Qf x0 y0
 |.panic x0,.panic y0=>AN x0 y0
 |_,_=>false
set_option maxHeartbeats 4000000 in
theorem fY:∀{a b:Op},lW a b=true→a=b:=by
 intro a b h;cases a<;>cases b<;>simp only [lW,E2,B1] at h
 case move.move=>have c:=h;rw [Au c]
 case assign.assign=>have c:=h;rw [Au c]
 case pick.pick=>obtain ⟨⟨c,d⟩,e⟩:=h;rw [Au c,Au d,Au e]
 case alloc.alloc=>have c:=h;rw [Br c]
 case box.box=>obtain ⟨c,d⟩:=h;rw [Br c,Au d]
 case build.build=>obtain ⟨c,d⟩:=h;rw [Br c,V8 d]
 case buildSlice.buildSlice=>obtain ⟨⟨c,d⟩,e⟩:=h;rw [Br c,Br d,V8 e]
 case insert.insert=>obtain ⟨⟨⟨c,d⟩,e⟩,f⟩:=h;rw [Br c,Au d,Au e,Au f]
 case load.load=>obtain ⟨c,d⟩:=h;rw [Br c,Au d]
 case store.store=>obtain ⟨⟨c,d⟩,e⟩:=h;rw [Br c,Au d,Au e]
 case ready.ready=>have c:=h;rw [Br c]
 case waits.waits=>have c:=h;rw [Br c]
 case nilCheck.nilCheck=>have c:=h;rw [Au c]
 case binOp.binOp=>obtain ⟨⟨⟨⟨c,d⟩,e⟩,f⟩,g⟩:=h;rw [C6 c,Br d,Au e,Au f,Br g]
 case unOp.unOp=>obtain ⟨⟨c,d⟩,e⟩:=h;rw [C6 c,Br d,Au e]
 case convert.convert=>obtain ⟨⟨c,d⟩,e⟩:=h;rw [Br c,Br d,Au e]
 case sliceToArrayPointer.sliceToArrayPointer=>obtain ⟨c,d⟩:=h;rw [Br c,Au d]
 case makeInterface.makeInterface=>obtain ⟨c,d⟩:=h;rw [Br c,Au d]
 case makeFunc.makeFunc=>obtain ⟨⟨c,d⟩,e⟩:=h;rw [bi c,MT d,MT e]
 case makeMap.makeMap=>obtain ⟨c,d⟩:=h;rw [Br c,Lz d]
 case makeSlice.makeSlice=>obtain ⟨⟨c,d⟩,e⟩:=h;rw [Br c,Au d,Au e]
 case slice.slice=>obtain ⟨⟨⟨⟨c,d⟩,e⟩,f⟩,g⟩:=h;rw [Br c,Au d,Lz e,Lz f,Lz g]
 case fieldAddr.fieldAddr=>obtain ⟨⟨c,d⟩,e⟩:=h;rw [Br c,Au d,Br e]
 case field.field=>obtain ⟨⟨c,d⟩,e⟩:=h;rw [Br c,Au d,Br e]
 case indexAddr.indexAddr=>obtain ⟨⟨c,d⟩,e⟩:=h;rw [Br c,Au d,Au e]
 case index.index=>obtain ⟨⟨c,d⟩,e⟩:=h;rw [Br c,Au d,Au e]
 case lookup.lookup=>obtain ⟨⟨⟨c,d⟩,e⟩,f⟩:=h;rw [Br c,Au d,Au e,C6 f]
 case mapUpdate.mapUpdate=>obtain ⟨⟨⟨c,d⟩,e⟩,f⟩:=h;rw [Br c,Au d,Au e,Au f]
 case mapEntry.mapEntry=>obtain ⟨⟨c,d⟩,e⟩:=h;rw [Br c,Au d,Au e]
 case entryStore.entryStore=>obtain ⟨⟨⟨c,d⟩,e⟩,f⟩:=h;rw [Br c,Au d,Au e,Au f]
 case range.range=>obtain ⟨c,d⟩:=h;rw [Br c,Au d]
 case next.next=>obtain ⟨c,d⟩:=h;rw [Au c,C6 d]
 case entry.entry=>have c:=h;rw [Au c]
 case typeAssert.typeAssert=>obtain ⟨⟨⟨c,d⟩,e⟩,f⟩:=h;rw [Au c,Br d,Br e,C6 f]
 case extract.extract=>obtain ⟨c,d⟩:=h;rw [Au c,Br d]
 case call.call=>have c:=h;rw [Pb c]
 case defer.defer=>have c:=h;rw [Pb c]
 case panic.panic=>have c:=h;rw [Au c]
def Ub (a b:Edge):Bool:=Nat.beq a.on b.on&&eqD a.ground b.ground
theorem WI {a b:Edge} (h:Ub a b=true):a=b:=by
 cases a;cases b;simp only [Ub,B1] at h;simp only [Edge.mk.injEq];exact ⟨Br h.1,C6 h.2⟩
def Ui (a b:Oper):Bool:=Sv Nat.beq a.dst b.dst&&lW a.op b.op&&Nat.beq a.type b.type&&M0 Ub a.after b.after&&Sv (fun x y=>Nat.beq x.1 y.1&&eqD x.2 y.2) a.guard b.guard&&eqD a.pos b.pos
theorem W8 {a b:Oper} (h:Ui a b=true):a=b:=by
 cases a;cases b;simp only [Ui,B1] at h;obtain ⟨⟨⟨⟨⟨c,d⟩,e⟩,f⟩,g⟩,i⟩:=h;simp only [Oper.mk.injEq];refine ⟨JH (fun _ _=>Br) c,fY d,Br e,C6 i,Gg (fun _ _=>WI) f,JH (fun x y h=>?_) g⟩
 simp only [B1] at h;exact Prod.ext (Br h.1) (C6 h.2)
def DU:Code→Code→Bool
 |.skip,.skip=>true
 |.region i o d,.region g j k=>Nat.beq i g&&eqD d k&&M0 Ui o j
 |.seq a b,.seq e h=>DU a e&&DU b h
 |.cond c a b,.cond l e h=>AN c l&&DU a e&&DU b h
 |.block i a,.block g e=>Nat.beq i g&&DU a e
 |.loop a,.loop e=>DU a e
 |.rangeFunc f p a b,.rangeFunc m n e h=>AN f m&&M0 Nat.beq p n&&DU a e&&DU b h
 |.exit i,.exit g=>Nat.beq i g
 |.scope a,.scope e=>DU a e
 |.label i,.label g=>Nat.beq i g
 |.goto i,.goto g=>Nat.beq i g
 |.ret,.ret=>true
 |_,_=>false
theorem Km:∀{a b:Code},DU a b=true→a=b:=by
 intro a
 induction a<;>intro b h<;>cases b<;>simp only [DU,E2,B1] at h<;>first|rfl|skip
 case region.region=>rw [Br h.1.1,C6 h.1.2,Gg (fun _ _=>W8) h.2]
 case seq.seq c d _ _=>rw [c h.1,d h.2]
 case cond.cond c d _ _ _=>rw [Au h.1.1,c h.1.2,d h.2]
 case block.block e _ _=>rw [Br h.1,e h.2]
 case loop.loop e _=>rw [e h]
 case rangeFunc.rangeFunc c d _ _ _ _=>rw [Au h.1.1.1,Gg (fun _ _=>Br) h.1.1.2,c h.1.2,d h.2]
 case exit.exit=>rw [Br h]
 case scope.scope e _=>rw [e h]
 case label.label=>rw [Br h]
 case goto.goto=>rw [Br h]
end Go.AE

