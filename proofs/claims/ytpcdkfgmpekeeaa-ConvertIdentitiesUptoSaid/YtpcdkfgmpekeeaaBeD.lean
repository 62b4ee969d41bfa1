/- What is proved here: an evaluator of the model's steps that the kernel can run, and that whatever it answers is what the model does (part 4 of 6: AeStep1, AeStep2, AeStep3, AeStep4, AeStep5, AeStep6, AeStep7, AeDraw1, AeDraw2, AeDraw3, AeDraw4, AeDraw5, AeDraw6, AeDraw7, AeDraw8, AeRun1, AeRun2, AeNorm, AeCode). Conditions: those that each theorem states; they hold of no one program. -/
import Derived.Test.YtpcdkfgmpekeeaaBeC
import Derived.Orders
set_option linter.unusedVariables false
set_option linter.unusedSectionVars false
set_option linter.unusedSimpArgs false
namespace Go.AE
variable [U : Unk]
section
variable {P : Program} {fr : Frame} {k : List Item} {cs : List Frame} {w : World}
theorem Ys {a b : Code} (hm : fr.mode = .run) (ht : fr.todo = .code (.seq a b) :: k) : step P (lone fr cs w) = .next (lone { fr with todo := .code a :: .code b :: k } cs w) :=
 step_lone_go (by cases fr; simp only at hm ht; subst hm; subst ht; simp [stepG, stepG.exec])
theorem Ww (hm : fr.mode = .run) (ht : fr.todo = .code .skip :: k) : step P (lone fr cs w) = .next (lone { fr with todo := k } cs w) :=
 step_lone_go (by cases fr; simp only at hm ht; subst hm; subst ht; simp [stepG, stepG.exec])
theorem TX {l : Nat} (hm : fr.mode = .run) (ht : fr.todo = .code (.label l) :: k) : step P (lone fr cs w) = .next (lone { fr with todo := k } cs w) :=
 step_lone_go (by cases fr; simp only at hm ht; subst hm; subst ht; simp [stepG, stepG.exec])
theorem Pw {l : Nat} (hm : fr.mode = .run) (ht : fr.todo = .inBlock l :: k) : step P (lone fr cs w) = .next (lone { fr with todo := k } cs w) :=
 step_lone_go (by cases fr; simp only at hm ht; subst hm; subst ht; simp [stepG, stepG.exec])
theorem O8 {l : Code} (hm : fr.mode = .run) (ht : fr.todo = .inScope l :: k) : step P (lone fr cs w) = .next (lone { fr with todo := k } cs w) :=
 step_lone_go (by cases fr; simp only at hm ht; subst hm; subst ht; simp [stepG, stepG.exec])
theorem JE {c : Operand} {x y : Code} {b : Bool} (hm : fr.mode = .run) (ht : fr.todo = .code (.cond c x y) :: k) (hc : fr.eval c = .bool b) : step P (lone fr cs w) = .next (lone { fr with todo := .code (if b then x else y) :: k } cs w) :=
 step_lone_go (by cases fr; simp only at hm ht; subst hm; subst ht; simp [stepG, stepG.exec, hc])
theorem UW {id : Nat} {c : Code} (hm : fr.mode = .run) (ht : fr.todo = .code (.block id c) :: k) : step P (lone fr cs w) = .next (lone { fr with todo := .code c :: .inBlock id :: k } cs w) :=
 step_lone_go (by cases fr; simp only at hm ht; subst hm; subst ht; simp [stepG, stepG.exec])
theorem Xd {c : Code} (hm : fr.mode = .run) (ht : fr.todo = .code (.loop c) :: k) : step P (lone fr cs w) = .next (lone { fr with todo := .code c :: .inLoop c :: k } cs w) :=
 step_lone_go (by cases fr; simp only at hm ht; subst hm; subst ht; simp [stepG, stepG.exec])
theorem Sl {c : Code} (hm : fr.mode = .run) (ht : fr.todo = .inLoop c :: k) : step P (lone fr cs w) = .next (lone { fr with todo := .code c :: .inLoop c :: k } cs w) :=
 step_lone_go (by cases fr; simp only at hm ht; subst hm; subst ht; simp [stepG, stepG.exec])
theorem U5 {c : Code} (hm : fr.mode = .run) (ht : fr.todo = .code (.scope c) :: k) : step P (lone fr cs w) = .next (lone { fr with todo := .code c :: .inScope c :: k } cs w) :=
 step_lone_go (by cases fr; simp only at hm ht; subst hm; subst ht; simp [stepG, stepG.exec])
theorem SQ {id : Nat} {ops : Array Oper} (hm : fr.mode = .run) (ht : fr.todo = .code (.region id ops false) :: k) : step P (lone fr cs w) = .next (lone { fr with todo := .inRegion ops (List.range ops.size) :: k } cs w) :=
 step_lone_go (by cases fr; simp only at hm ht; subst hm; subst ht; simp [stepG, stepG.exec])
theorem WB {id : Nat} {ops : Array Oper} (hm : fr.mode = .run) (ht : fr.todo = .code (.region id ops true) :: k) :
  step P (lone fr cs w) = .next (lone { fr with todo := .inRegion ops (Region.schedule (P.follows .mixedOrders) ops (w.tape w.drawn (.order fr.fn id))) :: k } cs { w with drawn := w.drawn + 1 }) :=
 step_lone_go (by cases fr; simp only at hm ht; subst hm; subst ht; simp [stepG, stepG.exec, choose, Sem.run, Question.forced, Question.cut])
theorem Ht {ops : Array Oper} (hm : fr.mode = .run) (ht : fr.todo = .inRegion ops [] :: k) : step P (lone fr cs w) = .next (lone { fr with todo := k } cs w) :=
 step_lone_go (by cases fr; simp only at hm ht; subst hm; subst ht; simp [stepG, stepG.exec])
theorem Wf {id : Nat} {k' : List Item} (hm : fr.mode = .run) (ht : fr.todo = .code (.exit id) :: k) (hk : exitTo id k = some k') : step P (lone fr cs w) = .next (lone { fr with todo := k' } cs w) :=
 step_lone_go (by cases fr; simp only at hm ht; subst hm; subst ht; simp [stepG, stepG.exec, hk])
theorem V3 {l : Nat} {k' : List Item} (hm : fr.mode = .run) (ht : fr.todo = .code (.goto l) :: k) (hk : gotoIn l k = some k') : step P (lone fr cs w) = .next (lone { fr with todo := k' } cs w) :=
 step_lone_go (by cases fr; simp only at hm ht; subst hm; subst ht; simp [stepG, stepG.exec, hk])
theorem YR (hm : fr.mode = .run) (ht : fr.todo = [] ∨ ∃ k, fr.todo = .code .ret :: k) (hr : fr.roundOf = none) : step P (lone fr cs w) = .next (lone { fr with mode := .returning } cs w) := by
 rcases ht with ht | ⟨k, ht⟩ <;>
 exact step_lone_go (by cases fr; simp only at hm ht hr; subst hm; subst ht; subst hr; simp [stepG, stepG.exec])
theorem OB {l : Nat} {jump : Option Code} {c : Frame} {w' : World} {v : Value} (hm : fr.mode = .run) (hr : fr.roundOf = some l) (hk : fr.kind = .normal)
  (ht : (fr.todo = [] ∧ jump = none) ∨ (∃ k, fr.todo = .code .ret :: k ∧ jump = some .ret) ∨ (∃ id k, fr.todo = .code (.exit id) :: k ∧ exitTo id k = none ∧ jump = some (.exit id)) ∨ (∃ l k, fr.todo = .code (.goto l) :: k ∧ gotoIn l k = none ∧ jump = some (.goto l)))
  (hrun : (Instr.endRound l jump).run P w = .ok v w') : step P (lone fr (c :: cs) w) = .next (lone (c.finish v) cs w') := by
 rcases ht with ⟨ht, rfl⟩ | ⟨k, ht, rfl⟩ | ⟨id, k, ht, he, rfl⟩ | ⟨l', k, ht, he, rfl⟩ <;>
 exact step_lone_go (by cases fr; simp only at hm ht hr hk; subst hm; subst ht; subst hr; subst hk; simp [stepG, stepG.exec, Sem.runT_eq, doReturn, *])
theorem L4 {ops : Array Oper} {i : Nat} {rest : List Nat} {o : Oper} (hm : fr.mode = .run) (ht : fr.todo = .inRegion ops (i :: rest) :: k) (ho : ops[i]? = some o) (hw : Region.wanted o (yielded ops fr.tmps) = false) :
  step P (lone fr cs w) = .next (lone (fr.finish undef) cs w) :=
 step_lone_go (by cases fr; simp only at hm ht; subst hm; subst ht; simp at hw; simp [stepG, stepG.exec, ho, hw])
theorem Gi {ops : Array Oper} {i : Nat} {rest : List Nat} {o : Oper} (hm : fr.mode = .run) (ht : fr.todo = .inRegion ops (i :: rest) :: k) (ho : ops[i]? = some o) (hw : Region.wanted o (yielded ops fr.tmps) = true)
  (hd : fr.roundOf = none ∨ ∀ c, o.op ≠ .defer c) :
  stepG P true { frame := fr, callers := cs, status := .running, dying := none } w = stepG.apply P true fr cs none (execOp fr.eval o) w := by
 cases fr;simp only at hm ht hd;subst hm; subst ht;simp at hw;rcases hd with hd | hd
 ·subst hd;simp [stepG, stepG.exec, stepG.oper, Frame.oper?, ho, hw]
 ·simp only [stepG, stepG.exec, ho, Option.map_some, hw, Option.getD_some, if_true, stepG.oper, Frame.oper?];split
  ·rename_i c heq; exact absurd heq (hd c)
  ·rfl
theorem Qy {ops : Array Oper} {i : Nat} {rest : List Nat} {o : Oper} {w' : World} {v : Value} (hm : fr.mode = .run) (ht : fr.todo = .inRegion ops (i :: rest) :: k) (ho : ops[i]? = some o) (hw : Region.wanted o (yielded ops fr.tmps) = true)
  (hd : fr.roundOf = none ∨ ∀ c, o.op ≠ .defer c) (hrun : (execOp fr.eval o).run P w = .ok (.value v) w' ∨ ((execOp fr.eval o).run P w = .ok .skip w' ∧ v = undef)) :
  step P (lone fr cs w) = .next (lone (fr.finish v) cs w') := by
 refine step_lone_go ?_;rw [Gi hm ht ho hw hd];rcases hrun with hrun | ⟨hrun, rfl⟩ <;> simp [stepG.apply, hrun]
theorem OV {ops : Array Oper} {i : Nat} {rest : List Nat} {o : Oper} {f : FuncId} {args : Array Value} {w' : World} (hm : fr.mode = .run) (ht : fr.todo = .inRegion ops (i :: rest) :: k) (ho : ops[i]? = some o) (hw : Region.wanted o (yielded ops fr.tmps) = true)
  (hd : fr.roundOf = none ∨ ∀ c, o.op ≠ .defer c) (hrun : (execOp fr.eval o).run P w = .ok (.enter f args) w') : step P (lone fr cs w) = .next (lone (Frame.enter P f args .normal) (fr :: cs) w') := by
 refine step_lone_go ?_;rw [Gi hm ht ho hw hd];simp [stepG.apply, hrun, ht]
theorem S5 {ops : Array Oper} {i : Nat} {rest : List Nat} {o : Oper} {l : Nat} {f : FuncId} {tmps : Array Value} {assign body : Code} {w' : World} (hm : fr.mode = .run) (ht : fr.todo = .inRegion ops (i :: rest) :: k) (ho : ops[i]? = some o) (hw : Region.wanted o (yielded ops fr.tmps) = true)
  (hd : fr.roundOf = none ∨ ∀ c, o.op ≠ .defer c) (hrun : (execOp fr.eval o).run P w = .ok (.round l f tmps assign body) w') : step P (lone fr cs w) = .next (lone (Frame.round l f tmps assign body .normal) (fr :: cs) w') := by
 refine step_lone_go ?_;rw [Gi hm ht ho hw hd];simp [stepG.apply, hrun]
theorem Lm {l : Nat} {w' : World} (hm : fr.mode = .run) (ht : fr.todo = .beginRound :: k) (hr : fr.roundOf = some l) (hrun : (Instr.beginRound l).run P w = .ok () w') :
  step P (lone fr cs w) = .next (lone { fr with todo := k } cs w') := by
 refine step_lone_go ?_;cases fr;simp only at hm ht hr;subst hm; subst ht; subst hr;simp [stepG, stepG.exec, stepG.apply, hrun, Frame.finish]
theorem Qw {l : Nat} {w' : World} {jump : Option Code} (hm : fr.mode = .run) (ht : fr.todo = .endRangeFunc l :: k) (hrun : (Instr.endLoop l).run P w = .ok jump w') :
  step P (lone fr cs w) = .next (lone { fr with todo := (jump.map Item.code).toList ++ k } cs w') := by
 refine step_lone_go ?_;cases fr;simp only at hm ht;subst hm; subst ht;simp [stepG, stepG.exec, Sem.runT_eq, hrun]
theorem I1 {f : Operand} {params : Array Tmp} {assign body : Code} {l : Nat} {mark : List Deferred} {w' : World} (hm : fr.mode = .run) (ht : fr.todo = .code (.rangeFunc f params assign body) :: k)
  (hrun : (Instr.enterLoop fr.fn fr.tmps params assign body fr.roundOf).run P w = .ok (l, mark) w') :
  (stepG P true { frame := fr, callers := cs, status := .running, dying := none } w).bare =
  (stepG.apply P true { fr with todo := .inRangeFunc l :: k, defers := mark ++ fr.defers } cs none (do let d ← resolve fr.eval { callee := .value f, args := #[.const (.func (.yield l) #[] #[])], argTypes := #[] } 0; invoke d.target d.args) w').bare := by
 cases fr;simp only at hm ht hrun;subst hm; subst ht;simp only [stepG, stepG.exec, Sem.runT_eq, hrun, GStep.bare_after]
 congr 2
theorem W6 {d : Deferred} {ds : List Deferred} {f : FuncId} {args : Array Value} {w' : World} (hm : fr.mode ≠ .run) (hd : fr.defers = d :: ds) (hc : ∀ b, d.target ≠ .collected b) (hn : d.target ≠ .nil)
  (hrun : (invoke d.target d.args).run P w = .ok (.enter f args) w') : step P (lone fr cs w) = .next (lone (Frame.enter P f args .deferred) ({ fr with defers := ds } :: cs) w') := by
 refine step_lone_go ?_;cases fr with | mk fn tmps todo defers mode kind roundOf =>
 cases d with | mk target dargs =>
 simp only at hm hd hc hn hrun;subst hd;cases mode with
 | run => exact absurd rfl hm
 | returning => cases target <;> first | exact absurd rfl hn | exact absurd rfl (hc _) | simp [stepG, unwind, callDeferred, Sem.runT_eq, hrun]
 | panicking ch => cases target <;> first | exact absurd rfl hn | exact absurd rfl (hc _) | simp [stepG, unwind, callDeferred, Sem.runT_eq, hrun]
theorem Td {b : Nat} {args : Array Value} {ds l : List Deferred} {w' : World} (hm : fr.mode ≠ .run) (hd : fr.defers = { target := .collected b, args } :: ds)
  (hrun : (Instr.takeDeferred b).run P w = .ok l w') : step P (lone fr cs w) = .next (lone { fr with defers := l ++ ds } cs w') := by
 refine step_lone_go ?_;cases fr with | mk fn tmps todo defers mode kind roundOf =>
 simp only at hm hd;subst hd;cases mode with
 | run => exact absurd rfl hm
 | returning => simp [stepG, unwind, Sem.runT_eq, hrun]
 | panicking ch => simp [stepG, unwind, Sem.runT_eq, hrun]
end
end Go.AE
namespace Go.AE
section
variable [U : Vals]
inductive IR (ρ : Ren) : AI → Item → Prop
 | code (c : Code) : IR ρ (.code c) (.code c)
 | inBlock (id : Nat) : IR ρ (.inBlock id) (.inBlock id)
 | inLoop (b : Code) : IR ρ (.inLoop b) (.inLoop b)
 | inScope (b : Code) : IR ρ (.inScope b) (.inScope b)
 | ops (all : Array Oper) (rest : List Oper) (idx : List Nat) (h : rest.map some = idx.map fun i => all[i]?) : IR ρ (.ops all rest) (.inRegion all idx)
 | inRange (l : Nat) (base : C0) (h : ρ l = some base) : IR ρ (.inRange l) (.inRangeFunc base.cb)
 | endRange (l : Nat) (base : C0) (h : ρ l = some base) : IR ρ (.endRange l) (.endRangeFunc base.cb)
 | beginRound : IR ρ .beginRound .beginRound
 | dead (all : Array Oper) (idx : List Nat) : IR ρ .dead (.inRegion all idx)
inductive IL (ρ : Ren) : List AI → List Item → Prop
 | nil : IL ρ [] []
 | cons {a : AI} {x : Item} {l : List AI} {l' : List Item} (h : IR ρ a x) (k : IL ρ l l') : IL ρ (a :: l) (x :: l')
 | rest : IL ρ [.rest] U.R
def CL (ρ : Ren) : List (AV × Bool) → List PanicEntry → Prop
 | [], [] => True
 | a :: r, e :: r' => VR ρ a.1 e.v ∧ e.recovered = a.2 ∧ e.goexit = false ∧ CL ρ r r'
 | _, _ => False
inductive MR (ρ : Ren) : HP → FrameMode → Prop
 | run : MR ρ .run .run
 | ret : MR ρ .ret .returning
 | panic (ch : List (AV × Bool)) (ch' : List PanicEntry) (h : CL ρ ch ch') : MR ρ (.panic ch) (.panicking ch')
def RR (ρ : Ren) : Option Nat → Option Nat → Prop
 | none, none => True
 | some l, some c => ∃ base, ρ l = some base ∧ c = base.cb
 | _, _ => False
structure FrR (ρ : Ren) (f : AF) (c : Frame) : Prop where
 fn : c.fn = f.fn
 tm : TR ρ f.nt f.tmps c.tmps
 todo : IL ρ f.todo c.todo
 defers : DL ρ f.defers c.defers
 mode : MR ρ f.mode c.mode
 kind : c.kind = f.kind
 round : RR ρ f.round c.roundOf
inductive FrL (ρ : Ren) : List AF → List Frame → Prop
 | nil : FrL ρ [] []
 | cons {f : AF} {c : Frame} {l : List AF} {l' : List Frame} (h : FrR ρ f c) (k : FrL ρ l l') : FrL ρ (f :: l) (c :: l')
theorem IR.mono {ρ σ : Ren} (hle : ρ.le σ) {a : AI} {x : Item} (h : IR ρ a x) : IR σ a x := by
 cases h with
 | code c => exact .code c
 | inBlock id => exact .inBlock id
 | inLoop b => exact .inLoop b
 | inScope b => exact .inScope b
 | ops all rest idx h => exact .ops all rest idx h
 | inRange l base h => exact .inRange l base (hle.m _ _ h)
 | endRange l base h => exact .endRange l base (hle.m _ _ h)
 | beginRound => exact .beginRound
 | dead all idx => exact .dead all idx
theorem IL.mono {ρ σ : Ren} (hle : ρ.le σ) {a : List AI} {x : List Item} (h : IL ρ a x) : IL σ a x := by
 induction h with
 | nil => exact .nil
 | cons h _ ih => exact .cons (h.mono hle) ih
 | rest => exact .rest
theorem CL.mono {ρ σ : Ren} (hle : ρ.le σ) : ∀ {l : List (AV × Bool)} {l' : List PanicEntry}, CL ρ l l' → CL σ l l'
 | [], [], _ => trivial
 | _ :: _, _ :: _, ⟨h1, h2, h3, h4⟩ => ⟨h1.mono hle, h2, h3, h4.mono hle⟩
theorem MR.mono {ρ σ : Ren} (hle : ρ.le σ) {a : HP} {x : FrameMode} (h : MR ρ a x) : MR σ a x := by
 cases h with
 | run => exact .run
 | ret => exact .ret
 | panic ch ch' h => exact .panic ch ch' (h.mono hle)
theorem RR.mono {ρ σ : Ren} (hle : ρ.le σ) {a x : Option Nat} (h : RR ρ a x) : RR σ a x := by
 cases a <;> cases x <;> simp only [RR] at h ⊢
 obtain ⟨base, h1, h2⟩ := h;exact ⟨base, hle.m _ _ h1, h2⟩
theorem FrR.mono {ρ σ : Ren} (hle : ρ.le σ) {f : AF} {c : Frame} (h : FrR ρ f c) : FrR σ f c :=
 ⟨h.fn, h.tm.mono hle, h.todo.mono hle, h.defers.mono hle, h.mode.mono hle, h.kind, h.round.mono hle⟩
theorem FrL.mono {ρ σ : Ren} (hle : ρ.le σ) {f : List AF} {c : List Frame} (h : FrL ρ f c) : FrL σ f c := by
 induction h with
 | nil => exact .nil
 | cons h _ ih => exact .cons (h.mono hle) ih
end
variable [U : Unk]
theorem FrR.evR {ρ : Ren} {f : AF} {c : Frame} (h : FrR ρ f c) : EvR ρ f.tmps c.eval := by
 intro o;have := JI h.tm o;cases o <;> exact this
theorem TR.put {ρ : Ren} {nt : Nat} {t : T AV} {a : Array Value} (h : TR ρ nt t a) {d : Nat} {v : AV} {v' : Value} (hd : d < nt) (hv : VR ρ v v') : TR ρ nt (t.set d v) (a.setIfInBounds d v') := by
 refine ⟨by simp [h.size], fun i x hx => ?_⟩
 rw [T.get_set] at hx;by_cases e : d = i
 ·subst e;rw [if_pos rfl] at hx;cases hx;have : d < a.size := by rw [h.size]; exact hd
  simpa [Array.getD_eq_getD_getElem?, this] using hv
 ·rw [if_neg e] at hx;have := h.get i x hx;simpa [Array.getD_eq_getD_getElem?, Array.getElem?_setIfInBounds_ne e] using this
def HK (a : Array Value) (dst : Option Tmp) (v : Value) : Array Value := match dst with | some d => a.setIfInBounds d v | none => a
theorem VS {ρ : Ren} {nt : Nat} {t t' : T AV} {a : Array Value} (h : TR ρ nt t a) {dst : Option Tmp} {v : AV} {v' : Value} (hp : J0 nt t dst v = some t') (hv : VR ρ v v') :
  TR ρ nt t' (HK a dst v') := by
 cases dst with
 | none => simp only [J0, Option.some.injEq] at hp; subst hp; exact h
 | some d =>
  simp only [J0] at hp;cases hb : Nat.blt d nt with
  | false => rw [hb] at hp; cases hp
  | true =>
   rw [hb] at hp;simp only [Option.some.injEq] at hp;subst hp;exact h.put (by simpa [Nat.blt_eq] using hb) hv
theorem VR.not_bool {ρ : Ren} {a : AV} {v : Value} (h : VR ρ a v) (h1 : ∀ b, a ≠ .bool b) (h2 : a ≠ .top) (h3 : ∀ p e, a ≠ .sb p e) (b : Bool) : v ≠ .bool b := by
 cases h with
 | sb p e => exact absurd rfl (h3 p e)
 | top v => exact absurd rfl h2
 | bool c => exact absurd rfl (h1 c)
 | _ => exact fun e => by cases e
theorem Cz {ρ : Ren} {nt : Nat} {t : T AV} {a : Array Value} (h : TR ρ nt t a) {all : Array Oper} {o : Oper} {b : Bool} (hw : Dj all o t = some b) : Region.wanted o (yielded all a) = b := by
 unfold Dj at hw;unfold Region.wanted;cases hg : o.guard with
 | none => rw [hg] at hw; simpa using hw
 | some p =>
  obtain ⟨j, want⟩ := p;rw [hg] at hw;simp only at hw ⊢;unfold yielded;have ha : all[j]? = all.toList[j]? := by simp
  rw [ha];cases hj : all.toList[j]? with
  | none => rw [hj] at hw; simp at hw ⊢; exact hw
  | some g =>
   rw [hj] at hw;simp only [Option.bind_some] at hw ⊢;cases hd : g.dst with
   | none => rw [hd] at hw; simp at hw ⊢; exact hw
   | some d =>
    rw [hd] at hw;simp only [Option.bind_some] at hw ⊢;cases ht : t.get d with
    | none => rw [ht] at hw; cases hw
    | some v =>
     rw [ht] at hw;have hv := h.get d v ht;rw [Array.getD_eq_getD_getElem?] at hv
     have hnb : (∀ b, v ≠ .bool b) → v ≠ .top → (∀ p e, v ≠ .sb p e) → ((match a[d]? with | some (.bool b) => some b | _ => none) == some want) = false := by
      intro h1 h2 h3;cases hx : a[d]? with
      | none => rfl
      | some x =>
       rw [hx] at hv;cases x with
       | bool c => exact absurd rfl (hv.not_bool h1 h2 h3 c)
       | _ => rfl
     cases v with
     | top => cases hw
     | sb p e =>
      simp only at hw;split at hw
      ·rename_i q hq;have he := Ay U.ok hq;simp only [Option.some.injEq] at hw;cases hx : a[d]? with
       | none => rw [hx] at hv; cases hv
       | some x =>
        rw [hx] at hv;cases hv;rw [he];simpa using hw
      ·cases hw
     | bool e =>
      simp only [Option.some.injEq] at hw;cases hx : a[d]? with
      | none => rw [hx] at hv; cases hv
      | some x =>
       rw [hx] at hv;cases hv;subst hw;simp
     | _ =>
      simp only [Option.some.injEq] at hw;subst hw;exact hnb (fun b e => by cases e) (fun e => by cases e) (fun p b e => by cases e)
end Go.AE
namespace Go.AE
variable [U : Unk]
theorem IL.ops_inv {ρ : Ren} {all : Array Oper} {o : Oper} {rest : List Oper} {k : List AI} {l : List Item} (h : IL ρ (.ops all (o :: rest) :: k) l) :
  ∃ i idx k', l = .inRegion all (i :: idx) :: k' ∧ all[i]? = some o ∧ rest.map some = idx.map (fun i => all[i]?) ∧ IL ρ k k' := by
 cases h with
 | cons h hk =>
  cases h with
  | ops all rest idx h =>
   cases idx with
   | nil => cases h
   | cons i idx =>
    simp only [List.map_cons, List.cons.injEq] at h;exact ⟨i, idx, _, rfl, h.1.symm, h.2, hk⟩
theorem Bx {ρ : Ren} {f f' : AF} {c : Frame} (h : FrR ρ f c) {v : AV} {v' : Value} (hf : Cr f v = some f') (hv : VR ρ v v') : FrR ρ f' (c.finish v') := by
 have htodo := h.todo;unfold Cr at hf;split at hf
 ·rename_i all o rest k ht;rw [ht] at htodo;obtain ⟨i, idx, k', e, ho, hm, hk⟩ := htodo.ops_inv;split at hf
  ·rename_i t hp;simp only [Option.some.injEq] at hf;subst hf;have := VS h.tm hp hv
   have ef : c.finish v' = { c with tmps := HK c.tmps o.dst v', todo := .inRegion all idx :: k' } := by
    simp only [Frame.finish, e, ho, Option.bind_some, HK];cases o.dst <;> rfl
   rw [ef];exact ⟨h.fn, this, .cons (.ops _ _ _ hm) hk, h.defers, h.mode, h.kind, h.round⟩
  ·cases hf
 ·rename_i l k ht;rw [ht] at htodo;simp only [Option.some.injEq] at hf;subst hf;generalize hl : c.todo = l' at htodo;cases htodo with
  | cons a hk =>
   cases a with
   | inRange l base hb =>
    simp only [Frame.finish, hl];exact ⟨h.fn, h.tm, .cons (.endRange _ _ hb) hk, h.defers, h.mode, h.kind, h.round⟩
 ·rename_i k ht;rw [ht] at htodo;simp only [Option.some.injEq] at hf;subst hf;generalize hl : c.todo = l' at htodo;cases htodo with
  | cons a hk =>
   cases a with
   | beginRound =>
    simp only [Frame.finish, hl];exact ⟨h.fn, h.tm, hk, h.defers, h.mode, h.kind, h.round⟩
 ·cases hf
theorem TR.ofArgs {ρ : Ren} {n : Nat} {args : List AV} {args' : List Value} (ha : VL ρ args args') : TR ρ (max n args.length) (.ofList args) (args'.toArray ++ Array.replicate (n - args'.toArray.size) undef) := by
 have hl := ha.1;refine ⟨by simp; omega, fun i x hx => ?_⟩
 rw [T.get_ofList] at hx;obtain ⟨v, hv, hvr⟩ := ha.get hx;have hi : i < args'.length := (List.getElem?_eq_some_iff.1 hv).1;rw [Array.getD_eq_getD_getElem?, Array.getElem?_append_left (by simpa using hi)]
 simpa [hv] using hvr
theorem C7 {E : Env} (hE : OK E) {ρ : Ren} {f : FuncId} {args : List AV} {args' : List Value} {kind : CallKind} {g : AF} (hg : Bu E f args kind = some g) (ha : VL ρ args args') :
  FrR ρ g (Frame.enter E.P f args'.toArray kind) := by
 unfold Bu at hg;split at hg
 ·rename_i fn hf;split at hg
  ·rename_i c hc;simp only [Option.some.injEq] at hg;subst hg
   have e : Frame.enter E.P f args'.toArray kind = { fn := f, tmps := args'.toArray ++ Array.replicate (fn.ntmps - args'.toArray.size) undef, todo := [.code c], defers := [], mode := .run, kind } := by
    simp [Frame.enter, hE.fn f fn hf, hc]
   rw [e];exact ⟨rfl, TR.ofArgs ha, .cons (.code c) .nil, trivial, .run, rfl, trivial⟩
  ·cases hg
 ·cases hg
theorem HY {ρ : Ren} {nt : Nat} : ∀ {ps : List Tmp} {t t' : T AV} {tm : Array Value} {args : List AV} {args' : List Value}, TR ρ nt t tm → VL ρ args args' → EK nt t ps args = some t' →
  args'.length = ps.length ∧ TR ρ nt t' ((ps.zip args').foldl (fun tmps x => tmps.setIfInBounds x.1 x.2) tm)
 | [], t, t', tm, [], args', h, ha, hs => by
  cases ha.nil_inv;simp only [EK, Option.some.injEq] at hs;subst hs;exact ⟨rfl, h⟩
 | [], t, t', tm, _ :: _, args', h, ha, hs => by cases hs
 | _ :: _, t, t', tm, [], args', h, ha, hs => by cases hs
 | p :: ps, t, t', tm, a :: as, args', h, ha, hs => by
  obtain ⟨v, r, rfl, h1, h2⟩ := ha.cons_inv;simp only [EK] at hs;cases hb : Nat.blt p nt with
  | false => rw [hb] at hs; cases hs
  | true =>
   rw [hb] at hs;obtain ⟨q1, q2⟩ := HY (h.put (by simpa [Nat.blt_eq] using hb) h1) h2 hs
   exact ⟨by simp [q1], q2⟩
theorem Mo {E : Env} {ρ : Ren} {h : Aa} {w : World} (hr : HR ρ h.blk.get w) {l : Nat} {base : C0} {args : List AV} {args' : List Value} {g : AF} (hb : ρ l = some base) (hg : FqQ l args h = some g) (ha : VL ρ args args') :
  ∃ fn tm assign body, (Instr.yield base.cb args'.toArray).run E.P w = .ok (.round base.cb fn tm assign body) w ∧ FrR ρ g (Frame.round base.cb fn tm assign body .normal) := by
 unfold FqQ at hg;split at hg
 ·rename_i st pending fn nt tmps params assign body d hl;split at hg
  ·rename_i t hs;simp only [Option.some.injEq] at hg;subst hg;obtain ⟨tm, bd, h1, h2, h3⟩ := hr.blk l base _ hb hl;obtain ⟨q1, q2⟩ := HY h2 ha hs;refine ⟨fn, _, assign, body, ?_, ⟨rfl, q2, .cons (.code _) (.cons .beginRound (.cons (.code _) .nil)), trivial, .run, rfl, ⟨base, hb, rfl⟩⟩⟩;have hgo := A0 E.P h3 (fun _ _ _ e => by cases e)
   simp only [Instr.yield, Instr.getLoop, Sem.run_bind, hgo, Result.andThen_ok, Sem.run_pure];simp [q1]
  ·cases hg
 ·cases hg
end Go.AE
namespace Go.AE
section
variable [U : Vals]
structure SR (ρ : Ren) (s : AS) (cf : Frame) (ccs : List Frame) (w : World) : Prop where
 fr : FrR ρ s.fr cf
 cs : FrL ρ s.cs ccs
 h : HR ρ s.h.blk.get w
end
variable [U : Unk]
def AT (P : Program) (base : List Frame) (ρ : Ren) (h : Aa) (fr0 : Frame) (ccs : List Frame) (w0 w : World) (s' : AS) : Prop :=
 ∃ σ cf' ccs' w', step P (lone fr0 (ccs ++ base) w0) = .next (lone cf' (ccs' ++ base) w') ∧ SR σ s' cf' ccs' w' ∧ Ext ρ σ h s'.h w w'
theorem IL.not_call {ρ : Ren} {l : List AI} {l' : List Item} (h : IL ρ l l') (d : Deferred) (b : Bool) (r : String) (a : Array Value) (k : List Item) : l' ≠ .call d b r a :: k := by
 intro e;cases h with
 | nil => cases e
 | cons h _ => cases e; cases h
 | rest => exact U.hR _ _ _ _ _ e
section
variable {E : Env} (hE : OK E) {ρ : Ren} {h : Aa} {w w0 : World} {fr0 c : Frame} {f : AF} {cs : List AF} {ccs base : List Frame} {s : Sem Next} {r : Res} {s' : AS}
include hE
theorem Mc (hst : (stepG E.P true { frame := fr0, callers := ccs ++ base, status := .running, dying := none } w0).bare = (stepG.apply E.P true c (ccs ++ base) none s w).bare)
  (hd : Et E ρ h w s r) (hr : HR ρ h.blk.get w) (hf : FrR ρ f c) (hcs : FrL ρ cs ccs) (hm : c.mode = .run) (hx : BV E f cs r = .next s') (hfree : A9 ρ h.nx s'.h.nx) :
  AT E.P base ρ h fr0 ccs w0 w s' := by
 cases r with
 | val v h' =>
  simp only [BV] at hx;split at hx
  ·rename_i f' hff;cases hx;obtain ⟨σ, v', w', q1, q2, q3, q4⟩ := hd hfree;refine ⟨σ, c.finish v', ccs, w', step_lone_go ?_, ⟨Bx (hf.mono q4.le) hff q2, hcs.mono q4.le, q3⟩, q4⟩;rw [hst];rcases q1 with q1 | ⟨q1, rfl⟩ <;> simp [stepG.apply, q1]
  ·cases hx
 | enter g args h' =>
  obtain ⟨rfl, args', ha, hrun⟩ := hd;simp only [BV] at hx;split at hx
  ·rename_i g' hg;cases hx;refine ⟨ρ, _, c :: ccs, w, step_lone_go ?_, ⟨C7 hE hg ha, .cons hf hcs, hr⟩, Ext.refl _ _ _⟩;rw [hst];have ht := hf.todo;simp only [stepG.apply, Sem.runT_eq, hrun, if_true, GStep.bare_after, GStep.bare_go, List.cons_append];generalize c.todo = td at ht;generalize f.todo = fd at ht;cases ht with
   | nil => rfl
   | cons a _ => cases a <;> rfl
   | rest =>
    generalize hq : U.R = r;cases r with
    | nil => rfl
    | cons x k => cases x <;> first | rfl | exact absurd hq (U.hR _ _ _ _ _)
  ·cases hx
 | round l args h' =>
  obtain ⟨rfl, lb, args', hb, ha, hrun⟩ := hd;simp only [BV] at hx;split at hx
  ·rename_i g' hg;cases hx;obtain ⟨fn, tm, assign, body, q1, q2⟩ := Mo (E := E) hr hb hg ha;refine ⟨ρ, _, c :: ccs, w, step_lone_go ?_, ⟨q2, .cons hf hcs, hr⟩, Ext.refl _ _ _⟩;rw [hst];simp [stepG.apply, hrun, q1]
  ·cases hx
 | defer d h' =>
  obtain ⟨rfl, d', hdr, hrun⟩ := hd;simp only [BV] at hx;split at hx
  ·cases hx
  ·split at hx
   ·rename_i f' hff;cases hx;have hfin := Bx hf hff (VR.undef ρ);refine ⟨ρ, { c with defers := d' :: c.defers }.finish undef, ccs, w, step_lone_go ?_, ⟨?_, hcs, hr⟩, Ext.refl _ _ _⟩
    ·rw [hst];simp [stepG.apply, hrun]
    ·have e : ({ c with defers := d' :: c.defers } : Frame).finish undef = { c.finish undef with defers := d' :: (c.finish undef).defers } := by
      unfold Frame.finish;simp only;split <;> rfl
     rw [e];exact ⟨hfin.fn, hfin.tm, hfin.todo, ⟨hdr, hfin.defers⟩, hfin.mode, hfin.kind, hfin.round⟩
   ·cases hx
 | recover h' =>
  obtain ⟨rfl, hrun⟩ := hd;simp only [BV] at hx;split at hx
  ·rename_i a rest hround hkind;have hk : c.kind = .deferred := hf.kind.trans hkind
   have hro : c.roundOf = none := by
    have := hf.round;rw [hround] at this;cases hc : c.roundOf with
    | none => rfl
    | some l => rw [hc] at this; exact this.elim
   cases hcs with
   | cons ha hrest =>
    rename_i cc crest;have hmode := ha.mode;split at hx
    ·rename_i v older hma;split at hx
     ·rename_i f' hff;cases hx;rw [hma] at hmode;generalize hcm : cc.mode = cm at hmode;cases hmode with
      | panic _ ch' hch =>
       cases ch' with
       | nil => exact hch.elim
       | cons e older' =>
        obtain ⟨h1, h2, h3, h4⟩ := hch;obtain ⟨ev, er, eg⟩ := e;simp only at h1 h2 h3;subst h2; subst h3;refine ⟨ρ, c.finish ev, { cc with mode := .panicking ({ v := ev, recovered := true } :: older') } :: crest, w, step_lone_go ?_, ⟨Bx hf hff h1, .cons ⟨ha.fn, ha.tm, ha.todo, ha.defers, .panic _ _ ⟨h1, rfl, rfl, h4⟩, ha.kind, ha.round⟩ hrest, hr⟩, Ext.refl _ _ _⟩
        rw [hst];simp [stepG.apply, hrun, hro, tryRecover, hk, hcm]
     ·cases hx
    ·rename_i hne;split at hx
     ·rename_i f' hff;cases hx;refine ⟨ρ, c.finish .nilIface, cc :: crest, w, step_lone_go ?_, ⟨Bx hf hff .nilIface, .cons ha hrest, hr⟩, Ext.refl _ _ _⟩;rw [hst]
      have : tryRecover c (cc :: (crest ++ base)) = none := by
       have hno : ∀ v older, cc.mode ≠ .panicking ({ v, recovered := false, goexit := false } :: older) := by
        intro v older he;rw [he] at hmode;generalize ham : a.mode = am at hmode;cases hmode with
        | panic ch _ hch =>
         cases ch with
         | nil => exact hch.elim
         | cons x r =>
          obtain ⟨xv, xb⟩ := x;obtain ⟨h1, h2, h3, h4⟩ := hch;simp only at h2;subst h2;exact hne _ _ ham
       simp only [tryRecover, hk]
      simp [stepG.apply, hrun, hro, this]
     ·cases hx
  ·cases hx
 | panic v h' =>
  obtain ⟨rfl, v', hv, hrun⟩ := hd;simp only [BV] at hx;split at hx
  ·cases hx;refine ⟨ρ, { c with mode := .panicking [{ v := v', recovered := false }] }, ccs, w, step_lone_go ?_, ⟨⟨hf.fn, hf.tm, hf.todo, hf.defers, .panic _ _ ⟨hv, rfl, rfl, trivial⟩, hf.kind, hf.round⟩, hcs, hr⟩, Ext.refl _ _ _⟩
   rw [hst];simp [stepG.apply, hrun, Frame.raise, hm]
  ·cases hx
 | bad y => cases hx
end
end Go.AE
namespace Go.AE
variable [U : Unk]
theorem Li {ρ : Ren} {id : Nat} {k : List AI} {k' : List Item} (h : IL ρ k k') : (∀ r, L8 id k = some r → ∃ r', exitTo id k' = some r' ∧ IL ρ r r') ∧ (L8 id k = none → Hq k = false → exitTo id k' = none) := by
 induction h with
 | nil => exact ⟨(fun r h => by cases h), fun _ _ => rfl⟩
 | rest => exact ⟨(fun r h => by cases h), (fun _ h => by cases h)⟩
 | cons h hk ih =>
  cases h with
  | inBlock i =>
   simp only [L8, exitTo];cases hb : Nat.beq i id with
   | true =>
    have := AA hb;subst this;exact ⟨fun r hr => ⟨_, if_pos (by simp), by cases hr; exact hk⟩, (fun hr _ => by cases hr)⟩
   | false =>
    have hne : (i == id) = false := by simpa using Tj hb
    rw [hne];exact ih
  | _ => exact ih
theorem JO {ρ : Ren} {l : Nat} {k : List AI} {k' : List Item} (h : IL ρ k k') : (∀ r, L3 l k = some r → ∃ r', gotoIn l k' = some r' ∧ IL ρ r r') ∧ (L3 l k = none → Hq k = false → gotoIn l k' = none) := by
 induction h with
 | nil => exact ⟨(fun r h => by cases h), fun _ _ => rfl⟩
 | rest => exact ⟨(fun r h => by cases h), (fun _ h => by cases h)⟩
 | cons h hk ih =>
  cases h with
  | inScope b =>
   simp only [L3, gotoIn];cases hb : findLabel b l with
   | some rest => exact ⟨fun r hr => ⟨_, rfl, by cases hr; exact .cons (.code _) (.cons (.inScope _) hk)⟩, (fun hr _ => by cases hr)⟩
   | none => exact ih
  | _ => exact ih
theorem CL.calm {ρ : Ren} : ∀ {l : List (AV × Bool)} {l' : List PanicEntry}, CL ρ l l' → ∀ y ∈ l', y.goexit = false
 | [], [], _, y, hy => by cases hy
 | _ :: _, e :: r, ⟨h1, h2, h3, h4⟩, y, hy => by
  rcases List.mem_cons.1 hy with rfl | hy
  ·exact h3
  ·exact CL.calm h4 y hy
theorem NN : ∀ (l : List PanicEntry), (∀ y ∈ l, y.goexit = false) → l.dropWhile (!·.goexit) = []
 | [], _ => rfl
 | y :: r, h => by
  rw [List.dropWhile_cons_of_pos (by simp [h y (by simp)])]
  exact NN r fun z hz => h z (by simp [hz])
section
variable {E : Env} (hE : OK E) {ρ : Ren} {h : Aa} {w w0 : World} {fr0 c : Frame} {f : AF} {cs : List AF} {ccs base : List Frame} {s' : AS}
theorem GU {v : AV} {v' : Value} (hst : (stepG E.P true { frame := fr0, callers := ccs ++ base, status := .running, dying := none } w0).bare = (doReturn E.P true c (ccs ++ base) none v' w).bare)
  (hr : HR ρ h.blk.get w) (hk : c.kind = f.kind) (hcs : FrL ρ cs ccs) (hv : VR ρ v v') (hx : DE f cs v h = .next s') : AT E.P base ρ h fr0 ccs w0 w s' := by
 unfold DE at hx;cases hcs with
 | nil =>
  simp only at hx;split at hx <;> cases hx
 | cons ha hrest =>
  rename_i a cc rest crest;simp only at hx;split at hx
  ·rename_i hkind;split at hx
   ·rename_i c' hff;cases hx;refine ⟨ρ, _, crest, w, step_lone_go ?_, ⟨Bx ha hff hv, hrest, hr⟩, Ext.refl _ _ _⟩;rw [hst];simp [doReturn, hk, hkind]
   ·cases hx
  ·rename_i hkind;have hmode := ha.mode;split at hx
   ·rename_i x older hma;cases hx;rw [hma] at hmode;generalize hcm : cc.mode = cm at hmode;cases hmode with
    | panic _ ch' hch =>
     cases ch' with
     | nil => exact hch.elim
     | cons e older' =>
      have hcalm := hch.calm;obtain ⟨h1, h2, h3, h4⟩ := hch;obtain ⟨ev, er, eg⟩ := e;simp only at h1 h2 h3;subst h2; subst h3;refine ⟨ρ, { cc with mode := .returning }, crest, w, step_lone_go ?_, ⟨⟨ha.fn, ha.tm, ha.todo, ha.defers, .ret, ha.kind, ha.round⟩, hrest, hr⟩, Ext.refl _ _ _⟩
      rw [hst];simp [doReturn, hk, hkind, hcm, NN older' fun y hy => hcalm y (by simp [hy])]
   ·rename_i hne;cases hx;refine ⟨ρ, _, crest, w, step_lone_go ?_, ⟨ha, hrest, hr⟩, Ext.refl _ _ _⟩;rw [hst]
    have hno : ∀ x g older, cc.mode ≠ .panicking ({ v := x, recovered := true, goexit := g } :: older) := by
     intro x g older he;rw [he] at hmode;generalize ham : a.mode = am at hmode;cases hmode with
     | panic ch _ hch =>
      cases ch with
      | nil => exact hch.elim
      | cons x r =>
       obtain ⟨xv, xb⟩ := x;obtain ⟨h1, h2, h3, h4⟩ := hch;simp only at h2;subst h2;exact hne _ _ ham
    simp only [List.cons_append, doReturn, hk, hkind, GStep.bare_go]
  ·cases hx
include hE
theorem FG (hr : HR ρ h.blk.get w) (hf : FrR ρ f c) : ∀ {rs : List ResultVar} {l : List AV}, Cj E f h rs = some l →
  ∃ l' : List Value, VL ρ l l' ∧ (rs.mapM fun | .tmp t => pure (c.tmps.getD t undef) | .cell a t => do loadVar t (← asAddr (c.tmps.getD a undef)) : Sem (List Value)).run E.P w = .ok l' w
 | [], l, hs => by
  simp only [Cj, Option.some.injEq] at hs;subst hs;exact ⟨[], VL.nil ρ, by simp⟩
 | .tmp t :: r, l, hs => by
  simp only [Cj] at hs;cases hq : Cj E f h r with
  | none => rw [hq] at hs; cases hs
  | some l1 =>
   rw [hq] at hs;simp only [Option.some.injEq] at hs;subst hs;obtain ⟨l', q1, q2⟩ := FG hr hf hq;refine ⟨c.tmps.getD t undef :: l', VL.cons ?_ q1, ?_⟩
   ·cases hg : f.tmps.get t with
    | none => exact .top _
    | some a => exact hf.tm.get t a hg
   ·simp only [List.mapM_cons, Sem.run_bind, Sem.run_pure, Result.andThen_ok, q2]
 | .cell a t :: r, l, hs => by
  simp only [Cj] at hs;cases hg : f.tmps.get a with
  | none => rw [hg] at hs; cases hs
  | some p =>
   rw [hg] at hs;simp only at hs;cases hl : NI E t p h with
   | none => rw [hl] at hs; cases hs
   | some v =>
    cases hq : Cj E f h r with
    | none => rw [hl, hq] at hs; cases hs
    | some l1 =>
     rw [hl, hq] at hs;simp only [Option.some.injEq] at hs;subst hs;obtain ⟨l', q1, q2⟩ := FG hr hf hq;have hp := hf.tm.get a p hg;obtain ⟨v', p1, p2⟩ := N1 hE hr hp hl;refine ⟨v' :: l', VL.cons p2 q1, ?_⟩
     have : (do loadVar t (← asAddr (c.tmps.getD a undef)) : Sem Value).run E.P w = .ok v' w := by
      generalize c.tmps.getD a undef = x at p1 hp;cases x with
      | pointer o => cases o with
       | none => simp [Instr.loadAt, Instr.sureAddr, stuck] at p1
       | some y => simpa [Instr.loadAt, Instr.sureAddr, asAddr] using p1
      | _ => simp [Instr.loadAt, Instr.sureAddr, stuck] at p1
     simp only [List.mapM_cons, Sem.run_bind, Sem.run_pure] at this ⊢;rw [this];simp only [Result.andThen_ok, q2]
theorem EU (hr : HR ρ h.blk.get w) (hf : FrR ρ f c) {fn : Func} {l : List AV} (hs : Cj E f h fn.results.toList = some l) :
  ∃ v', (results fn c.tmps).run E.P w = .ok v' w ∧ (∀ a, l = [a] → VR ρ a v') ∧ ((∀ a, l ≠ [a]) → VR ρ (.tuple l) v') := by
 obtain ⟨l', q1, q2⟩ := FG hE hr hf hs;unfold results;rw [Array.mapM_eq_mapM_toList];simp only [Sem.run_bind, Sem.run_map, Sem.run_pure];refine ⟨if h : l'.toArray.size = 1 then l'.toArray[0] else .tuple l'.toArray, ?_, ?_, ?_⟩
 ·have key : ∀ R : Result (List Value), R = .ok l' w → ((R.andThen fun a w' => Result.ok a.toArray w').andThen fun a w' => Result.ok (if h : a.size = 1 then a[0] else Value.tuple a) w') =
    Result.ok (if h : l'.toArray.size = 1 then l'.toArray[0] else Value.tuple l'.toArray) w := by rintro _ rfl; rfl
  refine key _ ?_;rw [← q2]
  congr 2
 ·rintro a rfl
  obtain ⟨v, r, rfl, h1, h2⟩ := q1.cons_inv;cases h2.nil_inv;simpa using h1
 ·intro hne
  have : l'.toArray.size ≠ 1 := by
   intro he;have hl := q1.1;simp only [List.size_toArray] at he;rw [he] at hl;obtain ⟨a, rfl⟩ := List.length_eq_one_iff.1 hl;exact hne a rfl
  rw [dif_neg this];exact .tuple _ _ q1.1 q1.2
end
end Go.AE
namespace Go.AE
variable [U : Unk]
theorem AT.pre {P : Program} {base : List Frame} {ρ σ : Ren} {h h1 : Aa} {fr0 : Frame} {ccs : List Frame} {w0 w w1 : World} {s' : AS} (e : Ext ρ σ h h1 w w1) (st : AT P base σ h1 fr0 ccs w0 w1 s') (hf : A9 ρ h.nx s'.h.nx) :
  AT P base ρ h fr0 ccs w0 w s' := by
 obtain ⟨τ, cf', ccs', w', q1, q2, q3⟩ := st;exact ⟨τ, cf', ccs', w', q1, q2, e.trans q3 hf⟩
section
variable {P : Program} {fr : Frame} {k : List Item} {cs : List Frame} {w : World}
theorem J9 {l : Nat} {jump : Option Code} {w' : World} {v : Value} (hm : fr.mode = .run) (hr : fr.roundOf = some l)
  (ht : (fr.todo = [] ∧ jump = none) ∨ (∃ k, fr.todo = .code .ret :: k ∧ jump = some .ret) ∨ (∃ id k, fr.todo = .code (.exit id) :: k ∧ exitTo id k = none ∧ jump = some (.exit id)) ∨ (∃ l k, fr.todo = .code (.goto l) :: k ∧ gotoIn l k = none ∧ jump = some (.goto l)))
  (hrun : (Instr.endRound l jump).run P w = .ok v w') : (stepG P true { frame := fr, callers := cs, status := .running, dying := none } w).bare = (doReturn P true fr cs none v w').bare := by
 rcases ht with ⟨ht, rfl⟩ | ⟨k, ht, rfl⟩ | ⟨id, k, ht, he, rfl⟩ | ⟨l', k, ht, he, rfl⟩ <;>
 (cases fr; simp only at hm ht hr; subst hm; subst ht; subst hr; simp [stepG, stepG.exec, Sem.runT_eq, *])
theorem HZ {v : Value} {fn : Func} (hm : fr.mode = .returning) (hd : fr.defers = []) (hf : P.funcs[fr.fn]? = some fn) (hr : (results fn fr.tmps).run P w = .ok v w) :
  (stepG P true { frame := fr, callers := cs, status := .running, dying := none } w).bare = (doReturn P true fr cs none v w).bare := by
 simp [stepG, unwind, hm, hd, hf, Sem.runT_eq, hr]
theorem cx {c : Frame} {EB : List PanicEntry} (hm : fr.mode = .panicking EB) (hd : fr.defers = []) (ht : ∀ d b r a k, fr.todo ≠ .call d b r a :: k) : step P (lone fr (c :: cs) w) = .next (lone (c.raise EB) cs w) := by
 have hc : fr.catches P = false := by
  unfold Frame.catches;split
  ·rename_i h1 h2; exact absurd h2 (ht _ _ _ _ _)
  ·rfl
 exact step_lone_go (by simp [stepG, unwind, hm, hd, hc])
end
section
variable {E : Env} (hE : OK E) {ρ : Ren} {h : Aa} {w : World} {c : Frame} {f : AF} {cs : List AF} {ccs base : List Frame} {s' : AS}
theorem IH (hr : HR ρ h.blk.get w) {l : Nat} {b : C0} {st : LoopState} {pending : Option Code} {fn : FuncId} {nt : Nat} {tmps : T AV} {params : List Tmp} {assign body : Code} {d : Nat} (hb : ρ l = some b)
  (hl : h.blk.get l = some (.loop st pending fn nt tmps params assign body d)) (jump : Option Code) :
  ∃ w', (Instr.endRound b.cb jump).run E.P w = .ok (.bool jump.isNone) w' ∧ HR ρ (h.put l (.loop (if jump.isNone then .ready else .done) jump fn nt tmps params assign body d)).blk.get w' ∧
   Ext ρ ρ h (h.put l (.loop (if jump.isNone then .ready else .done) jump fn nt tmps params assign body d)) w w' := by
 obtain ⟨tm, bd, h1, h2, h3⟩ := hr.blk l b _ hb hl;have hg := A0 E.P h3 (fun _ _ _ e => by cases e)
 obtain ⟨q1, q2⟩ := hr.setObj hb (by rw [hl]; exact fun e => by cases e) (.loop (if jump.isNone then .ready else .done) jump fn nt tmps params assign body d)
  (.loop { state := if jump.isNone then .ready else .done, pending := jump, fn := fn, tmps := tm, params := params.toArray, assign := assign, body := body, defers := bd.cb }) ⟨tm, bd, h1, h2, rfl⟩
 refine ⟨_, ?_, q1, q2⟩;have hs := fun o' => Bl (o' := o') E.P h3 (fun _ _ _ e => by cases e)
 simp only [Instr.endRound, Instr.getLoop, Sem.run_bind, hg, Result.andThen_ok, Sem.run_pure, hs]
theorem RR.none_inv {ρ : Ren} {x : Option Nat} (h : RR ρ none x) : x = none := by
 cases x with
 | none => rfl
 | some l => exact h.elim
theorem RR.some_inv {ρ : Ren} {l : Nat} {x : Option Nat} (h : RR ρ (some l) x) : ∃ b, ρ l = some b ∧ x = some b.cb := by
 cases x with
 | none => exact h.elim
 | some c => obtain ⟨b, h1, rfl⟩ := h; exact ⟨b, h1, rfl⟩
theorem F9 (hr : HR ρ h.blk.get w) (hf : FrR ρ f c) (hcs : FrL ρ cs ccs) (hm : c.mode = .run) {jump : Option Code}
  (ht : (c.todo = [] ∧ jump = none) ∨ (∃ k, c.todo = .code .ret :: k ∧ jump = some .ret) ∨ (∃ id k, c.todo = .code (.exit id) :: k ∧ exitTo id k = none ∧ jump = some (.exit id)) ∨ (∃ l k, c.todo = .code (.goto l) :: k ∧ gotoIn l k = none ∧ jump = some (.goto l)))
  (hx : El f cs h jump = .next s') (hfree : A9 ρ h.nx s'.h.nx) : AT E.P base ρ h c ccs w w s' := by
 have hround := hf.round;unfold El at hx;split at hx
 ·rename_i hrn;rw [hrn] at hround;have hro := hround.none_inv
  have hto : c.todo = [] ∨ ∃ k, c.todo = .code .ret :: k := by
   rcases ht with ⟨ht, _⟩ | ⟨k, ht, _⟩ | ⟨id, k, ht, he, rfl⟩ | ⟨l', k, ht, he, rfl⟩
   ·exact .inl ht
   ·exact .inr ⟨k, ht⟩
   ·cases hx
   ·cases hx
  have hs : s' = { fr := { f with mode := .ret }, cs, h } := by
   split at hx
   ·cases hx; rfl
   ·cases hx; rfl
   ·cases hx
  subst hs;exact ⟨ρ, _, ccs, w, YR hm hto hro, ⟨⟨hf.fn, hf.tm, hf.todo, hf.defers, .ret, hf.kind, hf.round⟩, hcs, hr⟩, Ext.refl _ _ _⟩
 ·rename_i l hrs;rw [hrs] at hround;obtain ⟨b, hb, hro⟩ := hround.some_inv;split at hx
  ·rename_i st pending fn nt tmps params assign body d hl;obtain ⟨w', q1, q2, q3⟩ := IH (E := E) hr hb hl jump;exact AT.pre q3 (GU (J9 hm hro ht q1) q2 hf.kind hcs (.bool _) hx) hfree
  ·cases hx
include hE
theorem Qh (hr : HR ρ h.blk.get w) (hf : FrR ρ f c) (hcs : FrL ρ cs ccs) (hm : c.mode ≠ .run) (hx : Fa E f cs h = .next s') : AT E.P base ρ h c ccs w w s' := by
 have hdef := hf.defers;unfold Fa at hx;split at hx
 ·rename_i d ds hfd;rw [hfd] at hdef;cases hcd : c.defers with
  | nil => rw [hcd] at hdef; exact hdef.elim
  | cons d' ds' =>
   rw [hcd] at hdef;obtain ⟨hdr, hds⟩ := hdef;unfold DR at hdr;split at hx
   ·rename_i hfn;rw [hfn] at hdr;obtain ⟨b, hb, rfl⟩ := hdr;split at hx
    ·rename_i l hl;cases hx;obtain ⟨l', q1, q2⟩ := hr.blk _ b _ hb hl;obtain ⟨p1, p2⟩ := hr.setObj hb (by rw [hl]; exact fun e => by cases e) (.deferred none) (.deferred none) rfl
     refine ⟨ρ, _, ccs, _, Td hm hcd ?_, ⟨⟨hf.fn, hf.tm, hf.todo, q1.append hds, hf.mode, hf.kind, hf.round⟩, hcs, p1⟩, p2⟩;have hg := A0 E.P q2 (fun _ _ _ e => by cases e)
     have hs := Bl (o' := .deferred none) E.P q2 (fun _ _ _ e => by cases e)
     simp only [Instr.takeDeferred, Sem.run_bind, hg, Result.andThen_ok, Sem.run_pure, hs]
    ·cases hx
   ·rename_i fn hfn;rw [hfn] at hdr;obtain ⟨fn', c', a', h1, h2, h3, rfl⟩ := hdr;have hi := DX hE hr h1 h2 h3;split at hx
    ·rename_i g args h' hiv;rw [hiv] at hi;obtain ⟨rfl, args', ha, hrun⟩ := hi;split at hx
     ·rename_i gf hg;cases hx;exact ⟨ρ, _, { c with defers := ds' } :: ccs, w, W6 hm hcd (fun b e => by cases e) (fun e => by cases e) hrun, ⟨C7 hE hg ha, .cons ⟨hf.fn, hf.tm, hf.todo, hds, hf.mode, hf.kind, hf.round⟩ hcs, hr⟩, Ext.refl _ _ _⟩
     ·cases hx
    ·cases hx
 ·rename_i hfd;rw [hfd] at hdef
  have hcd : c.defers = [] := by
   cases hcd : c.defers with
   | nil => rfl
   | cons d' ds' => rw [hcd] at hdef; exact hdef.elim
  have hmode := hf.mode;split at hx
  ·cases hx
  ·rename_i EB hfm;rw [hfm] at hmode;generalize hcm : c.mode = cm at hmode;cases hmode with
   | panic _ ch' hch =>
    cases hcs with
    | nil =>
     simp only at hx;split at hx
     ·split at hx <;> cases hx
     ·cases hx
    | cons ha hrest =>
     rename_i a cc rest crest;simp only at hx;split at hx
     ·rename_i ham;cases hx;have hamode := ha.mode;rw [ham] at hamode
      have hccm : cc.mode = .run := by
       generalize cc.mode = x at hamode;cases hamode; rfl
      refine ⟨ρ, _, crest, w, cx hcm hcd (fun d b r a k => hf.todo.not_call d b r a k), ⟨?_, hrest, hr⟩, Ext.refl _ _ _⟩
      have e : cc.raise ch' = { cc with mode := .panicking ch' } := by simp [Frame.raise, hccm]
      rw [e];exact ⟨ha.fn, ha.tm, ha.todo, ha.defers, .panic _ _ hch, ha.kind, ha.round⟩
     ·cases hx
  ·rename_i hfm;rw [hfm] at hmode
   have hcm : c.mode = .returning := by
    generalize c.mode = x at hmode;cases hmode; rfl
   split at hx
   ·rename_i fn hfn;have hfn' : E.P.funcs[c.fn]? = some fn := by rw [hf.fn]; exact hE.fn _ _ hfn
    split at hx
    ·rename_i v hrs;obtain ⟨v', p1, p2, p3⟩ := EU hE hr hf hrs;exact GU (HZ hcm hcd hfn' p1) hr hf.kind hcs (p2 _ rfl) hx
    ·rename_i l hne hrs;obtain ⟨v', p1, p2, p3⟩ := EU hE hr hf hrs;exact GU (HZ hcm hcd hfn' p1) hr hf.kind hcs (p3 fun a e => hne a (by rw [e])) hx
    ·cases hx
   ·cases hx
end
end Go.AE
namespace Go.AE
variable [U : Unk]
section
variable {E : Env} (hE : OK E) {ρ : Ren} {h : Aa} {w : World} {c : Frame} {f : AF} {cs : List AF} {ccs base : List Frame} {s s' : AS}
theorem AT.to {P : Program} (hsr : SR ρ s c ccs w) {k : List AI} {k' : List Item} (hk : IL ρ k k') (hst : step P (lone c (ccs ++ base) w) = .next (lone { c with todo := k' } (ccs ++ base) w)) :
  AT P base ρ s.h c ccs w w { s with fr := { s.fr with todo := k } } :=
 ⟨ρ, _, ccs, w, hst, ⟨⟨hsr.fr.fn, hsr.fr.tm, hk, hsr.fr.defers, hsr.fr.mode, hsr.fr.kind, hsr.fr.round⟩, hsr.cs, hsr.h⟩, Ext.refl _ _ _⟩
theorem R4 (ops : Array Oper) : ops.toList.map some = (List.range ops.size).map fun i => ops[i]? := by
 apply List.ext_getElem (by simp)
 intro i h1 h2;simp at h1;simp [h1]
theorem Ej (tmps : T AV) (c : Call) (h : Aa) : (∃ d, Gl tmps c h = .defer d h) ∨ ∃ y, Gl tmps c h = .bad y := by
 unfold Gl;split
 ·split
  ·exact .inl ⟨_, rfl⟩
  ·exact .inr ⟨_, rfl⟩
 ·exact .inr ⟨_, rfl⟩
theorem HP.not_run {ρ : Ren} {a : HP} {m : FrameMode} (h : MR ρ a m) (ha : a ≠ .run) : m ≠ .run := by
 cases h with
 | run => exact absurd rfl ha
 | ret => exact fun e => by cases e
 | panic => exact fun e => by cases e
include hE
theorem gF (hsr : SR ρ s c ccs w) (hm : c.mode = .run) (hmf : s.fr.mode = .run) {all : Array Oper} {o : Oper} {rest : List Oper} {k : List AI} (ht : s.fr.todo = .ops all (o :: rest) :: k)
  (hx : (match Dj all o s.fr.tmps with
   | some true => BV E s.fr s.cs (aop E s.fr.tmps s.h o.op)
   | some false => BV E s.fr s.cs (.val .undef s.h)
   | none => .bad "wanted") = .next s') (hfree : A9 ρ s.h.nx s'.h.nx) : AT E.P base ρ s.h c ccs w w s' := by
 have htodo := hsr.fr.todo;rw [ht] at htodo;obtain ⟨i, idx, k', e, ho, hmap, hk⟩ := htodo.ops_inv;split at hx
 ·rename_i hw;have hwt := Cz hsr.fr.tm hw
  have hd : c.roundOf = none ∨ ∀ cl, o.op ≠ .defer cl := by
   cases hop : o.op with
   | defer cl =>
    left;have hround := hsr.fr.round;rcases Ej s.fr.tmps cl s.h with ⟨d, hq⟩ | ⟨y, hq⟩
    ·have haop : aop E s.fr.tmps s.h o.op = .defer d s.h := by rw [hop]; simpa [aop] using hq
     rw [haop] at hx;simp only [BV] at hx;split at hx
     ·cases hx
     ·rename_i hrn;rw [hrn] at hround;exact hround.none_inv
    ·have haop : aop E s.fr.tmps s.h o.op = .bad y := by rw [hop]; simpa [aop] using hq
     rw [haop] at hx;cases hx
   | _ => exact .inr fun cl e => by cases e
  exact Mc hE (by rw [Gi hm e ho hwt hd]) (KU hE hsr.h hsr.fr.evR o) hsr.h hsr.fr hsr.cs hm hx hfree
 ·rename_i hw;have hwt := Cz hsr.fr.tm hw;simp only [BV] at hx;split at hx
  ·rename_i f' hff;cases hx;exact ⟨ρ, _, ccs, w, L4 hm e ho hwt, ⟨Bx hsr.fr hff (VR.undef ρ), hsr.cs, hsr.h⟩, Ext.refl _ _ _⟩
  ·cases hx
 ·cases hx
omit hE in
theorem Et.congr {s t : Sem Next} {r : Res} (e : s.run E.P w = t.run E.P w) (d : Et E ρ h w t r) : Et E ρ h w s r := by
 cases r with
 | bad y => trivial
 | _ => simpa only [Et, e] using d
def JW (around : Option Nat) : Sem (Nat × List Deferred) := match around with
  | some l => do pure ((← Instr.getLoop l).defers, [])
  | none => do
   let r ← newObj (.deferred (some []))
   pure (r, [{ target := .collected r, args := #[] }])
omit hE in
theorem NP (hr : HR ρ h.blk.get w) (hf : FrR ρ f c) {d : Nat} {h1 : Aa} {mark : List AD} (hc : RA f h = some (d, h1, mark)) (hfree : A9 ρ h.nx h1.nx) :
  ∃ σ w1 bd mark', (JW c.roundOf).run E.P w = .ok (bd.cb, mark') w1 ∧ σ d = some bd ∧ DL σ mark mark' ∧ HR σ h1.blk.get w1 ∧ Ext ρ σ h h1 w w1 := by
 have hround := hf.round;unfold RA at hc;split at hc
 ·rename_i l hrs;rw [hrs] at hround;obtain ⟨b, hb, hro⟩ := hround.some_inv;split at hc
  ·rename_i hl;simp only [Option.some.injEq, Prod.mk.injEq] at hc;obtain ⟨rfl, rfl, rfl⟩ := hc;obtain ⟨tm, bd, q1, q2, q3⟩ := hr.blk l b _ hb hl;have hg := A0 E.P q3 (fun _ _ _ e => by cases e)
   refine ⟨ρ, w, bd, [], ?_, q1, trivial, hr, Ext.refl _ _ _⟩;simp only [hro, JW, Instr.getLoop, Sem.run_bind, hg, Result.andThen_ok, Sem.run_pure]
  ·cases hc
 ·rename_i hrn;rw [hrn] at hround;have hro := hround.none_inv;simp only [Option.some.injEq, Prod.mk.injEq] at hc;obtain ⟨rfl, rfl, rfl⟩ := hc;obtain ⟨q1, q2⟩ := hr.new (hfree h.nx (Nat.le_refl _) (by simp [Aa.new])) (.deferred (some [])) (.deferred (some [])) 0 ⟨[], trivial, rfl⟩ { w with heap := w.heap.push (.deferred (some [])) } rfl rfl rfl rfl
  have hu : (ρ.upd h.nx ⟨w.heap.size, 0, 0⟩) h.nx = some ⟨w.heap.size, 0, 0⟩ := by simp [Ren.upd]
  refine ⟨_, _, ⟨w.heap.size, 0, 0⟩, [{ target := .collected w.heap.size, args := #[] }], ?_, hu, ⟨⟨_, hu, rfl⟩, trivial⟩, q1, q2⟩;simp only [hro, JW, Sem.run_bind, run_newObj, Result.andThen_ok, Sem.run_pure]
theorem Uh (hsr : SR ρ s c ccs w) (hm : c.mode = .run) {fo : Operand} {params : Array Tmp} {assign body : Code} {k : List AI} {k' : List Item} (hk : IL ρ k k') (ht : c.todo = .code (.rangeFunc fo params assign body) :: k')
  (hx : Gq E s fo params.toList assign body k = .next s') (hfree : A9 ρ s.h.nx s'.h.nx) : AT E.P base ρ s.h c ccs w w s' := by
 unfold Gq at hx;split at hx
 ·rename_i d h1 mark hcoll;split at hx
  ·rename_i fn first captured hev;split at hx
   ·rename_i g args h3 hiv;split at hx
    ·rename_i gf hg;cases hx;have hn1 : (h1.new (.loop .ready none s.fr.fn s.fr.nt s.fr.tmps params.toList assign body d)).nx = h1.nx + 1 := rfl;obtain ⟨σ, w1, bd, mark', q1, q2, q3, q4, q5⟩ := NP (E := E) hsr.h hsr.fr hcoll (fun b h1 h2 => hfree b h1 (by simp only [hn1]; omega))
     have hfr := hsr.fr.mono q5.le;have hfree1 : σ h1.nx = none := (q5.free hfree) h1.nx (Nat.le_refl _) (by simp only [hn1]; omega)
     have hle := Ren.le_upd hfree1 ⟨w1.heap.size, 0, 0⟩;obtain ⟨p1, p2⟩ := q4.new hfree1 (.loop .ready none s.fr.fn s.fr.nt s.fr.tmps params.toList assign body d)
      (.loop { state := .ready, pending := none, fn := c.fn, tmps := c.tmps, params := params, assign := assign, body := body, defers := bd.cb }) 0
      ⟨c.tmps, bd, hle.m _ _ q2, hfr.tm.mono hle, by rw [hfr.fn]⟩
      { w1 with heap := w1.heap.push (.loop { state := .ready, pending := none, fn := c.fn, tmps := c.tmps, params := params, assign := assign, body := body, defers := bd.cb }) } rfl rfl rfl rfl
     have hu : (σ.upd h1.nx ⟨w1.heap.size, 0, 0⟩) h1.nx = some ⟨w1.heap.size, 0, 0⟩ := by simp [Ren.upd]
     have hrun : (Instr.enterLoop c.fn c.tmps params assign body c.roundOf).run E.P w = .ok (w1.heap.size, mark') { w1 with heap := w1.heap.push (.loop { state := .ready, pending := none, fn := c.fn, tmps := c.tmps, params := params, assign := assign, body := body, defers := bd.cb }) } := by
      cases hro : c.roundOf with
      | some l =>
       rw [hro] at q1;simp only [JW, Sem.run_bind, Sem.run_pure] at q1;simp only [Instr.enterLoop, Sem.run_bind, Sem.run_pure, run_newObj, Result.andThen_ok];cases hG : (Instr.getLoop l).run E.P w with
       | ok a w2 =>
        rw [hG] at q1;simp only [Result.andThen_ok, Result.ok.injEq, Prod.mk.injEq] at q1 ⊢;obtain ⟨⟨e1, e2⟩, e3⟩ := q1;rw [e1, e2, e3];exact ⟨⟨rfl, rfl⟩, rfl⟩
       | halt x w2 => rw [hG] at q1; cases q1
      | none =>
       rw [hro] at q1;simp only [JW, Sem.run_bind, Sem.run_pure, run_newObj, Result.andThen_ok, Result.ok.injEq, Prod.mk.injEq] at q1;obtain ⟨⟨e1, e2⟩, e3⟩ := q1;simp only [Instr.enterLoop, Sem.run_bind, Sem.run_pure, run_newObj, Result.andThen_ok];rw [← e1, ← e2, ← e3]
     refine AT.pre (q5.trans p2 hfree) ?_ hfree;have hf2 := hfr.mono hle;have hv := hf2.evR fo;rw [hev] at hv;generalize hcv : c.eval fo = cv at hv;cases hv with
     | func _ fn' _ _ f' c' r1 r2 r3 r4 r5 =>
      have ha : VL (σ.upd h1.nx ⟨w1.heap.size, 0, 0⟩) (first ++ [.func (.yield h1.nx) [] []]) (f' ++ [.func (.yield w1.heap.size) #[] #[]]) :=
       VL.append ⟨r2, r3⟩ (VL.cons (.func _ _ [] [] [] [] ⟨_, hu, rfl⟩ rfl (by simp) rfl (by simp)) (VL.nil _))
      have hdoes := DX hE p1 r1 ⟨r4, r5⟩ ha;rw [hiv] at hdoes;have he : h3 = _ := hdoes.1;subst he
      refine Mc hE (c := { c with todo := .inRangeFunc w1.heap.size :: k', defers := mark' ++ c.defers })
       (f := { s.fr with todo := .inRange h1.nx :: k, defers := mark ++ s.fr.defers }) (cs := s.cs) (I1 hm ht hrun) (hdoes.congr ?_) p1
       ⟨hf2.fn, hf2.tm, .cons (.inRange _ _ hu) ((hk.mono q5.le).mono hle), (q3.mono hle).append hf2.defers, hf2.mode, hf2.kind, hf2.round⟩ ((hsr.cs.mono q5.le).mono hle) hm ?_ (fun b l1 l2 => absurd (Nat.lt_of_le_of_lt l1 l2) (Nat.lt_irrefl _))
      ·have hcv2 : c.eval (.const (.func (.yield w1.heap.size) #[] #[])) = .func (.yield w1.heap.size) #[] #[] := rfl;simp [resolve, hcv, hcv2, Deferred.ofValue]
      ·simp only [BV, hg]
    ·cases hx
   ·cases hx
  ·cases hx
 ·cases hx
theorem OL (hsr : SR ρ s c ccs w) (hx : Fz E s = .next s') (hfree : A9 ρ s.h.nx s'.h.nx) : AT E.P base ρ s.h c ccs w w s' := by
 have hmode := hsr.fr.mode;have htodo := hsr.fr.todo;unfold Fz at hx;simp only at hx;split at hx
 ·rename_i hmf;rw [hmf] at hmode
  have hm : c.mode = .run := by
   generalize c.mode = x at hmode;cases hmode; rfl
  split at hx
  ·rename_i ht;rw [ht] at htodo;generalize hct : c.todo = td at htodo;cases htodo;exact F9 hsr.h hsr.fr hsr.cs hm (.inl ⟨hct, rfl⟩) hx hfree
  ·rename_i id k ht;rw [ht] at htodo;generalize hct : c.todo = td at htodo;cases htodo with | cons a hk =>
   cases a;cases hx;exact AT.to hsr hk (Pw hm hct)
  ·rename_i id k ht;rw [ht] at htodo;generalize hct : c.todo = td at htodo;cases htodo with | cons a hk =>
   cases a;cases hx;exact AT.to hsr hk (O8 hm hct)
  ·rename_i b k ht;rw [ht] at htodo;generalize hct : c.todo = td at htodo;cases htodo with | cons a hk =>
   cases a;cases hx;exact AT.to hsr (.cons (.code _) (.cons (.inLoop _) hk)) (Sl hm hct)
  ·rename_i all k ht;rw [ht] at htodo;generalize hct : c.todo = td at htodo;cases htodo with | cons a hk =>
   cases a with | ops _ _ idx hmap =>
   cases idx with
   | cons i idx => cases hmap
   | nil =>
    cases hx;exact AT.to hsr hk (Ht hm hct)
  ·rename_i all o rest k ht;exact gF hE hsr hm hmf ht hx hfree
  ·cases hx
  ·cases hx
  ·cases hx
  ·rename_i l k ht;rw [ht] at htodo;generalize hct : c.todo = td at htodo;cases htodo with | cons a hk =>
   cases a with | endRange _ b hb =>
   split at hx
   ·rename_i st pending fn nt tmps params assign body d hl;split at hx
    ·cases hx
    ·rename_i hnb;cases hx;obtain ⟨tm, bd, h1, h2, h3⟩ := hsr.h.blk l b _ hb hl;have hg := A0 E.P h3 (fun _ _ _ e => by cases e)
     obtain ⟨q1, q2⟩ := hsr.h.setObj hb (by rw [hl]; exact fun e => by cases e) (.loop .exhausted pending fn nt tmps params assign body d)
      (.loop { state := .exhausted, pending, fn := fn, tmps := tm, params := params.toArray, assign := assign, body := body, defers := bd.cb }) ⟨tm, bd, h1, h2, rfl⟩
     have hs := fun o' => Bl (o' := o') E.P h3 (fun _ _ _ e => by cases e)
     have hbz : (st == LoopState.busy) = false := by
      cases st <;> first | rfl | exact absurd rfl hnb
     have hrun : (Instr.endLoop b.cb).run E.P w = .ok pending { w with heap := w.heap.setIfInBounds b.cb (.loop { state := .exhausted, pending, fn := fn, tmps := tm, params := params.toArray, assign := assign, body := body, defers := bd.cb }) } := by
      simp only [Instr.endLoop, Instr.getLoop, Sem.run_bind, hg, Result.andThen_ok, Sem.run_pure, hbz, Bool.false_eq_true, if_false, hs]
     refine ⟨ρ, _, ccs, _, Qw hm hct hrun, ⟨⟨hsr.fr.fn, hsr.fr.tm, ?_, hsr.fr.defers, hsr.fr.mode, hsr.fr.kind, hsr.fr.round⟩, hsr.cs, q1⟩, q2⟩;cases pending with
     | none => exact hk
     | some j => exact .cons (.code _) hk
   ·cases hx
  ·rename_i k ht;rw [ht] at htodo;generalize hct : c.todo = td at htodo;cases htodo with | cons a hk =>
   cases a;have hround := hsr.fr.round;split at hx
   ·rename_i l hrs;rw [hrs] at hround;obtain ⟨b, hb, hro⟩ := hround.some_inv;split at hx
    ·rename_i pending fn nt tmps params assign body d hl;cases hx;obtain ⟨tm, bd, h1, h2, h3⟩ := hsr.h.blk l b _ hb hl;have hg := A0 E.P h3 (fun _ _ _ e => by cases e)
     obtain ⟨q1, q2⟩ := hsr.h.setObj hb (by rw [hl]; exact fun e => by cases e) (.loop .busy pending fn nt tmps params assign body d)
      (.loop { state := .busy, pending, fn := fn, tmps := tm, params := params.toArray, assign := assign, body := body, defers := bd.cb }) ⟨tm, bd, h1, h2, rfl⟩
     have hs := fun o' => Bl (o' := o') E.P h3 (fun _ _ _ e => by cases e)
     refine ⟨ρ, _, ccs, _, Lm hm hct hro ?_, ⟨⟨hsr.fr.fn, hsr.fr.tm, hk, hsr.fr.defers, hsr.fr.mode, hsr.fr.kind, hsr.fr.round⟩, hsr.cs, q1⟩, q2⟩;simp only [Instr.beginRound, Instr.getLoop, Sem.run_bind, hg, Result.andThen_ok, Sem.run_pure, hs]
    ·cases hx
   ·cases hx
  ·rename_i cd k ht;rw [ht] at htodo;generalize hct : c.todo = td at htodo;cases htodo with | cons a hk =>
   cases a;split at hx
   ·exact F9 hsr.h hsr.fr hsr.cs hm (.inr (.inl ⟨_, hct, rfl⟩)) hx hfree
   ·cases hx; exact AT.to hsr hk (Ww hm hct)
   ·cases hx; exact AT.to hsr hk (TX hm hct)
   ·cases hx; exact AT.to hsr (.cons (.code _) (.cons (.code _) hk)) (Ys hm hct)
   ·rename_i cnd x y;have hv := hsr.fr.evR cnd;split at hx
    ·rename_i he;rw [he] at hv;generalize hcv : c.eval cnd = cv at hv;cases hv;cases hx;exact AT.to hsr (.cons (.code _) hk) (JE hm hct hcv)
    ·rename_i he;rw [he] at hv;generalize hcv : c.eval cnd = cv at hv;cases hv;cases hx;exact AT.to hsr (.cons (.code _) hk) (JE hm hct hcv)
    ·rename_i pos e he;rw [he] at hv;generalize hcv : c.eval cnd = cv at hv;cases hv;split at hx
     ·rename_i q hq;have hd := Ay U.ok hq;rw [hd] at hcv;split at hx
      ·rename_i hp;rw [hp] at hcv;cases hx;exact AT.to hsr (.cons (.code _) hk) (JE hm hct hcv)
      ·rename_i hp;rw [hp] at hcv;cases hx;exact AT.to hsr (.cons (.code _) hk) (JE hm hct hcv)
     ·cases hx
    ·cases hx
   ·cases hx; exact AT.to hsr (.cons (.code _) (.cons (.inBlock _) hk)) (UW hm hct)
   ·cases hx; exact AT.to hsr (.cons (.code _) (.cons (.inLoop _) hk)) (Xd hm hct)
   ·cases hx; exact AT.to hsr (.cons (.code _) (.cons (.inScope _) hk)) (U5 hm hct)
   ·rename_i id;split at hx
    ·rename_i k2 he;cases hx;obtain ⟨r', h1, h2⟩ := (Li hk).1 _ he;exact AT.to hsr h2 (Wf hm hct h1)
    ·rename_i he;split at hx
     ·cases hx
     ·rename_i hre;exact F9 hsr.h hsr.fr hsr.cs hm (.inr (.inr (.inl ⟨_, _, hct, (Li hk).2 he hre, rfl⟩))) hx hfree
   ·rename_i id;split at hx
    ·rename_i k2 he;cases hx;obtain ⟨r', h1, h2⟩ := (JO hk).1 _ he;exact AT.to hsr h2 (V3 hm hct h1)
    ·rename_i he;split at hx
     ·cases hx
     ·rename_i hre;exact F9 hsr.h hsr.fr hsr.cs hm (.inr (.inr (.inr ⟨_, _, hct, (JO hk).2 he hre, rfl⟩))) hx hfree
   ·exact Uh hE hsr hm hk hct hx hfree
   ·rename_i id ops draw;split at hx
    ·cases hx;exact AT.to hsr (.cons (.ops _ _ _ (R4 _)) hk) (SQ hm hct)
    ·cases hx
   ·cases hx
 ·rename_i hmf;exact Qh hE hsr.h hsr.fr hsr.cs (HP.not_run hmode hmf) hx
end
end Go.AE
namespace Go.AE
variable [U : Unk]
def WF (h : Aa) : Prop := ∀ b, h.nx ≤ b → h.blk.get b = none
theorem Ext.wf {ρ σ : Ren} {h h' : Aa} {w w' : World} (e : Ext ρ σ h h' w w') (hw : WF h) : WF h' := by
 intro b hb;have := e.nx;cases hg : h'.blk.get b with
 | none => rfl
 | some x =>
  rcases e.live b (by rw [hg]; exact fun e => by cases e) with h1 | ⟨_, h2⟩
  ·exact absurd (hw b (by omega)) h1
  ·omega
def BS (P : Program) (m : Machine) (c0 : Frame) (base : List Frame) (ok : Bool) (v : Value) (w : World) : Prop :=
 match ok with
 | true => Steps P m (lone (c0.finish v) base w)
 | false => Steps P m (lone (c0.raise [{ v := v, recovered := false }]) base w)
theorem BS.head {P : Program} {m m' : Machine} {c0 : Frame} {base : List Frame} {ok : Bool} {v : Value} {w : World} (h : step P m = .next m') (k : BS P m' c0 base ok v w) : BS P m c0 base ok v w := by
 cases ok
 ·exact Steps.head h k
 ·exact Steps.head h k
def Lb (E : Env) (callF : Ask → Aa → Option (Bool × AV × Aa)) : Prop :=
 (∀ (f : FuncId) (args : List AV) (args' : List Value) (h g : Aa) (ok : Bool) (v : AV) (ρ : Ren) (w : World), VL ρ args args' → HR ρ h.blk.get w → WF h → callF (.enter f args) h = some (ok, v, g) → A9 ρ h.nx g.nx →
  ∀ (c0 : Frame) (base : List Frame), ∃ σ v' w', BS E.P (lone (Frame.enter E.P f args'.toArray .normal) (c0 :: base) w) c0 base ok v' w' ∧ VR σ v v' ∧ HR σ g.blk.get w' ∧ Ext ρ σ h g w w') ∧
 (∀ (l : Nat) (args : List AV) (h g : Aa) (ok : Bool) (v : AV) (ρ : Ren) (w : World), HR ρ h.blk.get w → WF h → callF (.round l args) h = some (ok, v, g) → A9 ρ h.nx g.nx →
  ∃ fr, FqQ l args h = some fr ∧ ∀ (cf : Frame), FrR ρ fr cf → ∀ (c0 : Frame) (base : List Frame), ∃ σ v' w', BS E.P (lone cf (c0 :: base) w) c0 base ok v' w' ∧ VR σ v v' ∧ HR σ g.blk.get w' ∧ Ext ρ σ h g w w')
def part (h : Aa) : Option (List Nat) → Aa
 | some ids => { blk := Dc h ids, nx := h.nx, log := [] }
 | none => { h with log := [] }
theorem Dk (h : Aa) : ∀ (l : List Nat) (b : Nat), (Dc h l).get b = none ∨ (b ∈ l ∧ (Dc h l).get b = h.blk.get b)
 | [], b => .inl rfl
 | c :: r, b => by
  simp only [Dc];cases hc : h.blk.get c with
  | none =>
   rcases Dk h r b with q | ⟨q1, q2⟩
   ·exact .inl q
   ·exact .inr ⟨by simp [q1], q2⟩
  | some x =>
   simp only [T.get_set];by_cases e : c = b
   ·subst e; rw [if_pos rfl]; exact .inr ⟨by simp, hc.symm⟩
   ·rw [if_neg e];rcases Dk h r b with q | ⟨q1, q2⟩
    ·exact .inl q
    ·exact .inr ⟨by simp [q1], q2⟩
theorem Jv {h : Aa} (hw : WF h) (fp : Option (List Nat)) : WF (part h fp) := by
 intro b hb;cases fp with
 | none => exact hw b hb
 | some ids =>
  rcases Dk h ids b with q | ⟨_, q⟩
  ·exact q
  ·exact q.trans (hw b hb)
theorem Dl (t : T AV) : ∀ (l : List Tmp) (i : Tmp) (x : AV), (BQ t l).get i = some x → i ∈ l ∧ t.get i = some x
 | [], i, x, h => by cases h
 | c :: r, i, x, h => by
  simp only [BQ] at h;cases hc : t.get c with
  | none =>
   rw [hc] at h;obtain ⟨q1, q2⟩ := Dl t r i x h;exact ⟨by simp [q1], q2⟩
  | some y =>
   rw [hc] at h;simp only [T.get_set] at h;by_cases e : c = i
   ·subst e; rw [if_pos rfl] at h; cases h; exact ⟨by simp, hc⟩
   ·rw [if_neg e] at h;obtain ⟨q1, q2⟩ := Dl t r i x h;exact ⟨by simp [q1], q2⟩
section
variable {E : Env} (hE : OK E) {callF : Ask → Aa → Option (Bool × AV × Aa)} {ρ : Ren} {h : Aa} {w : World} {c : Frame} {cs : List Frame}
include hE
theorem LY (hF : Lb E callF) {all : Array Oper} {o : Oper} {nt : Nat} {t : T AV} {d : Did} {i : Nat} {rest : List Nat} {k : List Item} (hd : FI E callF all o t h = some d) (hwf : WF h) (hm : c.mode = .run)
  (htd : c.todo = .inRegion all (i :: rest) :: k) (ho : all[i]? = some o) (ht : TR ρ nt t c.tmps) (hr : HR ρ (part h d.fp).blk.get w) (hfree : A9 ρ h.nx d.g.nx) :
  ∃ σ v' w', BS E.P (lone c cs w) c cs d.ok v' w' ∧ VR σ d.v v' ∧ HR σ d.g.blk.get w' ∧ Ext ρ σ (part h d.fp) d.g w w' := by
 have hev : EvR ρ t c.eval := by
  intro x;have := JI ht x;cases x <;> exact this
 unfold FI at hd;split at hd
 ·cases hd
 ·rename_i hw;have hwt := Cz ht hw;cases hd;exact ⟨ρ, undef, w, Steps.one (L4 hm htd ho hwt), VR.undef ρ, hr, Ext.refl _ _ _⟩
 ·rename_i hw;have hwt := Cz ht hw;split at hd
  ·rename_i hsim
   have hnd : ∀ cl, o.op ≠ .defer cl := by
    intro cl e;rw [e] at hsim;cases hsim
   simp only at hd;split at hd
   ·rename_i v g hop;cases hd;have hdoes := KU hE (h := part h (some (TN t h o.op))) hr hev o;rw [show aop E t (part h (some (TN t h o.op))) o.op = _ from hop] at hdoes
    obtain ⟨σ, v', w', q1, q2, q3, q4⟩ := hdoes hfree;exact ⟨σ, v', w', Steps.one (Qy hm htd ho hwt (.inr hnd) q1), q2, q3, q4⟩
   ·cases hd
  ·have hndef : ∀ {r : Res}, aop E t { h with log := [] } o.op = r → (∀ d g, r ≠ .defer d g) → (∀ y, r ≠ .bad y) → ∀ cl, o.op ≠ .defer cl := by
    intro r hop n1 n2 cl e;rw [e] at hop;simp only [aop] at hop;rcases Ej t cl { h with log := [] } with ⟨d, hq⟩ | ⟨y, hq⟩
    ·exact n1 _ _ (hop.symm.trans hq)
    ·exact n2 _ (hop.symm.trans hq)
   split at hd
   ·rename_i f args h' hop;split at hd
    ·rename_i ok v g hcall;cases hd;have hdoes := KU hE (h := part h none) hr hev o;rw [show aop E t (part h none) o.op = _ from hop] at hdoes
     obtain ⟨rfl, args', ha, hrun⟩ := hdoes;have hnd := hndef hop (fun _ _ e => by cases e) (fun _ e => by cases e)
     obtain ⟨σ, v', w', q1, q2, q3, q4⟩ := hF.1 f args args' (part h none) g ok v ρ w ha hr (Jv hwf none) hcall hfree c cs;exact ⟨σ, v', w', q1.head (OV hm htd ho hwt (.inr hnd) hrun), q2, q3, q4⟩
    ·cases hd
   ·rename_i l args h' hop;split at hd
    ·rename_i ok v g hcall;cases hd;have hdoes := KU hE (h := part h none) hr hev o;rw [show aop E t (part h none) o.op = _ from hop] at hdoes
     obtain ⟨rfl, b, args', hb, ha, hrun⟩ := hdoes;have hnd := hndef hop (fun _ _ e => by cases e) (fun _ e => by cases e)
     obtain ⟨fr, hfr, hgo⟩ := hF.2 l args (part h none) g ok v ρ w hr (Jv hwf none) hcall hfree;obtain ⟨fn, tm, assign, body, q1, q2⟩ := Mo (E := E) (h := h) hr hb (show FqQ l args h = some fr from hfr) ha
     obtain ⟨σ, v', w', p1, p2, p3, p4⟩ := hgo _ q2 c cs;exact ⟨σ, v', w', p1.head (S5 hm htd ho hwt (.inr hnd) (hrun.trans q1)), p2, p3, p4⟩
    ·cases hd
   ·cases hd
end
end Go.AE
namespace Go.AE
variable [U : Unk]
theorem H3 {b : Nat} : ∀ {l : List Nat}, Ln b l = true ↔ b ∈ l
 | [] => by simp [Ln]
 | c :: r => by
  simp only [Ln, List.mem_cons];cases e : Nat.beq b c with
  | true => simp [AA e]
  | false => simp only; rw [H3]; simp [Tj e]
theorem GO : ∀ {l m : List Nat}, KZ l m = true → ∀ b ∈ l, b ∉ m
 | [], m, _, b, hb => by cases hb
 | c :: r, m, h, b, hb => by
  simp only [KZ] at h;cases e : Ln c m with
  | true => rw [e] at h; cases h
  | false =>
   rw [e] at h;rcases List.mem_cons.1 hb with rfl | hb
   ·exact fun hm => by rw [H3.2 hm] at e; cases e
   ·exact GO h b hb
theorem NU {lo hi : Nat} : ∀ {l : List Nat}, Vv lo hi l = true → ∀ b ∈ l, ¬ (lo ≤ b ∧ b < hi)
 | [], _, b, hb => by cases hb
 | c :: r, h, b, hb => by
  simp only [Vv] at h;cases e : Nat.ble lo c && Nat.blt c hi with
  | true => rw [e] at h; cases h
  | false =>
   rw [e] at h;rcases List.mem_cons.1 hb with rfl | hb
   ·rintro ⟨h1, h2⟩
    have : (Nat.ble lo b && Nat.blt b hi) = true := by simp [Nat.ble_eq, Nat.blt_eq, h1, h2]
    rw [this] at e; cases e
   ·exact NU h b hb
theorem B8 {n b : Nat} : ∀ {l : List Nat}, b ∈ Cl n l ↔ b ∈ l ∧ b < n
 | [] => by simp [Cl]
 | c :: r => by
  simp only [Cl];cases e : Nat.blt c n with
  | true =>
   simp only [List.mem_cons, B8];have : c < n := by simpa [Nat.blt_eq] using e
   constructor
   ·rintro (rfl | h)
    ·exact ⟨.inl rfl, this⟩
    ·exact ⟨.inr h.1, h.2⟩
   ·rintro ⟨rfl | h, h2⟩
    ·exact .inl rfl
    ·exact .inr ⟨h, h2⟩
  | false =>
   simp only [List.mem_cons, B8]
   have : ¬ c < n := by
    intro h; have : Nat.blt c n = true := by simpa [Nat.blt_eq] using h
    rw [this] at e; cases e
   constructor
   ·rintro h; exact ⟨.inr h.1, h.2⟩
   ·rintro ⟨rfl | h, h2⟩
    ·exact absurd h2 this
    ·exact ⟨h, h2⟩
structure Rc.Apart (x y : Rc) : Prop where
 fp1 : ∀ b ∈ x.wr, ∀ l, y.fp = some l → b ∉ l
 fp1n : y.fp = none → x.wr = []
 fp2 : ∀ b ∈ y.wr, ∀ l, x.fp = some l → b ∉ l
 fp2n : x.fp = none → y.wr = []
 wr : ∀ b ∈ x.wr, b ∉ y.wr
 out : ∀ b ∈ y.wr, ¬ (x.lo ≤ b ∧ b < x.hi)
 look1 : ∀ t, x.dst = some t → t ∉ y.looks
 look2 : ∀ t, y.dst = some t → t ∉ x.looks
 dst : ∀ t, x.dst = some t → y.dst ≠ some t
theorem I7 {w l : List Nat} (h : KE w (some l) = true) : ∀ b ∈ w, b ∉ l := GO h
theorem Rc.apart_ok {x y : Rc} (h : x.apart y = true) : x.Apart y := by
 simp only [Rc.apart, Bool.and_eq_true, Bool.not_eq_true'] at h;obtain ⟨⟨⟨⟨⟨⟨h1, h2⟩, h3⟩, h4⟩, h5⟩, h6⟩, h7⟩ := h;refine ⟨fun b hb l hl => ?_, fun hn => ?_, fun b hb l hl => ?_, fun hn => ?_, GO h3, NU h4, fun t ht hm => ?_, fun t ht hm => ?_, fun t ht ht' => ?_⟩
 ·rw [hl] at h1; exact I7 h1 b hb
 ·rw [hn] at h1; simpa [KE] using h1
 ·rw [hl] at h2; exact I7 h2 b hb
 ·rw [hn] at h2; simpa [KE] using h2
 ·rw [ht] at h5; rw [VX, H3.2 hm] at h5; cases h5
 ·rw [ht] at h6; rw [VX, H3.2 hm] at h6; cases h6
 ·rw [ht, ht', XP, Ey] at h7; cases h7
theorem TF (m i : Nat) : Nat.beq (m / 2 ^ i % 2) 1 = m.testBit i := by
 rw [Nat.testBit_eq_decide_div_mod_eq];by_cases h : m / 2 ^ i % 2 = 1
 ·rw [h]; rfl
 ·rw [FK h]; simp [h]
theorem I4 {y : Rc} : ∀ {l : List Rc} {p : Nat}, EL y l p = true → ∀ i x, l[i]? = some x → y.mask.testBit (p + i) = true ∨ x.Apart y
 | [], p, h, i, x, hx => by cases hx
 | c :: r, p, h, i, x, hx => by
  simp only [EL, TF] at h;cases e : y.mask.testBit p || c.apart y with
  | false => rw [e] at h; cases h
  | true =>
   rw [e] at h;cases i with
   | zero =>
    simp only [List.getElem?_cons_zero, Option.some.injEq] at hx;subst hx;rcases Bool.or_eq_true_iff.1 e with e | e
    ·exact .inl e
    ·exact .inr (Rc.apart_ok e)
   | succ i =>
    have := I4 h i x (by simpa using hx)
    rw [show p + (i + 1) = p + 1 + i by omega]
    exact this
theorem Dq {recs : List Rc} : ∀ {es : List Edge} {m : Nat}, Co recs es = some m →
  (∀ e ∈ es, Region.binds .any e = true → ∃ x, recs[e.on]? = some x) ∧
  ∀ i, m.testBit i = true ↔ ∃ e ∈ es, Region.binds .any e = true ∧ ∃ x, recs[e.on]? = some x ∧ (x.mask.testBit i = true ∨ i = e.on)
 | [], m, h => by
  simp only [Co, Option.some.injEq] at h;subst h;simp
 | e :: r, m, h => by
  simp only [Co] at h;cases hr : Co recs r with
  | none => rw [hr] at h; cases h
  | some m1 =>
   rw [hr] at h;obtain ⟨q1, q2⟩ := Dq hr;simp only at h;cases hb : Region.binds .any e with
   | false =>
    rw [hb] at h;simp only [Option.some.injEq] at h;subst h;refine ⟨fun a ha hab => ?_, fun i => ?_⟩
    ·rcases List.mem_cons.1 ha with rfl | ha
     ·rw [hb] at hab; cases hab
     ·exact q1 a ha hab
    ·rw [q2];constructor
     ·rintro ⟨a, ha, hh⟩; exact ⟨a, by simp [ha], hh⟩
     ·rintro ⟨a, ha, hab, hh⟩
      rcases List.mem_cons.1 ha with rfl | ha
      ·rw [hb] at hab; cases hab
      ·exact ⟨a, ha, hab, hh⟩
   | true =>
    rw [hb] at h;simp only at h;cases hx : recs[e.on]? with
    | none => rw [hx] at h; cases h
    | some x =>
     rw [hx] at h;simp only [Option.some.injEq] at h;subst h;refine ⟨fun a ha hab => ?_, fun i => ?_⟩
     ·rcases List.mem_cons.1 ha with rfl | ha
      ·exact ⟨x, hx⟩
      ·exact q1 a ha hab
     ·simp only [Nat.testBit_or, Bool.or_eq_true, Nat.testBit_two_pow, decide_eq_true_eq, q2];constructor
      ·rintro ((⟨a, ha, hh⟩ | h) | h)
       ·exact ⟨a, by simp [ha], hh⟩
       ·exact ⟨e, by simp, hb, x, hx, .inl h⟩
       ·exact ⟨e, by simp, hb, x, hx, .inr h.symm⟩
      ·rintro ⟨a, ha, hab, y, hy, hh⟩
       rcases List.mem_cons.1 ha with rfl | ha
       ·rw [hx] at hy;cases hy;rcases hh with hh | hh
        ·exact .inl (.inr hh)
        ·exact .inr hh.symm
       ·exact .inl (.inl ⟨a, ha, hab, y, hy, hh⟩)
theorem Fg (blk g : T Aj) : ∀ (l : List Nat) (b : Nat), (b ∉ l → (GY blk g l).get b = blk.get b) ∧ (b ∈ l → (GY blk g l).get b = none ∨ (blk.get b ≠ none ∧ (GY blk g l).get b = g.get b))
 | [], b => ⟨fun _ => rfl, (fun h => by cases h)⟩
 | c :: r, b => by
  have ih := Fg blk g r b;simp only [GY];split
  ·rename_i x y hx hy;rw [T.get_set];refine ⟨fun h => ?_, fun h => ?_⟩
   ·rw [if_neg (by rintro rfl; simp at h)]; exact ih.1 (by simp at h; exact h.2)
   ·by_cases e : c = b
    ·subst e; rw [if_pos rfl]; exact .inr ⟨(by rw [hy]; exact Option.some_ne_none _), hx.symm⟩
    ·rw [if_neg e]; exact ih.2 ((List.mem_cons.1 h).resolve_left (fun q => e q.symm))
  ·rw [T.get_del];refine ⟨fun h => ?_, fun h => ?_⟩
   ·rw [if_neg (by rintro rfl; simp at h)]; exact ih.1 (by simp at h; exact h.2)
   ·by_cases e : c = b
    ·subst e; rw [if_pos rfl]; exact .inl rfl
    ·rw [if_neg e]; exact ih.2 ((List.mem_cons.1 h).resolve_left (fun q => e q.symm))
theorem E4 (blk g : T Aj) : ∀ (n i b : Nat), (H9 blk g i n).get b = if i ≤ b ∧ b < i + n ∧ g.get b ≠ none then g.get b else blk.get b
 | 0, i, b => by
  simp only [H9];rw [if_neg (by omega)]
 | n + 1, i, b => by
  have ih := E4 blk g n (i + 1) b;simp only [H9];cases hg : g.get i with
  | none =>
   simp only;rw [ih];by_cases e : i = b
   ·subst e;rw [if_neg (by omega), if_neg (by rintro ⟨_, _, h⟩; exact h hg)]
   ·by_cases q : i + 1 ≤ b ∧ b < i + 1 + n ∧ g.get b ≠ none
    ·rw [if_pos q, if_pos ⟨by omega, by omega, q.2.2⟩]
    ·rw [if_neg q, if_neg (by rintro ⟨h1, h2, h3⟩; exact q ⟨by omega, by omega, h3⟩)]
  | some x =>
   simp only [T.get_set];by_cases e : i = b
   ·subst e;rw [if_pos rfl, if_pos ⟨by omega, by omega, (by rw [hg]; exact Option.some_ne_none _)⟩, hg]
   ·rw [if_neg e, ih];by_cases q : i + 1 ≤ b ∧ b < i + 1 + n ∧ g.get b ≠ none
    ·rw [if_pos q, if_pos ⟨by omega, by omega, q.2.2⟩]
    ·rw [if_neg q, if_neg (by rintro ⟨h1, h2, h3⟩; exact q ⟨by omega, by omega, h3⟩)]
section
variable {h g : Aa}
theorem Cu (hn : h.nx ≤ g.nx) {b : Nat} (hb : b ∉ Cl h.nx g.log) (ho : b < h.nx ∨ g.nx ≤ b) : (Bf h g).blk.get b = h.blk.get b := by
 simp only [Bf, E4];rw [if_neg (by omega)]
 exact (Fg _ _ _ b).1 hb
theorem F7 {b : Nat} (hb : b ∈ Cl h.nx g.log) : (Bf h g).blk.get b = none ∨ (h.blk.get b ≠ none ∧ (Bf h g).blk.get b = g.blk.get b) := by
 have hlt := (B8.1 hb).2;simp only [Bf, E4];rw [if_neg (by omega)]
 exact (Fg _ _ _ b).2 hb
theorem GM (hw : WF h) (hn : h.nx ≤ g.nx) {b : Nat} (h1 : h.nx ≤ b) (h2 : b < g.nx) : (Bf h g).blk.get b = g.blk.get b := by
 simp only [Bf, E4];have hb : b ∉ Cl h.nx g.log := fun e => by have := (B8.1 e).2; omega
 cases hg : g.blk.get b with
 | none =>
  rw [if_neg (by rintro ⟨_, _, h⟩; exact h rfl), (Fg _ _ _ b).1 hb, hw b h1]
 | some x => rw [if_pos ⟨h1, by omega, fun e => by cases e⟩]
theorem F8 (hw : WF h) (hn : h.nx ≤ g.nx) : WF (Bf h g) := by
 intro b hb;have hb' : g.nx ≤ b := hb;rw [Cu hn (fun e => by have := (B8.1 e).2; omega) (.inr hb')]
 exact hw b (by omega)
theorem FB (hw : WF h) (hn : h.nx ≤ g.nx) {b : Nat} (hb : (Bf h g).blk.get b ≠ none) : h.blk.get b ≠ none ∨ (h.nx ≤ b ∧ b < g.nx) := by
 by_cases h1 : b < h.nx
 ·by_cases h2 : b ∈ Cl h.nx g.log
  ·rcases F7 h2 with q | ⟨q, _⟩
   ·exact absurd q hb
   ·exact .inl q
  ·rw [Cu hn h2 (.inl h1)] at hb; exact .inl hb
 ·by_cases h2 : b < g.nx
  ·exact .inr ⟨by omega, h2⟩
  ·exact absurd (F8 hw hn b (by show g.nx ≤ b; omega)) hb
end
end Go.AE
namespace Go.AE
variable [U : Unk]
structure Tx (E : Env) (callF : Ask → Aa → Option (Bool × AV × Aa)) (all : Array Oper) (H : Nat → Aa) (Tm : Nat → T AV) (R : Nat → Rc) (Dd : Nat → Did) (j : Nat) (o : Oper) : Prop where
 mask : Co ((List.range j).map R) o.after.toList = some (R j).mask
 did : FI E callF all o (BQ (Tm j) (CU all o)) (H j) = some (Dd j)
 nx : (H j).nx ≤ (Dd j).g.nx
structure Good (E : Env) (callF : Ask → Aa → Option (Bool × AV × Aa)) (all : Array Oper) (nt : Nat) (H : Nat → Aa) (Tm : Nat → T AV) (R : Nat → Rc) (Dd : Nat → Did) (j : Nat) (o : Oper) : Prop where
 tx : Tx E callF all H Tm R Dd j o
 wr : (R j).wr = Cl (H j).nx (Dd j).g.log
 fp : (R j).fp = (Dd j).fp
 lo : (R j).lo = (H j).nx
 hi : (R j).hi = (Dd j).g.nx
 dst : (R j).dst = o.dst
 looks : (R j).looks = CU all o
 apart : EL (R j) ((List.range j).map R) 0 = true
 put : J0 nt (Tm j) o.dst (Dd j).v = some (Tm (j + 1))
 heap : H (j + 1) = Bf (H j) (Dd j).g
 ok : (Dd j).ok = true
structure Bad (E : Env) (callF : Ask → Aa → Option (Bool × AV × Aa)) (all : Array Oper) (H : Nat → Aa) (Tm : Nat → T AV) (R : Nat → Rc) (Dd : Nat → Did) (j : Nat) (o : Oper) (rest : List Oper) : Prop where
 tx : Tx E callF all H Tm R Dd j o
 ok : (Dd j).ok = false
 all : (R j).mask + 1 = 2 ^ j
 after : ∃ recs : List Rc, recs.length = j ∧ recs = (List.range j).map R ∧ Ev (recs ++ [{ wr := [], fp := none, lo := 0, hi := 0, dst := none, looks := [], mask := (R j).mask }]) j rest = true
section
variable {E : Env} {callF : Ask → Aa → Option (Bool × AV × Aa)} {all : Array Oper} {nt : Nat}
theorem H6 {α : Type} {R : Nat → α} {recs : List α} (h : ∀ i x, recs[i]? = some x → R i = x) : (List.range recs.length).map R = recs := by
 apply List.ext_getElem (by simp)
 intro i h1 h2;simp only [List.getElem_map, List.getElem_range];exact h i _ (by simp [h2])
theorem HS : ∀ (l : List Oper) (recs : List Rc) (tmps : T AV) (h : Aa) (r : Option AV) (tmps' : T AV) (h' : Aa), CW E callF all nt l recs tmps h = some (r, tmps', h') →
  ∃ H Tm R Dd m, (∀ i x, recs[i]? = some x → R i = x) ∧ H recs.length = h ∧ Tm recs.length = tmps ∧ (∀ i, i < m → ∃ o, l[i]? = some o ∧ Good E callF all nt H Tm R Dd (recs.length + i) o) ∧
   (r = none → m = l.length ∧ tmps' = Tm (recs.length + m) ∧ h' = H (recs.length + m)) ∧
   (∀ v, r = some v → ∃ o, l[m]? = some o ∧ Bad E callF all H Tm R Dd (recs.length + m) o (l.drop (m + 1)) ∧ v = (Dd (recs.length + m)).v ∧ tmps' = Tm (recs.length + m) ∧ h' = Bf (H (recs.length + m)) (Dd (recs.length + m)).g)
 | [], recs, tmps, h, r, tmps', h', hd => by
  simp only [CW, Option.some.injEq, Prod.mk.injEq] at hd;obtain ⟨rfl, rfl, rfl⟩ := hd;exact ⟨fun _ => h, fun _ => tmps, fun i => recs.getD i default, fun _ => default, 0, fun i x hx => by simp [hx], rfl, rfl, fun i hi => absurd hi (Nat.not_lt_zero _), fun _ => ⟨rfl, rfl, rfl⟩, (fun v hv => by cases hv)⟩
 | o :: rest, recs, tmps, h, r, tmps', h', hd => by
  simp only [CW] at hd;cases hmask : Co recs o.after.toList with
  | none => rw [hmask] at hd; cases hd
  | some mask =>
   rw [hmask] at hd;simp only at hd;cases hdid : FI E callF all o (BQ tmps (CU all o)) h with
   | none => rw [hdid] at hd; cases hd
   | some d =>
    rw [hdid] at hd;simp only at hd;cases hnx : Nat.ble h.nx d.g.nx with
    | false => rw [hnx] at hd; cases hd
    | true =>
     have hle : h.nx ≤ d.g.nx := Nat.le_of_ble_eq_true hnx;cases hok : d.ok with
     | true =>
      rw [hnx, hok] at hd;simp only at hd;cases hap : EL { wr := Cl h.nx d.g.log, fp := d.fp, lo := h.nx, hi := d.g.nx, dst := o.dst, looks := CU all o, mask } recs 0 with
      | false => rw [hap] at hd; cases hd
      | true =>
       rw [hap] at hd;simp only at hd;cases hput : J0 nt tmps o.dst d.v with
       | none => rw [hput] at hd; cases hd
       | some t1 =>
        rw [hput] at hd;simp only at hd;obtain ⟨H, Tm, R, Dd, m, q1, q2, q3, q4, q5, q6⟩ := HS rest _ t1 _ r tmps' h' hd;have hl : (recs ++ [({ wr := Cl h.nx d.g.log, fp := d.fp, lo := h.nx, hi := d.g.nx, dst := o.dst, looks := CU all o, mask } : Rc)]).length = recs.length + 1 := by simp
        rw [hl] at q2 q3 q4 q5 q6;have hR : R recs.length = { wr := Cl h.nx d.g.log, fp := d.fp, lo := h.nx, hi := d.g.nx, dst := o.dst, looks := CU all o, mask } := q1 _ _ (by simp)
        have hrecs : ∀ i x, recs[i]? = some x → R i = x := fun i x hx => q1 i x (by rw [List.getElem?_append_left (List.getElem?_eq_some_iff.1 hx).1]; exact hx)
        have hmr := H6 hrecs;have hH1 : ∀ j, recs.length + 1 ≤ j → (fun i => if i ≤ recs.length then h else H i) j = H j := fun j hj => if_neg (by omega)
        have hT1 : ∀ j, recs.length + 1 ≤ j → (fun i => if i ≤ recs.length then tmps else Tm i) j = Tm j := fun j hj => if_neg (by omega)
        have hD1 : ∀ j, recs.length + 1 ≤ j → (fun i => if i ≤ recs.length then d else Dd i) j = Dd j := fun j hj => if_neg (by omega)
        have hH0 : (fun i => if i ≤ recs.length then h else H i) recs.length = h := if_pos (Nat.le_refl _)
        have hT0 : (fun i => if i ≤ recs.length then tmps else Tm i) recs.length = tmps := if_pos (Nat.le_refl _)
        have hD0 : (fun i => if i ≤ recs.length then d else Dd i) recs.length = d := if_pos (Nat.le_refl _)
        generalize (fun i => if i ≤ recs.length then h else H i) = H' at hH1 hH0
        generalize (fun i => if i ≤ recs.length then tmps else Tm i) = Tm' at hT1 hT0
        generalize (fun i => if i ≤ recs.length then d else Dd i) = Dd' at hD1 hD0
        have htx : ∀ j x, recs.length + 1 ≤ j → Tx E callF all H Tm R Dd j x → Tx E callF all H' Tm' R Dd' j x := by
         intro j x hj t;refine ⟨t.mask, ?_, ?_⟩
         ·rw [hT1 j hj, hH1 j hj, hD1 j hj]; exact t.did
         ·rw [hH1 j hj, hD1 j hj]; exact t.nx
        have hplus : ∀ i, recs.length + (i + 1) = recs.length + 1 + i := fun i => by omega
        refine ⟨H', Tm', R, Dd', m + 1, hrecs, hH0, hT0, ?_, ?_, ?_⟩
        ·intro i hi;cases i with
         | zero =>
          refine ⟨o, rfl, ⟨⟨?_, ?_, ?_⟩, ?_, ?_, ?_, ?_, ?_, ?_, ?_, ?_, ?_, ?_⟩⟩
          ·rw [Nat.add_zero, hmr, hR]; exact hmask
          ·rw [Nat.add_zero, hT0, hH0, hD0]; exact hdid
          ·rw [Nat.add_zero, hH0, hD0]; exact hle
          ·rw [Nat.add_zero, hR, hH0, hD0]
          ·rw [Nat.add_zero, hR, hD0]
          ·rw [Nat.add_zero, hR, hH0]
          ·rw [Nat.add_zero, hR, hD0]
          ·rw [Nat.add_zero, hR]
          ·rw [Nat.add_zero, hR]
          ·rw [Nat.add_zero, hmr, hR]; exact hap
          ·rw [Nat.add_zero, hT0, hD0, hT1 _ (Nat.le_refl _), q3]; exact hput
          ·show H' (recs.length + 1) = Bf (H' recs.length) (Dd' recs.length).g;rw [hH0, hD0, hH1 _ (Nat.le_refl _), q2]
          ·rw [Nat.add_zero, hD0]; exact hok
         | succ i =>
          obtain ⟨x, hx, g⟩ := q4 i (by omega)
          have hj : recs.length + 1 ≤ recs.length + 1 + i := by omega
          refine ⟨x, by simpa using hx, ?_⟩
          rw [hplus];refine ⟨htx _ _ hj g.tx, ?_, ?_, ?_, ?_, g.dst, g.looks, g.apart, ?_, ?_, ?_⟩
          ·rw [hH1 _ hj, hD1 _ hj]; exact g.wr
          ·rw [hD1 _ hj]; exact g.fp
          ·rw [hH1 _ hj]; exact g.lo
          ·rw [hD1 _ hj]; exact g.hi
          ·rw [hT1 _ hj, hD1 _ hj, hT1 _ (by omega)]; exact g.put
          ·rw [hH1 _ hj, hD1 _ hj, hH1 _ (by omega)]; exact g.heap
          ·rw [hD1 _ hj]; exact g.ok
        ·intro hr;obtain ⟨r1, r2, r3⟩ := q5 hr;refine ⟨by simp [r1], ?_, ?_⟩
         ·rw [hplus, hT1 _ (by omega)]; exact r2
         ·rw [hplus, hH1 _ (by omega)]; exact r3
        ·intro v hv;obtain ⟨x, hx, b, r1, r2, r3⟩ := q6 v hv;have hj : recs.length + 1 ≤ recs.length + 1 + m := by omega
         refine ⟨x, by simpa using hx, ?_, ?_, ?_, ?_⟩
         ·rw [hplus];exact ⟨htx _ _ hj b.tx, by rw [hD1 _ hj]; exact b.ok, b.all, by simpa using b.after⟩
         ·rw [hplus, hD1 _ hj]; exact r1
         ·rw [hplus, hT1 _ hj]; exact r2
         ·rw [hplus, hH1 _ hj, hD1 _ hj]; exact r3
     | false =>
      rw [hnx, hok] at hd;simp only at hd;cases hc : Nat.beq (mask + 1) (2 ^ recs.length) && Ev (recs ++ [{ wr := [], fp := none, lo := 0, hi := 0, dst := none, looks := [], mask }]) recs.length rest with
      | false => rw [hc] at hd; cases hd
      | true =>
       rw [hc] at hd;simp only [Option.some.injEq, Prod.mk.injEq] at hd;obtain ⟨rfl, rfl, rfl⟩ := hd;obtain ⟨c1, c2⟩ := Av hc
       have hrecs : ∀ i x, recs[i]? = some x → (fun i => if i < recs.length then recs.getD i default else ({ wr := [], fp := none, lo := 0, hi := 0, dst := none, looks := [], mask } : Rc)) i = x := by
        intro i x hx;have := (List.getElem?_eq_some_iff.1 hx).1;simp only [this, if_true];simp [hx]
       have hR : (fun i => if i < recs.length then recs.getD i default else ({ wr := [], fp := none, lo := 0, hi := 0, dst := none, looks := [], mask } : Rc)) recs.length = { wr := [], fp := none, lo := 0, hi := 0, dst := none, looks := [], mask } := if_neg (Nat.lt_irrefl _)
       generalize (fun i => if i < recs.length then recs.getD i default else ({ wr := [], fp := none, lo := 0, hi := 0, dst := none, looks := [], mask } : Rc)) = R at hrecs hR
       have hmr := H6 hrecs;refine ⟨fun _ => h, fun _ => tmps, R, fun _ => d, 0, hrecs, rfl, rfl, fun i hi => absurd hi (Nat.not_lt_zero _), (fun hv => by cases hv), fun v hv => ?_⟩
       cases hv;refine ⟨o, rfl, ⟨⟨?_, hdid, hle⟩, hok, ?_, recs, rfl, ?_, ?_⟩, rfl, rfl, rfl⟩
       ·rw [Nat.add_zero, hmr, hR]; exact hmask
       ·show (R recs.length).mask + 1 = 2 ^ recs.length;rw [hR]; exact AA c1
       ·rw [Nat.add_zero, hmr]
       ·rw [Nat.add_zero, hR]; simpa using c2
end
end Go.AE
namespace Go.AE
variable [U : Unk]
def ins (D : Nat → Bool) (j : Nat) : Nat → Bool := fun i => if i = j then true else D i
def Cn (H : Nat → Aa) (R : Nat → Rc) (D : Nat → Bool) : Nat → Nat → Option Aj
 | 0, b => (H 0).blk.get b
 | j + 1, b => if D j = true ∧ (b ∈ (R j).wr ∨ ((R j).lo ≤ b ∧ b < (R j).hi)) then (H (j + 1)).blk.get b else Cn H R D j b
def Tn (Tm : Nat → T AV) (R : Nat → Rc) (D : Nat → Bool) : Nat → Tmp → Option AV
 | 0, t => (Tm 0).get t
 | j + 1, t => if D j = true ∧ (R j).dst = some t then (Tm (j + 1)).get t else Tn Tm R D j t
structure B4 (E : Env) (callF : Ask → Aa → Option (Bool × AV × Aa)) (all : Array Oper) (nt : Nat) (H : Nat → Aa) (Tm : Nat → T AV) (R : Nat → Rc) (Dd : Nat → Did) (n : Nat) : Prop where
 good : ∀ j, j < n → ∃ o, all[j]? = some o ∧ Good E callF all nt H Tm R Dd j o
 wf : WF (H 0)
section
variable {E : Env} {callF : Ask → Aa → Option (Bool × AV × Aa)} {all : Array Oper} {nt : Nat} {H : Nat → Aa} {Tm : Nat → T AV} {R : Nat → Rc} {Dd : Nat → Did} {n : Nat}
 (X : B4 E callF all nt H Tm R Dd n)
include X
theorem B4.hi {j : Nat} (hj : j < n) : (H (j + 1)).nx = (R j).hi := by
 obtain ⟨o, _, g⟩ := X.good j hj;rw [g.heap, g.hi]; rfl
theorem B4.lo {j : Nat} (hj : j < n) : (R j).lo = (H j).nx := by
 obtain ⟨o, _, g⟩ := X.good j hj;exact g.lo
theorem B4.le {j : Nat} (hj : j < n) : (R j).lo ≤ (R j).hi := by
 obtain ⟨o, _, g⟩ := X.good j hj;rw [g.lo, g.hi]; exact g.tx.nx
theorem B4.mono {i : Nat} : ∀ {j : Nat}, i ≤ j → j ≤ n → (H i).nx ≤ (H j).nx
 | 0, hij, _ => by rw [Nat.le_zero.1 hij]; exact Nat.le_refl _
 | j + 1, hij, hj => by
  rcases Nat.lt_or_ge i (j + 1) with h | h
  ·have := B4.mono (i := i) (j := j) (by omega) (by omega)
   have h1 := X.hi (j := j) (by omega)
   have h2 := X.lo (j := j) (by omega)
   have h3 := X.le (j := j) (by omega)
   omega
  ·have : i = j + 1 := by omega
   rw [this]; exact Nat.le_refl _
theorem B4.wfAt : ∀ {j : Nat}, j ≤ n → WF (H j)
 | 0, _ => X.wf
 | j + 1, hj => by
  obtain ⟨o, _, g⟩ := X.good j (by omega)
  rw [g.heap];exact F8 (B4.wfAt (j := j) (by omega)) g.tx.nx
theorem B4.bits {j : Nat} (hj : j < n) : ∀ {i : Nat}, (R j).mask.testBit i = true → i < j := by
 induction j using Nat.strongRecOn with
 | ind j ih =>
  intro i hi;obtain ⟨o, _, g⟩ := X.good j hj;obtain ⟨e, he, hb, x, hx, h⟩ := ((Dq g.tx.mask).2 i).1 hi
  have hon : e.on < j := by
   have := (List.getElem?_eq_some_iff.1 hx).1;simpa using this
  have hxe : x = R e.on := by
   rw [List.getElem?_map, List.getElem?_range hon] at hx;simpa using hx.symm
  rcases h with h | h
  ·rw [hxe] at h;have := ih e.on hon (by omega) h
   omega
  ·omega
theorem B4.apart {i j : Nat} (hij : i < j) (hj : j < n) (hb : (R j).mask.testBit i = false) : (R i).Apart (R j) := by
 obtain ⟨o, _, g⟩ := X.good j hj;rcases I4 g.apart i (R i) (by rw [List.getElem?_map, List.getElem?_range hij]; rfl) with h | h
 ·rw [Nat.zero_add, hb] at h; cases h
 ·exact h
theorem B4.stay {j : Nat} (hj : j < n) {b : Nat} (h1 : b ∉ (R j).wr) (h2 : ¬ ((R j).lo ≤ b ∧ b < (R j).hi)) : (H (j + 1)).blk.get b = (H j).blk.get b := by
 obtain ⟨o, _, g⟩ := X.good j hj;rw [g.wr] at h1;rw [g.lo, g.hi] at h2;rw [g.heap];exact Cu g.tx.nx h1 (by omega)
theorem B4.wr_lt {j : Nat} (hj : j < n) {b : Nat} (hb : b ∈ (R j).wr) : b < (H j).nx := by
 obtain ⟨o, _, g⟩ := X.good j hj;rw [g.wr] at hb;exact (B8.1 hb).2
theorem B4.cn_text {D : Nat → Bool} {b : Nat} : ∀ {m : Nat}, m ≤ n → (∀ i, i < m → D i = false → b ∉ (R i).wr ∧ ¬ ((R i).lo ≤ b ∧ b < (R i).hi)) → Cn H R D m b = (H m).blk.get b
 | 0, _, _ => rfl
 | m + 1, hm, h => by
  simp only [Cn];by_cases hc : D m = true ∧ (b ∈ (R m).wr ∨ ((R m).lo ≤ b ∧ b < (R m).hi))
  ·rw [if_pos hc]
  ·rw [if_neg hc, B4.cn_text (m := m) (by omega) fun i hi => h i (by omega)]
   have : b ∉ (R m).wr ∧ ¬ ((R m).lo ≤ b ∧ b < (R m).hi) := by
    cases hD : D m with
    | false => exact h m (by omega) hD
    | true => exact ⟨fun q => hc ⟨hD, .inl q⟩, fun q => hc ⟨hD, .inr q⟩⟩
   exact (X.stay (by omega) this.1 this.2).symm
omit X in
theorem JC {D : Nat → Bool} {b j : Nat} : ∀ {m : Nat}, j ≤ m → (∀ i, j ≤ i → i < m → D i = true → b ∉ (R i).wr ∧ ¬ ((R i).lo ≤ b ∧ b < (R i).hi)) → Cn H R D m b = Cn H R D j b
 | 0, hj, _ => by rw [Nat.le_zero.1 hj]
 | m + 1, hj, h => by
  rcases Nat.lt_or_ge j (m + 1) with hlt | hge
  ·simp only [Cn];rw [if_neg, JC (by omega) fun i h1 h2 => h i h1 (by omega)]
   rintro ⟨hD, q⟩
   obtain ⟨a1, a2⟩ := h m (by omega) (by omega) hD
   exact q.elim a1 a2
  ·rw [show j = m + 1 by omega]
omit X in
theorem UL {D : Nat → Bool} {b j : Nat} (hD : D j = false) (h1 : b ∉ (R j).wr) (h2 : ¬ ((R j).lo ≤ b ∧ b < (R j).hi)) : ∀ m, Cn H R (ins D j) m b = Cn H R D m b
 | 0 => rfl
 | m + 1 => by
  simp only [Cn];rw [UL hD h1 h2 m];by_cases e : m = j
  ·subst e;rw [if_neg (by rintro ⟨_, q⟩; exact q.elim h1 h2), if_neg (by rintro ⟨q, _⟩; rw [hD] at q; cases q)]
  ·simp [ins, e]
omit X in
theorem SN {D : Nat → Bool} {b j m : Nat} (hjm : j < m) (h1 : b ∈ (R j).wr ∨ ((R j).lo ≤ b ∧ b < (R j).hi)) (h2 : ∀ i, j < i → i < m → D i = true → b ∉ (R i).wr ∧ ¬ ((R i).lo ≤ b ∧ b < (R i).hi)) :
  Cn H R (ins D j) m b = (H (j + 1)).blk.get b := by
 rw [JC (j := j + 1) hjm fun i a1 a2 hD => h2 i a1 a2 (by simpa [ins, show i ≠ j by omega] using hD)]
 simp only [Cn];rw [if_pos ⟨by simp [ins], h1⟩]
theorem B4.tput {j : Nat} (hj : j < n) {t : Tmp} (ht : (R j).dst ≠ some t) : (Tm (j + 1)).get t = (Tm j).get t := by
 obtain ⟨o, _, g⟩ := X.good j hj;have hp := g.put;rw [g.dst] at ht;unfold J0 at hp;split at hp
 ·rename_i d hd;split at hp
  ·simp only [Option.some.injEq] at hp;rw [← hp, T.get_set, if_neg]
   rintro rfl; exact ht hd
  ·cases hp
 ·simp only [Option.some.injEq] at hp;rw [hp]
theorem B4.tn_text {D : Nat → Bool} {t : Tmp} : ∀ {m : Nat}, m ≤ n → (∀ i, i < m → D i = false → (R i).dst ≠ some t) → Tn Tm R D m t = (Tm m).get t
 | 0, _, _ => rfl
 | m + 1, hm, h => by
  simp only [Tn];by_cases hc : D m = true ∧ (R m).dst = some t
  ·rw [if_pos hc]
  ·rw [if_neg hc, B4.tn_text (m := m) (by omega) fun i hi => h i (by omega)]
   refine (X.tput (by omega) ?_).symm
   cases hD : D m with
   | false => exact h m (by omega) hD
   | true => exact fun q => hc ⟨hD, q⟩
omit X in
theorem JL {D : Nat → Bool} {t : Tmp} {j : Nat} : ∀ {m : Nat}, j ≤ m → (∀ i, j ≤ i → i < m → D i = true → (R i).dst ≠ some t) → Tn Tm R D m t = Tn Tm R D j t
 | 0, hj, _ => by rw [Nat.le_zero.1 hj]
 | m + 1, hj, h => by
  rcases Nat.lt_or_ge j (m + 1) with hlt | hge
  ·simp only [Tn];rw [if_neg, JL (by omega) fun i h1 h2 => h i h1 (by omega)]
   rintro ⟨hD, q⟩
   exact h m (by omega) (by omega) hD q
  ·rw [show j = m + 1 by omega]
omit X in
theorem U1 {D : Nat → Bool} {t : Tmp} {j : Nat} (hD : D j = false) (h1 : (R j).dst ≠ some t) : ∀ m, Tn Tm R (ins D j) m t = Tn Tm R D m t
 | 0 => rfl
 | m + 1 => by
  simp only [Tn];rw [U1 hD h1 m];by_cases e : m = j
  ·subst e;rw [if_neg (by rintro ⟨_, q⟩; exact h1 q), if_neg (by rintro ⟨q, _⟩; rw [hD] at q; cases q)]
  ·simp [ins, e]
omit X in
theorem SV {D : Nat → Bool} {t : Tmp} {j m : Nat} (hjm : j < m) (h1 : (R j).dst = some t) (h2 : ∀ i, j < i → i < m → D i = true → (R i).dst ≠ some t) : Tn Tm R (ins D j) m t = (Tm (j + 1)).get t := by
 rw [JL (j := j + 1) hjm fun i a1 a2 hD => h2 i a1 a2 (by simpa [ins, show i ≠ j by omega] using hD)]
 simp only [Tn];rw [if_pos ⟨by simp [ins], h1⟩]
end
end Go.AE
namespace Go.AE
variable [U : Unk]
theorem HR.weaken {ρ : Ren} {g g' : Nat → Option Aj} {w : World} (h : HR ρ g w) (hg : ∀ b x, ρ b ≠ none → g' b = some x → g b = some x) : HR ρ g' w := by
 refine ⟨h.lt, fun b base x hb hx => h.blk b base x hb (hg b x (by rw [hb]; exact Option.some_ne_none _) hx), fun b b' base base' hne hb hb' h1 h2 => h.apart b b' base base' hne hb hb' ?_ ?_, h.imm, fun k arr b base hk hb hl => h.off k arr b base hk hb ?_⟩
 ·cases hx : g' b with
  | none => exact absurd hx h1
  | some x => rw [hg b x (by rw [hb]; exact Option.some_ne_none _) hx]; exact Option.some_ne_none _
 ·cases hx : g' b' with
  | none => exact absurd hx h2
  | some x => rw [hg b' x (by rw [hb']; exact Option.some_ne_none _) hx]; exact Option.some_ne_none _
 ·cases hx : g' b with
  | none => exact absurd hx hl
  | some x => rw [hg b x (by rw [hb]; exact Option.some_ne_none _) hx]; exact Option.some_ne_none _
structure Inv (nt : Nat) (H : Nat → Aa) (Tm : Nat → T AV) (R : Nat → Rc) (n M : Nat) (ρ0 : Ren) (w0 : World) (D : Nat → Bool) (ρ : Ren) (tm : Array Value) (w : World) : Prop where
 sub : ∀ j, D j = true → j < n
 closed : ∀ j, D j = true → ∀ i, (R j).mask.testBit i = true → D i = true
 size : tm.size = nt
 tmp : ∀ t x, Tn Tm R D n t = some x → VR ρ x (tm.getD t undef)
 heap : HR ρ (Cn H R D n) w
 free : ∀ b, (H 0).nx ≤ b → b < M → ρ b ≠ none → ∃ j, D j = true ∧ (R j).lo ≤ b ∧ b < (R j).hi
 le : ρ0.le ρ
 calm : GQ w0 w
 new : ∀ b base, ρ b = some base → ρ0 b = some base ∨ ((H 0).nx ≤ b ∧ b < (H n).nx ∧ (w0.heap.size ≤ base.cb ∨ ∃ b0 base0, ρ0 b0 = some base0 ∧ (H 0).blk.get b0 ≠ none ∧ base0.cb = base.cb))
 kept : ∀ k, k < w0.heap.size → (∀ b base, ρ0 b = some base → (H 0).blk.get b ≠ none → base.cb ≠ k) → w.heap[k]? = w0.heap[k]?
 imm : ∀ k arr, ρ.imm k = some arr → ρ0.imm k = some arr ∨ w0.heap.size ≤ k ∨ ∃ b0 base0, ρ0 b0 = some base0 ∧ (H 0).blk.get b0 ≠ none ∧ base0.cb = k
section
variable {E : Env} {callF : Ask → Aa → Option (Bool × AV × Aa)} {all : Array Oper} {nt : Nat} {H : Nat → Aa} {Tm : Nat → T AV} {R : Nat → Rc} {Dd : Nat → Did} {n M : Nat}
 {ρ0 ρ : Ren} {w0 w : World} {tm : Array Value} {D : Nat → Bool} (X : B4 E callF all nt H Tm R Dd n)
include X
theorem B4.live {b : Nat} (hb : b < (H 0).nx) : ∀ {j : Nat}, j ≤ n → (H j).blk.get b ≠ none → (H 0).blk.get b ≠ none
 | 0, _, h => h
 | j + 1, hj, h => by
  obtain ⟨o, _, g⟩ := X.good j (by omega)
  rw [g.heap] at h;have := X.mono (i := 0) (j := j) (by omega) (by omega)
  rcases FB (X.wfAt (by omega)) g.tx.nx h with h | h
  ·exact B4.live hb (j := j) (by omega) h
  ·omega
theorem B4.cn_live {b : Nat} (hb : b < (H 0).nx) : ∀ {m : Nat}, m ≤ n → Cn H R D m b ≠ none → (H 0).blk.get b ≠ none
 | 0, _, h => h
 | m + 1, hm, h => by
  simp only [Cn] at h;split at h
  ·exact X.live hb (by omega) h
  ·exact B4.cn_live hb (m := m) (by omega) h
theorem B4.disj {i j b : Nat} (hi : i < n) (hj : j < n) (h1 : (R i).lo ≤ b ∧ b < (R i).hi) (h2 : (R j).lo ≤ b ∧ b < (R j).hi) : i = j := by
 rcases Nat.lt_trichotomy i j with h | h | h
 ·have := X.mono (i := i + 1) (j := j) (by omega) (by omega)
  have a := X.hi hi;have c := X.lo hj;omega
 ·exact h
 ·have := X.mono (i := j + 1) (j := i) (by omega) (by omega)
  have a := X.hi hj;have c := X.lo hi;omega
theorem B4.agree (I : Inv nt H Tm R n M ρ0 w0 D ρ tm w) (hM : (H n).nx ≤ M) {j : Nat} (hj : j < n) (hD : D j = false) (hready : ∀ i, (R j).mask.testBit i = true → D i = true) {b : Nat} {x : Aj} (hb : ρ b ≠ none)
  (hx : (part (H j) (Dd j).fp).blk.get b = some x) : Cn H R D n b = some x := by
 obtain ⟨o, ho, g⟩ := X.good j hj
 have hxj : (H j).blk.get b = some x ∧ (∀ l, (R j).fp = some l → b ∈ l) := by
  rw [g.fp];cases hfp : (Dd j).fp with
  | none => rw [hfp] at hx; exact ⟨hx, (fun l hl => by cases hl)⟩
  | some ids =>
   rw [hfp] at hx;rcases Dk (H j) ids b with q | ⟨q1, q2⟩
   ·simp only [part] at hx; rw [q] at hx; cases hx
   ·exact ⟨q2 ▸ hx, fun l hl => by cases hl; exact q1⟩
 have hlt : b < (H j).nx := by
  rcases Nat.lt_or_ge b (H j).nx with h | h
  ·exact h
  ·rw [X.wfAt (by omega) b h] at hxj; cases hxj.1
 have hwr : ∀ i, i < n → i ≠ j → (i < j → (R j).mask.testBit i = false) → (j < i → (R i).mask.testBit j = false) → b ∉ (R i).wr := by
  intro i hi hne h1 h2 hm;rcases Nat.lt_or_ge i j with h | h
  ·have a := X.apart h hj (h1 h);cases hfp : (R j).fp with
   | none => rw [a.fp1n hfp] at hm; cases hm
   | some l => exact a.fp1 b hm l hfp (hxj.2 l hfp)
  ·have a := X.apart (show j < i by omega) hi (h2 (by omega))
   cases hfp : (R j).fp with
   | none => rw [a.fp2n hfp] at hm; cases hm
   | some l => exact a.fp2 b hm l hfp (hxj.2 l hfp)
 have hC : Cn H R D n b = Cn H R D j b := by
  refine JC (by omega) fun i h1 h2 hDi => ?_
  have hne : i ≠ j := by rintro rfl; rw [hD] at hDi; cases hDi
  refine ⟨hwr i h2 hne (fun h => by omega) fun h => ?_, ?_⟩
  ·cases hb : (R i).mask.testBit j with
   | false => rfl
   | true => rw [I.closed i hDi j hb] at hD; cases hD
  ·have := X.mono (i := j) (j := i) h1 (by omega)
   have := X.lo h2;omega
 rw [hC, X.cn_text (by omega) fun i hi hDi => ?_, hxj.1]
 refine ⟨hwr i (by omega) (by omega) (fun h => ?_) (fun h => by omega), fun hnew => ?_⟩
 ·cases hb : (R j).mask.testBit i with
  | false => rfl
  | true => rw [hready i hb] at hDi; cases hDi
 ·have hlo := X.lo (show i < n by omega)
  have h0 := X.mono (i := 0) (j := i) (by omega) (by omega)
  have h1 := X.mono (i := j) (j := n) (by omega) (by omega)
  obtain ⟨j', hD', hr'⟩ := I.free b (by omega) (by omega) hb
  have := X.disj (show i < n by omega) (I.sub j' hD') hnew hr'
  subst this;rw [hDi] at hD'; cases hD'
theorem B4.tagree (I : Inv nt H Tm R n M ρ0 w0 D ρ tm w) {j : Nat} (hj : j < n) (hD : D j = false) (hready : ∀ i, (R j).mask.testBit i = true → D i = true) : TR ρ nt (BQ (Tm j) (R j).looks) tm := by
 refine ⟨I.size, fun t x hx => I.tmp t x ?_⟩
 obtain ⟨hl, hx⟩ := Dl _ _ _ _ hx
 have hT : Tn Tm R D n t = Tn Tm R D j t := by
  refine JL (by omega) fun i h1 h2 hDi hd => ?_
  have hne : i ≠ j := by rintro rfl; rw [hD] at hDi; cases hDi
  have a := X.apart (show j < i by omega) h2 (by
   cases hb : (R i).mask.testBit j with
   | false => rfl
   | true => rw [I.closed i hDi j hb] at hD; cases hD)
  exact a.look2 t hd hl
 rw [hT, X.tn_text (by omega) fun i hi hDi hd => ?_, hx]
 have a := X.apart hi hj (by
  cases hb : (R j).mask.testBit i with
  | false => rfl
  | true => rw [hready i hb] at hDi; cases hDi)
 exact a.look1 t hd hl
end
end Go.AE
namespace Go.AE
variable [U : Unk]
section
variable {E : Env} {callF : Ask → Aa → Option (Bool × AV × Aa)} {all : Array Oper} {nt : Nat} {H : Nat → Aa} {Tm : Nat → T AV} {R : Nat → Rc} {Dd : Nat → Did} {n M : Nat}
 {ρ0 ρ σ : Ren} {w0 w w' : World} {tm : Array Value} {D : Nat → Bool} (X : B4 E callF all nt H Tm R Dd n)
include X
theorem B4.after (I : Inv nt H Tm R n M ρ0 w0 D ρ tm w) (hM : (H n).nx ≤ M) {j : Nat} (hj : j < n) (hD : D j = false) (hready : ∀ i, (R j).mask.testBit i = true → D i = true)
  (q3 : HR σ (Dd j).g.blk.get w') (q4 : Ext ρ σ (part (H j) (Dd j).fp) (Dd j).g w w') : HR σ (Cn H R (ins D j) n) w' := by
 obtain ⟨o, ho, g⟩ := X.good j hj;have hnxp : (part (H j) (Dd j).fp).nx = (H j).nx := by cases (Dd j).fp <;> rfl
 have hlogp : (part (H j) (Dd j).fp).log = [] := by cases (Dd j).fp <;> rfl
 obtain ⟨l, hl1, hl2⟩ := q4.log;rw [hlogp, List.append_nil] at hl1;have hag : ∀ b x, ρ b ≠ none → (part (H j) (Dd j).fp).blk.get b = some x → Cn H R D n b = some x := fun b x hb hx => X.agree I hM hj hD hready hb hx
 have hlater : ∀ b, (b ∈ (R j).wr ∨ ((R j).lo ≤ b ∧ b < (R j).hi)) → ∀ i, j < i → i < n → D i = true → b ∉ (R i).wr ∧ ¬ ((R i).lo ≤ b ∧ b < (R i).hi) := by
  intro b hb i hi hin hDi
  have a := X.apart hi hin (by
   cases hb : (R i).mask.testBit j with
   | false => rfl
   | true => rw [I.closed i hDi j hb] at hD; cases hD)
  have h1 := X.mono (i := j + 1) (j := i) (by omega) (by omega)
  have h2 := X.hi hj;have h3 := X.lo hin;have h4 := X.lo hj;have h5 := X.le hj;rcases hb with hb | hb
  ·have := X.wr_lt hj hb;exact ⟨a.wr b hb, fun h => by omega⟩
  ·exact ⟨fun h => a.out b h hb, fun h => by omega⟩
 have hcase : ∀ b x, Cn H R (ins D j) n b = some x → ((b ∈ (R j).wr ∨ ((R j).lo ≤ b ∧ b < (R j).hi)) ∧ (Dd j).g.blk.get b = some x) ∨ ((b ∉ (R j).wr ∧ ¬ ((R j).lo ≤ b ∧ b < (R j).hi)) ∧ Cn H R D n b = some x) := by
  intro b x hx;by_cases hb : b ∈ (R j).wr ∨ ((R j).lo ≤ b ∧ b < (R j).hi)
  ·refine .inl ⟨hb, ?_⟩;rw [SN hj hb (hlater b hb), g.heap] at hx;rcases hb with hb | hb
   ·rw [g.wr] at hb;rcases F7 hb with q | ⟨_, q⟩
    ·rw [q] at hx; cases hx
    ·rw [← q]; exact hx
   ·rw [g.lo, g.hi] at hb;rw [GM (X.wfAt (by omega)) g.tx.nx hb.1 hb.2] at hx
    exact hx
  ·have hb1 : b ∉ (R j).wr := fun q => hb (.inl q)
   have hb2 : ¬ ((R j).lo ≤ b ∧ b < (R j).hi) := fun q => hb (.inr q)
   rw [UL hD hb1 hb2] at hx;exact .inr ⟨⟨hb1, hb2⟩, hx⟩
 have hgiven : ∀ b base x, (b ∉ (R j).wr ∧ ¬ ((R j).lo ≤ b ∧ b < (R j).hi)) → σ b = some base → Cn H R D n b = some x → ρ b = some base ∧ ((part (H j) (Dd j).fp).blk.get b ≠ none → (Dd j).g.blk.get b = some x) := by
  intro b base x hb hs hx
  have hρ : ρ b = some base := by
   rcases q4.new b base hs with h | ⟨h1, h2, _⟩
   ·exact h
   ·rw [hnxp] at h1;exact absurd ⟨g.lo ▸ h1, g.hi ▸ h2⟩ hb.2
  refine ⟨hρ, fun hp => ?_⟩
  cases hy : (part (H j) (Dd j).fp).blk.get b with
  | none => exact absurd hy hp
  | some y =>
   have := hag b y (by rw [hρ]; exact Option.some_ne_none _) hy
   rw [hx] at this;cases this
   have hlt : b < (H j).nx := by
    rcases Nat.lt_or_ge b (H j).nx with h | h
    ·exact h
    ·have := Jv (X.wfAt (j := j) (by omega)) (Dd j).fp b (by rw [hnxp]; exact h)
     rw [this] at hy; cases hy
   rw [hl2 b ?_ (.inl (by rw [hnxp]; exact hlt)), hy]
   intro hm;refine hb.1 ?_;rw [g.wr, B8, hl1];exact ⟨hm, hlt⟩
 refine ⟨q3.lt, fun b base x hs hx => ?_, fun b b' base base' hne hs hs' h1 h2 => ?_, q3.imm, fun k arr b base hk hs hl => ?_⟩
 ·rcases hcase b x hx with ⟨_, hg⟩ | ⟨hb, hc⟩
  ·exact q3.blk b base x hs hg
  ·obtain ⟨hρ, hgv⟩ := hgiven b base x hb hs hc;by_cases hp : (part (H j) (Dd j).fp).blk.get b = none
   ·have hk := q4.kept base.cb (I.heap.lt b base hρ) (fun b0 base0 hb0 hl0 => by
     have hne : b0 ≠ b := by rintro rfl; exact hl0 hp
     cases hy : (part (H j) (Dd j).fp).blk.get b0 with
     | none => exact absurd hy hl0
     | some y =>
      have := hag b0 y (by rw [hb0]; exact Option.some_ne_none _) hy
      exact I.heap.apart b0 b base0 base hne hb0 hρ (by rw [this]; exact Option.some_ne_none _) (by rw [hc]; exact Option.some_ne_none _))
    rw [hk];exact (I.heap.blk b base x hρ hc).mono q4.le
   ·exact q3.blk b base x hs (hgv hp)
 ·have key : ∀ b b' base base', b ≠ b' → σ b = some base → σ b' = some base' → Cn H R (ins D j) n b ≠ none → Cn H R (ins D j) n b' ≠ none → (Dd j).g.blk.get b = none → base.cb ≠ base'.cb := by
   intro b b' base base' hne hs hs' h1 h2 hgn;cases hx : Cn H R (ins D j) n b with
   | none => exact absurd hx h1
   | some x =>
    cases hx' : Cn H R (ins D j) n b' with
    | none => exact absurd hx' h2
    | some x' =>
     rcases hcase b x hx with ⟨_, hg⟩ | ⟨hb, hc⟩
     ·rw [hgn] at hg; cases hg
     ·obtain ⟨hρ, hgv⟩ := hgiven b base x hb hs hc
      have hp : (part (H j) (Dd j).fp).blk.get b = none := by
       cases hp : (part (H j) (Dd j).fp).blk.get b with
       | none => rfl
       | some y => have := hgv (by rw [hp]; exact Option.some_ne_none _); rw [hgn] at this; cases this
      have hCb : Cn H R D n b ≠ none := by rw [hc]; exact Option.some_ne_none _
      have hap : ∀ b0 base0, ρ b0 = some base0 → (part (H j) (Dd j).fp).blk.get b0 ≠ none → base.cb ≠ base0.cb := by
       intro b0 base0 hb0 hl0;have hne0 : b ≠ b0 := by rintro rfl; exact hl0 hp
       cases hy : (part (H j) (Dd j).fp).blk.get b0 with
       | none => exact absurd hy hl0
       | some y =>
        have := hag b0 y (by rw [hb0]; exact Option.some_ne_none _) hy
        exact I.heap.apart b b0 base base0 hne0 hρ hb0 hCb (by rw [this]; exact Option.some_ne_none _)
      rcases hcase b' x' hx' with ⟨hb', hg'⟩ | ⟨hb', hc'⟩
      ·rcases q4.new b' base' hs' with h | ⟨_, _, h | ⟨b0, base0, e1, e2, e3⟩⟩
       ·rcases q4.live b' (by rw [hg']; exact Option.some_ne_none _) with hl | ⟨hl, hl'⟩
        ·exact hap b' base' h hl
        ·
         rw [hnxp] at hl;have hlo := X.lo hj;have h0 := X.mono (i := 0) (j := j) (by omega) (by omega)
         have h1 := X.mono (i := j + 1) (j := n) (by omega) (by omega)
         have h2 := X.hi hj;rw [g.hi] at h2;obtain ⟨j', hD', hr'⟩ := I.free b' (by omega) (by omega) (by rw [h]; exact Option.some_ne_none _)
         have := X.disj hj (I.sub j' hD') ⟨by omega, by rw [g.hi]; exact hl'⟩ hr'
         subst this;rw [hD] at hD'; cases hD'
       ·have := I.heap.lt b base hρ;omega
       ·rw [← e3]; exact hap b0 base0 e1 e2
      ·obtain ⟨hρ', _⟩ := hgiven b' base' x' hb' hs' hc';exact I.heap.apart b b' base base' hne hρ hρ' hCb (by rw [hc']; exact Option.some_ne_none _)
  by_cases hg : (Dd j).g.blk.get b = none
  ·exact key b b' base base' hne hs hs' h1 h2 hg
  ·by_cases hg' : (Dd j).g.blk.get b' = none
   ·exact fun e => key b' b base' base (Ne.symm hne) hs' hs h2 h1 hg' e.symm
   ·exact q3.apart b b' base base' hne hs hs' hg hg'
 ·cases hx : Cn H R (ins D j) n b with
  | none => exact absurd hx hl
  | some x =>
   rcases hcase b x hx with ⟨_, hg⟩ | ⟨hb, hc⟩
   ·exact q3.off k arr b base hk hs (by rw [hg]; exact Option.some_ne_none _)
   ·obtain ⟨hρ, hgv⟩ := hgiven b base x hb hs hc;have hCb : Cn H R D n b ≠ none := by rw [hc]; exact Option.some_ne_none _
    by_cases hp : (part (H j) (Dd j).fp).blk.get b = none
    ·rcases q4.imm k arr hk with h | h | ⟨b0, base0, e1, e2, e3⟩
     ·exact I.heap.off k arr b base h hρ hCb
     ·have := I.heap.lt b base hρ; omega
     ·have hne0 : b ≠ b0 := by rintro rfl; exact e2 hp
      cases hy : (part (H j) (Dd j).fp).blk.get b0 with
      | none => exact absurd hy e2
      | some y =>
       have := hag b0 y (by rw [e1]; exact Option.some_ne_none _) hy
       rw [← e3];exact I.heap.apart b b0 base base0 hne0 hρ e1 hCb (by rw [this]; exact Option.some_ne_none _)
    ·exact q3.off k arr b base hk hs (by rw [hgv hp]; exact Option.some_ne_none _)
theorem B4.step (I : Inv nt H Tm R n M ρ0 w0 D ρ tm w) (hM : (H n).nx ≤ M) (hfree : A9 ρ0 (H 0).nx M) {j : Nat} (hj : j < n) (hD : D j = false) (hready : ∀ i, (R j).mask.testBit i = true → D i = true) {v' : Value}
  (q2 : VR σ (Dd j).v v') (q3 : HR σ (Dd j).g.blk.get w') (q4 : Ext ρ σ (part (H j) (Dd j).fp) (Dd j).g w w') : Inv nt H Tm R n M ρ0 w0 (ins D j) σ (HK tm (R j).dst v') w' := by
 obtain ⟨o, ho, g⟩ := X.good j hj;have hnxp : (part (H j) (Dd j).fp).nx = (H j).nx := by cases (Dd j).fp <;> rfl
 have hlo := X.lo hj;have hhi := X.hi hj;have hm0 := X.mono (i := 0) (j := j) (by omega) (by omega)
 have hmn := X.mono (i := j + 1) (j := n) (by omega) (by omega)
 have hold : ∀ b0 base0, ρ b0 = some base0 → (part (H j) (Dd j).fp).blk.get b0 ≠ none → w0.heap.size ≤ base0.cb ∨ ∃ b1 base1, ρ0 b1 = some base1 ∧ (H 0).blk.get b1 ≠ none ∧ base1.cb = base0.cb := by
  intro b0 base0 hb0 hl0;cases hy : (part (H j) (Dd j).fp).blk.get b0 with
  | none => exact absurd hy hl0
  | some y =>
   have hc := X.agree I hM hj hD hready (by rw [hb0]; exact Option.some_ne_none _) hy
   rcases I.new b0 base0 hb0 with h | ⟨_, _, h⟩
   ·right;refine ⟨b0, base0, h, ?_, rfl⟩
    have hlt : b0 < (H 0).nx := by
     rcases Nat.lt_or_ge b0 (H 0).nx with q | q
     ·exact q
     ·have hlt : b0 < (H j).nx := by
       rcases Nat.lt_or_ge b0 (H j).nx with h | h
       ·exact h
       ·have := Jv (X.wfAt (j := j) (by omega)) (Dd j).fp b0 (by rw [hnxp]; exact h)
        rw [this] at hy; cases hy
      have := X.le hj;rw [hfree b0 q (by omega)] at h; cases h
    exact X.cn_live (D := D) hlt (Nat.le_refl n) (by rw [hc]; exact Option.some_ne_none _)
   ·exact h
 refine ⟨?_, ?_, ?_, ?_, X.after I hM hj hD hready q3 q4, ?_, I.le.trans q4.le, I.calm.trans q4.calm, ?_, ?_, ?_⟩
 ·intro i hi;by_cases e : i = j
  ·omega
  ·exact I.sub i (by simpa [ins, e] using hi)
 ·intro i hi k hk;by_cases e : i = j
  ·subst e;have := hready k hk;by_cases e2 : k = i
   ·simp [ins, e2]
   ·simpa [ins, e2] using this
  ·have := I.closed i (by simpa [ins, e] using hi) k hk
   by_cases e2 : k = j
   ·simp [ins, e2]
   ·simpa [ins, e2] using this
 ·unfold HK; split <;> simp [I.size]
 ·intro t x hx;by_cases hd : (R j).dst = some t
  ·rw [SV hj hd (fun i h1 h2 hDi hdi => by
    have a := X.apart h1 h2 (by
     cases hb : (R i).mask.testBit j with
     | false => rfl
     | true => rw [I.closed i hDi j hb] at hD; cases hD)
    exact a.dst t hd hdi)] at hx
   have hp := g.put;rw [g.dst] at hd;rw [hd] at hp;simp only [J0] at hp;cases hb : Nat.blt t nt with
   | false => rw [hb] at hp; cases hp
   | true =>
    rw [hb] at hp;simp only [Option.some.injEq] at hp;rw [← hp, T.get_set, if_pos rfl] at hx;cases hx;have hlt : t < tm.size := by rw [I.size]; simpa [Nat.blt_eq] using hb
    rw [g.dst, hd];simpa [HK, Array.getD_eq_getD_getElem?, hlt] using q2
  ·rw [U1 hD hd] at hx;have := (I.tmp t x hx).mono q4.le;unfold HK;split
   ·rename_i d hdd;have hne : d ≠ t := by rintro rfl; exact hd hdd
    simpa [Array.getD_eq_getD_getElem?, Array.getElem?_setIfInBounds_ne hne] using this
   ·exact this
 ·intro b h1 h2 hb;cases hs : σ b with
  | none => exact absurd hs hb
  | some base =>
   rcases q4.new b base hs with h | ⟨a1, a2, _⟩
   ·obtain ⟨i, hi, hr⟩ := I.free b h1 h2 (by rw [h]; exact Option.some_ne_none _)
    refine ⟨i, ?_, hr⟩;by_cases e : i = j
    ·simp [ins, e]
    ·simpa [ins, e] using hi
   ·exact ⟨j, by simp [ins], by omega, by rw [g.hi]; exact a2⟩
 ·intro b base hs;rcases q4.new b base hs with h | ⟨a1, a2, a3⟩
  ·exact I.new b base h
  ·right;rw [g.hi] at hhi;refine ⟨by omega, by omega, ?_⟩
   rcases a3 with a3 | ⟨b0, base0, e1, e2, e3⟩
   ·left; have := I.calm.size; omega
   ·rw [← e3]; exact hold b0 base0 e1 e2
 ·intro k hk hno
  rw [q4.kept k (by have := I.calm.size; omega) (fun b0 base0 hb0 hl0 => by
   rcases hold b0 base0 hb0 hl0 with h | ⟨b1, base1, e1, e2, e3⟩
   ·omega
   ·rw [← e3]; exact hno b1 base1 e1 e2)]
  exact I.kept k hk hno
 ·intro k arr hk;rcases q4.imm k arr hk with h | h | ⟨b0, base0, e1, e2, e3⟩
  ·exact I.imm k arr h
  ·right; left; have := I.calm.size; omega
  ·right;rcases hold b0 base0 e1 e2 with h | ⟨b1, base1, f1, f2, f3⟩
   ·left; omega
   ·right; exact ⟨b1, base1, f1, f2, f3.trans e3⟩
end
end Go.AE
namespace Go.AE
variable [U : Unk]
theorem Jd {j : Nat} : ∀ {rest : List Oper} {recs : List Rc}, (∀ i x, i < j → recs[i]? = some x → x.mask.testBit j = false) → j < recs.length → Ev recs j rest = true → ∀ o ∈ rest, ∃ e ∈ o.after.toList, Region.binds .any e = true ∧ j ≤ e.on
 | [], recs, _, _, _, o, ho => by cases ho
 | o :: rest, recs, hb, hj, h, x, hx => by
  simp only [Ev] at h;cases hm : Co recs o.after.toList with
  | none => rw [hm] at h; cases h
  | some mask =>
   rw [hm] at h;simp only [TF] at h;cases ht : mask.testBit j with
   | false => rw [ht] at h; cases h
   | true =>
    rw [ht] at h;rcases List.mem_cons.1 hx with rfl | hx
    ·obtain ⟨e, he, hbe, y, hy, hh⟩ := ((Dq hm).2 j).1 ht;refine ⟨e, he, hbe, ?_⟩;rcases Nat.lt_or_ge e.on j with hlt | hge
     ·rcases hh with hh | hh
      ·rw [hb e.on y hlt hy] at hh; cases hh
      ·omega
     ·exact hge
    ·refine Jd (recs := recs ++ [{ wr := [], fp := none, lo := 0, hi := 0, dst := none, looks := [], mask }]) (fun i y hi hy => ?_) (by simp; omega) h x hx
     rw [List.getElem?_append_left (by omega)] at hy
     exact hb i y hi hy
theorem Po {E : Env} {callF : Ask → Aa → Option (Bool × AV × Aa)} {all : Array Oper} {o : Oper} {t : T AV} {h : Aa} {d : Did} (hd : FI E callF all o t h = some d) (hok : d.ok = false) : d.fp = none := by
 unfold FI at hd;split at hd
 ·cases hd
 ·cases hd; cases hok
 ·split at hd
  ·simp only at hd;split at hd
   ·cases hd; cases hok
   ·cases hd
  ·split at hd
   ·split at hd
    ·cases hd; rfl
    ·cases hd
   ·split at hd
    ·cases hd; rfl
    ·cases hd
   ·cases hd
section
variable {E : Env} {callF : Ask → Aa → Option (Bool × AV × Aa)} {all : Array Oper} {nt : Nat} {H : Nat → Aa} {Tm : Nat → T AV} {R : Nat → Rc} {Dd : Nat → Did} {n M : Nat}
 {ρ0 ρ σ : Ren} {w0 w w' : World} {tm : Array Value} {D : Nat → Bool} (X : B4 E callF all nt H Tm R Dd n)
include X
omit X in
theorem ik (ht : TR ρ0 nt (Tm 0) tm) (hr : HR ρ0 (H 0).blk.get w0) (hfree : A9 ρ0 (H 0).nx M) (hD : ∀ i, D i = false) : Inv nt H Tm R n M ρ0 w0 D ρ0 tm w0 := by
 have hno : ∀ i, D i ≠ true := fun i h => by rw [hD i] at h; cases h
 refine ⟨fun j h => absurd h (hno j), fun j h => absurd h (hno j), ht.size, fun t x hx => ht.get t x ?_, hr.weaken fun b x hb hx => ?_, fun b h1 h2 hb => absurd (hfree b h1 h2) hb, Ren.le_refl _, GQ.refl _, fun b base h => .inl h, fun k hk hno => rfl, fun k arr h => .inl h⟩
 ·rw [JL (j := 0) (Nat.zero_le _) fun i _ _ h => absurd h (hno i)] at hx; exact hx
 ·rw [JC (j := 0) (Nat.zero_le _) fun i _ _ h => absurd h (hno i)] at hx; exact hx
theorem B4.logs : ∀ {j : Nat}, j ≤ n → ∃ l, (H j).log = l ++ (H 0).log ∧ ∀ b, b ∉ l → (b < (H 0).nx ∨ (H j).nx ≤ b) → (H j).blk.get b = (H 0).blk.get b
 | 0, _ => ⟨[], rfl, fun _ _ _ => rfl⟩
 | j + 1, hj => by
  obtain ⟨l, h1, h2⟩ := B4.logs (j := j) (by omega)
  obtain ⟨o, _, g⟩ := X.good j (by omega)
  have hm := X.mono (i := 0) (j := j) (by omega) (by omega)
  have hl := X.lo (show j < n by omega)
  have hh := X.hi (show j < n by omega)
  have hle := X.le (show j < n by omega)
  refine ⟨(R j).wr ++ l, ?_, fun b hb ho => ?_⟩
  ·rw [g.heap, g.wr, List.append_assoc, ← h1]; rfl
  ·simp only [List.mem_append, not_or] at hb;rw [X.stay (by omega) hb.1 (by omega), h2 b hb.2 (by omega)]
theorem B4.final (I : Inv nt H Tm R n M ρ0 w0 D ρ tm w) (hD : ∀ i, i < n → D i = true) : TR ρ nt (Tm n) tm ∧ HR ρ (H n).blk.get w ∧ Ext ρ0 ρ (H 0) (H n) w0 w := by
 have hno : ∀ i, i < n → D i ≠ false := fun i hi h => by rw [hD i hi] at h; cases h
 refine ⟨⟨I.size, fun t x hx => I.tmp t x ?_⟩, I.heap.weaken fun b x hb hx => ?_, ⟨I.le, X.mono (Nat.zero_le _) (Nat.le_refl _), I.new, I.calm, I.kept, X.logs (Nat.le_refl _), fun b hb => ?_, I.imm⟩⟩
 ·rw [X.tn_text (Nat.le_refl _) fun i hi h => absurd h (hno i hi)]; exact hx
 ·rw [X.cn_text (Nat.le_refl _) fun i hi h => absurd h (hno i hi)]; exact hx
 ·rcases Nat.lt_or_ge b (H 0).nx with h | h
  ·exact .inl (X.live h (Nat.le_refl _) hb)
  ·refine .inr ⟨h, ?_⟩;rcases Nat.lt_or_ge b (H n).nx with h' | h'
   ·exact h'
   ·exact absurd (X.wfAt (Nat.le_refl _) b h') hb
omit X in
theorem OC {j : Nat} {o : Oper} (t : Tx E callF all H Tm R Dd j o) {e : Edge} (he : e ∈ o.after.toList) (hb : Region.binds .any e = true) : e.on < j := by
 obtain ⟨x, hx⟩ := (Dq t.mask).1 e he hb;have := (List.getElem?_eq_some_iff.1 hx).1;simpa using this
omit X in
theorem Q3 {j : Nat} {o : Oper} (t : Tx E callF all H Tm R Dd j o) (hcl : ∀ j, D j = true → ∀ i, (R j).mask.testBit i = true → D i = true)
  (hon : ∀ e ∈ o.after.toList, Region.binds .any e = true → D e.on = true) {i : Nat} (hi : (R j).mask.testBit i = true) : D i = true := by
 obtain ⟨e, he, hb, x, hx, h⟩ := ((Dq t.mask).2 i).1 hi;have hlt := OC t he hb;rw [List.getElem?_map, List.getElem?_range hlt] at hx;simp only [Option.map_some, Option.some.injEq] at hx;subst hx;rcases h with h | h
 ·exact hcl e.on (hon e he hb) i h
 ·rw [h]; exact hon e he hb
end
end Go.AE
namespace Go.AE
variable [U : Unk]
theorem LS : ∀ {l : List Bool} {i : Nat}, l[i]? = some false → (l.set i true).count true = l.count true + 1
 | [], i, h => by cases h
 | b :: l, 0, h => by
  simp only [List.getElem?_cons_zero, Option.some.injEq] at h;subst h;simp
 | b :: l, i + 1, h => by
  have := LS (l := l) (i := i) (by simpa using h)
  simp only [List.set_cons_succ, List.count_cons, this];omega
theorem T8 {a : Array Bool} {i : Nat} (hi : i < a.size) : (fun j => (a.setIfInBounds i true).getD j false) = ins (fun j => a.getD j false) i := by
 funext j
 simp only [ins, Array.getD_eq_getD_getElem?];by_cases e : j = i
 ·subst e; simp [hi]
 ·rw [if_neg e, Array.getElem?_setIfInBounds_ne (Ne.symm e)]
section
variable {E : Env} (hE : OK E) {callF : Ask → Aa → Option (Bool × AV × Aa)} (hF : Lb E callF) {all : Array Oper} {nt : Nat} {H : Nat → Aa} {Tm : Nat → T AV} {R : Nat → Rc} {Dd : Nat → Did} {n M : Nat}
 {ρ0 : Ren} {w0 : World} {k : List Item} {cs : List Frame} (X : B4 E callF all nt H Tm R Dd n)
include hE hF X
theorem B4.sched (hM : (H n).nx ≤ M) (hfree : A9 ρ0 (H 0).nx M) (hle : n ≤ all.size)
  (hbad : n < all.size → ∃ o, all[n]? = some o ∧ Bad E callF all H Tm R Dd n o (all.toList.drop (n + 1))) :
  ∀ (fuel t : Nat) (listed : Array Bool) (ρ : Ren) (w : World) (c : Frame), c.mode = .run → c.todo = .inRegion all (Region.linearise.go .any all fuel t listed []) :: k → listed.size = all.size →
   all.size ≤ fuel + listed.toList.count true → Inv nt H Tm R n M ρ0 w0 (fun i => listed.getD i false) ρ c.tmps w →
   ∃ rest σ tm' w' D', Inv nt H Tm R n M ρ0 w0 D' σ tm' w' ∧ (∀ i, i < n → D' i = true) ∧ Steps E.P (lone c cs w) (lone { c with tmps := tm', todo := .inRegion all rest :: k } cs w') ∧
    (n = all.size → rest = []) ∧ (n < all.size → ∃ r, rest = n :: r) := by
 have htx : ∀ j, j < all.size → j ≤ n → ∃ o, all[j]? = some o ∧ Tx E callF all H Tm R Dd j o := by
  intro j hj hjn;rcases Nat.lt_or_ge j n with h | h
  ·obtain ⟨o, h1, h2⟩ := X.good j h; exact ⟨o, h1, h2.tx⟩
  ·have : j = n := by omega
   subst this;obtain ⟨o, h1, h2⟩ := hbad hj; exact ⟨o, h1, h2.tx⟩
 have hend : ∀ (listed : Array Bool) (ρ : Ren) (w : World) (c : Frame), listed.size = all.size → c.todo = .inRegion all [] :: k → Inv nt H Tm R n M ρ0 w0 (fun i => listed.getD i false) ρ c.tmps w → (∀ i, i < all.size → listed.getD i false = true) →
   ∃ rest σ tm' w' D', Inv nt H Tm R n M ρ0 w0 D' σ tm' w' ∧ (∀ i, i < n → D' i = true) ∧ Steps E.P (lone c cs w) (lone { c with tmps := tm', todo := .inRegion all rest :: k } cs w') ∧
    (n = all.size → rest = []) ∧ (n < all.size → ∃ r, rest = n :: r) := by
  intro listed ρ w c hsz ht I hall;refine ⟨[], ρ, c.tmps, w, _, I, fun i hi => hall i (by omega), ?_, fun _ => rfl, fun h => ?_⟩
  ·rw [← ht]; exact Steps.refl _ _
  ·exact absurd (I.sub n (hall n h)) (Nat.lt_irrefl _)
 intro fuel
 induction fuel with
 | zero =>
  intro t listed ρ w c hm ht hsz hcnt I;refine hend listed ρ w c hsz (by simpa [Region.linearise.go] using ht) I fun i hi => ?_
  have hlen : listed.toList.count true = listed.toList.length := by
   have := List.count_le_length (a := true) (l := listed.toList);have e : listed.toList.length = listed.size := Array.length_toList;omega
  have := (List.count_eq_length.1 hlen) (listed[i]'(by omega)) (by simp)
  rw [Array.getD_eq_getD_getElem?];simp [hsz, hi, ← this]
 | succ fuel ih =>
  intro t listed ρ w c hm ht hsz hcnt I
  have hgo : Region.linearise.go .any all (fuel + 1) t listed [] = (match (Region.ready .any all listed)[t % (Region.ready .any all listed).length]? with
   | some i => Region.linearise.go .any all fuel (t / (Region.ready .any all listed).length) (listed.setIfInBounds i true) [i]
   | none => [].reverse) := rfl
  cases hi : (Region.ready .any all listed)[t % (Region.ready .any all listed).length]? with
  | none =>
   have hnil : Region.ready .any all listed = [] := by
    cases hr : Region.ready .any all listed with
    | nil => rfl
    | cons x xs =>
     rw [hr] at hi;have hlt : t % (x :: xs).length < (x :: xs).length := Nat.mod_lt _ (by simp)
     simp at hi;simp at hlt;omega
   rw [hgo, hi] at ht;refine hend listed ρ w c hsz ht I fun i => ?_
   induction i using Nat.strongRecOn with
   | ind i ihi =>
    intro hia;cases hli : listed.getD i false with
    | true => rfl
    | false =>
     exfalso
     have hin : i ≤ n := by
      rcases Nat.lt_or_ge n i with h | h
      ·exact absurd (I.sub n (ihi n h (by omega))) (Nat.lt_irrefl _)
      ·exact h
     obtain ⟨o, ho, tx⟩ := htx i hia hin
     have : i ∈ Region.ready .any all listed := by
      unfold Region.ready;rw [List.mem_filter];refine ⟨by simpa using hia, ?_⟩
      have h1 : listed.getD i true = false := by
       rw [Array.getD_eq_getD_getElem?] at hli ⊢;have : i < listed.size := by omega
       simpa [this] using hli
      simp only [h1, ho, Option.map_some, Option.getD_some, Bool.not_false, Bool.true_and];rw [Array.all_eq_true_iff_forall_mem];intro e he;cases hb : Region.binds .any e with
      | false => rfl
      | true =>
       have hlt := OC tx (by simpa using he) hb
       simp [ihi e.on hlt (by omega)]
     rw [hnil] at this; cases this
  | some i =>
   have hmem : i ∈ Region.ready .any all listed := List.mem_of_getElem? hi;rw [hgo, hi] at ht;simp only at ht;rw [linearise_go_acc, List.reverse_singleton, List.singleton_append] at ht;unfold Region.ready at hmem;rw [List.mem_filter] at hmem;obtain ⟨hia, hcond⟩ := hmem;simp only [List.mem_range] at hia;simp only [Bool.and_eq_true, Bool.not_eq_true'] at hcond;obtain ⟨hun, hedges⟩ := hcond
   have hun' : listed.getD i false = false := by
    rw [Array.getD_eq_getD_getElem?] at hun ⊢;have : i < listed.size := by omega
    simpa [this] using hun
   have hon : ∀ o, all[i]? = some o → ∀ e ∈ o.after.toList, Region.binds .any e = true → listed.getD e.on false = true := by
    intro o ho e he hb;rw [ho] at hedges;simp only [Option.map_some, Option.getD_some] at hedges;rw [Array.all_eq_true_iff_forall_mem] at hedges;have := hedges e (by simpa using he)
    simpa [hb] using this
   rcases Nat.lt_trichotomy i n with hin | hin | hin
   ·obtain ⟨o, ho, g⟩ := X.good i hin;have hready : ∀ q, (R i).mask.testBit q = true → (fun i => listed.getD i false) q = true := fun q hq => Q3 (D := fun i => listed.getD i false) g.tx I.closed (hon o ho) hq
    have hD : (fun i => listed.getD i false) i = false := hun'
    have htr := X.tagree I hin hD hready;rw [g.looks] at htr;have hlo := X.lo hin;have hhi := X.hi hin;have hm0 := X.mono (i := 0) (j := i) (by omega) (by omega)
    have hmn := X.mono (i := i + 1) (j := n) (by omega) (by omega)
    rw [g.hi] at hhi
    have hfr : A9 ρ (H i).nx (Dd i).g.nx := by
     intro b h1 h2;cases hb : ρ b with
     | none => rfl
     | some base =>
      obtain ⟨j', hD', hr'⟩ := I.free b (by omega) (by omega) (by rw [hb]; exact Option.some_ne_none _)
      have := X.disj hin (I.sub j' hD') ⟨by omega, by rw [g.hi]; exact h2⟩ hr'
      subst this;rw [hun'] at hD'; cases hD'
    obtain ⟨σ, v', w', q1, q2, q3, q4⟩ := LY hE hF (cs := cs) g.tx.did (X.wfAt (by omega)) hm ht ho htr (I.heap.weaken fun b x hb hx => X.agree I hM hin hD hready hb hx) hfr
    have I' := X.step I hM hfree hin hD hready q2 q3 q4;rw [← T8 (by omega)] at I'
    rw [g.ok] at q1
    have efin : c.finish v' = { c with tmps := HK c.tmps (R i).dst v', todo := .inRegion all (Region.linearise.go .any all fuel (t / (Region.ready .any all listed).length) (listed.setIfInBounds i true) []) :: k } := by
     simp only [Frame.finish, ht, ho, Option.bind_some, HK, g.dst];cases o.dst <;> rfl
    simp only [BS] at q1;rw [efin] at q1
    obtain ⟨rest, τ, tm', w2, D', r1, r2, r3, r4, r5⟩ := ih _ (listed.setIfInBounds i true) σ w' { c with tmps := HK c.tmps (R i).dst v', todo := .inRegion all (Region.linearise.go .any all fuel (t / (Region.ready .any all listed).length) (listed.setIfInBounds i true) []) :: k } hm rfl (by simp [hsz]) (by
     rw [Array.toList_setIfInBounds, LS]
     ·omega
     ·have : i < listed.size := by omega
      rw [Array.getD_eq_getD_getElem?] at hun';simpa [this] using hun') I'
    exact ⟨rest, τ, tm', w2, D', r1, r2, Steps.trans q1 r3, r4, r5⟩
   ·subst hin;obtain ⟨o, ho, b⟩ := hbad hia;refine ⟨i :: Region.linearise.go .any all fuel (t / (Region.ready .any all listed).length) (listed.setIfInBounds i true) [], ρ, c.tmps, w, _, I, fun q hq => ?_, ?_, fun h => by omega, fun _ => ⟨_, rfl⟩⟩
    ·refine Q3 (D := fun i => listed.getD i false) b.tx I.closed (hon o ho) ?_
     have : (R i).mask = 2 ^ i - 1 := by have := b.all; omega
     rw [this, Nat.testBit_two_pow_sub_one];simpa using hq
    ·rw [← ht]; exact Steps.refl _ _
   ·exfalso
    obtain ⟨o, ho, b⟩ := hbad (by omega)
    obtain ⟨recs, a1, a2, a3⟩ := b.after;have hoi : all[i]? = some all[i] := by simp [hia]
    have := Jd (recs := recs ++ [{ wr := [], fp := none, lo := 0, hi := 0, dst := none, looks := [], mask := (R n).mask }]) (fun q x hq hx => ?_) (by simp [a1]) a3 all[i] ?_
    ·obtain ⟨e, he, hb, hge⟩ := this;have := hon _ hoi e he hb;have := I.sub e.on this;omega
    ·rw [List.getElem?_append_left (by omega), a2, List.getElem?_map, List.getElem?_range hq] at hx
     simp only [Option.map_some, Option.some.injEq] at hx;subst hx;cases hbit : (R q).mask.testBit n with
     | false => rfl
     | true => have := X.bits hq hbit; omega
    ·rw [List.mem_iff_getElem?];refine ⟨i - (n + 1), ?_⟩;rw [List.getElem?_drop];rw [show n + 1 + (i - (n + 1)) = i by omega]
     simp
end
end Go.AE
namespace Go.AE
variable [U : Unk]
theorem E6 {f : AF} {cs : List AF} {v v2 : AV} {h h2 : Aa} {ok : Bool} (hx : DE f cs v h = .done ok v2 h2) : cs = [] ∧ f.kind = .normal ∧ ok = true ∧ v2 = v ∧ h2 = h := by
 unfold DE at hx;split at hx
 ·split at hx
  ·split at hx <;> cases hx
  ·split at hx <;> cases hx
  ·cases hx
 ·split at hx
  ·rename_i hk; cases hx; exact ⟨rfl, hk, rfl, rfl, rfl⟩
  ·cases hx
theorem E8 {f : AF} {cs : List AF} {v : AV} {h : Aa} {s : AS} {ops : Array Oper} {k : List AI} : DE f cs v h ≠ .draw s ops k := by
 intro hx;unfold DE at hx;split at hx
 ·split at hx
  ·split at hx <;> cases hx
  ·split at hx <;> cases hx
  ·cases hx
 ·split at hx <;> cases hx
theorem Ee {E : Env} {f : AF} {cs : List AF} {r : Res} : (∃ s, BV E f cs r = .next s) ∨ ∃ y, BV E f cs r = .bad y := by
 cases r <;> simp only [BV] <;> repeat' (first | exact .inl ⟨_, rfl⟩ | exact .inr ⟨_, rfl⟩ | split)
theorem HH {E : Env} {s : AS} {f : Operand} {ps : List Tmp} {a b : Code} {k : List AI} : (∃ s', Gq E s f ps a b k = .next s') ∨ ∃ y, Gq E s f ps a b k = .bad y := by
 unfold Gq
 repeat' (first | exact .inl ⟨_, rfl⟩ | exact .inr ⟨_, rfl⟩ | split)
theorem Ea {f : AF} {cs : List AF} {h : Aa} {j : Option Code} {s : AS} {ops : Array Oper} {k : List AI} : El f cs h j ≠ .draw s ops k := by
 intro hx;unfold El at hx;split at hx
 ·split at hx <;> cases hx
 ·split at hx
  ·exact E8 hx
  ·cases hx
theorem No {E : Env} {f : AF} {cs : List AF} {h : Aa} {s : AS} {ops : Array Oper} {k : List AI} : Fa E f cs h ≠ .draw s ops k := by
 intro hx;unfold Fa at hx;split at hx
 ·split at hx
  ·split at hx <;> cases hx
  ·split at hx
   ·split at hx <;> cases hx
   ·cases hx
 ·split at hx
  ·cases hx
  ·split at hx
   ·split at hx <;> cases hx
   ·split at hx
    ·split at hx <;> cases hx
    ·cases hx
  ·split at hx
   ·split at hx
    ·exact E8 hx
    ·exact E8 hx
    ·cases hx
   ·cases hx
theorem GR {E : Env} {s s' : AS} {ops : Array Oper} {k : List AI} (hx : Fz E s = .draw s' ops k) : s' = s ∧ s.fr.mode = .run ∧ ∃ id, s.fr.todo = .code (.region id ops true) :: k := by
 unfold Fz at hx;simp only at hx;split at hx
 ·rename_i hm;split at hx
  ·exact absurd hx Ea
  ·cases hx
  ·cases hx
  ·cases hx
  ·cases hx
  ·split at hx
   ·rcases Ee (E := E) (f := s.fr) (cs := s.cs) (r := aop E s.fr.tmps s.h _) with ⟨y, h⟩ | ⟨y, h⟩ <;> (rw [h] at hx; cases hx)
   ·rcases Ee (E := E) (f := s.fr) (cs := s.cs) (r := .val .undef s.h) with ⟨y, h⟩ | ⟨y, h⟩ <;> (rw [h] at hx; cases hx)
   ·cases hx
  ·cases hx
  ·cases hx
  ·cases hx
  ·split at hx
   ·split at hx <;> cases hx
   ·cases hx
  ·split at hx
   ·split at hx <;> cases hx
   ·cases hx
  ·rename_i c k2 ht;split at hx
   ·exact absurd hx Ea
   ·cases hx
   ·cases hx
   ·cases hx
   ·split at hx
    ·cases hx
    ·cases hx
    ·split at hx
     ·split at hx <;> cases hx
     ·cases hx
    ·cases hx
   ·cases hx
   ·cases hx
   ·cases hx
   ·split at hx
    ·cases hx
    ·split at hx
     ·cases hx
     ·exact absurd hx Ea
   ·split at hx
    ·cases hx
    ·split at hx
     ·cases hx
     ·exact absurd hx Ea
   ·rcases HH (E := E) (s := s) with ⟨y, h⟩ | ⟨y, h⟩ <;> (rw [h] at hx; cases hx)
   ·split at hx
    ·cases hx
    ·cases hx; exact ⟨rfl, hm, _, ht⟩
   ·cases hx
 ·exact absurd hx No
end Go.AE
namespace Go.AE
variable [U : Unk]
def gY (ok : Bool) (v : Value) : Ending := match ok with
 | true => .returned v
 | false => .panicked [{ v := v, recovered := false }]
def X7 (c0 : Frame) (ok : Bool) (v : Value) : Frame := match ok with
 | true => c0.finish v
 | false => c0.raise [{ v := v, recovered := false }]
structure Nj (P : Program) (cf : Frame) (w : World) (ok : Bool) (v' : Value) (w' : World) : Prop where
 back : ∀ (c0 : Frame) (base : List Frame), step P (lone cf (c0 :: base) w) = .next (lone (X7 c0 ok v') base w')
 leaves : cf.roundOf = none → w' = w ∧ cf.leaving P w (gY ok v')
section
variable {E : Env} (hE : OK E) {ρ : Ren} {h h2 : Aa} {w : World} {c : Frame} {f : AF} {cs : List AF} {ccs base : List Frame} {s s' : AS} {ok : Bool} {v : AV}
theorem FrL.nil_inv {ρ : Ren} {l : List Frame} (h : FrL ρ [] l) : l = [] := by cases h; rfl
theorem Ed (hr : HR ρ h.blk.get w) (hf : FrR ρ f c) (hm : c.mode = .run) {jump : Option Code}
  (ht : (c.todo = [] ∧ jump = none) ∨ (∃ k, c.todo = .code .ret :: k ∧ jump = some .ret) ∨ (∃ id k, c.todo = .code (.exit id) :: k ∧ exitTo id k = none ∧ jump = some (.exit id)) ∨ (∃ l k, c.todo = .code (.goto l) :: k ∧ gotoIn l k = none ∧ jump = some (.goto l)))
  (hx : El f cs h jump = .done ok v h2) : cs = [] ∧ ∃ v' w', VR ρ v v' ∧ HR ρ h2.blk.get w' ∧ Ext ρ ρ h h2 w w' ∧ Nj E.P c w ok v' w' := by
 have hround := hf.round;unfold El at hx;split at hx
 ·split at hx <;> cases hx
 ·rename_i l hrs;rw [hrs] at hround;obtain ⟨b, hb, hro⟩ := hround.some_inv;split at hx
  ·rename_i st pending fn nt tmps params assign body d hl;obtain ⟨w', q1, q2, q3⟩ := IH (E := E) hr hb hl jump;obtain ⟨rfl, hk, rfl, rfl, rfl⟩ := E6 hx;refine ⟨rfl, _, w', .bool _, q2, q3, ⟨fun c0 base => OB hm hro (hf.kind.trans hk) ht q1, fun h => by rw [hro] at h; cases h⟩⟩
  ·cases hx
include hE
theorem MI (hr : HR ρ h.blk.get w) (hf : FrR ρ f c) (hm : c.mode ≠ .run) (hx : Fa E f cs h = .done ok v h2) : cs = [] ∧ ∃ v' w', VR ρ v v' ∧ HR ρ h2.blk.get w' ∧ Ext ρ ρ h h2 w w' ∧ Nj E.P c w ok v' w' := by
 have hdef := hf.defers;unfold Fa at hx;split at hx
 ·split at hx
  ·split at hx <;> cases hx
  ·split at hx
   ·split at hx <;> cases hx
   ·cases hx
 ·rename_i hfd;rw [hfd] at hdef
  have hcd : c.defers = [] := by
   cases hcd : c.defers with
   | nil => rfl
   | cons d' ds' => rw [hcd] at hdef; exact hdef.elim
  have hmode := hf.mode;split at hx
  ·cases hx
  ·rename_i EB hfm;rw [hfm] at hmode;split at hx
   ·split at hx <;> cases hx
   ·split at hx
    ·split at hx
     ·rename_i fn hfn;cases hx;generalize hcm : c.mode = cm at hmode;cases hmode with
      | panic _ ch' hch =>
       cases ch' with
       | nil => exact hch.elim
       | cons e r =>
        obtain ⟨h1, h2, h3, h4⟩ := hch;cases r with
        | cons _ _ => exact h4.elim
        | nil =>
         obtain ⟨ev, er, eg⟩ := e;simp only at h1 h2 h3;subst h2; subst h3;have hl : c.leaving E.P w (.panicked [{ v := ev, recovered := false }]) := ⟨hcm, hcd, fn, by rw [hf.fn]; exact hE.fn _ _ hfn⟩
         exact ⟨rfl, ev, w, h1, hr, Ext.refl _ _ _, ⟨fun c0 base => step_leave_panicked hl, fun _ => ⟨rfl, hl⟩⟩⟩
     ·cases hx
    ·cases hx
  ·rename_i hfm;rw [hfm] at hmode
   have hcm : c.mode = .returning := by
    generalize c.mode = x at hmode;cases hmode; rfl
   split at hx
   ·rename_i fn hfn;have hfn' : E.P.funcs[c.fn]? = some fn := by rw [hf.fn]; exact hE.fn _ _ hfn
    split at hx
    ·rename_i v hrs;obtain ⟨v', p1, p2, p3⟩ := EU hE hr hf hrs;obtain ⟨rfl, hk, rfl, rfl, rfl⟩ := E6 hx;have hl : c.leaving E.P w (.returned v') := ⟨hcm, hcd, hf.kind.trans hk, fn, hfn', p1⟩;exact ⟨rfl, v', w, p2 _ rfl, hr, Ext.refl _ _ _, ⟨fun c0 base => step_leave_returned hl, fun _ => ⟨rfl, hl⟩⟩⟩
    ·rename_i l hne hrs;obtain ⟨v', p1, p2, p3⟩ := EU hE hr hf hrs;obtain ⟨rfl, hk, rfl, rfl, rfl⟩ := E6 hx;have hl : c.leaving E.P w (.returned v') := ⟨hcm, hcd, hf.kind.trans hk, fn, hfn', p1⟩;exact ⟨rfl, v', w, p3 fun a e => hne a (by rw [e]), hr, Ext.refl _ _ _, ⟨fun c0 base => step_leave_returned hl, fun _ => ⟨rfl, hl⟩⟩⟩
    ·cases hx
   ·cases hx
theorem KY (hsr : SR ρ s c ccs w) (hx : Fz E s = .done ok v h2) : ccs = [] ∧ ∃ v' w', VR ρ v v' ∧ HR ρ h2.blk.get w' ∧ Ext ρ ρ s.h h2 w w' ∧ Nj E.P c w ok v' w' := by
 have hmode := hsr.fr.mode;have htodo := hsr.fr.todo
 suffices hs : s.cs = [] ∧ ∃ v' w', VR ρ v v' ∧ HR ρ h2.blk.get w' ∧ Ext ρ ρ s.h h2 w w' ∧ Nj E.P c w ok v' w' by
  obtain ⟨h1, h2⟩ := hs;have hcs := hsr.cs;rw [h1] at hcs;exact ⟨hcs.nil_inv, h2⟩
 unfold Fz at hx;simp only at hx;split at hx
 ·rename_i hmf;rw [hmf] at hmode
  have hm : c.mode = .run := by
   generalize c.mode = x at hmode;cases hmode; rfl
  split at hx
  ·rename_i ht;rw [ht] at htodo;generalize hct : c.todo = td at htodo;cases htodo;exact Ed hsr.h hsr.fr hm (.inl ⟨hct, rfl⟩) hx
  ·cases hx
  ·cases hx
  ·cases hx
  ·cases hx
  ·split at hx
   ·rcases Ee (E := E) (f := s.fr) (cs := s.cs) (r := aop E s.fr.tmps s.h _) with ⟨y, h⟩ | ⟨y, h⟩ <;> (rw [h] at hx; cases hx)
   ·rcases Ee (E := E) (f := s.fr) (cs := s.cs) (r := .val .undef s.h) with ⟨y, h⟩ | ⟨y, h⟩ <;> (rw [h] at hx; cases hx)
   ·cases hx
  ·cases hx
  ·cases hx
  ·cases hx
  ·split at hx
   ·split at hx <;> cases hx
   ·cases hx
  ·split at hx
   ·split at hx <;> cases hx
   ·cases hx
  ·rename_i cd k ht;rw [ht] at htodo;generalize hct : c.todo = td at htodo;cases htodo with | cons a hk =>
   cases a;split at hx
   ·exact Ed hsr.h hsr.fr hm (.inr (.inl ⟨_, hct, rfl⟩)) hx
   ·cases hx
   ·cases hx
   ·cases hx
   ·split at hx
    ·cases hx
    ·cases hx
    ·split at hx
     ·split at hx <;> cases hx
     ·cases hx
    ·cases hx
   ·cases hx
   ·cases hx
   ·cases hx
   ·split at hx
    ·cases hx
    ·rename_i he;split at hx
     ·cases hx
     ·rename_i hre;exact Ed hsr.h hsr.fr hm (.inr (.inr (.inl ⟨_, _, hct, (Li hk).2 he hre, rfl⟩))) hx
   ·split at hx
    ·cases hx
    ·rename_i he;split at hx
     ·cases hx
     ·rename_i hre;exact Ed hsr.h hsr.fr hm (.inr (.inr (.inr ⟨_, _, hct, (JO hk).2 he hre, rfl⟩))) hx
   ·rcases HH (E := E) (s := s) with ⟨y, h⟩ | ⟨y, h⟩ <;> (rw [h] at hx; cases hx)
   ·split at hx <;> cases hx
   ·cases hx
 ·rename_i hmf;exact MI hE hsr.h hsr.fr (HP.not_run hmode hmf) hx
end
end Go.AE
namespace Go.AE
@[reducible] def iL : Unk := { facts := [], V := ⟨fun _ => default, fun _ d => d⟩, K := fun _ => none, R := [], hR := fun _ _ _ _ _ h => (by cases h), ok := by simp }
def Fy : SE → SE
 | .nilIs y _ => Fy y
 | .nilL => .c 0
 | .emptyL => .c 0
 | .upd a _ _ _ => Fy a
 | .cat a b => match Fy a with
  | .c n => match n == 0 with
   | true => Fy b
   | false => .lenL (.cat a b)
  | _ => .lenL (.cat a b)
 | .snoc a r => match Fy a with
  | .c n => .c (n + 1)
  | _ => .lenL (.snoc a r)
 | x => .lenL x
def IA : SE → SE
 | .nilIs _ b => b
 | .nilL => .bc true
 | .emptyL => .bc false
 | .snoc _ _ => .bc false
 | .rep _ _ => .bc false
 | .upd a _ _ _ => IA a
 | x => .isNil x
def Ug : SE → SE → SE
 | .bc true, b => b
 | .bc false, _ => .bc false
 | _, .bc false => .bc false
 | a, .bc true => a
 | a, b => .and a b
def SE.isB : SE → Bool
 | .bc _ => true
 | .lss _ _ => true
 | .eql _ _ => true
 | .eqS _ _ _ => true
 | .eqSS _ _ => true
 | .isNil _ => true
 | .neg _ => true
 | .and _ _ => true
 | _ => false
def Z6 : SE → SE
 | .bc b => .bc (!b)
 | x => .neg x
def Zx : SE → SE → SE
 | .c n, .c m => .bc (n == m)
 | a, b => match a.same b with
  | true => .bc true
  | false => .eql a b
def Zc : SE → SE → SE
 | .c n, .c m => .bc (decide (n < m))
 | a, b => .lss a b
def SE.norm : SE → SE
 | .lenL a => Fy a.norm
 | .isNil a => match (IA a.norm).isB with
  | true => IA a.norm
  | false => .isNil a.norm
 | .and a b => match (Ug a.norm b.norm).isB with
  | true => Ug a.norm b.norm
  | false => .and a.norm b.norm
 | .neg a => Z6 a.norm
 | .nilIs a b => .nilIs a.norm b.norm
 | .eql a b => Zx a.norm b.norm
 | .lss a b => Zc a.norm b.norm
 | .arith op k a b => .arith op k a.norm b.norm
 | .cell a i j => .cell a.norm i.norm j
 | .snoc a r => .snoc a.norm r.norm
 | .rcons x r => .rcons x.norm r.norm
 | .upd a i j x => .upd a.norm i.norm j x.norm
 | .sel a j => .sel a.norm j
 | .app g a => .app g a.norm
 | .cat a b => .cat a.norm b.norm
 | .rmv a i => .rmv a.norm i.norm
 | .mIdx ks a k => .mIdx ks a.norm k.norm
 | e => e
theorem UM (V : Val) : ∀ x : SE, Ab V (Fy x) = .int ((Ab V x).rows.length : Nat) := by
 intro x
 induction x
 case nilIs y b ih _ => simp only [Fy, ih, Ab, D.rows]
 case upd a i j x ih _ _ => simp only [Fy, ih, Ab, D.rows, List.length_modify]
 case cat a b iha ihb =>
  simp only [Fy];split
  ·rename_i n h;split
   ·rename_i hn;have hn := eq_of_beq hn;subst hn;rw [h] at iha
    have h0 : (Ab V a).rows.length = 0 := by
     simp only [Ab, D.int.injEq] at iha;omega
    rw [ihb];have e : (Ab V (.cat a b)).rows = (Ab V a).rows ++ (Ab V b).rows := rfl;rw [e, List.length_append, h0, Nat.zero_add]
   ·rfl
  ·rfl
 case snoc a r ih _ =>
  simp only [Fy];split
  ·rename_i n h;rw [h] at ih;simp only [Ab, D.int.injEq, D.rows, List.length_append, List.length_singleton] at ih ⊢;omega
  ·rfl
 all_goals rfl
theorem Sf (V : Val) : ∀ x : SE, (IA x).isB = true → Ab V (IA x) = .bool (Ab V x).isNil := by
 intro x
 induction x <;> intro hb <;> first | rfl | skip
 case upd a i j x ih _ _ => exact ih hb
 case nilIs y b _ _ =>
  simp only [IA] at hb ⊢;cases b <;> first | rfl | (simp [SE.isB] at hb; done) | skip
theorem Nw (V : Val) {x : SE} (h : x.isB = true) : Ab V x = .bool (Ab V x).toBool := by
 cases x <;> first | rfl | (simp [SE.isB] at h; done)
theorem Wo (V : Val) (a b : SE) (h : (Ug a b).isB = true) : Ab V (Ug a b) = Ab V (.and a b) := by
 unfold Ug at h ⊢;split
 ·simp only at h;rw [Nw V h]; simp only [Ab, D.toBool, Bool.true_and]
 ·simp only [Ab, D.toBool, Bool.false_and]
 ·simp only [Ab, D.toBool, Bool.and_false]
 ·simp only at h;rw [Nw V h]; simp only [Ab, D.toBool, Bool.and_true]
 ·rfl
theorem W4 (V : Val) (a b : SE) : Ab V (Zx a b) = Ab V (.eql a b) := by
 unfold Zx;split
 ·rfl
 ·split
  ·rename_i h;rw [SE.same_ok (U := iL) h];simp only [Ab, beq_self_eq_true]
  ·rfl
theorem WN (V : Val) (a b : SE) : Ab V (Zc a b) = Ab V (.lss a b) := by
 unfold Zc;split <;> rfl
theorem Cb (V : Val) : ∀ e : SE, Ab V e.norm = Ab V e := by
 intro e
 induction e
 case lenL a ih => simp only [SE.norm, UM, ih]; rfl
 case isNil a ih =>
  simp only [SE.norm];split
  ·rename_i h; rw [Sf V _ h, ih]; rfl
  ·simp only [Ab, ih]
 case and a b iha ihb =>
  simp only [SE.norm];split
  ·rename_i h; rw [Wo V _ _ h]; simp only [Ab, iha, ihb]
  ·simp only [Ab, iha, ihb]
 case neg a ih =>
  simp only [SE.norm];unfold Z6;split
  ·rename_i b h;rw [h] at ih;simp only [Ab] at ih ⊢;rw [← ih]; rfl
  ·simp only [Ab, ih]
 case eql a b iha ihb => simp only [SE.norm, W4, Ab, iha, ihb]
 case lss a b iha ihb => simp only [SE.norm, WN, Ab, iha, ihb]
 all_goals simp_all only [SE.norm, Ab]
def eqD {α : Type} [DecidableEq α] (a b : α) : Bool := decide (a = b)
theorem Ch {α : Type} [DecidableEq α] {a b : α} (h : eqD a b = true) : a = b := of_decide_eq_true h
theorem A8 {i j : Nat} (h : Nat.beq i j = true) : i = j := Nat.eq_of_beq_eq_true h
def MV : Value → Value → Bool
 | .bool a, .bool b => eqD a b
 | .int k a, .int k' b => eqD k k' && eqD a b
 | .string a, .string b => eqD a.data.toList b.data.toList
 | .pointer none, .pointer none => true
 | .slice none a b, .slice none a' b' => Nat.beq a a' && Nat.beq b b'
 | .map none, .map none => true
 | .nilFunc, .nilFunc => true
 | .nilIface, .nilIface => true
 | _, _ => false
theorem Pk {a b : Value} (h : MV a b = true) : a = b := by
 unfold MV at h;split at h <;> first | rfl | (cases h; done) | skip
 ·rw [Ch h]
 ·simp only [Bool.and_eq_true] at h; rw [Ch h.1, Ch h.2]
 ·rename_i a b;have := Ch h
  have e : a = b := by
   cases a; cases b;simp only [ByteArray.mk.injEq];exact Array.ext' this
  rw [e]
 ·simp only [Bool.and_eq_true] at h; rw [A8 h.1, A8 h.2]
def AH : Operand → Operand → Bool
 | .tmp a, .tmp b => Nat.beq a b
 | .const a, .const b => MV a b
 | .global a, .global b => Nat.beq a b
 | .func a, .func b => Nat.beq a b
 | _, _ => false
theorem Ao {a b : Operand} (h : AH a b = true) : a = b := by
 unfold AH at h;split at h <;> first | (cases h; done) | skip
 ·rw [A8 h]
 ·rw [Pk h]
 ·rw [A8 h]
 ·rw [A8 h]
def Kj {α : Type} (eq : α → α → Bool) : List α → List α → Bool
 | [], [] => true
 | a :: l, b :: m => eq a b && Kj eq l m
 | _, _ => false
theorem Im {α : Type} {eq : α → α → Bool} (he : ∀ a b, eq a b = true → a = b) : ∀ {l m : List α}, Kj eq l m = true → l = m
 | [], [], _ => rfl
 | a :: l, b :: m, h => by
  simp only [Kj, Bool.and_eq_true] at h;rw [he a b h.1, Im he h.2]
 | [], _ :: _, h => by cases h
 | _ :: _, [], h => by cases h
def KL {α : Type} (eq : α → α → Bool) (a b : Array α) : Bool := Kj eq a.toList b.toList
theorem EP {α : Type} {eq : α → α → Bool} (he : ∀ a b, eq a b = true → a = b) {a b : Array α} (h : KL eq a b = true) : a = b := Array.ext' (Im he h)
def Rn (a b : Array Operand) : Bool := KL AH a b
theorem JN {a b : Array Operand} (h : Rn a b = true) : a = b := EP (fun _ _ => Ao) h
def YT (a b : Array (Nat × Operand)) : Bool := KL (fun x y => Nat.beq x.1 y.1 && AH x.2 y.2) a b
theorem QL {a b : Array (Nat × Operand)} (h : YT a b = true) : a = b := EP (fun x y h => by
 simp only [Bool.and_eq_true] at h;exact Prod.ext (A8 h.1) (Ao h.2)) h
def N9 {α : Type} (eq : α → α → Bool) : Option α → Option α → Bool
 | none, none => true
 | some a, some b => eq a b
 | _, _ => false
theorem Hi {α : Type} {eq : α → α → Bool} (he : ∀ a b, eq a b = true → a = b) {a b : Option α} (h : N9 eq a b = true) : a = b := by
 cases a <;> cases b <;> first | rfl | (cases h; done) | skip
 rw [he _ _ h]
def Uk (a b : Option Operand) : Bool := N9 AH a b
theorem Ju {a b : Option Operand} (h : Uk a b = true) : a = b := Hi (fun _ _ => Ao) h
def UZ : Fn → Fn → Bool
 | .func f, .func g => Nat.beq f g
 | .method n, .method m => eqD n m
 | _, _ => false
theorem UI {a b : Fn} (h : UZ a b = true) : a = b := by
 unfold UZ at h;split at h <;> first | (cases h; done) | skip
 ·rw [A8 h]
 ·rw [Ch h]
def KQ : Callee → Callee → Bool
 | .value f, .value g => AH f g
 | .invoke r n, .invoke r' n' => AH r r' && eqD n n'
 | .builtin b, .builtin b' => eqD b b'
 | _, _ => false
theorem N5 {a b : Callee} (h : KQ a b = true) : a = b := by
 unfold KQ at h;split at h <;> first | (cases h; done) | skip
 ·rw [Ao h]
 ·simp only [Bool.and_eq_true] at h; rw [Ao h.1, Ch h.2]
 ·rw [Ch h]
def Nu (a b : Call) : Bool := KQ a.callee b.callee && Rn a.args b.args && KL Nat.beq a.argTypes b.argTypes
theorem Ma {a b : Call} (h : Nu a b = true) : a = b := by
 cases a; cases b;simp only [Nu, Bool.and_eq_true] at h;simp only [Call.mk.injEq];exact ⟨N5 h.1.1, JN h.1.2, EP (fun _ _ => A8) h.2⟩
def YQ : Op → Op → Bool
 | .move x0, .move y0 => AH x0 y0
 | .assign x0, .assign y0 => AH x0 y0
 | .pick x0 x1 x2, .pick y0 y1 y2 => AH x0 y0 && AH x1 y1 && AH x2 y2
 | .alloc x0, .alloc y0 => Nat.beq x0 y0
 | .box x0 x1, .box y0 y1 => Nat.beq x0 y0 && AH x1 y1
 | .build x0 x1, .build y0 y1 => Nat.beq x0 y0 && YT x1 y1
 | .buildSlice x0 x1 x2, .buildSlice y0 y1 y2 => Nat.beq x0 y0 && Nat.beq x1 y1 && YT x2 y2
 | .insert x0 x1 x2 x3, .insert y0 y1 y2 y3 => Nat.beq x0 y0 && AH x1 y1 && AH x2 y2 && AH x3 y3
 | .load x0 x1, .load y0 y1 => Nat.beq x0 y0 && AH x1 y1
 | .store x0 x1 x2, .store y0 y1 y2 => Nat.beq x0 y0 && AH x1 y1 && AH x2 y2
 | .ready x0, .ready y0 => Nat.beq x0 y0
 | .waits x0, .waits y0 => Nat.beq x0 y0
 | .nilCheck x0, .nilCheck y0 => AH x0 y0
 | .binOp x0 x1 x2 x3 x4, .binOp y0 y1 y2 y3 y4 => eqD x0 y0 && Nat.beq x1 y1 && AH x2 y2 && AH x3 y3 && Nat.beq x4 y4
 | .unOp x0 x1 x2, .unOp y0 y1 y2 => eqD x0 y0 && Nat.beq x1 y1 && AH x2 y2
 | .convert x0 x1 x2, .convert y0 y1 y2 => Nat.beq x0 y0 && Nat.beq x1 y1 && AH x2 y2
 | .sliceToArrayPointer x0 x1, .sliceToArrayPointer y0 y1 => Nat.beq x0 y0 && AH x1 y1
 | .makeInterface x0 x1, .makeInterface y0 y1 => Nat.beq x0 y0 && AH x1 y1
 | .makeFunc x0 x1 x2, .makeFunc y0 y1 y2 => UZ x0 y0 && Rn x1 y1 && Rn x2 y2
 | .makeMap x0 x1, .makeMap y0 y1 => Nat.beq x0 y0 && Uk x1 y1
 | .makeSlice x0 x1 x2, .makeSlice y0 y1 y2 => Nat.beq x0 y0 && AH x1 y1 && AH x2 y2
 | .slice x0 x1 x2 x3 x4, .slice y0 y1 y2 y3 y4 => Nat.beq x0 y0 && AH x1 y1 && Uk x2 y2 && Uk x3 y3 && Uk x4 y4
 | .fieldAddr x0 x1 x2, .fieldAddr y0 y1 y2 => Nat.beq x0 y0 && AH x1 y1 && Nat.beq x2 y2
 | .field x0 x1 x2, .field y0 y1 y2 => Nat.beq x0 y0 && AH x1 y1 && Nat.beq x2 y2
 | .indexAddr x0 x1 x2, .indexAddr y0 y1 y2 => Nat.beq x0 y0 && AH x1 y1 && AH x2 y2
 | .index x0 x1 x2, .index y0 y1 y2 => Nat.beq x0 y0 && AH x1 y1 && AH x2 y2
 | .lookup x0 x1 x2 x3, .lookup y0 y1 y2 y3 => Nat.beq x0 y0 && AH x1 y1 && AH x2 y2 && eqD x3 y3
 | .mapUpdate x0 x1 x2 x3, .mapUpdate y0 y1 y2 y3 => Nat.beq x0 y0 && AH x1 y1 && AH x2 y2 && AH x3 y3
 | .mapEntry x0 x1 x2, .mapEntry y0 y1 y2 => Nat.beq x0 y0 && AH x1 y1 && AH x2 y2
 | .entryStore x0 x1 x2 x3, .entryStore y0 y1 y2 y3 => Nat.beq x0 y0 && AH x1 y1 && AH x2 y2 && AH x3 y3
 | .range x0 x1, .range y0 y1 => Nat.beq x0 y0 && AH x1 y1
 | .next x0 x1, .next y0 y1 => AH x0 y0 && eqD x1 y1
 | .entry x0, .entry y0 => AH x0 y0
 | .typeAssert x0 x1 x2 x3, .typeAssert y0 y1 y2 y3 => AH x0 y0 && Nat.beq x1 y1 && Nat.beq x2 y2 && eqD x3 y3
 | .extract x0 x1, .extract y0 y1 => AH x0 y0 && Nat.beq x1 y1
 | .call x0, .call y0 => Nu x0 y0
 | .defer x0, .defer y0 => Nu x0 y0
 | .panic x0, .panic y0 => AH x0 y0
 | _, _ => false
set_option maxHeartbeats 4000000 in
theorem WQ : ∀ {a b : Op}, YQ a b = true → a = b := by
 intro a b h;cases a <;> cases b <;> simp only [YQ, Bool.false_eq_true, Bool.and_eq_true] at h
 case move.move => have h0 := h; rw [Ao h0]
 case assign.assign => have h0 := h; rw [Ao h0]
 case pick.pick => obtain ⟨⟨h0, h1⟩, h2⟩ := h; rw [Ao h0, Ao h1, Ao h2]
 case alloc.alloc => have h0 := h; rw [A8 h0]
 case box.box => obtain ⟨h0, h1⟩ := h; rw [A8 h0, Ao h1]
 case build.build => obtain ⟨h0, h1⟩ := h; rw [A8 h0, QL h1]
 case buildSlice.buildSlice => obtain ⟨⟨h0, h1⟩, h2⟩ := h; rw [A8 h0, A8 h1, QL h2]
 case insert.insert => obtain ⟨⟨⟨h0, h1⟩, h2⟩, h3⟩ := h; rw [A8 h0, Ao h1, Ao h2, Ao h3]
 case load.load => obtain ⟨h0, h1⟩ := h; rw [A8 h0, Ao h1]
 case store.store => obtain ⟨⟨h0, h1⟩, h2⟩ := h; rw [A8 h0, Ao h1, Ao h2]
 case ready.ready => have h0 := h; rw [A8 h0]
 case waits.waits => have h0 := h; rw [A8 h0]
 case nilCheck.nilCheck => have h0 := h; rw [Ao h0]
 case binOp.binOp => obtain ⟨⟨⟨⟨h0, h1⟩, h2⟩, h3⟩, h4⟩ := h; rw [Ch h0, A8 h1, Ao h2, Ao h3, A8 h4]
 case unOp.unOp => obtain ⟨⟨h0, h1⟩, h2⟩ := h; rw [Ch h0, A8 h1, Ao h2]
 case convert.convert => obtain ⟨⟨h0, h1⟩, h2⟩ := h; rw [A8 h0, A8 h1, Ao h2]
 case sliceToArrayPointer.sliceToArrayPointer => obtain ⟨h0, h1⟩ := h; rw [A8 h0, Ao h1]
 case makeInterface.makeInterface => obtain ⟨h0, h1⟩ := h; rw [A8 h0, Ao h1]
 case makeFunc.makeFunc => obtain ⟨⟨h0, h1⟩, h2⟩ := h; rw [UI h0, JN h1, JN h2]
 case makeMap.makeMap => obtain ⟨h0, h1⟩ := h; rw [A8 h0, Ju h1]
 case makeSlice.makeSlice => obtain ⟨⟨h0, h1⟩, h2⟩ := h; rw [A8 h0, Ao h1, Ao h2]
 case slice.slice => obtain ⟨⟨⟨⟨h0, h1⟩, h2⟩, h3⟩, h4⟩ := h; rw [A8 h0, Ao h1, Ju h2, Ju h3, Ju h4]
 case fieldAddr.fieldAddr => obtain ⟨⟨h0, h1⟩, h2⟩ := h; rw [A8 h0, Ao h1, A8 h2]
 case field.field => obtain ⟨⟨h0, h1⟩, h2⟩ := h; rw [A8 h0, Ao h1, A8 h2]
 case indexAddr.indexAddr => obtain ⟨⟨h0, h1⟩, h2⟩ := h; rw [A8 h0, Ao h1, Ao h2]
 case index.index => obtain ⟨⟨h0, h1⟩, h2⟩ := h; rw [A8 h0, Ao h1, Ao h2]
 case lookup.lookup => obtain ⟨⟨⟨h0, h1⟩, h2⟩, h3⟩ := h; rw [A8 h0, Ao h1, Ao h2, Ch h3]
 case mapUpdate.mapUpdate => obtain ⟨⟨⟨h0, h1⟩, h2⟩, h3⟩ := h; rw [A8 h0, Ao h1, Ao h2, Ao h3]
 case mapEntry.mapEntry => obtain ⟨⟨h0, h1⟩, h2⟩ := h; rw [A8 h0, Ao h1, Ao h2]
 case entryStore.entryStore => obtain ⟨⟨⟨h0, h1⟩, h2⟩, h3⟩ := h; rw [A8 h0, Ao h1, Ao h2, Ao h3]
 case range.range => obtain ⟨h0, h1⟩ := h; rw [A8 h0, Ao h1]
 case next.next => obtain ⟨h0, h1⟩ := h; rw [Ao h0, Ch h1]
 case entry.entry => have h0 := h; rw [Ao h0]
 case typeAssert.typeAssert => obtain ⟨⟨⟨h0, h1⟩, h2⟩, h3⟩ := h; rw [Ao h0, A8 h1, A8 h2, Ch h3]
 case extract.extract => obtain ⟨h0, h1⟩ := h; rw [Ao h0, A8 h1]
 case call.call => have h0 := h; rw [Ma h0]
 case defer.defer => have h0 := h; rw [Ma h0]
 case panic.panic => have h0 := h; rw [Ao h0]
def Pn (a b : Edge) : Bool := Nat.beq a.on b.on && eqD a.ground b.ground
theorem Sp {a b : Edge} (h : Pn a b = true) : a = b := by
 cases a; cases b;simp only [Pn, Bool.and_eq_true] at h;simp only [Edge.mk.injEq];exact ⟨A8 h.1, Ch h.2⟩
def O9 (a b : Oper) : Bool := N9 Nat.beq a.dst b.dst && YQ a.op b.op && Nat.beq a.type b.type && KL Pn a.after b.after && N9 (fun x y => Nat.beq x.1 y.1 && eqD x.2 y.2) a.guard b.guard && eqD a.pos b.pos
theorem RZ {a b : Oper} (h : O9 a b = true) : a = b := by
 cases a; cases b;simp only [O9, Bool.and_eq_true] at h;obtain ⟨⟨⟨⟨⟨h1, h2⟩, h3⟩, h4⟩, h5⟩, h6⟩ := h;simp only [Oper.mk.injEq];refine ⟨Hi (fun _ _ => A8) h1, WQ h2, A8 h3, Ch h6, EP (fun _ _ => Sp) h4, Hi (fun x y h => ?_) h5⟩
 simp only [Bool.and_eq_true] at h;exact Prod.ext (A8 h.1) (Ch h.2)
def CO : Code → Code → Bool
 | .skip, .skip => true
 | .region i o d, .region i' o' d' => Nat.beq i i' && eqD d d' && KL O9 o o'
 | .seq a b, .seq a' b' => CO a a' && CO b b'
 | .cond c a b, .cond c' a' b' => AH c c' && CO a a' && CO b b'
 | .block i a, .block i' a' => Nat.beq i i' && CO a a'
 | .loop a, .loop a' => CO a a'
 | .rangeFunc f p a b, .rangeFunc f' p' a' b' => AH f f' && KL Nat.beq p p' && CO a a' && CO b b'
 | .exit i, .exit i' => Nat.beq i i'
 | .scope a, .scope a' => CO a a'
 | .label i, .label i' => Nat.beq i i'
 | .goto i, .goto i' => Nat.beq i i'
 | .ret, .ret => true
 | _, _ => false
theorem Ig : ∀ {a b : Code}, CO a b = true → a = b := by
 intro a
 induction a <;> intro b h <;> cases b <;> simp only [CO, Bool.false_eq_true, Bool.and_eq_true] at h <;> first | rfl | skip
 case region.region => rw [A8 h.1.1, Ch h.1.2, EP (fun _ _ => RZ) h.2]
 case seq.seq iha ihb _ _ => rw [iha h.1, ihb h.2]
 case cond.cond iha ihb _ _ _ => rw [Ao h.1.1, iha h.1.2, ihb h.2]
 case block.block ih _ _ => rw [A8 h.1, ih h.2]
 case loop.loop ih _ => rw [ih h]
 case rangeFunc.rangeFunc iha ihb _ _ _ _ => rw [Ao h.1.1.1, EP (fun _ _ => A8) h.1.1.2, iha h.1.2, ihb h.2]
 case exit.exit => rw [A8 h]
 case scope.scope ih _ => rw [ih h]
 case label.label => rw [A8 h]
 case goto.goto => rw [A8 h]
end Go.AE

