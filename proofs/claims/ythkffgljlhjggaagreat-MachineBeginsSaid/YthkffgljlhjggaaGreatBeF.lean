/- What is proved here: an evaluator of the model's steps that the kernel can run, and that whatever it answers is what the model does (part 6 of 6: AeOrc, AeRun4, AeOK, AeTop, AeVc1, AeVc2, AeVc3, AeDec1, AeDec2, AeDec3, AeDec4, AeDec5, AeShort). Conditions: those that each theorem states; they hold of no one program. -/
import Derived.Test.YthkffgljlhjggaaGreatBeE
import Derived.Eval
import Derived.KernelRfl
import Derived.Carry
import Derived.Handed
import Derived.JoinedCond
set_option linter.unusedVariables false
set_option linter.unusedSectionVars false
set_option linter.unusedSimpArgs false
namespace Go.AE
theorem GZ : ∀ {a b : T Aq}, QF a b = true → ∀ i x, a.get i = some x → b.get i = some x
 | .nil, _, _, i, x, hx => by simp [T.get] at hx
 | .node v l r, .nil, h, _, _, _ => by simp [QF] at h
 | .node v l r, .node v' l' r', h, i, x, hx => by
  simp only [QF, Bool.and_eq_true] at h;obtain ⟨⟨h1, h2⟩, h3⟩ := h;simp only [T.get] at hx ⊢;split at hx
  ·subst hx;simp only at h1;cases v' with
   | none => simp at h1
   | some y => rw [PV h1]
  ·split at hx
   ·exact GZ h2 _ _ hx
   ·exact GZ h3 _ _ hx
theorem Sk {b : Nat} : ∀ {l : List Nat}, KT b l = true → b ∈ l
 | [], h => by simp [KT] at h
 | c :: r, h => by
  simp only [KT, Bool.or_eq_true] at h;rcases h with h | h
  ·rw [Nat.eq_of_beq_eq_true h]; simp
  ·simp [Sk h]
theorem R6 {nx : Nat} {wr : List Nat} : ∀ {l : List Nat}, XX nx wr l = true → ∀ b ∈ l, b < nx → b ∈ wr
 | [], _, b, hb, _ => by cases hb
 | c :: r, h, b, hb, hlt => by
  simp only [XX, Bool.and_eq_true, Bool.or_eq_true] at h;simp only [List.mem_cons] at hb;rcases hb with rfl | hb
  ·rcases h.1 with h1 | h1
   ·have := Nat.le_of_ble_eq_true h1; omega
   ·exact Sk h1
  ·exact R6 h.2 b hb hlt
def Orc.Valid (P : Program) (F : Nat → D → D) (e : Orc) : Prop :=
 ∀ [U : Unk], U.K = (Env.of P).kinds → U.V.fn = F → ∀ (ρ : Ren) (w : World) (args' : List Value), VL ρ e.args args' → HR ρ e.part.get w → WF { blk := e.part, nx := e.nx, log := [] } → Bg ρ e.nx e.nx' →
  ∀ (c0 : Frame) (base : List Frame), ∃ σ v' w' g, B4 P (lone (Frame.enter P e.f args'.toArray .normal) (c0 :: base) w) c0 base e.ok v' w' ∧ VR σ e.v v' ∧ HR σ g.blk.get w' ∧
   Ext ρ σ { blk := e.part, nx := e.nx, log := [] } g w w' ∧ (∀ b x, e.out.get b = some x → g.blk.get b = some x) ∧ g.nx = e.nx' ∧ (∀ b ∈ g.log, b < e.nx → b ∈ e.wr)
structure Ag (E : Env) (F : Nat → D → D) : Prop where
 orc : ∀ e ∈ E.orc, e.Valid E.P F
 sms : ∀ s ∈ E.sms, s.Valid E.P F
variable [U : Unk]
theorem RD {ρ σ : Ren} {h g : Aa} {w w' : World} {p out : T Aq} {nx' : Nat} {wr : List Nat} (hr : HR ρ h.blk.get w) (hwf : WF h) (hsub : ∀ b x, p.get b = some x → h.blk.get b = some x)
  (hfree : Bg ρ h.nx nx') (q3 : HR σ g.blk.get w') (q4 : Ext ρ σ { blk := p, nx := h.nx, log := [] } g w w') (ho : ∀ b x, out.get b = some x → g.blk.get b = some x) (hn : g.nx = nx') (hl : ∀ b ∈ g.log, b < h.nx → b ∈ wr) :
  HR σ (Bt h { blk := out, nx := nx', log := wr }).blk.get w' ∧ Ext ρ σ h (Bt h { blk := out, nx := nx', log := wr }) w w' := by
 have hnx : h.nx ≤ nx' := by have := q4.nx; rw [hn] at this; exact this
 have hps : ∀ b, p.get b ≠ none → h.blk.get b ≠ none := by
  intro b hb;cases hp : p.get b with
  | none => exact absurd hp hb
  | some x => rw [hsub b x hp]; exact Option.some_ne_none _
 have cls : ∀ b x, (Bt h { blk := out, nx := nx', log := wr }).blk.get b = some x → g.blk.get b = some x ∨ (b < h.nx ∧ p.get b = none ∧ h.blk.get b = some x) := by
  intro b x hx;by_cases h1 : b < h.nx
  ·by_cases h2 : b ∈ CA h.nx wr
   ·rcases G2 (h := h) (g := { blk := out, nx := nx', log := wr }) h2 with q | ⟨_, q⟩
    ·rw [q] at hx; cases hx
    ·rw [q] at hx; exact .inl (ho b x hx)
   ·rw [C1 (h := h) (g := { blk := out, nx := nx', log := wr }) hnx h2 (.inl h1)] at hx;cases hp : p.get b with
    | none => exact .inr ⟨h1, rfl, hx⟩
    | some y =>
     have e := hsub b y hp;rw [hx] at e;cases e;obtain ⟨l, hl1, hl2⟩ := q4.log;have hl1' : g.log = l := by rw [hl1]; exact List.append_nil l
     refine .inl ((hl2 b (fun e => h2 (Cr.2 ⟨hl b (by rw [hl1']; exact e) h1, h1⟩)) (.inl h1)).trans hp)
  ·by_cases h2 : b < nx'
   ·rw [HO (h := h) (g := { blk := out, nx := nx', log := wr }) hwf hnx (by omega) h2] at hx
    exact .inl (ho b x hx)
   ·rw [GX (h := h) (g := { blk := out, nx := nx', log := wr }) hwf hnx b (by show nx' ≤ b; omega)] at hx; cases hx
 have old : ∀ b base, σ b = some base → b < h.nx → ρ b = some base := by
  intro b base hb hlt;rcases q4.new b base hb with e | ⟨e, _⟩
  ·exact e
  ·exact absurd e (by show ¬ h.nx ≤ b; omega)
 have LR : ∀ b b' base base' x x', σ b = some base → σ b' = some base' → g.blk.get b = some x → b' < h.nx → p.get b' = none → h.blk.get b' = some x' → base.cb ≠ base'.cb := by
  intro b b' base base' x x' hb hb' hx hlt hp hx';have hb'' := old b' base' hb' hlt;have hne' : h.blk.get b' ≠ none := by rw [hx']; exact Option.some_ne_none _
  have hin : ∀ b0 base0, ρ b0 = some base0 → p.get b0 ≠ none → base0.cb ≠ base'.cb := fun b0 base0 h0 hp0 =>
   hr.apart b0 b' base0 base' (fun e => by subst e; exact hp0 hp) h0 hb'' (hps b0 hp0) hne'
  rcases q4.new b base hb with e | ⟨_, _, e⟩
  ·rcases q4.live b (by rw [hx]; exact Option.some_ne_none _) with l | ⟨l1, l2⟩
   ·exact hin b base e l
   ·have := hfree b l1 (by rw [← hn]; exact l2)
    rw [this] at e; cases e
  ·rcases e with e | ⟨b0, base0, e1, e2, e3⟩
   ·have := hr.lt b' base' hb''; omega
   ·rw [← e3]; exact hin b0 base0 e1 e2
 refine ⟨⟨q3.lt, fun b base x hb hx => ?_, fun b b' base base' hne hb hb' h1 h2 => ?_, q3.imm, fun k arr b base hk hb hl => ?_⟩, ⟨q4.le, hnx, fun b base hb => ?_, q4.calm, fun k hk hkk => q4.kept k hk (fun b base hb hp => hkk b base hb (hps b hp)), ⟨CA h.nx wr, rfl, fun b hb ho => C1 (h := h) (g := { blk := out, nx := nx', log := wr }) hnx hb ho⟩, fun b hb => GO (h := h) (g := { blk := out, nx := nx', log := wr }) hwf hnx hb, fun k arr hk => (q4.imm k arr hk).imp id (fun e => e.imp id (fun ⟨b0, base0, x1, x2, x3⟩ => ⟨b0, base0, x1, hps b0 x2, x3⟩))⟩⟩
 ·rcases cls b x hx with q | ⟨hlt, hp, hh⟩
  ·exact q3.blk b base x hb q
  ·have hρ := old b base hb hlt;have hk := q4.kept base.cb (hr.lt b base hρ) (fun b' base' hb' hp' => hr.apart b' b base' base (fun e => by subst e; exact hp' hp) hb' hρ (hps b' hp') (by rw [hh]; exact Option.some_ne_none _))
   rw [hk];exact (hr.blk b base x hρ hh).mono q4.le
 ·cases hx : (Bt h { blk := out, nx := nx', log := wr }).blk.get b with
  | none => exact absurd hx h1
  | some x =>
   cases hx' : (Bt h { blk := out, nx := nx', log := wr }).blk.get b' with
   | none => exact absurd hx' h2
   | some x' =>
    rcases cls b x hx with q | ⟨a1, a2, a3⟩
    ·rcases cls b' x' hx' with q' | ⟨a1', a2', a3'⟩
     ·exact q3.apart b b' base base' hne hb hb' (by rw [q]; exact Option.some_ne_none _) (by rw [q']; exact Option.some_ne_none _)
     ·exact LR b b' base base' x x' hb hb' q a1' a2' a3'
    ·rcases cls b' x' hx' with q' | ⟨a1', a2', a3'⟩
     ·exact fun e => LR b' b base' base x' x hb' hb q' a1 a2 a3 e.symm
     ·exact hr.apart b b' base base' hne (old b base hb a1) (old b' base' hb' a1') (by rw [a3]; exact Option.some_ne_none _) (by rw [a3']; exact Option.some_ne_none _)
 ·cases hx : (Bt h { blk := out, nx := nx', log := wr }).blk.get b with
  | none => exact absurd hx hl
  | some x =>
   rcases cls b x hx with q | ⟨a1, a2, a3⟩
   ·exact q3.off k arr b base hk hb (by rw [q]; exact Option.some_ne_none _)
   ·have hρ := old b base hb a1;have hl3 : h.blk.get b ≠ none := by rw [a3]; exact Option.some_ne_none _
    rcases q4.imm k arr hk with e | e | ⟨b0, base0, e1, e2, e3⟩
    ·exact hr.off k arr b base e hρ hl3
    ·have := hr.lt b base hρ; omega
    ·rw [← e3];exact (hr.apart b0 b base0 base (fun e => by subst e; exact e2 a2) e1 hρ (hps b0 e2) hl3).symm
 ·rcases q4.new b base hb with e | ⟨e1, e2, e3⟩
  ·exact .inl e
  ·exact .inr ⟨e1, by show b < nx'; rw [← hn]; exact e2, e3.imp id (fun ⟨b0, base0, x1, x2, x3⟩ => ⟨b0, base0, x1, hps b0 x2, x3⟩)⟩
theorem SQ {P : Program} {F : Nat → D → D} (hF : U.V.fn = F) {f : FuncId} {args : List AV} {args' : List Value} {h g : Aa} {ok : Bool} {v : AV} {ρ : Ren} {w : World} : ∀ {l : List Orc}, (∀ e ∈ l, e.Valid P F) → U.K = (Env.of P).kinds → O2 l f args h = some (ok, v, g) → VL ρ args args' → HR ρ h.blk.get w → WF h → Bg ρ h.nx g.nx →
  ∀ (c0 : Frame) (base : List Frame), ∃ σ v' w', B4 P (lone (Frame.enter P f args'.toArray .normal) (c0 :: base) w) c0 base ok v' w' ∧ VR σ v v' ∧ HR σ g.blk.get w' ∧ Ext ρ σ h g w w'
 | [], _, _, hx, _, _, _, _ => by simp [O2] at hx
 | e :: r, hO, hK, hx, ha, hr, hwf, hfree => by
  simp only [O2] at hx;split at hx
  ·rename_i hb;simp only [Bool.and_eq_true] at hb;obtain ⟨⟨⟨h1, h2⟩, h3⟩, h4⟩ := hb;have e1 := Nat.eq_of_beq_eq_true h1;have e2 := Nat.eq_of_beq_eq_true h2;have e3 := Fl _ _ h3;subst e1;subst e3;cases hx;intro c0 base;have hfree' : Bg ρ e.nx e.nx' := by rw [e2]; exact hfree
   obtain ⟨σ, v', w', gg, a1, a2, a3, a4, a5, a6, a7⟩ := hO e (by simp) hK hF ρ w args' ha (hr.weaken (fun b x _ hx => GZ h4 b x hx)) (fun b hb => by
    show e.part.get b = none;cases hp : e.part.get b with
    | none => rfl
    | some x =>
     have q := GZ h4 b x hp;rw [hwf b (by rw [← e2]; exact hb)] at q
     cases q) hfree' c0 base
   rw [e2] at a4 a7;obtain ⟨m1, m2⟩ := RD hr hwf (GZ h4) hfree a3 a4 a5 a6 a7;exact ⟨σ, v', w', a1, a2, m1, m2⟩
  ·exact SQ hF (fun e he => hO e (by simp [he])) hK hx ha hr hwf hfree
section
variable {E : Env} (hE : OK E) (hO : Ag E U.V.fn) {ρ : Ren} {w : World} {c : Frame} {ccs : List Frame} {s s' : AS}
include hE hO
theorem Ih {f : FuncId} {args : List AV} {args' : List Value} {h g : Aa} {ok : Bool} {v : AV} (hx : LA E f args h = some (ok, v, g)) (ha : VL ρ args args') (hr : HR ρ h.blk.get w) (hwf : WF h) (hfree : Bg ρ h.nx g.nx) :
  ∀ (c0 : Frame) (base : List Frame), ∃ σ v' w', B4 E.P (lone (Frame.enter E.P f args'.toArray .normal) (c0 :: base) w) c0 base ok v' w' ∧ VR σ v v' ∧ HR σ g.blk.get w' ∧ Ext ρ σ h g w w' := by
 unfold LA at hx;split at hx
 ·rename_i r hr';cases hx;exact SQ rfl hO.orc hE.kd hr' ha hr hwf hfree
 ·split at hx
  ·rename_i v2 g2 hs;cases hx;exact Mh hE rfl hO.sms hs ha hr hwf hfree
  ·cases hx
omit hE hO in
theorem Vs {h : Aa} {a : AV} {v : Value} (ha : VR ρ a v) : VR ρ (RZ h a) v := by
 unfold RZ;split
 ·rename_i b n es;split
  ·cases ha with
   | slice _ _ _ _ cap base hb hc hz => exact .asl b es (.c n) (.bc false) cap base hb (Int.natCast_nonneg _) (by simpa [Ad, Ab, D.toInt] using hc) (by omega) rfl
   | sliceEnd _ _ _ a => exact .aslEnd b es (.c (0 : Nat)) (.bc false) (some a) rfl rfl
  ·exact ha
 ·exact ha
omit hE hO in
theorem SM {h : Aa} {f : AF} {c : Frame} (hf : FrR ρ f c) : FrR ρ (XM h f) c := by
 unfold XM;split
 ·refine ⟨hf.fn, ⟨hf.tm.size, fun i x hx => ?_⟩, hf.todo, hf.defers, hf.mode, hf.kind, hf.round⟩
  have hx : (f.tmps.mapA (RZ h)).get i = some x := hx;rw [T.get_mapA] at hx;cases hg : f.tmps.get i with
  | none => rw [hg] at hx; cases hx
  | some y =>
   rw [hg] at hx;cases hx;exact Vs (hf.tm.get i y hg)
 ·exact hf
omit hO in
theorem Uq (hsr : SR ρ s c ccs w) (hm : s.fr.mode = .run) {all : Array Oper} {o : Oper} {r : List Oper} {k : List AI} (ht : s.fr.todo = .ops all (o :: r) :: k) (hx : Wz E s all o r = some s') (base : List Frame) :
  ∃ σ c' ccs' w', Steps E.P (lone c (ccs ++ base) w) (lone c' (ccs' ++ base) w') ∧ SR σ s' c' ccs' w' ∧ Ext ρ σ s.h s'.h w w' := by
 unfold Wz at hx;split at hx
 ·rename_i t x lo o2 r2 d hop hdst;split at hx
  ·rename_i cc hop2;split at hx
   ·rename_i t1 d' hcal hats hargs;split at hx
    ·rename_i b es n nl kd l hex hel;split at hx
     ·rename_i e e1 e2 y hd hd1 hb;split at hx
      ·rename_i z ks hz hk;split at hx
       ·rename_i hc;split at hx
        ·rename_i fr1 hw1 hf1;split at hx
         ·rename_i fr2 hw2 hf2;cases hx;obtain ⟨c1, hc⟩ := Av hc;obtain ⟨c2, hc⟩ := Av hc;obtain ⟨c3, hc⟩ := Av hc;obtain ⟨c4, hc⟩ := Av hc;obtain ⟨c5, hc⟩ := Av hc;obtain ⟨c6, hc⟩ := Av hc;obtain ⟨c7, hc⟩ := Av hc;obtain ⟨c8, c9⟩ := Av hc;have q1 := AG c1;have q2 := AG c2;have q3 := AG c3;subst q1 q2 q3;have htodo := hsr.fr.todo;rw [ht] at htodo;obtain ⟨i, idx, k', ee, ho, hm', hkk⟩ := htodo.ops_inv;have hmode := hsr.fr.mode;rw [hm] at hmode
          have hcm : c.mode = .run := by
           generalize c.mode = x at hmode;cases hmode; rfl
          have ht' := hsr.fr.tm
          have hev : EvR ρ s.fr.tmps c.eval := by
           intro x;have := Kx ht' x;cases x <;> exact this
          have hvx := hev x;rw [hex] at hvx;have hvl := CY (hev lo) hel;obtain ⟨v, w', r1, r2', r3, r4⟩ := XK hE hsr.h (ty := o2.type) hd hd1 hz hk (AG c4) (AG c5) c6 hvx hb c7 c8 hvl c9;have hnd : ∀ cl, o.op ≠ .defer cl := by intro cl e; rw [hop] at e; cases e
          have hnd2 : ∀ cl, o2.op ≠ .defer cl := by intro cl e; rw [hop2] at e; cases e
          have st1 : step E.P (lone c (ccs ++ base) w) = .next (lone (c.finish v) (ccs ++ base) w) := Qz hcm ee ho (CZ ht' hw1) (.inr hnd) (.inl (by simp [execOp, hop, r1]))
          have fr1ok := BJ hsr.fr hf1 (VR.top v)
          have ef : c.finish v = { c with tmps := IE c.tmps o.dst v, todo := .inRegion all idx :: k' } := by
           simp only [Frame.finish, ee, ho, Option.bind_some, IE];cases o.dst <;> rfl
          have fm : fr1.mode = .run ∧ fr1.todo = .ops all (o2 :: r2) :: k ∧ d < s.fr.nt := by
           unfold CP at hf1;rw [ht] at hf1;simp only [hdst, LB] at hf1;split at hf1
           ·rename_i t' hp;cases hf1;split at hp
            ·rename_i hlt;exact ⟨hm, rfl, IqQ hlt⟩
            ·cases hp
           ·cases hf1
          obtain ⟨fm1, fm2, fm3⟩ := fm;have htodo2 := fr1ok.todo;rw [fm2] at htodo2;obtain ⟨i2, idx2, k2', ee2, ho2, _, _⟩ := htodo2.ops_inv;have hcm2 : (c.finish v).mode = .run := by rw [ef]; exact hcm
          have hev2 : (c.finish v).eval (.tmp d) = v := by
           show (c.finish v).tmps.getD d Go.undef = v;rw [ef];show (IE c.tmps o.dst v).getD d Go.undef = v;rw [hdst];have : d < c.tmps.size := by rw [ht'.size]; exact fm3
           simp [IE, Array.getD_eq_getD_getElem?, this]
          have hrun2 : (execOp (c.finish v).eval o2).run E.P w = .ok (.value (.tuple #[])) w' := by
           have a1 : cc.argTypes = #[t1] := by rw [← Array.toList_inj]; exact hats
           have hmap : (cc.args.map (c.finish v).eval) = (cc.args.toList.map (c.finish v).eval).toArray := by apply Array.ext'; simp
           have ex : ∃ cs, execOp (c.finish v).eval o2 = builtin .clear cc.argTypes o2.type cs (cc.args.toList.map (c.finish v).eval).toArray :=
            ⟨_, by unfold execOp; rw [hop2]; simp only [resolve, hcal, pure_bind, invoke, hmap]; rfl⟩
           obtain ⟨cs, ex⟩ := ex;rw [ex, a1, hargs];simp only [List.map_cons, List.map_nil, hev2];simp [builtin, r2']
          have st2 : step E.P (lone (c.finish v) (ccs ++ base) w) = .next (lone ((c.finish v).finish (.tuple #[])) (ccs ++ base) w') := Qz hcm2 ee2 ho2 (CZ fr1ok.tm hw2) (.inr hnd2) (.inl hrun2);have fr2ok := BJ fr1ok hf2 (VR.top (.tuple #[]));exact ⟨ρ, (c.finish v).finish (.tuple #[]), ccs, w', Steps.head st1 (Steps.one st2), ⟨fr2ok, hsr.cs, r3⟩, r4⟩
         ·cases hx
        ·cases hx
       ·cases hx
      ·cases hx
     ·cases hx
    ·cases hx
   ·cases hx
  ·cases hx
 ·cases hx
theorem UZ (hsr : SR ρ s c ccs w) (hwf : WF s.h) (hx : V6 E s = some s') (hfree : Bg ρ s.h.nx s'.h.nx) (base : List Frame) :
  ∃ σ c' ccs' w', Steps E.P (lone c (ccs ++ base) w) (lone c' (ccs' ++ base) w') ∧ SR σ s' c' ccs' w' ∧ Ext ρ σ s.h s'.h w w' := by
 unfold V6 at hx;split at hx
 ·cases hx
 ·split at hx
  ·rename_i hm;split at hx
   ·rename_i all o r k ht;split at hx
    ·rename_i s'' htl;cases hx;exact Uq hE hsr hm ht htl base
    split at hx
    ·rename_i hsim;split at hx
     ·rename_i hw;split at hx
      ·rename_i g args h1 hop;split at hx
       ·rename_i v h2 hfind;split at hx
        ·rename_i fr hfin;cases hx;have htodo := hsr.fr.todo;rw [ht] at htodo;obtain ⟨i, idx, k', e, ho, hm', hk⟩ := htodo.ops_inv;have hmode := hsr.fr.mode;rw [hm] at hmode
         have hcm : c.mode = .run := by
          generalize c.mode = x at hmode;cases hmode; rfl
         have ht' := hsr.fr.tm
         have hev : EvR ρ s.fr.tmps c.eval := by
          intro x;have := Kx ht' x;cases x <;> exact this
         have hdoes := KG hE hsr.h hev o;rw [hop] at hdoes;obtain ⟨rfl, args', ha, hrun⟩ := hdoes
         have hnd : ∀ cl, o.op ≠ .defer cl := by
          intro cl e;rw [e] at hop;simp only [aop] at hop;rcases E8 s.fr.tmps cl s.h with ⟨d, hq⟩ | ⟨y, hq⟩ <;> (rw [hq] at hop; cases hop)
         obtain ⟨σ, v', w', q1, q2, q3, q4⟩ := Ih hE hO hfind ha hsr.h hwf hfree c (ccs ++ base);have hst := PX (cs := ccs ++ base) (P := E.P) hcm e ho (CZ ht' hw) (.inr hnd) hrun;exact ⟨σ, c.finish v', ccs, w', Steps.head hst q1, ⟨SM (BJ (hsr.fr.mono q4.le) hfin q2), hsr.cs.mono q4.le, q3⟩, q4⟩
        ·cases hx
       ·cases hx
      ·cases hx
     ·cases hx
    ·cases hx
   ·
    rename_i fo params assign body k ht;split at hx
    ·rename_i g args h3 fr' hrc;split at hx
     ·rename_i v h2 hfind;split at hx
      ·rename_i fr hble hfin;cases hx;have htodo := hsr.fr.todo;rw [ht] at htodo;have hmode := hsr.fr.mode;rw [hm] at hmode
       have hcm : c.mode = .run := by
        generalize c.mode = x at hmode;cases hmode; rfl
       generalize hct : c.todo = td at htodo;cases htodo with
       | cons hc1 hk =>
        cases hc1;have hnx : h3.nx ≤ h2.nx := Dh hble;obtain ⟨σ, c', args', w1, q1, q2, q3, q4, q5⟩ := OH hE hsr hcm hk hct hrc (fun b b1 b2 => hfree b b1 (by show b < h2.nx; omega)) base
        obtain ⟨τ, v', w', r1, r2, r3, r4⟩ := Ih hE hO hfind q2 q4 (q5.wf hwf) (q5.free hfree) c' (ccs ++ base);exact ⟨τ, c'.finish v', ccs, w', Steps.head q1 r1, ⟨SM (BJ (q3.mono r4.le) hfin r2), (hsr.cs.mono q5.le).mono r4.le, r3⟩, q5.trans r4 hfree⟩
      ·cases hx
     ·cases hx
    ·cases hx
   ·cases hx
  ·cases hx
omit hE hO in
theorem OD {ρ : Ren} {nt : Nat} {t : T AV} {a : Array Value} (h : TR ρ nt t a) : ∀ {l : List Tmp} {i : Tmp} {v : AV}, Wf t l = some (i, v) → TR ρ nt (t.set i v) a
 | [], i, v, hx => by cases hx
 | c :: r, i, v, hx => by
  unfold Wf at hx;split at hx
  ·rename_i b nl hg;split at hx
   ·exact OD h hx
   ·cases hx;refine ⟨h.size, fun j x hj => ?_⟩
    rw [T.get_set] at hj;by_cases e : c = j
    ·subst e;rw [if_pos rfl] at hj;cases hj;exact Oh (h.get c _ hg)
    ·rw [if_neg e] at hj;exact h.get j x hj
  ·exact OD h hx
theorem Sq (hsr : SR ρ s c ccs w) (hwf : WF s.h) (hx : Wa E s = some s') (hfree : Bg ρ s.h.nx s'.h.nx) (base : List Frame) :
  ∃ σ c' ccs' w', Steps E.P (lone c (ccs ++ base) w) (lone c' (ccs' ++ base) w') ∧ SR σ s' c' ccs' w' ∧ Ext ρ σ s.h s'.h w w' := by
 unfold Wa at hx;split at hx
 ·rename_i s1 hr;cases hx;unfold db at hr;split at hr
  ·split at hr
   ·rename_i i v hl;cases hr;exact ⟨ρ, c, ccs, w, Steps.refl _ _, ⟨⟨hsr.fr.fn, OD hsr.fr.tm hl, hsr.fr.todo, hsr.fr.defers, hsr.fr.mode, hsr.fr.kind, hsr.fr.round⟩, hsr.cs, hsr.h⟩, Ext.refl _ _ _⟩
   ·cases hr
  ·cases hr
 ·exact UZ hE hO hsr hwf hx hfree base
end
end Go.AE
namespace Go.AE
variable [U : Unk]
section
variable {E : Env} (hE : OK E) (hO : Ag E U.V.fn)
include hE hO
theorem VH : ∀ (f : Nat) (f0 : FuncId) (rd : Bool) (s : AS) (ρ : Ren) (c : Frame) (ccs : List Frame) (w : World) (ok : Bool) (v : AV) (h : Aa), SR ρ s c ccs w → WF s.h → Gk E f f0 rd s = some (ok, v, h) → Bg ρ s.h.nx h.nx →
  ∀ base : List Frame, ∃ σ cf v' w1 w', Steps E.P (lone c (ccs ++ base) w) (lone cf base w1) ∧ cf.fn = f0 ∧ (rd = false → cf.roundOf = none) ∧ NL E.P cf w1 ok v' w' ∧ VR σ v v' ∧ HR σ h.blk.get w' ∧ Ext ρ σ s.h h w w' := by
 intro f
 induction f with
 | zero => intro f0 rd s ρ c ccs w ok v h hsr hwf hx; cases hx
 | succ f ih =>
  intro f0 rd s ρ c ccs w ok v h hsr hwf hx hfree base
  have go : ∀ (s' : AS) (σ : Ren) (c' : Frame) (ccs' : List Frame) (w1 : World), Steps E.P (lone c (ccs ++ base) w) (lone c' (ccs' ++ base) w1) → SR σ s' c' ccs' w1 → Ext ρ σ s.h s'.h w w1 → Gk E f f0 rd s' = some (ok, v, h) →
    ∃ σ cf v' w1 w', Steps E.P (lone c (ccs ++ base) w) (lone cf base w1) ∧ cf.fn = f0 ∧ (rd = false → cf.roundOf = none) ∧ NL E.P cf w1 ok v' w' ∧ VR σ v v' ∧ HR σ h.blk.get w' ∧ Ext ρ σ s.h h w w' := by
   intro s' σ c' ccs' w1 h1 h2 h3 h4;obtain ⟨τ, cf, v', w2, w', q1, q2, q3, q4, q5, q6, q7⟩ := ih f0 rd s' σ c' ccs' w1 ok v h h2 (h3.wf hwf) h4 (h3.free hfree) base;exact ⟨τ, cf, v', w2, w', Steps.trans h1 q1, q2, q3, q4, q5, q6, h3.trans q7 hfree⟩
  simp only [Gk] at hx;split at hx
  ·rename_i s' htop;split at hx
   ·rename_i hb;have hmono := C4 f f0 rd s' ok v h hx;obtain ⟨σ, cf', ccs', w', q1, q2, q3⟩ := Sq hE hO hsr hwf htop (fun b h1 h2 => hfree b h1 (by omega)) base
    exact go s' σ cf' ccs' w' q1 q2 q3 hx
   ·cases hx
  split at hx
  ·rename_i s' hst;split at hx
   ·rename_i hb;have hmono := C4 f f0 rd s' ok v h hx;obtain ⟨σ, cf', ccs', w', q1, q2, q3⟩ := Pm (base := base) hE hsr hst (fun b h1 h2 => hfree b h1 (by omega))
    exact go s' σ cf' ccs' w' (Steps.one q1) q2 q3 hx
   ·cases hx
  ·rename_i ok' v' h' hst;split at hx
   ·rename_i hb;simp only [Option.some.injEq, Prod.mk.injEq] at hx;obtain ⟨rfl, rfl, rfl⟩ := hx;obtain ⟨rfl, x, w', q1, q2, q3, q4⟩ := Lj hE hsr hst;obtain ⟨b1, b2⟩ := Av hb;have hfn := AG (Av b1).2;refine ⟨ρ, c, x, w, w', Steps.refl _ _, hsr.fr.fn.trans hfn, fun hrd => ?_, q4, q1, q2, q3⟩
    subst hrd;have hround := hsr.fr.round;simp only [Bool.false_or, Option.isNone_iff_eq_none] at b2;rw [b2] at hround;exact hround.none_inv
   ·cases hx
  ·rename_i s2 ops k hst;obtain ⟨rfl, hm, id, ht⟩ := Hr hst
   have hC : ∀ (fr : AF) (g g' : Aa) (ok : Bool) (v : AV) (ρ : Ren) (cf : Frame) (w : World), FrR ρ fr cf → HR ρ g.blk.get w → WF g → Gk E f fr.fn true { fr, cs := [], h := g } = some (ok, v, g') → Bg ρ g.nx g'.nx →
     ∀ (c0 : Frame) (base : List Frame), ∃ σ v' w', B4 E.P (lone cf (c0 :: base) w) c0 base ok v' w' ∧ VR σ v v' ∧ HR σ g'.blk.get w' ∧ Ext ρ σ g g' w w' := by
    intro fr g g' ok v ρ cf w hfr hr hwf hx hfree c0 base;obtain ⟨σ, cf', v', w1, w', q1, q2, q3, q4, q5, q6, q7⟩ := ih fr.fn true { fr, cs := [], h := g } ρ cf [] w ok v g' ⟨hfr, .nil, hr⟩ hwf hx hfree (c0 :: base);refine ⟨σ, v', w', ?_, q5, q6, q7⟩;have := Steps.trans q1 (Steps.one (q4.back c0 base));cases ok <;> exact this
   generalize hcf : (fun (a : Ask) (h : Aa) => match a with
    | .enter g args => match LA E g args h with
     | some r => some r
     | none => match Bi E g args .normal with
      | some fr => Gk E f fr.fn true { fr, cs := [], h }
      | none => none
    | .round l args => match GA l args h with
     | some fr => Gk E f fr.fn true { fr, cs := [], h }
     | none => none) = callF at hx
   have hF : Le E callF := by
    subst hcf;refine ⟨?_, ?_⟩
    ·intro f' args args' g g' ok v ρ w ha hr hwf hx hfree;simp only at hx;split at hx
     ·rename_i r hfind;cases hx;exact Ih hE hO hfind ha hr hwf hfree
     ·split at hx
      ·rename_i fr hfr;exact hC fr g g' ok v ρ _ w (C7 hE hfr ha) hr hwf hx hfree
      ·cases hx
    ·intro l args g g' ok v ρ w hr hwf hx hfree;simp only at hx;split at hx
     ·rename_i fr hfr;exact ⟨fr, hfr, fun cf hcf => hC fr g g' ok v ρ cf w hcf hr hwf hx hfree⟩
     ·cases hx
   split at hx
   ·rename_i tmps h1 hd;have hmono := C4 f f0 rd _ ok v h hx;obtain ⟨σ, c', w', q1, q2, q3⟩ := Kn hE hF hsr hwf hm ht hd (fun b a1 a2 => hfree b a1 (Nat.lt_of_lt_of_le a2 hmono)) base
    exact go _ σ c' ccs w' q1 q2 q3 hx
   ·rename_i v1 tmps h1 hd;have hmono := C4 f f0 rd _ ok v h hx;obtain ⟨σ, c', w', q1, q2, q3⟩ := Kn hE hF hsr hwf hm ht hd (fun b a1 a2 => hfree b a1 (Nat.lt_of_lt_of_le a2 hmono)) base
    exact go _ σ c' ccs w' q1 q2 q3 hx
   ·cases hx
  ·cases hx
end
theorem Orc.valid {E : Env} (hE : ∀ [U : Unk], U.K = (Env.of E.P).kinds → OK E) {G : Nat → D → D} (hO : Ag E G) {N : Nat} {e : Orc} (h : ∀ [F : Facts], K8 E N e = true) : e.Valid E.P G := by
 intro U hK hG ρ w args' ha hr hwf hfree c0 base;have hE := hE hK;subst hG;have hx := h (F := U.toFacts);unfold K8 at hx;split at hx
 ·rename_i ok v g hcall;simp only [Bool.and_eq_true, beq_iff_eq] at hx;obtain ⟨⟨⟨⟨h1, h2⟩, h3⟩, h4⟩, h5⟩ := hx;have e4 := Nat.eq_of_beq_eq_true h4;unfold YO at hcall;split at hcall
  ·rename_i fr hfr;obtain ⟨σ, cf, v', w1, w', q1, q2, q3, q4, q5, q6, q7⟩ := VH hE hO N e.f false _ ρ _ [] w ok v g ⟨C7 hE hfr ha, .nil, hr⟩ hwf hcall (by show Bg ρ e.nx g.nx; rw [e4]; exact hfree) (c0 :: base)
   refine ⟨σ, v', w', g, ?_, GV _ _ h2 ▸ q5, q6, q7, GZ h3, e4, R6 h5⟩;rw [← h1];have := Steps.trans q1 (Steps.one (q4.back c0 base));cases ok <;> exact this
  ·cases hcall
 ·cases hx
end Go.AE
namespace Go.AE
variable [U : Unk]
def Wu (x : Func) : Bool := !(x.name == "runtime.NumGoroutine") && (x.body.isSome || (!(x.name == "maps.clone") && !(x.name == "internal/bytealg.IndexByteString")) || (Extern.allNextRows.lookup x.origin).isNone)
theorem TS : Extern.allNextRows.lookup "maps.clone" = none := by kernel_rfl
theorem WJ : Extern.allGenericRows.lookup "maps.clone" = none := by kernel_rfl
theorem Qk : Extern.allTypedRows.lookup "maps.clone" = none := by kernel_rfl
theorem Ww : Extern.allRows.lookup "maps.clone" = some Extern.MapsClone.clone := by kernel_rfl
theorem WV : Extern.allNextRows.lookup "internal/bytealg.IndexByteString" = none := by kernel_rfl
theorem bh : Extern.allGenericRows.lookup "internal/bytealg.IndexByteString" = none := by kernel_rfl
theorem WL : Extern.allTypedRows.lookup "internal/bytealg.IndexByteString" = none := by kernel_rfl
theorem aD : Extern.allRows.lookup "internal/bytealg.IndexByteString" = some Extern.BytealgIndexByte.indexByte := by kernel_rfl
omit U in
theorem Hi {x : Func} {n : String} (hn : x.name = n) (h1 : Extern.allNextRows.lookup n = none) (h2 : Extern.allNextRows.lookup x.origin = none) : Extern.findNext x = none := by
 show ((Extern.allNextRows.lookup x.name).map (· x.params x.resultTypes) <|> (Extern.allNextRows.lookup x.origin).map (· x.params x.resultTypes)) = none
 rw [hn, h1, h2]; rfl
omit U in
theorem MU {x : Func} {n : String} {g : Array Value → Sem Value} (hn : x.name = n) (h1 : Extern.allGenericRows.lookup n = none) (h2 : Extern.allTypedRows.lookup n = none) (h3 : Extern.allRows.lookup n = some g) : Extern.find x = some g := by
 show (((Extern.allGenericRows.lookup x.name).map (· x.targs x.params x.resultTypes) <|> (Extern.allTypedRows.lookup x.name).map (· x.params x.resultTypes) <|> Extern.allRows.lookup x.name) <|> ((Extern.allGenericRows.lookup x.origin).map (· x.targs x.params x.resultTypes) <|> (Extern.allTypedRows.lookup x.origin).map (· x.params x.resultTypes) <|> Extern.allRows.lookup x.origin)) = some g
 rw [hn, h1, h2, h3]; rfl
theorem OK.of {P : Program} {l : List Orc} {m : List Sm} (hm : P.follows .mixedOrders = true) (hc : P.funcs.toList.all Wu = true) (hk : U.K = (Env.of P).kinds) : OK (Env.ofS P l m) := by
 have hfn : ∀ f x, (Env.ofS P l m).fn.get f = some x → P.funcs[f]? = some x := by
  intro f x h;rw [Env.ofS, T.get_ofList] at h;simpa using h
 have hall : ∀ f x, (Env.ofS P l m).fn.get f = some x → Wu x = true := by
  intro f x h;have := hfn f x h
  exact List.all_eq_true.1 hc x (by
   have h2 : P.funcs.toList[f]? = some x := by simpa using this
   exact List.mem_of_getElem? h2)
 refine ⟨fun t i h => ?_, hfn, fun f x h => ?_, fun f x h hb hn => ?_, fun f x h hb hn => ?_, hm, hk, rfl⟩
 ·rw [Env.ofS, T.get_ofList] at h;have h2 : P.types[t]? = some i := by simpa using h
  have hlt : t < P.types.size := (Array.getElem?_eq_some_iff.1 h2).1;show P.info? t = some i;simp only [Tables.info?, if_pos hlt];exact h2
 ·have := hall f x h;simp only [Wu, Bool.and_eq_true, Bool.not_eq_true'] at this;exact this.1
 ·have q := hall f x h;have ho : Extern.allNextRows.lookup x.origin = none := by simpa [Wu, hb, hn] using q
  exact ⟨Hi hn TS ho, MU hn WJ Qk Ww⟩
 ·have q := hall f x h;have ho : Extern.allNextRows.lookup x.origin = none := by simpa [Wu, hb, hn] using q
  exact ⟨Hi hn WV ho, MU hn bh WL aD⟩
theorem Ag.none {P : Program} {F : Nat → D → D} : Ag (Env.ofO P []) F := ⟨fun e he => (by cases he), fun e he => (by cases he)⟩
theorem Ag.add {P : Program} {l : List Orc} {m : List Sm} {e : Orc} {N : Nat} (hE : ∀ [U : Unk], U.K = (Env.of P).kinds → OK (Env.ofS P l m)) {G : Nat → D → D} (hO : Ag (Env.ofS P l m) G) (h : ∀ [F : Facts], K8 (Env.ofS P l m) N e = true) : Ag (Env.ofS P (e :: l) m) G := by
 refine ⟨fun x hx => ?_, hO.sms⟩
 rcases List.mem_cons.1 hx with rfl | hx
 ·exact Orc.valid (E := Env.ofS P l m) hE hO h
 ·exact hO.orc x hx
end Go.AE
namespace Go.AE
open Go.RowKit
def Xl [Facts] (j : Nat) : Kd → AV
 | .int k => mkI k (.var j)
 | .bool => mkB true (.var j)
 | .str => .ss (.var j)
 | .slice e => .dat e (.var j)
def Iy [Facts] : Nat → List Kd → List AV
 | _, [] => []
 | j, k :: ks => Xl j k :: Iy (j + 1) ks
def IZ : TypeDesc → Bool
 | .struct _ => true
 | _ => false
def DF [Facts] (E : Env) : Nat → List TypeId → Option (List AV)
 | _, [] => some []
 | j, t :: ts => match E.desc t, E.kinds0 t with
  | some d, some ks => match DF E (j + ks.length) ts with
   | some r => match IZ d with
    | true => some (.agg (Iy j ks) :: r)
    | false => match Iy j ks with
     | [a] => some (a :: r)
     | _ => none
   | none => none
  | _, _ => none
def AN (E : Env) : List TypeId → Option (List Kd)
 | [] => some []
 | t :: ts => match E.kinds0 t, AN E ts with
  | some ks, some l => some (ks ++ l)
  | _, _ => none
def BK : Nat → List Kd → List (SB × Bool)
 | _, [] => []
 | j, .int k :: r => match decide (k = .i64) with
  | true => BK (j + 1) r
  | false => (.lss (.var j) (.c k.min), false) :: (.lss (.c k.max) (.var j), false) :: BK (j + 1) r
 | j, _ :: r => BK (j + 1) r
def inL (e : TypeId) : List TypeId → Bool
 | [] => false
 | f :: r => Nat.beq e f || inL e r
def Ol (L : List TypeId) : Kd → Bool
 | .slice e => inL e L
 | _ => true
def FY (E : Env) (L : List TypeId) : List TypeId → Bool
 | [] => true
 | e :: r => match E.kinds0 e with
  | some ks => !ks.isEmpty && ks.all (Ol L) && FY E L r
  | none => false
inductive DT where
 | leaf
 | split (e : SB) (t f : DT)
def Bf (fn : Nat → D → D) (ds : List D) : Val := { d := fun j => ds.getD j default, fn }
@[reducible] def Na (P : Program) : Unk := { facts := [], V := Bf (fun _ d => d) [], K := (Env.of P).kinds, R := [], hR := fun _ _ _ _ _ h => by (cases h), ok := by simp }
def DVL (K : TypeId → Option (List Kd)) (M : Nat → Option (Array Value)) : List Kd → List Value → List D → Prop
 | [], [], [] => True
 | k :: ks, v :: vs, d :: ds => DV K M k v d ∧ DVL K M ks vs ds
 | _, _, _ => False
theorem DVL.len {K : TypeId → Option (List Kd)} {M : Nat → Option (Array Value)} : ∀ {ks : List Kd} {vs : List Value} {ds : List D}, DVL K M ks vs ds → ks.length = vs.length ∧ ks.length = ds.length
 | [], [], [], _ => ⟨rfl, rfl⟩
 | _ :: _, _ :: _, _ :: _, h => by have := DVL.len h.2; simp [this.1.symm, this.2.symm]
def Can : List Kd → List D → Prop
 | .int _ :: ks, d :: ds => (∃ n, d = .int n) ∧ Can ks ds
 | .bool :: ks, d :: ds => (∃ n, d = .bool n) ∧ Can ks ds
 | .str :: ks, d :: ds => (∃ n, d = .str n) ∧ Can ks ds
 | .slice _ :: ks, _ :: ds => Can ks ds
 | _, _ => True
def EG (K : TypeId → Option (List Kd)) : Nat → Kd → D → Prop
 | _, .int _, d => ∃ n, d = .int n
 | _, .bool, d => ∃ b, d = .bool b
 | _, .str, d => ∃ s, d = .str s
 | 0, .slice _, _ => True
 | m + 1, .slice e, d => ∃ nl rows, d = .slc nl rows ∧ (nl = true → rows = []) ∧ ∀ ks, K e = some ks → ∀ r ∈ rows, ∃ cs, r = .row cs ∧ cs.length = ks.length ∧ ∀ (j : Nat) kd, ks[j]? = some kd → EG K m kd (cs.getD j default)
def LU (K : TypeId → Option (List Kd)) (m : Nat) (ks : List Kd) (xs : List D) : Prop := ∀ (j : Nat) kd, ks[j]? = some kd → EG K m kd (xs.getD j default)
def leB (o : Option Nat) (n : Nat) : Prop := ∀ b, o = some b → n ≤ b
def ShK (K : TypeId → Option (List Kd)) (o : Option Nat) : Nat → Kd → D → Prop
 | _, .int _, _ => True
 | _, .bool, _ => True
 | _, .str, d => leB o d.toStr.data.toList.length
 | 0, .slice _, _ => True
 | m + 1, .slice e, d => leB o d.rows.length ∧ ∀ ks, K e = some ks → ∀ i, i < d.rows.length → ∀ (j : Nat) kd, ks[j]? = some kd → ShK K o m kd ((d.rows.getD i default).cells.getD j default)
def ShL (K : TypeId → Option (List Kd)) (o : Option Nat) (m : Nat) (ks : List Kd) (xs : List D) : Prop := ∀ (j : Nat) kd, ks[j]? = some kd → ShK K o m kd (xs.getD j default)
mutual
def Bn {H : Type} (o : Option Nat) : DataW H → Prop
 | .lit (.string bytes) => leB o bytes.length
 | .lit _ => True
 | .nil => True
 | .ptr _ => True
 | .slice elems _ => leB o elems.length ∧ Bs o elems
 | .agg parts => Bs o parts
 | .iface _ _ => True
 | .map _ => True
 | .held _ => True
def Bs {H : Type} (o : Option Nat) : List (DataW H) → Prop
 | [] => True
 | d :: r => Bn o d ∧ Bs o r
end
mutual
theorem Bn.none {H : Type} : ∀ d : DataW H, Bn none d
 | .lit (.string _) => by rw [Bn]; intro b hb; cases hb
 | .lit (.bool _) => by simp [Bn]
 | .lit (.int _ _) => by simp [Bn]
 | .lit (.float _ _) => by simp [Bn]
 | .lit .nil => by simp [Bn]
 | .nil => by simp [Bn]
 | .ptr _ => by simp [Bn]
 | .slice elems _ => by rw [Bn]; exact ⟨fun b hb => (by cases hb), Bs.none elems⟩
 | .agg parts => by rw [Bn]; exact Bs.none parts
 | .iface _ _ => by simp [Bn]
 | .map _ => by simp [Bn]
 | .held _ => by simp [Bn]
theorem Bs.none {H : Type} : ∀ l : List (DataW H), Bs none l
 | [] => by simp [Bs]
 | d :: r => by rw [Bs]; exact ⟨Bn.none d, Bs.none r⟩
end
theorem Bs.get {H : Type} {o : Option Nat} : ∀ {l : List (DataW H)} {i : Nat} {d : DataW H}, Bs o l → l[i]? = some d → Bn o d
 | x :: l, 0, d, h, hi => by
  simp only [List.getElem?_cons_zero, Option.some.injEq] at hi;subst hi;rw [Bs] at h;exact h.1
 | x :: l, i + 1, d, h, hi => by
  rw [Bs] at h;exact h.2.get (by simpa using hi)
 | [], i, d, h, hi => by simp at hi
theorem DV.canK {K : TypeId → Option (List Kd)} {M : Nat → Option (Array Value)} {o : Option Nat} : ∀ (m : Nat) (kd : Kd) (v : Value) (d : D), DV K M kd v d → ∃ d', DV K M kd v d' ∧ EG K m kd d' ∧ (ShK K o m kd d → ShK K o m kd d')
 | m, .int k, v, d, h => by
  cases h with
  | int _ n _ hr q => exact ⟨.int n, .int k n _ hr rfl, by cases m <;> exact ⟨n, rfl⟩, fun _ => by cases m <;> trivial⟩
 | m, .bool, v, d, h => by
  cases h with
  | bool b _ q => exact ⟨.bool b, .bool b _ rfl, by cases m <;> exact ⟨b, rfl⟩, fun _ => by cases m <;> trivial⟩
 | m, .str, v, d, h => by
  cases h with
  | str b _ q => exact ⟨.str b, .str b _ rfl, by cases m <;> exact ⟨b, rfl⟩, fun hs => by cases m <;> (simp only [ShK] at hs ⊢; rw [q] at hs; exact hs)⟩
 | 0, .slice e, v, d, h => ⟨d, h, trivial, fun h => h⟩
 | m + 1, .slice e, v, d, h => by
  cases h with
  | nil _ _ h1 h2 => exact ⟨.slc true [], .nil e _ rfl rfl, ⟨true, [], rfl, fun _ => rfl, fun _ _ r hr => by cases hr⟩, fun _ => ⟨fun b _ => Nat.zero_le b, fun ks _ i hi => absurd hi (Nat.not_lt_zero i)⟩⟩
  | empty _ a cap _ h1 h2 => exact ⟨.slc false [], .empty e a cap _ rfl rfl, ⟨false, [], rfl, fun _ => rfl, fun _ _ r hr => by cases hr⟩, fun _ => ⟨fun b _ => Nat.zero_le b, fun ks _ i hi => absurd hi (Nat.not_lt_zero i)⟩⟩
  | slc _ b off n cap _ ks arr hk ha hn hc h1 hin hrow hv =>
   classical
   have key : ∀ i j, ∃ x, ∀ kd, i < n → ks[j]? = some kd → DV K M kd (arr.getD (off + i * ks.length + j) Go.undef) x ∧ EG K m kd x ∧ (ShK K o m kd ((d.rows.getD i default).cells.getD j default) → ShK K o m kd x) := by
    intro i j;cases hj : ks[j]? with
    | none => exact ⟨default, fun kd _ h => by cases h⟩
    | some kd =>
     by_cases hi : i < n
     ·obtain ⟨x, q1, q2⟩ := DV.canK m kd _ _ (hv i j kd hi hj);exact ⟨x, fun kd' _ h => by cases h; exact ⟨q1, q2⟩⟩
     ·exact ⟨default, fun kd _ h => absurd ‹i < n› hi⟩
   let f : Nat → Nat → D := fun i j => Classical.choose (key i j)
   have hf : ∀ i j kd, i < n → ks[j]? = some kd → DV K M kd (arr.getD (off + i * ks.length + j) Go.undef) (f i j) ∧ EG K m kd (f i j) ∧ (ShK K o m kd ((d.rows.getD i default).cells.getD j default) → ShK K o m kd (f i j)) := fun i j => Classical.choose_spec (key i j)
   have hr : ∀ i, i < n → ((List.range n).map fun i => D.row ((List.range ks.length).map (f i))).getD i default = .row ((List.range ks.length).map (f i)) := by
    intro i hi;simp [List.getD_eq_getElem?_getD, hi]
   have hcell : ∀ i j, j < ks.length → ((List.range ks.length).map (f i)).getD j default = f i j := by
    intro i j hj;simp [List.getD_eq_getElem?_getD, hj]
   have hjl : ∀ {j : Nat} {kd : Kd}, ks[j]? = some kd → j < ks.length := fun h => (List.getElem?_eq_some_iff.1 h).1
   refine ⟨.slc false ((List.range n).map fun i => .row ((List.range ks.length).map (f i))), .slc e b off n cap _ ks arr hk ha (by show (List.map _ _).length = n; simp) hc rfl hin (fun i hi => ?_) (fun i j kd hi hj => ?_), ⟨false, _, rfl, (fun h => by cases h), fun ks' hk' r hr' => ?_⟩, fun hs => ⟨?_, fun ks' hk' i hi j kd hj => ?_⟩⟩
   ·show (((List.range n).map fun i => D.row ((List.range ks.length).map (f i))).getD i default).cells.length = _
    rw [hr i hi];simp [D.cells]
   ·show DV K M kd _ ((((List.range n).map fun i => D.row ((List.range ks.length).map (f i))).getD i default).cells.getD j default)
    rw [hr i hi];show DV K M kd _ (((List.range ks.length).map (f i)).getD j default);rw [hcell i j (hjl hj)];exact (hf i j kd hi hj).1
   ·rw [hk] at hk';cases hk';obtain ⟨i, hi, e⟩ := List.mem_map.1 hr';refine ⟨_, e.symm, by simp, fun j kd hj => ?_⟩
    rw [hcell i j (hjl hj)];exact (hf i j kd (List.mem_range.1 hi) hj).2.1
   ·have e : (D.slc false ((List.range n).map fun i => D.row ((List.range ks.length).map (f i)))).rows.length = d.rows.length := by rw [hn]; simp [D.rows]
    rw [e];exact hs.1
   ·rw [hk] at hk';cases hk'
    have hi' : i < n := by
     have : i < ((List.range n).map fun i => D.row ((List.range ks.length).map (f i))).length := hi
     simpa using this
    show ShK K o m kd ((((List.range n).map fun i => D.row ((List.range ks.length).map (f i))).getD i default).cells.getD j default)
    rw [hr i hi'];show ShK K o m kd (((List.range ks.length).map (f i)).getD j default);rw [hcell i j (hjl hj)];exact (hf i j kd hi' hj).2.2 (hs.2 ks hk i (by rw [hn]; exact hi') j kd hj)
theorem DVL.can {K : TypeId → Option (List Kd)} {M : Nat → Option (Array Value)} {o : Option Nat} : ∀ {ks : List Kd} {cs : List Value} {xs : List D}, DVL K M ks cs xs → ShL K o 9 ks xs → ∃ ys, DVL K M ks cs ys ∧ (Can ks ys ∧ LU K 9 ks ys) ∧ ShL K o 9 ks ys
 | [], [], [], h, _ => ⟨[], h, ⟨trivial, fun j kd h => by simp at h⟩, fun j kd h => by simp at h⟩
 | k :: ks, v :: vs, d :: ds, h, hs => by
  obtain ⟨ys, h1, ⟨h2, h3⟩, h4⟩ := DVL.can (o := o) h.2 (fun j kd hj => by simpa using hs (j + 1) kd (by simpa using hj))
  obtain ⟨d', q1, q2, q3⟩ := DV.canK (o := o) 9 k v d h.1;refine ⟨d' :: ys, ⟨q1, h1⟩, ⟨?_, fun j kd hj => ?_⟩, fun j kd hj => ?_⟩
  rotate_left 2
  ·cases j with
   | zero => simp only [List.getElem?_cons_zero, Option.some.injEq] at hj; subst hj; exact q3 (hs 0 k rfl)
   | succ j => simpa using h4 j kd (by simpa using hj)
  ·cases k with
   | int k => exact ⟨q2, h2⟩
   | bool => exact ⟨q2, h2⟩
   | str => exact ⟨q2, h2⟩
   | slice e => exact h2
  ·cases j with
   | zero => simp only [List.getElem?_cons_zero, Option.some.injEq] at hj; subst hj; exact q2
   | succ j => simpa using h3 j kd (by simpa using hj)
theorem ShL.append {K : TypeId → Option (List Kd)} {o : Option Nat} {m : Nat} {ks ks' : List Kd} {xs xs' : List D} (hl : ks.length = xs.length) (h : ShL K o m ks xs) (h' : ShL K o m ks' xs') : ShL K o m (ks ++ ks') (xs ++ xs') := by
 intro j kd hj;rcases Nat.lt_or_ge j ks.length with c | c
 ·rw [List.getElem?_append_left c] at hj;have := h j kd hj;simpa [List.getD_eq_getElem?_getD, List.getElem?_append_left (show j < xs.length by omega)] using this
 ·rw [List.getElem?_append_right c] at hj;have := h' (j - ks.length) kd hj;simpa [List.getD_eq_getElem?_getD, List.getElem?_append_right (show xs.length ≤ j by omega), ← hl] using this
theorem LU.append {K : TypeId → Option (List Kd)} {m : Nat} {ks ks' : List Kd} {xs xs' : List D} (hl : ks.length = xs.length) (h : LU K m ks xs) (h' : LU K m ks' xs') : LU K m (ks ++ ks') (xs ++ xs') := by
 intro j kd hj;rcases Nat.lt_or_ge j ks.length with c | c
 ·rw [List.getElem?_append_left c] at hj;have := h j kd hj;simpa [List.getD_eq_getElem?_getD, List.getElem?_append_left (show j < xs.length by omega)] using this
 ·rw [List.getElem?_append_right c] at hj;have := h' (j - ks.length) kd hj;simpa [List.getD_eq_getElem?_getD, List.getElem?_append_right (show xs.length ≤ j by omega), ← hl] using this
theorem Can.append {K : TypeId → Option (List Kd)} {M : Nat → Option (Array Value)} : ∀ {ks ks' : List Kd} {cs : List Value} {xs xs' : List D}, DVL K M ks cs xs → Can ks xs → Can ks' xs' → Can (ks ++ ks') (xs ++ xs')
 | [], _, [], [], _, _, _, h' => h'
 | .int _ :: _, _, _ :: _, _ :: _, _, hd, h, h' => ⟨h.1, Can.append hd.2 h.2 h'⟩
 | .bool :: _, _, _ :: _, _ :: _, _, hd, h, h' => ⟨h.1, Can.append hd.2 h.2 h'⟩
 | .str :: _, _, _ :: _, _ :: _, _, hd, h, h' => ⟨h.1, Can.append hd.2 h.2 h'⟩
 | .slice _ :: ks, ks', _ :: cs, _ :: xs, xs', hd, h, h' => Can.append (ks := ks) (ks' := ks') (cs := cs) (xs := xs) (xs' := xs') hd.2 h h'
theorem DVL.append {K : TypeId → Option (List Kd)} {M : Nat → Option (Array Value)} : ∀ {ks ks' : List Kd} {vs vs' : List Value} {ds ds' : List D}, DVL K M ks vs ds → DVL K M ks' vs' ds' → DVL K M (ks ++ ks') (vs ++ vs') (ds ++ ds')
 | [], _, [], _, [], _, _, h => h
 | _ :: _, _, _ :: _, _, _ :: _, _, h, h' => ⟨h.1, DVL.append h.2 h'⟩
theorem DVL.get {K : TypeId → Option (List Kd)} {M : Nat → Option (Array Value)} : ∀ {ks : List Kd} {vs : List Value} {ds : List D}, DVL K M ks vs ds → ∀ {j : Nat} {k : Kd} {d : D}, ks[j]? = some k → ds[j]? = some d → ∃ v, vs[j]? = some v ∧ DV K M k v d
 | [], [], [], _, j, k, d, h, _ => by simp at h
 | _ :: _, _ :: _, _ :: _, h, 0, k, d, h1, h2 => by
  simp only [List.getElem?_cons_zero, Option.some.injEq] at h1 h2;subst h1; subst h2;exact ⟨_, rfl, h.1⟩
 | _ :: _, _ :: _, _ :: _, h, j + 1, k, d, h1, h2 => by
  simp only [List.getElem?_cons_succ] at h1 h2 ⊢;exact DVL.get h.2 h1 h2
theorem Jz [U : Unk] (ρ : Ren) : ∀ (ks : List Kd) (vs : List Value) (ds : List D) (j : Nat), (∀ i, i < ds.length → U.V.d (j + i) = ds.getD i default) → DVL U.K ρ.imm ks vs ds → VL ρ (Iy j ks) vs
 | [], [], [], _, _, _ => VL.nil ρ
 | k :: ks, v :: vs, d :: ds, j, hi, h => by
  have h0 : U.V.d j = d := by have := hi 0 (by simp); simpa using this
  refine VL.cons ?_ (Jz ρ ks vs ds (j + 1) (fun i hl => by have := hi (i + 1) (by simp; omega); rw [show j + 1 + i = j + (i + 1) by omega, this]; simp) h.2)
  have hk := h.1;have he : Ab U.V (.var j) = d := h0;rw [← he] at hk;generalize hq : Ab U.V (.var j) = d' at hk;cases hk with
  | int k n _ hr h3 =>
   have := C2 ρ k (.var j);have e : Ad U.V (.var j) = n := by unfold Ad; rw [hq]; exact h3
   rw [e] at this; exact this
  | bool b _ h3 =>
   have := GS ρ true (.var j);have e : (Ah U.V (.var j) == true) = b := by unfold Ah; rw [hq, h3]; cases b <;> rfl
   rw [e] at this; exact this
  | str s _ h3 =>
   have := VR.ss (ρ := ρ) (.var j);have e : AT U.V (.var j) = s := by unfold AT; rw [hq]; exact h3
   rw [e] at this; exact this
  | nil e _ h1 h2 => exact .dat e (.var j) _ _ _ (by rw [hq]; exact .nil e _ h1 h2)
  | empty e a cap _ h1 h2 => exact .dat e (.var j) _ _ _ (by rw [hq]; exact .empty e a cap _ h1 h2)
  | slc e b off n cap _ ks arr hk ha hn hc h1 hin hrow hv => exact .dat e (.var j) _ _ _ (by rw [hq]; exact .slc e b off n cap _ ks arr hk ha hn hc h1 hin hrow hv)
theorem E7 [U : Unk] {K : TypeId → Option (List Kd)} {M : Nat → Option (Array Value)} {V : Val} : ∀ (ks : List Kd) (vs : List Value) (ds : List D) (j : Nat), (∀ i, i < ds.length → V.d (j + i) = ds.getD i default) → DVL K M ks vs ds → ∀ e b, (e, b) ∈ BK j ks → Ah V e = b
 | [], [], [], _, _, _, e, b, hm => by simp [BK] at hm
 | k :: ks, v :: vs, d :: ds, j, hi, h, e, b, hm => by
  have h0 : V.d j = d := by have := hi 0 (by simp); simpa using this
  have ih := E7 ks vs ds (j + 1) (fun i hl => by have := hi (i + 1) (by simp; omega); rw [show j + 1 + i = j + (i + 1) by omega, this]; simp) h.2 e b
  have hk := h.1;cases hk with
  | int k n _ hr h3 =>
   have e0 : (Ab V (.var j)).toInt = n := by simp only [Ab, h0]; exact h3
   simp only [BK] at hm;split at hm
   ·exact ih hm
   ·rename_i hk;have hb := hr.resolve_left (by simpa using hk)
    simp only [List.mem_cons, Prod.mk.injEq] at hm;rcases hm with ⟨rfl, rfl⟩ | ⟨rfl, rfl⟩ | hm
    ·rw [Ay, decide_eq_false_iff_not]; simp only [Ad];rw [e0]; show ¬ _ < _; have := hb.1; have := hb.2; simp only [Ab, D.toInt]; omega
    ·rw [Ay, decide_eq_false_iff_not]; simp only [Ad];rw [e0]; show ¬ _ < _; have := hb.1; have := hb.2; simp only [Ab, D.toInt]; omega
    ·exact ih hm
  | bool => exact ih hm
  | str => exact ih hm
  | nil => exact ih hm
  | empty => exact ih hm
  | slc => exact ih hm
def EY (w : World) (k : Nat) : Option (Array Value) := match w.heap[k]? with
 | some (.cells c _ _) => some c
 | _ => none
theorem MC {w : World} {a : Addr} {v : Value} (h : w.cell? a = some v) : ∃ arr, EY w a.block = some arr ∧ a.spot = none ∧ arr[a.off]? = some v := by
 unfold World.cell? at h;unfold EY;split at h
 ·rename_i c _ _ hc;rw [hc];split at h
  ·cases h
  ·rename_i hs;refine ⟨c, rfl, ?_, h⟩;cases hq : a.spot with
   | none => rfl
   | some x => rw [hq] at hs; simp at hs
 ·cases h
theorem LI {w : World} {base n : Nat} {a : Addr} {cs : List Value} (h : w.cells? base a n = some cs) (hn : 0 < n) : ∃ arr, EY w a.block = some arr ∧ a.spot = none ∧ cs.length = n ∧ ∀ j, j < n → arr[a.off + j]? = cs[j]? := by
 unfold World.cells? at h;split at h
 ·have hl : cs.length = n := by simpa using mapM_some_length h
  have hg : ∀ j, j < n → w.cell? (a.add j) = cs[j]? := fun j hj => mapM_some_get h j j (by simp [hj])
  have h0 := hg 0 hn;have e0 : a.add 0 = a := by simp [Addr.add]
  rw [e0] at h0;have hc0 : cs[0]? = some cs[0] := by simp
  rw [hc0] at h0;obtain ⟨arr, q1, q2, q3⟩ := MC h0;refine ⟨arr, q1, q2, hl, fun j hj => ?_⟩
  have hj' := hg j hj;have hcj : cs[j]? = some cs[j] := by simp [hl, hj]
  rw [hcj] at hj' ⊢;obtain ⟨arr', p1, p2, p3⟩ := MC hj';by_cases hz : j = 0
  ·subst hz;rw [e0] at p1 p3;rw [q1] at p1; cases p1;exact p3
  ·simp only [Addr.add, if_neg hz] at p1 p3;rw [q1] at p1; cases p1;exact p3
 ·cases h
theorem JB {P : Nat → D → Prop} : ∀ (n : Nat), (∀ i, i < n → ∃ d, P i d) → ∃ l : List D, l.length = n ∧ ∀ i, i < n → ∃ d, l[i]? = some d ∧ P i d
 | 0, _ => ⟨[], rfl, fun i hi => by omega⟩
 | n + 1, h => by
  obtain ⟨l, h1, h2⟩ := JB n (fun i hi => h i (by omega))
  obtain ⟨d, hd⟩ := h n (by omega)
  refine ⟨l ++ [d], by simp [h1], fun i hi => ?_⟩
  by_cases e : i < n
  ·obtain ⟨x, q1, q2⟩ := h2 i e;exact ⟨x, by rw [List.getElem?_append_left (by omega)]; exact q1, q2⟩
  ·have : i = n := by omega
   subst this;exact ⟨d, by rw [List.getElem?_append_right (by omega), h1]; simp, hd⟩
theorem LX {sz : TypeId → Nat → Bool} {r1 r2 : TypeId → Option (List Kd)} (h : ∀ t ks, r1 t = some ks → r2 t = some ks) : ∀ (fs : List Field) (off : Nat) (ks : List Kd), EN sz r1 fs off = some ks → EN sz r2 fs off = some ks
 | [], _, _, q => q
 | f :: r, off, ks, q => by
  simp only [EN] at q ⊢;split at q
  ·rename_i l1 e1 e2;rw [h _ _ e2];split at q
   ·rename_i l2 e3 e4;simp only [e1, e3, LX h r _ _ e4];exact q
   ·cases q
  ·cases q
theorem MI {desc : TypeId → Option TypeDesc} {sz : TypeId → Nat → Bool} : ∀ (n : Nat) (t : TypeId) (ks : List Kd), DZ false desc sz n t = some ks → DZ true desc sz n t = some ks
 | 0, _, _, h => h
 | n + 1, t, ks, h => by
  have key : ∀ l, Jm false sz (DZ false desc sz n) (desc t) = some l → Jm true sz (DZ true desc sz n) (desc t) = some l := by
   intro l q;cases hd : desc t with
   | none => rw [hd] at q; exact q
   | some d =>
    rw [hd] at q;cases d <;> first | exact q | skip
    ·simp [Jm] at q
    ·exact LX (MI n) _ _ _ q
  simp only [DZ] at h ⊢;split at h
  ·rename_i l hl;rw [key l hl];exact h
  ·cases h
theorem TE {E : Env} {t : TypeId} {ks : List Kd} (h : E.kinds0 t = some ks) : E.kinds t = some ks := MI 20 t ks h
theorem U1 {E : Env} {L : List TypeId} : ∀ {l : List TypeId} {e : TypeId}, FY E L l = true → inL e l = true → ∃ ks, E.kinds0 e = some ks ∧ ks ≠ [] ∧ ks.all (Ol L) = true
 | [], e, _, h => by simp [inL] at h
 | f :: r, e, hc, h => by
  simp only [FY] at hc;split at hc
  ·rename_i ks hk;simp only [Bool.and_eq_true, Bool.not_eq_true', List.isEmpty_eq_false_iff] at hc;simp only [inL, Bool.or_eq_true] at h;rcases h with h | h
   ·rw [AG h]; exact ⟨ks, hk, hc.1.1, hc.1.2⟩
   ·exact U1 hc.2 h
  ·cases hc
section
variable {E : Env} {L : List TypeId} {H : Type} {enc : TypeId × Value → H} {w : World} {base : Nat} {sp : Nat → Bool} {held : Bool}
theorem HE [U : Unk] (hE : OK E) {t : TypeId} {n : Nat} (h : E.szIs t n = true) : E.P.cellsOf t = n := by
 unfold Env.szIs at h;cases hi : E.ty.get t with
 | none => rw [hi] at h; cases h
 | some i => rw [hi] at h; simp [Program.cellsOf, hE.ty t i hi, AG h]
theorem RG [U : Unk] (hE : OK E) {rec_ : TypeId → Option (List Kd)} {o : Option Nat} {m : Nat} {cs : List Value} (hrec : ∀ t ks cs x, rec_ t = some ks → ks.all (Ol L) = true → DataW.trod enc E.P w base sp held m t cs = some x → Bn o x.1 → ∃ ds, DVL E.kinds (EY w) ks cs ds ∧ ∀ q, ShL E.kinds o q ks ds) :
  ∀ (fs : List Field) (off : Nat) (ks : List Kd), EN E.szIs rec_ fs off = some ks → ks.all (Ol L) = true → (∀ f ∈ fs, ∃ x, DataW.trod enc E.P w base sp held m f.type ((cs.drop f.offset).take (E.P.cellsOf f.type)) = some x ∧ Bn o x.1) → ∃ ds, DVL E.kinds (EY w) ks ((cs.drop off).take ks.length) ds ∧ ∀ q, ShL E.kinds o q ks ds := by
 intro fs
 induction fs with
 | nil => intro off ks h _ _; simp [EN] at h; subst h; exact ⟨[], by simp [DVL], fun q j kd h => by simp at h⟩
 | cons f r ih =>
  intro off ks h hin hx;simp only [EN] at h;split at h
  ·rename_i k1 ho hk;split at h
   ·rename_i l hs hl;cases h;rw [List.all_append, Bool.and_eq_true] at hin;obtain ⟨x, hx1, hx2⟩ := hx f (by simp)
    have hoff := AG ho;have hsz := HE hE hs;obtain ⟨d1, q1, s1⟩ := hrec _ _ _ _ hk hin.1 hx1 hx2;rw [hsz, hoff] at q1;obtain ⟨d2, q2, s2⟩ := ih _ _ hl hin.2 (fun f hf => hx f (by simp [hf]))
    have e : (cs.drop off).take (k1 ++ l).length = (cs.drop off).take k1.length ++ (cs.drop (off + k1.length)).take l.length := by
     rw [List.length_append, List.take_add, List.drop_drop]
    rw [e];exact ⟨d1 ++ d2, q1.append q2, fun q => (s1 q).append q1.len.2 (s2 q)⟩
   ·cases h
  ·cases h
theorem UT [U : Unk] (hE : OK E) (hL : FY E L L = true) {o : Option Nat} : ∀ (m n : Nat) (t : TypeId) (ks : List Kd) (cs : List Value) (x : DataW H × List MemPlace), DZ false E.desc E.szIs n t = some ks → ks.all (Ol L) = true → DataW.trod enc E.P w base sp held m t cs = some x → Bn o x.1 → ∃ ds, DVL E.kinds (EY w) ks cs ds ∧ ∀ q, ShL E.kinds o q ks ds := by
  intro m
  have one : ∀ {kd : Kd} {d : D}, (∀ q, ShK E.kinds o q kd d) → ∀ q, ShL E.kinds o q [kd] [d] := by
    intro kd d h q j kd' hj;cases j with
    | zero => simp only [List.getElem?_cons_zero, Option.some.injEq] at hj; subst hj; exact h q
    | succ j => simp at hj
  induction m using Nat.strongRecOn with
  | _ m ih =>
    intro n t ks cs x h0 hin hx hsw;obtain ⟨hsz, n', rfl, h⟩ := kinds_size h0;clear h0;cases hd : E.desc t with
    | none => rw [hd] at h; cases h
    | some d =>
      have hu := hE.und hd;rw [hd] at h;cases m with
      | zero => simp [DataW.trod] at hx
      | succ m =>
      cases d <;> first | (cases h; done) | skip
      case bool =>
        cases h;unfold DataW.trod at hx;rw [hu] at hx;split at hx <;> simp_all
        exact ⟨[.bool _], ⟨.bool _ _ rfl, trivial⟩, one fun q => by cases q <;> trivial⟩
      case int k =>
        cases h;unfold DataW.trod at hx;rw [hu] at hx
        have go : ∀ {k' : IntKind} {n : Int}, (k' = k ∧ (Lit.int k n).wf = true) → ∃ ds, DVL E.kinds (EY w) [.int k] [.int k' n] ds ∧ ∀ q, ShL E.kinds o q [.int k] ds := by
          rintro k' n ⟨rfl, hw⟩
          have hb : k'.min ≤ n ∧ n ≤ k'.max := by simpa [Lit.wf] using hw
          exact ⟨[.int n], ⟨.int _ _ _ (.inr hb) rfl, trivial⟩, one fun q => by cases q <;> trivial⟩
        split at hx <;> first | (cases hx; done) | skip
        all_goals
          first
            | (split at hx
               · rename_i hq; simp_all
               · cases hx)
            | simp_all
      case string =>
        cases h;unfold DataW.trod at hx;rw [hu] at hx;split at hx <;> first | (simp at hx; done) | skip
        all_goals first
          | (rename_i hh; cases hh; done)
          | (rename_i hh _; cases hh; done)
          | skip
        all_goals
          rename_i s _;split at hx
          · simp only [Option.some.injEq] at hx
            subst hx;exact ⟨[.str s], ⟨.str _ _ rfl, trivial⟩, one fun q => by cases q <;> (simp only [Bn] at hsw; exact hsw)⟩
          · cases hx
      case slice e =>
        cases h;simp only [List.all_cons, List.all_nil, Bool.and_true, Ol] at hin;obtain ⟨ke, hke0, hne, hall⟩ := U1 hL hin;have hke := TE hke0;rcases DataW.trod_slice hu hx with ⟨rfl, _⟩ | ⟨a, len, cap, elems, rest, q, hq, rfl, hxe, hb, hl, hc, hlen, hel, _, _⟩
        · exact ⟨[.slc true []], ⟨.nil e _ rfl rfl, trivial⟩, one fun q => by cases q <;> first | trivial | exact ⟨fun b _ => Nat.zero_le b, fun _ _ i hi => absurd hi (Nat.not_lt_zero i)⟩⟩
        · by_cases h0 : len = 0
          · subst h0
            exact ⟨[.slc false []], ⟨.empty e a cap _ rfl rfl, trivial⟩, one fun q => by cases q <;> first | trivial | exact ⟨fun b _ => Nat.zero_le b, fun _ _ i hi => absurd hi (Nat.not_lt_zero i)⟩⟩
          · have hes : E.P.cellsOf e = ke.length := HE hE (kinds_size hke).1
            have hpos : 0 < ke.length := by cases ke with | nil => exact absurd rfl hne | cons => simp
            rw [hes] at hel
            obtain ⟨rows, r1, r2⟩ := JB (P := fun i d => ∃ ds cells, d = .row ds ∧ w.cells? base (a.add (i * ke.length)) ke.length = some cells ∧ DVL E.kinds (EY w) ke cells ds ∧ ∀ q, ShL E.kinds o q ke ds) len (by
              intro i hi;have := hel i hi;have he : elems[i]? = some elems[i] := by simp [hlen, hi]
              rw [he] at this;simp only [Option.bind_eq_some_iff] at this;obtain ⟨cells, c1, c2⟩ := this
              have hse : Bn o (elems[i]).1 := by
                rw [hxe] at hsw;simp only [Bn] at hsw;exact hsw.2.get (i := i) (by simp [hlen, hi])
              obtain ⟨ds, hds, hds2⟩ := ih q (by omega) 20 e ke cells _ hke0 hall c2 hse
              exact ⟨.row ds, ds, cells, rfl, c1, hds, hds2⟩)
            obtain ⟨_, _, ds0, cells0, _, c0, _⟩ := r2 0 (by omega)
            have ea : a.add (0 * ke.length) = a := by simp [Addr.add]
            rw [ea] at c0;obtain ⟨arr, s1, s2, _, s4⟩ := LI c0 hpos;have spot : a = ⟨a.block, a.off, none⟩ := by cases a; simp at s2; simp [s2]
            have key : ∀ i, i < len → ∃ ds cells, rows[i]? = some (.row ds) ∧ (DVL E.kinds (EY w) ke cells ds ∧ ∀ q, ShL E.kinds o q ke ds) ∧ ∀ j, j < ke.length → arr[a.off + i * ke.length + j]? = cells[j]? := by
              intro i hi;obtain ⟨d, g1, ds, cells, g2, g3, g4, g5⟩ := r2 i hi;subst g2;refine ⟨ds, cells, g1, ⟨g4, g5⟩, ?_⟩;obtain ⟨arr', t1, t2, _, t4⟩ := LI g3 hpos;by_cases hz : i * ke.length = 0
              · rw [hz] at t1 t4 ⊢
                have e0 : a.add 0 = a := by simp [Addr.add]
                rw [e0] at t1 t4;rw [s1] at t1; cases t1;simpa using t4
              · simp only [Addr.add, if_neg hz] at t1 t4
                rw [s1] at t1; cases t1;exact t4
            refine ⟨[.slc false rows], ⟨?_, trivial⟩, one fun q => by
              cases q with
              | zero => trivial
              | succ q =>
                refine ⟨by
                  rw [hxe] at hsw;simp only [Bn] at hsw;have e : (D.slc false rows).rows.length = elems.length := by rw [hlen]; exact r1
                  rw [e];exact (List.length_map (as := elems) (·.1)) ▸ hsw.1, fun ks' hk' i hi j kd hj => ?_⟩
                have hk2 : ks' = ke := Option.some.inj (hk'.symm.trans hke);subst hk2;have hi' : i < len := by have : i < rows.length := hi; omega
                obtain ⟨ds, cells, g1, ⟨_, g2⟩, _⟩ := key i hi';have er : (D.rows (.slc false rows)).getD i default = .row ds := by simp [D.rows, List.getD_eq_getElem?_getD, g1]
                rw [er];exact g2 q j kd hj⟩
            rw [spot];refine .slc e a.block a.off len cap (.slc false rows) ke arr hke s1 r1 hl rfl ?_ (fun i hi => ?_) ?_
            · obtain ⟨ds, cells, _, ⟨g2, _⟩, g3⟩ := key (len - 1) (by omega)
              have := g3 (ke.length - 1) (by omega)
              have hcl := g2.len.1;have hc1 : cells[ke.length - 1]? = some (cells[ke.length - 1]'(by omega)) := by simp
              rw [hc1] at this;have hlt := (Array.getElem?_eq_some_iff.1 this).1
              have : len * ke.length = (len - 1) * ke.length + ke.length := by
                rw [← Nat.succ_mul]; congr 1; omega
              omega
            · obtain ⟨ds, cells, g1, ⟨g2, _⟩, _⟩ := key i hi
              have er : (D.rows (.slc false rows)).getD i default = .row ds := by simp [D.rows, List.getD_eq_getElem?_getD, g1]
              rw [er]; exact g2.len.2.symm
            · intro i j kd hi hj
              obtain ⟨ds, cells, g1, ⟨g2, _⟩, g3⟩ := key i hi;have er : (D.rows (.slc false rows)).getD i default = .row ds := by simp [D.rows, List.getD_eq_getElem?_getD, g1]
              rw [er];have hjl : j < ke.length := (List.getElem?_eq_some_iff.1 hj).1
              have hjd : ds[j]? = some ((D.cells (.row ds)).getD j default) := by
                have : j < ds.length := by rw [← g2.len.2]; exact hjl
                simp [D.cells, List.getD_eq_getElem?_getD, this]
              obtain ⟨v, v1, v2⟩ := g2.get hj hjd;have := g3 j hjl;rw [v1] at this;have ev : arr.getD (a.off + i * ke.length + j) Go.undef = v := by simp [Array.getD_eq_getD_getElem?, this]
              rw [ev]; exact v2
      case struct fs =>
        simp only [Jm] at h;obtain ⟨xs, q, e1, e2, e3, e4, e5⟩ := DataW.trod_struct hu hx;rw [e2] at hsw;simp only [Bn] at hsw
        obtain ⟨ds, this, this2⟩ := RG hE (L := L) (o := o) (m := q) (cs := cs) (fun t ks cs x a b c d => ih q (by omega) n' t ks cs x a b c d) fs.toList 0 ks h hin (fun f hf => by
          obtain ⟨i, hi, rfl⟩ := List.getElem_of_mem hf;have hi' : i < fs.size := by simpa using hi
          have h5 := e5 i fs[i] (by simp [hi'])
          have hxi : i < xs.length := by omega
          exact ⟨xs[i], by simpa [hxi] using h5, hsw.get (i := i) (by simp [hxi])⟩)
        have hlen : cs.length = ks.length := by rw [e3, HE hE hsz]
        rw [List.drop_zero, ← hlen, List.take_length] at this;exact ⟨ds, this, this2⟩
theorem RI [U : Unk] (hE : OK E) (hL : FY E L L = true) {o : Option Nat} : ∀ (ts : List TypeId) (vs : List Value) (ds : List (DataW H)) (ps : List MemPlace) (ks : List Kd), DataW.TrodAll enc E.P w base sp held ts vs ds ps →
  (∀ (j : Nat) t v, ts[j]? = some t → vs[j]? = some v → ∃ r b0, Value.okWide E.P w r b0 t v) → AN E ts = some ks → ks.all (Ol L) = true → Bs o ds →
  ∃ (cs : List Value) (xs : List D), DVL E.kinds (EY w) ks cs xs ∧ ((Can ks xs ∧ LU E.kinds 9 ks xs) ∧ ShL E.kinds o 9 ks xs) ∧ ∀ (U : Unk) (j : Nat) (args : List AV) (ρ : Ren), U.K = E.kinds → ρ.imm = EY w → (∀ i, i < xs.length → U.V.d (j + i) = xs.getD i default) → DF E j ts = some args → VL ρ args vs := by
 intro ts
 induction ts with
 | nil =>
  intro vs ds ps ks hA hval hk _ _;cases vs with
  | nil =>
   simp [AN] at hk;subst hk;exact ⟨[], [], trivial, ⟨⟨trivial, fun j kd h => by simp at h⟩, fun j kd h => by simp at h⟩, fun U j args ρ _ _ _ ha => by simp [DF] at ha; subst ha; exact VL.nil ρ⟩
  | cons => cases ds <;> simp [DataW.TrodAll] at hA
 | cons t ts ih =>
  intro vs ds ps ks hA hval hk hin hsw;cases vs with
  | nil => cases ds <;> simp [DataW.TrodAll] at hA
  | cons v vs =>
   cases ds with
   | nil => simp [DataW.TrodAll] at hA
   | cons d ds =>
    obtain ⟨p, q, ⟨fuel, hx⟩, hA2, _⟩ := hA;simp only [AN] at hk;split at hk
    ·rename_i k1 l h1 hl;cases hk;rw [List.all_append, Bool.and_eq_true] at hin;obtain ⟨cs, xs, q1, qc, q2⟩ := ih vs ds q l hA2 (fun j t v ht hv => hval (j + 1) t v (by simpa using ht) (by simpa using hv)) hl hin.2 hsw.2
     obtain ⟨x0, hkl0, hsh0⟩ := UT hE hL (o := o) fuel 20 t k1 _ _ h1 hin.1 hx hsw.1;obtain ⟨x1, hkl, hc1, hsh1⟩ := hkl0.can (hsh0 9);refine ⟨v.cells.toList ++ cs, x1 ++ xs, hkl.append q1, ⟨⟨Can.append hkl hc1.1 qc.1.1, hc1.2.append hkl.len.2 qc.1.2⟩, hsh1.append hkl.len.2 qc.2⟩, ?_⟩;intro U' j args ρ hK hM hall ha;obtain ⟨r, b0, hok⟩ := hval 0 t v rfl rfl;have hx1 : k1.length = x1.length := hkl.len.2;simp only [DF] at ha;split at ha
     ·rename_i d0 k1' hd h1';rw [h1] at h1';cases h1';have hu := OK.und (U := U) hE hd;clear ih;split at ha
      ·rename_i rr hrr
       have tail := q2 U' (j + k1.length) rr ρ hK hM (fun i hi => by
        have := hall (x1.length + i) (by simp only [List.length_append]; omega)
        rw [show j + k1.length + i = j + (x1.length + i) by omega, this]
        simp [List.getD_eq_getElem?_getD, List.getElem?_append_right]) hrr
       have head := Jz (U := U') ρ k1 v.cells.toList x1 j (fun i hi => by
        have := hall i (by simp only [List.length_append]; omega)
        rw [this];simp [List.getD_eq_getElem?_getD, List.getElem?_append_left hi]) (by rw [hK, hM]; exact hkl)
       split at ha
       ·rename_i hs;cases ha;refine VL.cons ?_ tail;cases d0 <;> simp [IZ] at hs
        unfold Value.okWide at hok;rw [hu] at hok;obtain ⟨cs', rfl, _⟩ := hok;exact .agg _ cs'.toList head.1 head.2
       ·rename_i hs;split at ha
        ·rename_i a hsym;cases ha;refine VL.cons ?_ tail;rw [hsym] at head
         have hv1 : v.cells.toList = [v] := by
          cases v <;> first | rfl | skip
          rename_i cs'
          exfalso
          unfold Value.okWide at hok;rw [hu] at hok;obtain ⟨_, _, _, h1⟩ := kinds_size h1;rw [hd] at h1;cases d0 <;> simp [IZ] at hs <;> first | (cases h1; done) | skip
          all_goals simp [Cell.okWide, Cell.ok, hu] at hok
         rw [hv1] at head;obtain ⟨v', r', e1, e2, _⟩ := head.cons_inv;cases e1;exact e2
        ·cases ha
      ·cases ha
     ·cases ha
    ·cases hk
theorem Pi [U : Unk] (w : World) : HR ⟨fun _ => none, EY w⟩ (T.nil : T Aq).get w := by
 refine ⟨fun b base h => (by cases h), fun b base x h => (by cases h), fun b b' base base' _ h => (by cases h), fun k arr h => ?_, fun k arr b base _ h => (by cases h)⟩
 simp only [EY] at h;split at h
 ·rename_i c e fz hc;cases h;exact ⟨e, fz, hc⟩
 ·cases h
end
theorem GC {H : Type} {enc : TypeId × Value → H} {P : Program} {w : World} {base : Nat} {sp : Nat → Bool} {held : Bool} : ∀ {ts : List TypeId} {vs : List Value} {ds : List (DataW H)} {ps : List MemPlace}, DataW.TrodAll enc P w base sp held ts vs ds ps → ds.length = ts.length
 | [], [], [], _, _ => rfl
 | _ :: _, _ :: _, _ :: _, _, ⟨_, _, _, h, _⟩ => by simp [GC h]
 | [], _ :: _, _, _, h => by simp [DataW.TrodAll] at h
 | [], [], _ :: _, _, h => by simp [DataW.TrodAll] at h
 | _ :: _, [], _, _, h => by simp [DataW.TrodAll] at h
 | _ :: _, _ :: _, [], _, h => by simp [DataW.TrodAll] at h
theorem EX {H : Type} {enc : TypeId × Value → H} {P : Program} (hl : laidOutB P = true) {W W' : World} (hb : Below W.heap.size W W') : ∀ {ts : List TypeId} {vs : List Value} {ds : List (DataW H)} {ps : List MemPlace},
  (∀ t ∈ ts, P.readableRec t = true ∧ t < P.types.size) → DataW.TrodAll enc P W 0 (fun _ => true) true ts vs ds ps → (∀ x ∈ ps, x.block < W.heap.size) → DataW.TrodAll enc P W' 0 (fun b => decide (b < W.heap.size)) true ts vs ds ps
 | [], [], [], _, _, h, _ => h
 | t :: ts, v :: vs, d :: ds, ps, hr, ⟨p, q, h1, h2, he⟩, hlt => by
  subst he;exact ⟨p, q, Below.trod hl (hr t (by simp)).1 (hr t (by simp)).2 h1 hb (fun x hx => hlt x (by simp [hx])), EX hl hb (fun t ht => hr t (by simp [ht])) h2 (fun x hx => hlt x (by simp [hx])), rfl⟩
 | [], _ :: _, _, _, _, h, _ => by simp [DataW.TrodAll] at h
 | [], [], _ :: _, _, _, h, _ => by simp [DataW.TrodAll] at h
 | _ :: _, [], _, _, _, h, _ => by simp [DataW.TrodAll] at h
 | _ :: _, _ :: _, [], _, _, h, _ => by simp [DataW.TrodAll] at h
end Go.AE
namespace Go.AE
def BZ : Code → Option Nat
 | .region id _ _ => some id
 | .seq a b => match BZ a with
  | some i => some i
  | none => BZ b
 | .cond _ a b => match BZ a with
  | some i => some i
  | none => BZ b
 | .block _ b => BZ b
 | .loop b => BZ b
 | .scope b => BZ b
 | _ => none
def S8 (keys : List Nat) (c : Code) : Bool := match BZ c with
 | some i => Mp i keys
 | none => false
def Yz (keys : List Nat) (s : AS) : Bool :=
 match s.cs, s.fr.mode, s.fr.todo with
 | [], .run, .code (.loop b) :: _ => S8 keys b
 | [], .run, .inLoop b :: _ => S8 keys b
 | _, _, _ => false
def Z6 : AV → Option SB
 | .sb _ e => some e
 | _ => none
def orE (a b : Option SB) : Option SB := match a with
 | some x => some x
 | none => b
def ask [U : Facts] (e : SB) : Option SB := match AW U.facts e with
 | none => some e
 | some _ => none
def PY [Facts] (i n : SE) : Option SB := orE (ask (.lss i (.c 0))) (ask (.lss i n))
def Nk [Facts] (θ : List SE) : List (SB × Bool) → Option SB
 | [] => none
 | (e, _) :: r => orE (ask (e.inst θ)) (Nk θ r)
inductive Ux where
 | ask (e : SB)
 | no
 | free
 deriving Inhabited
def WB : Obs → Bool
 | [] => true
 | (a, .bc true) :: r => a.isB && WB r
 | _ => false
def S2 [Facts] : Obs → Option SB
 | [] => none
 | (a, _) :: r => orE (ask a) (S2 r)
def Sc : List AV → List AV → Bool
 | [], [] => true
 | a :: l, b :: m => (match a, b with
  | .func (.yield i) _ _, .func (.yield j) _ _ => Nat.beq i j
  | a, b => BD a b) && Sc l m
 | _, _ => false
def UI : Option (List AV) → List AV → Bool
 | some l, m => Sc l m
 | none, _ => true
def OY [Facts] (E : Env) (f : FuncId) (args : List AV) (h : Aa) : Option (List AV) → List Sm → Ux
  | _, [] => .free
  | g, s :: r => match Nat.beq s.f f && UI g s.args with
    | true => match Pb E s args h with
     | (args1, h0) => match AU E s.pre 0 (He E s.pre h0 (Fo s.args args1 ⟨.nil, .nil⟩)) h0 with
      | (m, h1) => match D7 (Hl (In m.v 0 s.nv) (Iv m.b 0 s.pre.length) s.args args1) (En E (In m.v 0 s.nv) (Iv m.b 0 s.pre.length) h1 s.pre (Iv m.b 0 s.pre.length)) with
        | some o => match WB o with
          | true => match orE (S2 o) (Nk (In m.v 0 s.nv) s.facts) with
            | some e => .ask e
            | none => match OY E f args h (some s.args) r with
              | .free => .no
              | x => x
          | false => OY E f args h g r
        | none => OY E f args h g r
    | false => OY E f args h g r
def UC [Facts] (E : Env) (f : FuncId) (args : List AV) (h : Aa) (l : List Sm) : Ux := OY E f args h none l
def MQ [Facts] (E : Env) (f : Nat) : Ask → Aa → Option (Bool × AV × Aa) := fun a h => match a with
 | .enter g args => match LA E g args h with
  | some r => some r
  | none => match args.isEmpty, UC E g args h E.sms with
   | true, .ask _ => none
   | true, .no => none
   | _, _ => match Bi E g args .normal with
    | some fr => Gk E f fr.fn true { fr, cs := [], h }
    | none => none
 | .round l args => match GA l args h with
  | some fr => Gk E f fr.fn true { fr, cs := [], h }
  | none => none
def Ii [Facts] (h : Aa) : AV → Option SB
 | .asl b _ n _ => match h.blk.get b with
  | some (.arr _ y) => match Kq n y with
   | true => none
   | false => ask (.eql n (.lenL y))
  | _ => none
 | _ => none
def QG [Facts] (E : Env) (ts : List TypeId) (args : List AV) (h : Aa) : Option SB :=
 match ts, args with
 | t :: _, [s, x] => match E.desc t with
  | some (.slice e) => match E.kinds e with
   | some ks => orE (orE (Ii h s) (Ii h x)) <| match ST e ks (Gf E e x (Gf E e s h)) s with
    | some (ys, _, _) => match Xb e ks (Gf E e x (Gf E e s h)) ys x with
     | some (_, m) => orE (ask (.lss (.lenL ys) (.c 1073741824))) (ask (.lss m (.c 1048576)))
     | none => none
    | none => none
   | none => none
  | _ => none
 | _, _ => none
def Of [Facts] (mx : Bool) : SE → List AV → Option SB
 | _, [] => none
 | x, y :: r => match toI y with
  | some (_, b) => match (match mx with | true => AW Facts.facts (.lss x b) | false => AW Facts.facts (.lss b x)) with
   | some true => Of mx b r
   | some false => Of mx x r
   | none => some (match mx with | true => .lss x b | false => .lss b x)
  | none => none
def PF [Facts] (mx : Bool) : List AV → Option SB
 | y :: r => match toI y with
  | some (_, a) => Of mx a r
  | none => none
 | [] => none
def Sn [Facts] (E : Env) (t : TypeId) (k : AV) : List AP → Option SB
 | [] => none
 | e :: r => match eqK E t k e.key with
  | some true => none
  | some false => Sn E t k r
  | none => HA E 10000 t k e.key
def Um [Facts] (E : Env) (t : TypeId) (m k : AV) (h : Aa) : Option SB :=
 match No E t, m with
 | some (kt, vt, kks, vks), .map r => match VI kt vt kks vks (h.blk.get r), TF kks k with
  | some x, some kr => ask (.lss (.mIdx kks x kr) (.c 0))
  | _, _ => none
 | _, _ => none
def V9 [Facts] (n : SE) : Option SE → Option SE → Option SB
 | some l, some u => orE (ask (.lss l (.c 0))) (orE (ask (.lss u l)) (ask (.lss n u)))
 | _, _ => none
def US [U : Facts] (e : SE) : Nat → Nat → Option SB
 | 0, _ => none
 | n + 1, j => match AW U.facts (.eql e (.c j)) with
  | some true => none
  | some false => US e n (j + 1)
  | none => some (.eql e (.c j))
def IK [Facts] (n : Nat) : AV → Option SB
 | .si _ e => match Nat.ble n 64 with
  | true => US e n 0
  | false => none
 | _ => none
def IP [Facts] (n : Nat) : Option AV → Option SB
 | some a => IK n a
 | none => none
def V3 [U : Facts] (E : Env) (t : TypeId) (d x : AV) (h : Aa) : Option SB :=
 match E.desc t, d with
 | some (.slice e), .slice _ _ n _ => match RF e h x with
  | some y => match AW U.facts (.lss (.lenL y) (.c n)) with
   | some true => IK n (.si .i64 (.lenL y))
   | some false => none
   | none => some (.lss (.lenL y) (.c n))
  | none => Ii h x
 | _, _ => none
def Nx [Facts] : SE → Option SB
 | .strc _ _ => none
 | e => ask (.lss (.lenS e) (.c 4611686018427387904))
def NN (E : Env) (t : TypeId) : Nat := match E.desc t with
 | some (.array n _) => n
 | _ => 0
def Kz [Facts] : AV → Option SB
 | .nmap _ nl => ask nl
 | .iface _ (.nmap _ nl) => ask nl
 | _ => none
def LP [Facts] : List AV → Option SB
 | [] => none
 | a :: r => orE (Kz a) (LP r)
def Xf [Facts] (tmps : T AV) : Op → Option SB
 | .lookup _ m _ _ => Kz (Aj tmps m)
 | .mapUpdate _ m _ _ => Kz (Aj tmps m)
 | .range _ x => Kz (Aj tmps x)
 | .call c => match c.callee with
  | .builtin .append => none
  | .builtin _ => LP (c.args.toList.map (Aj tmps))
  | .value _ => LP (c.args.toList.map (Aj tmps))
  | _ => none
 | _ => none
def Xg [Facts] (E : Env) (tmps : T AV) (h : Aa) (op : Op) : Option SB :=
 match op with
 | .pick c _ _ => Z6 (Aj tmps c)
 | .binOp .add _ x y _ => match OU (Aj tmps x), OU (Aj tmps y) with
  | some a, some b => orE (Nx a) (Nx b)
  | _, _ => none
 | .binOp _ _ x y _ => match Aj tmps x, Aj tmps y with
  | .sb _ a, .sb _ b => orE (ask a) (ask b)
  | _, .si _ b => ask (.eql b (.c 0))
  | _, _ => none
 | .makeSlice _ l _ => match Aj tmps l with
  | .si _ n => orE (ask (.lss n (.c 0))) (ask (.lss n (.c 1048577)))
  | _ => none
 | .indexAddr _ x i => match Aj tmps x, toI (Aj tmps i) with
  | .dat _ y, some (_, ie) => PY ie (.lenL (Cm y))
  | .asl _ _ n _, some (_, ie) => PY ie n
  | .slice _ _ n _, _ => IK n (Aj tmps i)
  | .ptr _ _, _ => match op with
   | .indexAddr t _ _ => IK (NN E t) (Aj tmps i)
   | _ => none
  | _, _ => none
 | .load _ a => match Aj tmps a with
  | .aptr b _ i _ => match h.blk.get b with
   | some (.arr _ y) => PY i (.lenL (Cm y))
   | _ => none
  | _ => none
 | .store _ a _ => match Aj tmps a with
  | .aptr b _ i _ => match h.blk.get b with
   | some (.arr _ y) => PY i (.lenL (Cm y))
   | _ => none
  | _ => none
 | .index _ x i => match Aj tmps x, toI (Aj tmps i) with
  | .ss y, some (_, ie) => PY ie (.lenS y)
  | .agg _, _ => match op with
   | .index t _ _ => IK (NN E t) (Aj tmps i)
   | _ => none
  | _, _ => none
 | .convert _ _ x => Ii h (Aj tmps x)
 | .slice _ x lo hi _ => match Aj tmps x with
  | .dat _ y => V9 (.lenL y) (Hd (.c 0) (Bc tmps lo)) (Hd (.lenL y) (Bc tmps hi))
  | .ss y => V9 (.lenS y) (Hd (.c 0) (Bc tmps lo)) (Hd (.lenS y) (Bc tmps hi))
  | .asl b es n nl => orE (Ii h (.asl b es n nl)) (match h.blk.get b with
   | some (.arr _ y) => V9 (.lenL y) (Hd (.c 0) (Bc tmps lo)) (Hd (.lenL y) (Bc tmps hi))
   | _ => none)
  | .slice _ _ n _ => orE (IP (n + 1) (Bc tmps lo)) (IP (n + 1) (Bc tmps hi))
  | .ptr _ _ => match op with
   | .slice t _ _ _ _ => orE (IP (NN E t + 1) (Bc tmps lo)) (IP (NN E t + 1) (Bc tmps hi))
   | _ => none
  | _ => none
 | .lookup t m k _ => match E.desc t, Aj tmps m with
  | some (.map kt _), .map r => match h.blk.get r with
   | some (.map es _) => Sn E kt (Aj tmps k) es
   | some (.dmap _ _ _) => Um E t (Aj tmps m) (Aj tmps k) h
   | _ => none
  | _, _ => none
 | .mapUpdate t m k _ => match UP (Aj tmps k) || fj (Y4 h (Aj tmps m)) with
  | true => Um E t (Aj tmps m) (Aj tmps k) h
  | false => none
 | .call c => match c.callee with
  | .builtin .max => PF true (c.args.toList.map (Aj tmps))
  | .builtin .min => PF false (c.args.toList.map (Aj tmps))
  | .builtin .delete => match c.argTypes.toList, c.args.toList.map (Aj tmps) with
   | t :: _, [m, k] => match Km E t m k h with
    | some _ => none
    | none => Um E t m k h
   | _, _ => none
  | .builtin .copy => match c.argTypes.toList, c.args.toList.map (Aj tmps) with
   | t :: _, [d, x] => match RN E t d x h with
    | some _ => none
    | none => V3 E t d x h
   | _, _ => none
  | .builtin .append => QG E c.argTypes.toList (c.args.toList.map (Aj tmps)) h
  | .builtin _ => none
  | _ => match aop E tmps h op with
   | .enter f args _ => match UC E f args h E.sms with
    | .ask e => some e
    | _ => none
   | _ => none
 | _ => none
def ZT [Facts] (E : Env) (tmps : T AV) (h : Aa) (op : Op) : Option SB := orE (Xf tmps op) (Xg E tmps h op)
def UD [Facts] (E : Env) (s : AS) : Ux :=
 match E.sms.isEmpty with
 | true => .free
 | false => match s.fr.mode, s.fr.todo with
  | .run, .ops all (o :: _) :: _ => match Ly o.op with
   | true => .free
   | false => match DH all o s.fr.tmps with
    | some true => match aop E s.fr.tmps s.h o.op with
     | .enter f args _ => UC E f args s.h E.sms
     | _ => .free
    | _ => .free
  | .run, .code (.rangeFunc f params assign body) :: k => match G6 E s f params.toList assign body k with
   | some (g, args, h3, _) => UC E g args h3 E.sms
   | none => .free
  | _, _ => .free
def T6 (all : Array Oper) (o : Oper) (tmps : T AV) : Option SB := match o.guard with
 | some (j, _) => match all.toList[j]? with
  | some g => match g.dst with
   | some d => match tmps.get d with
    | some v => Z6 v
    | none => none
   | none => none
  | none => none
 | none => none
def Zc [Facts] (E : Env) (all : Array Oper) (o : Oper) (tmps : T AV) (h : Aa) : Option SB :=
 match DH all o tmps with
 | none => T6 all o tmps
 | some _ => ZT E tmps h o.op
mutual
def S6 [Facts] (E : Env) : Nat → AS → Option SB
 | 0, _ => none
 | n + 1, s => match s.fr.todo with
  | .code (.cond c _ _) :: _ => Z6 (Aj s.fr.tmps c)
  | .ops all (o :: _) :: _ => Zc E all o s.fr.tmps s.h
  | .code (.region _ ops true) :: _ => PQ E n ops s.fr.nt ops.toList [] s.fr.tmps s.h
  | _ => none
def KA [Facts] (E : Env) : Nat → AS → Option SB
 | 0, _ => none
 | n + 1, s => match Wa E s with
  | some s' => KA E n s'
  | none => match UD E s with
   | .ask e => some e
   | .no => none
   | .free => match Gv E s with
    | .next s' => KA E n s'
    | .draw s ops k => match Di E (MQ E n) ops s.fr.nt ops.toList [] s.fr.tmps s.h with
     | some (none, tmps, h) => KA E n { s with fr := { s.fr with tmps, todo := k }, h }
     | _ => S6 E n s
    | _ => S6 E n s
def PQ [Facts] (E : Env) : Nat → Array Oper → Nat → List Oper → List Rc → T AV → Aa → Option SB
 | 0, _, _, _, _, _, _ => none
 | _ + 1, _, _, [], _, _, _ => none
 | n + 1, all, nt, o :: rest, recs, tmps, h => match GH E (MQ E n) all o (BO tmps (Cu all o)) h with
  | some d => match LB nt tmps o.dst d.v with
   | some tmps' => PQ E n all nt rest recs tmps' (Bt h d.g)
   | none => none
  | none => match Zc E all o (BO tmps (Cu all o)) h with
   | some e => some e
   | none => match aop E tmps h o.op with
    | .enter f args _ => match UC E f args h E.sms with
     | .ask e => some e
     | .no => none
     | .free => match Bi E f args .normal with
      | some fr => KA E n { fr, cs := [], h }
      | none => none
    | _ => none
end
inductive X8 where
 | cut (F : List (SB × Bool)) (s : AS)
 | done (F : List (SB × Bool)) (v : AV) (h : Aa)
 | stuck (F : List (SB × Bool))
 deriving Inhabited
def BC (V : Val) (F : List (SB × Bool)) : Prop := ∀ e b, (e, b) ∈ F → Ah V e = b
def Br (ρ : Ren) (n : Nat) : Prop := ∀ b, n ≤ b → ρ b = none
@[reducible] def Bj (v : Vals) (F : List (SB × Bool)) (h : BC v.V F) : Unk := { facts := F, toVals := v, ok := h }
theorem Br.ext [v : Vals] {ρ σ : Ren} {h h' : Aa} {w w' : World} (hf : Br ρ h.nx) (e : Ext ρ σ h h' w w') : Br σ h'.nx := by
 intro b hb;have := e.nx;cases hs : σ b with
 | none => rfl
 | some base =>
  rcases e.new b base hs with q | ⟨_, q, _⟩
  ·rw [hf b (by omega)] at q; cases q
  ·omega
def X8.Good [v : Vals] (P : Program) (ρ : Ren) (s : AS) (c : Frame) (ccs : List Frame) (w : World) (base : List Frame) : X8 → Prop
 | .cut F s' => BC v.V F ∧ s'.cs = [] ∧ ∃ σ c' w', Steps P (lone c (ccs ++ base) w) (lone c' base w') ∧ SR σ s' c' [] w' ∧ Ext ρ σ s.h s'.h w w'
 | .done F x h => BC v.V F ∧ ∃ σ cf v' w1 w', Steps P (lone c (ccs ++ base) w) (lone cf base w1) ∧ NL P cf w1 true v' w' ∧ VR σ x v' ∧ HR σ h.blk.get w' ∧ Ext ρ σ s.h h w w'
 | .stuck F => BC v.V F
theorem X8.Good.pre [v : Vals] {P : Program} {ρ σ : Ren} {s s' : AS} {c c' : Frame} {ccs ccs' : List Frame} {w w' : World} {base : List Frame} {l : X8} (hs : Steps P (lone c (ccs ++ base) w) (lone c' (ccs' ++ base) w')) (he : Ext ρ σ s.h s'.h w w') (hf : Br ρ s.h.nx)
  (h : l.Good P σ s' c' ccs' w' base) : l.Good P ρ s c ccs w base := by
 cases l with
 | cut F s2 =>
  obtain ⟨h1, h2, τ, c2, w2, q1, q2, q3⟩ := h;exact ⟨h1, h2, τ, c2, w2, Steps.trans hs q1, q2, he.trans q3 (fun b hb _ => hf b hb)⟩
 | done F x h2 =>
  obtain ⟨h1, τ, cf, v', w1, w2, q1, q2, q3, q4, q5⟩ := h;exact ⟨h1, τ, cf, v', w1, w2, Steps.trans hs q1, q2, q3, q4, he.trans q5 (fun b hb _ => hf b hb)⟩
 | stuck F => exact h
theorem O5 {U : Unk} {E : Env} (hE : OK E) (hO : Ag E U.V.fn) (n : Nat) : Le E (MQ E n) := by
 have hC : ∀ (fr : AF) (g g' : Aa) (ok : Bool) (v : AV) (ρ : Ren) (cf : Frame) (w : World), FrR ρ fr cf → HR ρ g.blk.get w → WF g → Gk E n fr.fn true { fr, cs := [], h := g } = some (ok, v, g') → Bg ρ g.nx g'.nx →
   ∀ (c0 : Frame) (base : List Frame), ∃ σ v' w', B4 E.P (lone cf (c0 :: base) w) c0 base ok v' w' ∧ VR σ v v' ∧ HR σ g'.blk.get w' ∧ Ext ρ σ g g' w w' := by
  intro fr g g' ok v ρ cf w hfr hr hwf hx hfree c0 base;obtain ⟨σ, cf', v', w1, w', q1, q2, q3, q4, q5, q6, q7⟩ := VH hE hO n fr.fn true { fr, cs := [], h := g } ρ cf [] w ok v g' ⟨hfr, .nil, hr⟩ hwf hx hfree (c0 :: base);refine ⟨σ, v', w', ?_, q5, q6, q7⟩;have := Steps.trans q1 (Steps.one (q4.back c0 base));cases ok <;> exact this
 refine ⟨?_, ?_⟩
 ·intro f' args args' g g' ok v ρ w ha hr hwf hx hfree;simp only [MQ] at hx;split at hx
  ·rename_i r hfind;cases hx;exact Ih hE hO hfind ha hr hwf hfree
  ·split at hx
   ·cases hx
   ·cases hx
   ·split at hx
    ·rename_i fr hfr;exact hC fr g g' ok v ρ _ w (C7 hE hfr ha) hr hwf hx hfree
    ·cases hx
 ·intro l args g g' ok v ρ w hr hwf hx hfree;simp only [MQ] at hx;split at hx
  ·rename_i fr hfr;exact ⟨fr, hfr, fun cf hcf => hC fr g g' ok v ρ cf w hcf hr hwf hx hfree⟩
  ·cases hx
end Go.AE
namespace Go.AE
structure Cut where
 key : Option Nat
 fn : FuncId
 nt : Nat
 nv : Nat
 todo : List AI
 tmps : T AV
 pre : List (Option Aq)
 facts : List (SB × Bool)
 res : AV
 post : List (Option Aq)
 ent : Nat := 0
 defs : List Nat := []
 deriving Inhabited
def Ht : List Nat → List AD
 | [] => []
 | d :: r => { fn := none, coll := d, captured := [], args := [] } :: Ht r
def N4 (β : List Nat) : List Nat → List AD → Bool
 | [], [] => true
 | d :: r, a :: l => a.fn.isNone && toB β d a.coll && N4 β r l
 | _, _ => false
def Uf : List (Option Aq) → Nat → Nat → T Nat → T Nat
 | some _ :: r, i, n + 1, t => Uf r (i + 1) n (t.set i i)
 | none :: r, i, n + 1, t => Uf r (i + 1) n t
 | _, _, _, t => t
def Cut.fr (c : Cut) : AF := { fn := c.fn, nt := c.nt, tmps := c.tmps, todo := c.todo, defers := Ht c.defs, mode := .run, kind := .normal, round := none }
def Cut.h (c : Cut) : Aa := { blk := A9 c.pre, nx := c.pre.length, log := [] }
def Cut.st (c : Cut) : AS := { fr := c.fr, cs := [], h := c.h }
def Cut.h' (c : Cut) : Aa := { blk := A9 c.post, nx := c.post.length, log := List.range c.pre.length }
def Qh : List Nat → List AD → Bd → Bd
 | d :: r, a :: l, m => Qh r l (m.blk d a.coll)
 | _, _, m => m
def PD (c : Cut) (s : AS) : Bd := Qh c.defs s.fr.defers (PZ c.tmps s.fr.tmps ⟨.nil, Uf c.pre 0 c.ent .nil⟩)
def Cut.At (P : Program) (G : Nat → D → D) (c : Cut) (V : Val) : Prop :=
 ∀ (v : Vals), v.V = V → v.K = (Env.of P).kinds → V.fn = G → BC V c.facts → ∀ (ρ : Ren) (cf : Frame) (w : World), FrR ρ c.fr cf → HR ρ c.h.blk.get w → Br ρ c.pre.length →
  ∀ (c0 : Frame) (base : List Frame), ∃ σ v' w', B4 P (lone cf (c0 :: base) w) c0 base true v' w' ∧ VR σ c.res v' ∧ HR σ c.h'.blk.get w' ∧ Ext ρ σ c.h c.h' w w'
structure VC where
 F : List (SB × Bool)
 obs : Obs
 rec_ : Option (Nat × List SE × List AI)
 deriving Inhabited
def idT : Nat → T Nat → T Nat
 | 0, t => t
 | n + 1, t => idT n (t.set n n)
def RM : Nat → Nat → List Nat → Bool
 | _, 0, _ => true
 | i, n + 1, b :: r => Nat.beq b i && RM (i + 1) n r
 | _, _ + 1, [] => false
def On : List (Option Aq) → Bool
 | [] => true
 | some _ :: r => On r
 | none :: _ => false
def Ss [Facts] (E : Env) (c : Cut) (v : AV) (h : Aa) : Option Obs :=
 match AU E c.post 0 (He E c.post h (GT c.res v ⟨.nil, idT c.pre.length .nil⟩)) h with
 | (m, h1) =>
  let β := Iv m.b 0 c.post.length
  Ec (RM 0 c.pre.length β && (FN c.post β && On (c.post.drop c.pre.length)) && Nat.ble c.pre.length c.post.length) (D7 (CW [] β c.res v) (En E [] β h1 c.post β))
def SV : List AI → Bool
 | [] => true
 | .inRange _ :: _ => false
 | .endRange _ :: _ => false
 | .rest :: _ => false
 | .dead :: _ => false
 | .beginRound :: _ => false
 | _ :: r => SV r
def IC.isRun : IC → Bool
 | .run => true
 | _ => false
def U5 : CallKind → Bool
 | .normal => true
 | _ => false
def Iq (θ : List SE) : List (SB × Bool) → Obs
 | [] => []
 | (e, b) :: r => (e.inst θ, .bc b) :: Iq θ r
def VU [Facts] (E : Env) (c : Cut) (s : AS) : Option (List SE × AV × Aa × Obs) :=
 match AU E c.pre 0 (He E c.pre s.h (PD c s)) s.h with
 | (m, h1) =>
  let θ := In m.v 0 c.nv
  let β := Iv m.b 0 c.pre.length
  match E6 β && MP h1.nx β && Nat.ble c.pre.length c.post.length && Nat.beq s.fr.fn c.fn && Nat.beq s.fr.nt c.nt && N4 β c.defs s.fr.defers && s.fr.mode.isRun && U5 s.fr.kind && s.fr.round.isNone && SV s.fr.todo with
  | true => match D7 (leT θ β c.tmps s.fr.tmps) (En E θ β h1 c.pre β), Eg θ (β ++ DB h1.nx (c.post.length - c.pre.length)) c.post (β ++ DB h1.nx (c.post.length - c.pre.length)) h1.blk with
   | some o, some t => some (θ, c.res.inst θ (β ++ DB h1.nx (c.post.length - c.pre.length)), { blk := t, nx := h1.nx + (c.post.length - c.pre.length), log := β ++ h1.log }, o ++ Iq θ c.facts)
   | _, _ => none
  | false => none
theorem K4 : ∀ {l : List (Option Aq)}, On l = true → ∀ i, i < l.length → ∃ x, l[i]? = some (some x)
 | [], _, i, h => by simp at h
 | some x :: r, h, i, hi => by
  cases i with
  | zero => exact ⟨x, rfl⟩
  | succ i => simpa using K4 (l := r) h i (by simpa using hi)
 | none :: _, h, _, _ => by cases h
theorem Pc : ∀ (n i : Nat) (l : List Nat), RM i n l = true → ∀ j, j < n → l[j]? = some (i + j)
 | 0, i, l, h, j, hj => by omega
 | n + 1, i, [], h, j, hj => by cases h
 | n + 1, i, b :: r, h, j, hj => by
  simp only [RM, Bool.and_eq_true] at h;cases j with
  | zero => simp [Nat.eq_of_beq_eq_true h.1]
  | succ j =>
   have := Pc n (i + 1) r h.2 j (by omega)
   simp only [List.getElem?_cons_succ, this]
   congr 1; omega
theorem LS {V : Val} {θ : List SE} : ∀ {l : List (SB × Bool)}, (Iq θ l).holds V → BC (V.inst θ) l
 | [], h, e, b, hm => by cases hm
 | (x, c) :: r, h, e, b, hm => by
  rcases List.mem_cons.1 hm with q | q
  ·cases q;have := h (x.inst θ) (.bc c) (by simp [Iq])
   unfold Ah;rw [← Ca, this]; rfl
  ·exact LS (fun a b' h' => h a b' (by simp [Iq, h'])) e b q
theorem Pr {v u : Vals} {ρ σ : Ren} : ∀ {l : List AI} {l' : List Item}, SV l = true → @IL v ρ l l' → @IL u σ l l'
 | [], l', h, hi => by cases hi; exact .nil
 | a :: r, l', h, hi => by
  cases hi with
  | cons ha hr =>
   cases ha <;> simp only [SV, Bool.false_eq_true] at h <;> first | (cases h; done) | skip
   all_goals exact .cons (by constructor <;> assumption) (Pr h hr)
  | rest => cases h
theorem Mz {u v : Vals} {β : List Nat} {ρ : Ren} : ∀ {ds : List Nat} {l : List AD} {l' : List Deferred}, N4 β ds l = true → @DL u ρ l l' → @DL v (ρ.back β) (Ht ds) l'
 | [], [], [], _, _ => trivial
 | [], [], _ :: _, _, h => h.elim
 | d :: r, a :: l, [], _, h => h.elim
 | d :: r, a :: l, d' :: l', h, hd => by
  simp only [N4, Bool.and_eq_true] at h;obtain ⟨⟨h1, h2⟩, h3⟩ := h;have hn : a.fn = none := by cases hq : a.fn with | none => rfl | some => rw [hq] at h1; cases h1
  refine ⟨?_, Mz h3 hd.2⟩;have h4 := hd.1;unfold DR at h4 ⊢;rw [hn] at h4;obtain ⟨base, q1, q2⟩ := h4;exact ⟨base, by rw [Fb h2]; exact q1, q2⟩
 | [], _ :: _, _, h, _ => by cases h
 | _ :: _, [], _, h, _ => by cases h
section
variable {E : Env} {G : Nat → D → D} (hE : ∀ [U : Unk], U.K = (Env.of E.P).kinds → OK E) {v : Vals} (hK : v.K = (Env.of E.P).kinds)
include hE hK
theorem VT {F : List (SB × Bool)} (hF : BC v.V F) {c : Cut} {x : AV} {v' : Value} {h : Aa} {ρ σ : Ren} {w w' : World} {o : Obs} (hx : @Ss ⟨F⟩ E c x h = some o) (ho : o.holds v.V) (hv : VR σ x v') (hr : HR σ h.blk.get w') (hwf : WF h) (he : Ext ρ σ c.h h w w') (hfa : Br ρ c.pre.length) :
  ∃ τ, VR τ c.res v' ∧ HR τ c.h'.blk.get w' ∧ Ext ρ τ c.h c.h' w w' := by
 have hEU : @OK (Bj v F hF) E := hE (U := Bj v F hF) hK;have hfaσ : Br σ h.nx := Br.ext (h := c.h) hfa he;unfold Ss at hx;split at hx;rename_i m h1 hbd;obtain ⟨hc, hx⟩ := A8 hx;obtain ⟨o1, o2, hx1, hx2, rfl⟩ := BT hx;obtain ⟨ho1, ho2⟩ := Obs.append ho;generalize hβ : Iv m.b 0 c.post.length = β at *;have e2 : (@AU ⟨F⟩ E c.post 0 (@He ⟨F⟩ E c.post h (GT c.res x ⟨.nil, idT c.pre.length .nil⟩)) h).2 = h1 := by rw [hbd]
 obtain ⟨q1, q2, q3⟩ := Bw (U := Bj v F hF) (E := E) c.post 0 (@He ⟨F⟩ E c.post h (GT c.res x ⟨.nil, idT c.pre.length .nil⟩)) h hr hwf (fun b b1 _ => hfaσ b b1)
 rw [e2] at q1 q2 q3;have he1 : Ext ρ σ c.h h1 w w' := he.trans q2 (fun b hb _ => hfa b hb)
 simp only [Bool.and_eq_true] at hc;obtain ⟨⟨hid, hnd, hall⟩, hlen⟩ := hc;have hid := Pc _ _ _ hid;have hlen : c.pre.length ≤ c.post.length := Nat.le_of_ble_eq_true hlen;have hV : (Bj v F hF).V = (Bj v F hF).V.inst [] := rfl;have p1 := GW (U := Bj v F hF) (W := Bj v F hF) hV rfl c.res x o1 v' hx1 ho1 hv;have p2 := HR.toPatL (U := Bj v F hF) (W := Bj v F hF) hV rfl hEU q1 hx2 ho2 hnd;obtain ⟨l1, l2⟩ := Du (U := Bj v F hF) (W := Bj v F hF) hV rfl c.post β o2 hx2 ho2;have hid0 : ∀ j, j < c.pre.length → β[j]? = some j := fun j hj => by have := hid j hj; simpa using this
 refine ⟨σ.back β, p1, p2, ⟨⟨fun b base hb => ?_, fun k a hk => he1.le.imm k a hk⟩, hlen, fun b base hb => ?_, he1.calm, he1.kept, ⟨List.range c.pre.length, by simp [Cut.h', Cut.h], fun b hb hr => ?_⟩, fun b hb => ?_, he1.imm⟩⟩
 ·have hlt : b < c.pre.length := by
   rcases Nat.lt_or_ge b c.pre.length with q | q
   ·exact q
   ·rw [hfa b q] at hb; cases hb
  show (β[b]?).bind σ.m = some base;rw [hid0 b hlt];exact he1.le.m b base hb
 ·have hb' : (β[b]?).bind σ.m = some base := hb;cases hc' : β[b]? with
  | none => rw [hc'] at hb'; cases hb'
  | some d =>
   rw [hc'] at hb';have hb2 : σ d = some base := hb';rcases he1.new d base hb2 with q | ⟨a1, a2, a3⟩
   ·have hlt : d < c.pre.length := by
     rcases Nat.lt_or_ge d c.pre.length with q' | q'
     ·exact q'
     ·rw [hfa d q'] at q; cases q
    rcases Nat.lt_or_ge b c.pre.length with q' | q'
    ·rw [hid0 b q'] at hc'; cases hc';exact .inl q
    ·have hbl := (List.getElem?_eq_some_iff.1 hc').1;have hbp : b < c.post.length := by omega
     obtain ⟨y, hy⟩ := K4 hall (b - c.pre.length) (by simp; omega)
     rw [List.getElem?_drop, show c.pre.length + (b - c.pre.length) = b by omega] at hy
     obtain ⟨d', z, _, a1, a2, _, _⟩ := l2 b y hy;rw [hc'] at a1; cases a1;refine .inr ⟨q', hbp, .inr ⟨d, base, q, ?_, rfl⟩⟩;rcases he1.live d (by rw [a2]; exact Option.some_ne_none _) with r | ⟨r, _⟩
     ·exact r
     ·have : c.pre.length ≤ d := r;omega
   ·have hge : c.pre.length ≤ b := by
     rcases Nat.lt_or_ge b c.pre.length with q' | q'
     ·rw [hid0 b q'] at hc'; cases hc';have : c.pre.length ≤ b := a1;omega
     ·exact q'
    have hlt := (List.getElem?_eq_some_iff.1 hc').1;exact .inr ⟨hge, by show b < c.post.length; omega, a3⟩
 ·have hb1 : c.pre.length ≤ b := by
   rcases Nat.lt_or_ge b c.pre.length with q | q
   ·exact absurd (List.mem_range.2 q) hb
   ·exact q
  have hb2 : c.post.length ≤ b := by
   rcases hr with q | q
   ·have : b < c.pre.length := q;omega
   ·exact q
  show (A9 c.post).get b = (A9 c.pre).get b;rw [Ce, Ce, List.getElem?_eq_none hb2, List.getElem?_eq_none hb1]
 ·have hb0 : (A9 c.post).get b ≠ none := hb;rw [Ce] at hb0;cases hx : c.post[b]? with
  | none => rw [hx] at hb0; exact absurd rfl hb0
  | some ox =>
   cases ox with
   | none => rw [hx] at hb0; exact absurd rfl hb0
   | some y =>
    obtain ⟨d, z, _, a1, a2, _, _⟩ := l2 b y hx;rcases Nat.lt_or_ge b c.pre.length with q | q
    ·rw [hid0 b q] at a1; cases a1;rcases he1.live b (by rw [a2]; exact Option.some_ne_none _) with r | ⟨r, _⟩
     ·exact .inl r
     ·have : c.pre.length ≤ b := r;omega
    ·exact .inr ⟨q, (List.getElem?_eq_some_iff.1 hx).1⟩
end
structure VC.Holds (G : Nat → D → D) (Pre : Nat → Val → Prop) (μ : Nat → Val → Nat) (i : Nat) (V : Val) (vc : VC) : Prop where
 obs : vc.obs.holds V
 rec_ : ∀ j θ td, vc.rec_ = some (j, θ, td) → Pre j (V.inst θ) ∧ μ j (V.inst θ) < μ i V
theorem I9 (l : List (Option Aq)) (n : List Nat) : WF { blk := A9 l, nx := l.length, log := n } := by
 intro b hb;show (A9 l).get b = none;rw [Ce, List.getElem?_eq_none hb]; rfl
def Cut.sm (c : Cut) (args : List AV) : Sm := { f := c.fn, nv := c.nv, args, pre := c.pre, facts := c.facts, res := c.res, post := c.post }
def Ef (E : Env) (f : FuncId) (args : List AV) : AF := match Bi E f args .normal with
 | some fr => fr
 | none => default
def KL (E : Env) (f : FuncId) (nv : Nat) (args : List AV) (pre : List (Option Aq)) (facts : List (SB × Bool)) (res : AV) (post : List (Option Aq)) : Cut :=
 { key := none, fn := f, nt := (Ef E f args).nt, nv, todo := (Ef E f args).todo, tmps := (Ef E f args).tmps, pre, facts, res, post }
theorem sm_ok {E : Env} {G : Nat → D → D} (hE : ∀ [U : Unk], U.K = (Env.of E.P).kinds → OK E) {f nv : Nat} {args : List AV} {pre : List (Option Aq)} {facts : List (SB × Bool)} {res : AV} {post : List (Option Aq)} (hf : (Bi E f args .normal).isSome = true)
  (h : ∀ V : Val, V.fn = G → BC V facts → (KL E f nv args pre facts res post).At E.P G V) : Sm.Valid E.P G { f, nv, args, pre, facts, res, post } := by
 intro U hK hG hfacts ρ w args' ha hr hfa c0 base;cases hq : Bi E f args .normal with
 | none => rw [hq] at hf; cases hf
 | some fr =>
  have hfr := C7 (hE hK) hq ha
  have e : (KL E f nv args pre facts res post).fr = fr := by
   unfold Bi at hq;split at hq
   ·rename_i fn hfn;split at hq
    ·rename_i c hc;cases hq;simp [Cut.fr, KL, Ef, Bi, hfn, hc, Ht]
    ·cases hq
   ·cases hq
  exact h U.V hG hfacts U.toVals rfl hK hG hfacts ρ _ w (by rw [e]; exact hfr) hr hfa c0 base
inductive Tr (α : Type) where
 | leaf (a : α)
 | split (e : SB) (t f : Tr α)
 deriving Inhabited
inductive Lf where
 | cut (s : AS)
 | done (v : AV) (h : Aa)
 | stuck
 deriving Inhabited
def Lf.Good [v : Vals] (P : Program) (f0 : FuncId) (ρ : Ren) (s : AS) (c : Frame) (ccs : List Frame) (w : World) (base : List Frame) (F : List (SB × Bool)) : Lf → Prop
 | .cut s' => BC v.V F ∧ s'.cs = [] ∧ ∃ σ c' w', Steps P (lone c (ccs ++ base) w) (lone c' base w') ∧ SR σ s' c' [] w' ∧ Ext ρ σ s.h s'.h w w'
 | .done x h => BC v.V F ∧ ∃ σ cf v' w1 w', Steps P (lone c (ccs ++ base) w) (lone cf base w1) ∧ cf.fn = f0 ∧ cf.roundOf = none ∧ NL P cf w1 true v' w' ∧ VR σ x v' ∧ HR σ h.blk.get w' ∧ Ext ρ σ s.h h w w'
 | .stuck => BC v.V F
theorem Lf.Good.pre [v : Vals] {P : Program} {f0 : FuncId} {ρ σ : Ren} {s s' : AS} {c c' : Frame} {ccs ccs' : List Frame} {w w' : World} {base : List Frame} {F : List (SB × Bool)} {l : Lf} (hs : Steps P (lone c (ccs ++ base) w) (lone c' (ccs' ++ base) w')) (he : Ext ρ σ s.h s'.h w w') (hf : Br ρ s.h.nx)
  (h : l.Good P f0 σ s' c' ccs' w' base F) : l.Good P f0 ρ s c ccs w base F := by
 cases l with
 | cut s2 =>
  obtain ⟨h1, h2, τ, c2, w2, q1, q2, q3⟩ := h;exact ⟨h1, h2, τ, c2, w2, Steps.trans hs q1, q2, he.trans q3 (fun b hb _ => hf b hb)⟩
 | done x h2 =>
  obtain ⟨h1, τ, cf, v', w1, w2, q1, q2, q3, q4, q5, q6, q7⟩ := h;exact ⟨h1, τ, cf, v', w1, w2, Steps.trans hs q1, q2, q3, q4, q5, q6, he.trans q7 (fun b hb _ => hf b hb)⟩
 | stuck => exact h
def Qa (e : SB) : Option (Tr Lf) → Option (Tr Lf) → Option (Tr Lf)
 | some a, some b => some (.split e a b)
 | _, _ => none
def Tr.way {α : Type} (V : Val) : Tr α → List (SB × Bool) → α × List (SB × Bool)
 | .leaf a, F => (a, F)
 | .split e t f, F => match Ah V e with
  | true => t.way V ((e, true) :: F)
  | false => f.way V ((e, false) :: F)
def Tr.get {α : Type} (V : Val) : Tr α → α
 | .leaf a => a
 | .split e t f => match Ah V e with
  | true => t.get V
  | false => f.get V
def YB (keys : List Nat) (s : AS) : Bool :=
 match s.cs, s.fr.mode, s.fr.todo with
 | [], .run, .code (.region id _ _) :: _ => Mp (id + 1000000) keys
 | _, _, _ => false
def Hf (E : Env) (keys : List Nat) (f0 : FuncId) : Nat → List (SB × Bool) → AS → Option (Tr Lf)
 | 0, _, _ => none
 | n + 1, F, s =>
  let part (_ : Unit) : Option (Tr Lf) := match @S6 ⟨F⟩ E n s with
   | some e => match AW F e with
    | none => Qa e (Hf E keys f0 n ((e, true) :: F) s) (Hf E keys f0 n ((e, false) :: F) s)
    | some _ => some (.leaf .stuck)
   | none => some (.leaf .stuck)
  match @Wa ⟨F⟩ E s with
  | some s' => Hf E keys f0 n F s'
  | none => match @UD ⟨F⟩ E s with
  | .ask e => Qa e (Hf E keys f0 n ((e, true) :: F) s) (Hf E keys f0 n ((e, false) :: F) s)
  | .no => some (.leaf .stuck)
  | .free => match @Gv ⟨F⟩ E s with
   | .next s' => match Yz keys s with
    | true => some (.leaf (.cut s'))
    | false => match YB keys s' with
     | true => some (.leaf (.cut s'))
     | false => Hf E keys f0 n F s'
   | .done ok v h => match ok && s.fr.round.isNone && Nat.beq s.fr.fn f0 with
    | true => some (.leaf (.done v h))
    | false => some (.leaf .stuck)
   | .draw s2 ops k => match @Di ⟨F⟩ E (@MQ ⟨F⟩ E n) ops s2.fr.nt ops.toList [] s2.fr.tmps s2.h with
    | some (none, tmps, h) => Hf E keys f0 n F { s2 with fr := { s2.fr with tmps, todo := k }, h }
    | some (some v, tmps, h) => Hf E keys f0 n F { s2 with fr := { s2.fr with tmps, todo := .dead :: k, mode := .panic [(v, false)] }, h }
    | none => part ()
   | .bad _ => part ()
theorem X6 {E : Env} {keys : List Nat} {f0 : FuncId} {G : Nat → D → D} (hE : ∀ [U : Unk], U.K = (Env.of E.P).kinds → OK E) (hO : Ag E G) [v : Vals] (hK : v.K = (Env.of E.P).kinds) (hG : v.V.fn = G) (base : List Frame) :
  ∀ (n : Nat) (F : List (SB × Bool)) (s : AS) (t : Tr Lf), Hf E keys f0 n F s = some t → BC v.V F → ∀ (ρ : Ren) (c : Frame) (ccs : List Frame) (w : World), SR ρ s c ccs w → WF s.h → Br ρ s.h.nx → (t.way v.V F).1.Good E.P f0 ρ s c ccs w base (t.way v.V F).2 := by
 subst hG;intro n
 induction n with
 | zero => intro F s t h; cases h
 | succ n ih =>
  intro F s t hx hF ρ c ccs w hsr hwf hfa;have hEU : @OK (Bj v F hF) E := hE (U := Bj v F hF) hK;have hfr : ∀ m, Bg ρ s.h.nx m := fun m b hb _ => hfa b hb
  simp only [Hf] at hx
  generalize hpart : (match @S6 ⟨F⟩ E n s with
   | some e => match AW F e with
    | none => Qa e (Hf E keys f0 n ((e, true) :: F) s) (Hf E keys f0 n ((e, false) :: F) s)
    | some _ => some (.leaf .stuck)
   | none => some (.leaf .stuck)) = pt at hx
  have hboth : ∀ e, Qa e (Hf E keys f0 n ((e, true) :: F) s) (Hf E keys f0 n ((e, false) :: F) s) = some t → (t.way v.V F).1.Good E.P f0 ρ s c ccs w base (t.way v.V F).2 := by
   intro e hq;unfold Qa at hq;split at hq
   ·rename_i a b ha hb;cases hq;simp only [Tr.way];cases he : Ah v.V e with
    | true =>
     exact ih _ _ _ ha (fun e' b' hm => by
      rcases List.mem_cons.1 hm with q | q
      ·cases q; exact he
      ·exact hF e' b' q) ρ c ccs w hsr hwf hfa
    | false =>
     exact ih _ _ _ hb (fun e' b' hm => by
      rcases List.mem_cons.1 hm with q | q
      ·cases q; exact he
      ·exact hF e' b' q) ρ c ccs w hsr hwf hfa
   ·cases hq
  have hpt : pt = some t → (t.way v.V F).1.Good E.P f0 ρ s c ccs w base (t.way v.V F).2 := by
   intro hq;subst hq;split at hpart
   ·rename_i e _;split at hpart
    ·exact hboth e hpart
    ·cases hpart; exact hF
   ·cases hpart; exact hF
  have go : ∀ (s' : AS) (σ : Ren) (c' : Frame) (ccs' : List Frame) (w1 : World), Steps E.P (lone c (ccs ++ base) w) (lone c' (ccs' ++ base) w1) → SR σ s' c' ccs' w1 → Ext ρ σ s.h s'.h w w1 → Hf E keys f0 n F s' = some t → (t.way v.V F).1.Good E.P f0 ρ s c ccs w base (t.way v.V F).2 := by
   intro s' σ c' ccs' w1 h1 h2 h3 h4;exact (ih F s' t h4 hF σ c' ccs' w1 h2 (Ext.wf (U := Bj v F hF) h3 hwf) (hfa.ext h3)).pre h1 h3 hfa
  split at hx
  ·rename_i s' htop;obtain ⟨σ, cf', ccs', w', q1, q2, q3⟩ := Sq (U := Bj v F hF) hEU hO hsr hwf htop (hfr _) base;exact go s' σ cf' ccs' w' q1 q2 q3 hx
  split at hx
  ·exact hboth _ hx
  ·cases hx; exact hF
  ·split at hx
   ·rename_i s' hst;obtain ⟨σ, cf', ccs', w', q1, q2, q3⟩ := Pm (U := Bj v F hF) (base := base) hEU hsr hst (hfr _);split at hx
    ·rename_i hcut;cases hx
     have hcs : s'.cs = [] := by
      unfold Yz at hcut;split at hcut
      ·rename_i e1 e2 e3;simp only [Gv, e2, e3] at hst;cases hst; exact e1
      ·rename_i e1 e2 e3;simp only [Gv, e2, e3] at hst;cases hst; exact e1
      ·cases hcut
     have hccs : ccs' = [] := by
      have := q2.cs;rw [hcs] at this;cases this; rfl
     subst hccs;exact ⟨hF, hcs, σ, cf', w', Steps.one q1, q2, q3⟩
    ·split at hx
     ·rename_i hreg;cases hx
      have hcs : s'.cs = [] := by
       unfold YB at hreg;split at hreg
       ·assumption
       ·cases hreg
      have hccs : ccs' = [] := by
       have := q2.cs;rw [hcs] at this;cases this; rfl
      subst hccs;exact ⟨hF, hcs, σ, cf', w', Steps.one q1, q2, q3⟩
     ·exact go s' σ cf' ccs' w' (Steps.one q1) q2 q3 hx
   ·rename_i ok' v' h' hst;split at hx
    ·rename_i hb;cases hx;obtain ⟨rfl, x, w', q1, q2, q3, q4⟩ := Lj (U := Bj v F hF) hEU hsr hst;obtain ⟨b0, b3⟩ := Av (U := Bj v F hF) hb;obtain ⟨b1, b2⟩ := Av (U := Bj v F hF) b0;subst b1;have hround := hsr.fr.round;rw [Option.isNone_iff_eq_none] at b2;rw [b2] at hround
     have hro : c.roundOf = none := by
      cases hz : c.roundOf with
      | none => rfl
      | some => rw [hz] at hround; exact hround.elim
     exact ⟨hF, ρ, c, x, w, w', Steps.refl _ _, hsr.fr.fn.trans (AG b3), hro, q4, q1, q2, q3⟩
    ·cases hx; exact hF
   ·rename_i s2 ops k hst;obtain ⟨rfl, hm, id, ht⟩ := Hr (U := Bj v F hF) hst;split at hx
    ·rename_i tmps h1 hd;obtain ⟨σ, c', w', q1, q2, q3⟩ := Kn (U := Bj v F hF) hEU (O5 (U := Bj v F hF) hEU hO n) hsr hwf hm ht hd (hfr _) base;exact go _ σ c' ccs w' q1 q2 q3 hx
    ·rename_i tmps h1 hd;obtain ⟨σ, c', w', q1, q2, q3⟩ := Kn (U := Bj v F hF) hEU (O5 (U := Bj v F hF) hEU hO n) hsr hwf hm ht hd (hfr _) base;exact go _ σ c' ccs w' q1 q2 q3 hx
    ·exact hpt hx
   ·exact hpt hx
def SE.fits (n m : Nat) : SE → Bool
 | .c _ => true
 | .var i => Nat.blt i n
 | .lenS a => a.fits n m
 | .lenL a => a.fits n m
 | .arith _ _ a b => a.fits n m && b.fits n m
 | .conv _ a => a.fits n m
 | .lss a b => a.fits n m && b.fits n m
 | .eql a b => a.fits n m && b.fits n m
 | .eqS a _ _ => a.fits n m
 | .eqSS a b => a.fits n m && b.fits n m
 | .isNil a => a.fits n m
 | .bc _ => true
 | .neg a => a.fits n m
 | .and a b => a.fits n m && b.fits n m
 | .nilIs a b => a.fits n m && b.fits n m
 | .strc _ _ => true
 | .strAt a b => a.fits n m && b.fits n m
 | .strCat a b => a.fits n m && b.fits n m
 | .strSub a b x => a.fits n m && b.fits n m && x.fits n m
 | .cell a i _ => a.fits n m && i.fits n m
 | .sel a _ => a.fits n m
 | .nilL => true
 | .emptyL => true
 | .snoc a r => a.fits n m && r.fits n m
 | .upd a i _ x => a.fits n m && i.fits n m && x.fits n m
 | .rep a b => a.fits n m && b.fits n m
 | .cat a b => a.fits n m && b.fits n m
 | .sub a b x => a.fits n m && b.fits n m && x.fits n m
 | .rnil => true
 | .rcons a b => a.fits n m && b.fits n m
 | .app f a => Nat.blt f m && a.fits n m
 | .bytes a => a.fits n m
 | .ofBytes a => a.fits n m
 | .mIdx _ a k => a.fits n m && k.fits n m
 | .rmv a i => a.fits n m && i.fits n m
structure Val.Alike (n m : Nat) (V W : Val) : Prop where
 d : ∀ i, i < n → V.d i = W.d i
 fn : ∀ i, i < m → V.fn i = W.fn i
theorem SE.fits_ok {n m : Nat} {V W : Val} (h : V.Alike n m W) : ∀ e : SE, e.fits n m = true → Ab V e = Ab W e := by
 intro e
 induction e <;> intro hf <;> (try simp only [SE.fits, Bool.and_eq_true] at hf) <;> simp only [Ab]
 case var i => exact h.d i (by simpa [Nat.blt_eq] using hf)
 case app f x ih => rw [ih hf.2, h.fn f (by simpa [Nat.blt_eq] using hf.1)]
 all_goals simp_all only [forall_const]
def f8 (g : Nat) (st : SE) : SE → Bool
 | .app g' st' => Nat.beq g g' && st.same st'
 | _ => false
def Be (g : Nat) (st : SE) (f : Nat → SE) : SE → SE
 | .sel a j => match f8 g st a with
  | true => f j
  | false => .sel (Be g st f a) j
 | .c n => .c n
 | .var i => .var i
 | .lenS a => .lenS (Be g st f a)
 | .lenL a => .lenL (Be g st f a)
 | .arith op k a b => .arith op k (Be g st f a) (Be g st f b)
 | .conv k a => .conv k (Be g st f a)
 | .lss a b => .lss (Be g st f a) (Be g st f b)
 | .eql a b => .eql (Be g st f a) (Be g st f b)
 | .eqS a l b => .eqS (Be g st f a) l b
 | .eqSS a b => .eqSS (Be g st f a) (Be g st f b)
 | .isNil a => .isNil (Be g st f a)
 | .bc b => .bc b
 | .neg a => .neg (Be g st f a)
 | .and a b => .and (Be g st f a) (Be g st f b)
 | .nilIs a b => .nilIs (Be g st f a) (Be g st f b)
 | .strc l b => .strc l b
 | .strAt a i => .strAt (Be g st f a) (Be g st f i)
 | .strCat a b => .strCat (Be g st f a) (Be g st f b)
 | .strSub a lo hi => .strSub (Be g st f a) (Be g st f lo) (Be g st f hi)
 | .cell a i j => .cell (Be g st f a) (Be g st f i) j
 | .nilL => .nilL
 | .emptyL => .emptyL
 | .snoc a r => .snoc (Be g st f a) (Be g st f r)
 | .upd a i j x => .upd (Be g st f a) (Be g st f i) j (Be g st f x)
 | .rep n r => .rep (Be g st f n) (Be g st f r)
 | .cat a b => .cat (Be g st f a) (Be g st f b)
 | .sub a lo hi => .sub (Be g st f a) (Be g st f lo) (Be g st f hi)
 | .rnil => .rnil
 | .rcons x r => .rcons (Be g st f x) (Be g st f r)
 | .app h x => .app h (Be g st f x)
 | .bytes a => .bytes (Be g st f a)
 | .ofBytes a => .ofBytes (Be g st f a)
 | .mIdx ks a k => .mIdx ks (Be g st f a) (Be g st f k)
 | .rmv a i => .rmv (Be g st f a) (Be g st f i)
theorem RJ {V : Val} {g : Nat} {st : SE} {f : Nat → SE} (hf : ∀ j, Ab V (f j) = Ab V (.sel (.app g st) j)) : ∀ e : SE, Ab V (Be g st f e) = Ab V e := by
 intro e
 induction e
 case sel a j ih =>
  simp only [Be];split
  ·rename_i h;rw [hf];cases a <;> simp only [f8, Bool.false_eq_true, Bool.and_eq_true] at h
   rw [AG h.1, SE.same_ok (U := GM) h.2]
  ·simp only [Ab, ih]
 all_goals simp_all only [Be, Ab]
def Fu (step : D → Option (D ⊕ D)) : Nat → D → Option D
 | 0, _ => none
 | n + 1, d => match step d with
  | none => none
  | some (.inr r) => some r
  | some (.inl d') => Fu step n d'
theorem M5 {step : D → Option (D ⊕ D)} : ∀ {n m : Nat} {d r s : D}, Fu step n d = some r → Fu step m d = some s → r = s
 | 0, _, _, _, _, h, _ => by cases h
 | _ + 1, 0, _, _, _, _, h => by cases h
 | n + 1, m + 1, d, r, s, h, k => by
  simp only [Fu] at h k;split at h
  ·cases h
  ·rename_i x hx;rw [hx] at k;cases h; cases k; rfl
  ·rename_i d' hx;rw [hx] at k;exact M5 h k
class An where
 f : (D → Option (D ⊕ D)) → D → D
 run : ∀ {step : D → Option (D ⊕ D)} {n : Nat} {d r : D}, Fu step n d = some r → f step d = r
 or : ∀ (step : D → Option (D ⊕ D)) (d : D), f step d = .row [] ∨ ∃ n, Fu step n d = some (f step d)
theorem UJ : Nonempty An := by
 classical
 have key : ∀ (step : D → Option (D ⊕ D)) (d : D), ∃ r, (∀ n s, Fu step n d = some s → r = s) ∧ (r = .row [] ∨ ∃ n, Fu step n d = some r) := by
  intro step d;by_cases h : ∃ r n, Fu step n d = some r
  ·obtain ⟨r, n, hr⟩ := h;exact ⟨r, fun m s hs => M5 hr hs, .inr ⟨n, hr⟩⟩
  ·exact ⟨.row [], fun m s hs => absurd ⟨s, m, hs⟩ h, .inl rfl⟩
 exact ⟨⟨fun step d => Classical.choose (key step d), fun {step n d r} h => (Classical.choose_spec (key step d)).1 n r h, fun step d => (Classical.choose_spec (key step d)).2⟩⟩
section
variable [An]
def Bz (step : D → Option (D ⊕ D)) (d : D) : D := An.f step d
theorem Et {step : D → Option (D ⊕ D)} {n : Nat} {d r : D} (h : Fu step n d = some r) : Bz step d = r := An.run h
theorem Ei (step : D → Option (D ⊕ D)) (d : D) : Bz step d = .row [] ∨ ∃ n, Fu step n d = some (Bz step d) := An.or step d
theorem P1 {step : D → Option (D ⊕ D)} {d r : D} (h : step d = some (.inr r)) : Bz step d = r := Et (n := 1) (by simp [Fu, h])
theorem Pz {step : D → Option (D ⊕ D)} {d d' : D} (h : step d = some (.inl d')) : Bz step d = Bz step d' := by
 rcases Ei step d' with q | ⟨n, hn⟩
 ·rcases Ei step d with q' | ⟨m, hm⟩
  ·rw [q, q']
  ·cases m with
   | zero => cases hm
   | succ m =>
    simp only [Fu, h] at hm;exact (Et hm).symm
 ·exact Et (n := n + 1) (by simp only [Fu, h]; exact hn)
end
structure Pt where
 key : Option Nat
 nt : Nat
 nv : Nat
 todo : List AI
 tmps : T AV
 pre : List (Option Aq)
 facts : List (SB × Bool)
 defs : List Nat := []
 deriving Inhabited
structure Sh where
 m : Nat
 res : AV
 post : List (Option Aq)
 keep : List Nat
 keepC : List (Nat × List Nat) := []
 deriving Inhabited
structure Dec where
 g : Nat
 f : FuncId
 p : Nat
 pts : List Pt
 shs : List Sh
 deriving Inhabited
inductive Plf where
 | stuck
 | done (s : Nat) (parts : List SE)
 | next (j : Nat) (θ : List SE)
 deriving Inhabited
def WQ : List SE → SE
 | [] => .rnil
 | x :: r => .rcons x (WQ r)
def stE (i : Nat) (θ : List SE) : SE := .rcons (.c i) (WQ θ)
def BP : Nat → Nat → List SE
 | _, 0 => []
 | i, n + 1 => .var i :: BP (i + 1) n
def Lg (g j : Nat) (θ : List SE) (s : Nat) : SE := .eql (.sel (.app g (stE j θ)) 0) (.c (s + 1 : Nat))
theorem MH (V : Val) : ∀ l : List SE, Ab V (WQ l) = .row (l.map (Ab V))
 | [] => rfl
 | x :: r => by simp only [WQ, Ab, MH V r, D.cells, List.map_cons]
theorem GQ (V : Val) (i : Nat) (l : List SE) : Ab V (stE i l) = .row (.int i :: l.map (Ab V)) := by
 simp only [stE, Ab, MH, D.cells]
theorem EB (V : Val) : ∀ (n i : Nat), (BP i n).map (Ab V) = (List.range n).map fun j => V.d (i + j)
 | 0, i => rfl
 | n + 1, i => by
  simp only [BP, List.map_cons, EB V n (i + 1), List.range_succ_eq_map, List.map_map];refine congr (congrArg _ ?_) ?_
  ·simp [Ab]
  ·apply List.map_congr_left; intro j _; show V.d (i + 1 + j) = V.d (i + (j + 1)); congr 1; omega
def cY (g : Nat) (st : SE) : Nat → Nat → List SE
 | _, 0 => []
 | j, n + 1 => .sel (.app g st) j :: cY g st (j + 1) n
def QC : Nat → Nat → List Nat
 | _, 0 => []
 | i, n + 1 => i :: QC (i + 1) n
def Yp [Facts] (θ : List SE) (β : List Nat) : Option Aq → Option Aq
 | some x => x.inst θ β
 | none => none
def cellsOf (i : Nat) : List (Nat × List Nat) → List Nat
 | [] => []
 | (j, l) :: r => match Nat.beq i j with
  | true => l
  | false => cellsOf i r
def We (c : T AV) : List Nat → T AV → T AV
 | [], t => t
 | j :: r, t => match c.get j with
  | some a => We c r (t.set j a)
  | none => We c r t
def md (l : List Nat) (y : Aq) (x : Option Aq) : Option Aq := match l with
 | [] => x
 | _ => match x, y with
  | some (.cells n c), .cells _ d => some (.cells n (We d l c))
  | x, _ => x
def NS [Facts] (θ : List SE) (β : List Nat) (keep : List Nat) (keepC : List (Nat × List Nat)) : Nat → Nat → List (Option Aq) → List (Option Aq) → List (Option Aq)
 | _, 0, _, _ => []
 | i, n + 1, x :: xs, y :: ys => (match y with
  | some y => (match Mp i keep with
   | true => some y
   | false => md (cellsOf i keepC) y (Yp θ β x))
  | none => none) :: NS θ β keep keepC (i + 1) n xs ys
 | i, n + 1, _, _ => none :: NS θ β keep keepC (i + 1) n [] []
@[reducible] def NJ : Facts := ⟨[]⟩
def BL (d : Dec) (i : Nat) (pt : Pt) (s : Nat) (sh : Sh) : Cut :=
 let θ := cY d.g (stE i (BP 0 pt.nv)) 1 sh.m
 let β := QC 0 d.p ++ QC pt.pre.length (sh.post.length - d.p)
 {key := pt.key, fn := d.f, nt := pt.nt, nv := pt.nv, todo := pt.todo, tmps := pt.tmps, pre := pt.pre, facts := pt.facts ++ [(Lg d.g i (BP 0 pt.nv) s, true)],
  res := @AV.inst NJ θ β sh.res, post := @NS NJ θ β sh.keep sh.keepC 0 d.p sh.post pt.pre ++ List.replicate (pt.pre.length - d.p) none ++ (sh.post.drop d.p).map (@Yp NJ θ β), ent := d.p, defs := pt.defs }
def Qv : SE → SE
 | .and x (.bc true) => x
 | x => x
theorem Uc (V : Val) (x : SE) : Ah V (Qv x) = Ah V x := by
 unfold Qv;split
 ·rename_i x;show Ah V x = ((Ah V x) && true);rw [Bool.and_true]
 ·rfl
def Rb (F : List (SB × Bool)) (g : Nat) (st : SE) (f : Nat → SE) (sf : SE) (p : SE × SE) : Bool :=
 match ((Be g st f p.1).norm).same ((Be g st f p.2).norm) with
 | true => true
 | false => match p.2.norm with
  | .bc c => p.1.isB && (match AW F (Qv p.1) with
   | some d => d == c
   | none => c && p.1.norm.same sf.norm)
  | _ => false
def GL (F : List (SB × Bool)) (g : Nat) (st : SE) (f : Nat → SE) (sf : SE) : Obs → Bool
 | [] => true
 | p :: r => match Rb F g st f sf p with
  | true => GL F g st f sf r
  | false => false
def aH [Facts] (E : Env) (p a : AV) (h : Aa) : AV × Aa :=
 match p, a with
 | .tuple qs, .tuple xs => match Qd E qs xs h with
  | (xs', h1) => (.tuple xs', h1)
 | p, a => O7 E p a h
theorem Xe {U : Unk} {E : Env} (hE : OK E) {w : World} {p a a' : AV} {v : Value} {ρ : Ren} {h h' : Aa} (hr : HR ρ h.blk.get w) (ha : VR ρ a v) (hx : aH E p a h = (a', h')) :
  h'.nx = h.nx ∧ ∃ σ : Ren, VR σ a' v ∧ HR σ h'.blk.get w ∧ Ext ρ σ h h' w w := by
 unfold aH at hx;split at hx
 ·rename_i qs xs;split at hx;rename_i xs' h1 hf;cases hx;cases ha with
  | tuple _ l' e1 e2 =>
   obtain ⟨hn, σ, q1, q2, q3⟩ := OL hE hr ⟨e1, e2⟩ hf;exact ⟨hn, σ, .tuple xs' l' q1.1 q1.2, q2, q3⟩
 ·exact PJ hE hr ha hx
def Kw [Facts] (E : Env) (c : Cut) (v : AV) (h : Aa) : AV × Aa := match aH E c.res v h with
 | (v, h) => (v, Ea E c.post 0 (He E c.post h (GT c.res v ⟨.nil, idT c.pre.length .nil⟩)).b h)
theorem Rg {U : Unk} {E : Env} (hE : OK E) {w : World} {c : Cut} {a a' : AV} {v : Value} {ρ : Ren} {h h' : Aa} (hr : HR ρ h.blk.get w) (ha : VR ρ a v) (hx : Kw E c a h = (a', h')) :
  h'.nx = h.nx ∧ ∃ σ : Ren, VR σ a' v ∧ HR σ h'.blk.get w ∧ Ext ρ σ h h' w w := by
 unfold Kw at hx;split at hx;rename_i x h1 hf;cases hx;obtain ⟨n1, σ, q1, q2, q3⟩ := Xe hE hr ha hf;obtain ⟨n2, τ, r1, r2⟩ := BS hE c.post 0 (He E c.post h1 (GT c.res a' ⟨.nil, idT c.pre.length .nil⟩)).b h1 σ q2;exact ⟨by omega, τ, q1.mono r2.le, r1, q3.trans r2 (fun b hb hb2 => by omega)⟩
def Ks [Facts] (E : Env) (c : Cut) (s : AS) : AS := { s with h := Ea E c.pre 0 (He E c.pre s.h (PD c s)).b s.h }
def SZ : List SE → List SE → Bool
 | [], [] => true
 | a :: l, b :: m => a.norm.same b.norm && SZ l m
 | _, _ => false
def lu (s : Nat) (cs : List SE) : Nat → SE
 | 0 => .c (s + 1 : Nat)
 | k + 1 => cs.getD k (.bc false)
def cB (g j : Nat) (θ : List SE) (k : Nat) : SE := .sel (.app g (stE j θ)) k
def Oo (E : Env) (d : Dec) (i : Nat) (pt : Pt) (F : List (SB × Bool)) (l : Lf) (dl : Plf) (s : Nat) (sh : Sh) : Bool :=
 match dl, l with
 | .stuck, _ => true
 | .done s' cs, .done v h => match Nat.beq s' s with
  | false => true
  | true => match @Kw ⟨F⟩ E (BL d i pt s sh) v h with
   | (v, h) => match @Ss ⟨F⟩ E (BL d i pt s sh) v h with
    | some o => GL F d.g (stE i (BP 0 pt.nv)) (lu s cs) (.c 0) o
    | none => false
 | .next j θ, .cut s0 => match d.pts[j]? with
  | some pj => match @VU ⟨F⟩ E (BL d j pj s sh) (@Ks ⟨F⟩ E (BL d j pj s sh) s0) with
   | some (θ', x, h', o1) => match SZ θ' θ, @Ss ⟨F⟩ E (BL d i pt s sh) x h' with
    | true, some o2 => GL F d.g (stE i (BP 0 pt.nv)) (cB d.g j θ) (Lg d.g j θ s) (o1 ++ o2)
    | _, _ => false
   | none => false
  | none => false
 | _, _ => false
def Fr (E : Env) (d : Dec) (i : Nat) (pt : Pt) (F : List (SB × Bool)) (l : Lf) (dl : Plf) : Nat → List Sh → Bool
 | _, [] => true
 | s, sh :: r => match Oo E d i pt F l dl s sh with
  | true => Fr E d i pt F l dl (s + 1) r
  | false => false
def FQ (n m : Nat) : List SE → Bool
 | [] => true
 | a :: l => a.fits n m && FQ n m l
def Plf.fits (n m : Nat) : Plf → Bool
 | .stuck => true
 | .done _ cs => FQ n m cs
 | .next _ θ => FQ n m θ
def DI (E : Env) (d : Dec) (i : Nat) (pt : Pt) : List (SB × Bool) → Tr Lf → Tr Plf → Option (List (Nat × List AI))
 | _, _, .leaf .stuck => some []
 | F, .leaf l, .leaf dl => match Fr E d i pt F l dl 0 d.shs && dl.fits pt.nv d.g with
  | true => some (match dl, l with
   | .next j _, .cut s0 => [(j, s0.fr.todo)]
   | _, _ => [])
  | false => none
 | F, .split e a b, .split e' a' b' => match e.same e' && e.fits pt.nv d.g with
  | true => match DI E d i pt ((e, true) :: F) a a', DI E d i pt ((e, false) :: F) b b' with
   | some x, some y => some (x ++ y)
   | _, _ => none
  | false => none
 | _, _, _ => none
def Pt.st (pt : Pt) (d : Dec) : AS := { fr := { fn := d.f, nt := pt.nt, tmps := pt.tmps, todo := pt.todo, defers := Ht pt.defs, mode := .run, kind := .normal, round := none }, cs := [], h := { blk := A9 pt.pre, nx := pt.pre.length, log := [] } }
def Ai (E : Env) (keys : List Nat) (N : Nat) (d : Dec) (T : List (Tr Plf)) (i : Nat) : Option (List (Nat × List AI)) :=
 match d.pts[i]?, T[i]? with
 | some pt, some t => match Hf E keys d.f N pt.facts (pt.st d) with
  | some r => DI E d i pt pt.facts r t
  | none => none
 | _, _ => none
def stD (i nv : Nat) (V : Val) : D := .row (.int i :: (List.range nv).map V.d)
def Iw (G : Nat → D → D) (xs : List D) : Val := ⟨fun j => xs.getD j default, G⟩
def Ck (V : Val) : Plf → Option (D ⊕ D)
 | .stuck => none
 | .done s cs => some (.inr (.row (.int (s + 1 : Nat) :: cs.map (Ab V))))
 | .next j θ => some (.inl (.row (.int j :: θ.map (Ab V))))
def BB (T : List (Tr Plf)) (G : Nat → D → D) : D → Option (D ⊕ D)
 | .row (.int (.ofNat i) :: xs) => match T[i]? with
  | some t => Ck (Iw G xs) (t.get (Iw G xs))
  | none => none
 | _ => none
theorem Pl (V : Val) : ∀ {a b : List SE}, SZ a b = true → a.map (Ab V) = b.map (Ab V)
 | [], [], _ => rfl
 | x :: a, y :: b, h => by
  simp only [SZ, Bool.and_eq_true] at h;have := congrArg (Ab V) (SE.same_ok (U := GM) h.1);rw [Co, Co] at this;simp only [List.map_cons, this, Pl V h.2]
 | [], _ :: _, h => by cases h
 | _ :: _, [], h => by cases h
theorem C5 {n m : Nat} {V W : Val} (h : V.Alike n m W) : ∀ {l : List SE}, FQ n m l = true → l.map (Ab V) = l.map (Ab W)
 | [], _ => rfl
 | a :: l, hf => by
  simp only [FQ, Bool.and_eq_true] at hf;simp only [List.map_cons, SE.fits_ok h a hf.1, C5 h hf.2]
theorem TY {F : List (SB × Bool)} {g : Nat} {st : SE} {f : Nat → SE} {sf : SE} {V : Val} (hF : BC V F) (hf : ∀ j, Ab V (f j) = Ab V (.sel (.app g st) j)) (hsf : sf = .c 0 ∨ Ab V sf = .bool true) {p : SE × SE} (h : Rb F g st f sf p = true) : Ab V p.1 = Ab V p.2 := by
 unfold Rb at h;split at h
 ·rename_i hs;have := SE.same_ok (U := GM) hs;have q := congrArg (Ab V) this
  rwa [Co, Co, RJ hf, RJ hf] at q
 ·split at h
  ·rename_i c hc;simp only [Bool.and_eq_true] at h;obtain ⟨hb, h⟩ := h;have e1 := Oe V hb;have e2 := Co V p.2;rw [hc] at e2;rw [← e2, e1];show D.bool _ = D.bool c
   congr 1
   split at h
   ·rename_i d hd;have := Aw (U := GM) (V := V) hF hd;rw [Uc] at this;have h2 := eq_of_beq h;subst h2;exact this
   ·simp only [Bool.and_eq_true] at h;have h2 := congrArg (Ab V) (SE.same_ok (U := GM) h.2);rw [Co, Co] at h2;have h3 : c = true := h.1;subst h3;rcases hsf with q | q
    ·rw [q, e1] at h2;cases h2
    ·rw [h2, q]; rfl
  ·cases h
theorem GJ {F : List (SB × Bool)} {g : Nat} {st : SE} {f : Nat → SE} {sf : SE} {V : Val} (hF : BC V F) (hf : ∀ j, Ab V (f j) = Ab V (.sel (.app g st) j)) (hsf : sf = .c 0 ∨ Ab V sf = .bool true) : ∀ {o : Obs}, GL F g st f sf o = true → o.holds V
 | [], _ => fun a b hm => by cases hm
 | p :: r, h => by
  simp only [GL] at h;split at h
  ·rename_i hp;intro a b hm;rcases List.mem_cons.1 hm with q | q
   ·have := TY hF hf hsf hp;rw [← q] at this;exact this
   ·exact GJ hF hf hsf h a b q
  ·cases h
theorem Q2 {E : Env} {d : Dec} {i : Nat} {pt : Pt} {V W : Val} (hVW : V.Alike pt.nv d.g W) : ∀ {r : Tr Lf} {t : Tr Plf} {F : List (SB × Bool)} {js : List (Nat × List AI)}, DI E d i pt F r t = some js →
  t.get W = .stuck ∨ (Fr E d i pt (r.way V F).2 (r.way V F).1 (t.get W) 0 d.shs = true ∧ (t.get W).fits pt.nv d.g = true ∧ ∀ j θ s0, t.get W = .next j θ → (r.way V F).1 = .cut s0 → (j, s0.fr.todo) ∈ js) := by
 intro r t
 induction t generalizing r with
 | leaf dl =>
  intro F js h;cases dl with
  | stuck => exact .inl rfl
  | done s cs =>
   right;cases r with
   | split => simp [DI] at h
   | leaf l =>
    simp only [DI] at h;split at h
    ·rename_i hc;simp only [Bool.and_eq_true] at hc;exact ⟨hc.1, hc.2, fun j θ s0 q => by cases q⟩
    ·cases h
  | next j θ =>
   right;cases r with
   | split => simp [DI] at h
   | leaf l =>
    simp only [DI] at h;split at h
    ·rename_i hc;simp only [Bool.and_eq_true] at hc;refine ⟨hc.1, hc.2, fun j' θ' s0 q1 q2 => ?_⟩
     cases q1;simp only [Tr.way] at q2;subst q2;cases h;simp
    ·cases h
 | split e a b iha ihb =>
  intro F js h;cases r with
  | leaf l => cases l <;> simp [DI] at h
  | split e' a' b' =>
   simp only [DI] at h;split at h
   ·rename_i hc;simp only [Bool.and_eq_true] at hc;have he := SE.same_ok (U := GM) hc.1;subst he;have hv : Ah W e' = Ah V e' := by unfold Ah; rw [SE.fits_ok hVW e' hc.2]
    split at h
    ·rename_i x y hx hy;cases h;simp only [Tr.get, Tr.way, hv];cases hb : Ah V e' with
     | true =>
      rcases iha hx with q | ⟨q1, q2, q3⟩
      ·exact .inl q
      ·exact .inr ⟨q1, q2, fun j θ s0 z1 z2 => by simp [q3 j θ s0 z1 z2]⟩
     | false =>
      rcases ihb hy with q | ⟨q1, q2, q3⟩
      ·exact .inl q
      ·exact .inr ⟨q1, q2, fun j θ s0 z1 z2 => by simp [q3 j θ s0 z1 z2]⟩
    ·cases h
   ·cases h
theorem Ix {E : Env} {d : Dec} {i : Nat} {pt : Pt} {F : List (SB × Bool)} {l : Lf} {dl : Plf} : ∀ {shs : List Sh} {s0 : Nat}, Fr E d i pt F l dl s0 shs = true → ∀ (s : Nat) sh, shs[s]? = some sh → Oo E d i pt F l dl (s0 + s) sh = true
 | [], s0, _, s, sh, h => by simp at h
 | a :: r, s0, h, s, sh, hs => by
  simp only [Fr] at h;split at h
  ·rename_i ha;cases s with
   | zero => simp only [List.getElem?_cons_zero, Option.some.injEq] at hs; subst hs; exact ha
   | succ s =>
    simp only [List.getElem?_cons_succ] at hs;have := Ix h s sh hs
    rwa [show s0 + 1 + s = s0 + (s + 1) by omega] at this
  ·cases h
structure Q8 (P : Program) (f0 : FuncId) (base : List Frame) (K : Frame → World → Value → World → Prop) : Prop where
 pre : ∀ c c' w w1 v w', Steps P (lone c base w) (lone c' base w1) → K c' w1 v w' → K c w v w'
 ends : ∀ c w v w', NL P c w true v w' → c.fn = f0 → c.roundOf = none → K c w v w'
def Cut.AtK (P : Program) (G : Nat → D → D) (c : Cut) (V : Val) (K : Frame → World → Value → World → Prop) : Prop :=
 ∀ (v : Vals), v.V = V → v.K = (Env.of P).kinds → V.fn = G → BC V c.facts → ∀ (ρ : Ren) (cf : Frame) (w : World), FrR ρ c.fr cf → HR ρ c.h.blk.get w → Br ρ c.pre.length →
  ∃ σ v' w', K cf w v' w' ∧ VR σ c.res v' ∧ HR σ c.h'.blk.get w' ∧ Ext ρ σ c.h c.h' w w'
section
variable {E : Env} {G : Nat → D → D} (hE : ∀ [U : Unk], U.K = (Env.of E.P).kinds → OK E) {v : Vals} (hK : v.K = (Env.of E.P).kinds)
include hE hK
theorem Vr (hG : v.V.fn = G) {F : List (SB × Bool)} (hF : BC v.V F) {d : Cut} {s : AS} {θ : List SE} {x : AV} {h' : Aa} {o : Obs} (hx : @VU ⟨F⟩ E d s = some (θ, x, h', o)) (ho : o.holds v.V) {K : Frame → World → Value → World → Prop} (hat : d.AtK E.P G (v.V.inst θ) K) (htd : s.fr.todo = d.todo)
  {σ : Ren} {cf : Frame} {w : World} (hsr : SR σ s cf [] w) (hwf : WF s.h) (hfa : Br σ s.h.nx):
  ∃ τ v' w', K cf w v' w' ∧ VR τ x v' ∧ HR τ h'.blk.get w' ∧ Ext σ τ s.h h' w w' := by
 have hEU : @OK (Bj v F hF) E := hE (U := Bj v F hF) hK;unfold VU at hx;split at hx;rename_i m h1 hbd;simp only at hx;split at hx
 ·rename_i hc;split at hx
  ·rename_i o1 t hx1 ht;simp only [Option.some.injEq, Prod.mk.injEq] at hx;obtain ⟨rfl, rfl, rfl, rfl⟩ := hx;obtain ⟨oa, ob, hxa, hx2, rfl⟩ := BT hx1;obtain ⟨ho1, hofacts⟩ := Obs.append ho;obtain ⟨hoa, hob⟩ := Obs.append ho1;generalize hθ : In m.v 0 d.nv = θ at *;generalize hβ : Iv m.b 0 d.pre.length = β at *;have e2 : (@AU ⟨F⟩ E d.pre 0 (@He ⟨F⟩ E d.pre s.h (PD d s)) s.h).2 = h1 := by rw [hbd]
   obtain ⟨q1, q2, q3⟩ := Bw (U := Bj v F hF) (E := E) d.pre 0 (@He ⟨F⟩ E d.pre s.h (PD d s)) s.h hsr.h hwf (fun b b1 _ => hfa b b1)
   rw [e2] at q1 q2 q3;simp only [Bool.and_eq_true] at hc;obtain ⟨⟨⟨⟨⟨⟨⟨⟨⟨c1, c2⟩, c3⟩, c4⟩, c5⟩, c6⟩, c7⟩, c8⟩, c9⟩, c10⟩ := hc;have hfacts := LS hofacts;have hV : (CV (Bj v F hF) d.facts θ hfacts).V = (Bj v F hF).V.inst θ := rfl;have hKK : (CV (Bj v F hF) d.facts θ hfacts).K = (Bj v F hF).K := rfl;have hlt := KQ c2;have hbl := (Du (U := Bj v F hF) (W := CV (Bj v F hF) d.facts θ hfacts) hV hKK d.pre β ob hx2 hob).1;have p2 := HR.toPat (U := Bj v F hF) (W := CV (Bj v F hF) d.facts θ hfacts) hV hKK hEU q1 hx2 hob c1;have hfa1 : Br σ h1.nx := Br.ext hfa q2
   have hback : Br (σ.back β) d.pre.length := by
    intro b hb;have : β[b]? = none := List.getElem?_eq_none (by omega)
    simp [Ren.back, this]
   have hfr := hsr.fr
   have pfr : @FrR (CV (Bj v F hF) d.facts θ hfacts).toVals (σ.back β) d.fr cf := by
    refine @FrR.mk (CV (Bj v F hF) d.facts θ hfacts).toVals (σ.back β) d.fr cf ?_ (@TR.mk (CV (Bj v F hF) d.facts θ hfacts).toVals (σ.back β) _ _ _ ?_ (fun i y hy => ?_)) ?_ ?_ ?_ ?_ ?_
    ·rw [hfr.fn]; exact Nat.eq_of_beq_eq_true c4
    ·rw [hfr.tm.size]; exact Nat.eq_of_beq_eq_true c5
    ·obtain ⟨z, z1, z2⟩ := Mg (U := Bj v F hF) (W := CV (Bj v F hF) d.facts θ hfacts) hV hKK (ρ := σ) d.tmps s.fr.tmps oa hxa hoa i y hy;exact z2 _ (hfr.tm.get i z z1)
    ·show @IL (CV (Bj v F hF) d.facts θ hfacts).toVals (σ.back β) d.todo cf.todo;rw [← htd];exact Pr c10 hfr.todo
    ·exact Mz c6 hfr.defers
    ·have hm := hfr.mode;show @MR (CV (Bj v F hF) d.facts θ hfacts).toVals (σ.back β) .run cf.mode;cases hq : s.fr.mode with
     | run => rw [hq] at hm; generalize cf.mode = mm at hm; cases hm; exact @MR.run (CV (Bj v F hF) d.facts θ hfacts).toVals (σ.back β)
     | ret => rw [hq] at c7; cases c7
     | panic => rw [hq] at c7; cases c7
    ·have hk := hfr.kind;show cf.kind = .normal;rw [hk];cases hq : s.fr.kind with
     | normal => rfl
     | _ => rw [hq] at c8; cases c8
    ·have hro := hfr.round;show RR (σ.back β) none cf.roundOf;cases hq : s.fr.round with
     | none => rw [hq] at hro; cases hz : cf.roundOf with | none => trivial | some => rw [hz] at hro; exact hro.elim
     | some => rw [hq] at c9; cases c9
   obtain ⟨σ2, v', w', r1, r2, r3, r4⟩ := hat (CV (Bj v F hF) d.facts θ hfacts).toVals rfl hK hG hfacts (σ.back β) cf w pfr p2 hback;obtain ⟨τ, t1, t2, t3⟩ := RK (U := Bj v F hF) (E := E) (FF := d.facts) hfacts rfl rfl hx2 hob c1 hlt (Nat.le_of_ble_eq_true c3) ht q1 q3 (fun b hb _ => hfa1 b hb) r2 r3 r4
   exact ⟨τ, v', w', r1, t1, t2, q2.trans t3 (fun b hb _ => hfa b hb)⟩
  ·cases hx
 ·cases hx
end
theorem Nt (t : T SE) : ∀ (n i : Nat), (In t i n).length = n
 | 0, _ => rfl
 | n + 1, i => by simp [In, Nt t n]
theorem Uy [Facts] {E : Env} {c : Cut} {s : AS} {θ : List SE} {x : AV} {h : Aa} {o : Obs} (hu : VU E c s = some (θ, x, h, o)) : θ.length = c.nv := by
 unfold VU at hu;split at hu;simp only at hu;split at hu
 ·split at hu
  ·simp only [Option.some.injEq, Prod.mk.injEq] at hu;rw [← hu.1, Nt]
  ·cases hu
 ·cases hu
def Qp (r : D) : Int := (r.cells.getD 0 default).toInt
theorem Rl [An] {E : Env} {G : Nat → D → D} (hE : ∀ [U : Unk], U.K = (Env.of E.P).kinds → OK E) (hO : Ag E G) {d : Dec} {T : List (Tr Plf)} {keys : List Nat} {N : Nat} (hg : ∀ x, G d.g x = Bz (BB T G) x)
  (hchk : ∀ (i : Nat) pt, d.pts[i]? = some pt → ∃ js, Ai E keys N d T i = some js ∧ ∀ j td, (j, td) ∈ js → ∀ pj, d.pts[j]? = some pj → td = pj.todo) :
  ∀ (n i : Nat) (pt : Pt) (s : Nat) (sh : Sh), d.pts[i]? = some pt → d.shs[s]? = some sh → ∀ (V : Val) (r : D), V.fn = G → Fu (BB T G) n (stD i pt.nv V) = some r → Qp r = (s + 1 : Nat) → ∀ (base : List Frame) (K : Frame → World → Value → World → Prop), Q8 E.P d.f base K → (BL d i pt s sh).AtK E.P G V K := by
 intro n
 induction n with
 | zero => intro i pt s sh _ _ V r _ h; cases h
 | succ n ih =>
  intro i pt s sh hpt hsh V r hVG hrun hrs base KK hgo v hvV hK hG hfacts ρ cf w hfr hr hfa;subst hvV;have hF0 : BC v.V pt.facts := fun e b hm => hfacts e b (by simp [BL, hm])
  obtain ⟨js, hdec, hjs⟩ := hchk i pt hpt;unfold Ai at hdec;rw [hpt] at hdec;split at hdec
  ·rename_i pt' t hpt' ht;cases hpt';split at hdec
   ·rename_i tr htr;have hgood := X6 hE hO hK hG base N pt.facts (pt.st d) tr htr hF0 ρ cf [] w ⟨hfr, .nil, hr⟩ (I9 _ _) hfa;have hVW : v.V.Alike pt.nv d.g (Iw G ((List.range pt.nv).map v.V.d)) := ⟨fun j hj => by simp [Iw, List.getD_eq_getElem?_getD, hj], fun j _ => by rw [hG]; rfl⟩
    have hsemi : Ab v.V (stE i (BP 0 pt.nv)) = stD i pt.nv v.V := by
     rw [GQ, EB]; simp [stD]
    have hone : BB T G (stD i pt.nv v.V) = Ck (Iw G ((List.range pt.nv).map v.V.d)) (t.get (Iw G ((List.range pt.nv).map v.V.d))) := by
     show (match T[i]? with
      | some t => Ck (Iw G _) (t.get (Iw G _))
      | none => none) = _
     rw [ht]
    have hwhile : Bz (BB T G) (stD i pt.nv v.V) = r := Et hrun;generalize hW : Iw G ((List.range pt.nv).map v.V.d) = W at hVW hone;rcases Q2 (E := E) (d := d) (i := i) hVW hdec with hst | ⟨hshapes, hfits, hmem⟩
    ·simp only [Fu, hone, hst, Ck] at hrun; cases hrun
    ·generalize hlf : tr.way v.V pt.facts = lf at hgood hshapes hmem;obtain ⟨l, F⟩ := lf;simp only at hgood hshapes hmem;have hl := Ix hshapes s sh hsh;simp only [Nat.zero_add] at hl;generalize hdl : t.get W = dl at hone hfits hl hmem;unfold Oo at hl;split at hl
     ·simp only [Fu, hone, Ck] at hrun; cases hrun
     ·
      rename_i s' cs x h;simp only [Fu, hone, Ck] at hrun;cases hrun
      have hss : s' = s := by
       have : ((s' + 1 : Nat) : Int) = (s + 1 : Nat) := hrs;omega
      subst hss;rw [Nat.beq_refl] at hl;simp only at hl;generalize hpe : @Kw ⟨F⟩ E (BL d i pt s' sh) x h = pe at hl;obtain ⟨x2, h2⟩ := pe;simp only at hl;split at hl
      ·rename_i o ho;obtain ⟨hF, σ, cf', v', w1, w', q1, qf, qr, q2, q3, q4, q5⟩ := hgood;have hcs : cs.map (Ab v.V) = cs.map (Ab W) := C5 hVW hfits
       have hob : o.holds v.V := GJ hF (fun j => by
        show _ = (v.V.fn d.g (Ab v.V (stE i (BP 0 pt.nv)))).cells.getD j default;rw [hsemi, hG, hg, hwhile];cases j with
        | zero => rfl
        | succ j =>
         show Ab v.V (cs.getD j (.bc false)) = (cs.map (Ab W)).getD j default;rw [← hcs];simp only [List.getD_eq_getElem?_getD, List.getElem?_map];cases cs[j]? <;> rfl) (.inl rfl) hl
       obtain ⟨pn, σ2, p0, p1, p2⟩ := Rg (U := Bj v F hF) (hE (U := Bj v F hF) hK) q4 q3 hpe;have q3 := p0;have hfa2 : Br σ h.nx := Br.ext (h := (pt.st d).h) hfa q5;have q5 := q5.trans p2 (fun b hb hb2 => hfa b hb)
       have q4 := p1;have hwf := Ext.wf (U := Bj v F hF) q5 (I9 _ _);obtain ⟨τ, r1, r2, r3⟩ := VT (c := BL d i pt s' sh) hE hK hF ho hob q3 q4 hwf q5 hfa;exact ⟨τ, v', w', hgo.pre _ _ _ _ _ _ q1 (hgo.ends _ _ _ _ q2 qf qr), r1, r2, r3⟩
      ·cases hl
     ·
      rename_i j θ s0;simp only [Fu, hone, Ck] at hrun;split at hl
      ·rename_i pj hpj;split at hl
       ·rename_i θ' x h o1 hu;split at hl
        ·rename_i o2 hθ ho2;have hθ' := Pl v.V hθ;obtain ⟨hF, hcs, σ, c', w1, q1, q2, q3⟩ := hgood;have hlen : θ'.length = pj.nv := @Uy ⟨F⟩ _ _ _ _ _ _ _ hu
         have hst : (D.row (.int j :: θ.map (Ab W))) = stD j pj.nv (v.V.inst θ') := by
          have := C5 hVW (l := θ) hfits;rw [← this, ← hθ'];unfold stD
          congr 2
          apply List.ext_getElem
          ·simp [hlen]
          ·intro k h1 h2;simp only [List.getElem_map, List.getElem_range, Val.inst];have : k < θ'.length := by simpa using h1
           simp [List.getD_eq_getElem?_getD, this]
         have hstE : Ab v.V (stE j θ) = stD j pj.nv (v.V.inst θ') := by
          rw [GQ, C5 hVW (l := θ) hfits, hst]
         rw [hst] at hrun;have hwj : Bz (BB T G) (stD j pj.nv (v.V.inst θ')) = r := Et hrun
         have hob : (o1 ++ o2).holds v.V := GJ hF (fun k => by
          show (v.V.fn d.g (Ab v.V (stE j θ))).cells.getD k default = (v.V.fn d.g (Ab v.V (stE i (BP 0 pt.nv)))).cells.getD k default;rw [hstE, hsemi, hG, hg, hg, hwj, hwhile]) (.inr (by
          show D.bool ((((v.V.fn d.g (Ab v.V (stE j θ))).cells.getD 0 default).toInt) == ((s + 1 : Nat) : Int)) = _;rw [hstE, hG, hg, hwj];have : (r.cells.getD 0 default).toInt = ((s + 1 : Nat) : Int) := hrs;rw [this]; simp)) hl
         obtain ⟨hob1, hob2⟩ := Obs.append hob;have hat := ih j pj s sh hpj hsh (v.V.inst θ') r hG hrun hrs base KK hgo;have htd : s0.fr.todo = (BL d j pj s sh).todo := hjs j _ (hmem j θ s0 rfl rfl) pj hpj;obtain ⟨pn, σ2, p1, p2⟩ := BS (U := Bj v F hF) (hE (U := Bj v F hF) hK) (BL d j pj s sh).pre 0 (@He ⟨F⟩ E (BL d j pj s sh).pre s0.h (PD (BL d j pj s sh) s0)).b s0.h σ q2.h;have q2 : SR σ2 (@Ks ⟨F⟩ E (BL d j pj s sh) s0) c' [] w1 := ⟨q2.fr.mono p2.le, q2.cs.mono p2.le, p1⟩;have q3 := q3.trans p2 (fun b hb hb2 => hfa b hb)
         have hwf1 : WF (@Ks ⟨F⟩ E (BL d j pj s sh) s0).h := Ext.wf (U := Bj v F hF) q3 (I9 _ _);have hfa1 : Br σ2 (@Ks ⟨F⟩ E (BL d j pj s sh) s0).h.nx := Br.ext (h := (pt.st d).h) hfa q3;obtain ⟨τ, v', w', r1, r2, r3, r4⟩ := Vr hE hK hG hF hu hob1 hat htd q2 hwf1 hfa1;have he : Ext ρ τ (pt.st d).h h w w' := q3.trans r4 (fun b hb _ => hfa b hb)
         have hwf2 : WF h := Ext.wf (U := Bj v F hF) r4 hwf1;obtain ⟨τ2, t1, t2, t3⟩ := VT (c := BL d i pt s sh) hE hK hF ho2 hob2 r2 r3 hwf2 he hfa;exact ⟨τ2, v', w', hgo.pre _ _ _ _ _ _ q1 r1, t1, t2, t3⟩
        ·cases hl
       ·cases hl
      ·cases hl
     ·cases hl
   ·cases hdec
  ·cases hdec
theorem TT (P : Program) (f0 : FuncId) (c0 : Frame) (base : List Frame) : Q8 P f0 (c0 :: base) (fun cf w v w' => B4 P (lone cf (c0 :: base) w) c0 base true v w') :=
 ⟨fun c c' w w1 v w' h k => Steps.trans h k, fun c w v w' h _ _ => Steps.one (h.back c0 base)⟩
theorem Ph (P : Program) (f0 : FuncId) (base : List Frame) : Q8 P f0 base (fun cf w v w' => ∃ fr, Steps P (lone cf base w) (lone fr base w') ∧ fr.fn = f0 ∧ fr.leaving P w' (.returned v)) :=
 ⟨fun c c' w w1 v w' h ⟨fr, k1, k2, k3⟩ => ⟨fr, Steps.trans h k1, k2, k3⟩, fun c w v w' h hf hr => by
  obtain ⟨e, q⟩ := h.leaves hr;subst e;exact ⟨c, Steps.refl _ _, hf, q⟩⟩
def Ak (E : Env) (f nv : Nat) (args : List AV) (pre : List (Option Aq)) (facts : List (SB × Bool)) : Pt :=
 { key := none, nt := (Ef E f args).nt, nv, todo := (Ef E f args).todo, tmps := (Ef E f args).tmps, pre, facts }
def Dec.sm (d : Dec) (args : List AV) (pt : Pt) (s : Nat) (sh : Sh) : Sm :=
 let c := BL d 0 pt s sh
 { f := d.f, nv := pt.nv, args, pre := pt.pre, facts := c.facts, res := c.res, post := c.post }
theorem Rw (r : D) (h : r = .row []) : Qp r = 0 := by subst h; rfl
theorem Dec.sm_ok [An] {E : Env} {G : Nat → D → D} (hE : ∀ [U : Unk], U.K = (Env.of E.P).kinds → OK E) (hO : Ag E G) {d : Dec} {T : List (Tr Plf)} {keys : List Nat} {N : Nat} (hg : ∀ x, G d.g x = Bz (BB T G) x)
  (hchk : ∀ (i : Nat) pt, d.pts[i]? = some pt → ∃ js, Ai E keys N d T i = some js ∧ ∀ j td, (j, td) ∈ js → ∀ pj, d.pts[j]? = some pj → td = pj.todo)
  {nv : Nat} {args : List AV} {pre : List (Option Aq)} {facts : List (SB × Bool)} (hp0 : d.pts[0]? = some (Ak E d.f nv args pre facts)) (hent : (Bi E d.f args .normal).isSome = true) {s : Nat} {sh : Sh} (hsh : d.shs[s]? = some sh) :
  (d.sm args (Ak E d.f nv args pre facts) s sh).Valid E.P G := by
 refine AE.sm_ok hE hent (fun V hG hf => ?_)
 have hf' : BC V (BL d 0 (Ak E d.f nv args pre facts) s sh).facts := hf;have hs := hf' (Lg d.g 0 (BP 0 nv) s) true (by simp [BL, Ak])
 have hst : Ab V (stE 0 (BP 0 nv)) = stD 0 nv V := by rw [GQ, EB]; simp [stD]
 have hs' : Qp (Bz (BB T G) (stD 0 nv V)) = (s + 1 : Nat) := by
  have : ((((V.fn d.g (Ab V (stE 0 (BP 0 nv)))).cells.getD 0 default).toInt) == ((s + 1 : Nat) : Int)) = true := hs;rw [hst, hG, hg] at this;exact eq_of_beq this
 rcases Ei (BB T G) (stD 0 nv V) with q | ⟨n, hn⟩
 ·rw [Rw _ q] at hs'; omega
 ·intro v hvV hK hG' hfacts ρ cf w hfr hr hfa c0 base;exact Rl hE hO hg hchk n 0 _ s sh hp0 hsh V _ hG hn hs' (c0 :: base) _ (TT E.P d.f c0 base) v hvV hK hG' hfacts ρ cf w hfr hr hfa
def Af : List (Nat × AV) → T AV
 | [] => .nil
 | (i, a) :: r => (Af r).set i a
def DM (key : Nat) : Code → List AI → Option (List AI)
 | .seq a b, k => match DM key a (.code b :: k) with
  | some l => some l
  | none => DM key b k
 | .cond _ a b, k => match DM key a k with
  | some l => some l
  | none => DM key b k
 | .block id b, k => DM key b (.inBlock id :: k)
 | .loop b, k => match S8 [key] b with
  | true => some (.code b :: .inLoop b :: k)
  | false => DM key b (.inLoop b :: k)
 | .scope b, k => DM key b (.inScope b :: k)
 | _, _ => none
def EU (key : Nat) : Code → List AI → Option (List AI)
 | .seq a b, k => match EU key a (.code b :: k) with
  | some l => some l
  | none => EU key b k
 | .cond _ a b, k => match EU key a k with
  | some l => some l
  | none => EU key b k
 | .block id b, k => EU key b (.inBlock id :: k)
 | .loop b, k => EU key b (.inLoop b :: k)
 | .scope b, k => EU key b (.inScope b :: k)
 | .region id ops d, k => match Nat.beq id key with
  | true => some (.code (.region id ops d) :: k)
  | false => none
 | _, _ => none
def Cp (key : Nat) : Code → Option (List Tmp × Code × Code)
 | .seq a b => match Cp key a with
  | some l => some l
  | none => Cp key b
 | .cond _ a b => match Cp key a with
  | some l => some l
  | none => Cp key b
 | .block _ b => Cp key b
 | .loop b => Cp key b
 | .scope b => Cp key b
 | .rangeFunc _ ps a b => match S8 [key] (.seq a b) with
  | true => some (ps.toList, a, b)
  | false => Cp key b
 | _ => none
def DJ (E : Env) (f : FuncId) (key : Nat) (st : LoopState) (pending : Option Code) (nt : Nat) (tmps : List (Nat × AV)) (d : Nat) : Aq := match E.fn.get f with
 | some fn => match fn.body with
  | some b => match Cp key b with
   | some (ps, as, bd) => .loop st pending f nt (Af tmps) ps as bd d
   | none => .deferred none
  | none => .deferred none
 | none => .deferred none
def V7 (E : Env) (f : FuncId) (key : Nat) : List AI := match E.fn.get f with
 | some fn => match fn.body with
  | some b => match (match Nat.ble 1000000 key with | true => EU (key - 1000000) b [] | false => DM key b []) with
   | some l => l
   | none => []
  | none => []
 | none => []
def AA (E : Env) (f nt key nv : Nat) (tmps : List (Nat × AV)) (pre : List (Option Aq)) (facts : List (SB × Bool)) (defs : List Nat) : Pt :=
 { key := some key, nt, nv, todo := V7 E f key, tmps := Af tmps, pre, facts, defs }
open Go.RowKit
def Ja (o : Option Nat) (P : Program) (ts : List TypeId) (xs : List D) : Prop := ∃ ks cs M, AN (Env.of P) ts = some ks ∧ DVL (Env.of P).kinds M ks cs xs ∧ (Can ks xs ∧ LU (Env.of P).kinds 9 ks xs) ∧ ShL (Env.of P).kinds o 9 ks xs
def IM (P : Program) (ts : List TypeId) (xs : List D) : Prop := ∃ ks cs M, AN (Env.of P) ts = some ks ∧ DVL (Env.of P).kinds M ks cs xs ∧ Can ks xs ∧ LU (Env.of P).kinds 9 ks xs
def EO : Sh := { m := 1, res := .sb true (.var 0), post := [], keep := [] }
def AO (E : Env) (ts : List TypeId) : List (SB × Bool) := match AN E ts with
 | some ks => BK 0 ks
 | none => []
def BU (E : Env) (ts : List TypeId) : Nat := match AN E ts with
 | some ks => ks.length
 | none => 0
def Ct (E : Env) (ts : List TypeId) : List AV := match @DF ⟨AO E ts⟩ E 0 ts with
 | some l => l
 | none => []
def EP (E : Env) (f : FuncId) (ts : List TypeId) : Pt := Ak E f (BU E ts) (Ct E ts) [] (AO E ts)
def LF (E : Env) (f : FuncId) (ts : List TypeId) (L : List TypeId) : Bool :=
 FY E L L && (match AN E ts with
  | some ks => ks.all (Ol L)
  | none => false) && (@DF ⟨AO E ts⟩ E 0 ts).isSome && (Bi E f (Ct E ts) .normal).isSome
section
variable {E : Env} {L : List TypeId} {H : Type} {enc : TypeId × Value → H} {w : World} {base : Nat} {sp : Nat → Bool} {held : Bool}
theorem N5 [An] {G : Nat → D → D} (hE : ∀ [U : Unk], U.K = (Env.of E.P).kinds → OK E) (hke : E.kinds = (Env.of E.P).kinds) (hO : Ag E G) {d : Dec} {T : List (Tr Plf)} {keys : List Nat} {N : Nat} (hg : ∀ x, G d.g x = Bz (BB T G) x)
  (hchk : ∀ (i : Nat) pt, d.pts[i]? = some pt → ∃ js, Ai E keys N d T i = some js ∧ ∀ j td, (j, td) ∈ js → ∀ pj, d.pts[j]? = some pj → td = pj.todo)
  {ts : List TypeId} (hp0 : d.pts[0]? = some (EP E d.f ts)) (hsh : d.shs[0]? = some EO) (hok : LF E d.f ts L = true) (hkk : AN E ts = AN (Env.of E.P) ts)
  {o : Option Nat} (hplain : ∀ xs, Ja o E.P ts xs → G d.g (.row (.int 0 :: xs)) = .row [.int 1, .bool true])
  {vs : List Value} {ds : List (DataW H)} {ps : List MemPlace} (hsw : Bs o ds) (hA : DataW.TrodAll enc E.P w base sp held ts vs ds ps) (hval : ∀ (j : Nat) t v, ts[j]? = some t → vs[j]? = some v → ∃ r b0, Value.okWide E.P w r b0 t v) :
  Calls E.P d.f vs.toArray w fun e W' => e = .returned (.bool true) ∧ Below w.heap.size w W' := by
 unfold LF at hok;simp only [Bool.and_eq_true] at hok;obtain ⟨⟨⟨hL, hin⟩, hsym⟩, hent⟩ := hok;split at hin
 ·rename_i ks hk;obtain ⟨cs, xs, q1, qc, q2⟩ := RI (U := Na E.P) (hE (U := Na E.P) rfl) hL (o := o) ts vs ds ps ks hA hval hk hin hsw;have hlen : ks.length = xs.length := q1.len.2;have hnv : BU E ts = xs.length := by unfold BU; rw [hk]; exact hlen
  have hfk : AO E ts = BK 0 ks := by unfold AO; rw [hk]
  have hF : BC (Bf G xs) (AO E ts) := by
   rw [hfk];exact E7 (U := Na E.P) ks cs xs 0 (fun i hi => by simp [Bf]) q1
  intro cs0;cases hfr : Bi E d.f (Ct E ts) .normal with
  | none => rw [hfr] at hent; cases hent
  | some fr =>
   have hst : stD 0 (BU E ts) (Bf G xs) = .row (.int 0 :: xs) := by
    unfold stD;rw [hnv]
    congr 2
    apply List.ext_getElem
    ·simp
    ·intro k h1 h2;simp [Bf, List.getD_eq_getElem?_getD, h2]
   have hres := hplain xs ⟨ks, cs, EY w, by rw [← hkk]; exact hk, by rw [← hke]; exact q1, ⟨qc.1.1, by rw [← hke]; exact qc.1.2⟩, by rw [← hke]; exact qc.2⟩
   rw [hg, ← hst] at hres;rcases Ei (BB T G) (stD 0 (BU E ts) (Bf G xs)) with q | ⟨n, hn⟩
   ·rw [q] at hres; cases hres
   ·rw [hres] at hn;have hat := Rl hE hO hg hchk n 0 _ 0 EO hp0 hsh (Bf G xs) _ rfl hn rfl cs0 _ (Ph E.P d.f cs0)
    let vv : Vals := { V := Bf G xs, K := E.kinds, R := [], hR := fun _ _ _ _ _ h => (by cases h) }
    have hstE : Ab (Bf G xs) (stE 0 (BP 0 (BU E ts))) = stD 0 (BU E ts) (Bf G xs) := by
     rw [GQ, EB]; simp [stD]
    have hval1 : (Bf G xs).fn d.g (Ab (Bf G xs) (stE 0 (BP 0 (BU E ts)))) = .row [.int 1, .bool true] := by
     rw [hstE, ← hres]; exact hg _
    have hfacts : BC vv.V (BL d 0 (EP E d.f ts) 0 EO).facts := by
     intro e b hm;have hm' : (e, b) ∈ AO E ts ++ [(Lg d.g 0 (BP 0 (BU E ts)) 0, true)] := hm;rcases List.mem_append.1 hm' with q | q
     ·exact hF e b q
     ·simp only [List.mem_singleton, Prod.mk.injEq] at q;obtain ⟨rfl, rfl⟩ := q;show ((((Bf G xs).fn d.g (Ab (Bf G xs) (stE 0 (BP 0 (BU E ts))))).cells.getD 0 default).toInt == ((0 + 1 : Nat) : Int)) = true;rw [hval1]; rfl
    have hargs : @VL vv ⟨fun _ => none, EY w⟩ (Ct E ts) vs := by
     cases hs : @DF ⟨AO E ts⟩ E 0 ts with
     | none => rw [hs] at hsym; cases hsym
     | some as =>
      have e1 : Ct E ts = as := by unfold Ct; rw [hs]
      rw [e1];exact q2 { facts := AO E ts, toVals := vv, ok := hF } 0 as ⟨fun _ => none, EY w⟩ rfl rfl (fun i hi => by show (Bf G xs).d (0 + i) = _; simp [Bf]) hs
    have hEv := hE (U := { facts := AO E ts, toVals := vv, ok := hF }) hke;have hfrr := C7 (U := { facts := AO E ts, toVals := vv, ok := hF }) hEv hfr hargs
    have efr : (BL d 0 (EP E d.f ts) 0 EO).fr = fr := by
     have hq := hfr;unfold Bi at hq;split at hq
     ·rename_i fn hfn;split at hq
      ·rename_i c hc;cases hq;simp [Cut.fr, BL, EP, Ak, Ef, Bi, hfn, hc, Ht]
      ·cases hq
     ·cases hq
    obtain ⟨σ, v', w', ⟨fr', k1, k2, k3⟩, r1, r2, r3⟩ := hat vv rfl hke rfl hfacts ⟨fun _ => none, EY w⟩ _ w (by rw [efr]; exact hfrr) (Pi (U := { facts := AO E ts, toVals := vv, ok := hF }) w) (fun b _ => rfl)
    have hv' : v' = .bool true := by
     have e2 : (BL d 0 (EP E d.f ts) 0 EO).res = .sb true (.sel (.app d.g (stE 0 (BP 0 (BU E ts)))) 1) := rfl;rw [e2] at r1;cases r1
     have : Ah vv.V (.sel (.app d.g (stE 0 (BP 0 (BU E ts)))) 1) = true := by
      show (((Bf G xs).fn d.g (Ab (Bf G xs) (stE 0 (BP 0 (BU E ts))))).cells.getD 1 default).toBool = true;rw [hval1]; rfl
     rw [this]; rfl
    subst hv';exact ⟨.returned (.bool true), w', fr', ⟨rfl, r3.calm.os, r3.calm.tape, r3.calm.output, r3.calm.size, fun k hk => r3.kept k hk (fun b base h => by cases h)⟩, k1, k2, k3⟩
 ·cases hin
end
theorem JU [An] {H : Type} {enc : TypeId × Value → H} {a : Assume} {C : Checked} {os : Os} {fn : Func} {s : ChangeSpec} {conds : List PathCond} {apart : Bool} {L : List TypeId} {tb : TypeId} {l : List Orc} {m : List Sm} {G : Nat → D → D} {d : Dec} {T : List (Tr Plf)} {keys : List Nat} {N : Nat}
  (own : ownKnob C.prog.godebug = none) (started : os.Started) (noInit : C.prog.inits.idxOf? d.f = none) (hfn : C.prog.funcs[d.f]? = some fn)
  (witness : ∃ (w : World) (tape : Tape) (i : Input), w.os = os ∧ (w.forCall tape i).Shaped C.prog ∧ i.vars = [] ∧ Input.okWide C.prog (w.forCall tape i) .any w.heap.size d.f i ∧
   s.pre6 enc C.prog fn conds apart (w.forCall tape i).memory i.args ∧ a.holds C.prog (lone (Frame.enter C.prog d.f i.args .normal) [] (w.forCall tape i)))
  (hl : laidOutB C.prog = true) (hr : ∀ t ∈ fn.params.toList, C.prog.readableRec t = true ∧ t < C.prog.types.size) (hvars : s.vars = [])
  (hspec : ∀ ds : List (DataW H), ds.length = fn.params.toList.length → s.fn H ds = { results := [.lit (.bool true)], args := ds })
  (hres : fn.resultTypes = #[tb]) (hb : C.prog.underlying tb = some .bool) (hE : ∀ [U : Unk], U.K = (Env.of C.prog).kinds → OK (Env.ofS C.prog l m)) (hO : Ag (Env.ofS C.prog l m) G)
  (hg : ∀ x, G d.g x = Bz (BB T G) x) (hchk : ∀ (i : Nat) pt, d.pts[i]? = some pt → ∃ js, Ai (Env.ofS C.prog l m) keys N d T i = some js ∧ ∀ j td, (j, td) ∈ js → ∀ pj, d.pts[j]? = some pj → td = pj.todo)
  (hp0 : d.pts[0]? = some (EP (Env.ofS C.prog l m) d.f fn.params.toList)) (hsh : d.shs[0]? = some EO) (hok : LF (Env.ofS C.prog l m) d.f fn.params.toList L = true)
  (hplain : ∀ xs, IM C.prog fn.params.toList xs → G d.g (.row (.int 0 :: xs)) = .row [.int 1, .bool true]) :
  ReturnsInHanded a C os d.f .any (s.pre6 enc C.prog fn conds apart) (s.post enc C.prog fn apart true false false) := by
 refine returnsInHanded_of_change own started noInit hfn witness ?_;intro W base args ds gs before hval hW hcnd _;have hW' := hW;obtain ⟨p, q, hA, hV, rfl, hfz, hnd⟩ := hW;rw [hvars] at hV
 have hgs : gs = [] ∧ q = [] := by
  cases gs with
  | nil => exact ⟨rfl, hV⟩
  | cons => simp [DataW.TrodVars] at hV
 obtain ⟨rfl, rfl⟩ := hgs;have hlen := GC hA;have hsp := hspec ds hlen
 have hkk : AN (Env.ofS C.prog l m) fn.params.toList = AN (Env.of C.prog) fn.params.toList := by
  generalize fn.params.toList = ts
  induction ts with
  | nil => rfl
  | cons t r ih => simp only [AN]; rw [ih]; rfl
 refine (N5 (E := Env.ofS C.prog l m) hE rfl hO hg hchk hp0 hsh hok hkk (o := none) (fun xs ⟨ks, cs, M, a, b, c, _⟩ => hplain xs ⟨ks, cs, M, a, b, c.1, c.2⟩) (Bs.none ds) hA (fun j t v ht hv => ⟨_, _, hval j t v (by simpa using ht) (by simpa using hv)⟩)).mono ?_
 rintro e W' ⟨rfl, hbelow⟩
 refine ⟨.bool true, rfl, ds, [], p ++ [], [], p, [], hW', ?_, ?_, ?_, hbelow.frame _, fun h => by cases h⟩
 ·rw [List.append_nil, hsp, hres];exact ⟨[], [], shut_bool hb true, rfl, rfl⟩
 ·rw [List.append_nil, hsp];exact EX hl hbelow hr hA (fun x hx => hW'.lt x (by simp [hx]))
 ·rw [List.append_nil, hsp, hvars]; rfl
end Go.AE
namespace Go.AE
def jl (d : Dec) : List Nat → List (Nat × List AI)
 | [] => []
 | j :: r => (j, (d.pts.getD j default).todo) :: jl d r
def Au (E : Env) (keys : List Nat) (N : Nat) (d : Dec) (T : List (Tr Plf)) : Prop :=
 ∀ (i : Nat) pt, d.pts[i]? = some pt → ∃ l, Ai E keys N d T i = some (jl d l)
theorem KN {d : Dec} : ∀ {l : List Nat} {j : Nat} {td : List AI}, (j, td) ∈ jl d l → ∀ pj, d.pts[j]? = some pj → td = pj.todo
 | [], j, td, h, pj, hp => by cases h
 | a :: r, j, td, h, pj, hp => by
  rcases List.mem_cons.1 h with q | q
  ·cases q;simp [List.getD_eq_getElem?_getD, hp]
  ·exact KN q pj hp
theorem Au.chk {E : Env} {keys : List Nat} {N : Nat} {d : Dec} {T : List (Tr Plf)} (h : Au E keys N d T) (i : Nat) (pt : Pt) (hp : d.pts[i]? = some pt) :
  ∃ js, Ai E keys N d T i = some js ∧ ∀ j td, (j, td) ∈ js → ∀ pj, d.pts[j]? = some pj → td = pj.todo := by
 obtain ⟨l, hl⟩ := h i pt hp;exact ⟨_, hl, fun j td hm pj hj => KN hm pj hj⟩
def Tr.appsLt (m : Nat) : Tr Plf → Bool
 | .leaf .stuck => true
 | .leaf (.done _ cs) => FQ 1000 m cs
 | .leaf (.next _ θ) => FQ 1000 m θ
 | .split e a b => e.fits 1000 m && a.appsLt m && b.appsLt m
def Fy (m : Nat) : List (Tr Plf) → Bool
 | [] => true
 | t :: r => t.appsLt m && Fy m r
def DY : Nat → List (List (Tr Plf)) → Bool
 | _, [] => true
 | m, t :: r => Fy m t && DY (m + 1) r
def gAt [An] (Ts : List (List (Tr Plf))) : Nat → Nat → D → D
 | 0, _, _ => .row []
 | n + 1, k, x => if k = n then Bz (BB (Ts.getD n []) (gAt Ts n)) x else gAt Ts n k x
def Al [An] (Ts : List (List (Tr Plf))) : Nat → D → D := gAt Ts Ts.length
theorem FqQ [An] (Ts : List (List (Tr Plf))) {k : Nat} (x : D) : ∀ {n : Nat}, k < n → gAt Ts n k x = gAt Ts (k + 1) k x
 | 0, h => by omega
 | n + 1, h => by
  by_cases c : k = n
  ·subst c; rfl
  ·have : gAt Ts (n + 1) k x = gAt Ts n k x := by show (if k = n then _ else _) = _; rw [if_neg c]
   rw [this];exact FqQ Ts x (by omega)
theorem HD {m : Nat} {V W : Val} (hd : V.d = W.d) (hf : ∀ i, i < m → V.fn i = W.fn i) : ∀ {t : Tr Plf}, t.appsLt m = true → Ck V (t.get V) = Ck W (t.get W) := by
 have ha : V.Alike 1000 m W := ⟨fun i _ => by rw [hd], hf⟩
 intro t
 induction t with
 | leaf l =>
  intro h;cases l with
  | stuck => rfl
  | done s cs => simp only [Tr.get, Ck]; rw [C5 ha h]
  | next j θ => simp only [Tr.get, Ck]; rw [C5 ha h]
 | split e a b iha ihb =>
  intro h;simp only [Tr.appsLt, Bool.and_eq_true] at h;have he : Ah V e = Ah W e := by unfold Ah; rw [SE.fits_ok ha e h.1.1]
  simp only [Tr.get, he];cases Ah W e with
  | true => exact iha h.1.2
  | false => exact ihb h.2
theorem L4 {m : Nat} {G H : Nat → D → D} (hf : ∀ i, i < m → G i = H i) {T : List (Tr Plf)} (hT : Fy m T = true) : BB T G = BB T H := by
 have key : ∀ (T : List (Tr Plf)), Fy m T = true → ∀ (i : Nat) t, T[i]? = some t → t.appsLt m = true := by
  intro T
  induction T with
  | nil => intro _ i t h; simp at h
  | cons a r ih =>
   intro h i t hi;simp only [Fy, Bool.and_eq_true] at h;cases i with
   | zero => simp only [List.getElem?_cons_zero, Option.some.injEq] at hi; subst hi; exact h.1
   | succ i => exact ih h.2 i t (by simpa using hi)
 funext x
 unfold BB;split
 ·rename_i i xs;split
  ·rename_i t ht;exact HD (m := m) (V := Iw G xs) (W := Iw H xs) rfl (fun i hi => hf i hi) (key T hT i t ht)
  ·rfl
 ·rfl
theorem EA : ∀ {Ts : List (List (Tr Plf))} {m : Nat}, DY m Ts = true → ∀ (k : Nat) T, Ts[k]? = some T → Fy (m + k) T = true
 | [], m, _, k, T, h => by simp at h
 | a :: r, m, h, k, T, hk => by
  simp only [DY, Bool.and_eq_true] at h;cases k with
  | zero => simp only [List.getElem?_cons_zero, Option.some.injEq] at hk; subst hk; exact h.1
  | succ k =>
   have := EA h.2 k T (by simpa using hk)
   rwa [show m + 1 + k = m + (k + 1) by omega] at this
theorem Am [An] {Ts : List (List (Tr Plf))} (h : DY 0 Ts = true) {k : Nat} {T : List (Tr Plf)} (hk : Ts[k]? = some T) (x : D) : Al Ts k x = Bz (BB T (Al Ts)) x := by
 have hlt : k < Ts.length := (List.getElem?_eq_some_iff.1 hk).1;have hT := EA h k T hk;rw [Nat.zero_add] at hT
 have e1 : Al Ts k x = Bz (BB T (gAt Ts k)) x := by
  unfold Al;rw [FqQ Ts x hlt];show (if k = k then _ else _) = _
  rw [if_pos rfl];simp [List.getD_eq_getElem?_getD, hk]
 rw [e1, L4 (fun i hi => ?_) hT]
 funext y
 unfold Al;rw [FqQ Ts y hi, FqQ Ts y (show i < Ts.length by omega)]
def Dec.smL (d : Dec) (args : List AV) (pt : Pt) : Nat → List Sh → List Sm
 | _, [] => []
 | s, sh :: r => d.sm args pt s sh :: d.smL args pt (s + 1) r
theorem Ag.decL [An] {P : Program} {l : List Orc} {m : List Sm} {G : Nat → D → D} (hE : ∀ [U : Unk], U.K = (Env.of P).kinds → OK (Env.ofS P l m)) (hO : Ag (Env.ofS P l m) G) {d : Dec} {T : List (Tr Plf)} {keys : List Nat} {N : Nat} (hg : ∀ x, G d.g x = Bz (BB T G) x)
  (hchk : Au (Env.ofS P l m) keys N d T) {nv : Nat} {args : List AV} {pre : List (Option Aq)} {facts : List (SB × Bool)} (hp0 : d.pts[0]? = some (Ak (Env.of P) d.f nv args pre facts)) (hent : (Bi (Env.of P) d.f args .normal).isSome = true) :
  Ag (Env.ofS P l (d.smL args (Ak (Env.of P) d.f nv args pre facts) 0 d.shs ++ m)) G := by
 have key : ∀ (shs : List Sh) (s0 : Nat), (∀ (i : Nat) sh, shs[i]? = some sh → d.shs[s0 + i]? = some sh) → ∀ x ∈ d.smL args (Ak (Env.of P) d.f nv args pre facts) s0 shs, x.Valid P G := by
  intro shs
  induction shs with
  | nil => intro s0 _ x hx; cases hx
  | cons sh r ih =>
   intro s0 hs x hx;rcases List.mem_cons.1 hx with q | q
   ·subst q;exact Dec.sm_ok (E := Env.ofS P l m) hE hO hg hchk.chk hp0 hent (hs 0 sh rfl)
   ·exact ih (s0 + 1) (fun i sh' hi => by have := hs (i + 1) sh' (by simpa using hi); rwa [show s0 + (i + 1) = s0 + 1 + i by omega] at this) x q
 refine ⟨hO.orc, fun x hx => ?_⟩
 rcases List.mem_append.1 hx with q | q
 ·exact key d.shs 0 (fun i sh hi => by rw [Nat.zero_add]; exact hi) x q
 ·exact hO.sms x q
abbrev iV (n : Nat) : AV := .si .i64 (.var n)
abbrev sV (n : Nat) : AV := .ss (.var n)
abbrev bV (n : Nat) : AV := .sb true (.var n)
abbrev dV (e : TypeId) (n : Nat) : AV := .dat e (.var n)
abbrev aV (b es n m : Nat) : AV := .asl b es (.lenL (.var n)) (.var m)
abbrev tO (l : List (Nat × AV)) : Option Aq := some (.cells l.length (Af l))
abbrev rV (e : TypeId) (n : Nat) : Option Aq := some (.arr e (.var n))
class Pg (p : outParam Program) (l : outParam (List Orc)) : Prop where
 it : True
abbrev E0 {p : Program} {l : List Orc} [Pg p l] : Env := Env.of p
abbrev EF {p : Program} {l : List Orc} [Pg p l] (m : Env → List Sm) : Env := Env.ofS p l (m E0)
def rl : List SE → SE
 | [] => .rnil
 | x :: r => .rcons x (rl r)
def us : Nat → Nat → List SE
 | _, 0 => []
 | a, n + 1 => .var a :: us (a + 1) n
section
variable {E : Env} {keys : List Nat} {N : Nat} {d : Dec} {T : List (Tr Plf)}
theorem dkN {n : Nat} (h : d.pts.length = n) (H : ∀ i, i < n → ∃ l, Ai E keys N d T i = some (jl d l)) : Au E keys N d T := fun i pt hp => H i (by
 rcases Nat.lt_or_ge i n with q | q
 ·exact q
 ·rw [List.getElem?_eq_none (by omega)] at hp
  cases hp)
theorem dk1 {x0 : List Nat} (h : d.pts.length = 1) (h0 : Ai E keys N d T 0 = some (jl d x0)) : Au E keys N d T := dkN h fun i hi => match i, hi with
 | 0, _ => ⟨_, h0⟩
 | i + 1, hi => absurd hi (by omega)
theorem dk2 {x0 x1 : List Nat} (h : d.pts.length = 2) (h0 : Ai E keys N d T 0 = some (jl d x0)) (h1 : Ai E keys N d T 1 = some (jl d x1)) : Au E keys N d T := dkN h fun i hi => match i, hi with
 | 0, _ => ⟨_, h0⟩
 | 1, _ => ⟨_, h1⟩
 | i + 2, hi => absurd hi (by omega)
theorem dk3 {x0 x1 x2 : List Nat} (h : d.pts.length = 3) (h0 : Ai E keys N d T 0 = some (jl d x0)) (h1 : Ai E keys N d T 1 = some (jl d x1)) (h2 : Ai E keys N d T 2 = some (jl d x2)) : Au E keys N d T := dkN h fun i hi => match i, hi with
 | 0, _ => ⟨_, h0⟩
 | 1, _ => ⟨_, h1⟩
 | 2, _ => ⟨_, h2⟩
 | i + 3, hi => absurd hi (by omega)
theorem dk4 {x0 x1 x2 x3 : List Nat} (h : d.pts.length = 4) (h0 : Ai E keys N d T 0 = some (jl d x0)) (h1 : Ai E keys N d T 1 = some (jl d x1)) (h2 : Ai E keys N d T 2 = some (jl d x2)) (h3 : Ai E keys N d T 3 = some (jl d x3)) : Au E keys N d T := dkN h fun i hi => match i, hi with
 | 0, _ => ⟨_, h0⟩
 | 1, _ => ⟨_, h1⟩
 | 2, _ => ⟨_, h2⟩
 | 3, _ => ⟨_, h3⟩
 | i + 4, hi => absurd hi (by omega)
end
end Go.AE

