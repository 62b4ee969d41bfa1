/- What is proved here: an evaluator of the model's steps that the kernel can run, and that whatever it answers is what the model does (part 5 of 6: AePat1, AePat2, AePat3, AeSum, AeRng, AeEval, AeTail, AeRun3, AeOrc, AeRun4, AeOK). Conditions: those that each theorem states; they hold of no one program. -/
import Derived.Test.YtpcdkfgmpekeeaaBeD
import Derived.Eval
import Derived.KernelRfl
set_option linter.unusedVariables false
set_option linter.unusedSectionVars false
set_option linter.unusedSimpArgs false
namespace Go.AE
def SE.inst (θ : List SE) : SE → SE
 | .c n => .c n
 | .var i => θ.getD i (.var i)
 | .lenS a => .lenS (a.inst θ)
 | .lenL a => .lenL (a.inst θ)
 | .arith op k a b => .arith op k (a.inst θ) (b.inst θ)
 | .conv k a => .conv k (a.inst θ)
 | .lss a b => .lss (a.inst θ) (b.inst θ)
 | .eql a b => .eql (a.inst θ) (b.inst θ)
 | .eqS a l b => .eqS (a.inst θ) l b
 | .eqSS a b => .eqSS (a.inst θ) (b.inst θ)
 | .isNil a => .isNil (a.inst θ)
 | .bc b => .bc b
 | .neg a => .neg (a.inst θ)
 | .and a b => .and (a.inst θ) (b.inst θ)
 | .nilIs a b => .nilIs (a.inst θ) (b.inst θ)
 | .strc l b => .strc l b
 | .strAt a i => .strAt (a.inst θ) (i.inst θ)
 | .strCat a b => .strCat (a.inst θ) (b.inst θ)
 | .strSub a lo hi => .strSub (a.inst θ) (lo.inst θ) (hi.inst θ)
 | .cell a i j => .cell (a.inst θ) (i.inst θ) j
 | .sel a j => .sel (a.inst θ) j
 | .nilL => .nilL
 | .emptyL => .emptyL
 | .snoc a r => .snoc (a.inst θ) (r.inst θ)
 | .upd a i j x => .upd (a.inst θ) (i.inst θ) j (x.inst θ)
 | .rep n r => .rep (n.inst θ) (r.inst θ)
 | .cat a b => .cat (a.inst θ) (b.inst θ)
 | .sub a lo hi => .sub (a.inst θ) (lo.inst θ) (hi.inst θ)
 | .rnil => .rnil
 | .rcons x r => .rcons (x.inst θ) (r.inst θ)
 | .app f x => .app f (x.inst θ)
 | .bytes a => .bytes (a.inst θ)
 | .ofBytes a => .ofBytes (a.inst θ)
 | .mIdx ks a k => .mIdx ks (a.inst θ) (k.inst θ)
 | .rmv a i => .rmv (a.inst θ) (i.inst θ)
def Val.inst (V : Val) (θ : List SE) : Val := { d := fun i => Ab V (θ.getD i (.var i)), fn := V.fn }
theorem BP (V : Val) (θ : List SE) : ∀ e : SE, Ab V (e.inst θ) = Ab (V.inst θ) e := by
 intro e
 induction e <;> simp_all only [SE.inst, Ab, Val.inst] <;> rfl
theorem Mq (V : Val) (θ : List SE) (e : SE) : Ac V (e.inst θ) = Ac (V.inst θ) e := by unfold Ac; rw [BP]
theorem Gb (V : Val) (θ : List SE) (e : SE) : Ad V (e.inst θ) = Ad (V.inst θ) e := by unfold Ad; rw [BP]
abbrev Obs := List (SE × SE)
def Jq (a b : SE) : Option Obs := match a.same b with
 | true => some []
 | false => match a.norm.same b.norm with
  | true => some []
  | false => some [(a, b)]
def D3 (a b : SE) : Option Obs := match a.same b with
 | true => some []
 | false => match a.norm.same b.norm with
  | true => some []
  | false => some [(.and a (.bc true), .and b (.bc true))]
def Gz (a b : SE) : Option Obs := match a.same b with
 | true => some []
 | false => match a.norm.same b.norm with
  | true => some []
  | false => some [(.eql a b, .bc true)]
def Obs.holds (V : Val) (o : Obs) : Prop := ∀ a b, (a, b) ∈ o → Ab V a = Ab V b
def DA (a b : Option Obs) : Option Obs := match a, b with
 | some x, some y => some (x ++ y)
 | _, _ => none
def D1 (c : Bool) (o : Option Obs) : Option Obs := match c with
 | true => o
 | false => none
def toB (β : List Nat) (b c : Nat) : Bool := match β[b]? with
 | some d => Nat.beq d c
 | none => false
def Yq (β : List Nat) : Fn → Fn → Bool
 | .func f, .func g => Nat.beq f g
 | .yield l, .yield m => toB β l m
 | _, _ => false
mutual
def CN (θ : List SE) (β : List Nat) : AV → AV → Option Obs
 | .top, _ => some []
 | .bool a, .bool b => D1 (a == b) (some [])
 | .int k a, .int k' b => D1 (decide (k = k') && a == b) (some [])
 | .str l a, .str l' b => D1 (Nat.beq l l' && Nat.beq a b) (some [])
 | .ptr0, .ptr0 => some []
 | .ptr b o, .ptr b' o' => D1 (toB β b b' && Nat.beq o o') (some [])
 | .slice0, .slice0 => some []
 | .slice b o n es, .slice b' o' n' es' => D1 (toB β b b' && Nat.beq o o' && Nat.beq n n' && Nat.beq es es') (some [])
 | .map0, .map0 => some []
 | .map b, .map b' => D1 (toB β b b') (some [])
 | .func fn f c, .func fn' f' c' => D1 (Yq β fn fn') (DA (Ho θ β f f') (Ho θ β c c'))
 | .nilFunc, .nilFunc => some []
 | .iface t v, .iface t' v' => D1 (Nat.beq t t') (CN θ β v v')
 | .nilIface, .nilIface => some []
 | .agg l, .agg l' => Ho θ β l l'
 | .tuple l, .tuple l' => Ho θ β l l'
 | .sb p e, .sb p' e' => match p == p' with
  | true => D3 (e.inst θ) e'
  | false => D3 (e.inst θ) (.neg e')
 | .sb p e, .bool b => D3 (e.inst θ) (.bc (b == p))
 | .si k e, .si k' e' => D1 (decide (k = k')) (Gz (e.inst θ) e')
 | .si k e, .int k' n => D1 (decide (k = k')) (Gz (e.inst θ) (.c n))
 | .ss x, .ss x' => Jq (x.inst θ) x'
 | .ss x, .str l b => Jq (x.inst θ) (.strc l b)
 | .dat e x, .dat e' x' => D1 (Nat.beq e e') (Jq (x.inst θ) x')
 | .dat e x, .slice0 => Jq (x.inst θ) .nilL
 | .asl b es n nl, .asl b' es' n' nl' => D1 (toB β b b' && Nat.beq es es') (DA (Gz (n.inst θ) n') (D3 (nl.inst θ) nl'))
 | .asl b es n nl, .slice b' o' n' es' => D1 (toB β b b' && Nat.beq o' 0 && Nat.beq es es') (DA (Gz (n.inst θ) (.c n')) (D3 (nl.inst θ) (.bc false)))
 | .asl b es n nl, .slice0 => DA (Gz (n.inst θ) (.c 0)) (D3 (nl.inst θ) (.bc true))
 | .asl b es n nl, .eslc nl' => DA (Gz (n.inst θ) (.c 0)) (D3 (nl.inst θ) nl')
 | .eslc nl, .eslc nl' => D3 (nl.inst θ) nl'
 | .eslc nl, .slice0 => D3 (nl.inst θ) (.bc true)
 | _, _ => none
termination_by structural a => a
def Ho (θ : List SE) (β : List Nat) : List AV → List AV → Option Obs
 | [], [] => some []
 | a :: l, b :: m => DA (CN θ β a b) (Ho θ β l m)
 | _, _ => none
termination_by structural l => l
end
@[reducible] def Bz : Unk := { facts := [], V := ⟨fun _ => default, fun _ d => d⟩, K := fun _ => none, R := [], hR := fun _ _ _ _ _ h => (by cases h), ok := by simp }
theorem Obs.append {V : Val} {a b : Obs} (h : Obs.holds V (a ++ b)) : Obs.holds V a ∧ Obs.holds V b :=
 ⟨fun x y hm => h x y (by simp [hm]), fun x y hm => h x y (by simp [hm])⟩
theorem Gf {V : Val} {a b : SE} {o : Obs} (h : Jq a b = some o) (ho : o.holds V) : Ab V a = Ab V b := by
 unfold Jq at h;split at h
 ·rename_i hs; rw [SE.same_ok (U := Bz) hs]
 ·split at h
  ·rename_i hs;have := congrArg (Ab V) (SE.same_ok (U := Bz) hs)
   rwa [Cb, Cb] at this
  ·cases h; exact ho a b (by simp)
theorem Oi {V : Val} {a b : SE} {o : Obs} (h : Gz a b = some o) (ho : o.holds V) : Ac V a = Ac V b := by
 unfold Gz at h;split at h
 ·rename_i hs; rw [SE.same_ok (U := Bz) hs]
 ·split at h
  ·rename_i hs;have := congrArg (Ab V) (SE.same_ok (U := Bz) hs);rw [Cb, Cb] at this;unfold Ac; rw [this]
  ·cases h;have := ho (.eql a b) (.bc true) (by simp)
   simp only [Ab, D.bool.injEq] at this;exact eq_of_beq this
theorem KA {V : Val} {a b : SE} {o : Obs} (h : D3 a b = some o) (ho : o.holds V) : Ad V a = Ad V b := by
 unfold D3 at h;split at h
 ·rename_i hs; rw [SE.same_ok (U := Bz) hs]
 ·split at h
  ·rename_i hs;have := congrArg (Ab V) (SE.same_ok (U := Bz) hs);rw [Cb, Cb] at this;unfold Ad; rw [this]
  ·cases h;have := ho (.and a (.bc true)) (.and b (.bc true)) (by simp)
   simp only [Ab, D.bool.injEq, D.toBool, Bool.and_true] at this;exact this
theorem BC {a b : Option Obs} {o : Obs} (h : DA a b = some o) : ∃ x y, a = some x ∧ b = some y ∧ o = x ++ y := by
 unfold DA at h;split at h
 ·cases h; exact ⟨_, _, rfl, rfl, rfl⟩
 ·cases h
theorem A5 {c : Bool} {a : Option Obs} {o : Obs} (h : D1 c a = some o) : c = true ∧ a = some o := by
 cases c with
 | true => exact ⟨rfl, h⟩
 | false => cases h
def Ren.back (ρ : Ren) (β : List Nat) : Ren := ⟨fun b => (β[b]?).bind ρ.m, ρ.imm⟩
theorem Fv {β : List Nat} {b c : Nat} (h : toB β b c = true) (ρ : Ren) : (ρ.back β).m b = ρ c := by
 unfold toB at h;split at h
 ·rename_i d hd;rw [AA h] at hd;simp [Ren.back, hd]
 ·cases h
section
variable {U W : Unk} {θ : List SE} (hV : W.V = U.V.inst θ) (hK : W.K = U.K) {β : List Nat} {ρ : Ren}
include hV hK
theorem Wx {f g : Fn} {g' : Fn} (h : Yq β f g = true) (hg : FnR ρ g g') : FnR (ρ.back β) f g' := by
 cases f <;> cases g <;> simp only [Yq, Bool.false_eq_true] at h
 ·rw [AA h]; exact hg
 ·obtain ⟨base, h1, h2⟩ := hg;exact ⟨base, by rw [Fv h]; exact h1, h2⟩
mutual
theorem Ga : ∀ (a b : AV) (o : Obs) (v : Value), CN θ β a b = some o → o.holds U.V → @VR U.toVals ρ b v → @VR W.toVals (ρ.back β) a v
 | .top, _, _, v, _, _, _ => @VR.top W.toVals _ v
 | .bool a, b, o, v, h, ho, hv => by
  cases b <;> simp only [CN, reduceCtorEq] at h
  obtain ⟨h1, _⟩ := A5 h;cases hv;have := eq_of_beq h1;subst this;exact @VR.bool W.toVals _ _
 | .int k a, b, o, v, h, ho, hv => by
  cases b <;> simp only [CN, reduceCtorEq] at h
  obtain ⟨h1, _⟩ := A5 h;cases hv;simp only [Bool.and_eq_true, decide_eq_true_eq, beq_iff_eq] at h1;obtain ⟨rfl, rfl⟩ := h1;exact @VR.int W.toVals _ _ _
 | .str l a, b, o, v, h, ho, hv => by
  cases b <;> simp only [CN, reduceCtorEq] at h
  obtain ⟨h1, _⟩ := A5 h;obtain ⟨h2, h3⟩ := Av h1;rw [AA h2, AA h3];cases hv;exact @VR.str W.toVals _ _
 | .ptr0, b, o, v, h, ho, hv => by
  cases b <;> simp only [CN, reduceCtorEq] at h
  cases hv;exact @VR.ptr0 W.toVals _
 | .ptr b off, x, o, v, h, ho, hv => by
  cases x <;> simp only [CN, reduceCtorEq] at h
  obtain ⟨h1, _⟩ := A5 h;obtain ⟨h2, h3⟩ := Av h1;cases hv with
  | ptr _ _ base hb =>
   rw [AA h3];exact @VR.ptr W.toVals _ _ _ base (by rw [Fv h2]; exact hb)
 | .slice0, b, o, v, h, ho, hv => by
  cases b <;> simp only [CN, reduceCtorEq] at h
  cases hv;exact @VR.slice0 W.toVals _
 | .slice b off n es, x, o, v, h, ho, hv => by
  cases x <;> simp only [CN, reduceCtorEq] at h
  obtain ⟨h1, _⟩ := A5 h;obtain ⟨h2, h3⟩ := Av h1;obtain ⟨h4, h5⟩ := Av h2;obtain ⟨h6, h7⟩ := Av h4;rw [AA h3, AA h5, AA h7];cases hv with
  | slice _ _ _ _ cap base hb hc hz => exact @VR.slice W.toVals _ _ _ _ _ cap base (by rw [Fv h6]; exact hb) hc hz
  | sliceEnd _ _ _ a => exact @VR.sliceEnd W.toVals _ _ _ _ a
 | .map0, b, o, v, h, ho, hv => by
  cases b <;> simp only [CN, reduceCtorEq] at h
  cases hv;exact @VR.map0 W.toVals _
 | .map b, x, o, v, h, ho, hv => by
  cases x <;> simp only [CN, reduceCtorEq] at h
  obtain ⟨h1, _⟩ := A5 h;cases hv with
  | map _ base hb => exact @VR.map W.toVals _ _ base (by rw [Fv h1]; exact hb)
 | .func fn f c, x, o, v, h, ho, hv => by
  cases x <;> simp only [CN, reduceCtorEq] at h
  obtain ⟨h1, h2⟩ := A5 h;obtain ⟨o1, o2, h3, h4, rfl⟩ := BC h2;obtain ⟨ho1, ho2⟩ := Obs.append ho;cases hv with
  | func _ fn' _ _ f' c' r1 r2 r3 r4 r5 =>
   have q1 := ES f _ o1 f' h3 ho1 ⟨r2, r3⟩;have q2 := ES c _ o2 c' h4 ho2 ⟨r4, r5⟩;exact @VR.func W.toVals _ fn fn' f c f' c' (Wx hV hK h1 r1) q1.1 q1.2 q2.1 q2.2
 | .nilFunc, b, o, v, h, ho, hv => by
  cases b <;> simp only [CN, reduceCtorEq] at h
  cases hv;exact @VR.nilFunc W.toVals _
 | .iface t a, x, o, v, h, ho, hv => by
  cases x <;> simp only [CN, reduceCtorEq] at h
  obtain ⟨h1, h2⟩ := A5 h;rw [AA h1];cases hv with
  | iface _ _ v' hv' => exact @VR.iface W.toVals _ _ a v' (Ga a _ o v' h2 ho hv')
 | .nilIface, b, o, v, h, ho, hv => by
  cases b <;> simp only [CN, reduceCtorEq] at h
  cases hv;exact @VR.nilIface W.toVals _
 | .agg l, x, o, v, h, ho, hv => by
  cases x <;> simp only [CN, reduceCtorEq] at h
  cases hv with
  | agg _ l' r1 r2 =>
   have q := ES l _ o l' h ho ⟨r1, r2⟩;exact @VR.agg W.toVals _ l l' q.1 q.2
 | .tuple l, x, o, v, h, ho, hv => by
  cases x <;> simp only [CN, reduceCtorEq] at h
  cases hv with
  | tuple _ l' r1 r2 =>
   have q := ES l _ o l' h ho ⟨r1, r2⟩;exact @VR.tuple W.toVals _ l l' q.1 q.2
 | .sb p e, x, o, v, h, ho, hv => by
  have key : ∀ {e' : SE}, D3 (e.inst θ) e' = some o → Ad W.V e = Ad U.V e' := by
   intro e' hq;rw [hV, ← Gb];exact KA hq ho
  cases x <;> simp only [CN, reduceCtorEq] at h
  ·have := key h;cases hv;rename_i b;have q := @VR.sb W.toVals (ρ.back β) p e;rw [this] at q;have e1 : ((Ad U.V (.bc (b == p))) == p) = b := by show ((b == p) == p) = b; cases b <;> cases p <;> rfl
   rw [e1] at q;exact q
  ·split at h
   ·rename_i h1;have := key h;cases hv;have hp := eq_of_beq h1;subst hp;rw [← this];exact @VR.sb W.toVals _ p e
   ·rename_i p' e' _ h1;have := key h;cases hv;have q := @VR.sb W.toVals (ρ.back β) p e;rw [this] at q
    have e1 : (Ad U.V (.neg e') == p) = (Ad U.V e' == p') := by
     show ((!(Ad U.V e')) == p) = _;cases p <;> cases p' <;> cases Ad U.V e' <;> first | rfl | (simp at h1)
    rw [e1] at q;exact q
 | .si k e, x, o, v, h, ho, hv => by
  have key : ∀ {e' : SE}, Gz (e.inst θ) e' = some o → Ac W.V e = Ac U.V e' := by
   intro e' hq;rw [hV, ← Mq];exact Oi hq ho
  cases x <;> simp only [CN, reduceCtorEq] at h
  ·obtain ⟨h1, h2⟩ := A5 h;have := key h2;cases hv;have hp := of_decide_eq_true h1;subst hp;have q := @VR.si W.toVals (ρ.back β) k e;rw [this, BA] at q;exact q
  ·obtain ⟨h1, h2⟩ := A5 h;have := key h2;cases hv;have hp := of_decide_eq_true h1;subst hp;rw [← this];exact @VR.si W.toVals _ k e
 | .ss e, x, o, v, h, ho, hv => by
  have key : ∀ {e' : SE}, Jq (e.inst θ) e' = some o → AM W.V e = AM U.V e' := by
   intro e' hq;unfold AM; rw [hV, ← BP, Gf hq ho]
  cases x <;> simp only [CN, reduceCtorEq] at h
  ·have := key h;cases hv;rename_i s;have q := @VR.ss W.toVals (ρ.back β) e;rw [this] at q
   have e1 : AM U.V (.strc s.data.toList.length (AC s.data.toList)) = s := by
    show (⟨(CQ _ _).toArray⟩ : ByteArray) = s;rw [DD (U := U)]
   rw [e1] at q;exact q
  ·have := key h;cases hv;rw [← this];exact @VR.ss W.toVals _ e
 | .dat t e, x, o, v, h, ho, hv => by
  have key : ∀ {e' : SE}, Jq (e.inst θ) e' = some o → Ab W.V e = Ab U.V e' := by
   intro e' hq;rw [hV, ← BP, Gf hq ho]
  cases x <;> simp only [CN, reduceCtorEq] at h
  ·have := key h;cases hv;exact @VR.dat W.toVals _ t e _ _ _ (by rw [this]; exact .nil t _ rfl rfl)
  ·obtain ⟨h1, h2⟩ := A5 h;have := key h2;rw [AA h1];cases hv with
   | dat _ _ a n c hd => exact @VR.dat W.toVals _ _ e a n c (by rw [this, hK]; exact hd)
 | .dptr _ _ _ _, x, o, v, h, ho, hv => by cases x <;> simp only [CN, reduceCtorEq] at h
 | .asl b es n nl, x, o, v, h, ho, hv => by
  have keyI : ∀ {a b : SE} {o : Obs}, Gz (a.inst θ) b = some o → o.holds U.V → Ac W.V a = Ac U.V b := by
   intro a b o hq ho;rw [hV, ← Mq];exact Oi hq ho
  have keyB : ∀ {a b : SE} {o : Obs}, D3 (a.inst θ) b = some o → o.holds U.V → Ad W.V a = Ad U.V b := by
   intro a b o hq ho;rw [hV, ← Gb];exact KA hq ho
  cases x <;> simp only [CN, reduceCtorEq] at h
  ·
   obtain ⟨o1, o2, h3, h4, rfl⟩ := BC h;obtain ⟨ho1, ho2⟩ := Obs.append ho;have k1 := keyI h3 ho1;have k2 := keyB h4 ho2;cases hv;exact @VR.aslEnd W.toVals _ b es n nl none (by rw [k1]; rfl) (by rw [k2]; rfl)
  ·
   rename_i b' o' n' es';obtain ⟨h1, h2⟩ := A5 h;obtain ⟨h5, h6⟩ := Av h1;obtain ⟨h7, h8⟩ := Av h5;obtain ⟨o1, o2, h3, h4, rfl⟩ := BC h2;obtain ⟨ho1, ho2⟩ := Obs.append ho;have k1 := keyI h3 ho1;have k2 := keyB h4 ho2;have e1 : Ac W.V n = n' := by rw [k1]; rfl
   have e2 : Ad W.V nl = false := by rw [k2]; rfl
   have e3 := AA h8;have e4 := AA h6;subst e3; subst e4;cases hv with
   | slice _ _ _ _ cap base hb hc hz =>
    have q := @VR.asl W.toVals (ρ.back β) b es n nl cap base (by rw [Fv h7]; exact hb) (by rw [e1]; exact Int.natCast_nonneg _) (by rw [e1]; simpa using hc) (by simpa using hz) e2
    rw [e1] at q;simpa using q
   | sliceEnd _ _ _ a => exact @VR.aslEnd W.toVals _ b es n nl (some a) (by rw [e1]; rfl) (by rw [e2]; rfl)
  ·
   rename_i b' es' n' nl';obtain ⟨h1, h2⟩ := A5 h;obtain ⟨h7, h6⟩ := Av h1;obtain ⟨o1, o2, h3, h4, rfl⟩ := BC h2;obtain ⟨ho1, ho2⟩ := Obs.append ho;have k1 := keyI h3 ho1;have k2 := keyB h4 ho2;have e1 : Ac W.V n = Ac U.V n' := k1;have e2 : Ad W.V nl = Ad U.V nl' := k2;have e4 := AA h6;subst e4;cases hv with
   | asl _ _ _ _ cap base hb h0 hc hz hn =>
    rw [← e1];exact @VR.asl W.toVals _ b es n nl cap base (by rw [Fv h7]; exact hb) (by rw [e1]; exact h0) (by rw [e1]; exact hc) hz (by rw [e2]; exact hn)
   | aslEnd _ _ _ _ a h0 hn => exact @VR.aslEnd W.toVals _ b es n nl a (by rw [e1]; exact h0) (by rw [e2]; exact hn)
  ·
   obtain ⟨o1, o2, h3, h4, rfl⟩ := BC h;obtain ⟨ho1, ho2⟩ := Obs.append ho;have k1 := keyI h3 ho1;have k2 := keyB h4 ho2;cases hv with
   | eslc _ a hn => exact @VR.aslEnd W.toVals _ b es n nl a (by rw [k1]; rfl) (by rw [hn]; exact k2.symm)
 | .eslc nl, x, o, v, h, ho, hv => by
  have key : ∀ {b : SE}, D3 (nl.inst θ) b = some o → Ad W.V nl = Ad U.V b := by
   intro b hq;rw [hV, ← Gb];exact KA hq ho
  cases x <;> simp only [CN, reduceCtorEq] at h
  ·have := key h;cases hv;exact @VR.eslc W.toVals _ nl none (by rw [this]; rfl)
  ·have := key h;cases hv with
   | eslc _ a hn => exact @VR.eslc W.toVals _ nl a (by rw [hn, this])
 | .aptr _ _ _ _, x, o, v, h, ho, hv => by cases x <;> simp only [CN, reduceCtorEq] at h
theorem ES : ∀ (a b : List AV) (o : Obs) (vs : List Value), Ho θ β a b = some o → o.holds U.V → @VL U.toVals ρ b vs → @VL W.toVals (ρ.back β) a vs
 | [], b, o, vs, h, ho, hv => by
  cases b with
  | nil => have := VL.nil_inv (U := U.toVals) hv; subst this; exact VL.nil (U := W.toVals) _
  | cons => cases h
 | a :: l, b, o, vs, h, ho, hv => by
  cases b with
  | nil => cases h
  | cons b m =>
   simp only [Ho] at h;obtain ⟨o1, o2, h1, h2, rfl⟩ := BC h;obtain ⟨ho1, ho2⟩ := Obs.append ho;obtain ⟨v, r, rfl, q1, q2⟩ := VL.cons_inv (U := U.toVals) hv;exact VL.cons (U := W.toVals) (Ga a b o1 v h1 ho1 q1) (ES l m o2 r h2 ho2 q2)
end
end
end Go.AE
namespace Go.AE
def bB (θ : List SE) (β : List Nat) : Option AV → Option AV → Option Obs
 | none, _ => some []
 | some a, some b => CN θ β a b
 | some _, none => none
def leT (θ : List SE) (β : List Nat) : T AV → T AV → Option Obs
 | .nil, _ => some []
 | .node v l r, .node v' l' r' => DA (bB θ β v v') (DA (leT θ β l l') (leT θ β r r'))
 | .node _ _ _, .nil => none
def VU (θ : List SE) (β : List Nat) : List AO → List AO → Option Obs
 | [], [] => some []
 | a :: l, b :: m => D1 (Nat.beq a.born b.born) (DA (CN θ β a.key b.key) (DA (CN θ β a.val b.val) (VU θ β l m)))
 | _, _ => none
def cj : LoopState → LoopState → Bool
 | .ready, .ready => true
 | .busy, .busy => true
 | .done, .done => true
 | .exhausted, .exhausted => true
 | _, _ => false
theorem WH {a b : LoopState} (h : cj a b = true) : a = b := by cases a <;> cases b <;> first | rfl | (cases h; done)
def OP [Facts] (E : Env) (θ : List SE) (β : List Nat) : Aj → Aj → Option Obs
 | .cells n c, .cells n' c' => D1 (Nat.beq n n') (leT θ β c c')
 | .arr e x, .arr e' x' => D1 (Nat.beq e e') (Jq (x.inst θ) x')
 | .arr e x, .cells n c => match E.kinds e with
  | some ks => match Nat.beq (n / ks.length * ks.length) n, c.range 0 n with
   | true, some l => match Dv ks (n / ks.length) .emptyL l with
    | some y => Jq (x.inst θ) y
    | none => none
   | _, _ => none
  | none => none
 | .map es k, .map es' k' => D1 (Nat.beq k k') (VU θ β es es')
 | .dmap k v x, .dmap k' v' x' => D1 (Nat.beq k k' && Nat.beq v v') (Jq (x.inst θ) x')
 | .dmap k v x, .map es _ => match E.kinds k, E.kinds v with
  | some kks, some vks => match Le kks vks .emptyL es with
   | some y => Jq (x.inst θ) y
   | none => none
  | _, _ => none
 | .deferred none, .deferred none => some []
 | .deferred (some []), .deferred (some []) => some []
 | .loop st pending fn nt tmps params assign body d, .loop st' pending' fn' nt' tmps' params' assign' body' d' =>
  D1 (cj st st' && N9 CO pending pending' && Nat.beq fn fn' && Nat.beq nt nt' && Kj Nat.beq params params' && toB β d d') (D1 (CO assign assign' && CO body body') (leT θ β tmps tmps'))
 | _, _ => none
def Y5 [Facts] (E : Env) (θ : List SE) (β : List Nat) : Option Aj → Option Aj → Option Obs
 | none, _ => some []
 | some x, some y => OP E θ β x y
 | some _, none => none
def Ef [Facts] (E : Env) (θ : List SE) (β : List Nat) (h : Aa) : List (Option Aj) → List Nat → Option Obs
 | [], [] => some []
 | o :: r, b :: bs => DA (Y5 E θ β o (h.blk.get b)) (Ef E θ β h r bs)
 | _, _ => none
def EW : List Nat → Bool
 | [] => true
 | b :: r => !KX b r && EW r
def BW : List (Option Aj) → Nat → T Aj → T Aj
 | [], _, t => t
 | some x :: r, i, t => BW r (i + 1) (t.set i x)
 | none :: r, i, t => BW r (i + 1) t
def A2 (l : List (Option Aj)) : T Aj := BW l 0 .nil
theorem KI : ∀ (l : List (Option Aj)) (i : Nat) (t : T Aj) (j : Nat), (∀ q, i ≤ q → t.get q = none) → (BW l i t).get j = if i ≤ j then (l[j - i]?).join else t.get j := by
 intro l
 induction l with
 | nil =>
  intro i t j ht;simp only [BW];by_cases h : i ≤ j
  ·rw [if_pos h, ht j h]; rfl
  ·rw [if_neg h]
 | cons o r ih =>
  intro i t j ht
  have key : ∀ t', (∀ q, i + 1 ≤ q → t'.get q = none) → t'.get i = o → (∀ q, q < i → t'.get q = t.get q) → (BW r (i + 1) t').get j = if i ≤ j then ((o :: r)[j - i]?).join else t.get j := by
   intro t' h1 h2 h3;rw [ih (i + 1) t' j h1];by_cases c1 : i + 1 ≤ j
   ·rw [if_pos c1, if_pos (by omega), show j - i = (j - (i + 1)) + 1 by omega, List.getElem?_cons_succ]
   ·rw [if_neg c1];by_cases c2 : i = j
    ·subst c2; rw [if_pos (Nat.le_refl _), h2]; simp
    ·rw [if_neg (by omega), h3 j (by omega)]
  cases o with
  | some x =>
   simp only [BW];refine key _ (fun q hq => ?_) ?_ (fun q hq => ?_)
   ·rw [T.get_set, if_neg (by omega), ht q (by omega)]
   ·rw [T.get_set, if_pos rfl]
   ·rw [T.get_set, if_neg (by omega)]
  | none =>
   simp only [BW];exact key _ (fun q hq => ht q (by omega)) (ht i (Nat.le_refl _)) (fun q hq => rfl)
theorem BY (l : List (Option Aj)) (j : Nat) : (A2 l).get j = (l[j]?).join := by
 rw [A2, KI _ _ _ _ (fun q _ => rfl), if_pos (Nat.zero_le _)]; simp
theorem FM {b : Nat} : ∀ {l : List Nat}, b ∈ l → KX b l = true
 | c :: r, h => by
  simp only [KX, Bool.or_eq_true];rcases List.mem_cons.1 h with rfl | h
  ·exact .inl (Ey b)
  ·exact .inr (FM h)
def En (b : Nat) : List (Option Aj) → List Nat → Bool
 | some _ :: r, c :: bs => Nat.beq b c || En b r bs
 | none :: r, _ :: bs => En b r bs
 | _, _ => false
def Fd : List (Option Aj) → List Nat → Bool
 | some _ :: r, b :: bs => !En b r bs && Fd r bs
 | none :: r, _ :: bs => Fd r bs
 | _, _ => true
theorem Ge {b : Nat} : ∀ {l : List (Option Aj)} {bs : List Nat}, En b l bs = false → ∀ {j : Nat} {x : Aj}, l[j]? = some (some x) → bs[j]? = some b → False
 | [], _, _, j, x, h1, _ => by simp at h1
 | _ :: _, [], _, j, x, _, h2 => by simp at h2
 | some y :: r, c :: bs, h, j, x, h1, h2 => by
  simp only [En, Bool.or_eq_false_iff] at h;cases j with
  | zero => simp only [List.getElem?_cons_zero, Option.some.injEq] at h2; subst h2; rw [Nat.beq_refl] at h; exact absurd h.1 (by simp)
  | succ j => exact Ge h.2 (by simpa using h1) (by simpa using h2)
 | none :: r, c :: bs, h, j, x, h1, h2 => by
  simp only [En] at h;cases j with
  | zero => simp at h1
  | succ j => exact Ge h (by simpa using h1) (by simpa using h2)
theorem Ia : ∀ {l : List (Option Aj)} {bs : List Nat}, Fd l bs = true → ∀ {i j b : Nat} {x y : Aj}, l[i]? = some (some x) → l[j]? = some (some y) → bs[i]? = some b → bs[j]? = some b → i = j
 | [], _, _, i, j, b, x, y, h1, _, _, _ => by simp at h1
 | _ :: _, [], _, i, j, b, x, y, _, _, h3, _ => by simp at h3
 | none :: r, c :: bs, h, i, j, b, x, y, h1, h2, h3, h4 => by
  simp only [Fd] at h;cases i with
  | zero => simp at h1
  | succ i =>
   cases j with
   | zero => simp at h2
   | succ j => exact congrArg (· + 1) (Ia h (i := i) (j := j) (b := b) (x := x) (y := y) (by simpa using h1) (by simpa using h2) (by simpa using h3) (by simpa using h4))
 | some z :: r, c :: bs, h, i, j, b, x, y, h1, h2, h3, h4 => by
  simp only [Fd, Bool.and_eq_true, Bool.not_eq_true'] at h;cases i with
  | zero =>
   simp only [List.getElem?_cons_zero, Option.some.injEq] at h3;subst h3;cases j with
   | zero => rfl
   | succ j => exact (Ge h.1 (by simpa using h2) (by simpa using h4)).elim
  | succ i =>
   cases j with
   | zero =>
    simp only [List.getElem?_cons_zero, Option.some.injEq] at h4;subst h4;exact (Ge h.1 (by simpa using h1) (by simpa using h3)).elim
   | succ j => exact congrArg (· + 1) (Ia h.2 (i := i) (j := j) (b := b) (x := x) (y := y) (by simpa using h1) (by simpa using h2) (by simpa using h3) (by simpa using h4))
theorem LP : ∀ {l : List Nat}, EW l = true → ∀ {i j b : Nat}, l[i]? = some b → l[j]? = some b → i = j
 | [], _, i, j, b, h, _ => by simp at h
 | c :: r, h, i, j, b, hi, hj => by
  simp only [EW, Bool.and_eq_true, Bool.not_eq_true'] at h;cases i with
  | zero =>
   simp only [List.getElem?_cons_zero, Option.some.injEq] at hi;subst hi;cases j with
   | zero => rfl
   | succ j =>
    simp only [List.getElem?_cons_succ] at hj;rw [FM (List.mem_of_getElem? hj)] at h;cases h.1
  | succ i =>
   simp only [List.getElem?_cons_succ] at hi;cases j with
   | zero =>
    simp only [List.getElem?_cons_zero, Option.some.injEq] at hj;subst hj;rw [FM (List.mem_of_getElem? hi)] at h;cases h.1
   | succ j =>
    simp only [List.getElem?_cons_succ] at hj;rw [LP h.2 hi hj]
section
variable {U W : Unk} {θ : List SE} (hV : W.V = U.V.inst θ) (hK : W.K = U.K) {β : List Nat} {ρ : Ren} {E : Env}
include hV hK
theorem Wu {a b : Option AV} {o : Obs} (h : bB θ β a b = some o) (ho : o.holds U.V) {x : AV} (hx : a = some x) : ∃ y, b = some y ∧ ∀ v, @VR U.toVals ρ y v → @VR W.toVals (ρ.back β) x v := by
 subst hx;cases b with
 | none => cases h
 | some y => exact ⟨y, rfl, fun v hv => Ga hV hK x y o v h ho hv⟩
theorem K6 : ∀ (p a : T AV) (o : Obs), leT θ β p a = some o → o.holds U.V → ∀ i x, p.get i = some x → ∃ y, a.get i = some y ∧ ∀ v, @VR U.toVals ρ y v → @VR W.toVals (ρ.back β) x v
 | .nil, a, o, h, ho, i, x, hx => by simp [T.get] at hx
 | .node v l r, .nil, o, h, ho, i, x, hx => by cases h
 | .node v l r, .node v' l' r', o, h, ho, i, x, hx => by
  simp only [leT] at h;obtain ⟨o1, o2, h1, h2, rfl⟩ := BC h;obtain ⟨o3, o4, h3, h4, rfl⟩ := BC h2;obtain ⟨ho1, ho2⟩ := Obs.append ho;obtain ⟨ho3, ho4⟩ := Obs.append ho2;simp only [T.get] at hx ⊢;split at hx
  ·exact Wu hV hK h1 ho1 hx
  ·split at hx
   ·exact K6 l l' o3 h3 ho3 _ x hx
   ·exact K6 r r' o4 h4 ho4 _ x hx
theorem Rs : ∀ (p a : List AO) (o : Obs) (es : List MapEntry), VU θ β p a = some o → o.holds U.V → @ER U.toVals ρ a es → @ER W.toVals (ρ.back β) p es
 | [], [], o, es, h, ho, he => by cases es <;> simp_all [ER]
 | a :: l, b :: m, o, es, h, ho, he => by
  simp only [VU] at h;obtain ⟨hb, h⟩ := A5 h;obtain ⟨o1, o2, h1, h2, rfl⟩ := BC h;obtain ⟨o3, o4, h3, h4, rfl⟩ := BC h2;obtain ⟨ho1, ho2⟩ := Obs.append ho;obtain ⟨ho3, ho4⟩ := Obs.append ho2;cases es with
  | nil => simp [ER] at he
  | cons e r =>
   obtain ⟨q1, q2, q3, q4⟩ := he;exact ⟨Ga hV hK _ _ _ _ h1 ho1 q1, Ga hV hK _ _ _ _ h3 ho3 q2, by rw [q3, AA hb], Rs l m o4 r h4 ho4 q4⟩
 | [], _ :: _, o, es, h, _, _ => by cases h
 | _ :: _, [], o, es, h, _, _ => by cases h
theorem Um (hE : @OK U E) {x y : Aj} {o : Obs} {base : C0} {ob : Option Obj} (h : @OP U.toFacts E θ β x y = some o) (ho : o.holds U.V) (hb : @BR U.toVals ρ y base ob) : @BR W.toVals (ρ.back β) x base ob := by
 unfold OP at h;split at h
 ·
  rename_i n c n' c';obtain ⟨h1, h2⟩ := A5 h;rw [AA h1];obtain ⟨cur, e, fz, b1, b2, b3, b4, b5⟩ := hb;refine ⟨cur, e, fz, b1, b2, b3, b4, fun i a hi ha => ?_⟩
  obtain ⟨y, q1, q2⟩ := K6 hV hK (ρ := ρ) c c' o h2 ho i a ha;obtain ⟨v, v1, v2⟩ := b5 i y hi q1;exact ⟨v, v1, q2 v v2⟩
 ·
  rename_i e x e' x';obtain ⟨h1, h2⟩ := A5 h;rw [AA h1];obtain ⟨ks, cur, et, fz, b1, b2, b3, b4, b5⟩ := hb;have e1 : Ab W.V x = Ab U.V x' := by rw [hV, ← BP, Gf h2 ho]
  exact ⟨ks, cur, et, fz, by rw [hK]; exact b1, b2, b3, b4, by rw [e1, hK]; exact b5⟩
 ·
  rename_i e x n c;split at h
  ·rename_i ks hk;split at h
   ·rename_i l hn hl;split at h
    ·rename_i y hy;obtain ⟨cur, et, fz, b1, b2, b3, b4, b5⟩ := hb;have hk2 : U.K e = some ks := by rw [OK.kd (U := U) hE, ← OK.ke (U := U) hE]; exact hk
     have e1 : Ab W.V x = Ab U.V y := by rw [hV, ← BP, Gf h ho]
     obtain ⟨l1, l2⟩ := T.range_spec c _ _ _ hl
     have hvl : @VL U.toVals ρ l ((cur.toList.drop base.co).take n) := by
      refine ⟨by simp [l1]; omega, fun i a v ha hv => ?_⟩
      have hi : i < n := by have := (List.getElem?_eq_some_iff.1 ha).1; omega
      have := l2 i hi;rw [Nat.zero_add, ha] at this;obtain ⟨v', v1, v2⟩ := b5 i a hi this;rw [List.getElem?_take, if_pos hi, List.getElem?_drop, Array.getElem?_toList, v1] at hv;cases hv;exact v2
     obtain ⟨rs, r1, r2, r3⟩ := @Er U ρ ks _ _ _ _ _ hy hvl;have er : (Ab U.V y).rows = rs := by rw [r2]; rfl
     have hlen : ((cur.toList.drop base.co).take n).length = n := by simp; omega
     refine ⟨ks, cur, et, fz, by rw [hK]; exact hk2, b1, b2, b4, ?_⟩
     rw [e1, er, hK]
     exact r3.at (by rw [hlen, b2]; exact b3) (fun q hq => by
      rw [hlen] at hq;rw [List.getElem?_take, if_pos hq, List.getElem?_drop, Array.getElem?_toList])
    ·cases h
   ·cases h
  ·cases h
 ·
  obtain ⟨h1, h2⟩ := A5 h;rw [AA h1];obtain ⟨es', b1, b2⟩ := hb;exact ⟨es', b1, Rs hV hK _ _ _ _ h2 ho b2⟩
 ·
  rename_i k v x k' v' x';obtain ⟨h1, h2⟩ := A5 h;obtain ⟨c1, c2⟩ := Av h1;rw [AA c1, AA c2];obtain ⟨kks, vks, es', clock, b1, b2, b3, b4⟩ := hb;have e1 : Ab W.V x = Ab U.V x' := by rw [hV, ← BP, Gf h2 ho]
  exact ⟨kks, vks, es', clock, by rw [hK]; exact b1, by rw [hK]; exact b2, b3, by rw [e1, hK]; exact b4⟩
 ·
  rename_i k v x es clock;split at h
  ·rename_i kks vks hk hv;split at h
   ·rename_i y hy;obtain ⟨es', b1, b2⟩ := hb;have hk2 : U.K k = some kks := by rw [OK.kd (U := U) hE, ← OK.ke (U := U) hE]; exact hk
    have hv2 : U.K v = some vks := by rw [OK.kd (U := U) hE, ← OK.ke (U := U) hE]; exact hv
    have e1 : Ab W.V x = Ab U.V y := by rw [hV, ← BP, Gf h ho]
    have q : Bs U.K ρ.imm kks vks ([] ++ es') (Ab U.V y).rows := @KH U ρ kks vks _ _ _ _ [] hy b2 trivial;rw [List.nil_append] at q;exact ⟨kks, vks, es', clock, by rw [hK]; exact hk2, by rw [hK]; exact hv2, b1, by rw [e1, hK]; exact q⟩
   ·cases h
  ·cases h
 ·exact hb
 ·obtain ⟨l', q1, q2⟩ := hb;cases l' with
  | nil => exact ⟨[], trivial, q2⟩
  | cons => exact q1.elim
 ·
  obtain ⟨h1, h2⟩ := A5 h;obtain ⟨h3, h4⟩ := A5 h2;obtain ⟨h1, c6⟩ := Av h1;obtain ⟨h1, c5⟩ := Av h1;obtain ⟨h1, c4⟩ := Av h1;obtain ⟨h1, c3⟩ := Av h1;obtain ⟨c1, c2⟩ := Av h1;obtain ⟨c7, c8⟩ := Av h3;have e1 := WH c1;have e2 := Hi (fun _ _ => Ig) c2
  have e3 := AA c3;have e4 := AA c4;have e5 := Im (fun _ _ => A8) c5
  have e7 := Ig c7;have e8 := Ig c8;subst e1; subst e2; subst e3; subst e4; subst e5; subst e7; subst e8;obtain ⟨tm, bd, q1, q2, q3⟩ := hb;refine ⟨tm, bd, by rw [Fv c6]; exact q1, @TR.mk W.toVals (ρ.back β) _ _ _ (@TR.size U.toVals ρ _ _ _ q2) (fun i x hx => ?_), q3⟩
  obtain ⟨y, r1, r2⟩ := K6 hV hK (ρ := ρ) _ _ o h4 ho i x hx;exact r2 _ (@TR.get U.toVals ρ _ _ _ q2 i y r1)
 ·cases h
theorem Df {h : Aa} : ∀ (l : List (Option Aj)) (bs : List Nat) (o : Obs), @Ef U.toFacts E θ β h l bs = some o → o.holds U.V → l.length = bs.length ∧ ∀ (i : Nat) x, l[i]? = some (some x) → ∃ b y o', bs[i]? = some b ∧ h.blk.get b = some y ∧ @OP U.toFacts E θ β x y = some o' ∧ o'.holds U.V
 | [], [], o, h, ho => ⟨rfl, fun i x hx => by simp at hx⟩
 | a :: l, b :: bs, o, h, ho => by
  simp only [Ef] at h;obtain ⟨o1, o2, h1, h2, rfl⟩ := BC h;obtain ⟨ho1, ho2⟩ := Obs.append ho;obtain ⟨q1, q2⟩ := Df l bs o2 h2 ho2;refine ⟨by simp [q1], fun i x hx => ?_⟩
  cases i with
  | zero =>
   simp only [List.getElem?_cons_zero, Option.some.injEq] at hx;subst hx;cases hg : (_ : Aa).blk.get b with
   | none => rw [hg] at h1; cases h1
   | some y => rw [hg] at h1; exact ⟨b, y, o1, rfl, hg, h1, ho1⟩
  | succ i =>
   simp only [List.getElem?_cons_succ] at hx ⊢;exact q2 i x hx
 | [], _ :: _, o, h, _ => by cases h
 | _ :: _, [], o, h, _ => by cases h
theorem HR.toPatL (hE : @OK U E) {h : Aa} {w : World} {l : List (Option Aj)} {o : Obs} (hr : @HR U.toVals ρ h.blk.get w) (hl : @Ef U.toFacts E θ β h l β = some o) (ho : o.holds U.V) (hn : Fd l β = true) : @HR W.toVals (ρ.back β) (A2 l).get w := by
 obtain ⟨q1, q2⟩ := Df hV hK l β o hl ho
 have at_ : ∀ b base, (ρ.back β).m b = some base → ∃ c, β[b]? = some c ∧ ρ c = some base := by
  intro b base hb;simp only [Ren.back] at hb;cases hc : β[b]? with
  | none => rw [hc] at hb; cases hb
  | some c => rw [hc] at hb; exact ⟨c, rfl, hb⟩
 have live : ∀ b, (A2 l).get b ≠ none → ∃ x c y o', (A2 l).get b = some x ∧ β[b]? = some c ∧ h.blk.get c = some y ∧ @OP U.toFacts E θ β x y = some o' ∧ o'.holds U.V := by
  intro b hb;rw [BY] at hb ⊢;cases hx : l[b]? with
  | none => rw [hx] at hb; exact absurd rfl hb
  | some ox =>
   cases ox with
   | none => rw [hx] at hb; exact absurd rfl hb
   | some x =>
    obtain ⟨c, y, o', a1, a2, a3, a4⟩ := q2 b x hx;exact ⟨x, c, y, o', rfl, a1, a2, a3, a4⟩
 refine ⟨fun b base hb => ?_, fun b base x hb hx => ?_, fun b b' base base' hne hb hb' h1 h2 => ?_, fun k arr hk => HR.imm (U := U.toVals) (ρ := ρ) hr k arr hk, fun k arr b base hk hb hl => ?_⟩
 ·obtain ⟨c, c1, c2⟩ := at_ b base hb;exact HR.lt (U := U.toVals) hr c base c2
 ·obtain ⟨x', c, y, o', e1, e2, e3, e4, e5⟩ := live b (by rw [hx]; exact Option.some_ne_none _)
  rw [hx] at e1; cases e1;obtain ⟨c', c1, c2⟩ := at_ b base hb;rw [e2] at c1; cases c1;exact Um hV hK hE e4 e5 (HR.blk (U := U.toVals) hr c base y c2 e3)
 ·obtain ⟨c, c1, c2⟩ := at_ b base hb;obtain ⟨c', c1', c2'⟩ := at_ b' base' hb';obtain ⟨_, d, y, _, _, e2, e3, _, _⟩ := live b h1;obtain ⟨_, d', y', _, _, e2', e3', _, _⟩ := live b' h2;rw [c1] at e2; cases e2;rw [c1'] at e2'; cases e2';refine HR.apart (U := U.toVals) hr c c' base base' (fun e => ?_) c2 c2' (by rw [e3]; exact Option.some_ne_none _) (by rw [e3']; exact Option.some_ne_none _)
  subst e
  have live1 : ∀ b, (A2 l).get b ≠ none → ∃ x, l[b]? = some (some x) := by
   intro b hb;rw [BY] at hb;cases hx : l[b]? with
   | none => rw [hx] at hb; exact absurd rfl hb
   | some ox =>
    cases ox with
    | none => rw [hx] at hb; exact absurd rfl hb
    | some x => exact ⟨x, rfl⟩
  obtain ⟨x1, l1⟩ := live1 b h1;obtain ⟨x2, l2⟩ := live1 b' h2;exact hne (Ia hn l1 l2 c1 c1')
 ·obtain ⟨c, c1, c2⟩ := at_ b base hb;obtain ⟨_, d, y, _, _, e2, e3, _, _⟩ := live b hl;rw [c1] at e2; cases e2;exact HR.off (U := U.toVals) hr k arr c base hk c2 (by rw [e3]; exact Option.some_ne_none _)
omit hV hK in
theorem TS {l : List (Option Aj)} {bs : List Nat} (h : EW bs = true) : Fd l bs = true := by
 induction l generalizing bs with
 | nil => rfl
 | cons o r ih =>
  cases bs with
  | nil => cases o <;> rfl
  | cons b bs =>
   simp only [EW, Bool.and_eq_true, Bool.not_eq_true'] at h;cases o with
   | none => exact ih h.2
   | some x =>
    simp only [Fd, Bool.and_eq_true, Bool.not_eq_true'];refine ⟨?_, ih h.2⟩;cases hq : En b r bs with
    | false => rfl
    | true =>
     exfalso
     have : ∀ (r : List (Option Aj)) (bs : List Nat), En b r bs = true → KX b bs = true := by
      intro r
      induction r with
      | nil => intro bs h; cases bs <;> cases h
      | cons o r ih2 =>
       intro bs h;cases bs with
       | nil => cases o <;> cases h
       | cons c bs =>
        cases o with
        | none => simp only [En] at h; simp [KX, ih2 bs h]
        | some x =>
         simp only [En, Bool.or_eq_true] at h;simp only [KX, Bool.or_eq_true];exact h.imp id (ih2 bs)
     rw [this r bs hq] at h;exact absurd h.1 (by simp)
theorem HR.toPat (hE : @OK U E) {h : Aa} {w : World} {l : List (Option Aj)} {o : Obs} (hr : @HR U.toVals ρ h.blk.get w) (hl : @Ef U.toFacts E θ β h l β = some o) (ho : o.holds U.V) (hn : EW β = true) : @HR W.toVals (ρ.back β) (A2 l).get w :=
 HR.toPatL hV hK hE hr hl ho (TS hn)
end
def Pd (β : List Nat) : Fn → Fn
 | .yield l => .yield (β.getD l 0)
 | f => f
mutual
def AV.inst [Facts] (θ : List SE) (β : List Nat) : AV → AV
 | .top => .top
 | .bool b => .bool b
 | .int k n => .int k n
 | .str l b => .str l b
 | .ptr0 => .ptr0
 | .ptr b o => .ptr (β.getD b 0) o
 | .slice0 => .slice0
 | .slice b o n es => .slice (β.getD b 0) o n es
 | .map0 => .map0
 | .map b => .map (β.getD b 0)
 | .func fn f c => .func (Pd β fn) (AV.instL θ β f) (AV.instL θ β c)
 | .nilFunc => .nilFunc
 | .iface t v => .iface t (AV.inst θ β v)
 | .nilIface => .nilIface
 | .agg l => .agg (AV.instL θ β l)
 | .tuple l => .tuple (AV.instL θ β l)
 | .sb p e => mkB p (e.inst θ)
 | .si k e => mkI k (e.inst θ)
 | .ss x => .ss (x.inst θ)
 | .dat e x => .dat e (x.inst θ)
 | .dptr e x i off => .dptr e (x.inst θ) (i.inst θ) off
 | .asl b es n nl => .asl (β.getD b 0) es (n.inst θ) (nl.inst θ)
 | .eslc nl => .eslc (nl.inst θ)
 | .aptr b es i off => .aptr (β.getD b 0) es (i.inst θ) off
termination_by structural a => a
def AV.instL [Facts] (θ : List SE) (β : List Nat) : List AV → List AV
 | [] => []
 | a :: l => AV.inst θ β a :: AV.instL θ β l
termination_by structural l => l
end
def T.mapA {α γ : Type} (f : α → γ) : T α → T γ
 | .nil => .nil
 | .node v l r => .node (match v with | some x => some (f x) | none => none) (l.mapA f) (r.mapA f)
def Qs [Facts] (θ : List SE) (β : List Nat) : List AO → List AO
 | [] => []
 | e :: r => { key := e.key.inst θ β, val := e.val.inst θ β, born := e.born } :: Qs θ β r
def Aj.inst [Facts] (θ : List SE) (β : List Nat) : Aj → Option Aj
 | .cells n c => some (.cells n (c.mapA (AV.inst θ β)))
 | .arr e x => some (.arr e (x.inst θ))
 | .map es k => some (.map (Qs θ β es) k)
 | .dmap k v x => some (.dmap k v (x.inst θ))
 | .deferred none => some (.deferred none)
 | .deferred (some []) => some (.deferred (some []))
 | .loop st pending fn nt tmps params assign body d => some (.loop st pending fn nt (tmps.mapA (AV.inst θ β)) params assign body (β.getD d 0))
 | _ => none
theorem T.get_mapA {α γ : Type} (f : α → γ) : ∀ (t : T α) (i : Nat), (t.mapA f).get i = (t.get i).map f
 | .nil, i => rfl
 | .node v l r, i => by
  simp only [T.mapA, T.get];split
  ·cases v <;> rfl
  ·split
   ·exact T.get_mapA f l _
   ·exact T.get_mapA f r _
section
variable {U W : Unk} {θ : List SE} (hV : W.V = U.V.inst θ) (hK : W.K = U.K) {β : List Nat} {σ τ : Ren}
 (hβ : ∀ b base, σ b = some base → τ (β.getD b 0) = some base) (hM : ∀ k a, σ.imm k = some a → τ.imm k = some a)
include hV hK hβ hM
omit hK in
theorem Cq {e : SE} : Ab U.V (e.inst θ) = Ab W.V e := by rw [BP, hV]
theorem Ss {f g : Fn} (h : FnR σ f g) : FnR τ (Pd β f) g := by
 cases f <;> simp only [FnR, Pd] at h ⊢ <;> first | exact h | skip
 obtain ⟨base, h1, h2⟩ := h;exact ⟨base, hβ _ _ h1, h2⟩
mutual
theorem EY : ∀ (a : AV) (v : Value), @VR W.toVals σ a v → @VR U.toVals τ (@AV.inst U.toFacts θ β a) v
 | .top, v, h => @VR.top U.toVals _ v
 | .bool b, v, h => by cases h; exact @VR.bool U.toVals _ _
 | .int k n, v, h => by cases h; exact @VR.int U.toVals _ _ _
 | .str l b, v, h => by cases h; exact @VR.str U.toVals _ _
 | .ptr0, v, h => by cases h; exact @VR.ptr0 U.toVals _
 | .ptr b o, v, h => by
  cases h with
  | ptr _ _ base hb => exact @VR.ptr U.toVals _ _ o base (hβ _ _ hb)
 | .slice0, v, h => by cases h; exact @VR.slice0 U.toVals _
 | .slice b o n es, v, h => by
  cases h with
  | slice _ _ _ _ cap base hb hc hz => exact @VR.slice U.toVals _ _ o n es cap base (hβ _ _ hb) hc hz
  | sliceEnd _ _ _ a => exact @VR.sliceEnd U.toVals _ _ o es a
 | .map0, v, h => by cases h; exact @VR.map0 U.toVals _
 | .map b, v, h => by
  cases h with
  | map _ base hb => exact @VR.map U.toVals _ _ base (hβ _ _ hb)
 | .func fn f c, v, h => by
  cases h with
  | func _ fn' _ _ f' c' r1 r2 r3 r4 r5 =>
   have q1 := Fx f f' ⟨r2, r3⟩;have q2 := Fx c c' ⟨r4, r5⟩;exact @VR.func U.toVals _ _ fn' _ _ f' c' (Ss hV hK hβ hM r1) q1.1 q1.2 q2.1 q2.2
 | .nilFunc, v, h => by cases h; exact @VR.nilFunc U.toVals _
 | .iface t a, v, h => by
  cases h with
  | iface _ _ v' hv => exact @VR.iface U.toVals _ t _ v' (EY a v' hv)
 | .nilIface, v, h => by cases h; exact @VR.nilIface U.toVals _
 | .agg l, v, h => by
  cases h with
  | agg _ l' r1 r2 =>
   have q := Fx l l' ⟨r1, r2⟩;exact @VR.agg U.toVals _ _ l' q.1 q.2
 | .tuple l, v, h => by
  cases h with
  | tuple _ l' r1 r2 =>
   have q := Fx l l' ⟨r1, r2⟩;exact @VR.tuple U.toVals _ _ l' q.1 q.2
 | .sb p e, v, h => by
  cases h;have := @Ha U τ p (e.inst θ);have e1 : Ad U.V (e.inst θ) = Ad W.V e := by unfold Ad; rw [Cq hV hβ hM]
  rw [e1] at this; exact this
 | .si k e, v, h => by
  cases h;have := @CA U τ k (e.inst θ);have e1 : Ac U.V (e.inst θ) = Ac W.V e := by unfold Ac; rw [Cq hV hβ hM]
  rw [e1] at this; exact this
 | .ss x, v, h => by
  cases h;have e1 : AM U.V (x.inst θ) = AM W.V x := by unfold AM; rw [Cq hV hβ hM]
  have := @VR.ss U.toVals τ (x.inst θ);rw [e1] at this; exact this
 | .dat e x, v, h => by
  cases h with
  | dat _ _ a n c hd => exact @VR.dat U.toVals τ e _ a n c (by rw [Cq hV hβ hM, ← hK]; exact hd.mono hM)
 | .dptr e x i off, v, h => by
  cases h with
  | dptr _ _ _ _ b o n cap ks hd hk h0 hi ho =>
   have e1 : Ac U.V (i.inst θ) = Ac W.V i := by unfold Ac; rw [Cq hV hβ hM]
   have := @VR.dptr U.toVals τ e (x.inst θ) (i.inst θ) off b o n cap ks (by rw [Cq hV hβ hM, ← hK]; exact hd.mono hM) (by rw [← hK]; exact hk) (by rw [e1]; exact h0) (by rw [e1]; exact hi) ho
   rw [e1] at this; exact this
 | .asl b es n nl, v, h => by
  have e1 : Ac U.V (n.inst θ) = Ac W.V n := by unfold Ac; rw [Cq hV hβ hM]
  have e2 : Ad U.V (nl.inst θ) = Ad W.V nl := by unfold Ad; rw [Cq hV hβ hM]
  cases h with
  | asl _ _ _ _ cap base hb h0 hc hz hn =>
   have := @VR.asl U.toVals τ _ es (n.inst θ) (nl.inst θ) cap base (hβ _ _ hb) (by rw [e1]; exact h0) (by rw [e1]; exact hc) hz (by rw [e2]; exact hn)
   rw [e1] at this; exact this
  | aslEnd _ _ _ _ a h0 hn => exact @VR.aslEnd U.toVals τ _ es _ _ a (by rw [e1]; exact h0) (by rw [e2]; exact hn)
 | .eslc nl, v, h => by
  have e2 : Ad U.V (nl.inst θ) = Ad W.V nl := by unfold Ad; rw [Cq hV hβ hM]
  cases h with
  | eslc _ a hn => exact @VR.eslc U.toVals τ _ a (by rw [e2]; exact hn)
 | .aptr b es i off, v, h => by
  have e1 : Ac U.V (i.inst θ) = Ac W.V i := by unfold Ac; rw [Cq hV hβ hM]
  cases h with
  | aptr _ _ _ _ base hb h0 =>
   have := @VR.aptr U.toVals τ _ es (i.inst θ) off base (hβ _ _ hb) (by rw [e1]; exact h0)
   rw [e1] at this; exact this
theorem Fx : ∀ (l : List AV) (vs : List Value), @VL W.toVals σ l vs → @VL U.toVals τ (@AV.instL U.toFacts θ β l) vs
 | [], vs, h => by have := VL.nil_inv (U := W.toVals) h; subst this; exact VL.nil (U := U.toVals) _
 | a :: l, vs, h => by
  obtain ⟨v, r, rfl, q1, q2⟩ := VL.cons_inv (U := W.toVals) h;exact VL.cons (U := U.toVals) (EY a v q1) (Fx l r q2)
end
theorem Mt : ∀ (l : List AO) (es : List MapEntry), @ER W.toVals σ l es → @ER U.toVals τ (@Qs U.toFacts θ β l) es
 | [], [], _ => trivial
 | a :: l, e :: r, h => ⟨EY hV hK hβ hM _ _ h.1, EY hV hK hβ hM _ _ h.2.1, h.2.2.1, Mt l r h.2.2.2⟩
theorem PR {x y : Aj} {base : C0} {ob : Option Obj} (h : @Aj.inst U.toFacts θ β x = some y) (hb : @BR W.toVals σ x base ob) : @BR U.toVals τ y base ob := by
 unfold Aj.inst at h;split at h
 ·cases h;obtain ⟨cur, e, fz, b1, b2, b3, b4, b5⟩ := hb;refine ⟨cur, e, fz, b1, b2, b3, b4, fun i a hi ha => ?_⟩
  rw [T.get_mapA] at ha;cases hx : (_ : T AV).get i with
  | none => rw [hx] at ha; cases ha
  | some a0 =>
   rw [hx] at ha;cases ha;obtain ⟨v, v1, v2⟩ := b5 i a0 hi hx;exact ⟨v, v1, EY hV hK hβ hM _ _ v2⟩
 ·cases h;obtain ⟨ks, cur, et, fz, b1, b2, b3, b4, b5⟩ := hb;exact ⟨ks, cur, et, fz, by rw [← hK]; exact b1, b2, b3, b4, by rw [Cq hV hβ hM, ← hK]; exact b5.mono hM⟩
 ·cases h;obtain ⟨es, b1, b2⟩ := hb;exact ⟨es, b1, Mt hV hK hβ hM _ _ b2⟩
 ·cases h;obtain ⟨kks, vks, es', clock, b1, b2, b3, b4⟩ := hb;exact ⟨kks, vks, es', clock, by rw [← hK]; exact b1, by rw [← hK]; exact b2, b3, by rw [Cq hV hβ hM, ← hK]; exact b4.mono hM⟩
 ·cases h; exact hb
 ·cases h;obtain ⟨l', q1, q2⟩ := hb;cases l' with
  | nil => exact ⟨[], trivial, q2⟩
  | cons => exact q1.elim
 ·cases h;obtain ⟨tm, bd, q1, q2, q3⟩ := hb;refine ⟨tm, bd, hβ _ _ q1, @TR.mk U.toVals τ _ _ _ (@TR.size W.toVals σ _ _ _ q2) (fun i x hx => ?_), q3⟩
  rw [T.get_mapA] at hx;cases hy : (_ : T AV).get i with
  | none => rw [hy] at hx; cases hx
  | some a0 =>
   rw [hy] at hx;cases hx;exact EY hV hK hβ hM _ _ (@TR.get W.toVals σ _ _ _ q2 i a0 hy)
 ·cases h
end
end Go.AE
namespace Go.AE
structure Bd where
 v : T SE
 b : T Nat
 deriving Inhabited
def Bd.var (m : Bd) (e x : SE) : Bd := match e with
 | .var i => match m.v.get i with
  | none => { v := m.v.set i x, b := m.b }
  | some _ => m
 | _ => m
def Bd.blk (m : Bd) (b c : Nat) : Bd := match m.b.get b with
 | none => { v := m.v, b := m.b.set b c }
 | some _ => m
mutual
def FT : AV → AV → Bd → Bd
 | .ptr b _, .ptr c _, m => m.blk b c
 | .slice b _ _ _, .slice c _ _ _, m => m.blk b c
 | .map b, .map c, m => m.blk b c
 | .func (.yield l) f c, .func (.yield l') f' c', m => D8 c c' (D8 f f' (m.blk l l'))
 | .func _ f c, .func _ f' c', m => D8 c c' (D8 f f' m)
 | .iface _ v, .iface _ v', m => FT v v' m
 | .agg l, .agg l', m => D8 l l' m
 | .tuple l, .tuple l', m => D8 l l' m
 | .sb p e, .sb p' e', m => m.var e (match p == p' with | true => e' | false => .neg e')
 | .sb p e, .bool b, m => m.var e (.bc (b == p))
 | .si _ e, .si _ e', m => m.var e e'
 | .si _ e, .int _ n, m => m.var e (.c n)
 | .ss e, .ss e', m => m.var e e'
 | .ss e, .str l b, m => m.var e (.strc l b)
 | .dat _ x, .dat _ x', m => m.var x x'
 | .dat _ x, .slice0, m => m.var x .nilL
 | .asl b _ n nl, .asl c _ n' nl', m => ((m.blk b c).var n n').var nl nl'
 | .asl b _ n nl, .slice c _ n' _, m => ((m.blk b c).var n (.c n')).var nl (.bc false)
 | .asl _ _ n nl, .slice0, m => (m.var n (.c 0)).var nl (.bc true)
 | .asl _ _ n nl, .eslc nl', m => (m.var n (.c 0)).var nl nl'
 | .eslc nl, .eslc nl', m => m.var nl nl'
 | .eslc nl, .slice0, m => m.var nl (.bc true)
 | _, _, m => m
termination_by structural a => a
def D8 : List AV → List AV → Bd → Bd
 | a :: l, b :: k, m => D8 l k (FT a b m)
 | _, _, m => m
termination_by structural l => l
end
def NQ : T AV → T AV → Bd → Bd
 | .node v l r, .node v' l' r', m => NQ r r' (NQ l l' (match v, v' with
  | some a, some b => FT a b m
  | _, _ => m))
 | _, _, m => m
def QO [Facts] (E : Env) : Aj → Aj → Bd → Bd
 | .cells _ c, .cells _ c', m => NQ c c' m
 | .loop _ _ _ _ t _ _ _ d, .loop _ _ _ _ t' _ _ _ d', m => NQ t t' (m.blk d d')
 | .arr _ x, .arr _ x', m => m.var x x'
 | .dmap _ _ x, .dmap _ _ x', m => m.var x x'
 | .dmap k v x, .map es _, m => match E.kinds k, E.kinds v with
  | some kks, some vks => match Le kks vks .emptyL es with
   | some y => m.var x y
   | none => m
  | _, _ => m
 | .arr e x, .cells n c, m => match E.kinds e with
  | some ks => match c.range 0 n with
   | some l => match Dv ks (n / ks.length) .emptyL l with
    | some y => m.var x y
    | none => m
   | none => m
  | none => m
 | _, _, m => m
def K2 [Facts] (E : Env) (h : Aa) : List (Option Aj) → Nat → Bd → Bd
 | [], _, m => m
 | none :: r, i, m => K2 E h r (i + 1) m
 | some x :: r, i, m => match m.b.get i with
  | some c => match h.blk.get c with
   | some y => K2 E h r (i + 1) (QO E x y m)
   | none => K2 E h r (i + 1) m
  | none => K2 E h r (i + 1) m
def FV [Facts] (E : Env) (l : List (Option Aj)) (h : Aa) (m : Bd) : Bd := match l with
 | [] => m
 | [_] => m
 | _ => K2 E h l 0 (K2 E h l 0 (K2 E h l 0 m))
def AP [Facts] (E : Env) : List (Option Aj) → Nat → Bd → Aa → Bd × Aa
 | [], _, m, h => (m, h)
 | none :: r, i, m, h => match m.b.get i with
  | some _ => AP E r (i + 1) m h
  | none => AP E r (i + 1) (m.blk i h.nx) { h with nx := h.nx + 1 }
 | some x :: r, i, m, h => match m.b.get i with
  | some c => match h.blk.get c with
   | some y => AP E r (i + 1) (QO E x y m) h
   | none => AP E r (i + 1) m h
  | none => match x with
   | .arr e y => AP E r (i + 1) ((m.blk i h.nx).var y .nilL) (h.new (.arr e .nilL))
   | _ => AP E r (i + 1) m h
def Gy (t : T SE) : Nat → Nat → List SE
 | _, 0 => []
 | i, n + 1 => (match t.get i with | some x => x | none => .c 0) :: Gy t (i + 1) n
def HT (t : T Nat) : Nat → Nat → List Nat
 | _, 0 => []
 | i, n + 1 => (match t.get i with | some x => x | none => 0) :: HT t (i + 1) n
def NK (n : Nat) : List Nat → Bool
 | [] => true
 | b :: r => Nat.blt b n && NK n r
def C8 (nx : Nat) : Nat → List Nat
 | 0 => []
 | m + 1 => nx :: C8 (nx + 1) m
def Jw [U : Facts] (θ : List SE) : List (SB × Bool) → Bool
 | [] => true
 | (e, b) :: r => (match AR U.facts (e.inst θ) with
  | some c => c == b
  | none => false) && Jw θ r
def DB [Facts] (θ : List SE) (β : List Nat) : List (Option Aj) → List Nat → T Aj → Option (T Aj)
 | [], [], t => some t
 | none :: r, b :: bs, t => DB θ β r bs (t.del b)
 | some x :: r, b :: bs, t => match x.inst θ β with
  | some y => DB θ β r bs (t.set b y)
  | none => none
 | _, _, _ => none
def Re [Facts] : Obs → Bool
 | [] => true
 | (a, .bc true) :: r => a.isB && Ki a && Re r
 | _ => false
def Ns [Facts] : Option Obs → Bool
 | some o => Re o
 | none => false
theorem UE {U : Unk} : ∀ {o : Obs}, @Re U.toFacts o = true → o.holds U.V := by
 intro o
 induction o with
 | nil => intro _ a b hm; cases hm
 | cons p r ih =>
  intro h;unfold Re at h;split at h
  ·rename_i heq; cases heq
  ·rename_i x r' heq;cases heq;simp only [Bool.and_eq_true] at h;intro a b hm;rcases List.mem_cons.1 hm with q | q
   ·cases q;have h1 := h.1.2;unfold Ki at h1;split at h1
    ·rename_i hd;have := Ay U.ok hd;rw [Nw U.V h.1.1];show D.bool (Ad U.V x) = _;rw [this]; rfl
    ·cases h1
   ·exact ih h.2 a b q
  ·cases h
theorem LZ {U : Unk} {o : Option Obs} (h : @Ns U.toFacts o = true) : ∃ l, o = some l ∧ l.holds U.V := by
 unfold Ns at h;split at h
 ·exact ⟨_, rfl, UE h⟩
 ·cases h
def SM (old new : T Aj) : List Nat → List Nat
 | [] => []
 | b :: r => match eqO Q6 (old.get b) (new.get b) with
  | true => SM old new r
  | false => b :: SM old new r
theorem M3 {old new : T Aj} : ∀ {l : List Nat} {b : Nat}, b ∈ l → b ∉ SM old new l → new.get b = old.get b
 | c :: r, b, h, hn => by
  simp only [SM] at hn;split at hn
  ·rename_i he;rcases List.mem_cons.1 h with q | q
   ·subst q;exact (S2 (fun _ _ => Oz) he).symm
   ·exact M3 q hn
  ·rcases List.mem_cons.1 h with q | q
   ·subst q;exact absurd (by simp) hn
   ·exact M3 q (fun c => hn (by simp [c]))
def Wj [Facts] (E : Env) (s : Sm) (θ : List SE) (β : List Nat) (args : List AV) (h : Aa) : Option (AV × Aa) :=
 match Ns (Ho θ β s.args args) && Ns (Ef E θ β h s.pre β) && EW β && NK h.nx β && Jw θ s.facts && Nat.ble s.pre.length s.post.length with
 | true =>
  match DB θ (β ++ C8 h.nx (s.post.length - s.pre.length)) s.post (β ++ C8 h.nx (s.post.length - s.pre.length)) h.blk with
  | some t => some (s.res.inst θ (β ++ C8 h.nx (s.post.length - s.pre.length)), { blk := t, nx := h.nx + (s.post.length - s.pre.length), log := SM h.blk t β ++ h.log })
  | none => none
 | false => none
def bD : AV → Kd
 | .dat e _ => .slice e
 | _ => .bool
def QP [Facts] (E : Env) (p a : AV) (h : Aa) : AV × Aa :=
 match p, a with
 | .agg qs, .agg xs => match H1 E (qs.map bD) xs h with
  | (xs', h1) => (.agg xs', h1)
 | p, a => Jr E (bD p) a h
def PY [Facts] (E : Env) : List AV → List AV → Aa → List AV × Aa
 | p :: ps, a :: l, h => match QP E p a h with
  | (a', h1) => match PY E ps l h1 with
   | (l', h2) => (a' :: l', h2)
 | _, l, h => (l, h)
def Fj [Facts] (E : Env) : List (Option Aj) → Nat → T Nat → Aa → Aa
 | [], _, _, h => h
 | some (.arr e _) :: r, i, b, h => match b.get i, E.kinds e with
  | some c, some ks => match Hf ks with
   | true => match h.blk.get c with
    | some (.cells _ _) => Fj E r (i + 1) b (GN E e c h)
    | _ => Fj E r (i + 1) b h
   | false => Fj E r (i + 1) b h
  | _, _ => Fj E r (i + 1) b h
 | _ :: r, i, b, h => Fj E r (i + 1) b h
def NX [Facts] (E : Env) (s : Sm) (args : List AV) (h : Aa) : List AV × Aa := match PY E s.args args h with
 | (args, h) => (args, Fj E s.pre 0 (FV E s.pre h (D8 s.args args ⟨.nil, .nil⟩)).b h)
def Ui [Facts] (E : Env) (s : Sm) (args : List AV) (h : Aa) : Option (AV × Aa) :=
 match NX E s args h with
 | (args, h) => match AP E s.pre 0 (FV E s.pre h (D8 s.args args ⟨.nil, .nil⟩)) h with
  | (m, h1) => Wj E s (Gy m.v 0 s.nv) (HT m.b 0 s.pre.length) args h1
def Mf [Facts] (E : Env) : List Sm → FuncId → List AV → Aa → Option (AV × Aa)
 | [], _, _, _ => none
 | s :: r, f, args, h => match Nat.beq s.f f with
  | true => match Ui E s args h with
   | some x => some x
   | none => Mf E r f args h
  | false => Mf E r f args h
def Sm.Valid (P : Program) (F : Nat → D → D) (s : Sm) : Prop :=
 ∀ [U : Unk], U.K = (Env.of P).kinds → U.V.fn = F → (∀ e b, (e, b) ∈ s.facts → Ad U.V e = b) → ∀ (ρ : Ren) (w : World) (args' : List Value), VL ρ s.args args' → HR ρ (A2 s.pre).get w → (∀ b, s.pre.length ≤ b → ρ b = none) →
  ∀ (c0 : Frame) (base : List Frame), ∃ σ v' w', BS P (lone (Frame.enter P s.f args'.toArray .normal) (c0 :: base) w) c0 base true v' w' ∧ VR σ s.res v' ∧ HR σ (A2 s.post).get w' ∧
   Ext ρ σ { blk := A2 s.pre, nx := s.pre.length, log := [] } { blk := A2 s.post, nx := s.post.length, log := List.range s.pre.length } w w'
theorem Ky : ∀ (m nx i : Nat), (C8 nx m)[i]? = if i < m then some (nx + i) else none
 | 0, nx, i => by simp [C8]
 | m + 1, nx, i => by
  cases i with
  | zero => simp [C8]
  | succ i =>
   simp only [C8, List.getElem?_cons_succ, Ky m (nx + 1) i];by_cases c : i < m
   ·rw [if_pos c, if_pos (by omega)]; congr 1; omega
   ·rw [if_neg c, if_neg (by omega)]
theorem Kn {n : Nat} : ∀ {l : List Nat}, NK n l = true → ∀ b ∈ l, b < n
 | [], _, b, hb => by cases hb
 | c :: r, h, b, hb => by
  simp only [NK, Bool.and_eq_true] at h;rcases List.mem_cons.1 hb with rfl | hb
  ·simpa [Nat.blt_eq] using h.1
  ·exact Kn h.2 b hb
theorem BJ {U : Unk} {θ : List SE} : ∀ {l : List (SB × Bool)}, @Jw U.toFacts θ l = true → ∀ e b, (e, b) ∈ l → Ad (U.V.inst θ) e = b
 | [], _, e, b, h => by cases h
 | (x, c) :: r, h, e, b, hm => by
  simp only [Jw, Bool.and_eq_true] at h;rcases List.mem_cons.1 hm with q | q
  ·cases q;have h1 := h.1;split at h1
   ·rename_i d hd;have := @Ay U U.V _ U.ok _ _ hd;rw [Gb] at this;rw [this]; exact eq_of_beq h1
   ·cases h1
  ·exact BJ h.2 e b q
theorem Ph [Facts] {θ : List SE} {β : List Nat} : ∀ (l : List (Option Aj)) (bs : List Nat) (t t' : T Aj), DB θ β l bs t = some t' → (∀ (i j b : Nat), bs[i]? = some b → bs[j]? = some b → i = j) →
  (∀ c, c ∉ bs → t'.get c = t.get c) ∧ ∀ (i c : Nat), bs[i]? = some c → (l[i]? = some none ∧ t'.get c = none) ∨ ∃ (x y : Aj), l[i]? = some (some x) ∧ x.inst θ β = some y ∧ t'.get c = some y := by
 intro l
 induction l with
 | nil =>
  intro bs t t' h hd;cases bs with
  | nil => simp only [DB, Option.some.injEq] at h; subst h; exact ⟨fun _ _ => rfl, fun i c hc => by simp at hc⟩
  | cons => cases h
 | cons o r ih =>
  intro bs t t' h hd;cases bs with
  | nil => cases o <;> cases h
  | cons b bs =>
   have hb : b ∉ bs := by
    intro hm;obtain ⟨j, hj, e⟩ := List.getElem_of_mem hm;have := hd 0 (j + 1) b rfl (by simp [hj, e])
    omega
   have hd' : ∀ (i j b : Nat), bs[i]? = some b → bs[j]? = some b → i = j := fun i j c hi hj => by
    have := hd (i + 1) (j + 1) c (by simpa using hi) (by simpa using hj)
    omega
   cases o with
   | none =>
    simp only [DB] at h;obtain ⟨q1, q2⟩ := ih bs _ t' h hd';refine ⟨fun c hc => ?_, fun i c hc => ?_⟩
    ·simp only [List.mem_cons, not_or] at hc;rw [q1 c hc.2, T.get_del, if_neg (fun e => hc.1 e.symm)]
    ·cases i with
     | zero =>
      simp only [List.getElem?_cons_zero, Option.some.injEq] at hc;subst hc;exact .inl ⟨rfl, by rw [q1 _ hb, T.get_del, if_pos rfl]⟩
     | succ i =>
      simp only [List.getElem?_cons_succ] at hc ⊢;exact q2 i c hc
   | some x =>
    simp only [DB] at h;split at h
    ·rename_i y hy;obtain ⟨q1, q2⟩ := ih bs _ t' h hd';refine ⟨fun c hc => ?_, fun i c hc => ?_⟩
     ·simp only [List.mem_cons, not_or] at hc;rw [q1 c hc.2, T.get_set, if_neg (fun e => hc.1 e.symm)]
     ·cases i with
      | zero =>
       simp only [List.getElem?_cons_zero, Option.some.injEq] at hc;subst hc;exact .inr ⟨x, y, rfl, hy, by rw [q1 _ hb, T.get_set, if_pos rfl]⟩
      | succ i =>
       simp only [List.getElem?_cons_succ] at hc ⊢;exact q2 i c hc
    ·cases h
@[reducible] def Cv (U : Unk) (F : List (SB × Bool)) (θ : List SE) (h : ∀ e b, (e, b) ∈ F → Ad (U.V.inst θ) e = b) : Unk := { facts := F, V := U.V.inst θ, K := U.K, R := [], hR := fun _ _ _ _ _ h => (by cases h), ok := h }
theorem RK {U : Unk} {E : Env} {FF : List (SB × Bool)} {θ : List SE} {β : List Nat} (hok : ∀ e b, (e, b) ∈ FF → Ad (U.V.inst θ) e = b) {pre post : List (Option Aj)} {res : AV} {o : Obs} {h : Aa} {t : T Aj} {ρ σ : Ren} {w w' : World} {v' : Value} {n0 n1 : Nat} (hn0 : pre.length = n0) (hn1 : post.length = n1)
  (ho2 : Ef E θ β h pre β = some o) (hoh : o.holds U.V) (hnd : EW β = true) (hlt : ∀ b ∈ β, b < h.nx) (hlen : n0 ≤ n1) (ht : DB θ (β ++ C8 h.nx (n1 - n0)) post (β ++ C8 h.nx (n1 - n0)) h.blk = some t)
  (hr : HR ρ h.blk.get w) (hwf : ∀ b, h.nx ≤ b → h.blk.get b = none) (hfree : A9 ρ h.nx (h.nx + (n1 - n0)))
  (q2 : @VR (Cv U FF θ hok).toVals σ res v') (q3 : @HR (Cv U FF θ hok).toVals σ (A2 post).get w') (q4 : Ext (ρ.back β) σ { blk := A2 pre, nx := pre.length, log := [] } { blk := A2 post, nx := post.length, log := List.range pre.length } w w') :
  ∃ τ, VR τ (res.inst θ (β ++ C8 h.nx (n1 - n0))) v' ∧ HR τ t.get w' ∧ Ext ρ τ h { blk := t, nx := h.nx + (n1 - n0), log := β ++ h.log } w w' := by
 have hV : (Cv U FF θ hok).V = U.V.inst θ := rfl;have hK : (Cv U FF θ hok).K = U.K := rfl;have hbl : pre.length = β.length := (Df (U := U) (W := Cv U FF θ hok) hV hK pre β o ho2 hoh).1;have hblk := (Df (U := U) (W := Cv U FF θ hok) hV hK pre β o ho2 hoh).2
 have hback : ∀ b, pre.length ≤ b → (ρ.back β).m b = none := by
  intro b hb;have : β[b]? = none := List.getElem?_eq_none (by omega)
  simp [Ren.back, this]
 have hbn : β.length = n0 := by omega
 have gb : ∀ (i : Nat), (β ++ C8 h.nx (n1 - n0))[i]? = if i < n0 then β[i]? else if i < n1 then some (h.nx + (i - n0)) else none := by
  intro i;by_cases c : i < n0
  ·rw [if_pos c, List.getElem?_append_left (by omega)]
  ·rw [if_neg c, List.getElem?_append_right (by omega), Ky, hbn]
   by_cases c2 : i < n1
   ·rw [if_pos c2, if_pos (by omega)]
   ·rw [if_neg c2, if_neg (by omega)]
 have gdist : ∀ (i j b : Nat), (β ++ C8 h.nx (n1 - n0))[i]? = some b → (β ++ C8 h.nx (n1 - n0))[j]? = some b → i = j := by
  intro i j b hi hj;rw [gb] at hi hj;by_cases c : i < n0
  ·rw [if_pos c] at hi;have := hlt b (List.mem_of_getElem? hi);by_cases d : j < n0
   ·rw [if_pos d] at hj; exact LP hnd hi hj
   ·rw [if_neg d] at hj;split at hj
    ·cases hj; omega
    ·cases hj
  ·rw [if_neg c] at hi;split at hi
   ·cases hi;by_cases d : j < n0
    ·rw [if_pos d] at hj;have := hlt _ (List.mem_of_getElem? hj);omega
    ·rw [if_neg d] at hj;split at hj
     ·simp only [Option.some.injEq] at hj; omega
     ·cases hj
   ·cases hi
 obtain ⟨t1, t2⟩ := @Ph U.toFacts θ _ _ _ _ _ ht gdist
 let τ : Ren := ⟨fun c => if h.nx ≤ c ∧ c < h.nx + (n1 - n0) then σ (n0 + (c - h.nx)) else ρ c, σ.imm⟩
 have τold : ∀ c, c < h.nx → τ c = ρ c := fun c hc => by show (if _ then _ else _) = _; rw [if_neg (by omega)]
 have τnew : ∀ i, n0 ≤ i → i < n1 → τ (h.nx + (i - n0)) = σ i := fun i h1 h2 => by
  show (if _ then _ else _) = _
  rw [if_pos (by omega)]; congr 1; omega
 have hle0 := q4.le
 have back : ∀ b base, (ρ.back β).m b = some base → ∃ c, β[b]? = some c ∧ ρ c = some base := by
  intro b base hb;simp only [Ren.back] at hb;cases hc : β[b]? with
  | none => rw [hc] at hb; cases hb
  | some c => rw [hc] at hb; exact ⟨c, rfl, hb⟩
 have preLive : ∀ b, (A2 pre).get b ≠ none → ∃ c y, β[b]? = some c ∧ h.blk.get c = some y := by
  intro b hb;rw [BY] at hb;cases hx : pre[b]? with
  | none => rw [hx] at hb; exact absurd rfl hb
  | some ox =>
   cases ox with
   | none => rw [hx] at hb; exact absurd rfl hb
   | some x =>
    obtain ⟨c, y, o', a1, a2, a3, a4⟩ := hblk b x hx;exact ⟨c, y, a1, a2⟩
 have hle : ρ.le τ := by
  refine ⟨fun c base hc => ?_, fun k a hk => hle0.imm k a hk⟩
  show (if _ then _ else _) = _
  rw [if_neg ?_]
  ·exact hc
  ·intro hcr;rw [hfree c hcr.1 hcr.2] at hc; cases hc
 have hβ : ∀ b base, σ b = some base → τ ((β ++ C8 h.nx (n1 - n0)).getD b 0) = some base := by
  intro b bs hb;rcases q4.new b bs hb with hq | ⟨a1, a2, _⟩
  ·obtain ⟨c, c1, c2⟩ := back b bs hq;have hbl' : b < n0 := by have := (List.getElem?_eq_some_iff.1 c1).1; omega
   have e : (β ++ C8 h.nx (n1 - n0)).getD b 0 = c := by rw [List.getD_eq_getElem?_getD, gb, if_pos hbl', c1]; rfl
   rw [e, τold c (hlt c (List.mem_of_getElem? c1))]; exact c2
  ·simp only [hn0, hn1] at a1 a2;have e : (β ++ C8 h.nx (n1 - n0)).getD b 0 = h.nx + (b - n0) := by rw [List.getD_eq_getElem?_getD, gb, if_neg (by omega), if_pos a2]; rfl
   rw [e, τnew b a1 a2]; exact hb
 have kinds : ∀ c y, t.get c = some y → (∃ i x, (β ++ C8 h.nx (n1 - n0))[i]? = some c ∧ (A2 post).get i = some x ∧ @Aj.inst U.toFacts θ (β ++ C8 h.nx (n1 - n0)) x = some y) ∨ (c ∉ β ∧ c < h.nx ∧ h.blk.get c = some y) := by
  intro c y hy;by_cases hm : c ∈ β ++ C8 h.nx (n1 - n0)
  ·obtain ⟨i, hi, e⟩ := List.getElem_of_mem hm;have hic : (β ++ C8 h.nx (n1 - n0))[i]? = some c := List.getElem?_eq_some_iff.2 ⟨hi, e⟩;rcases t2 i c hic with ⟨_, q⟩ | ⟨x, y', a1, a2, a3⟩
   ·rw [q] at hy; cases hy
   ·rw [a3] at hy; cases hy;exact .inl ⟨i, x, hic, by rw [BY, a1]; rfl, a2⟩
  ·rw [t1 c hm] at hy;refine .inr ⟨fun e => hm (List.mem_append_left _ e), ?_, hy⟩
   rcases Nat.lt_or_ge c h.nx with q | q
   ·exact q
   ·rw [hwf c q] at hy; cases hy
 have baseOf : ∀ i c bs, (β ++ C8 h.nx (n1 - n0))[i]? = some c → τ c = some bs → σ i = some bs := by
  intro i c bs hi hc;rw [gb] at hi;by_cases d : i < n0
  ·rw [if_pos d] at hi;rw [τold c (hlt c (List.mem_of_getElem? hi))] at hc;exact hle0.m i bs (by show (β[i]?).bind ρ.m = some bs; rw [hi]; exact hc)
  ·rw [if_neg d] at hi;split at hi
   ·rename_i d2;cases hi;rw [τnew i (by omega) d2] at hc; exact hc
   ·cases hi
 have given : ∀ b0 base0 c bs y, (ρ.back β).m b0 = some base0 → (A2 pre).get b0 ≠ none → c ∉ β → ρ c = some bs → h.blk.get c = some y → base0.cb ≠ bs.cb := by
  intro b0 base0 c bs y h1 h2 h3 h4 h5;obtain ⟨c1, e1, e2⟩ := back b0 base0 h1;obtain ⟨c2, y2, e3, e4⟩ := preLive b0 h2;rw [e1] at e3; cases e3;exact hr.apart c1 c base0 bs (fun e => h3 (e ▸ List.mem_of_getElem? e1)) e2 h4 (by rw [e4]; exact Option.some_ne_none _) (by rw [h5]; exact Option.some_ne_none _)
 have mixed : ∀ i c bs c' bs' y' x, (β ++ C8 h.nx (n1 - n0))[i]? = some c → (A2 post).get i = some x → τ c = some bs → c' ∉ β → c' < h.nx → h.blk.get c' = some y' → τ c' = some bs' → bs.cb ≠ bs'.cb := by
  intro i c bs c' bs' y' x hi hx hc h3 h4 h5 h6;rw [τold c' h4] at h6;have hσ := baseOf i c bs hi hc;rcases q4.new i bs hσ with hq | ⟨a1, a2, a3 | ⟨b0, base0, e1, e2, e3⟩⟩
  ·rcases q4.live i (by show (A2 post).get i ≠ none; rw [hx]; exact Option.some_ne_none _) with l | ⟨l1, l2⟩
   ·exact given i bs c' bs' y' hq l h3 h6 h5
   ·simp only at l1;rw [hback i l1] at hq; cases hq
  ·have := hr.lt c' bs' h6; omega
  ·rw [← e3]; exact given b0 base0 c' bs' y' e1 e2 h3 h6 h5
 refine ⟨τ, EY (U := U) (W := Cv U FF θ hok) hV hK hβ (fun k a hk => hk) res v' q2, ⟨?_, ?_, ?_, ?_, ?_⟩, ⟨hle, by show h.nx ≤ h.nx + _; omega, ?_, q4.calm, ?_, ⟨β, rfl, ?_⟩, ?_, ?_⟩⟩
 ·intro c bs hc;by_cases d : h.nx ≤ c ∧ c < h.nx + (n1 - n0)
  ·have : τ c = σ (n0 + (c - h.nx)) := by show (if _ then _ else _) = _; rw [if_pos d]
   rw [this] at hc;exact HR.lt (U := (Cv U FF θ hok).toVals) q3 _ bs hc
  ·have : τ c = ρ c := by show (if _ then _ else _) = _; rw [if_neg d]
   rw [this] at hc;have := hr.lt c bs hc;have := q4.calm.size;omega
 ·intro c bs y hc hy;rcases kinds c y hy with ⟨i, x, a1, a2, a3⟩ | ⟨a1, a2, a3⟩
  ·exact PR (U := U) (W := Cv U FF θ hok) hV hK hβ (fun k a hk => hk) a3 (HR.blk (U := (Cv U FF θ hok).toVals) q3 i bs x (baseOf i c bs a1 hc) a2)
  ·rw [τold c a2] at hc;have hk := q4.kept bs.cb (hr.lt c bs hc) (fun b0 base0 hb0 hl0 => given b0 base0 c bs y hb0 hl0 a1 hc a3)
   rw [hk];exact (hr.blk c bs y hc a3).mono hle
 ·intro c c' bs bs' hne hc hc' h1 h2;cases hy : t.get c with
  | none => exact absurd hy h1
  | some y =>
   cases hy' : t.get c' with
   | none => exact absurd hy' h2
   | some y' =>
    rcases kinds c y hy with ⟨i, x, a1, a2, a3⟩ | ⟨a1, a2, a3⟩
    ·rcases kinds c' y' hy' with ⟨i', x', b1, b2, b3⟩ | ⟨b1, b2, b3⟩
     ·exact HR.apart (U := (Cv U FF θ hok).toVals) q3 i i' bs bs' (fun e => by subst e; rw [a1] at b1; cases b1; exact hne rfl) (baseOf i c bs a1 hc) (baseOf i' c' bs' b1 hc') (by rw [a2]; exact Option.some_ne_none _) (by rw [b2]; exact Option.some_ne_none _)
     ·exact mixed i c bs c' bs' y' x a1 a2 hc b1 b2 b3 hc'
    ·rcases kinds c' y' hy' with ⟨i', x', b1, b2, b3⟩ | ⟨b1, b2, b3⟩
     ·exact (mixed i' c' bs' c bs y x' b1 b2 hc' a1 a2 a3 hc).symm
     ·rw [τold c a2] at hc;rw [τold c' b2] at hc';exact hr.apart c c' bs bs' hne hc hc' (by rw [a3]; exact Option.some_ne_none _) (by rw [b3]; exact Option.some_ne_none _)
 ·intro k arr hk;exact HR.imm (U := (Cv U FF θ hok).toVals) q3 k arr hk
 ·intro k arr c bs hk hc hl;cases hy : t.get c with
  | none => exact absurd hy hl
  | some y =>
   rcases kinds c y hy with ⟨i, x, a1, a2, a3⟩ | ⟨a1, a2, a3⟩
   ·exact HR.off (U := (Cv U FF θ hok).toVals) q3 k arr i bs hk (baseOf i c bs a1 hc) (by rw [a2]; exact Option.some_ne_none _)
   ·rw [τold c a2] at hc;have hl3 : h.blk.get c ≠ none := by rw [a3]; exact Option.some_ne_none _
    rcases q4.imm k arr hk with e | e | ⟨b0, base0, e1, e2, e3⟩
    ·exact hr.off k arr c bs e hc hl3
    ·have := hr.lt c bs hc; omega
    ·rw [← e3]; exact (given b0 base0 c bs y e1 e2 a1 hc a3).symm
 ·intro c bs hc;by_cases d : h.nx ≤ c ∧ c < h.nx + (n1 - n0)
  ·have e : τ c = σ (n0 + (c - h.nx)) := by show (if _ then _ else _) = _; rw [if_pos d]
   rw [e] at hc;refine .inr ⟨d.1, d.2, ?_⟩;rcases q4.new _ bs hc with hq | ⟨_, _, a3 | ⟨b0, base0, e1, e2, e3⟩⟩
   ·rw [hback _ (by omega)] at hq; cases hq
   ·exact .inl a3
   ·obtain ⟨c1, x1, x2⟩ := back b0 base0 e1;obtain ⟨c2, y2, x3, x4⟩ := preLive b0 e2;rw [x1] at x3; cases x3;exact .inr ⟨c1, base0, x2, by rw [x4]; exact Option.some_ne_none _, e3⟩
  ·have e : τ c = ρ c := by show (if _ then _ else _) = _; rw [if_neg d]
   rw [e] at hc;exact .inl hc
 ·intro k hk hno;refine q4.kept k hk (fun b0 base0 e1 e2 => ?_)
  obtain ⟨c1, x1, x2⟩ := back b0 base0 e1;obtain ⟨c2, y2, x3, x4⟩ := preLive b0 e2;rw [x1] at x3; cases x3;exact hno c1 base0 x2 (by rw [x4]; exact Option.some_ne_none _)
 ·intro b hb hrange;refine t1 b (fun hm => ?_)
  rcases List.mem_append.1 hm with q | q
  ·exact hb q
  ·obtain ⟨i, hi, e⟩ := List.getElem_of_mem q;have hi' : (C8 h.nx (n1 - n0))[i]? = some b := by simp [hi, e]
   rw [Ky] at hi';split at hi'
   ·cases hi';simp only at hrange;omega
   ·cases hi'
 ·intro b hb;show h.blk.get b ≠ none ∨ (h.nx ≤ b ∧ b < h.nx + (n1 - n0));cases hy : t.get b with
  | none => exact absurd hy hb
  | some y =>
   rcases kinds b y hy with ⟨i, x, a1, a2, a3⟩ | ⟨a1, a2, a3⟩
   ·rw [gb] at a1;by_cases d : i < n0
    ·rw [if_pos d] at a1;rcases q4.live i (by show (A2 post).get i ≠ none; rw [a2]; exact Option.some_ne_none _) with l | ⟨l1, _⟩
     ·obtain ⟨c2, y2, x3, x4⟩ := preLive i l;rw [a1] at x3; cases x3;exact .inl (by rw [x4]; exact Option.some_ne_none _)
     ·simp only at l1; omega
    ·rw [if_neg d] at a1;split at a1
     ·cases a1; exact .inr (by omega)
     ·cases a1
   ·exact .inl (by rw [a3]; exact Option.some_ne_none _)
 ·intro k arr hk;rcases q4.imm k arr hk with e | e | ⟨b0, base0, e1, e2, e3⟩
  ·exact .inl e
  ·exact .inr (.inl e)
  ·obtain ⟨c1, x1, x2⟩ := back b0 base0 e1;obtain ⟨c2, y2, x3, x4⟩ := preLive b0 e2;rw [x1] at x3; cases x3;exact .inr (.inr ⟨c1, base0, x2, by rw [x4]; exact Option.some_ne_none _, e3⟩)
theorem WM {U : Unk} {E : Env} (hE : OK E) {F : Nat → D → D} (hF : U.V.fn = F) {s : Sm} (hs : s.Valid E.P F) {θ : List SE} {β : List Nat} {args : List AV} {args' : List Value} {h h' : Aa} {v : AV} {ρ : Ren} {w : World}
  (hx : Wj E s θ β args h = some (v, h')) (ha : VL ρ args args') (hr : HR ρ h.blk.get w) (hwf : ∀ b, h.nx ≤ b → h.blk.get b = none) (hfree : A9 ρ h.nx h'.nx) (c0 : Frame) (base : List Frame) :
  ∃ τ v' w', BS E.P (lone (Frame.enter E.P s.f args'.toArray .normal) (c0 :: base) w) c0 base true v' w' ∧ VR τ v v' ∧ HR τ h'.blk.get w' ∧ Ext ρ τ h h' w w' := by
 unfold Wj at hx;split at hx
 ·rename_i hc;split at hx
  ·rename_i t ht;simp only [Option.some.injEq, Prod.mk.injEq] at hx;obtain ⟨rfl, rfl⟩ := hx;obtain ⟨hc, hlen⟩ := Av hc;obtain ⟨hc, hfc⟩ := Av hc;obtain ⟨hc, hlt⟩ := Av hc;obtain ⟨hc, hnd⟩ := Av hc;obtain ⟨ho1, ho2⟩ := Av hc;obtain ⟨l1, ho1, hl1⟩ := LZ ho1;obtain ⟨l2, ho2, hl2⟩ := LZ ho2;have hlen := CZ hlen;have hlt := Kn hlt;have hV : (Cv U s.facts θ (BJ hfc)).V = U.V.inst θ := rfl;have hK : (Cv U s.facts θ (BJ hfc)).K = U.K := rfl;have hbl : s.pre.length = β.length := (Df (U := U) (W := Cv U s.facts θ (BJ hfc)) hV hK s.pre β _ ho2 hl2).1;have p1 := ES (U := U) (W := Cv U s.facts θ (BJ hfc)) hV hK s.args args _ args' ho1 hl1 ha;have p2 := HR.toPat (U := U) (W := Cv U s.facts θ (BJ hfc)) hV hK hE hr ho2 hl2 hnd
   have hback : ∀ b, s.pre.length ≤ b → (ρ.back β).m b = none := by
    intro b hb;have : β[b]? = none := List.getElem?_eq_none (by omega)
    simp [Ren.back, this]
   obtain ⟨σ, v', w', q1, q2, q3, q4⟩ := hs (U := Cv U s.facts θ (BJ hfc)) hE.kd hF (BJ hfc) (ρ.back β) w args' p1 p2 hback c0 base;obtain ⟨τ, r1, r2, r3⟩ := RK (U := U) (E := E) (FF := s.facts) (BJ hfc) rfl rfl ho2 hl2 hnd hlt hlen ht hr hwf hfree q2 q3 q4;refine ⟨τ, v', w', q1, r1, r2, { r3 with log := ⟨SM h.blk t β, rfl, fun b hb hr => ?_⟩ }⟩
   by_cases hm : b ∈ β
   ·exact M3 hm hb
   ·obtain ⟨l, e1, e2⟩ := r3.log;have e1 : β ++ h.log = l ++ h.log := e1;have := List.append_cancel_right e1;subst this;exact e2 b hm hr
  ·cases hx
 ·cases hx
theorem BG [Facts] {E : Env} : ∀ (l : List (Option Aj)) (i : Nat) (m : Bd) (h : Aa), h.nx ≤ (AP E l i m h).2.nx
 | [], _, _, _ => Nat.le_refl _
 | none :: r, i, m, h => by
  simp only [AP];split
  ·exact BG r (i + 1) m h
  ·exact Nat.le_trans (Nat.le_succ _) (BG (E := E) r (i + 1) (m.blk i h.nx) { h with nx := h.nx + 1 })
 | some x :: r, i, m, h => by
  simp only [AP];split
  ·split
   ·exact BG r (i + 1) _ h
   ·exact BG r (i + 1) _ h
  ·split
   ·rename_i e y;have := BG (E := E) r (i + 1) ((m.blk i h.nx).var y .nilL) (h.new (.arr e .nilL));exact Nat.le_trans (Nat.le_succ _) this
   ·exact BG r (i + 1) _ h
theorem Bq {U : Unk} {E : Env} {ρ : Ren} {w : World} : ∀ (l : List (Option Aj)) (i : Nat) (m : Bd) (h : Aa), HR ρ h.blk.get w → WF h → A9 ρ h.nx (AP E l i m h).2.nx →
  HR ρ (AP E l i m h).2.blk.get w ∧ Ext ρ ρ h (AP E l i m h).2 w w ∧ WF (AP E l i m h).2
 | [], _, _, h, hr, hwf, _ => ⟨hr, Ext.refl _ _ _, hwf⟩
 | none :: r, i, m, h, hr, hwf, hf => by
  simp only [AP] at hf ⊢;split at hf
  ·exact Bq r (i + 1) m h hr hwf hf
  ·have hn := BG (E := E) r (i + 1) (m.blk i h.nx) { h with nx := h.nx + 1 }
   have e0 : Ext ρ ρ h { h with nx := h.nx + 1 } w w := ⟨Ren.le_refl ρ, Nat.le_succ _, fun _ _ e => .inl e, GQ.refl w, fun _ _ _ => rfl, ⟨[], rfl, fun _ _ _ => rfl⟩, fun _ e => .inl e, fun _ _ e => .inl e⟩
   obtain ⟨q1, q2, q3⟩ := Bq r (i + 1) (m.blk i h.nx) { h with nx := h.nx + 1 } hr (e0.wf hwf) (e0.free hf)
   exact ⟨q1, e0.trans q2 hf, q3⟩
 | some x :: r, i, m, h, hr, hwf, hf => by
  simp only [AP] at hf ⊢;split at hf
  ·split at hf
   ·exact Bq r (i + 1) _ h hr hwf hf
   ·exact Bq r (i + 1) _ h hr hwf hf
  ·split at hf
   ·rename_i e y;have hn := BG (E := E) r (i + 1) ((m.blk i h.nx).var y .nilL) (h.new (.arr e .nilL));have hn1 : (h.new (.arr e .nilL)).nx = h.nx + 1 := rfl;obtain ⟨p1, p2⟩ := HR.phantom hr (hf h.nx (Nat.le_refl _) (by omega)) (.arr e .nilL)
    obtain ⟨q1, q2, q3⟩ := Bq r (i + 1) _ _ p1 (p2.wf hwf) (p2.free hf);exact ⟨q1, p2.trans q2 hf, q3⟩
   ·exact Bq r (i + 1) _ h hr hwf hf
theorem UQ {U : Unk} {E : Env} (hE : OK E) {w : World} {p a a' : AV} {v : Value} {ρ : Ren} {h h' : Aa} (hr : HR ρ h.blk.get w) (ha : VR ρ a v) (hx : QP E p a h = (a', h')) :
  h'.nx = h.nx ∧ ∃ σ : Ren, VR σ a' v ∧ HR σ h'.blk.get w ∧ Ext ρ σ h h' w w := by
 unfold QP at hx;split at hx
 ·rename_i qs xs;split at hx;rename_i xs' h1 hf;cases hx;cases ha with
  | agg _ l' e1 e2 =>
   obtain ⟨hn, σ, q1, q2, q3⟩ := JF hE hr ⟨e1, e2⟩ hf;exact ⟨hn, σ, .agg xs' l' q1.1 q1.2, q2, q3⟩
 ·exact ⟨Nn hx, JG hE hr ha hx⟩
theorem Rx {U : Unk} {E : Env} (hE : OK E) {w : World} : ∀ {ps l l' : List AV} {vs : List Value} {ρ : Ren} {h h' : Aa}, HR ρ h.blk.get w → VL ρ l vs → PY E ps l h = (l', h') →
  h'.nx = h.nx ∧ ∃ σ : Ren, VL σ l' vs ∧ HR σ h'.blk.get w ∧ Ext ρ σ h h' w w
 | [], l, l', vs, ρ, h, h', hr, hv, hx => by
  cases l <;> (simp only [PY] at hx; cases hx; exact ⟨rfl, ρ, hv, hr, Ext.refl _ _ _⟩)
 | k :: ks, [], l', vs, ρ, h, h', hr, hv, hx => by
  simp only [PY] at hx; cases hx; exact ⟨rfl, ρ, hv, hr, Ext.refl _ _ _⟩
 | k :: ks, a :: l, l', vs, ρ, h, h', hr, hv, hx => by
  obtain ⟨v, r, rfl, h1, h2⟩ := hv.cons_inv;simp only [PY] at hx;generalize hf1 : QP E k a h = p1 at hx;obtain ⟨a1, h3⟩ := p1;simp only at hx;generalize hf2 : PY E ks l h3 = p2 at hx;obtain ⟨l1, h4⟩ := p2;simp only at hx;cases hx;obtain ⟨hn1, σ, q1, q2, q3⟩ := UQ hE hr h1 hf1;obtain ⟨hn2, τ, r1, r2, r3⟩ := Rx hE q2 (h2.mono q3.le) hf2;refine ⟨by omega, τ, VL.cons (q1.mono r3.le) r1, r2, q3.trans r3 (fun b hb hb2 => by omega)⟩
theorem BL {U : Unk} {E : Env} (hE : OK E) {w : World} : ∀ (l : List (Option Aj)) (i : Nat) (b : T Nat) (h : Aa) (ρ : Ren), HR ρ h.blk.get w → (Fj E l i b h).nx = h.nx ∧ ∃ σ : Ren, HR σ (Fj E l i b h).blk.get w ∧ Ext ρ σ h (Fj E l i b h) w w
 | [], _, _, h, ρ, hr => ⟨rfl, ρ, hr, Ext.refl _ _ _⟩
 | some (.arr e x) :: r, i, b, h, ρ, hr => by
  have next := BL hE r (i + 1) b h ρ hr;simp only [Fj];split
  ·rename_i c ks hbc hke;split
   ·split
    ·obtain ⟨n1, σ, q1, q2⟩ := L6 (e := e) (b := c) hE hr;obtain ⟨n2, τ, r1, r2⟩ := BL hE r (i + 1) b (GN E e c h) σ q1;exact ⟨by omega, τ, r1, q2.trans r2 (fun d h1 h2 => by omega)⟩
    ·exact next
   ·exact next
  ·exact next
 | none :: r, i, b, h, ρ, hr => BL hE r (i + 1) b h ρ hr
 | some (.cells _ _) :: r, i, b, h, ρ, hr => BL hE r (i + 1) b h ρ hr
 | some (.map _ _) :: r, i, b, h, ρ, hr => BL hE r (i + 1) b h ρ hr
 | some (.dmap _ _ _) :: r, i, b, h, ρ, hr => BL hE r (i + 1) b h ρ hr
 | some (.loop _ _ _ _ _ _ _ _ _) :: r, i, b, h, ρ, hr => BL hE r (i + 1) b h ρ hr
 | some (.deferred _) :: r, i, b, h, ρ, hr => BL hE r (i + 1) b h ρ hr
 | some (.mapIter _ _ _ _) :: r, i, b, h, ρ, hr => BL hE r (i + 1) b h ρ hr
theorem TO {U : Unk} {E : Env} (hE : OK E) {w : World} {s : Sm} {l l' : List AV} {vs : List Value} {ρ : Ren} {h h' : Aa} (hr : HR ρ h.blk.get w) (hv : VL ρ l vs) (hx : NX E s l h = (l', h')) :
  h'.nx = h.nx ∧ ∃ σ : Ren, VL σ l' vs ∧ HR σ h'.blk.get w ∧ Ext ρ σ h h' w w := by
 unfold NX at hx;split at hx;rename_i args h1 hf;cases hx;obtain ⟨n1, σ, q1, q2, q3⟩ := Rx hE hr hv hf;obtain ⟨n2, τ, r1, r2⟩ := BL hE s.pre 0 (FV E s.pre h1 (D8 s.args l' ⟨.nil, .nil⟩)).b h1 σ q2;exact ⟨by omega, τ, q1.mono r2.le, r1, q3.trans r2 (fun b hb hb2 => by omega)⟩
theorem JZ {U : Unk} {E : Env} (hE : OK E) {F : Nat → D → D} (hF : U.V.fn = F) {f : FuncId} {args : List AV} {args' : List Value} {h g : Aa} {v : AV} {ρ : Ren} {w : World} : ∀ {l : List Sm}, (∀ s ∈ l, s.Valid E.P F) → Mf E l f args h = some (v, g) → VL ρ args args' → HR ρ h.blk.get w → WF h → A9 ρ h.nx g.nx →
  ∀ (c0 : Frame) (base : List Frame), ∃ σ v' w', BS E.P (lone (Frame.enter E.P f args'.toArray .normal) (c0 :: base) w) c0 base true v' w' ∧ VR σ v v' ∧ HR σ g.blk.get w' ∧ Ext ρ σ h g w w'
 | [], _, hx, _, _, _, _ => by simp [Mf] at hx
 | s :: r, hO, hx, ha, hr, hwf, hfree => by
  simp only [Mf] at hx;split at hx
  ·rename_i hb;have e1 := AA hb;subst e1;split at hx
   ·rename_i x hap;cases hx;unfold Ui at hap;split at hap;rename_i args0 h0 hfz;split at hap;rename_i m h1 hbd;obtain ⟨hn0, σ0, z1, z2, z3⟩ := TO hE hr ha hfz;have hwf0 : WF h0 := z3.wf hwf
    have hnx : h1.nx ≤ g.nx := by
     unfold Wj at hap;split at hap
     ·split at hap
      ·simp only [Option.some.injEq, Prod.mk.injEq] at hap;obtain ⟨_, rfl⟩ := hap;show h1.nx ≤ h1.nx + _;omega
      ·cases hap
     ·cases hap
    have e2 : (AP E s.pre 0 (FV E s.pre h0 (D8 s.args args0 ⟨.nil, .nil⟩)) h0).2 = h1 := by rw [hbd]
    have hfree0 : A9 σ0 h0.nx g.nx := z3.free hfree;obtain ⟨q1, q2, q3⟩ := Bq (E := E) s.pre 0 (FV E s.pre h0 (D8 s.args args0 ⟨.nil, .nil⟩)) h0 z2 hwf0 (fun b b1 b2 => hfree0 b b1 (by rw [e2] at b2; omega))
    rw [e2] at q1 q2 q3;intro c0 base;obtain ⟨τ, v', w', r1, r2, r3, r4⟩ := WM hE hF (hO s (by simp)) hap z1 q1 q3 (q2.free hfree0) c0 base
    exact ⟨τ, v', w', r1, r2, r3, z3.trans (q2.trans r4 hfree0) hfree⟩
   ·exact JZ hE hF (fun e he => hO e (by simp [he])) hx ha hr hwf hfree
  ·exact JZ hE hF (fun e he => hO e (by simp [he])) hx ha hr hwf hfree
end Go.AE
namespace Go.AE
def Gr [Facts] (E : Env) (s : AS) (f : Operand) (params : List Tmp) (assign body : Code) (k : List AI) : Option (FuncId × List AV × Aa × AF) :=
 match RA s.fr s.h with
 | some (d, h1, mark) => match Ag s.fr.tmps f with
  | .func fn first captured => match D4 E fn captured (first ++ [.func (.yield h1.nx) [] []]) (h1.new (.loop .ready none s.fr.fn s.fr.nt s.fr.tmps params assign body d)) with
   | .enter g args _ => some (g, args, h1.new (.loop .ready none s.fr.fn s.fr.nt s.fr.tmps params assign body d), { s.fr with todo := .inRange h1.nx :: k, defers := mark ++ s.fr.defers })
   | _ => none
  | _ => none
 | none => none
variable [U : Unk]
section
variable {E : Env} (hE : OK E) {ρ : Ren} {w : World} {c : Frame} {ccs : List Frame} {s : AS}
include hE
theorem PP {base : List Frame} {fr0 : Frame} {w0 : World} {h h' : Aa} {sm : Sem Next} {g : FuncId} {args : List AV} {f : AF}
  (hst : (stepG E.P true { frame := fr0, callers := ccs ++ base, status := .running, dying := none } w0).bare = (stepG.apply E.P true c (ccs ++ base) none sm w).bare)
  (hd : Et E ρ h w sm (.enter g args h')) (hf : FrR ρ f c) : ∃ args' : List Value, VL ρ args args' ∧ step E.P (lone fr0 (ccs ++ base) w0) = .next (lone (Frame.enter E.P g args'.toArray .normal) (c :: (ccs ++ base)) w) := by
 obtain ⟨rfl, args', ha, hrun⟩ := hd;refine ⟨args', ha, step_lone_go ?_⟩;rw [hst];have ht := hf.todo;simp only [stepG.apply, Sem.runT_eq, hrun, if_true, GStep.bare_after, GStep.bare_go];generalize c.todo = td at ht;generalize f.todo = fd at ht;cases ht with
 | nil => rfl
 | cons a _ => cases a <;> rfl
 | rest =>
  generalize hq : U.R = r;cases r with
  | nil => rfl
  | cons x k => cases x <;> first | rfl | exact absurd hq (U.hR _ _ _ _ _)
theorem Np (hsr : SR ρ s c ccs w) (hm : c.mode = .run) {fo : Operand} {params : Array Tmp} {assign body : Code} {k : List AI} {k' : List Item} (hk : IL ρ k k') (ht : c.todo = .code (.rangeFunc fo params assign body) :: k')
  {g : FuncId} {args : List AV} {h3 : Aa} {fr' : AF} (hx : Gr E s fo params.toList assign body k = some (g, args, h3, fr')) (hfree : A9 ρ s.h.nx h3.nx) (base : List Frame) :
  ∃ σ c' args' w1, step E.P (lone c (ccs ++ base) w) = .next (lone (Frame.enter E.P g args'.toArray .normal) (c' :: (ccs ++ base)) w1) ∧ VL σ args args' ∧ FrR σ fr' c' ∧ HR σ h3.blk.get w1 ∧ Ext ρ σ s.h h3 w w1 := by
 unfold Gr at hx;split at hx
 ·rename_i d h1 mark hcoll;split at hx
  ·rename_i fn first captured hev;split at hx
   ·rename_i g2 args2 h32 hiv;cases hx;have hn1 : (h1.new (.loop .ready none s.fr.fn s.fr.nt s.fr.tmps params.toList assign body d)).nx = h1.nx + 1 := rfl;obtain ⟨σ, w1, bd, mark', q1, q2, q3, q4, q5⟩ := NP (E := E) hsr.h hsr.fr hcoll (fun b h1 h2 => hfree b h1 (by simp only [hn1]; omega))
    have hfr := hsr.fr.mono q5.le;have hfree1 : σ h1.nx = none := (q5.free hfree) h1.nx (Nat.le_refl _) (by simp only [hn1]; omega)
    have hle := Ren.le_upd hfree1 ⟨w1.heap.size, 0, 0⟩;obtain ⟨p1, p2⟩ := q4.new hfree1 (.loop .ready none s.fr.fn s.fr.nt s.fr.tmps params.toList assign body d)
     (.loop { state := .ready, pending := none, fn := c.fn, tmps := c.tmps, params := params, assign := assign, body := body, defers := bd.cb }) 0
     ⟨c.tmps, bd, hle.m _ _ q2, hfr.tm.mono hle, by rw [hfr.fn]⟩
     { w1 with heap := w1.heap.push (.loop { state := .ready, pending := none, fn := c.fn, tmps := c.tmps, params := params, assign := assign, body := body, defers := bd.cb }) } rfl rfl rfl rfl
    have hu : (σ.upd h1.nx ⟨w1.heap.size, 0, 0⟩) h1.nx = some ⟨w1.heap.size, 0, 0⟩ := by simp [Ren.upd]
    have hrun : (Instr.enterLoop c.fn c.tmps params assign body c.roundOf).run E.P w = .ok (w1.heap.size, mark') { w1 with heap := w1.heap.push (.loop { state := .ready, pending := none, fn := c.fn, tmps := c.tmps, params := params, assign := assign, body := body, defers := bd.cb }) } := by
     cases hro : c.roundOf with
     | some l =>
      rw [hro] at q1;simp only [JW, Sem.run_bind, Sem.run_pure] at q1;simp only [Instr.enterLoop, Sem.run_bind, Sem.run_pure, run_newObj, Result.andThen_ok];cases hG : (Instr.getLoop l).run E.P w with
      | ok a w2 =>
       rw [hG] at q1;simp only [Result.andThen_ok, Result.ok.injEq, Prod.mk.injEq] at q1 ⊢;obtain ⟨⟨e1, e2⟩, e3⟩ := q1;rw [e1, e2, e3];exact ⟨⟨rfl, rfl⟩, rfl⟩
      | halt x w2 => rw [hG] at q1; cases q1
     | none =>
      rw [hro] at q1;simp only [JW, Sem.run_bind, Sem.run_pure, run_newObj, Result.andThen_ok, Result.ok.injEq, Prod.mk.injEq] at q1;obtain ⟨⟨e1, e2⟩, e3⟩ := q1;simp only [Instr.enterLoop, Sem.run_bind, Sem.run_pure, run_newObj, Result.andThen_ok];rw [← e1, ← e2, ← e3]
    have hf2 := hfr.mono hle;have hv := hf2.evR fo;rw [hev] at hv;generalize hcv : c.eval fo = cv at hv;cases hv with
    | func _ fn' _ _ f' c' r1 r2 r3 r4 r5 =>
     have ha : VL (σ.upd h1.nx ⟨w1.heap.size, 0, 0⟩) (first ++ [.func (.yield h1.nx) [] []]) (f' ++ [.func (.yield w1.heap.size) #[] #[]]) :=
      VL.append ⟨r2, r3⟩ (VL.cons (.func _ _ [] [] [] [] ⟨_, hu, rfl⟩ rfl (by simp) rfl (by simp)) (VL.nil _))
     have hdoes := DX hE p1 r1 ⟨r4, r5⟩ ha;rw [hiv] at hdoes
     have hfrr : FrR (σ.upd h1.nx ⟨w1.heap.size, 0, 0⟩) { s.fr with todo := .inRange h1.nx :: k, defers := mark ++ s.fr.defers } { c with todo := .inRangeFunc w1.heap.size :: k', defers := mark' ++ c.defers } :=
      ⟨hf2.fn, hf2.tm, .cons (.inRange _ _ hu) ((hk.mono q5.le).mono hle), (q3.mono hle).append hf2.defers, hf2.mode, hf2.kind, hf2.round⟩
     obtain ⟨args', e1, e2⟩ := PP hE (base := base) (c := { c with todo := .inRangeFunc w1.heap.size :: k', defers := mark' ++ c.defers })
      (f := { s.fr with todo := .inRange h1.nx :: k, defers := mark ++ s.fr.defers }) (I1 hm ht hrun) (hdoes.congr (by
       have hcv2 : c.eval (.const (.func (.yield w1.heap.size) #[] #[])) = .func (.yield w1.heap.size) #[] #[] := rfl;simp [resolve, hcv, hcv2, Deferred.ofValue])) hfrr
     exact ⟨_, _, args', _, e2, e1, hfrr, p1, q5.trans p2 hfree⟩
   ·cases hx
  ·cases hx
 ·cases hx
end
end Go.AE
namespace Go.AE
def OE : List Orc → FuncId → List AV → Aa → Option (Bool × AV × Aa)
 | [], _, _, _ => none
 | e :: r, f, args, h => match Nat.beq e.f f && Nat.beq e.nx h.nx && GB e.args args && Py e.part h.blk with
  | true => some (e.ok, e.v, Bf h { blk := e.out, nx := e.nx', log := e.wr })
  | false => OE r f args h
def K4 [Facts] (E : Env) (f : FuncId) (args : List AV) (h : Aa) : Option (Bool × AV × Aa) :=
 match OE E.orc f args h with
 | some r => some r
 | none => match Mf E E.sms f args h with
  | some (v, g) => some (true, v, g)
  | none => none
def QM (h : Aa) : AV → AV
 | .slice b 0 n es => match h.blk.get b with
  | some (.arr _ _) => .asl b es (.c n) (.bc false)
  | _ => .slice b 0 n es
 | x => x
def eQ (h : Aa) : AV → Bool
 | .slice b 0 _ _ => match h.blk.get b with
  | some (.arr _ _) => true
  | _ => false
 | _ => false
def T.anyA {α : Type} (f : α → Bool) : T α → Bool
 | .nil => false
 | .node v l r => (match v with | some x => f x | none => false) || l.anyA f || r.anyA f
def Xc (h : Aa) (fr : AF) : AF := match fr.tmps.anyA (eQ h) with
 | true => { fr with tmps := fr.tmps.mapA (QM h) }
 | false => fr
def UT [Facts] (E : Env) (s : AS) (all : Array Oper) (o : Oper) (r : List Oper) : Option AS :=
 match o.op, r, o.dst with
 | .slice t x (some lo) none none, o2 :: _, some d => match o2.op with
  | .call c => match c.callee, c.argTypes.toList, c.args.toList with
   | .builtin .clear, [t1], [.tmp d'] => match Ag s.fr.tmps x, toI (Ag s.fr.tmps lo) with
    | .asl b es n nl, some (_, l) => match E.desc t, E.desc t1, s.h.blk.get b with
     | some (.slice e), some (.slice e1), some (.arr e2 y) => match E.zero e, E.kinds e with
      | some z, some ks => match Nat.beq d d' && (Nat.beq e e1 && (Nat.beq e e2 && (Nat.beq z.cells.length es && (Nat.beq es ks.length && (DM z.cells && (E.szIs e es && (DW n y && inB l n n))))))) with
       | true => match Dj all o s.fr.tmps, Cr s.fr .top with
        | some true, some fr1 => match Dj all o2 fr1.tmps, Cr fr1 .top with
         | some true, some fr2 => some { s with fr := fr2, h := s.h.put b (.arr e (.sub y (.c 0) l)) }
         | _, _ => none
        | _, _ => none
       | false => none
      | _, _ => none
     | _, _, _ => none
    | _, _ => none
   | _, _, _ => none
  | _ => none
 | _, _, _ => none
def T9 [Facts] (E : Env) (s : AS) : Option AS :=
  match E.orc.isEmpty && E.sms.isEmpty with
  | true => none
  | false => match s.fr.mode with
    | .run => match s.fr.todo with
      | .ops all (o :: r) :: _ => match UT E s all o r with
       | some s' => some s'
       | none => match JM o.op with
        | false => match Dj all o s.fr.tmps with
          | some true => match aop E s.fr.tmps s.h o.op with
            | .enter g args _ => match K4 E g args s.h with
              | some (true, v, h) => match Cr s.fr v with
                | some fr => some { s with fr := Xc h fr, h }
                | none => none
              | _ => none
            | _ => none
          | _ => none
        | true => none
      | .code (.rangeFunc f params assign body) :: k => match Gr E s f params.toList assign body k with
        | some (g, args, h3, fr') => match K4 E g args h3 with
          | some (true, v, h) => match Nat.ble h3.nx h.nx, Cr fr' v with
            | true, some fr => some { s with fr := Xc h fr, h }
            | _, _ => none
          | _ => none
        | none => none
      | _ => none
    | _ => none
def Fs [Facts] (E : Env) : Nat → FuncId → Bool → AS → Option (Bool × AV × Aa)
  | 0, _, _, _ => none
  | f + 1, f0, rd, s => match T9 E s with
   | some s' => (match Nat.ble s.h.nx s'.h.nx with
     | true => Fs E f f0 rd s'
     | false => none)
   | none => match Fz E s with
    | .next s' => match Nat.ble s.h.nx s'.h.nx with
      | true => Fs E f f0 rd s'
      | false => none
    | .done ok v h => match Nat.ble s.h.nx h.nx && Nat.beq s.fr.fn f0 && (rd || s.fr.round.isNone) with
      | true => some (ok, v, h)
      | false => none
    | .draw s ops k =>
      match CW E (fun a h => match a with
        | .enter g args => match K4 E g args h with
          | some r => some r
          | none => match Bu E g args .normal with
            | some fr => Fs E f fr.fn true { fr, cs := [], h }
            | none => none
        | .round l args => match FqQ l args h with
          | some fr => Fs E f fr.fn true { fr, cs := [], h }
          | none => none) ops s.fr.nt ops.toList [] s.fr.tmps s.h with
      | some (none, tmps, h) => Fs E f f0 rd { s with fr := { s.fr with tmps, todo := k }, h }
      | some (some v, tmps, h) => Fs E f f0 rd { s with fr := { s.fr with tmps, todo := .dead :: k, mode := .panic [(v, false)] }, h }
      | none => none
    | .bad _ => none
def XM [Facts] (E : Env) (n : Nat) (f : FuncId) (args : List AV) (h : Aa) : Option (Bool × AV × Aa) :=
 match Bu E f args .normal with
 | some fr => Fs E n f false { fr, cs := [], h }
 | none => none
def AY [Facts] (E : Env) (N : Nat) (e : Orc) : Bool :=
 match XM E N e.f e.args { blk := e.part, nx := e.nx, log := [] } with
 | some (ok, v, g) => (ok == e.ok) && BB v e.v && Py e.out g.blk && Nat.beq g.nx e.nx' && V6 e.nx e.wr g.log
 | none => false
section
variable [U : Unk] {E : Env} (hE : OK E) {ρ : Ren} {h : Aa} {w : World}
include hE
theorem VO (hr : HR ρ h.blk.get w) {t t1 ty e : TypeId} {ks : List Kd} {z : AV} {b es : Nat} {n nl y l : SE} {xv lov : Value} {kd : IntKind} (hd : E.desc t = some (.slice e)) (hd1 : E.desc t1 = some (.slice e)) (hz : E.zero e = some z) (hk : E.kinds e = some ks)
  (hzl : z.cells.length = es) (hks : es = ks.length) (hza : DM z.cells = true) (hx : VR ρ (.asl b es n nl) xv) (hb : h.blk.get b = some (.arr e y)) (hs : E.szIs e es = true) (hn : DW n y = true) (hlo : lov = .int kd (Ac U.V l)) (hin : inB l n n = true) :
  ∃ v w', (Instr.sliceAt t xv (some lov) none none).run E.P w = .ok v w ∧ (Builtin.clear_ #[t1] ty #[v]).run E.P w = .ok (.tuple #[]) w' ∧ HR ρ (h.put b (.arr e (.sub y (.c 0) l))).blk.get w' ∧ Ext ρ ρ h (h.put b (.arr e (.sub y (.c 0) l))) w w' := by
 obtain ⟨b0, b1, b2⟩ := IB hin;have hfl := Ex hn;have hu := hE.run_und hd (w := w);have hu1 := hE.run_und hd1 (w := w);have e0 : Ac U.V (.c 0) = 0 := rfl
 have hrl : (Ab U.V (.sub y (.c 0) l)).rows.length = (Ac U.V l).toNat := by
  rw [DP, e0];rw [Al] at hfl;simp;omega
 have key : ∀ i, i < (Ac U.V l).toNat → (Ab U.V (.sub y (.c 0) l)).rows.getD i default = (Ab U.V y).rows.getD i default := by
  intro i hi;rw [DP, e0, Lg (by simpa using hi)]
  congr 1
  simp
 have rows : ∀ {ks' : List Kd} {co : Nat} {cur cur' : Array Value}, Be U.K ρ.imm ks' cur co (Ab U.V y).rows → cur'.size = cur.size → (∀ j, j < co + (Ac U.V l).toNat * ks'.length → cur'.getD j Go.undef = cur.getD j Go.undef) → Be U.K ρ.imm ks' cur' co (Ab U.V (.sub y (.c 0) l)).rows := by
  intro ks' co cur cur' hR hsz hc;rw [Al] at hfl;have hle : (Ac U.V l).toNat ≤ (Ab U.V y).rows.length := by omega
  refine ⟨?_, fun i hi => ?_, fun i j kd hi hj => ?_⟩
  ·rw [hrl, hsz];have := hR.1;have := Nat.mul_le_mul_right ks'.length hle;omega
  ·rw [hrl] at hi;rw [key i hi];exact hR.2.1 i (by omega)
  ·rw [hrl] at hi;rw [key i hi, hc]
   ·exact hR.2.2 i j kd (by omega) hj
   ·have hjl : j < ks'.length := (List.getElem?_eq_some_iff.1 hj).1;have : (i + 1) * ks'.length ≤ (Ac U.V l).toNat * ks'.length := Nat.mul_le_mul_right _ (by omega)
    rw [Nat.add_mul, Nat.one_mul] at this;omega
 have still : HR ρ (h.put b (.arr e (.sub y (.c 0) l))).blk.get w ∧ Ext ρ ρ h (h.put b (.arr e (.sub y (.c 0) l))) w w := by
  refine hr.swap (by rw [hb]; exact Option.some_ne_none _) _ fun base hρ => ?_
  obtain ⟨ks', cur, et, fz, q1, q2, q3, q4, q5⟩ := hr.blk b base _ hρ hb;exact ⟨ks', cur, et, fz, q1, q2, q3, q4, rows q5 rfl fun _ _ => rfl⟩
 have p1 : (some lov = none ∧ l = .c 0) ∨ ∃ k, some lov = some (.int k (Ac U.V l)) := .inr ⟨kd, by rw [hlo]⟩
 cases hx with
 | aslEnd _ _ _ _ ad q0 qn =>
  have hl0 : Ac U.V l = 0 := by omega
  have q := F6 (P := E.P) (w := w) (b := true) (len := 0) (cap := 0) (u := n) (du := n) (hi' := none) (dl := .c 0) p1 (.inl ⟨rfl, rfl⟩) rfl (by rw [q0]; rfl) b0 b1 (by rw [q0]; exact Int.le_refl _) (Nat.le_refl _)
  rw [hl0, q0] at q;refine ⟨.slice ad 0 0, w, ?_, ?_, still.1, still.2⟩
  ·simp [Instr.sliceAt, Instr.slice, hu, q, hE.run_szIs hs]
  ·cases ad <;> simp [Builtin.clear_, hu1]
 | asl _ _ _ _ cap base hρ q0 qc qz qn =>
  have q := F6 (P := E.P) (w := w) (b := true) (len := (Ac U.V n).toNat) (cap := cap) (u := n) (du := n) (hi' := none) (dl := .c 0) p1 (.inl ⟨rfl, rfl⟩) rfl (by omega) b0 b1 (by omega) qc
  generalize hL : (Ac U.V l).toNat = L at *;generalize hN : (Ac U.V n).toNat = N at *;have hLN : L ≤ N := by omega
  have hrun : (Instr.sliceAt t (.slice (some ⟨base.cb, base.co, none⟩) N cap) (some lov) none none).run E.P w = .ok (.slice (if cap = L then some ⟨base.cb, base.co, none⟩ else some ⟨base.cb, base.co + L * es, none⟩) (N - L) (cap - L)) w := by
   simp [Instr.sliceAt, Instr.slice, hu, q, hE.run_szIs hs, B5]
  by_cases hc : N - L = 0
  ·rw [hc] at hrun;refine ⟨_, w, hrun, ?_, still.1, still.2⟩;split <;> simp [Builtin.clear_, hu1]
  ·have hcap : cap ≠ L := by omega
   rw [if_neg hcap] at hrun;obtain ⟨ks', cur, et, fz, q1, q2, q3, q4, q5⟩ := hr.blk b base _ hρ hb;have hk2 : U.K e = some ks := by rw [hE.kd, ← hE.ke]; exact hk
   rw [hk2] at q1;cases q1;obtain ⟨zv, z1, z2⟩ := hE.run_zero ρ hz w;have zc := (A1 ρ z2).cells (Bi z2);have hzs : zv.cells.size = es := by have := zc.1; simp at this; omega
   have hone : ∀ v ∈ (Builtin.zeroCells zv.cells (N - L)).toList, v.oneCell' = true := by
    intro v hv;have hm := G3 hza zc;rw [Builtin.zeroCells] at hv;simp only [Array.toList_map, Array.toList_range, List.mem_map, List.mem_range] at hv;obtain ⟨i, hi, rfl⟩ := hv
    have hpos : 0 < zv.cells.size := by
     rcases Nat.eq_zero_or_pos zv.cells.size with c | c
     ·rw [c] at hi; simp at hi
     ·exact c
    have hlt : i % zv.cells.size < zv.cells.size := Nat.mod_lt _ hpos;have : zv.cells[i % zv.cells.size]! = zv.cells[i % zv.cells.size] := by simp [hlt]
    rw [this];exact hm _ (by simp)
   have hlen : (Builtin.zeroCells zv.cells (N - L)).toList.length = (N - L) * es := by
    rw [Builtin.zeroCells, hzs]; simp
   have hfit : base.co + L * es + (N - L) * es ≤ cur.size := by
    have e1 : L * es + (N - L) * es = N * es := by rw [← Nat.add_mul]; congr 1; omega
    have e2 : N * es ≤ cap * es := Nat.mul_le_mul_right _ (by omega)
    omega
   obtain ⟨w', cur', r1, r2, r3, r4, r5, r6, r7, r8, r9⟩ := B7 E.P base.cb (base.co + L * es) et fz (Builtin.zeroCells zv.cells (N - L)).toList 0 w cur q2 (by rw [hlen]; omega) (by rw [q3]; exact q4) hone
   refine ⟨_, w', hrun, ?_, ?_⟩
   ·obtain ⟨m, hm⟩ := Nat.exists_eq_succ_of_ne_zero hc;rw [hm] at r1 ⊢;simp [Builtin.clear_, hu1, z1, r1]
   ·refine hr.put hρ (by rw [hb]; simp) _ w' ?_ r5 r6 r7 r8 r9
    refine ⟨ks, cur', et, fz, hk2, r2, by rw [r3, q3], q4, rows q5 r3 fun j hj => ?_⟩
    rw [Array.getD_eq_getD_getElem?, Array.getD_eq_getD_getElem?, r4 j, if_neg (by rw [← hks] at hj; omega)]
end
variable [U : Unk]
theorem EV {E : Env} {callF : Ask → Aa → Option (Bool × AV × Aa)} {all : Array Oper} {nt : Nat} : ∀ (l : List Oper) (recs : List Rc) (tmps : T AV) (h : Aa) (r : Option AV) (tmps' : T AV) (h' : Aa),
  CW E callF all nt l recs tmps h = some (r, tmps', h') → h.nx ≤ h'.nx
 | [], recs, tmps, h, r, tmps', h', hd => by
  simp only [CW, Option.some.injEq, Prod.mk.injEq] at hd;obtain ⟨_, _, rfl⟩ := hd;exact Nat.le_refl _
 | o :: rest, recs, tmps, h, r, tmps', h', hd => by
  simp only [CW] at hd;split at hd
  ·cases hd
  ·split at hd
   ·cases hd
   ·rename_i d _;split at hd
    ·cases hd
    ·rename_i hnx hok;have hle : h.nx ≤ d.g.nx := Nat.le_of_ble_eq_true hnx;split at hd
     ·cases hd
     ·split at hd
      ·cases hd
      ·have := EV rest _ _ _ _ _ _ hd;exact Nat.le_trans hle this
    ·rename_i hnx hok;have hle : h.nx ≤ d.g.nx := Nat.le_of_ble_eq_true hnx;split at hd
     ·simp only [Option.some.injEq, Prod.mk.injEq] at hd;obtain ⟨_, _, rfl⟩ := hd;exact hle
     ·cases hd
theorem CF {E : Env} : ∀ (f : Nat) (f0 : FuncId) (rd : Bool) (s : AS) (ok : Bool) (v : AV) (h : Aa), Fs E f f0 rd s = some (ok, v, h) → s.h.nx ≤ h.nx
 | 0, f0, rd, s, ok, v, h, hx => by cases hx
 | f + 1, f0, rd, s, ok, v, h, hx => by
  simp only [Fs] at hx;split at hx
  ·split at hx
   ·rename_i hb;exact Nat.le_trans (Nat.le_of_ble_eq_true hb) (CF f f0 rd _ ok v h hx)
   ·cases hx
  split at hx
  ·split at hx
   ·rename_i hb;exact Nat.le_trans (Nat.le_of_ble_eq_true hb) (CF f f0 rd _ ok v h hx)
   ·cases hx
  ·split at hx
   ·rename_i hb;simp only [Option.some.injEq, Prod.mk.injEq] at hx;obtain ⟨_, _, rfl⟩ := hx;exact Nat.le_of_ble_eq_true (Av (Av hb).1).1
   ·cases hx
  ·rename_i s2 ops k hst;obtain ⟨rfl, _, _⟩ := GR hst;split at hx
   ·rename_i hd;exact Nat.le_trans (EV _ _ _ _ _ _ _ hd) (CF f f0 rd _ ok v h hx)
   ·rename_i hd;exact Nat.le_trans (EV _ _ _ _ _ _ _ hd) (CF f f0 rd _ ok v h hx)
   ·cases hx
  ·cases hx
section
variable {E : Env} (hE : OK E) {callF : Ask → Aa → Option (Bool × AV × Aa)} {ρ : Ren} {h : Aa} {w : World} {c : Frame} {ccs base : List Frame} {s : AS}
def Yy (s : AS) (r : Option AV) (tmps : T AV) (k : List AI) (h : Aa) : AS :=
 match r with
 | none => { s with fr := { s.fr with tmps, todo := k }, h }
 | some v => { s with fr := { s.fr with tmps, todo := .dead :: k, mode := .panic [(v, false)] }, h }
theorem PB {σ : Ren} {h g : Aa} {w w' : World} (hwf : WF h) (hn : h.nx ≤ g.nx) (q3 : HR σ g.blk.get w') (q4 : Ext ρ σ (part h none) g w w') : HR σ (Bf h g).blk.get w' ∧ Ext ρ σ h (Bf h g) w w' := by
 obtain ⟨l, hl1, hl2⟩ := q4.log;have hl1' : g.log = l := by rw [hl1]; exact List.append_nil l
 refine ⟨q3.weaken fun b x _ hx => ?_, ⟨q4.le, hn, q4.new, q4.calm, q4.kept, ⟨Cl h.nx g.log, rfl, fun b hb ho => Cu hn hb ho⟩, fun b hb => FB hwf hn hb, q4.imm⟩⟩
 by_cases h1 : b < h.nx
 ·by_cases h2 : b ∈ Cl h.nx g.log
  ·rcases F7 h2 with q | ⟨_, q⟩
   ·rw [q] at hx; cases hx
   ·rw [← q]; exact hx
  ·rw [Cu hn h2 (.inl h1)] at hx;rw [hl2 b (fun e => h2 (B8.2 ⟨by rw [hl1']; exact e, h1⟩)) (.inl h1)]
   exact hx
 ·by_cases h2 : b < g.nx
  ·rw [GM hwf hn (by omega) h2] at hx; exact hx
  ·rw [F8 hwf hn b (by show g.nx ≤ b; omega)] at hx; cases hx
include hE
theorem M8 (hF : Lb E callF) (hsr : SR ρ s c ccs w) (hwf : WF s.h) (hm : s.fr.mode = .run) {id : Nat} {ops : Array Oper} {k : List AI} (ht : s.fr.todo = .code (.region id ops true) :: k) {r : Option AV} {tmps : T AV}
  (hd : CW E callF ops s.fr.nt ops.toList [] s.fr.tmps s.h = some (r, tmps, h)) (hfree : A9 ρ s.h.nx h.nx) (base : List Frame) :
  ∃ σ c' w', Steps E.P (lone c (ccs ++ base) w) (lone c' (ccs ++ base) w') ∧ SR σ (Yy s r tmps k h) c' ccs w' ∧
   Ext ρ σ s.h h w w' := by
 have hmode := hsr.fr.mode;rw [hm] at hmode
 have hcm : c.mode = .run := by
  generalize c.mode = x at hmode;cases hmode; rfl
 have htodo := hsr.fr.todo;rw [ht] at htodo;generalize hct : c.todo = td at htodo;cases htodo with | cons a hk =>
 rename_i k';cases a;obtain ⟨H, Tm, R, Dd, n, q1, q2, q3, q4, q5, q6⟩ := HS _ _ _ _ _ _ _ hd;simp only [List.length_nil, Nat.zero_add] at q2 q3 q4 q5 q6;have X : B4 E callF ops s.fr.nt H Tm R Dd n := ⟨fun j hj => by obtain ⟨o, h1, h2⟩ := q4 j hj; exact ⟨o, by simpa using h1, h2⟩, by rw [q2]; exact hwf⟩
 have hfree0 : A9 ρ (H 0).nx h.nx := by rw [q2]; exact hfree
 have hle : n ≤ ops.size := by
  cases hr : r with
  | none => have := (q5 hr).1; simp at this; omega
  | some v =>
   obtain ⟨o, h1, _⟩ := q6 v hr;have := (List.getElem?_eq_some_iff.1 h1).1;simp at this; omega
 have hM : (H n).nx ≤ h.nx := by
  cases hr : r with
  | none => rw [(q5 hr).2.2]; exact Nat.le_refl _
  | some v =>
   obtain ⟨o, h1, b, e1, e2, e3⟩ := q6 v hr;rw [e3]; exact b.tx.nx
 have hbad : n < ops.size → ∃ o, ops[n]? = some o ∧ Bad E callF ops H Tm R Dd n o (ops.toList.drop (n + 1)) := by
  intro hn;cases hr : r with
  | none => have := (q5 hr).1; simp at this; omega
  | some v =>
   obtain ⟨o, h1, b, _⟩ := q6 v hr;exact ⟨o, by simpa using h1, b⟩
 have hst := WB (P := E.P) (cs := ccs ++ base) (w := w) hcm hct;rw [hE.mixed] at hst;have hsched : ∀ t, Region.schedule true ops t = Region.linearise.go .any ops ops.size t (Array.replicate ops.size false) [] := fun t => rfl
 rw [hsched] at hst;generalize htape : w.tape w.drawn (.order c.fn id) = t at hst
 have hD0 : ∀ i, (Array.replicate ops.size false).getD i false = false := by
  intro i;rw [Array.getD_eq_getD_getElem?, Array.getElem?_replicate];split <;> rfl
 have htm0 : TR ρ s.fr.nt (Tm 0) c.tmps := by rw [q3]; exact hsr.fr.tm
 have hh0 : HR ρ (H 0).blk.get { w with drawn := w.drawn + 1 } := by rw [q2]; exact hsr.h.same rfl
 have I0 : Inv s.fr.nt H Tm R n h.nx ρ { w with drawn := w.drawn + 1 } (fun i => (Array.replicate ops.size false).getD i false) ρ c.tmps { w with drawn := w.drawn + 1 } := ik htm0 hh0 hfree0 hD0
 obtain ⟨rest, σ, tm', w1, D', r1, r2, r3, r4, r5⟩ := X.sched hE hF (cs := ccs ++ base) (k := k') hM hfree0 hle hbad ops.size t (Array.replicate ops.size false) ρ { w with drawn := w.drawn + 1 }
  { c with todo := .inRegion ops (Region.linearise.go .any ops ops.size t (Array.replicate ops.size false) []) :: k' } hcm rfl (by simp) (by omega) I0
 obtain ⟨f1, f2, f3⟩ := X.final r1 r2;rw [q2] at f3;have f3' : Ext ρ σ s.h (H n) w w1 := f3.drawn rfl rfl rfl rfl;have hfr := hsr.fr.mono f3'.le;cases hr : r with
 | none =>
  obtain ⟨e1, e2, e3⟩ := q5 hr;have hn : n = ops.size := by simpa using e1
  rw [r4 hn] at r3;subst e2; subst e3;refine ⟨σ, { c with tmps := tm', todo := k' }, w1, Steps.head hst (Steps.trans r3 (Steps.one (Ht hcm rfl))), ⟨⟨hfr.fn, f1, hk.mono f3'.le, hfr.defers, hfr.mode, hfr.kind, hfr.round⟩, hsr.cs.mono f3'.le, f2⟩, f3'⟩
 | some v =>
  obtain ⟨o, h1, b, e1, e2, e3⟩ := q6 v hr
  have hn : n < ops.size := by
   have := (List.getElem?_eq_some_iff.1 h1).1;simpa using this
  obtain ⟨rr, hrr⟩ := r5 hn;rw [hrr] at r3;have hfp := Po b.tx.did b.ok;have hpart : HR σ (part (H n) (Dd n).fp).blk.get w1 := by rw [hfp]; exact f2
  have hlooks : TR σ s.fr.nt (BQ (Tm n) (CU ops o)) tm' := ⟨f1.size, fun t x hx => f1.get t x (Dl _ _ _ _ hx).2⟩
  have hnx : h.nx = (Dd n).g.nx := by rw [e3]; rfl
  have hfreen : A9 σ (H n).nx (Dd n).g.nx := by rw [← hnx]; exact f3'.free hfree
  obtain ⟨τ, v', w2, p1, p2, p3, p4⟩ := LY hE hF (cs := ccs ++ base) (c := { c with tmps := tm', todo := .inRegion ops (n :: rr) :: k' }) b.tx.did (X.wfAt (Nat.le_refl _)) hcm rfl (by simpa using h1) hlooks hpart hfreen
  rw [b.ok] at p1;rw [hfp] at p4;obtain ⟨m1, m2⟩ := PB (X.wfAt (Nat.le_refl _)) b.tx.nx p3 p4;rw [← e3] at m1 m2;have hfr2 := hfr.mono m2.le;subst e1; subst e2
  have eraise : ({ c with tmps := tm', todo := .inRegion ops (n :: rr) :: k' } : Frame).raise [{ v := v', recovered := false }] = { c with tmps := tm', todo := .inRegion ops (n :: rr) :: k', mode := .panicking [{ v := v', recovered := false }] } := by
   simp [Frame.raise, hcm]
  simp only [BS] at p1;rw [eraise] at p1;exact ⟨τ, _, w2, Steps.head hst (Steps.trans r3 p1), ⟨⟨hfr2.fn, f1.mono m2.le, .cons (.dead _ _) ((hk.mono f3'.le).mono m2.le), hfr2.defers, .panic _ _ ⟨p2, rfl, rfl, trivial⟩, hfr2.kind, hfr2.round⟩, (hsr.cs.mono f3'.le).mono m2.le, m1⟩, f3'.trans m2 hfree⟩
end
end Go.AE
namespace Go.AE
theorem Gt : ∀ {a b : T Aj}, Py a b = true → ∀ i x, a.get i = some x → b.get i = some x
 | .nil, _, _, i, x, hx => by simp [T.get] at hx
 | .node v l r, .nil, h, _, _, _ => by simp [Py] at h
 | .node v l r, .node v' l' r', h, i, x, hx => by
  simp only [Py, Bool.and_eq_true] at h;obtain ⟨⟨h1, h2⟩, h3⟩ := h;simp only [T.get] at hx ⊢;split at hx
  ·subst hx;simp only at h1;cases v' with
   | none => simp at h1
   | some y => rw [Oz h1]
  ·split at hx
   ·exact Gt h2 _ _ hx
   ·exact Gt h3 _ _ hx
theorem Rt {b : Nat} : ∀ {l : List Nat}, KX b l = true → b ∈ l
 | [], h => by simp [KX] at h
 | c :: r, h => by
  simp only [KX, Bool.or_eq_true] at h;rcases h with h | h
  ·rw [Nat.eq_of_beq_eq_true h]; simp
  ·simp [Rt h]
theorem RJ {nx : Nat} {wr : List Nat} : ∀ {l : List Nat}, V6 nx wr l = true → ∀ b ∈ l, b < nx → b ∈ wr
 | [], _, b, hb, _ => by cases hb
 | c :: r, h, b, hb, hlt => by
  simp only [V6, Bool.and_eq_true, Bool.or_eq_true] at h;simp only [List.mem_cons] at hb;rcases hb with rfl | hb
  ·rcases h.1 with h1 | h1
   ·have := Nat.le_of_ble_eq_true h1; omega
   ·exact Rt h1
  ·exact RJ h.2 b hb hlt
def Orc.Valid (P : Program) (F : Nat → D → D) (e : Orc) : Prop :=
 ∀ [U : Unk], U.K = (Env.of P).kinds → U.V.fn = F → ∀ (ρ : Ren) (w : World) (args' : List Value), VL ρ e.args args' → HR ρ e.part.get w → WF { blk := e.part, nx := e.nx, log := [] } → A9 ρ e.nx e.nx' →
  ∀ (c0 : Frame) (base : List Frame), ∃ σ v' w' g, BS P (lone (Frame.enter P e.f args'.toArray .normal) (c0 :: base) w) c0 base e.ok v' w' ∧ VR σ e.v v' ∧ HR σ g.blk.get w' ∧
   Ext ρ σ { blk := e.part, nx := e.nx, log := [] } g w w' ∧ (∀ b x, e.out.get b = some x → g.blk.get b = some x) ∧ g.nx = e.nx' ∧ (∀ b ∈ g.log, b < e.nx → b ∈ e.wr)
structure Af (E : Env) (F : Nat → D → D) : Prop where
 orc : ∀ e ∈ E.orc, e.Valid E.P F
 sms : ∀ s ∈ E.sms, s.Valid E.P F
variable [U : Unk]
theorem PG {ρ σ : Ren} {h g : Aa} {w w' : World} {p out : T Aj} {nx' : Nat} {wr : List Nat} (hr : HR ρ h.blk.get w) (hwf : WF h) (hsub : ∀ b x, p.get b = some x → h.blk.get b = some x)
  (hfree : A9 ρ h.nx nx') (q3 : HR σ g.blk.get w') (q4 : Ext ρ σ { blk := p, nx := h.nx, log := [] } g w w') (ho : ∀ b x, out.get b = some x → g.blk.get b = some x) (hn : g.nx = nx') (hl : ∀ b ∈ g.log, b < h.nx → b ∈ wr) :
  HR σ (Bf h { blk := out, nx := nx', log := wr }).blk.get w' ∧ Ext ρ σ h (Bf h { blk := out, nx := nx', log := wr }) w w' := by
 have hnx : h.nx ≤ nx' := by have := q4.nx; rw [hn] at this; exact this
 have hps : ∀ b, p.get b ≠ none → h.blk.get b ≠ none := by
  intro b hb;cases hp : p.get b with
  | none => exact absurd hp hb
  | some x => rw [hsub b x hp]; exact Option.some_ne_none _
 have cls : ∀ b x, (Bf h { blk := out, nx := nx', log := wr }).blk.get b = some x → g.blk.get b = some x ∨ (b < h.nx ∧ p.get b = none ∧ h.blk.get b = some x) := by
  intro b x hx;by_cases h1 : b < h.nx
  ·by_cases h2 : b ∈ Cl h.nx wr
   ·rcases F7 (h := h) (g := { blk := out, nx := nx', log := wr }) h2 with q | ⟨_, q⟩
    ·rw [q] at hx; cases hx
    ·rw [q] at hx; exact .inl (ho b x hx)
   ·rw [Cu (h := h) (g := { blk := out, nx := nx', log := wr }) hnx h2 (.inl h1)] at hx;cases hp : p.get b with
    | none => exact .inr ⟨h1, rfl, hx⟩
    | some y =>
     have e := hsub b y hp;rw [hx] at e;cases e;obtain ⟨l, hl1, hl2⟩ := q4.log;have hl1' : g.log = l := by rw [hl1]; exact List.append_nil l
     refine .inl ((hl2 b (fun e => h2 (B8.2 ⟨hl b (by rw [hl1']; exact e) h1, h1⟩)) (.inl h1)).trans hp)
  ·by_cases h2 : b < nx'
   ·rw [GM (h := h) (g := { blk := out, nx := nx', log := wr }) hwf hnx (by omega) h2] at hx
    exact .inl (ho b x hx)
   ·rw [F8 (h := h) (g := { blk := out, nx := nx', log := wr }) hwf hnx b (by show nx' ≤ b; omega)] at hx; cases hx
 have old : ∀ b base, σ b = some base → b < h.nx → ρ b = some base := by
  intro b base hb hlt;rcases q4.new b base hb with e | ⟨e, _⟩
  ·exact e
  ·exact absurd e (by show ¬ h.nx ≤ b; omega)
 have LR : ∀ b b' base base' x x', σ b = some base → σ b' = some base' → g.blk.get b = some x → b' < h.nx → p.get b' = none → h.blk.get b' = some x' → base.cb ≠ base'.cb := by
  intro b b' base base' x x' hb hb' hx hlt hp hx';have hb'' := old b' base' hb' hlt;have hne' : h.blk.get b' ≠ none := by rw [hx']; exact Option.some_ne_none _
  have hin : ∀ b0 base0, ρ b0 = some base0 → p.get b0 ≠ none → base0.cb ≠ base'.cb := fun b0 base0 h0 hp0 =>
   hr.apart b0 b' base0 base' (fun e => by subst e; exact hp0 hp) h0 hb'' (hps b0 hp0) hne'
  rcases q4.new b base hb with e | ⟨_, _, e⟩
  ·rcases q4.live b (by rw [hx]; exact Option.some_ne_none _) with l | ⟨l1, l2⟩
   ·exact hin b base e l
   ·have := hfree b l1 (by rw [← hn]; exact l2)
    rw [this] at e; cases e
  ·rcases e with e | ⟨b0, base0, e1, e2, e3⟩
   ·have := hr.lt b' base' hb''; omega
   ·rw [← e3]; exact hin b0 base0 e1 e2
 refine ⟨⟨q3.lt, fun b base x hb hx => ?_, fun b b' base base' hne hb hb' h1 h2 => ?_, q3.imm, fun k arr b base hk hb hl => ?_⟩, ⟨q4.le, hnx, fun b base hb => ?_, q4.calm, fun k hk hkk => q4.kept k hk (fun b base hb hp => hkk b base hb (hps b hp)), ⟨Cl h.nx wr, rfl, fun b hb ho => Cu (h := h) (g := { blk := out, nx := nx', log := wr }) hnx hb ho⟩, fun b hb => FB (h := h) (g := { blk := out, nx := nx', log := wr }) hwf hnx hb, fun k arr hk => (q4.imm k arr hk).imp id (fun e => e.imp id (fun ⟨b0, base0, x1, x2, x3⟩ => ⟨b0, base0, x1, hps b0 x2, x3⟩))⟩⟩
 ·rcases cls b x hx with q | ⟨hlt, hp, hh⟩
  ·exact q3.blk b base x hb q
  ·have hρ := old b base hb hlt;have hk := q4.kept base.cb (hr.lt b base hρ) (fun b' base' hb' hp' => hr.apart b' b base' base (fun e => by subst e; exact hp' hp) hb' hρ (hps b' hp') (by rw [hh]; exact Option.some_ne_none _))
   rw [hk];exact (hr.blk b base x hρ hh).mono q4.le
 ·cases hx : (Bf h { blk := out, nx := nx', log := wr }).blk.get b with
  | none => exact absurd hx h1
  | some x =>
   cases hx' : (Bf h { blk := out, nx := nx', log := wr }).blk.get b' with
   | none => exact absurd hx' h2
   | some x' =>
    rcases cls b x hx with q | ⟨a1, a2, a3⟩
    ·rcases cls b' x' hx' with q' | ⟨a1', a2', a3'⟩
     ·exact q3.apart b b' base base' hne hb hb' (by rw [q]; exact Option.some_ne_none _) (by rw [q']; exact Option.some_ne_none _)
     ·exact LR b b' base base' x x' hb hb' q a1' a2' a3'
    ·rcases cls b' x' hx' with q' | ⟨a1', a2', a3'⟩
     ·exact fun e => LR b' b base' base x' x hb' hb q' a1 a2 a3 e.symm
     ·exact hr.apart b b' base base' hne (old b base hb a1) (old b' base' hb' a1') (by rw [a3]; exact Option.some_ne_none _) (by rw [a3']; exact Option.some_ne_none _)
 ·cases hx : (Bf h { blk := out, nx := nx', log := wr }).blk.get b with
  | none => exact absurd hx hl
  | some x =>
   rcases cls b x hx with q | ⟨a1, a2, a3⟩
   ·exact q3.off k arr b base hk hb (by rw [q]; exact Option.some_ne_none _)
   ·have hρ := old b base hb a1;have hl3 : h.blk.get b ≠ none := by rw [a3]; exact Option.some_ne_none _
    rcases q4.imm k arr hk with e | e | ⟨b0, base0, e1, e2, e3⟩
    ·exact hr.off k arr b base e hρ hl3
    ·have := hr.lt b base hρ; omega
    ·rw [← e3];exact (hr.apart b0 b base0 base (fun e => by subst e; exact e2 a2) e1 hρ (hps b0 e2) hl3).symm
 ·rcases q4.new b base hb with e | ⟨e1, e2, e3⟩
  ·exact .inl e
  ·exact .inr ⟨e1, by show b < nx'; rw [← hn]; exact e2, e3.imp id (fun ⟨b0, base0, x1, x2, x3⟩ => ⟨b0, base0, x1, hps b0 x2, x3⟩)⟩
theorem QS {P : Program} {F : Nat → D → D} (hF : U.V.fn = F) {f : FuncId} {args : List AV} {args' : List Value} {h g : Aa} {ok : Bool} {v : AV} {ρ : Ren} {w : World} : ∀ {l : List Orc}, (∀ e ∈ l, e.Valid P F) → U.K = (Env.of P).kinds → OE l f args h = some (ok, v, g) → VL ρ args args' → HR ρ h.blk.get w → WF h → A9 ρ h.nx g.nx →
  ∀ (c0 : Frame) (base : List Frame), ∃ σ v' w', BS P (lone (Frame.enter P f args'.toArray .normal) (c0 :: base) w) c0 base ok v' w' ∧ VR σ v v' ∧ HR σ g.blk.get w' ∧ Ext ρ σ h g w w'
 | [], _, _, hx, _, _, _, _ => by simp [OE] at hx
 | e :: r, hO, hK, hx, ha, hr, hwf, hfree => by
  simp only [OE] at hx;split at hx
  ·rename_i hb;simp only [Bool.and_eq_true] at hb;obtain ⟨⟨⟨h1, h2⟩, h3⟩, h4⟩ := hb;have e1 := Nat.eq_of_beq_eq_true h1;have e2 := Nat.eq_of_beq_eq_true h2;have e3 := EO _ _ h3;subst e1;subst e3;cases hx;intro c0 base;have hfree' : A9 ρ e.nx e.nx' := by rw [e2]; exact hfree
   obtain ⟨σ, v', w', gg, a1, a2, a3, a4, a5, a6, a7⟩ := hO e (by simp) hK hF ρ w args' ha (hr.weaken (fun b x _ hx => Gt h4 b x hx)) (fun b hb => by
    show e.part.get b = none;cases hp : e.part.get b with
    | none => rfl
    | some x =>
     have q := Gt h4 b x hp;rw [hwf b (by rw [← e2]; exact hb)] at q
     cases q) hfree' c0 base
   rw [e2] at a4 a7;obtain ⟨m1, m2⟩ := PG hr hwf (Gt h4) hfree a3 a4 a5 a6 a7;exact ⟨σ, v', w', a1, a2, m1, m2⟩
  ·exact QS hF (fun e he => hO e (by simp [he])) hK hx ha hr hwf hfree
section
variable {E : Env} (hE : OK E) (hO : Af E U.V.fn) {ρ : Ren} {w : World} {c : Frame} {ccs : List Frame} {s s' : AS}
include hE hO
theorem H5 {f : FuncId} {args : List AV} {args' : List Value} {h g : Aa} {ok : Bool} {v : AV} (hx : K4 E f args h = some (ok, v, g)) (ha : VL ρ args args') (hr : HR ρ h.blk.get w) (hwf : WF h) (hfree : A9 ρ h.nx g.nx) :
  ∀ (c0 : Frame) (base : List Frame), ∃ σ v' w', BS E.P (lone (Frame.enter E.P f args'.toArray .normal) (c0 :: base) w) c0 base ok v' w' ∧ VR σ v v' ∧ HR σ g.blk.get w' ∧ Ext ρ σ h g w w' := by
 unfold K4 at hx;split at hx
 ·rename_i r hr';cases hx;exact QS rfl hO.orc hE.kd hr' ha hr hwf hfree
 ·split at hx
  ·rename_i v2 g2 hs;cases hx;exact JZ hE rfl hO.sms hs ha hr hwf hfree
  ·cases hx
omit hE hO in
theorem TD {h : Aa} {a : AV} {v : Value} (ha : VR ρ a v) : VR ρ (QM h a) v := by
 unfold QM;split
 ·rename_i b n es;split
  ·cases ha with
   | slice _ _ _ _ cap base hb hc hz => exact .asl b es (.c n) (.bc false) cap base hb (Int.natCast_nonneg _) (by simpa [Ac, Ab, D.toInt] using hc) (by omega) rfl
   | sliceEnd _ _ _ a => exact .aslEnd b es (.c (0 : Nat)) (.bc false) (some a) rfl rfl
  ·exact ha
 ·exact ha
omit hE hO in
theorem Rv {h : Aa} {f : AF} {c : Frame} (hf : FrR ρ f c) : FrR ρ (Xc h f) c := by
 unfold Xc;split
 ·refine ⟨hf.fn, ⟨hf.tm.size, fun i x hx => ?_⟩, hf.todo, hf.defers, hf.mode, hf.kind, hf.round⟩
  have hx : (f.tmps.mapA (QM h)).get i = some x := hx;rw [T.get_mapA] at hx;cases hg : f.tmps.get i with
  | none => rw [hg] at hx; cases hx
  | some y =>
   rw [hg] at hx;cases hx;exact TD (hf.tm.get i y hg)
 ·exact hf
omit hO in
theorem Uq (hsr : SR ρ s c ccs w) (hm : s.fr.mode = .run) {all : Array Oper} {o : Oper} {r : List Oper} {k : List AI} (ht : s.fr.todo = .ops all (o :: r) :: k) (hx : UT E s all o r = some s') (base : List Frame) :
  ∃ σ c' ccs' w', Steps E.P (lone c (ccs ++ base) w) (lone c' (ccs' ++ base) w') ∧ SR σ s' c' ccs' w' ∧ Ext ρ σ s.h s'.h w w' := by
 unfold UT at hx;split at hx
 ·rename_i t x lo o2 r2 d hop hdst;split at hx
  ·rename_i cc hop2;split at hx
   ·rename_i t1 d' hcal hats hargs;split at hx
    ·rename_i b es n nl kd l hex hel;split at hx
     ·rename_i e e1 e2 y hd hd1 hb;split at hx
      ·rename_i z ks hz hk;split at hx
       ·rename_i hc;split at hx
        ·rename_i fr1 hw1 hf1;split at hx
         ·rename_i fr2 hw2 hf2;cases hx;obtain ⟨c1, hc⟩ := Av hc;obtain ⟨c2, hc⟩ := Av hc;obtain ⟨c3, hc⟩ := Av hc;obtain ⟨c4, hc⟩ := Av hc;obtain ⟨c5, hc⟩ := Av hc;obtain ⟨c6, hc⟩ := Av hc;obtain ⟨c7, hc⟩ := Av hc;obtain ⟨c8, c9⟩ := Av hc;have q1 := AA c1;have q2 := AA c2;have q3 := AA c3;subst q1 q2 q3;have htodo := hsr.fr.todo;rw [ht] at htodo;obtain ⟨i, idx, k', ee, ho, hm', hkk⟩ := htodo.ops_inv;have hmode := hsr.fr.mode;rw [hm] at hmode
          have hcm : c.mode = .run := by
           generalize c.mode = x at hmode;cases hmode; rfl
          have ht' := hsr.fr.tm
          have hev : EvR ρ s.fr.tmps c.eval := by
           intro x;have := JI ht' x;cases x <;> exact this
          have hvx := hev x;rw [hex] at hvx;have hvl := Cx (hev lo) hel;obtain ⟨v, w', r1, r2', r3, r4⟩ := VO hE hsr.h (ty := o2.type) hd hd1 hz hk (AA c4) (AA c5) c6 hvx hb c7 c8 hvl c9;have hnd : ∀ cl, o.op ≠ .defer cl := by intro cl e; rw [hop] at e; cases e
          have hnd2 : ∀ cl, o2.op ≠ .defer cl := by intro cl e; rw [hop2] at e; cases e
          have st1 : step E.P (lone c (ccs ++ base) w) = .next (lone (c.finish v) (ccs ++ base) w) := Qy hcm ee ho (Cz ht' hw1) (.inr hnd) (.inl (by simp [execOp, hop, r1]))
          have fr1ok := Bx hsr.fr hf1 (VR.top v)
          have ef : c.finish v = { c with tmps := HK c.tmps o.dst v, todo := .inRegion all idx :: k' } := by
           simp only [Frame.finish, ee, ho, Option.bind_some, HK];cases o.dst <;> rfl
          have fm : fr1.mode = .run ∧ fr1.todo = .ops all (o2 :: r2) :: k ∧ d < s.fr.nt := by
           unfold Cr at hf1;rw [ht] at hf1;simp only [hdst, J0] at hf1;split at hf1
           ·rename_i t' hp;cases hf1;split at hp
            ·rename_i hlt;exact ⟨hm, rfl, KF hlt⟩
            ·cases hp
           ·cases hf1
          obtain ⟨fm1, fm2, fm3⟩ := fm;have htodo2 := fr1ok.todo;rw [fm2] at htodo2;obtain ⟨i2, idx2, k2', ee2, ho2, _, _⟩ := htodo2.ops_inv;have hcm2 : (c.finish v).mode = .run := by rw [ef]; exact hcm
          have hev2 : (c.finish v).eval (.tmp d) = v := by
           show (c.finish v).tmps.getD d Go.undef = v;rw [ef];show (HK c.tmps o.dst v).getD d Go.undef = v;rw [hdst];have : d < c.tmps.size := by rw [ht'.size]; exact fm3
           simp [HK, Array.getD_eq_getD_getElem?, this]
          have hrun2 : (execOp (c.finish v).eval o2).run E.P w = .ok (.value (.tuple #[])) w' := by
           have a1 : cc.argTypes = #[t1] := by rw [← Array.toList_inj]; exact hats
           have hmap : (cc.args.map (c.finish v).eval) = (cc.args.toList.map (c.finish v).eval).toArray := by apply Array.ext'; simp
           have ex : ∃ cs, execOp (c.finish v).eval o2 = builtin .clear cc.argTypes o2.type cs (cc.args.toList.map (c.finish v).eval).toArray :=
            ⟨_, by unfold execOp; rw [hop2]; simp only [resolve, hcal, pure_bind, invoke, hmap]; rfl⟩
           obtain ⟨cs, ex⟩ := ex;rw [ex, a1, hargs];simp only [List.map_cons, List.map_nil, hev2];simp [builtin, r2']
          have st2 : step E.P (lone (c.finish v) (ccs ++ base) w) = .next (lone ((c.finish v).finish (.tuple #[])) (ccs ++ base) w') := Qy hcm2 ee2 ho2 (Cz fr1ok.tm hw2) (.inr hnd2) (.inl hrun2);have fr2ok := Bx fr1ok hf2 (VR.top (.tuple #[]));exact ⟨ρ, (c.finish v).finish (.tuple #[]), ccs, w', Steps.head st1 (Steps.one st2), ⟨fr2ok, hsr.cs, r3⟩, r4⟩
         ·cases hx
        ·cases hx
       ·cases hx
      ·cases hx
     ·cases hx
    ·cases hx
   ·cases hx
  ·cases hx
 ·cases hx
theorem Rh (hsr : SR ρ s c ccs w) (hwf : WF s.h) (hx : T9 E s = some s') (hfree : A9 ρ s.h.nx s'.h.nx) (base : List Frame) :
  ∃ σ c' ccs' w', Steps E.P (lone c (ccs ++ base) w) (lone c' (ccs' ++ base) w') ∧ SR σ s' c' ccs' w' ∧ Ext ρ σ s.h s'.h w w' := by
 unfold T9 at hx;split at hx
 ·cases hx
 ·split at hx
  ·rename_i hm;split at hx
   ·rename_i all o r k ht;split at hx
    ·rename_i s'' htl;cases hx;exact Uq hE hsr hm ht htl base
    split at hx
    ·rename_i hsim;split at hx
     ·rename_i hw;split at hx
      ·rename_i g args h1 hop;split at hx
       ·rename_i v h2 hfind;split at hx
        ·rename_i fr hfin;cases hx;have htodo := hsr.fr.todo;rw [ht] at htodo;obtain ⟨i, idx, k', e, ho, hm', hk⟩ := htodo.ops_inv;have hmode := hsr.fr.mode;rw [hm] at hmode
         have hcm : c.mode = .run := by
          generalize c.mode = x at hmode;cases hmode; rfl
         have ht' := hsr.fr.tm
         have hev : EvR ρ s.fr.tmps c.eval := by
          intro x;have := JI ht' x;cases x <;> exact this
         have hdoes := KU hE hsr.h hev o;rw [hop] at hdoes;obtain ⟨rfl, args', ha, hrun⟩ := hdoes
         have hnd : ∀ cl, o.op ≠ .defer cl := by
          intro cl e;rw [e] at hop;simp only [aop] at hop;rcases Ej s.fr.tmps cl s.h with ⟨d, hq⟩ | ⟨y, hq⟩ <;> (rw [hq] at hop; cases hop)
         obtain ⟨σ, v', w', q1, q2, q3, q4⟩ := H5 hE hO hfind ha hsr.h hwf hfree c (ccs ++ base);have hst := OV (cs := ccs ++ base) (P := E.P) hcm e ho (Cz ht' hw) (.inr hnd) hrun;exact ⟨σ, c.finish v', ccs, w', Steps.head hst q1, ⟨Rv (Bx (hsr.fr.mono q4.le) hfin q2), hsr.cs.mono q4.le, q3⟩, q4⟩
        ·cases hx
       ·cases hx
      ·cases hx
     ·cases hx
    ·cases hx
   ·
    rename_i fo params assign body k ht;split at hx
    ·rename_i g args h3 fr' hrc;split at hx
     ·rename_i v h2 hfind;split at hx
      ·rename_i fr hble hfin;cases hx;have htodo := hsr.fr.todo;rw [ht] at htodo;have hmode := hsr.fr.mode;rw [hm] at hmode
       have hcm : c.mode = .run := by
        generalize c.mode = x at hmode;cases hmode; rfl
       generalize hct : c.todo = td at htodo;cases htodo with
       | cons hc1 hk =>
        cases hc1;have hnx : h3.nx ≤ h2.nx := CZ hble;obtain ⟨σ, c', args', w1, q1, q2, q3, q4, q5⟩ := Np hE hsr hcm hk hct hrc (fun b b1 b2 => hfree b b1 (by show b < h2.nx; omega)) base
        obtain ⟨τ, v', w', r1, r2, r3, r4⟩ := H5 hE hO hfind q2 q4 (q5.wf hwf) (q5.free hfree) c' (ccs ++ base);exact ⟨τ, c'.finish v', ccs, w', Steps.head q1 r1, ⟨Rv (Bx (q3.mono r4.le) hfin r2), (hsr.cs.mono q5.le).mono r4.le, r3⟩, q5.trans r4 hfree⟩
      ·cases hx
     ·cases hx
    ·cases hx
   ·cases hx
  ·cases hx
end
end Go.AE
namespace Go.AE
variable [U : Unk]
section
variable {E : Env} (hE : OK E) (hO : Af E U.V.fn)
include hE hO
theorem Tt : ∀ (f : Nat) (f0 : FuncId) (rd : Bool) (s : AS) (ρ : Ren) (c : Frame) (ccs : List Frame) (w : World) (ok : Bool) (v : AV) (h : Aa), SR ρ s c ccs w → WF s.h → Fs E f f0 rd s = some (ok, v, h) → A9 ρ s.h.nx h.nx →
  ∀ base : List Frame, ∃ σ cf v' w1 w', Steps E.P (lone c (ccs ++ base) w) (lone cf base w1) ∧ cf.fn = f0 ∧ (rd = false → cf.roundOf = none) ∧ Nj E.P cf w1 ok v' w' ∧ VR σ v v' ∧ HR σ h.blk.get w' ∧ Ext ρ σ s.h h w w' := by
 intro f
 induction f with
 | zero => intro f0 rd s ρ c ccs w ok v h hsr hwf hx; cases hx
 | succ f ih =>
  intro f0 rd s ρ c ccs w ok v h hsr hwf hx hfree base
  have go : ∀ (s' : AS) (σ : Ren) (c' : Frame) (ccs' : List Frame) (w1 : World), Steps E.P (lone c (ccs ++ base) w) (lone c' (ccs' ++ base) w1) → SR σ s' c' ccs' w1 → Ext ρ σ s.h s'.h w w1 → Fs E f f0 rd s' = some (ok, v, h) →
    ∃ σ cf v' w1 w', Steps E.P (lone c (ccs ++ base) w) (lone cf base w1) ∧ cf.fn = f0 ∧ (rd = false → cf.roundOf = none) ∧ Nj E.P cf w1 ok v' w' ∧ VR σ v v' ∧ HR σ h.blk.get w' ∧ Ext ρ σ s.h h w w' := by
   intro s' σ c' ccs' w1 h1 h2 h3 h4;obtain ⟨τ, cf, v', w2, w', q1, q2, q3, q4, q5, q6, q7⟩ := ih f0 rd s' σ c' ccs' w1 ok v h h2 (h3.wf hwf) h4 (h3.free hfree) base;exact ⟨τ, cf, v', w2, w', Steps.trans h1 q1, q2, q3, q4, q5, q6, h3.trans q7 hfree⟩
  simp only [Fs] at hx;split at hx
  ·rename_i s' htop;split at hx
   ·rename_i hb;have hmono := CF f f0 rd s' ok v h hx;obtain ⟨σ, cf', ccs', w', q1, q2, q3⟩ := Rh hE hO hsr hwf htop (fun b h1 h2 => hfree b h1 (by omega)) base
    exact go s' σ cf' ccs' w' q1 q2 q3 hx
   ·cases hx
  split at hx
  ·rename_i s' hst;split at hx
   ·rename_i hb;have hmono := CF f f0 rd s' ok v h hx;obtain ⟨σ, cf', ccs', w', q1, q2, q3⟩ := OL (base := base) hE hsr hst (fun b h1 h2 => hfree b h1 (by omega))
    exact go s' σ cf' ccs' w' (Steps.one q1) q2 q3 hx
   ·cases hx
  ·rename_i ok' v' h' hst;split at hx
   ·rename_i hb;simp only [Option.some.injEq, Prod.mk.injEq] at hx;obtain ⟨rfl, rfl, rfl⟩ := hx;obtain ⟨rfl, x, w', q1, q2, q3, q4⟩ := KY hE hsr hst;obtain ⟨b1, b2⟩ := Av hb;have hfn := AA (Av b1).2;refine ⟨ρ, c, x, w, w', Steps.refl _ _, hsr.fr.fn.trans hfn, fun hrd => ?_, q4, q1, q2, q3⟩
    subst hrd;have hround := hsr.fr.round;simp only [Bool.false_or, Option.isNone_iff_eq_none] at b2;rw [b2] at hround;exact hround.none_inv
   ·cases hx
  ·rename_i s2 ops k hst;obtain ⟨rfl, hm, id, ht⟩ := GR hst
   have hC : ∀ (fr : AF) (g g' : Aa) (ok : Bool) (v : AV) (ρ : Ren) (cf : Frame) (w : World), FrR ρ fr cf → HR ρ g.blk.get w → WF g → Fs E f fr.fn true { fr, cs := [], h := g } = some (ok, v, g') → A9 ρ g.nx g'.nx →
     ∀ (c0 : Frame) (base : List Frame), ∃ σ v' w', BS E.P (lone cf (c0 :: base) w) c0 base ok v' w' ∧ VR σ v v' ∧ HR σ g'.blk.get w' ∧ Ext ρ σ g g' w w' := by
    intro fr g g' ok v ρ cf w hfr hr hwf hx hfree c0 base;obtain ⟨σ, cf', v', w1, w', q1, q2, q3, q4, q5, q6, q7⟩ := ih fr.fn true { fr, cs := [], h := g } ρ cf [] w ok v g' ⟨hfr, .nil, hr⟩ hwf hx hfree (c0 :: base);refine ⟨σ, v', w', ?_, q5, q6, q7⟩;have := Steps.trans q1 (Steps.one (q4.back c0 base));cases ok <;> exact this
   generalize hcf : (fun (a : Ask) (h : Aa) => match a with
    | .enter g args => match K4 E g args h with
     | some r => some r
     | none => match Bu E g args .normal with
      | some fr => Fs E f fr.fn true { fr, cs := [], h }
      | none => none
    | .round l args => match FqQ l args h with
     | some fr => Fs E f fr.fn true { fr, cs := [], h }
     | none => none) = callF at hx
   have hF : Lb E callF := by
    subst hcf;refine ⟨?_, ?_⟩
    ·intro f' args args' g g' ok v ρ w ha hr hwf hx hfree;simp only at hx;split at hx
     ·rename_i r hfind;cases hx;exact H5 hE hO hfind ha hr hwf hfree
     ·split at hx
      ·rename_i fr hfr;exact hC fr g g' ok v ρ _ w (C7 hE hfr ha) hr hwf hx hfree
      ·cases hx
    ·intro l args g g' ok v ρ w hr hwf hx hfree;simp only at hx;split at hx
     ·rename_i fr hfr;exact ⟨fr, hfr, fun cf hcf => hC fr g g' ok v ρ cf w hcf hr hwf hx hfree⟩
     ·cases hx
   split at hx
   ·rename_i tmps h1 hd;have hmono := CF f f0 rd _ ok v h hx;obtain ⟨σ, c', w', q1, q2, q3⟩ := M8 hE hF hsr hwf hm ht hd (fun b a1 a2 => hfree b a1 (Nat.lt_of_lt_of_le a2 hmono)) base
    exact go _ σ c' ccs w' q1 q2 q3 hx
   ·rename_i v1 tmps h1 hd;have hmono := CF f f0 rd _ ok v h hx;obtain ⟨σ, c', w', q1, q2, q3⟩ := M8 hE hF hsr hwf hm ht hd (fun b a1 a2 => hfree b a1 (Nat.lt_of_lt_of_le a2 hmono)) base
    exact go _ σ c' ccs w' q1 q2 q3 hx
   ·cases hx
  ·cases hx
end
theorem Orc.valid {E : Env} (hE : ∀ [U : Unk], U.K = (Env.of E.P).kinds → OK E) {G : Nat → D → D} (hO : Af E G) {N : Nat} {e : Orc} (h : ∀ [F : Facts], AY E N e = true) : e.Valid E.P G := by
 intro U hK hG ρ w args' ha hr hwf hfree c0 base;have hE := hE hK;subst hG;have hx := h (F := U.toFacts);unfold AY at hx;split at hx
 ·rename_i ok v g hcall;simp only [Bool.and_eq_true, beq_iff_eq] at hx;obtain ⟨⟨⟨⟨h1, h2⟩, h3⟩, h4⟩, h5⟩ := hx;have e4 := Nat.eq_of_beq_eq_true h4;unfold XM at hcall;split at hcall
  ·rename_i fr hfr;obtain ⟨σ, cf, v', w1, w', q1, q2, q3, q4, q5, q6, q7⟩ := Tt hE hO N e.f false _ ρ _ [] w ok v g ⟨C7 hE hfr ha, .nil, hr⟩ hwf hcall (by show A9 ρ e.nx g.nx; rw [e4]; exact hfree) (c0 :: base)
   refine ⟨σ, v', w', g, ?_, Gd _ _ h2 ▸ q5, q6, q7, Gt h3, e4, RJ h5⟩;rw [← h1];have := Steps.trans q1 (Steps.one (q4.back c0 base));cases ok <;> exact this
  ·cases hcall
 ·cases hx
end Go.AE
namespace Go.AE
variable [U : Unk]
def TA (x : Func) : Bool := !(x.name == "runtime.NumGoroutine") && (x.body.isSome || (!(x.name == "maps.clone") && !(x.name == "internal/bytealg.IndexByteString")) || (Extern.allNextRows.lookup x.origin).isNone)
theorem St : Extern.allNextRows.lookup "maps.clone" = none := by kernel_rfl
theorem UD : Extern.allGenericRows.lookup "maps.clone" = none := by kernel_rfl
theorem P8 : Extern.allTypedRows.lookup "maps.clone" = none := by kernel_rfl
theorem T2 : Extern.allRows.lookup "maps.clone" = some Extern.MapsClone.clone := by kernel_rfl
theorem VT : Extern.allNextRows.lookup "internal/bytealg.IndexByteString" = none := by kernel_rfl
theorem Zj : Extern.allGenericRows.lookup "internal/bytealg.IndexByteString" = none := by kernel_rfl
theorem Tk : Extern.allTypedRows.lookup "internal/bytealg.IndexByteString" = none := by kernel_rfl
theorem Yr : Extern.allRows.lookup "internal/bytealg.IndexByteString" = some Extern.BytealgIndexByte.indexByte := by kernel_rfl
omit U in
theorem Gx {x : Func} {n : String} (hn : x.name = n) (h1 : Extern.allNextRows.lookup n = none) (h2 : Extern.allNextRows.lookup x.origin = none) : Extern.findNext x = none := by
 show ((Extern.allNextRows.lookup x.name).map (· x.params x.resultTypes) <|> (Extern.allNextRows.lookup x.origin).map (· x.params x.resultTypes)) = none
 rw [hn, h1, h2]; rfl
omit U in
theorem LN {x : Func} {n : String} {g : Array Value → Sem Value} (hn : x.name = n) (h1 : Extern.allGenericRows.lookup n = none) (h2 : Extern.allTypedRows.lookup n = none) (h3 : Extern.allRows.lookup n = some g) : Extern.find x = some g := by
 show (((Extern.allGenericRows.lookup x.name).map (· x.targs x.params x.resultTypes) <|> (Extern.allTypedRows.lookup x.name).map (· x.params x.resultTypes) <|> Extern.allRows.lookup x.name) <|> ((Extern.allGenericRows.lookup x.origin).map (· x.targs x.params x.resultTypes) <|> (Extern.allTypedRows.lookup x.origin).map (· x.params x.resultTypes) <|> Extern.allRows.lookup x.origin)) = some g
 rw [hn, h1, h2, h3]; rfl
theorem OK.of {P : Program} {l : List Orc} {m : List Sm} (hm : P.follows .mixedOrders = true) (hc : P.funcs.toList.all TA = true) (hk : U.K = (Env.of P).kinds) : OK (Env.ofS P l m) := by
 have hfn : ∀ f x, (Env.ofS P l m).fn.get f = some x → P.funcs[f]? = some x := by
  intro f x h;rw [Env.ofS, T.get_ofList] at h;simpa using h
 have hall : ∀ f x, (Env.ofS P l m).fn.get f = some x → TA x = true := by
  intro f x h;have := hfn f x h
  exact List.all_eq_true.1 hc x (by
   have h2 : P.funcs.toList[f]? = some x := by simpa using this
   exact List.mem_of_getElem? h2)
 refine ⟨fun t i h => ?_, hfn, fun f x h => ?_, fun f x h hb hn => ?_, fun f x h hb hn => ?_, hm, hk, rfl⟩
 ·rw [Env.ofS, T.get_ofList] at h;have h2 : P.types[t]? = some i := by simpa using h
  have hlt : t < P.types.size := (Array.getElem?_eq_some_iff.1 h2).1;show P.info? t = some i;simp only [Tables.info?, if_pos hlt];exact h2
 ·have := hall f x h;simp only [TA, Bool.and_eq_true, Bool.not_eq_true'] at this;exact this.1
 ·have q := hall f x h;have ho : Extern.allNextRows.lookup x.origin = none := by simpa [TA, hb, hn] using q
  exact ⟨Gx hn St ho, LN hn UD P8 T2⟩
 ·have q := hall f x h;have ho : Extern.allNextRows.lookup x.origin = none := by simpa [TA, hb, hn] using q
  exact ⟨Gx hn VT ho, LN hn Zj Tk Yr⟩
theorem Af.none {P : Program} {F : Nat → D → D} : Af (Env.ofO P []) F := ⟨fun e he => (by cases he), fun e he => (by cases he)⟩
theorem Af.add {P : Program} {l : List Orc} {m : List Sm} {e : Orc} {N : Nat} (hE : ∀ [U : Unk], U.K = (Env.of P).kinds → OK (Env.ofS P l m)) {G : Nat → D → D} (hO : Af (Env.ofS P l m) G) (h : ∀ [F : Facts], AY (Env.ofS P l m) N e = true) : Af (Env.ofS P (e :: l) m) G := by
 refine ⟨fun x hx => ?_, hO.sms⟩
 rcases List.mem_cons.1 hx with rfl | hx
 ·exact Orc.valid (E := Env.ofS P l m) hE hO h
 ·exact hO.orc x hx
end Go.AE

