/- What is proved here: an evaluator of the model's steps that the kernel can run, and that whatever it answers is what the model does (part 5 of 7: AeDraw5, AeDraw6, AeDraw7, AeDraw8, AeRun1, AeRun2, AeNorm, AeCode, AePat1, AePat2, AePat3, AeSum, AeRng, AeEval, AeTail). Conditions: those that each theorem states; they hold of no one program. -/
import Derived.Test.YtkhnegoolkefjaaGreatDoorBeD
import Derived.Orders
set_option linter.unusedVariables false
set_option linter.unusedSectionVars false
set_option linter.unusedSimpArgs false
namespace Go.AE
variable [U : Unk]
theorem HR.weaken {ρ : Ren} {g g' : Nat → Option Ag} {w : World} (h : HR ρ g w) (hg : ∀ b x, ρ b ≠ none → g' b = some x → g b = some x) : HR ρ g' w := by
 refine ⟨h.lt, fun b base x hb hx => h.blk b base x hb (hg b x (by rw [hb]; exact Option.some_ne_none _) hx), fun b b' base base' hne hb hb' h1 h2 => h.apart b b' base base' hne hb hb' ?_ ?_, h.imm, fun k arr b base hk hb hl => h.off k arr b base hk hb ?_⟩
 ·cases hx : g' b with
  | none => exact absurd hx h1
  | some x => rw [hg b x (by rw [hb]; exact Option.some_ne_none _) hx]; exact Option.some_ne_none _
 ·cases hx : g' b' with
  | none => exact absurd hx h2
  | some x => rw [hg b' x (by rw [hb']; exact Option.some_ne_none _) hx]; exact Option.some_ne_none _
 ·cases hx : g' b with
  | none => exact absurd hx hl
  | some x => rw [hg b x (by rw [hb]; exact Option.some_ne_none _) hx]; exact Option.some_ne_none _
structure Inv (nt : Nat) (H : Nat → Aa) (Tm : Nat → T AV) (R : Nat → Rc) (n M : Nat) (ρ0 : Ren) (w0 : World) (D : Nat → Bool) (ρ : Ren) (tm : Array Value) (w : World) : Prop where
 sub : ∀ j, D j = true → j < n
 closed : ∀ j, D j = true → ∀ i, (R j).mask.testBit i = true → D i = true
 size : tm.size = nt
 tmp : ∀ t x, Tn Tm R D n t = some x → VR ρ x (tm.getD t undef)
 heap : HR ρ (Cn H R D n) w
 free : ∀ b, (H 0).nx ≤ b → b < M → ρ b ≠ none → ∃ j, D j = true ∧ (R j).lo ≤ b ∧ b < (R j).hi
 le : ρ0.le ρ
 calm : FH w0 w
 new : ∀ b base, ρ b = some base → ρ0 b = some base ∨ ((H 0).nx ≤ b ∧ b < (H n).nx ∧ (w0.heap.size ≤ base.cb ∨ ∃ b0 base0, ρ0 b0 = some base0 ∧ (H 0).blk.get b0 ≠ none ∧ base0.cb = base.cb))
 kept : ∀ k, k < w0.heap.size → (∀ b base, ρ0 b = some base → (H 0).blk.get b ≠ none → base.cb ≠ k) → w.heap[k]? = w0.heap[k]?
 imm : ∀ k arr, ρ.imm k = some arr → ρ0.imm k = some arr ∨ w0.heap.size ≤ k ∨ ∃ b0 base0, ρ0 b0 = some base0 ∧ (H 0).blk.get b0 ≠ none ∧ base0.cb = k
section
variable {E : Env} {callF : Ask → Aa → Option (Bool × AV × Aa)} {all : Array Oper} {nt : Nat} {H : Nat → Aa} {Tm : Nat → T AV} {R : Nat → Rc} {Dd : Nat → Did} {n M : Nat}
 {ρ0 ρ : Ren} {w0 w : World} {tm : Array Value} {D : Nat → Bool} (X : Bt E callF all nt H Tm R Dd n)
include X
theorem Bt.live {b : Nat} (hb : b < (H 0).nx) : ∀ {j : Nat}, j ≤ n → (H j).blk.get b ≠ none → (H 0).blk.get b ≠ none
 | 0, _, h => h
 | j + 1, hj, h => by
  obtain ⟨o, _, g⟩ := X.good j (by omega)
  rw [g.heap] at h;have := X.mono (i := 0) (j := j) (by omega) (by omega)
  rcases EI (X.wfAt (by omega)) g.tx.nx h with h | h
  ·exact Bt.live hb (j := j) (by omega) h
  ·omega
theorem Bt.cn_live {b : Nat} (hb : b < (H 0).nx) : ∀ {m : Nat}, m ≤ n → Cn H R D m b ≠ none → (H 0).blk.get b ≠ none
 | 0, _, h => h
 | m + 1, hm, h => by
  simp only [Cn] at h;split at h
  ·exact X.live hb (by omega) h
  ·exact Bt.cn_live hb (m := m) (by omega) h
theorem Bt.disj {i j b : Nat} (hi : i < n) (hj : j < n) (h1 : (R i).lo ≤ b ∧ b < (R i).hi) (h2 : (R j).lo ≤ b ∧ b < (R j).hi) : i = j := by
 rcases Nat.lt_trichotomy i j with h | h | h
 ·have := X.mono (i := i + 1) (j := j) (by omega) (by omega)
  have a := X.hi hi;have c := X.lo hj;omega
 ·exact h
 ·have := X.mono (i := j + 1) (j := i) (by omega) (by omega)
  have a := X.hi hj;have c := X.lo hi;omega
theorem Bt.agree (I : Inv nt H Tm R n M ρ0 w0 D ρ tm w) (hM : (H n).nx ≤ M) {j : Nat} (hj : j < n) (hD : D j = false) (hready : ∀ i, (R j).mask.testBit i = true → D i = true) {b : Nat} {x : Ag} (hb : ρ b ≠ none)
  (hx : (part (H j) (Dd j).fp).blk.get b = some x) : Cn H R D n b = some x := by
 obtain ⟨o, ho, g⟩ := X.good j hj
 have hxj : (H j).blk.get b = some x ∧ (∀ l, (R j).fp = some l → b ∈ l) := by
  rw [g.fp];cases hfp : (Dd j).fp with
  | none => rw [hfp] at hx; exact ⟨hx, (fun l hl => by cases hl)⟩
  | some ids =>
   rw [hfp] at hx;rcases Cy (H j) ids b with q | ⟨q1, q2⟩
   ·simp only [part] at hx; rw [q] at hx; cases hx
   ·exact ⟨q2 ▸ hx, fun l hl => by cases hl; exact q1⟩
 have hlt : b < (H j).nx := by
  rcases Nat.lt_or_ge b (H j).nx with h | h
  ·exact h
  ·rw [X.wfAt (by omega) b h] at hxj; cases hxj.1
 have hwr : ∀ i, i < n → i ≠ j → (i < j → (R j).mask.testBit i = false) → (j < i → (R i).mask.testBit j = false) → b ∉ (R i).wr := by
  intro i hi hne h1 h2 hm;rcases Nat.lt_or_ge i j with h | h
  ·have a := X.apart h hj (h1 h);cases hfp : (R j).fp with
   | none => rw [a.fp1n hfp] at hm; cases hm
   | some l => exact a.fp1 b hm l hfp (hxj.2 l hfp)
  ·have a := X.apart (show j < i by omega) hi (h2 (by omega))
   cases hfp : (R j).fp with
   | none => rw [a.fp2n hfp] at hm; cases hm
   | some l => exact a.fp2 b hm l hfp (hxj.2 l hfp)
 have hC : Cn H R D n b = Cn H R D j b := by
  refine HI (by omega) fun i h1 h2 hDi => ?_
  have hne : i ≠ j := by rintro rfl; rw [hD] at hDi; cases hDi
  refine ⟨hwr i h2 hne (fun h => by omega) fun h => ?_, ?_⟩
  ·cases hb : (R i).mask.testBit j with
   | false => rfl
   | true => rw [I.closed i hDi j hb] at hD; cases hD
  ·have := X.mono (i := j) (j := i) h1 (by omega)
   have := X.lo h2;omega
 rw [hC, X.cn_text (by omega) fun i hi hDi => ?_, hxj.1]
 refine ⟨hwr i (by omega) (by omega) (fun h => ?_) (fun h => by omega), fun hnew => ?_⟩
 ·cases hb : (R j).mask.testBit i with
  | false => rfl
  | true => rw [hready i hb] at hDi; cases hDi
 ·have hlo := X.lo (show i < n by omega)
  have h0 := X.mono (i := 0) (j := i) (by omega) (by omega)
  have h1 := X.mono (i := j) (j := n) (by omega) (by omega)
  obtain ⟨j', hD', hr'⟩ := I.free b (by omega) (by omega) hb
  have := X.disj (show i < n by omega) (I.sub j' hD') hnew hr'
  subst this;rw [hDi] at hD'; cases hD'
theorem Bt.tagree (I : Inv nt H Tm R n M ρ0 w0 D ρ tm w) {j : Nat} (hj : j < n) (hD : D j = false) (hready : ∀ i, (R j).mask.testBit i = true → D i = true) : TR ρ nt (Be (Tm j) (R j).looks) tm := by
 refine ⟨I.size, fun t x hx => ?_⟩
 obtain ⟨hl, y, hy, rfl⟩ := CD _ _ _ _ hx;refine J4 (I.tmp t y ?_)
 have hT : Tn Tm R D n t = Tn Tm R D j t := by
  refine HP (by omega) fun i h1 h2 hDi hd => ?_
  have hne : i ≠ j := by rintro rfl; rw [hD] at hDi; cases hDi
  have a := X.apart (show j < i by omega) h2 (by
   cases hb : (R i).mask.testBit j with
   | false => rfl
   | true => rw [I.closed i hDi j hb] at hD; cases hD)
  exact a.look2 t hd hl
 rw [hT, X.tn_text (by omega) fun i hi hDi hd => ?_, hy]
 have a := X.apart hi hj (by
  cases hb : (R j).mask.testBit i with
  | false => rfl
  | true => rw [hready i hb] at hDi; cases hDi)
 exact a.look1 t hd hl
end
end Go.AE
namespace Go.AE
variable [U : Unk]
section
variable {E : Env} {callF : Ask → Aa → Option (Bool × AV × Aa)} {all : Array Oper} {nt : Nat} {H : Nat → Aa} {Tm : Nat → T AV} {R : Nat → Rc} {Dd : Nat → Did} {n M : Nat}
 {ρ0 ρ σ : Ren} {w0 w w' : World} {tm : Array Value} {D : Nat → Bool} (X : Bt E callF all nt H Tm R Dd n)
include X
theorem Bt.after (I : Inv nt H Tm R n M ρ0 w0 D ρ tm w) (hM : (H n).nx ≤ M) {j : Nat} (hj : j < n) (hD : D j = false) (hready : ∀ i, (R j).mask.testBit i = true → D i = true)
  (q3 : HR σ (Dd j).g.blk.get w') (q4 : Ext ρ σ (part (H j) (Dd j).fp) (Dd j).g w w') : HR σ (Cn H R (ins D j) n) w' := by
 obtain ⟨o, ho, g⟩ := X.good j hj;have hnxp : (part (H j) (Dd j).fp).nx = (H j).nx := by cases (Dd j).fp <;> rfl
 have hlogp : (part (H j) (Dd j).fp).log = [] := by cases (Dd j).fp <;> rfl
 obtain ⟨l, hl1, hl2⟩ := q4.log;rw [hlogp, List.append_nil] at hl1;have hag : ∀ b x, ρ b ≠ none → (part (H j) (Dd j).fp).blk.get b = some x → Cn H R D n b = some x := fun b x hb hx => X.agree I hM hj hD hready hb hx
 have hlater : ∀ b, (b ∈ (R j).wr ∨ ((R j).lo ≤ b ∧ b < (R j).hi)) → ∀ i, j < i → i < n → D i = true → b ∉ (R i).wr ∧ ¬ ((R i).lo ≤ b ∧ b < (R i).hi) := by
  intro b hb i hi hin hDi
  have a := X.apart hi hin (by
   cases hb : (R i).mask.testBit j with
   | false => rfl
   | true => rw [I.closed i hDi j hb] at hD; cases hD)
  have h1 := X.mono (i := j + 1) (j := i) (by omega) (by omega)
  have h2 := X.hi hj;have h3 := X.lo hin;have h4 := X.lo hj;have h5 := X.le hj;rcases hb with hb | hb
  ·have := X.wr_lt hj hb;exact ⟨a.wr b hb, fun h => by omega⟩
  ·exact ⟨fun h => a.out b h hb, fun h => by omega⟩
 have hcase : ∀ b x, Cn H R (ins D j) n b = some x → ((b ∈ (R j).wr ∨ ((R j).lo ≤ b ∧ b < (R j).hi)) ∧ (Dd j).g.blk.get b = some x) ∨ ((b ∉ (R j).wr ∧ ¬ ((R j).lo ≤ b ∧ b < (R j).hi)) ∧ Cn H R D n b = some x) := by
  intro b x hx;by_cases hb : b ∈ (R j).wr ∨ ((R j).lo ≤ b ∧ b < (R j).hi)
  ·refine .inl ⟨hb, ?_⟩;rw [Oz hj hb (hlater b hb), g.heap] at hx;rcases hb with hb | hb
   ·rw [g.wr] at hb;rcases EY hb with q | ⟨_, q⟩
    ·rw [q] at hx; cases hx
    ·rw [← q]; exact hx
   ·rw [g.lo, g.hi] at hb;rw [Fv (X.wfAt (by omega)) g.tx.nx hb.1 hb.2] at hx
    exact hx
  ·have hb1 : b ∉ (R j).wr := fun q => hb (.inl q)
   have hb2 : ¬ ((R j).lo ≤ b ∧ b < (R j).hi) := fun q => hb (.inr q)
   rw [Qy hD hb1 hb2] at hx;exact .inr ⟨⟨hb1, hb2⟩, hx⟩
 have hgiven : ∀ b base x, (b ∉ (R j).wr ∧ ¬ ((R j).lo ≤ b ∧ b < (R j).hi)) → σ b = some base → Cn H R D n b = some x → ρ b = some base ∧ ((part (H j) (Dd j).fp).blk.get b ≠ none → (Dd j).g.blk.get b = some x) := by
  intro b base x hb hs hx
  have hρ : ρ b = some base := by
   rcases q4.new b base hs with h | ⟨h1, h2, _⟩
   ·exact h
   ·rw [hnxp] at h1;exact absurd ⟨g.lo ▸ h1, g.hi ▸ h2⟩ hb.2
  refine ⟨hρ, fun hp => ?_⟩
  cases hy : (part (H j) (Dd j).fp).blk.get b with
  | none => exact absurd hy hp
  | some y =>
   have := hag b y (by rw [hρ]; exact Option.some_ne_none _) hy
   rw [hx] at this;cases this
   have hlt : b < (H j).nx := by
    rcases Nat.lt_or_ge b (H j).nx with h | h
    ·exact h
    ·have := HB (X.wfAt (j := j) (by omega)) (Dd j).fp b (by rw [hnxp]; exact h)
     rw [this] at hy; cases hy
   rw [hl2 b ?_ (.inl (by rw [hnxp]; exact hlt)), hy]
   intro hm;refine hb.1 ?_;rw [g.wr, BG, hl1];exact ⟨hm, hlt⟩
 refine ⟨q3.lt, fun b base x hs hx => ?_, fun b b' base base' hne hs hs' h1 h2 => ?_, q3.imm, fun k arr b base hk hs hl => ?_⟩
 ·rcases hcase b x hx with ⟨_, hg⟩ | ⟨hb, hc⟩
  ·exact q3.blk b base x hs hg
  ·obtain ⟨hρ, hgv⟩ := hgiven b base x hb hs hc;by_cases hp : (part (H j) (Dd j).fp).blk.get b = none
   ·have hk := q4.kept base.cb (I.heap.lt b base hρ) (fun b0 base0 hb0 hl0 => by
     have hne : b0 ≠ b := by rintro rfl; exact hl0 hp
     cases hy : (part (H j) (Dd j).fp).blk.get b0 with
     | none => exact absurd hy hl0
     | some y =>
      have := hag b0 y (by rw [hb0]; exact Option.some_ne_none _) hy
      exact I.heap.apart b0 b base0 base hne hb0 hρ (by rw [this]; exact Option.some_ne_none _) (by rw [hc]; exact Option.some_ne_none _))
    rw [hk];exact (I.heap.blk b base x hρ hc).mono q4.le
   ·exact q3.blk b base x hs (hgv hp)
 ·have key : ∀ b b' base base', b ≠ b' → σ b = some base → σ b' = some base' → Cn H R (ins D j) n b ≠ none → Cn H R (ins D j) n b' ≠ none → (Dd j).g.blk.get b = none → base.cb ≠ base'.cb := by
   intro b b' base base' hne hs hs' h1 h2 hgn;cases hx : Cn H R (ins D j) n b with
   | none => exact absurd hx h1
   | some x =>
    cases hx' : Cn H R (ins D j) n b' with
    | none => exact absurd hx' h2
    | some x' =>
     rcases hcase b x hx with ⟨_, hg⟩ | ⟨hb, hc⟩
     ·rw [hgn] at hg; cases hg
     ·obtain ⟨hρ, hgv⟩ := hgiven b base x hb hs hc
      have hp : (part (H j) (Dd j).fp).blk.get b = none := by
       cases hp : (part (H j) (Dd j).fp).blk.get b with
       | none => rfl
       | some y => have := hgv (by rw [hp]; exact Option.some_ne_none _); rw [hgn] at this; cases this
      have hCb : Cn H R D n b ≠ none := by rw [hc]; exact Option.some_ne_none _
      have hap : ∀ b0 base0, ρ b0 = some base0 → (part (H j) (Dd j).fp).blk.get b0 ≠ none → base.cb ≠ base0.cb := by
       intro b0 base0 hb0 hl0;have hne0 : b ≠ b0 := by rintro rfl; exact hl0 hp
       cases hy : (part (H j) (Dd j).fp).blk.get b0 with
       | none => exact absurd hy hl0
       | some y =>
        have := hag b0 y (by rw [hb0]; exact Option.some_ne_none _) hy
        exact I.heap.apart b b0 base base0 hne0 hρ hb0 hCb (by rw [this]; exact Option.some_ne_none _)
      rcases hcase b' x' hx' with ⟨hb', hg'⟩ | ⟨hb', hc'⟩
      ·rcases q4.new b' base' hs' with h | ⟨_, _, h | ⟨b0, base0, e1, e2, e3⟩⟩
       ·rcases q4.live b' (by rw [hg']; exact Option.some_ne_none _) with hl | ⟨hl, hl'⟩
        ·exact hap b' base' h hl
        ·
         rw [hnxp] at hl;have hlo := X.lo hj;have h0 := X.mono (i := 0) (j := j) (by omega) (by omega)
         have h1 := X.mono (i := j + 1) (j := n) (by omega) (by omega)
         have h2 := X.hi hj;rw [g.hi] at h2;obtain ⟨j', hD', hr'⟩ := I.free b' (by omega) (by omega) (by rw [h]; exact Option.some_ne_none _)
         have := X.disj hj (I.sub j' hD') ⟨by omega, by rw [g.hi]; exact hl'⟩ hr'
         subst this;rw [hD] at hD'; cases hD'
       ·have := I.heap.lt b base hρ;omega
       ·rw [← e3]; exact hap b0 base0 e1 e2
      ·obtain ⟨hρ', _⟩ := hgiven b' base' x' hb' hs' hc';exact I.heap.apart b b' base base' hne hρ hρ' hCb (by rw [hc']; exact Option.some_ne_none _)
  by_cases hg : (Dd j).g.blk.get b = none
  ·exact key b b' base base' hne hs hs' h1 h2 hg
  ·by_cases hg' : (Dd j).g.blk.get b' = none
   ·exact fun e => key b' b base' base (Ne.symm hne) hs' hs h2 h1 hg' e.symm
   ·exact q3.apart b b' base base' hne hs hs' hg hg'
 ·cases hx : Cn H R (ins D j) n b with
  | none => exact absurd hx hl
  | some x =>
   rcases hcase b x hx with ⟨_, hg⟩ | ⟨hb, hc⟩
   ·exact q3.off k arr b base hk hs (by rw [hg]; exact Option.some_ne_none _)
   ·obtain ⟨hρ, hgv⟩ := hgiven b base x hb hs hc;have hCb : Cn H R D n b ≠ none := by rw [hc]; exact Option.some_ne_none _
    by_cases hp : (part (H j) (Dd j).fp).blk.get b = none
    ·rcases q4.imm k arr hk with h | h | ⟨b0, base0, e1, e2, e3⟩
     ·exact I.heap.off k arr b base h hρ hCb
     ·have := I.heap.lt b base hρ; omega
     ·have hne0 : b ≠ b0 := by rintro rfl; exact e2 hp
      cases hy : (part (H j) (Dd j).fp).blk.get b0 with
      | none => exact absurd hy e2
      | some y =>
       have := hag b0 y (by rw [e1]; exact Option.some_ne_none _) hy
       rw [← e3];exact I.heap.apart b b0 base base0 hne0 hρ e1 hCb (by rw [this]; exact Option.some_ne_none _)
    ·exact q3.off k arr b base hk hs (by rw [hgv hp]; exact Option.some_ne_none _)
theorem Bt.step (I : Inv nt H Tm R n M ρ0 w0 D ρ tm w) (hM : (H n).nx ≤ M) (hfree : AN ρ0 (H 0).nx M) {j : Nat} (hj : j < n) (hD : D j = false) (hready : ∀ i, (R j).mask.testBit i = true → D i = true) {v' : Value}
  (q2 : VR σ (Dd j).v v') (q3 : HR σ (Dd j).g.blk.get w') (q4 : Ext ρ σ (part (H j) (Dd j).fp) (Dd j).g w w') : Inv nt H Tm R n M ρ0 w0 (ins D j) σ (Gd tm (R j).dst v') w' := by
 obtain ⟨o, ho, g⟩ := X.good j hj;have hnxp : (part (H j) (Dd j).fp).nx = (H j).nx := by cases (Dd j).fp <;> rfl
 have hlo := X.lo hj;have hhi := X.hi hj;have hm0 := X.mono (i := 0) (j := j) (by omega) (by omega)
 have hmn := X.mono (i := j + 1) (j := n) (by omega) (by omega)
 have hold : ∀ b0 base0, ρ b0 = some base0 → (part (H j) (Dd j).fp).blk.get b0 ≠ none → w0.heap.size ≤ base0.cb ∨ ∃ b1 base1, ρ0 b1 = some base1 ∧ (H 0).blk.get b1 ≠ none ∧ base1.cb = base0.cb := by
  intro b0 base0 hb0 hl0;cases hy : (part (H j) (Dd j).fp).blk.get b0 with
  | none => exact absurd hy hl0
  | some y =>
   have hc := X.agree I hM hj hD hready (by rw [hb0]; exact Option.some_ne_none _) hy
   rcases I.new b0 base0 hb0 with h | ⟨_, _, h⟩
   ·right;refine ⟨b0, base0, h, ?_, rfl⟩
    have hlt : b0 < (H 0).nx := by
     rcases Nat.lt_or_ge b0 (H 0).nx with q | q
     ·exact q
     ·have hlt : b0 < (H j).nx := by
       rcases Nat.lt_or_ge b0 (H j).nx with h | h
       ·exact h
       ·have := HB (X.wfAt (j := j) (by omega)) (Dd j).fp b0 (by rw [hnxp]; exact h)
        rw [this] at hy; cases hy
      have := X.le hj;rw [hfree b0 q (by omega)] at h; cases h
    exact X.cn_live (D := D) hlt (Nat.le_refl n) (by rw [hc]; exact Option.some_ne_none _)
   ·exact h
 refine ⟨?_, ?_, ?_, ?_, X.after I hM hj hD hready q3 q4, ?_, I.le.trans q4.le, I.calm.trans q4.calm, ?_, ?_, ?_⟩
 ·intro i hi;by_cases e : i = j
  ·omega
  ·exact I.sub i (by simpa [ins, e] using hi)
 ·intro i hi k hk;by_cases e : i = j
  ·subst e;have := hready k hk;by_cases e2 : k = i
   ·simp [ins, e2]
   ·simpa [ins, e2] using this
  ·have := I.closed i (by simpa [ins, e] using hi) k hk
   by_cases e2 : k = j
   ·simp [ins, e2]
   ·simpa [ins, e2] using this
 ·unfold Gd; split <;> simp [I.size]
 ·intro t x hx;by_cases hd : (R j).dst = some t
  ·rw [OM hj hd (fun i h1 h2 hDi hdi => by
    have a := X.apart h1 h2 (by
     cases hb : (R i).mask.testBit j with
     | false => rfl
     | true => rw [I.closed i hDi j hb] at hD; cases hD)
    exact a.dst t hd hdi)] at hx
   have hp := g.put;rw [g.dst] at hd;rw [hd] at hp;simp only [Iv] at hp;cases hb : Nat.blt t nt with
   | false => rw [hb] at hp; cases hp
   | true =>
    rw [hb] at hp;simp only [Option.some.injEq] at hp;rw [← hp, T.get_set, if_pos rfl] at hx;cases hx;have hlt : t < tm.size := by rw [I.size]; simpa [Nat.blt_eq] using hb
    rw [g.dst, hd];simpa [Gd, Array.getD_eq_getD_getElem?, hlt] using q2
  ·rw [O6 hD hd] at hx;have := (I.tmp t x hx).mono q4.le;unfold Gd;split
   ·rename_i d hdd;have hne : d ≠ t := by rintro rfl; exact hd hdd
    simpa [Array.getD_eq_getD_getElem?, Array.getElem?_setIfInBounds_ne hne] using this
   ·exact this
 ·intro b h1 h2 hb;cases hs : σ b with
  | none => exact absurd hs hb
  | some base =>
   rcases q4.new b base hs with h | ⟨a1, a2, _⟩
   ·obtain ⟨i, hi, hr⟩ := I.free b h1 h2 (by rw [h]; exact Option.some_ne_none _)
    refine ⟨i, ?_, hr⟩;by_cases e : i = j
    ·simp [ins, e]
    ·simpa [ins, e] using hi
   ·exact ⟨j, by simp [ins], by omega, by rw [g.hi]; exact a2⟩
 ·intro b base hs;rcases q4.new b base hs with h | ⟨a1, a2, a3⟩
  ·exact I.new b base h
  ·right;rw [g.hi] at hhi;refine ⟨by omega, by omega, ?_⟩
   rcases a3 with a3 | ⟨b0, base0, e1, e2, e3⟩
   ·left; have := I.calm.size; omega
   ·rw [← e3]; exact hold b0 base0 e1 e2
 ·intro k hk hno
  rw [q4.kept k (by have := I.calm.size; omega) (fun b0 base0 hb0 hl0 => by
   rcases hold b0 base0 hb0 hl0 with h | ⟨b1, base1, e1, e2, e3⟩
   ·omega
   ·rw [← e3]; exact hno b1 base1 e1 e2)]
  exact I.kept k hk hno
 ·intro k arr hk;rcases q4.imm k arr hk with h | h | ⟨b0, base0, e1, e2, e3⟩
  ·exact I.imm k arr h
  ·right; left; have := I.calm.size; omega
  ·right;rcases hold b0 base0 e1 e2 with h | ⟨b1, base1, f1, f2, f3⟩
   ·left; omega
   ·right; exact ⟨b1, base1, f1, f2, f3.trans e3⟩
end
end Go.AE
namespace Go.AE
variable [U : Unk]
theorem G5 {j : Nat} : ∀ {rest : List Oper} {recs : List Rc}, (∀ i x, i < j → recs[i]? = some x → x.mask.testBit j = false) → j < recs.length → DM recs j rest = true → ∀ o ∈ rest, ∃ e ∈ o.after.toList, Region.binds .any e = true ∧ j ≤ e.on
 | [], recs, _, _, _, o, ho => by cases ho
 | o :: rest, recs, hb, hj, h, x, hx => by
  simp only [DM] at h;cases hm : BM recs o.after.toList with
  | none => rw [hm] at h; cases h
  | some mask =>
   rw [hm] at h;simp only [OX] at h;cases ht : mask.testBit j with
   | false => rw [ht] at h; cases h
   | true =>
    rw [ht] at h;rcases List.mem_cons.1 hx with rfl | hx
    ·obtain ⟨e, he, hbe, y, hy, hh⟩ := ((CG hm).2 j).1 ht;refine ⟨e, he, hbe, ?_⟩;rcases Nat.lt_or_ge e.on j with hlt | hge
     ·rcases hh with hh | hh
      ·rw [hb e.on y hlt hy] at hh; cases hh
      ·omega
     ·exact hge
    ·refine G5 (recs := recs ++ [{ wr := [], fp := none, lo := 0, hi := 0, dst := none, looks := [], mask }]) (fun i y hi hy => ?_) (by simp; omega) h x hx
     rw [List.getElem?_append_left (by omega)] at hy
     exact hb i y hi hy
theorem MY {E : Env} {callF : Ask → Aa → Option (Bool × AV × Aa)} {all : Array Oper} {o : Oper} {t : T AV} {h : Aa} {d : Did} (hd : Ep E callF all o t h = some d) (hok : d.ok = false) : d.fp = none := by
 unfold Ep at hd;split at hd
 ·cases hd
 ·cases hd; cases hok
 ·split at hd
  ·simp only at hd;split at hd
   ·cases hd; cases hok
   ·cases hd
  ·split at hd
   ·split at hd
    ·cases hd; rfl
    ·cases hd
   ·split at hd
    ·cases hd; rfl
    ·cases hd
   ·cases hd
section
variable {E : Env} {callF : Ask → Aa → Option (Bool × AV × Aa)} {all : Array Oper} {nt : Nat} {H : Nat → Aa} {Tm : Nat → T AV} {R : Nat → Rc} {Dd : Nat → Did} {n M : Nat}
 {ρ0 ρ σ : Ren} {w0 w w' : World} {tm : Array Value} {D : Nat → Bool} (X : Bt E callF all nt H Tm R Dd n)
include X
omit X in
theorem Ta (ht : TR ρ0 nt (Tm 0) tm) (hr : HR ρ0 (H 0).blk.get w0) (hfree : AN ρ0 (H 0).nx M) (hD : ∀ i, D i = false) : Inv nt H Tm R n M ρ0 w0 D ρ0 tm w0 := by
 have hno : ∀ i, D i ≠ true := fun i h => by rw [hD i] at h; cases h
 refine ⟨fun j h => absurd h (hno j), fun j h => absurd h (hno j), ht.size, fun t x hx => ht.get t x ?_, hr.weaken fun b x hb hx => ?_, fun b h1 h2 hb => absurd (hfree b h1 h2) hb, Ren.le_refl _, FH.refl _, fun b base h => .inl h, fun k hk hno => rfl, fun k arr h => .inl h⟩
 ·rw [HP (j := 0) (Nat.zero_le _) fun i _ _ h => absurd h (hno i)] at hx; exact hx
 ·rw [HI (j := 0) (Nat.zero_le _) fun i _ _ h => absurd h (hno i)] at hx; exact hx
theorem Bt.logs : ∀ {j : Nat}, j ≤ n → ∃ l, (H j).log = l ++ (H 0).log ∧ ∀ b, b ∉ l → (b < (H 0).nx ∨ (H j).nx ≤ b) → (H j).blk.get b = (H 0).blk.get b
 | 0, _ => ⟨[], rfl, fun _ _ _ => rfl⟩
 | j + 1, hj => by
  obtain ⟨l, h1, h2⟩ := Bt.logs (j := j) (by omega)
  obtain ⟨o, _, g⟩ := X.good j (by omega)
  have hm := X.mono (i := 0) (j := j) (by omega) (by omega)
  have hl := X.lo (show j < n by omega)
  have hh := X.hi (show j < n by omega)
  have hle := X.le (show j < n by omega)
  refine ⟨(R j).wr ++ l, ?_, fun b hb ho => ?_⟩
  ·rw [g.heap, g.wr, List.append_assoc, ← h1]; rfl
  ·simp only [List.mem_append, not_or] at hb;rw [X.stay (by omega) hb.1 (by omega), h2 b hb.2 (by omega)]
theorem Bt.final (I : Inv nt H Tm R n M ρ0 w0 D ρ tm w) (hD : ∀ i, i < n → D i = true) : TR ρ nt (Tm n) tm ∧ HR ρ (H n).blk.get w ∧ Ext ρ0 ρ (H 0) (H n) w0 w := by
 have hno : ∀ i, i < n → D i ≠ false := fun i hi h => by rw [hD i hi] at h; cases h
 refine ⟨⟨I.size, fun t x hx => I.tmp t x ?_⟩, I.heap.weaken fun b x hb hx => ?_, ⟨I.le, X.mono (Nat.zero_le _) (Nat.le_refl _), I.new, I.calm, I.kept, X.logs (Nat.le_refl _), fun b hb => ?_, I.imm⟩⟩
 ·rw [X.tn_text (Nat.le_refl _) fun i hi h => absurd h (hno i hi)]; exact hx
 ·rw [X.cn_text (Nat.le_refl _) fun i hi h => absurd h (hno i hi)]; exact hx
 ·rcases Nat.lt_or_ge b (H 0).nx with h | h
  ·exact .inl (X.live h (Nat.le_refl _) hb)
  ·refine .inr ⟨h, ?_⟩;rcases Nat.lt_or_ge b (H n).nx with h' | h'
   ·exact h'
   ·exact absurd (X.wfAt (Nat.le_refl _) b h') hb
omit X in
theorem LJ {j : Nat} {o : Oper} (t : Tx E callF all H Tm R Dd j o) {e : Edge} (he : e ∈ o.after.toList) (hb : Region.binds .any e = true) : e.on < j := by
 obtain ⟨x, hx⟩ := (CG t.mask).1 e he hb;have := (List.getElem?_eq_some_iff.1 hx).1;simpa using this
omit X in
theorem NO {j : Nat} {o : Oper} (t : Tx E callF all H Tm R Dd j o) (hcl : ∀ j, D j = true → ∀ i, (R j).mask.testBit i = true → D i = true)
  (hon : ∀ e ∈ o.after.toList, Region.binds .any e = true → D e.on = true) {i : Nat} (hi : (R j).mask.testBit i = true) : D i = true := by
 obtain ⟨e, he, hb, x, hx, h⟩ := ((CG t.mask).2 i).1 hi;have hlt := LJ t he hb;rw [List.getElem?_map, List.getElem?_range hlt] at hx;simp only [Option.map_some, Option.some.injEq] at hx;subst hx;rcases h with h | h
 ·exact hcl e.on (hon e he hb) i h
 ·rw [h]; exact hon e he hb
end
end Go.AE
namespace Go.AE
variable [U : Unk]
theorem JO : ∀ {l : List Bool} {i : Nat}, l[i]? = some false → (l.set i true).count true = l.count true + 1
 | [], i, h => by cases h
 | b :: l, 0, h => by
  simp only [List.getElem?_cons_zero, Option.some.injEq] at h;subst h;simp
 | b :: l, i + 1, h => by
  have := JO (l := l) (i := i) (by simpa using h)
  simp only [List.set_cons_succ, List.count_cons, this];omega
theorem PH {a : Array Bool} {i : Nat} (hi : i < a.size) : (fun j => (a.setIfInBounds i true).getD j false) = ins (fun j => a.getD j false) i := by
 funext j
 simp only [ins, Array.getD_eq_getD_getElem?];by_cases e : j = i
 ·subst e; simp [hi]
 ·rw [if_neg e, Array.getElem?_setIfInBounds_ne (Ne.symm e)]
section
variable {E : Env} (hE : OK E) {callF : Ask → Aa → Option (Bool × AV × Aa)} (hF : H2 E callF) {all : Array Oper} {nt : Nat} {H : Nat → Aa} {Tm : Nat → T AV} {R : Nat → Rc} {Dd : Nat → Did} {n M : Nat}
 {ρ0 : Ren} {w0 : World} {k : List Item} {cs : List Frame} (X : Bt E callF all nt H Tm R Dd n)
include hE hF X
theorem Bt.sched (hM : (H n).nx ≤ M) (hfree : AN ρ0 (H 0).nx M) (hle : n ≤ all.size)
  (hbad : n < all.size → ∃ o, all[n]? = some o ∧ Bad E callF all H Tm R Dd n o (all.toList.drop (n + 1))) :
  ∀ (fuel t : Nat) (listed : Array Bool) (ρ : Ren) (w : World) (c : Frame), c.mode = .run → c.todo = .inRegion all (Region.linearise.go .any all fuel t listed []) :: k → listed.size = all.size →
   all.size ≤ fuel + listed.toList.count true → Inv nt H Tm R n M ρ0 w0 (fun i => listed.getD i false) ρ c.tmps w →
   ∃ rest σ tm' w' D', Inv nt H Tm R n M ρ0 w0 D' σ tm' w' ∧ (∀ i, i < n → D' i = true) ∧ Steps E.P (lone c cs w) (lone { c with tmps := tm', todo := .inRegion all rest :: k } cs w') ∧
    (n = all.size → rest = []) ∧ (n < all.size → ∃ r, rest = n :: r) := by
 have htx : ∀ j, j < all.size → j ≤ n → ∃ o, all[j]? = some o ∧ Tx E callF all H Tm R Dd j o := by
  intro j hj hjn;rcases Nat.lt_or_ge j n with h | h
  ·obtain ⟨o, h1, h2⟩ := X.good j h; exact ⟨o, h1, h2.tx⟩
  ·have : j = n := by omega
   subst this;obtain ⟨o, h1, h2⟩ := hbad hj; exact ⟨o, h1, h2.tx⟩
 have hend : ∀ (listed : Array Bool) (ρ : Ren) (w : World) (c : Frame), listed.size = all.size → c.todo = .inRegion all [] :: k → Inv nt H Tm R n M ρ0 w0 (fun i => listed.getD i false) ρ c.tmps w → (∀ i, i < all.size → listed.getD i false = true) →
   ∃ rest σ tm' w' D', Inv nt H Tm R n M ρ0 w0 D' σ tm' w' ∧ (∀ i, i < n → D' i = true) ∧ Steps E.P (lone c cs w) (lone { c with tmps := tm', todo := .inRegion all rest :: k } cs w') ∧
    (n = all.size → rest = []) ∧ (n < all.size → ∃ r, rest = n :: r) := by
  intro listed ρ w c hsz ht I hall;refine ⟨[], ρ, c.tmps, w, _, I, fun i hi => hall i (by omega), ?_, fun _ => rfl, fun h => ?_⟩
  ·rw [← ht]; exact Steps.refl _ _
  ·exact absurd (I.sub n (hall n h)) (Nat.lt_irrefl _)
 intro fuel
 induction fuel with
 | zero =>
  intro t listed ρ w c hm ht hsz hcnt I;refine hend listed ρ w c hsz (by simpa [Region.linearise.go] using ht) I fun i hi => ?_
  have hlen : listed.toList.count true = listed.toList.length := by
   have := List.count_le_length (a := true) (l := listed.toList);have e : listed.toList.length = listed.size := Array.length_toList;omega
  have := (List.count_eq_length.1 hlen) (listed[i]'(by omega)) (by simp)
  rw [Array.getD_eq_getD_getElem?];simp [hsz, hi, ← this]
 | succ fuel ih =>
  intro t listed ρ w c hm ht hsz hcnt I
  have hgo : Region.linearise.go .any all (fuel + 1) t listed [] = (match (Region.ready .any all listed)[t % (Region.ready .any all listed).length]? with
   | some i => Region.linearise.go .any all fuel (t / (Region.ready .any all listed).length) (listed.setIfInBounds i true) [i]
   | none => [].reverse) := rfl
  cases hi : (Region.ready .any all listed)[t % (Region.ready .any all listed).length]? with
  | none =>
   have hnil : Region.ready .any all listed = [] := by
    cases hr : Region.ready .any all listed with
    | nil => rfl
    | cons x xs =>
     rw [hr] at hi;have hlt : t % (x :: xs).length < (x :: xs).length := Nat.mod_lt _ (by simp)
     simp at hi;simp at hlt;omega
   rw [hgo, hi] at ht;refine hend listed ρ w c hsz ht I fun i => ?_
   induction i using Nat.strongRecOn with
   | ind i ihi =>
    intro hia;cases hli : listed.getD i false with
    | true => rfl
    | false =>
     exfalso
     have hin : i ≤ n := by
      rcases Nat.lt_or_ge n i with h | h
      ·exact absurd (I.sub n (ihi n h (by omega))) (Nat.lt_irrefl _)
      ·exact h
     obtain ⟨o, ho, tx⟩ := htx i hia hin
     have : i ∈ Region.ready .any all listed := by
      unfold Region.ready;rw [List.mem_filter];refine ⟨by simpa using hia, ?_⟩
      have h1 : listed.getD i true = false := by
       rw [Array.getD_eq_getD_getElem?] at hli ⊢;have : i < listed.size := by omega
       simpa [this] using hli
      simp only [h1, ho, Option.map_some, Option.getD_some, Bool.not_false, Bool.true_and];rw [Array.all_eq_true_iff_forall_mem];intro e he;cases hb : Region.binds .any e with
      | false => rfl
      | true =>
       have hlt := LJ tx (by simpa using he) hb
       simp [ihi e.on hlt (by omega)]
     rw [hnil] at this; cases this
  | some i =>
   have hmem : i ∈ Region.ready .any all listed := List.mem_of_getElem? hi;rw [hgo, hi] at ht;simp only at ht;rw [linearise_go_acc, List.reverse_singleton, List.singleton_append] at ht;unfold Region.ready at hmem;rw [List.mem_filter] at hmem;obtain ⟨hia, hcond⟩ := hmem;simp only [List.mem_range] at hia;simp only [Bool.and_eq_true, Bool.not_eq_true'] at hcond;obtain ⟨hun, hedges⟩ := hcond
   have hun' : listed.getD i false = false := by
    rw [Array.getD_eq_getD_getElem?] at hun ⊢;have : i < listed.size := by omega
    simpa [this] using hun
   have hon : ∀ o, all[i]? = some o → ∀ e ∈ o.after.toList, Region.binds .any e = true → listed.getD e.on false = true := by
    intro o ho e he hb;rw [ho] at hedges;simp only [Option.map_some, Option.getD_some] at hedges;rw [Array.all_eq_true_iff_forall_mem] at hedges;have := hedges e (by simpa using he)
    simpa [hb] using this
   rcases Nat.lt_trichotomy i n with hin | hin | hin
   ·obtain ⟨o, ho, g⟩ := X.good i hin;have hready : ∀ q, (R i).mask.testBit q = true → (fun i => listed.getD i false) q = true := fun q hq => NO (D := fun i => listed.getD i false) g.tx I.closed (hon o ho) hq
    have hD : (fun i => listed.getD i false) i = false := hun'
    have htr := X.tagree I hin hD hready;rw [g.looks] at htr;have hlo := X.lo hin;have hhi := X.hi hin;have hm0 := X.mono (i := 0) (j := i) (by omega) (by omega)
    have hmn := X.mono (i := i + 1) (j := n) (by omega) (by omega)
    rw [g.hi] at hhi
    have hfr : AN ρ (H i).nx (Dd i).g.nx := by
     intro b h1 h2;cases hb : ρ b with
     | none => rfl
     | some base =>
      obtain ⟨j', hD', hr'⟩ := I.free b (by omega) (by omega) (by rw [hb]; exact Option.some_ne_none _)
      have := X.disj hin (I.sub j' hD') ⟨by omega, by rw [g.hi]; exact h2⟩ hr'
      subst this;rw [hun'] at hD'; cases hD'
    obtain ⟨σ, v', w', q1, q2, q3, q4⟩ := JY hE hF (cs := cs) g.tx.did (X.wfAt (by omega)) hm ht ho htr (I.heap.weaken fun b x hb hx => X.agree I hM hin hD hready hb hx) hfr
    have I' := X.step I hM hfree hin hD hready q2 q3 q4;rw [← PH (by omega)] at I'
    rw [g.ok] at q1
    have efin : c.finish v' = { c with tmps := Gd c.tmps (R i).dst v', todo := .inRegion all (Region.linearise.go .any all fuel (t / (Region.ready .any all listed).length) (listed.setIfInBounds i true) []) :: k } := by
     simp only [Frame.finish, ht, ho, Option.bind_some, Gd, g.dst];cases o.dst <;> rfl
    simp only [Bk] at q1;rw [efin] at q1
    obtain ⟨rest, τ, tm', w2, D', r1, r2, r3, r4, r5⟩ := ih _ (listed.setIfInBounds i true) σ w' { c with tmps := Gd c.tmps (R i).dst v', todo := .inRegion all (Region.linearise.go .any all fuel (t / (Region.ready .any all listed).length) (listed.setIfInBounds i true) []) :: k } hm rfl (by simp [hsz]) (by
     rw [Array.toList_setIfInBounds, JO]
     ·omega
     ·have : i < listed.size := by omega
      rw [Array.getD_eq_getD_getElem?] at hun';simpa [this] using hun') I'
    exact ⟨rest, τ, tm', w2, D', r1, r2, Steps.trans q1 r3, r4, r5⟩
   ·subst hin;obtain ⟨o, ho, b⟩ := hbad hia;refine ⟨i :: Region.linearise.go .any all fuel (t / (Region.ready .any all listed).length) (listed.setIfInBounds i true) [], ρ, c.tmps, w, _, I, fun q hq => ?_, ?_, fun h => by omega, fun _ => ⟨_, rfl⟩⟩
    ·refine NO (D := fun i => listed.getD i false) b.tx I.closed (hon o ho) ?_
     have : (R i).mask = 2 ^ i - 1 := by have := b.all; omega
     rw [this, Nat.testBit_two_pow_sub_one];simpa using hq
    ·rw [← ht]; exact Steps.refl _ _
   ·exfalso
    obtain ⟨o, ho, b⟩ := hbad (by omega)
    obtain ⟨recs, a1, a2, a3⟩ := b.after;have hoi : all[i]? = some all[i] := by simp [hia]
    have := G5 (recs := recs ++ [{ wr := [], fp := none, lo := 0, hi := 0, dst := none, looks := [], mask := (R n).mask }]) (fun q x hq hx => ?_) (by simp [a1]) a3 all[i] ?_
    ·obtain ⟨e, he, hb, hge⟩ := this;have := hon _ hoi e he hb;have := I.sub e.on this;omega
    ·rw [List.getElem?_append_left (by omega), a2, List.getElem?_map, List.getElem?_range hq] at hx
     simp only [Option.map_some, Option.some.injEq] at hx;subst hx;cases hbit : (R q).mask.testBit n with
     | false => rfl
     | true => have := X.bits hq hbit; omega
    ·rw [List.mem_iff_getElem?];refine ⟨i - (n + 1), ?_⟩;rw [List.getElem?_drop];rw [show n + 1 + (i - (n + 1)) = i by omega]
     simp
end
end Go.AE
namespace Go.AE
variable [U : Unk]
theorem Ej {f : AF} {cs : List AF} {v v2 : AV} {h h2 : Aa} {ok : Bool} (hx : CR f cs v h = .done ok v2 h2) : cs = [] ∧ f.kind = .normal ∧ ok = true ∧ v2 = v ∧ h2 = h := by
 unfold CR at hx;split at hx
 ·split at hx
  ·split at hx <;> cases hx
  ·split at hx <;> cases hx
  ·cases hx
 ·split at hx
  ·rename_i hk; cases hx; exact ⟨rfl, hk, rfl, rfl, rfl⟩
  ·cases hx
theorem D6 {f : AF} {cs : List AF} {v : AV} {h : Aa} {s : AS} {ops : Array Oper} {k : List AI} : CR f cs v h ≠ .draw s ops k := by
 intro hx;unfold CR at hx;split at hx
 ·split at hx
  ·split at hx <;> cases hx
  ·split at hx <;> cases hx
  ·cases hx
 ·split at hx <;> cases hx
theorem Dm {E : Env} {f : AF} {cs : List AF} {r : Res} : (∃ s, Br E f cs r = .next s) ∨ ∃ y, Br E f cs r = .bad y := by
 cases r <;> simp only [Br] <;> repeat' (first | exact .inl ⟨_, rfl⟩ | exact .inr ⟨_, rfl⟩ | split)
theorem F3 {E : Env} {s : AS} {f : Operand} {ps : List Tmp} {a b : Code} {k : List AI} : (∃ s', E8 E s f ps a b k = .next s') ∨ ∃ y, E8 E s f ps a b k = .bad y := by
 unfold E8
 repeat' (first | exact .inl ⟨_, rfl⟩ | exact .inr ⟨_, rfl⟩ | split)
theorem Dn {f : AF} {cs : List AF} {h : Aa} {j : Option Code} {s : AS} {ops : Array Oper} {k : List AI} : Dp f cs h j ≠ .draw s ops k := by
 intro hx;unfold Dp at hx;split at hx
 ·split at hx <;> cases hx
 ·split at hx
  ·exact D6 hx
  ·cases hx
theorem J3 {E : Env} {f : AF} {cs : List AF} {h : Aa} {s : AS} {ops : Array Oper} {k : List AI} : Ei E f cs h ≠ .draw s ops k := by
 intro hx;unfold Ei at hx;split at hx
 ·split at hx
  ·split at hx <;> cases hx
  ·split at hx
   ·split at hx <;> cases hx
   ·cases hx
 ·split at hx
  ·cases hx
  ·split at hx
   ·split at hx <;> cases hx
   ·split at hx
    ·split at hx <;> cases hx
    ·cases hx
  ·split at hx
   ·split at hx
    ·exact D6 hx
    ·exact D6 hx
    ·cases hx
   ·cases hx
theorem Fx {E : Env} {s s' : AS} {ops : Array Oper} {k : List AI} (hx : EO E s = .draw s' ops k) : s' = s ∧ s.fr.mode = .run ∧ ∃ id, s.fr.todo = .code (.region id ops true) :: k := by
 unfold EO at hx;simp only at hx;split at hx
 ·rename_i hm;split at hx
  ·exact absurd hx Dn
  ·cases hx
  ·cases hx
  ·cases hx
  ·cases hx
  ·split at hx
   ·rcases Dm (E := E) (f := s.fr) (cs := s.cs) (r := aop E s.fr.tmps s.h _) with ⟨y, h⟩ | ⟨y, h⟩ <;> (rw [h] at hx; cases hx)
   ·rcases Dm (E := E) (f := s.fr) (cs := s.cs) (r := .val .undef s.h) with ⟨y, h⟩ | ⟨y, h⟩ <;> (rw [h] at hx; cases hx)
   ·cases hx
  ·cases hx
  ·cases hx
  ·cases hx
  ·split at hx
   ·split at hx <;> cases hx
   ·cases hx
  ·split at hx
   ·split at hx <;> cases hx
   ·cases hx
  ·rename_i c k2 ht;split at hx
   ·exact absurd hx Dn
   ·cases hx
   ·cases hx
   ·cases hx
   ·split at hx
    ·cases hx
    ·cases hx
    ·split at hx
     ·split at hx <;> cases hx
     ·cases hx
    ·cases hx
   ·cases hx
   ·cases hx
   ·cases hx
   ·split at hx
    ·cases hx
    ·split at hx
     ·cases hx
     ·exact absurd hx Dn
   ·split at hx
    ·cases hx
    ·split at hx
     ·cases hx
     ·exact absurd hx Dn
   ·rcases F3 (E := E) (s := s) with ⟨y, h⟩ | ⟨y, h⟩ <;> (rw [h] at hx; cases hx)
   ·split at hx
    ·cases hx
    ·cases hx; exact ⟨rfl, hm, _, ht⟩
   ·cases hx
 ·exact absurd hx J3
end Go.AE
namespace Go.AE
variable [U : Unk]
def SW (ok : Bool) (v : Value) : Ending := match ok with
 | true => .returned v
 | false => .panicked [{ v := v, recovered := false }]
def Sl (c0 : Frame) (ok : Bool) (v : Value) : Frame := match ok with
 | true => c0.finish v
 | false => c0.raise [{ v := v, recovered := false }]
structure Ky (P : Program) (cf : Frame) (w : World) (ok : Bool) (v' : Value) (w' : World) : Prop where
 back : ∀ (c0 : Frame) (base : List Frame), step P (lone cf (c0 :: base) w) = .next (lone (Sl c0 ok v') base w')
 leaves : cf.roundOf = none → w' = w ∧ cf.leaving P w (SW ok v')
section
variable {E : Env} (hE : OK E) {ρ : Ren} {h h2 : Aa} {w : World} {c : Frame} {f : AF} {cs : List AF} {ccs base : List Frame} {s s' : AS} {ok : Bool} {v : AV}
theorem FrL.nil_inv {ρ : Ren} {l : List Frame} (h : FrL ρ [] l) : l = [] := by cases h; rfl
theorem Dh (hr : HR ρ h.blk.get w) (hf : FrR ρ f c) (hm : c.mode = .run) {jump : Option Code}
  (ht : (c.todo = [] ∧ jump = none) ∨ (∃ k, c.todo = .code .ret :: k ∧ jump = some .ret) ∨ (∃ id k, c.todo = .code (.exit id) :: k ∧ exitTo id k = none ∧ jump = some (.exit id)) ∨ (∃ l k, c.todo = .code (.goto l) :: k ∧ gotoIn l k = none ∧ jump = some (.goto l)))
  (hx : Dp f cs h jump = .done ok v h2) : cs = [] ∧ ∃ v' w', VR ρ v v' ∧ HR ρ h2.blk.get w' ∧ Ext ρ ρ h h2 w w' ∧ Ky E.P c w ok v' w' := by
 have hround := hf.round;unfold Dp at hx;split at hx
 ·split at hx <;> cases hx
 ·rename_i l hrs;rw [hrs] at hround;obtain ⟨b, hb, hro⟩ := hround.some_inv;split at hx
  ·rename_i st pending fn nt tmps params assign body d hl;obtain ⟨w', q1, q2, q3⟩ := G7 (E := E) hr hb hl jump;obtain ⟨rfl, hk, rfl, rfl, rfl⟩ := Ej hx;refine ⟨rfl, _, w', .bool _, q2, q3, ⟨fun c0 base => Lu hm hro (hf.kind.trans hk) ht q1, fun h => by rw [hro] at h; cases h⟩⟩
  ·cases hx
include hE
theorem Kw (hr : HR ρ h.blk.get w) (hf : FrR ρ f c) (hm : c.mode ≠ .run) (hx : Ei E f cs h = .done ok v h2) : cs = [] ∧ ∃ v' w', VR ρ v v' ∧ HR ρ h2.blk.get w' ∧ Ext ρ ρ h h2 w w' ∧ Ky E.P c w ok v' w' := by
 have hdef := hf.defers;unfold Ei at hx;split at hx
 ·split at hx
  ·split at hx <;> cases hx
  ·split at hx
   ·split at hx <;> cases hx
   ·cases hx
 ·rename_i hfd;rw [hfd] at hdef
  have hcd : c.defers = [] := by
   cases hcd : c.defers with
   | nil => rfl
   | cons d' ds' => rw [hcd] at hdef; exact hdef.elim
  have hmode := hf.mode;split at hx
  ·cases hx
  ·rename_i chain hfm;rw [hfm] at hmode;split at hx
   ·split at hx <;> cases hx
   ·split at hx
    ·split at hx
     ·rename_i fn hfn;cases hx;generalize hcm : c.mode = cm at hmode;cases hmode with
      | panic _ ch' hch =>
       cases ch' with
       | nil => exact hch.elim
       | cons e r =>
        obtain ⟨h1, h2, h3, h4⟩ := hch;cases r with
        | cons _ _ => exact h4.elim
        | nil =>
         obtain ⟨ev, er, eg⟩ := e;simp only at h1 h2 h3;subst h2; subst h3;have hl : c.leaving E.P w (.panicked [{ v := ev, recovered := false }]) := ⟨hcm, hcd, fn, by rw [hf.fn]; exact hE.fn _ _ hfn⟩
         exact ⟨rfl, ev, w, h1, hr, Ext.refl _ _ _, ⟨fun c0 base => step_leave_panicked hl, fun _ => ⟨rfl, hl⟩⟩⟩
     ·cases hx
    ·cases hx
  ·rename_i hfm;rw [hfm] at hmode
   have hcm : c.mode = .returning := by
    generalize c.mode = x at hmode;cases hmode; rfl
   split at hx
   ·rename_i fn hfn;have hfn' : E.P.funcs[c.fn]? = some fn := by rw [hf.fn]; exact hE.fn _ _ hfn
    split at hx
    ·rename_i v hrs;obtain ⟨v', p1, p2, p3⟩ := Ea hE hr hf hrs;obtain ⟨rfl, hk, rfl, rfl, rfl⟩ := Ej hx;have hl : c.leaving E.P w (.returned v') := ⟨hcm, hcd, hf.kind.trans hk, fn, hfn', p1⟩;exact ⟨rfl, v', w, p2 _ rfl, hr, Ext.refl _ _ _, ⟨fun c0 base => step_leave_returned hl, fun _ => ⟨rfl, hl⟩⟩⟩
    ·rename_i l hne hrs;obtain ⟨v', p1, p2, p3⟩ := Ea hE hr hf hrs;obtain ⟨rfl, hk, rfl, rfl, rfl⟩ := Ej hx;have hl : c.leaving E.P w (.returned v') := ⟨hcm, hcd, hf.kind.trans hk, fn, hfn', p1⟩;exact ⟨rfl, v', w, p3 fun a e => hne a (by rw [e]), hr, Ext.refl _ _ _, ⟨fun c0 base => step_leave_returned hl, fun _ => ⟨rfl, hl⟩⟩⟩
    ·cases hx
   ·cases hx
theorem IP (hsr : SR ρ s c ccs w) (hx : EO E s = .done ok v h2) : ccs = [] ∧ ∃ v' w', VR ρ v v' ∧ HR ρ h2.blk.get w' ∧ Ext ρ ρ s.h h2 w w' ∧ Ky E.P c w ok v' w' := by
 have hmode := hsr.fr.mode;have htodo := hsr.fr.todo
 suffices hs : s.cs = [] ∧ ∃ v' w', VR ρ v v' ∧ HR ρ h2.blk.get w' ∧ Ext ρ ρ s.h h2 w w' ∧ Ky E.P c w ok v' w' by
  obtain ⟨h1, h2⟩ := hs;have hcs := hsr.cs;rw [h1] at hcs;exact ⟨hcs.nil_inv, h2⟩
 unfold EO at hx;simp only at hx;split at hx
 ·rename_i hmf;rw [hmf] at hmode
  have hm : c.mode = .run := by
   generalize c.mode = x at hmode;cases hmode; rfl
  split at hx
  ·rename_i ht;rw [ht] at htodo;generalize hct : c.todo = td at htodo;cases htodo;exact Dh hsr.h hsr.fr hm (.inl ⟨hct, rfl⟩) hx
  ·cases hx
  ·cases hx
  ·cases hx
  ·cases hx
  ·split at hx
   ·rcases Dm (E := E) (f := s.fr) (cs := s.cs) (r := aop E s.fr.tmps s.h _) with ⟨y, h⟩ | ⟨y, h⟩ <;> (rw [h] at hx; cases hx)
   ·rcases Dm (E := E) (f := s.fr) (cs := s.cs) (r := .val .undef s.h) with ⟨y, h⟩ | ⟨y, h⟩ <;> (rw [h] at hx; cases hx)
   ·cases hx
  ·cases hx
  ·cases hx
  ·cases hx
  ·split at hx
   ·split at hx <;> cases hx
   ·cases hx
  ·split at hx
   ·split at hx <;> cases hx
   ·cases hx
  ·rename_i cd k ht;rw [ht] at htodo;generalize hct : c.todo = td at htodo;cases htodo with | cons a hk =>
   cases a;split at hx
   ·exact Dh hsr.h hsr.fr hm (.inr (.inl ⟨_, hct, rfl⟩)) hx
   ·cases hx
   ·cases hx
   ·cases hx
   ·split at hx
    ·cases hx
    ·cases hx
    ·split at hx
     ·split at hx <;> cases hx
     ·cases hx
    ·cases hx
   ·cases hx
   ·cases hx
   ·cases hx
   ·split at hx
    ·cases hx
    ·rename_i he;split at hx
     ·cases hx
     ·rename_i hre;exact Dh hsr.h hsr.fr hm (.inr (.inr (.inl ⟨_, _, hct, (In hk).2 he hre, rfl⟩))) hx
   ·split at hx
    ·cases hx
    ·rename_i he;split at hx
     ·cases hx
     ·rename_i hre;exact Dh hsr.h hsr.fr hm (.inr (.inr (.inr ⟨_, _, hct, (Io hk).2 he hre, rfl⟩))) hx
   ·rcases F3 (E := E) (s := s) with ⟨y, h⟩ | ⟨y, h⟩ <;> (rw [h] at hx; cases hx)
   ·split at hx <;> cases hx
   ·cases hx
 ·rename_i hmf;exact Kw hE hsr.h hsr.fr (F6.not_run hmode hmf) hx
end
end Go.AE
namespace Go.AE
@[reducible] def Tq : Unk := { facts := [], V := ⟨fun _ => default, fun _ d => d⟩, K := fun _ => none, R := [], hR := fun _ _ _ _ _ h => (by cases h), ok := by simp }
def EP : SE → SE
 | .nilIs y _ => EP y
 | .nilL => .c 0
 | .emptyL => .c 0
 | .upd a _ _ _ => EP a
 | .cat a b => match EP a with
  | .c n => match n == 0 with
   | true => EP b
   | false => .lenL (.cat a b)
  | _ => .lenL (.cat a b)
 | .snoc a r => match EP a with
  | .c n => .c (n + 1)
  | _ => .lenL (.snoc a r)
 | x => .lenL x
def GF : SE → SE
 | .nilIs _ b => b
 | .nilL => .bc true
 | .emptyL => .bc false
 | .snoc _ _ => .bc false
 | .rep _ _ => .bc false
 | .upd a _ _ _ => GF a
 | x => .isNil x
def Pu : SE → SE → SE
 | .bc true, b => b
 | .bc false, _ => .bc false
 | _, .bc false => .bc false
 | a, .bc true => a
 | a, b => .and a b
def SE.isB : SE → Bool
 | .bc _ => true
 | .lss _ _ => true
 | .eql _ _ => true
 | .eqS _ _ _ => true
 | .eqSS _ _ => true
 | .isNil _ => true
 | .neg _ => true
 | .and _ _ => true
 | _ => false
def ST : SE → SE
 | .bc b => .bc (!b)
 | x => .neg x
def RS : SE → SE → SE
 | .c n, .c m => .bc (n == m)
 | a, b => match a.same b with
  | true => .bc true
  | false => .eql a b
def RP : SE → SE → SE
 | .c n, .c m => .bc (decide (n < m))
 | a, b => .lss a b
def SE.norm : SE → SE
 | .lenL a => EP a.norm
 | .isNil a => match (GF a.norm).isB with
  | true => GF a.norm
  | false => .isNil a.norm
 | .and a b => match (Pu a.norm b.norm).isB with
  | true => Pu a.norm b.norm
  | false => .and a.norm b.norm
 | .neg a => ST a.norm
 | .nilIs a b => .nilIs a.norm b.norm
 | .eql a b => RS a.norm b.norm
 | .lss a b => RP a.norm b.norm
 | .arith op k a b => .arith op k a.norm b.norm
 | .cell a i j => .cell a.norm i.norm j
 | .snoc a r => .snoc a.norm r.norm
 | .rcons x r => .rcons x.norm r.norm
 | .upd a i j x => .upd a.norm i.norm j x.norm
 | .sel a j => .sel a.norm j
 | .app g a => .app g a.norm
 | .cat a b => .cat a.norm b.norm
 | .rmv a i => .rmv a.norm i.norm
 | .mIdx ks a k => .mIdx ks a.norm k.norm
 | e => e
theorem PD (V : Val) : ∀ x : SE, Ab V (EP x) = .int ((Ab V x).rows.length : Nat) := by
 intro x
 induction x
 case nilIs y b ih _ => simp only [EP, ih, Ab, D.rows]
 case upd a i j x ih _ _ => simp only [EP, ih, Ab, D.rows, List.length_modify]
 case cat a b iha ihb =>
  simp only [EP];split
  ·rename_i n h;split
   ·rename_i hn;have hn := eq_of_beq hn;subst hn;rw [h] at iha
    have h0 : (Ab V a).rows.length = 0 := by
     simp only [Ab, D.int.injEq] at iha;omega
    rw [ihb];have e : (Ab V (.cat a b)).rows = (Ab V a).rows ++ (Ab V b).rows := rfl;rw [e, List.length_append, h0, Nat.zero_add]
   ·rfl
  ·rfl
 case snoc a r ih _ =>
  simp only [EP];split
  ·rename_i n h;rw [h] at ih;simp only [Ab, D.int.injEq, D.rows, List.length_append, List.length_singleton] at ih ⊢;omega
  ·rfl
 all_goals rfl
theorem OH (V : Val) : ∀ x : SE, (GF x).isB = true → Ab V (GF x) = .bool (Ab V x).isNil := by
 intro x
 induction x <;> intro hb <;> first | rfl | skip
 case upd a i j x ih _ _ => exact ih hb
 case nilIs y b _ _ =>
  simp only [GF] at hb ⊢;cases b <;> first | rfl | (simp [SE.isB] at hb; done) | skip
theorem J9 (V : Val) {x : SE} (h : x.isB = true) : Ab V x = .bool (Ab V x).toBool := by
 cases x <;> first | rfl | (simp [SE.isB] at h; done)
theorem Rt (V : Val) (a b : SE) (h : (Pu a b).isB = true) : Ab V (Pu a b) = Ab V (.and a b) := by
 unfold Pu at h ⊢;split
 ·simp only at h;rw [J9 V h]; simp only [Ab, D.toBool, Bool.true_and]
 ·simp only [Ab, D.toBool, Bool.false_and]
 ·simp only [Ab, D.toBool, Bool.and_false]
 ·simp only at h;rw [J9 V h]; simp only [Ab, D.toBool, Bool.and_true]
 ·rfl
theorem Q7 (V : Val) (a b : SE) : Ab V (RS a b) = Ab V (.eql a b) := by
 unfold RS;split
 ·rfl
 ·split
  ·rename_i h;rw [SE.same_ok (U := Tq) h];simp only [Ab, beq_self_eq_true]
  ·rfl
theorem Rb (V : Val) (a b : SE) : Ab V (RP a b) = Ab V (.lss a b) := by
 unfold RP;split <;> rfl
theorem BJ (V : Val) : ∀ e : SE, Ab V e.norm = Ab V e := by
 intro e
 induction e
 case lenL a ih => simp only [SE.norm, PD, ih]; rfl
 case isNil a ih =>
  simp only [SE.norm];split
  ·rename_i h; rw [OH V _ h, ih]; rfl
  ·simp only [Ab, ih]
 case and a b iha ihb =>
  simp only [SE.norm];split
  ·rename_i h; rw [Rt V _ _ h]; simp only [Ab, iha, ihb]
  ·simp only [Ab, iha, ihb]
 case neg a ih =>
  simp only [SE.norm];unfold ST;split
  ·rename_i b h;rw [h] at ih;simp only [Ab] at ih ⊢;rw [← ih]; rfl
  ·simp only [Ab, ih]
 case eql a b iha ihb => simp only [SE.norm, Q7, Ab, iha, ihb]
 case lss a b iha ihb => simp only [SE.norm, Rb, Ab, iha, ihb]
 all_goals simp_all only [SE.norm, Ab]
def eqD {α : Type} [DecidableEq α] (a b : α) : Bool := decide (a = b)
theorem BL {α : Type} [DecidableEq α] {a b : α} (h : eqD a b = true) : a = b := of_decide_eq_true h
theorem AQ {i j : Nat} (h : Nat.beq i j = true) : i = j := Nat.eq_of_beq_eq_true h
def KB : Value → Value → Bool
 | .bool a, .bool b => eqD a b
 | .int k a, .int k' b => eqD k k' && eqD a b
 | .string a, .string b => eqD a.data.toList b.data.toList
 | .pointer none, .pointer none => true
 | .slice none a b, .slice none a' b' => Nat.beq a a' && Nat.beq b b'
 | .map none, .map none => true
 | .nilFunc, .nilFunc => true
 | .nilIface, .nilIface => true
 | _, _ => false
theorem Mx {a b : Value} (h : KB a b = true) : a = b := by
 unfold KB at h;split at h <;> first | rfl | (cases h; done) | skip
 ·rw [BL h]
 ·simp only [Bool.and_eq_true] at h; rw [BL h.1, BL h.2]
 ·rename_i a b;have := BL h
  have e : a = b := by
   cases a; cases b;simp only [ByteArray.mk.injEq];exact Array.ext' this
  rw [e]
 ·simp only [Bool.and_eq_true] at h; rw [AQ h.1, AQ h.2]
def Av : Operand → Operand → Bool
 | .tmp a, .tmp b => Nat.beq a b
 | .const a, .const b => KB a b
 | .global a, .global b => Nat.beq a b
 | .func a, .func b => Nat.beq a b
 | _, _ => false
theorem Aj {a b : Operand} (h : Av a b = true) : a = b := by
 unfold Av at h;split at h <;> first | (cases h; done) | skip
 ·rw [AQ h]
 ·rw [Mx h]
 ·rw [AQ h]
 ·rw [AQ h]
def II {α : Type} (eq : α → α → Bool) : List α → List α → Bool
 | [], [] => true
 | a :: l, b :: m => eq a b && II eq l m
 | _, _ => false
theorem GZ {α : Type} {eq : α → α → Bool} (he : ∀ a b, eq a b = true → a = b) : ∀ {l m : List α}, II eq l m = true → l = m
 | [], [], _ => rfl
 | a :: l, b :: m, h => by
  simp only [II, Bool.and_eq_true] at h;rw [he a b h.1, GZ he h.2]
 | [], _ :: _, h => by cases h
 | _ :: _, [], h => by cases h
def Iw {α : Type} (eq : α → α → Bool) (a b : Array α) : Bool := II eq a.toList b.toList
theorem DU {α : Type} {eq : α → α → Bool} (he : ∀ a b, eq a b = true → a = b) {a b : Array α} (h : Iw eq a b = true) : a = b := Array.ext' (GZ he h)
def NG (a b : Array Operand) : Bool := Iw Av a b
theorem Is {a b : Array Operand} (h : NG a b = true) : a = b := DU (fun _ _ => Aj) h
def R8 (a b : Array (Nat × Operand)) : Bool := Iw (fun x y => Nat.beq x.1 y.1 && Av x.2 y.2) a b
theorem NU {a b : Array (Nat × Operand)} (h : R8 a b = true) : a = b := DU (fun x y h => by
 simp only [Bool.and_eq_true] at h;exact Prod.ext (AQ h.1) (Aj h.2)) h
def LO {α : Type} (eq : α → α → Bool) : Option α → Option α → Bool
 | none, none => true
 | some a, some b => eq a b
 | _, _ => false
theorem Gr {α : Type} {eq : α → α → Bool} (he : ∀ a b, eq a b = true → a = b) {a b : Option α} (h : LO eq a b = true) : a = b := by
 cases a <;> cases b <;> first | rfl | (cases h; done) | skip
 rw [he _ _ h]
def PW (a b : Option Operand) : Bool := LO Av a b
theorem HA {a b : Option Operand} (h : PW a b = true) : a = b := Gr (fun _ _ => Aj) h
def P0 : Fn → Fn → Bool
 | .func f, .func g => Nat.beq f g
 | .method n, .method m => eqD n m
 | _, _ => false
theorem Qo {a b : Fn} (h : P0 a b = true) : a = b := by
 unfold P0 at h;split at h <;> first | (cases h; done) | skip
 ·rw [AQ h]
 ·rw [BL h]
def Ij : Callee → Callee → Bool
 | .value f, .value g => Av f g
 | .invoke r n, .invoke r' n' => Av r r' && eqD n n'
 | .builtin b, .builtin b' => eqD b b'
 | _, _ => false
theorem LP {a b : Callee} (h : Ij a b = true) : a = b := by
 unfold Ij at h;split at h <;> first | (cases h; done) | skip
 ·rw [Aj h]
 ·simp only [Bool.and_eq_true] at h; rw [Aj h.1, BL h.2]
 ·rw [BL h]
def Kv (a b : Call) : Bool := Ij a.callee b.callee && NG a.args b.args && Iw Nat.beq a.argTypes b.argTypes
theorem JN {a b : Call} (h : Kv a b = true) : a = b := by
 cases a; cases b;simp only [Kv, Bool.and_eq_true] at h;simp only [Call.mk.injEq];exact ⟨LP h.1.1, Is h.1.2, DU (fun _ _ => AQ) h.2⟩
def So : Op → Op → Bool
 | .move x0, .move y0 => Av x0 y0
 | .assign x0, .assign y0 => Av x0 y0
 | .pick x0 x1 x2, .pick y0 y1 y2 => Av x0 y0 && Av x1 y1 && Av x2 y2
 | .alloc x0, .alloc y0 => Nat.beq x0 y0
 | .box x0 x1, .box y0 y1 => Nat.beq x0 y0 && Av x1 y1
 | .build x0 x1, .build y0 y1 => Nat.beq x0 y0 && R8 x1 y1
 | .buildSlice x0 x1 x2, .buildSlice y0 y1 y2 => Nat.beq x0 y0 && Nat.beq x1 y1 && R8 x2 y2
 | .insert x0 x1 x2 x3, .insert y0 y1 y2 y3 => Nat.beq x0 y0 && Av x1 y1 && Av x2 y2 && Av x3 y3
 | .load x0 x1, .load y0 y1 => Nat.beq x0 y0 && Av x1 y1
 | .store x0 x1 x2, .store y0 y1 y2 => Nat.beq x0 y0 && Av x1 y1 && Av x2 y2
 | .ready x0, .ready y0 => Nat.beq x0 y0
 | .waits x0, .waits y0 => Nat.beq x0 y0
 | .nilCheck x0, .nilCheck y0 => Av x0 y0
 | .binOp x0 x1 x2 x3 x4, .binOp y0 y1 y2 y3 y4 => eqD x0 y0 && Nat.beq x1 y1 && Av x2 y2 && Av x3 y3 && Nat.beq x4 y4
 | .unOp x0 x1 x2, .unOp y0 y1 y2 => eqD x0 y0 && Nat.beq x1 y1 && Av x2 y2
 | .convert x0 x1 x2, .convert y0 y1 y2 => Nat.beq x0 y0 && Nat.beq x1 y1 && Av x2 y2
 | .sliceToArrayPointer x0 x1, .sliceToArrayPointer y0 y1 => Nat.beq x0 y0 && Av x1 y1
 | .makeInterface x0 x1, .makeInterface y0 y1 => Nat.beq x0 y0 && Av x1 y1
 | .makeFunc x0 x1 x2, .makeFunc y0 y1 y2 => P0 x0 y0 && NG x1 y1 && NG x2 y2
 | .makeMap x0 x1, .makeMap y0 y1 => Nat.beq x0 y0 && PW x1 y1
 | .makeSlice x0 x1 x2, .makeSlice y0 y1 y2 => Nat.beq x0 y0 && Av x1 y1 && Av x2 y2
 | .slice x0 x1 x2 x3 x4, .slice y0 y1 y2 y3 y4 => Nat.beq x0 y0 && Av x1 y1 && PW x2 y2 && PW x3 y3 && PW x4 y4
 | .fieldAddr x0 x1 x2, .fieldAddr y0 y1 y2 => Nat.beq x0 y0 && Av x1 y1 && Nat.beq x2 y2
 | .field x0 x1 x2, .field y0 y1 y2 => Nat.beq x0 y0 && Av x1 y1 && Nat.beq x2 y2
 | .indexAddr x0 x1 x2, .indexAddr y0 y1 y2 => Nat.beq x0 y0 && Av x1 y1 && Av x2 y2
 | .index x0 x1 x2, .index y0 y1 y2 => Nat.beq x0 y0 && Av x1 y1 && Av x2 y2
 | .lookup x0 x1 x2 x3, .lookup y0 y1 y2 y3 => Nat.beq x0 y0 && Av x1 y1 && Av x2 y2 && eqD x3 y3
 | .mapUpdate x0 x1 x2 x3, .mapUpdate y0 y1 y2 y3 => Nat.beq x0 y0 && Av x1 y1 && Av x2 y2 && Av x3 y3
 | .mapEntry x0 x1 x2, .mapEntry y0 y1 y2 => Nat.beq x0 y0 && Av x1 y1 && Av x2 y2
 | .entryStore x0 x1 x2 x3, .entryStore y0 y1 y2 y3 => Nat.beq x0 y0 && Av x1 y1 && Av x2 y2 && Av x3 y3
 | .range x0 x1, .range y0 y1 => Nat.beq x0 y0 && Av x1 y1
 | .next x0 x1, .next y0 y1 => Av x0 y0 && eqD x1 y1
 | .entry x0, .entry y0 => Av x0 y0
 | .typeAssert x0 x1 x2 x3, .typeAssert y0 y1 y2 y3 => Av x0 y0 && Nat.beq x1 y1 && Nat.beq x2 y2 && eqD x3 y3
 | .extract x0 x1, .extract y0 y1 => Av x0 y0 && Nat.beq x1 y1
 | .call x0, .call y0 => Kv x0 y0
 | .defer x0, .defer y0 => Kv x0 y0
 | .panic x0, .panic y0 => Av x0 y0
 | _, _ => false
set_option maxHeartbeats 4000000 in
theorem Rx : ∀ {a b : Op}, So a b = true → a = b := by
 intro a b h;cases a <;> cases b <;> simp only [So, Bool.false_eq_true, Bool.and_eq_true] at h
 case move.move => have h0 := h; rw [Aj h0]
 case assign.assign => have h0 := h; rw [Aj h0]
 case pick.pick => obtain ⟨⟨h0, h1⟩, h2⟩ := h; rw [Aj h0, Aj h1, Aj h2]
 case alloc.alloc => have h0 := h; rw [AQ h0]
 case box.box => obtain ⟨h0, h1⟩ := h; rw [AQ h0, Aj h1]
 case build.build => obtain ⟨h0, h1⟩ := h; rw [AQ h0, NU h1]
 case buildSlice.buildSlice => obtain ⟨⟨h0, h1⟩, h2⟩ := h; rw [AQ h0, AQ h1, NU h2]
 case insert.insert => obtain ⟨⟨⟨h0, h1⟩, h2⟩, h3⟩ := h; rw [AQ h0, Aj h1, Aj h2, Aj h3]
 case load.load => obtain ⟨h0, h1⟩ := h; rw [AQ h0, Aj h1]
 case store.store => obtain ⟨⟨h0, h1⟩, h2⟩ := h; rw [AQ h0, Aj h1, Aj h2]
 case ready.ready => have h0 := h; rw [AQ h0]
 case waits.waits => have h0 := h; rw [AQ h0]
 case nilCheck.nilCheck => have h0 := h; rw [Aj h0]
 case binOp.binOp => obtain ⟨⟨⟨⟨h0, h1⟩, h2⟩, h3⟩, h4⟩ := h; rw [BL h0, AQ h1, Aj h2, Aj h3, AQ h4]
 case unOp.unOp => obtain ⟨⟨h0, h1⟩, h2⟩ := h; rw [BL h0, AQ h1, Aj h2]
 case convert.convert => obtain ⟨⟨h0, h1⟩, h2⟩ := h; rw [AQ h0, AQ h1, Aj h2]
 case sliceToArrayPointer.sliceToArrayPointer => obtain ⟨h0, h1⟩ := h; rw [AQ h0, Aj h1]
 case makeInterface.makeInterface => obtain ⟨h0, h1⟩ := h; rw [AQ h0, Aj h1]
 case makeFunc.makeFunc => obtain ⟨⟨h0, h1⟩, h2⟩ := h; rw [Qo h0, Is h1, Is h2]
 case makeMap.makeMap => obtain ⟨h0, h1⟩ := h; rw [AQ h0, HA h1]
 case makeSlice.makeSlice => obtain ⟨⟨h0, h1⟩, h2⟩ := h; rw [AQ h0, Aj h1, Aj h2]
 case slice.slice => obtain ⟨⟨⟨⟨h0, h1⟩, h2⟩, h3⟩, h4⟩ := h; rw [AQ h0, Aj h1, HA h2, HA h3, HA h4]
 case fieldAddr.fieldAddr => obtain ⟨⟨h0, h1⟩, h2⟩ := h; rw [AQ h0, Aj h1, AQ h2]
 case field.field => obtain ⟨⟨h0, h1⟩, h2⟩ := h; rw [AQ h0, Aj h1, AQ h2]
 case indexAddr.indexAddr => obtain ⟨⟨h0, h1⟩, h2⟩ := h; rw [AQ h0, Aj h1, Aj h2]
 case index.index => obtain ⟨⟨h0, h1⟩, h2⟩ := h; rw [AQ h0, Aj h1, Aj h2]
 case lookup.lookup => obtain ⟨⟨⟨h0, h1⟩, h2⟩, h3⟩ := h; rw [AQ h0, Aj h1, Aj h2, BL h3]
 case mapUpdate.mapUpdate => obtain ⟨⟨⟨h0, h1⟩, h2⟩, h3⟩ := h; rw [AQ h0, Aj h1, Aj h2, Aj h3]
 case mapEntry.mapEntry => obtain ⟨⟨h0, h1⟩, h2⟩ := h; rw [AQ h0, Aj h1, Aj h2]
 case entryStore.entryStore => obtain ⟨⟨⟨h0, h1⟩, h2⟩, h3⟩ := h; rw [AQ h0, Aj h1, Aj h2, Aj h3]
 case range.range => obtain ⟨h0, h1⟩ := h; rw [AQ h0, Aj h1]
 case next.next => obtain ⟨h0, h1⟩ := h; rw [Aj h0, BL h1]
 case entry.entry => have h0 := h; rw [Aj h0]
 case typeAssert.typeAssert => obtain ⟨⟨⟨h0, h1⟩, h2⟩, h3⟩ := h; rw [Aj h0, AQ h1, AQ h2, BL h3]
 case extract.extract => obtain ⟨h0, h1⟩ := h; rw [Aj h0, AQ h1]
 case call.call => have h0 := h; rw [JN h0]
 case defer.defer => have h0 := h; rw [JN h0]
 case panic.panic => have h0 := h; rw [Aj h0]
def MP (a b : Edge) : Bool := Nat.beq a.on b.on && eqD a.ground b.ground
theorem Od {a b : Edge} (h : MP a b = true) : a = b := by
 cases a; cases b;simp only [MP, Bool.and_eq_true] at h;simp only [Edge.mk.injEq];exact ⟨AQ h.1, BL h.2⟩
def MU (a b : Oper) : Bool := LO Nat.beq a.dst b.dst && So a.op b.op && Nat.beq a.type b.type && Iw MP a.after b.after && LO (fun x y => Nat.beq x.1 y.1 && eqD x.2 y.2) a.guard b.guard && eqD a.pos b.pos
theorem Ot {a b : Oper} (h : MU a b = true) : a = b := by
 cases a; cases b;simp only [MU, Bool.and_eq_true] at h;obtain ⟨⟨⟨⟨⟨h1, h2⟩, h3⟩, h4⟩, h5⟩, h6⟩ := h;simp only [Oper.mk.injEq];refine ⟨Gr (fun _ _ => AQ) h1, Rx h2, AQ h3, BL h6, DU (fun _ _ => Od) h4, Gr (fun x y h => ?_) h5⟩
 simp only [Bool.and_eq_true] at h;exact Prod.ext (AQ h.1) (BL h.2)
def Ci : Code → Code → Bool
 | .skip, .skip => true
 | .region i o d, .region i' o' d' => Nat.beq i i' && eqD d d' && Iw MU o o'
 | .seq a b, .seq a' b' => Ci a a' && Ci b b'
 | .cond c a b, .cond c' a' b' => Av c c' && Ci a a' && Ci b b'
 | .block i a, .block i' a' => Nat.beq i i' && Ci a a'
 | .loop a, .loop a' => Ci a a'
 | .rangeFunc f p a b, .rangeFunc f' p' a' b' => Av f f' && Iw Nat.beq p p' && Ci a a' && Ci b b'
 | .exit i, .exit i' => Nat.beq i i'
 | .scope a, .scope a' => Ci a a'
 | .label i, .label i' => Nat.beq i i'
 | .goto i, .goto i' => Nat.beq i i'
 | .ret, .ret => true
 | _, _ => false
theorem GY : ∀ {a b : Code}, Ci a b = true → a = b := by
 intro a
 induction a <;> intro b h <;> cases b <;> simp only [Ci, Bool.false_eq_true, Bool.and_eq_true] at h <;> first | rfl | skip
 case region.region => rw [AQ h.1.1, BL h.1.2, DU (fun _ _ => Ot) h.2]
 case seq.seq iha ihb _ _ => rw [iha h.1, ihb h.2]
 case cond.cond iha ihb _ _ _ => rw [Aj h.1.1, iha h.1.2, ihb h.2]
 case block.block ih _ _ => rw [AQ h.1, ih h.2]
 case loop.loop ih _ => rw [ih h]
 case rangeFunc.rangeFunc iha ihb _ _ _ _ => rw [Aj h.1.1.1, DU (fun _ _ => AQ) h.1.1.2, iha h.1.2, ihb h.2]
 case exit.exit => rw [AQ h]
 case scope.scope ih _ => rw [ih h]
 case label.label => rw [AQ h]
 case goto.goto => rw [AQ h]
def SE.inst (θ : List SE) : SE → SE
 | .c n => .c n
 | .var i => θ.getD i (.var i)
 | .lenS a => .lenS (a.inst θ)
 | .lenL a => .lenL (a.inst θ)
 | .arith op k a b => .arith op k (a.inst θ) (b.inst θ)
 | .conv k a => .conv k (a.inst θ)
 | .lss a b => .lss (a.inst θ) (b.inst θ)
 | .eql a b => .eql (a.inst θ) (b.inst θ)
 | .eqS a l b => .eqS (a.inst θ) l b
 | .eqSS a b => .eqSS (a.inst θ) (b.inst θ)
 | .isNil a => .isNil (a.inst θ)
 | .bc b => .bc b
 | .neg a => .neg (a.inst θ)
 | .and a b => .and (a.inst θ) (b.inst θ)
 | .nilIs a b => .nilIs (a.inst θ) (b.inst θ)
 | .strc l b => .strc l b
 | .strAt a i => .strAt (a.inst θ) (i.inst θ)
 | .strCat a b => .strCat (a.inst θ) (b.inst θ)
 | .strSub a lo hi => .strSub (a.inst θ) (lo.inst θ) (hi.inst θ)
 | .cell a i j => .cell (a.inst θ) (i.inst θ) j
 | .sel a j => .sel (a.inst θ) j
 | .nilL => .nilL
 | .emptyL => .emptyL
 | .snoc a r => .snoc (a.inst θ) (r.inst θ)
 | .upd a i j x => .upd (a.inst θ) (i.inst θ) j (x.inst θ)
 | .rep n r => .rep (n.inst θ) (r.inst θ)
 | .cat a b => .cat (a.inst θ) (b.inst θ)
 | .sub a lo hi => .sub (a.inst θ) (lo.inst θ) (hi.inst θ)
 | .rnil => .rnil
 | .rcons x r => .rcons (x.inst θ) (r.inst θ)
 | .app f x => .app f (x.inst θ)
 | .bytes a => .bytes (a.inst θ)
 | .ofBytes a => .ofBytes (a.inst θ)
 | .mIdx ks a k => .mIdx ks (a.inst θ) (k.inst θ)
 | .rmv a i => .rmv (a.inst θ) (i.inst θ)
def Val.inst (V : Val) (θ : List SE) : Val := { d := fun i => Ab V (θ.getD i (.var i)), fn := V.fn }
theorem Bq (V : Val) (θ : List SE) : ∀ e : SE, Ab V (e.inst θ) = Ab (V.inst θ) e := by
 intro e
 induction e <;> simp_all only [SE.inst, Ab, Val.inst] <;> rfl
theorem JJ (V : Val) (θ : List SE) (e : SE) : Ac V (e.inst θ) = Ac (V.inst θ) e := by unfold Ac; rw [Bq]
theorem DI (V : Val) (θ : List SE) (e : SE) : Ad V (e.inst θ) = Ad (V.inst θ) e := by unfold Ad; rw [Bq]
abbrev Obs := List (SE × SE)
def Hw (a b : SE) : Option Obs := match a.same b with
 | true => some []
 | false => match a.norm.same b.norm with
  | true => some []
  | false => some [(a, b)]
def Cj (a b : SE) : Option Obs := match a.same b with
 | true => some []
 | false => match a.norm.same b.norm with
  | true => some []
  | false => some [(.and a (.bc true), .and b (.bc true))]
def Fk (a b : SE) : Option Obs := match a.same b with
 | true => some []
 | false => match a.norm.same b.norm with
  | true => some []
  | false => some [(.eql a b, .bc true)]
def Obs.holds (V : Val) (o : Obs) : Prop := ∀ a b, (a, b) ∈ o → Ab V a = Ab V b
def CO (a b : Option Obs) : Option Obs := match a, b with
 | some x, some y => some (x ++ y)
 | _, _ => none
def CW (c : Bool) (o : Option Obs) : Option Obs := match c with
 | true => o
 | false => none
def toB (β : List Nat) (b c : Nat) : Bool := match β[b]? with
 | some d => Nat.beq d c
 | none => false
def Sn (β : List Nat) : Fn → Fn → Bool
 | .func f, .func g => Nat.beq f g
 | .yield l, .yield m => toB β l m
 | _, _ => false
mutual
def B0 (θ : List SE) (β : List Nat) : AV → AV → Option Obs
 | .top, _ => some []
 | .bool a, .bool b => CW (a == b) (some [])
 | .int k a, .int k' b => CW (decide (k = k') && a == b) (some [])
 | .str l a, .str l' b => CW (Nat.beq l l' && Nat.beq a b) (some [])
 | .ptr0, .ptr0 => some []
 | .ptr b o, .ptr b' o' => CW (toB β b b' && Nat.beq o o') (some [])
 | .slice0, .slice0 => some []
 | .slice b o n es, .slice b' o' n' es' => CW (toB β b b' && Nat.beq o o' && Nat.beq n n' && Nat.beq es es') (some [])
 | .map0, .map0 => some []
 | .map b, .map b' => CW (toB β b b') (some [])
 | .func fn f c, .func fn' f' c' => CW (Sn β fn fn') (CO (Fe θ β f f') (Fe θ β c c'))
 | .nilFunc, .nilFunc => some []
 | .iface t v, .iface t' v' => CW (Nat.beq t t') (B0 θ β v v')
 | .nilIface, .nilIface => some []
 | .agg l, .agg l' => Fe θ β l l'
 | .tuple l, .tuple l' => Fe θ β l l'
 | .sb p e, .sb p' e' => match p == p' with
  | true => Cj (e.inst θ) e'
  | false => Cj (e.inst θ) (.neg e')
 | .sb p e, .bool b => Cj (e.inst θ) (.bc (b == p))
 | .si k e, .si k' e' => CW (decide (k = k')) (Fk (e.inst θ) e')
 | .si k e, .int k' n => CW (decide (k = k')) (Fk (e.inst θ) (.c n))
 | .ss x, .ss x' => Hw (x.inst θ) x'
 | .ss x, .str l b => Hw (x.inst θ) (.strc l b)
 | .dat e x, .dat e' x' => CW (Nat.beq e e') (Hw (x.inst θ) x')
 | .dat e x, .slice0 => Hw (x.inst θ) .nilL
 | .asl b es n nl, .asl b' es' n' nl' => CW (toB β b b' && Nat.beq es es') (CO (Fk (n.inst θ) n') (Cj (nl.inst θ) nl'))
 | .asl b es n nl, .slice b' o' n' es' => CW (toB β b b' && Nat.beq o' 0 && Nat.beq es es') (CO (Fk (n.inst θ) (.c n')) (Cj (nl.inst θ) (.bc false)))
 | .asl b es n nl, .slice0 => CO (Fk (n.inst θ) (.c 0)) (Cj (nl.inst θ) (.bc true))
 | .asl b es n nl, .eslc nl' => CO (Fk (n.inst θ) (.c 0)) (Cj (nl.inst θ) nl')
 | .eslc nl, .eslc nl' => Cj (nl.inst θ) nl'
 | .eslc nl, .slice0 => Cj (nl.inst θ) (.bc true)
 | .nmap b nl, .nmap b' nl' => CW (toB β b b') (Cj (nl.inst θ) nl')
 | .nmap b nl, .map b' => CW (toB β b b') (Cj (nl.inst θ) (.bc false))
 | .nmap _ nl, .map0 => Cj (nl.inst θ) (.bc true)
 | _, _ => none
termination_by structural a => a
def Fe (θ : List SE) (β : List Nat) : List AV → List AV → Option Obs
 | [], [] => some []
 | a :: l, b :: m => CO (B0 θ β a b) (Fe θ β l m)
 | _, _ => none
termination_by structural l => l
end
@[reducible] def AK : Unk := { facts := [], V := ⟨fun _ => default, fun _ d => d⟩, K := fun _ => none, R := [], hR := fun _ _ _ _ _ h => (by cases h), ok := by simp }
theorem Obs.append {V : Val} {a b : Obs} (h : Obs.holds V (a ++ b)) : Obs.holds V a ∧ Obs.holds V b :=
 ⟨fun x y hm => h x y (by simp [hm]), fun x y hm => h x y (by simp [hm])⟩
theorem EZ {V : Val} {a b : SE} {o : Obs} (h : Hw a b = some o) (ho : o.holds V) : Ab V a = Ab V b := by
 unfold Hw at h;split at h
 ·rename_i hs; rw [SE.same_ok (U := AK) hs]
 ·split at h
  ·rename_i hs;have := congrArg (Ab V) (SE.same_ok (U := AK) hs)
   rwa [BJ, BJ] at this
  ·cases h; exact ho a b (by simp)
theorem Lr {V : Val} {a b : SE} {o : Obs} (h : Fk a b = some o) (ho : o.holds V) : Ac V a = Ac V b := by
 unfold Fk at h;split at h
 ·rename_i hs; rw [SE.same_ok (U := AK) hs]
 ·split at h
  ·rename_i hs;have := congrArg (Ab V) (SE.same_ok (U := AK) hs);rw [BJ, BJ] at this;unfold Ac; rw [this]
  ·cases h;have := ho (.eql a b) (.bc true) (by simp)
   simp only [Ab, D.bool.injEq] at this;exact eq_of_beq this
theorem Gk {V : Val} {a b : SE} {o : Obs} (h : Cj a b = some o) (ho : o.holds V) : Ad V a = Ad V b := by
 unfold Cj at h;split at h
 ·rename_i hs; rw [SE.same_ok (U := AK) hs]
 ·split at h
  ·rename_i hs;have := congrArg (Ab V) (SE.same_ok (U := AK) hs);rw [BJ, BJ] at this;unfold Ad; rw [this]
  ·cases h;have := ho (.and a (.bc true)) (.and b (.bc true)) (by simp)
   simp only [Ab, D.bool.injEq, D.toBool, Bool.and_true] at this;exact this
theorem Bc {a b : Option Obs} {o : Obs} (h : CO a b = some o) : ∃ x y, a = some x ∧ b = some y ∧ o = x ++ y := by
 unfold CO at h;split at h
 ·cases h; exact ⟨_, _, rfl, rfl, rfl⟩
 ·cases h
theorem AJ {c : Bool} {a : Option Obs} {o : Obs} (h : CW c a = some o) : c = true ∧ a = some o := by
 cases c with
 | true => exact ⟨rfl, h⟩
 | false => cases h
def Ren.back (ρ : Ren) (β : List Nat) : Ren := ⟨fun b => (β[b]?).bind ρ.m, ρ.imm⟩
theorem Dv {β : List Nat} {b c : Nat} (h : toB β b c = true) (ρ : Ren) : (ρ.back β).m b = ρ c := by
 unfold toB at h;split at h
 ·rename_i d hd;rw [Aq h] at hd;simp [Ren.back, hd]
 ·cases h
section
variable {U W : Unk} {θ : List SE} (hV : W.V = U.V.inst θ) (hK : W.K = U.K) {β : List Nat} {ρ : Ren}
include hV hK
theorem QI {f g : Fn} {g' : Fn} (h : Sn β f g = true) (hg : FnR ρ g g') : FnR (ρ.back β) f g' := by
 cases f <;> cases g <;> simp only [Sn, Bool.false_eq_true] at h
 ·rw [Aq h]; exact hg
 ·obtain ⟨base, h1, h2⟩ := hg;exact ⟨base, by rw [Dv h]; exact h1, h2⟩
mutual
theorem Fa : ∀ (a b : AV) (o : Obs) (v : Value), B0 θ β a b = some o → o.holds U.V → @VR U.toVals ρ b v → @VR W.toVals (ρ.back β) a v
 | .top, _, _, v, _, _, _ => @VR.top W.toVals _ v
 | .bool a, b, o, v, h, ho, hv => by
  cases b <;> simp only [B0, reduceCtorEq] at h
  obtain ⟨h1, _⟩ := AJ h;cases hv;have := eq_of_beq h1;subst this;exact @VR.bool W.toVals _ _
 | .int k a, b, o, v, h, ho, hv => by
  cases b <;> simp only [B0, reduceCtorEq] at h
  obtain ⟨h1, _⟩ := AJ h;cases hv;simp only [Bool.and_eq_true, decide_eq_true_eq, beq_iff_eq] at h1;obtain ⟨rfl, rfl⟩ := h1;exact @VR.int W.toVals _ _ _
 | .str l a, b, o, v, h, ho, hv => by
  cases b <;> simp only [B0, reduceCtorEq] at h
  obtain ⟨h1, _⟩ := AJ h;obtain ⟨h2, h3⟩ := Ak h1;rw [Aq h2, Aq h3];cases hv;exact @VR.str W.toVals _ _
 | .ptr0, b, o, v, h, ho, hv => by
  cases b <;> simp only [B0, reduceCtorEq] at h
  cases hv;exact @VR.ptr0 W.toVals _
 | .ptr b off, x, o, v, h, ho, hv => by
  cases x <;> simp only [B0, reduceCtorEq] at h
  obtain ⟨h1, _⟩ := AJ h;obtain ⟨h2, h3⟩ := Ak h1;cases hv with
  | ptr _ _ base hb =>
   rw [Aq h3];exact @VR.ptr W.toVals _ _ _ base (by rw [Dv h2]; exact hb)
 | .slice0, b, o, v, h, ho, hv => by
  cases b <;> simp only [B0, reduceCtorEq] at h
  cases hv;exact @VR.slice0 W.toVals _
 | .slice b off n es, x, o, v, h, ho, hv => by
  cases x <;> simp only [B0, reduceCtorEq] at h
  obtain ⟨h1, _⟩ := AJ h;obtain ⟨h2, h3⟩ := Ak h1;obtain ⟨h4, h5⟩ := Ak h2;obtain ⟨h6, h7⟩ := Ak h4;rw [Aq h3, Aq h5, Aq h7];cases hv with
  | slice _ _ _ _ cap base hb hc hz => exact @VR.slice W.toVals _ _ _ _ _ cap base (by rw [Dv h6]; exact hb) hc hz
  | sliceEnd _ _ _ a => exact @VR.sliceEnd W.toVals _ _ _ _ a
 | .map0, b, o, v, h, ho, hv => by
  cases b <;> simp only [B0, reduceCtorEq] at h
  cases hv;exact @VR.map0 W.toVals _
 | .map b, x, o, v, h, ho, hv => by
  cases x <;> simp only [B0, reduceCtorEq] at h
  obtain ⟨h1, _⟩ := AJ h;cases hv with
  | map _ base hb => exact @VR.map W.toVals _ _ base (by rw [Dv h1]; exact hb)
 | .func fn f c, x, o, v, h, ho, hv => by
  cases x <;> simp only [B0, reduceCtorEq] at h
  obtain ⟨h1, h2⟩ := AJ h;obtain ⟨o1, o2, h3, h4, rfl⟩ := Bc h2;obtain ⟨ho1, ho2⟩ := Obs.append ho;cases hv with
  | func _ fn' _ _ f' c' r1 r2 r3 r4 r5 =>
   have q1 := DJ f _ o1 f' h3 ho1 ⟨r2, r3⟩;have q2 := DJ c _ o2 c' h4 ho2 ⟨r4, r5⟩;exact @VR.func W.toVals _ fn fn' f c f' c' (QI hV hK h1 r1) q1.1 q1.2 q2.1 q2.2
 | .nilFunc, b, o, v, h, ho, hv => by
  cases b <;> simp only [B0, reduceCtorEq] at h
  cases hv;exact @VR.nilFunc W.toVals _
 | .iface t a, x, o, v, h, ho, hv => by
  cases x <;> simp only [B0, reduceCtorEq] at h
  obtain ⟨h1, h2⟩ := AJ h;rw [Aq h1];cases hv with
  | iface _ _ v' hv' => exact @VR.iface W.toVals _ _ a v' (Fa a _ o v' h2 ho hv')
 | .nilIface, b, o, v, h, ho, hv => by
  cases b <;> simp only [B0, reduceCtorEq] at h
  cases hv;exact @VR.nilIface W.toVals _
 | .agg l, x, o, v, h, ho, hv => by
  cases x <;> simp only [B0, reduceCtorEq] at h
  cases hv with
  | agg _ l' r1 r2 =>
   have q := DJ l _ o l' h ho ⟨r1, r2⟩;exact @VR.agg W.toVals _ l l' q.1 q.2
 | .tuple l, x, o, v, h, ho, hv => by
  cases x <;> simp only [B0, reduceCtorEq] at h
  cases hv with
  | tuple _ l' r1 r2 =>
   have q := DJ l _ o l' h ho ⟨r1, r2⟩;exact @VR.tuple W.toVals _ l l' q.1 q.2
 | .sb p e, x, o, v, h, ho, hv => by
  have key : ∀ {e' : SE}, Cj (e.inst θ) e' = some o → Ad W.V e = Ad U.V e' := by
   intro e' hq;rw [hV, ← DI];exact Gk hq ho
  cases x <;> simp only [B0, reduceCtorEq] at h
  ·have := key h;cases hv;rename_i b;have q := @VR.sb W.toVals (ρ.back β) p e;rw [this] at q;have e1 : ((Ad U.V (.bc (b == p))) == p) = b := by show ((b == p) == p) = b; cases b <;> cases p <;> rfl
   rw [e1] at q;exact q
  ·split at h
   ·rename_i h1;have := key h;cases hv;have hp := eq_of_beq h1;subst hp;rw [← this];exact @VR.sb W.toVals _ p e
   ·rename_i p' e' _ h1;have := key h;cases hv;have q := @VR.sb W.toVals (ρ.back β) p e;rw [this] at q
    have e1 : (Ad U.V (.neg e') == p) = (Ad U.V e' == p') := by
     show ((!(Ad U.V e')) == p) = _;cases p <;> cases p' <;> cases Ad U.V e' <;> first | rfl | (simp at h1)
    rw [e1] at q;exact q
 | .si k e, x, o, v, h, ho, hv => by
  have key : ∀ {e' : SE}, Fk (e.inst θ) e' = some o → Ac W.V e = Ac U.V e' := by
   intro e' hq;rw [hV, ← JJ];exact Lr hq ho
  cases x <;> simp only [B0, reduceCtorEq] at h
  ·obtain ⟨h1, h2⟩ := AJ h;have := key h2;cases hv;have hp := of_decide_eq_true h1;subst hp;have q := @VR.si W.toVals (ρ.back β) k e;rw [this, Bb] at q;exact q
  ·obtain ⟨h1, h2⟩ := AJ h;have := key h2;cases hv;have hp := of_decide_eq_true h1;subst hp;rw [← this];exact @VR.si W.toVals _ k e
 | .ss e, x, o, v, h, ho, hv => by
  have key : ∀ {e' : SE}, Hw (e.inst θ) e' = some o → Az W.V e = Az U.V e' := by
   intro e' hq;unfold Az; rw [hV, ← Bq, EZ hq ho]
  cases x <;> simp only [B0, reduceCtorEq] at h
  ·have := key h;cases hv;rename_i s;have q := @VR.ss W.toVals (ρ.back β) e;rw [this] at q
   have e1 : Az U.V (.strc s.data.toList.length (As s.data.toList)) = s := by
    show (⟨(CC _ _).toArray⟩ : ByteArray) = s;rw [CS (U := U)]
   rw [e1] at q;exact q
  ·have := key h;cases hv;rw [← this];exact @VR.ss W.toVals _ e
 | .dat t e, x, o, v, h, ho, hv => by
  have key : ∀ {e' : SE}, Hw (e.inst θ) e' = some o → Ab W.V e = Ab U.V e' := by
   intro e' hq;rw [hV, ← Bq, EZ hq ho]
  cases x <;> simp only [B0, reduceCtorEq] at h
  ·have := key h;cases hv;exact @VR.dat W.toVals _ t e _ _ _ (by rw [this]; exact .nil t _ rfl rfl)
  ·obtain ⟨h1, h2⟩ := AJ h;have := key h2;rw [Aq h1];cases hv with
   | dat _ _ a n c hd => exact @VR.dat W.toVals _ _ e a n c (by rw [this, hK]; exact hd)
 | .dptr _ _ _ _, x, o, v, h, ho, hv => by cases x <;> simp only [B0, reduceCtorEq] at h
 | .asl b es n nl, x, o, v, h, ho, hv => by
  have keyI : ∀ {a b : SE} {o : Obs}, Fk (a.inst θ) b = some o → o.holds U.V → Ac W.V a = Ac U.V b := by
   intro a b o hq ho;rw [hV, ← JJ];exact Lr hq ho
  have keyB : ∀ {a b : SE} {o : Obs}, Cj (a.inst θ) b = some o → o.holds U.V → Ad W.V a = Ad U.V b := by
   intro a b o hq ho;rw [hV, ← DI];exact Gk hq ho
  cases x <;> simp only [B0, reduceCtorEq] at h
  ·
   obtain ⟨o1, o2, h3, h4, rfl⟩ := Bc h;obtain ⟨ho1, ho2⟩ := Obs.append ho;have k1 := keyI h3 ho1;have k2 := keyB h4 ho2;cases hv;exact @VR.aslEnd W.toVals _ b es n nl none (by rw [k1]; rfl) (by rw [k2]; rfl)
  ·
   rename_i b' o' n' es';obtain ⟨h1, h2⟩ := AJ h;obtain ⟨h5, h6⟩ := Ak h1;obtain ⟨h7, h8⟩ := Ak h5;obtain ⟨o1, o2, h3, h4, rfl⟩ := Bc h2;obtain ⟨ho1, ho2⟩ := Obs.append ho;have k1 := keyI h3 ho1;have k2 := keyB h4 ho2;have e1 : Ac W.V n = n' := by rw [k1]; rfl
   have e2 : Ad W.V nl = false := by rw [k2]; rfl
   have e3 := Aq h8;have e4 := Aq h6;subst e3; subst e4;cases hv with
   | slice _ _ _ _ cap base hb hc hz =>
    have q := @VR.asl W.toVals (ρ.back β) b es n nl cap base (by rw [Dv h7]; exact hb) (by rw [e1]; exact Int.natCast_nonneg _) (by rw [e1]; simpa using hc) (by simpa using hz) e2
    rw [e1] at q;simpa using q
   | sliceEnd _ _ _ a => exact @VR.aslEnd W.toVals _ b es n nl (some a) (by rw [e1]; rfl) (by rw [e2]; rfl)
  ·
   rename_i b' es' n' nl';obtain ⟨h1, h2⟩ := AJ h;obtain ⟨h7, h6⟩ := Ak h1;obtain ⟨o1, o2, h3, h4, rfl⟩ := Bc h2;obtain ⟨ho1, ho2⟩ := Obs.append ho;have k1 := keyI h3 ho1;have k2 := keyB h4 ho2;have e1 : Ac W.V n = Ac U.V n' := k1;have e2 : Ad W.V nl = Ad U.V nl' := k2;have e4 := Aq h6;subst e4;cases hv with
   | asl _ _ _ _ cap base hb h0 hc hz hn =>
    rw [← e1];exact @VR.asl W.toVals _ b es n nl cap base (by rw [Dv h7]; exact hb) (by rw [e1]; exact h0) (by rw [e1]; exact hc) hz (by rw [e2]; exact hn)
   | aslEnd _ _ _ _ a h0 hn => exact @VR.aslEnd W.toVals _ b es n nl a (by rw [e1]; exact h0) (by rw [e2]; exact hn)
  ·
   obtain ⟨o1, o2, h3, h4, rfl⟩ := Bc h;obtain ⟨ho1, ho2⟩ := Obs.append ho;have k1 := keyI h3 ho1;have k2 := keyB h4 ho2;cases hv with
   | eslc _ a hn => exact @VR.aslEnd W.toVals _ b es n nl a (by rw [k1]; rfl) (by rw [hn]; exact k2.symm)
 | .eslc nl, x, o, v, h, ho, hv => by
  have key : ∀ {b : SE}, Cj (nl.inst θ) b = some o → Ad W.V nl = Ad U.V b := by
   intro b hq;rw [hV, ← DI];exact Gk hq ho
  cases x <;> simp only [B0, reduceCtorEq] at h
  ·have := key h;cases hv;exact @VR.eslc W.toVals _ nl none (by rw [this]; rfl)
  ·have := key h;cases hv with
   | eslc _ a hn => exact @VR.eslc W.toVals _ nl a (by rw [hn, this])
 | .aptr _ _ _ _, x, o, v, h, ho, hv => by cases x <;> simp only [B0, reduceCtorEq] at h
 | .nmap b nl, x, o, v, h, ho, hv => by
  have key : ∀ {b : SE}, Cj (nl.inst θ) b = some o → Ad W.V nl = Ad U.V b := by
   intro b hq;rw [hV, ← DI];exact Gk hq ho
  cases x <;> simp only [B0, reduceCtorEq] at h
  ·have := key h;cases hv;exact @VR.nmap0 W.toVals _ b nl (by rw [this]; rfl)
  ·obtain ⟨h1, h2⟩ := AJ h;have := key h2;cases hv with
   | map _ base hb => exact @VR.nmap W.toVals _ b nl base (by rw [Dv h1]; exact hb) (by rw [this]; rfl)
  ·obtain ⟨h1, h2⟩ := AJ h;have := key h2;cases hv with
   | nmap _ _ base hb hn => exact @VR.nmap W.toVals _ b nl base (by rw [Dv h1]; exact hb) (by rw [this]; exact hn)
   | nmap0 _ _ hn => exact @VR.nmap0 W.toVals _ b nl (by rw [this]; exact hn)
theorem DJ : ∀ (a b : List AV) (o : Obs) (vs : List Value), Fe θ β a b = some o → o.holds U.V → @VL U.toVals ρ b vs → @VL W.toVals (ρ.back β) a vs
 | [], b, o, vs, h, ho, hv => by
  cases b with
  | nil => have := VL.nil_inv (U := U.toVals) hv; subst this; exact VL.nil (U := W.toVals) _
  | cons => cases h
 | a :: l, b, o, vs, h, ho, hv => by
  cases b with
  | nil => cases h
  | cons b m =>
   simp only [Fe] at h;obtain ⟨o1, o2, h1, h2, rfl⟩ := Bc h;obtain ⟨ho1, ho2⟩ := Obs.append ho;obtain ⟨v, r, rfl, q1, q2⟩ := VL.cons_inv (U := U.toVals) hv;exact VL.cons (U := W.toVals) (Fa a b o1 v h1 ho1 q1) (DJ l m o2 r h2 ho2 q2)
end
end
end Go.AE
namespace Go.AE
def S2 (θ : List SE) (β : List Nat) : Option AV → Option AV → Option Obs
 | none, _ => some []
 | some a, some b => B0 θ β a b
 | some _, none => none
def leT (θ : List SE) (β : List Nat) : T AV → T AV → Option Obs
 | .nil, _ => some []
 | .node v l r, .node v' l' r' => CO (S2 θ β v v') (CO (leT θ β l l') (leT θ β r r'))
 | .node _ _ _, .nil => none
def Rv (θ : List SE) (β : List Nat) : List An → List An → Option Obs
 | [], [] => some []
 | a :: l, b :: m => CW (Nat.beq a.born b.born) (CO (B0 θ β a.key b.key) (CO (B0 θ β a.val b.val) (Rv θ β l m)))
 | _, _ => none
def Sz : LoopState → LoopState → Bool
 | .ready, .ready => true
 | .busy, .busy => true
 | .done, .done => true
 | .exhausted, .exhausted => true
 | _, _ => false
theorem Rp {a b : LoopState} (h : Sz a b = true) : a = b := by cases a <;> cases b <;> first | rfl | (cases h; done)
def Lg [Facts] (E : Env) (θ : List SE) (β : List Nat) : Ag → Ag → Option Obs
 | .cells n c, .cells n' c' => CW (Nat.beq n n') (leT θ β c c')
 | .arr e x, .arr e' x' => CW (Nat.beq e e') (Hw (x.inst θ) x')
 | .arr e x, .cells n c => match E.kinds e with
  | some ks => match Nat.beq (n / ks.length * ks.length) n, c.range 0 n with
   | true, some l => match CK ks (n / ks.length) .emptyL l with
    | some y => Hw (x.inst θ) y
    | none => none
   | _, _ => none
  | none => none
 | .map es k, .map es' k' => CW (Nat.beq k k') (Rv θ β es es')
 | .dmap k v x, .dmap k' v' x' => CW (Nat.beq k k' && Nat.beq v v') (Hw (x.inst θ) x')
 | .dmap k v x, .map es _ => match E.kinds k, E.kinds v with
  | some kks, some vks => match I2 kks vks .emptyL es with
   | some y => Hw (x.inst θ) y
   | none => none
  | _, _ => none
 | .deferred none, .deferred none => some []
 | .deferred (some []), .deferred (some []) => some []
 | .loop st pending fn nt tmps params assign body d, .loop st' pending' fn' nt' tmps' params' assign' body' d' =>
  CW (Sz st st' && LO Ci pending pending' && Nat.beq fn fn' && Nat.beq nt nt' && II Nat.beq params params' && toB β d d') (CW (Ci assign assign' && Ci body body') (leT θ β tmps tmps'))
 | _, _ => none
def Sb [Facts] (E : Env) (θ : List SE) (β : List Nat) : Option Ag → Option Ag → Option Obs
 | none, _ => some []
 | some x, some y => Lg E θ β x y
 | some _, none => none
def C7 [Facts] (E : Env) (θ : List SE) (β : List Nat) (h : Aa) : List (Option Ag) → List Nat → Option Obs
 | [], [] => some []
 | o :: r, b :: bs => CO (Sb E θ β o (h.blk.get b)) (C7 E θ β h r bs)
 | _, _ => none
def Dx : List Nat → Bool
 | [] => true
 | b :: r => !Ih b r && Dx r
def Bw : List (Option Ag) → Nat → T Ag → T Ag
 | [], _, t => t
 | some x :: r, i, t => Bw r (i + 1) (t.set i x)
 | none :: r, i, t => Bw r (i + 1) t
def AL (l : List (Option Ag)) : T Ag := Bw l 0 .nil
theorem Ir : ∀ (l : List (Option Ag)) (i : Nat) (t : T Ag) (j : Nat), (∀ q, i ≤ q → t.get q = none) → (Bw l i t).get j = if i ≤ j then (l[j - i]?).join else t.get j := by
 intro l
 induction l with
 | nil =>
  intro i t j ht;simp only [Bw];by_cases h : i ≤ j
  ·rw [if_pos h, ht j h]; rfl
  ·rw [if_neg h]
 | cons o r ih =>
  intro i t j ht
  have key : ∀ t', (∀ q, i + 1 ≤ q → t'.get q = none) → t'.get i = o → (∀ q, q < i → t'.get q = t.get q) → (Bw r (i + 1) t').get j = if i ≤ j then ((o :: r)[j - i]?).join else t.get j := by
   intro t' h1 h2 h3;rw [ih (i + 1) t' j h1];by_cases c1 : i + 1 ≤ j
   ·rw [if_pos c1, if_pos (by omega), show j - i = (j - (i + 1)) + 1 by omega, List.getElem?_cons_succ]
   ·rw [if_neg c1];by_cases c2 : i = j
    ·subst c2; rw [if_pos (Nat.le_refl _), h2]; simp
    ·rw [if_neg (by omega), h3 j (by omega)]
  cases o with
  | some x =>
   simp only [Bw];refine key _ (fun q hq => ?_) ?_ (fun q hq => ?_)
   ·rw [T.get_set, if_neg (by omega), ht q (by omega)]
   ·rw [T.get_set, if_pos rfl]
   ·rw [T.get_set, if_neg (by omega)]
  | none =>
   simp only [Bw];exact key _ (fun q hq => ht q (by omega)) (ht i (Nat.le_refl _)) (fun q hq => rfl)
theorem BC (l : List (Option Ag)) (j : Nat) : (AL l).get j = (l[j]?).join := by
 rw [AL, Ir _ _ _ _ (fun q _ => rfl), if_pos (Nat.zero_le _)]; simp
theorem Ew {b : Nat} : ∀ {l : List Nat}, b ∈ l → Ih b l = true
 | c :: r, h => by
  simp only [Ih, Bool.or_eq_true];rcases List.mem_cons.1 h with rfl | h
  ·exact .inl (DH b)
  ·exact .inr (Ew h)
def Dt (b : Nat) : List (Option Ag) → List Nat → Bool
 | some _ :: r, c :: bs => Nat.beq b c || Dt b r bs
 | none :: r, _ :: bs => Dt b r bs
 | _, _ => false
def D9 : List (Option Ag) → List Nat → Bool
 | some _ :: r, b :: bs => !Dt b r bs && D9 r bs
 | none :: r, _ :: bs => D9 r bs
 | _, _ => true
theorem E1 {b : Nat} : ∀ {l : List (Option Ag)} {bs : List Nat}, Dt b l bs = false → ∀ {j : Nat} {x : Ag}, l[j]? = some (some x) → bs[j]? = some b → False
 | [], _, _, j, x, h1, _ => by simp at h1
 | _ :: _, [], _, j, x, _, h2 => by simp at h2
 | some y :: r, c :: bs, h, j, x, h1, h2 => by
  simp only [Dt, Bool.or_eq_false_iff] at h;cases j with
  | zero => simp only [List.getElem?_cons_zero, Option.some.injEq] at h2; subst h2; rw [Nat.beq_refl] at h; exact absurd h.1 (by simp)
  | succ j => exact E1 h.2 (by simpa using h1) (by simpa using h2)
 | none :: r, c :: bs, h, j, x, h1, h2 => by
  simp only [Dt] at h;cases j with
  | zero => simp at h1
  | succ j => exact E1 h (by simpa using h1) (by simpa using h2)
theorem GM : ∀ {l : List (Option Ag)} {bs : List Nat}, D9 l bs = true → ∀ {i j b : Nat} {x y : Ag}, l[i]? = some (some x) → l[j]? = some (some y) → bs[i]? = some b → bs[j]? = some b → i = j
 | [], _, _, i, j, b, x, y, h1, _, _, _ => by simp at h1
 | _ :: _, [], _, i, j, b, x, y, _, _, h3, _ => by simp at h3
 | none :: r, c :: bs, h, i, j, b, x, y, h1, h2, h3, h4 => by
  simp only [D9] at h;cases i with
  | zero => simp at h1
  | succ i =>
   cases j with
   | zero => simp at h2
   | succ j => exact congrArg (· + 1) (GM h (i := i) (j := j) (b := b) (x := x) (y := y) (by simpa using h1) (by simpa using h2) (by simpa using h3) (by simpa using h4))
 | some z :: r, c :: bs, h, i, j, b, x, y, h1, h2, h3, h4 => by
  simp only [D9, Bool.and_eq_true, Bool.not_eq_true'] at h;cases i with
  | zero =>
   simp only [List.getElem?_cons_zero, Option.some.injEq] at h3;subst h3;cases j with
   | zero => rfl
   | succ j => exact (E1 h.1 (by simpa using h2) (by simpa using h4)).elim
  | succ i =>
   cases j with
   | zero =>
    simp only [List.getElem?_cons_zero, Option.some.injEq] at h4;subst h4;exact (E1 h.1 (by simpa using h1) (by simpa using h3)).elim
   | succ j => exact congrArg (· + 1) (GM h.2 (i := i) (j := j) (b := b) (x := x) (y := y) (by simpa using h1) (by simpa using h2) (by simpa using h3) (by simpa using h4))
theorem JC : ∀ {l : List Nat}, Dx l = true → ∀ {i j b : Nat}, l[i]? = some b → l[j]? = some b → i = j
 | [], _, i, j, b, h, _ => by simp at h
 | c :: r, h, i, j, b, hi, hj => by
  simp only [Dx, Bool.and_eq_true, Bool.not_eq_true'] at h;cases i with
  | zero =>
   simp only [List.getElem?_cons_zero, Option.some.injEq] at hi;subst hi;cases j with
   | zero => rfl
   | succ j =>
    simp only [List.getElem?_cons_succ] at hj;rw [Ew (List.mem_of_getElem? hj)] at h;cases h.1
  | succ i =>
   simp only [List.getElem?_cons_succ] at hi;cases j with
   | zero =>
    simp only [List.getElem?_cons_zero, Option.some.injEq] at hj;subst hj;rw [Ew (List.mem_of_getElem? hi)] at h;cases h.1
   | succ j =>
    simp only [List.getElem?_cons_succ] at hj;rw [JC h.2 hi hj]
section
variable {U W : Unk} {θ : List SE} (hV : W.V = U.V.inst θ) (hK : W.K = U.K) {β : List Nat} {ρ : Ren} {E : Env}
include hV hK
theorem Rl {a b : Option AV} {o : Obs} (h : S2 θ β a b = some o) (ho : o.holds U.V) {x : AV} (hx : a = some x) : ∃ y, b = some y ∧ ∀ v, @VR U.toVals ρ y v → @VR W.toVals (ρ.back β) x v := by
 subst hx;cases b with
 | none => cases h
 | some y => exact ⟨y, rfl, fun v hv => Fa hV hK x y o v h ho hv⟩
theorem Ig : ∀ (p a : T AV) (o : Obs), leT θ β p a = some o → o.holds U.V → ∀ i x, p.get i = some x → ∃ y, a.get i = some y ∧ ∀ v, @VR U.toVals ρ y v → @VR W.toVals (ρ.back β) x v
 | .nil, a, o, h, ho, i, x, hx => by simp [T.get] at hx
 | .node v l r, .nil, o, h, ho, i, x, hx => by cases h
 | .node v l r, .node v' l' r', o, h, ho, i, x, hx => by
  simp only [leT] at h;obtain ⟨o1, o2, h1, h2, rfl⟩ := Bc h;obtain ⟨o3, o4, h3, h4, rfl⟩ := Bc h2;obtain ⟨ho1, ho2⟩ := Obs.append ho;obtain ⟨ho3, ho4⟩ := Obs.append ho2;simp only [T.get] at hx ⊢;split at hx
  ·exact Rl hV hK h1 ho1 hx
  ·split at hx
   ·exact Ig l l' o3 h3 ho3 _ x hx
   ·exact Ig r r' o4 h4 ho4 _ x hx
theorem Nu : ∀ (p a : List An) (o : Obs) (es : List MapEntry), Rv θ β p a = some o → o.holds U.V → @ER U.toVals ρ a es → @ER W.toVals (ρ.back β) p es
 | [], [], o, es, h, ho, he => by cases es <;> simp_all [ER]
 | a :: l, b :: m, o, es, h, ho, he => by
  simp only [Rv] at h;obtain ⟨hb, h⟩ := AJ h;obtain ⟨o1, o2, h1, h2, rfl⟩ := Bc h;obtain ⟨o3, o4, h3, h4, rfl⟩ := Bc h2;obtain ⟨ho1, ho2⟩ := Obs.append ho;obtain ⟨ho3, ho4⟩ := Obs.append ho2;cases es with
  | nil => simp [ER] at he
  | cons e r =>
   obtain ⟨q1, q2, q3, q4⟩ := he;exact ⟨Fa hV hK _ _ _ _ h1 ho1 q1, Fa hV hK _ _ _ _ h3 ho3 q2, by rw [q3, Aq hb], Nu l m o4 r h4 ho4 q4⟩
 | [], _ :: _, o, es, h, _, _ => by cases h
 | _ :: _, [], o, es, h, _, _ => by cases h
theorem Po (hE : @OK U E) {x y : Ag} {o : Obs} {base : B9} {ob : Option Obj} (h : @Lg U.toFacts E θ β x y = some o) (ho : o.holds U.V) (hb : @BR U.toVals ρ y base ob) : @BR W.toVals (ρ.back β) x base ob := by
 unfold Lg at h;split at h
 ·
  rename_i n c n' c';obtain ⟨h1, h2⟩ := AJ h;rw [Aq h1];obtain ⟨cur, e, fz, b1, b2, b3, b4, b5⟩ := hb;refine ⟨cur, e, fz, b1, b2, b3, b4, fun i a hi ha => ?_⟩
  obtain ⟨y, q1, q2⟩ := Ig hV hK (ρ := ρ) c c' o h2 ho i a ha;obtain ⟨v, v1, v2⟩ := b5 i y hi q1;exact ⟨v, v1, q2 v v2⟩
 ·
  rename_i e x e' x';obtain ⟨h1, h2⟩ := AJ h;rw [Aq h1];obtain ⟨ks, cur, et, fz, b1, b2, b3, b4, b5⟩ := hb;have e1 : Ab W.V x = Ab U.V x' := by rw [hV, ← Bq, EZ h2 ho]
  exact ⟨ks, cur, et, fz, by rw [hK]; exact b1, b2, b3, b4, by rw [e1, hK]; exact b5⟩
 ·
  rename_i e x n c;split at h
  ·rename_i ks hk;split at h
   ·rename_i l hn hl;split at h
    ·rename_i y hy;obtain ⟨cur, et, fz, b1, b2, b3, b4, b5⟩ := hb;have hk2 : U.K e = some ks := by rw [OK.kd (U := U) hE, ← OK.ke (U := U) hE]; exact hk
     have e1 : Ab W.V x = Ab U.V y := by rw [hV, ← Bq, EZ h ho]
     obtain ⟨l1, l2⟩ := T.range_spec c _ _ _ hl
     have hvl : @VL U.toVals ρ l ((cur.toList.drop base.co).take n) := by
      refine ⟨by simp [l1]; omega, fun i a v ha hv => ?_⟩
      have hi : i < n := by have := (List.getElem?_eq_some_iff.1 ha).1; omega
      have := l2 i hi;rw [Nat.zero_add, ha] at this;obtain ⟨v', v1, v2⟩ := b5 i a hi this;rw [List.getElem?_take, if_pos hi, List.getElem?_drop, Array.getElem?_toList, v1] at hv;cases hv;exact v2
     obtain ⟨rs, r1, r2, r3⟩ := @DF U ρ ks _ _ _ _ _ hy hvl;have er : (Ab U.V y).rows = rs := by rw [r2]; rfl
     have hlen : ((cur.toList.drop base.co).take n).length = n := by simp; omega
     refine ⟨ks, cur, et, fz, by rw [hK]; exact hk2, b1, b2, b4, ?_⟩
     rw [e1, er, hK]
     exact r3.at (by rw [hlen, b2]; exact b3) (fun q hq => by
      rw [hlen] at hq;rw [List.getElem?_take, if_pos hq, List.getElem?_drop, Array.getElem?_toList])
    ·cases h
   ·cases h
  ·cases h
 ·
  obtain ⟨h1, h2⟩ := AJ h;rw [Aq h1];obtain ⟨es', b1, b2⟩ := hb;exact ⟨es', b1, Nu hV hK _ _ _ _ h2 ho b2⟩
 ·
  rename_i k v x k' v' x';obtain ⟨h1, h2⟩ := AJ h;obtain ⟨c1, c2⟩ := Ak h1;rw [Aq c1, Aq c2];obtain ⟨kks, vks, es', clock, b1, b2, b3, b4⟩ := hb;have e1 : Ab W.V x = Ab U.V x' := by rw [hV, ← Bq, EZ h2 ho]
  exact ⟨kks, vks, es', clock, by rw [hK]; exact b1, by rw [hK]; exact b2, b3, by rw [e1, hK]; exact b4⟩
 ·
  rename_i k v x es clock;split at h
  ·rename_i kks vks hk hv;split at h
   ·rename_i y hy;obtain ⟨es', b1, b2⟩ := hb;have hk2 : U.K k = some kks := by rw [OK.kd (U := U) hE, ← OK.ke (U := U) hE]; exact hk
    have hv2 : U.K v = some vks := by rw [OK.kd (U := U) hE, ← OK.ke (U := U) hE]; exact hv
    have e1 : Ab W.V x = Ab U.V y := by rw [hV, ← Bq, EZ h ho]
    have q : AX U.K ρ.imm kks vks ([] ++ es') (Ab U.V y).rows := @IS U ρ kks vks _ _ _ _ [] hy b2 trivial;rw [List.nil_append] at q;exact ⟨kks, vks, es', clock, by rw [hK]; exact hk2, by rw [hK]; exact hv2, b1, by rw [e1, hK]; exact q⟩
   ·cases h
  ·cases h
 ·exact hb
 ·obtain ⟨l', q1, q2⟩ := hb;cases l' with
  | nil => exact ⟨[], trivial, q2⟩
  | cons => exact q1.elim
 ·
  obtain ⟨h1, h2⟩ := AJ h;obtain ⟨h3, h4⟩ := AJ h2;obtain ⟨h1, c6⟩ := Ak h1;obtain ⟨h1, c5⟩ := Ak h1;obtain ⟨h1, c4⟩ := Ak h1;obtain ⟨h1, c3⟩ := Ak h1;obtain ⟨c1, c2⟩ := Ak h1;obtain ⟨c7, c8⟩ := Ak h3;have e1 := Rp c1;have e2 := Gr (fun _ _ => GY) c2
  have e3 := Aq c3;have e4 := Aq c4;have e5 := GZ (fun _ _ => AQ) c5
  have e7 := GY c7;have e8 := GY c8;subst e1; subst e2; subst e3; subst e4; subst e5; subst e7; subst e8;obtain ⟨tm, bd, q1, q2, q3⟩ := hb;refine ⟨tm, bd, by rw [Dv c6]; exact q1, @TR.mk W.toVals (ρ.back β) _ _ _ (@TR.size U.toVals ρ _ _ _ q2) (fun i x hx => ?_), q3⟩
  obtain ⟨y, r1, r2⟩ := Ig hV hK (ρ := ρ) _ _ o h4 ho i x hx;exact r2 _ (@TR.get U.toVals ρ _ _ _ q2 i y r1)
 ·cases h
theorem Cl {h : Aa} : ∀ (l : List (Option Ag)) (bs : List Nat) (o : Obs), @C7 U.toFacts E θ β h l bs = some o → o.holds U.V → l.length = bs.length ∧ ∀ (i : Nat) x, l[i]? = some (some x) → ∃ b y o', bs[i]? = some b ∧ h.blk.get b = some y ∧ @Lg U.toFacts E θ β x y = some o' ∧ o'.holds U.V
 | [], [], o, h, ho => ⟨rfl, fun i x hx => by simp at hx⟩
 | a :: l, b :: bs, o, h, ho => by
  simp only [C7] at h;obtain ⟨o1, o2, h1, h2, rfl⟩ := Bc h;obtain ⟨ho1, ho2⟩ := Obs.append ho;obtain ⟨q1, q2⟩ := Cl l bs o2 h2 ho2;refine ⟨by simp [q1], fun i x hx => ?_⟩
  cases i with
  | zero =>
   simp only [List.getElem?_cons_zero, Option.some.injEq] at hx;subst hx;cases hg : (_ : Aa).blk.get b with
   | none => rw [hg] at h1; cases h1
   | some y => rw [hg] at h1; exact ⟨b, y, o1, rfl, hg, h1, ho1⟩
  | succ i =>
   simp only [List.getElem?_cons_succ] at hx ⊢;exact q2 i x hx
 | [], _ :: _, o, h, _ => by cases h
 | _ :: _, [], o, h, _ => by cases h
theorem HR.toPatL (hE : @OK U E) {h : Aa} {w : World} {l : List (Option Ag)} {o : Obs} (hr : @HR U.toVals ρ h.blk.get w) (hl : @C7 U.toFacts E θ β h l β = some o) (ho : o.holds U.V) (hn : D9 l β = true) : @HR W.toVals (ρ.back β) (AL l).get w := by
 obtain ⟨q1, q2⟩ := Cl hV hK l β o hl ho
 have at_ : ∀ b base, (ρ.back β).m b = some base → ∃ c, β[b]? = some c ∧ ρ c = some base := by
  intro b base hb;simp only [Ren.back] at hb;cases hc : β[b]? with
  | none => rw [hc] at hb; cases hb
  | some c => rw [hc] at hb; exact ⟨c, rfl, hb⟩
 have live : ∀ b, (AL l).get b ≠ none → ∃ x c y o', (AL l).get b = some x ∧ β[b]? = some c ∧ h.blk.get c = some y ∧ @Lg U.toFacts E θ β x y = some o' ∧ o'.holds U.V := by
  intro b hb;rw [BC] at hb ⊢;cases hx : l[b]? with
  | none => rw [hx] at hb; exact absurd rfl hb
  | some ox =>
   cases ox with
   | none => rw [hx] at hb; exact absurd rfl hb
   | some x =>
    obtain ⟨c, y, o', a1, a2, a3, a4⟩ := q2 b x hx;exact ⟨x, c, y, o', rfl, a1, a2, a3, a4⟩
 refine ⟨fun b base hb => ?_, fun b base x hb hx => ?_, fun b b' base base' hne hb hb' h1 h2 => ?_, fun k arr hk => HR.imm (U := U.toVals) (ρ := ρ) hr k arr hk, fun k arr b base hk hb hl => ?_⟩
 ·obtain ⟨c, c1, c2⟩ := at_ b base hb;exact HR.lt (U := U.toVals) hr c base c2
 ·obtain ⟨x', c, y, o', e1, e2, e3, e4, e5⟩ := live b (by rw [hx]; exact Option.some_ne_none _)
  rw [hx] at e1; cases e1;obtain ⟨c', c1, c2⟩ := at_ b base hb;rw [e2] at c1; cases c1;exact Po hV hK hE e4 e5 (HR.blk (U := U.toVals) hr c base y c2 e3)
 ·obtain ⟨c, c1, c2⟩ := at_ b base hb;obtain ⟨c', c1', c2'⟩ := at_ b' base' hb';obtain ⟨_, d, y, _, _, e2, e3, _, _⟩ := live b h1;obtain ⟨_, d', y', _, _, e2', e3', _, _⟩ := live b' h2;rw [c1] at e2; cases e2;rw [c1'] at e2'; cases e2';refine HR.apart (U := U.toVals) hr c c' base base' (fun e => ?_) c2 c2' (by rw [e3]; exact Option.some_ne_none _) (by rw [e3']; exact Option.some_ne_none _)
  subst e
  have live1 : ∀ b, (AL l).get b ≠ none → ∃ x, l[b]? = some (some x) := by
   intro b hb;rw [BC] at hb;cases hx : l[b]? with
   | none => rw [hx] at hb; exact absurd rfl hb
   | some ox =>
    cases ox with
    | none => rw [hx] at hb; exact absurd rfl hb
    | some x => exact ⟨x, rfl⟩
  obtain ⟨x1, l1⟩ := live1 b h1;obtain ⟨x2, l2⟩ := live1 b' h2;exact hne (GM hn l1 l2 c1 c1')
 ·obtain ⟨c, c1, c2⟩ := at_ b base hb;obtain ⟨_, d, y, _, _, e2, e3, _, _⟩ := live b hl;rw [c1] at e2; cases e2;exact HR.off (U := U.toVals) hr k arr c base hk c2 (by rw [e3]; exact Option.some_ne_none _)
omit hV hK in
theorem Pa {l : List (Option Ag)} {bs : List Nat} (h : Dx bs = true) : D9 l bs = true := by
 induction l generalizing bs with
 | nil => rfl
 | cons o r ih =>
  cases bs with
  | nil => cases o <;> rfl
  | cons b bs =>
   simp only [Dx, Bool.and_eq_true, Bool.not_eq_true'] at h;cases o with
   | none => exact ih h.2
   | some x =>
    simp only [D9, Bool.and_eq_true, Bool.not_eq_true'];refine ⟨?_, ih h.2⟩;cases hq : Dt b r bs with
    | false => rfl
    | true =>
     exfalso
     have : ∀ (r : List (Option Ag)) (bs : List Nat), Dt b r bs = true → Ih b bs = true := by
      intro r
      induction r with
      | nil => intro bs h; cases bs <;> cases h
      | cons o r ih2 =>
       intro bs h;cases bs with
       | nil => cases o <;> cases h
       | cons c bs =>
        cases o with
        | none => simp only [Dt] at h; simp [Ih, ih2 bs h]
        | some x =>
         simp only [Dt, Bool.or_eq_true] at h;simp only [Ih, Bool.or_eq_true];exact h.imp id (ih2 bs)
     rw [this r bs hq] at h;exact absurd h.1 (by simp)
theorem HR.toPat (hE : @OK U E) {h : Aa} {w : World} {l : List (Option Ag)} {o : Obs} (hr : @HR U.toVals ρ h.blk.get w) (hl : @C7 U.toFacts E θ β h l β = some o) (ho : o.holds U.V) (hn : Dx β = true) : @HR W.toVals (ρ.back β) (AL l).get w :=
 HR.toPatL hV hK hE hr hl ho (Pa hn)
end
def M3 (β : List Nat) : Fn → Fn
 | .yield l => .yield (β.getD l 0)
 | f => f
mutual
def AV.inst [Facts] (θ : List SE) (β : List Nat) : AV → AV
 | .top => .top
 | .bool b => .bool b
 | .int k n => .int k n
 | .str l b => .str l b
 | .ptr0 => .ptr0
 | .ptr b o => .ptr (β.getD b 0) o
 | .slice0 => .slice0
 | .slice b o n es => .slice (β.getD b 0) o n es
 | .map0 => .map0
 | .map b => .map (β.getD b 0)
 | .func fn f c => .func (M3 β fn) (AV.instL θ β f) (AV.instL θ β c)
 | .nilFunc => .nilFunc
 | .iface t v => .iface t (AV.inst θ β v)
 | .nilIface => .nilIface
 | .agg l => .agg (AV.instL θ β l)
 | .tuple l => .tuple (AV.instL θ β l)
 | .sb p e => mkB p (e.inst θ)
 | .si k e => mkI k (e.inst θ)
 | .ss x => .ss (x.inst θ)
 | .dat e x => .dat e (x.inst θ)
 | .dptr e x i off => .dptr e (x.inst θ) (i.inst θ) off
 | .asl b es n nl => .asl (β.getD b 0) es (n.inst θ) (nl.inst θ)
 | .eslc nl => .eslc (nl.inst θ)
 | .aptr b es i off => .aptr (β.getD b 0) es (i.inst θ) off
 | .nmap b nl => .nmap (β.getD b 0) (nl.inst θ)
termination_by structural a => a
def AV.instL [Facts] (θ : List SE) (β : List Nat) : List AV → List AV
 | [] => []
 | a :: l => AV.inst θ β a :: AV.instL θ β l
termination_by structural l => l
end
def T.mapA {α γ : Type} (f : α → γ) : T α → T γ
 | .nil => .nil
 | .node v l r => .node (match v with | some x => some (f x) | none => none) (l.mapA f) (r.mapA f)
def Nb [Facts] (θ : List SE) (β : List Nat) : List An → List An
 | [] => []
 | e :: r => { key := e.key.inst θ β, val := e.val.inst θ β, born := e.born } :: Nb θ β r
def Ag.inst [Facts] (θ : List SE) (β : List Nat) : Ag → Option Ag
 | .cells n c => some (.cells n (c.mapA (AV.inst θ β)))
 | .arr e x => some (.arr e (x.inst θ))
 | .map es k => some (.map (Nb θ β es) k)
 | .dmap k v x => some (.dmap k v (x.inst θ))
 | .deferred none => some (.deferred none)
 | .deferred (some []) => some (.deferred (some []))
 | .loop st pending fn nt tmps params assign body d => some (.loop st pending fn nt (tmps.mapA (AV.inst θ β)) params assign body (β.getD d 0))
 | _ => none
theorem T.get_mapA {α γ : Type} (f : α → γ) : ∀ (t : T α) (i : Nat), (t.mapA f).get i = (t.get i).map f
 | .nil, i => rfl
 | .node v l r, i => by
  simp only [T.mapA, T.get];split
  ·cases v <;> rfl
  ·split
   ·exact T.get_mapA f l _
   ·exact T.get_mapA f r _
section
variable {U W : Unk} {θ : List SE} (hV : W.V = U.V.inst θ) (hK : W.K = U.K) {β : List Nat} {σ τ : Ren}
 (hβ : ∀ b base, σ b = some base → τ (β.getD b 0) = some base) (hM : ∀ k a, σ.imm k = some a → τ.imm k = some a)
include hV hK hβ hM
omit hK in
theorem BD {e : SE} : Ab U.V (e.inst θ) = Ab W.V e := by rw [Bq, hV]
theorem OI {f g : Fn} (h : FnR σ f g) : FnR τ (M3 β f) g := by
 cases f <;> simp only [FnR, M3] at h ⊢ <;> first | exact h | skip
 obtain ⟨base, h1, h2⟩ := h;exact ⟨base, hβ _ _ h1, h2⟩
mutual
theorem Ed : ∀ (a : AV) (v : Value), @VR W.toVals σ a v → @VR U.toVals τ (@AV.inst U.toFacts θ β a) v
 | .top, v, h => @VR.top U.toVals _ v
 | .bool b, v, h => by cases h; exact @VR.bool U.toVals _ _
 | .int k n, v, h => by cases h; exact @VR.int U.toVals _ _ _
 | .str l b, v, h => by cases h; exact @VR.str U.toVals _ _
 | .ptr0, v, h => by cases h; exact @VR.ptr0 U.toVals _
 | .ptr b o, v, h => by
  cases h with
  | ptr _ _ base hb => exact @VR.ptr U.toVals _ _ o base (hβ _ _ hb)
 | .slice0, v, h => by cases h; exact @VR.slice0 U.toVals _
 | .slice b o n es, v, h => by
  cases h with
  | slice _ _ _ _ cap base hb hc hz => exact @VR.slice U.toVals _ _ o n es cap base (hβ _ _ hb) hc hz
  | sliceEnd _ _ _ a => exact @VR.sliceEnd U.toVals _ _ o es a
 | .map0, v, h => by cases h; exact @VR.map0 U.toVals _
 | .map b, v, h => by
  cases h with
  | map _ base hb => exact @VR.map U.toVals _ _ base (hβ _ _ hb)
 | .func fn f c, v, h => by
  cases h with
  | func _ fn' _ _ f' c' r1 r2 r3 r4 r5 =>
   have q1 := EL f f' ⟨r2, r3⟩;have q2 := EL c c' ⟨r4, r5⟩;exact @VR.func U.toVals _ _ fn' _ _ f' c' (OI hV hK hβ hM r1) q1.1 q1.2 q2.1 q2.2
 | .nilFunc, v, h => by cases h; exact @VR.nilFunc U.toVals _
 | .iface t a, v, h => by
  cases h with
  | iface _ _ v' hv => exact @VR.iface U.toVals _ t _ v' (Ed a v' hv)
 | .nilIface, v, h => by cases h; exact @VR.nilIface U.toVals _
 | .agg l, v, h => by
  cases h with
  | agg _ l' r1 r2 =>
   have q := EL l l' ⟨r1, r2⟩;exact @VR.agg U.toVals _ _ l' q.1 q.2
 | .tuple l, v, h => by
  cases h with
  | tuple _ l' r1 r2 =>
   have q := EL l l' ⟨r1, r2⟩;exact @VR.tuple U.toVals _ _ l' q.1 q.2
 | .sb p e, v, h => by
  cases h;have := @EC U τ p (e.inst θ);have e1 : Ad U.V (e.inst θ) = Ad W.V e := by unfold Ad; rw [BD hV hβ hM]
  rw [e1] at this; exact this
 | .si k e, v, h => by
  cases h;have := @BU U τ k (e.inst θ);have e1 : Ac U.V (e.inst θ) = Ac W.V e := by unfold Ac; rw [BD hV hβ hM]
  rw [e1] at this; exact this
 | .ss x, v, h => by
  cases h;have e1 : Az U.V (x.inst θ) = Az W.V x := by unfold Az; rw [BD hV hβ hM]
  have := @VR.ss U.toVals τ (x.inst θ);rw [e1] at this; exact this
 | .dat e x, v, h => by
  cases h with
  | dat _ _ a n c hd => exact @VR.dat U.toVals τ e _ a n c (by rw [BD hV hβ hM, ← hK]; exact hd.mono hM)
 | .dptr e x i off, v, h => by
  cases h with
  | dptr _ _ _ _ b o n cap ks hd hk h0 hi ho =>
   have e1 : Ac U.V (i.inst θ) = Ac W.V i := by unfold Ac; rw [BD hV hβ hM]
   have := @VR.dptr U.toVals τ e (x.inst θ) (i.inst θ) off b o n cap ks (by rw [BD hV hβ hM, ← hK]; exact hd.mono hM) (by rw [← hK]; exact hk) (by rw [e1]; exact h0) (by rw [e1]; exact hi) ho
   rw [e1] at this; exact this
 | .asl b es n nl, v, h => by
  have e1 : Ac U.V (n.inst θ) = Ac W.V n := by unfold Ac; rw [BD hV hβ hM]
  have e2 : Ad U.V (nl.inst θ) = Ad W.V nl := by unfold Ad; rw [BD hV hβ hM]
  cases h with
  | asl _ _ _ _ cap base hb h0 hc hz hn =>
   have := @VR.asl U.toVals τ _ es (n.inst θ) (nl.inst θ) cap base (hβ _ _ hb) (by rw [e1]; exact h0) (by rw [e1]; exact hc) hz (by rw [e2]; exact hn)
   rw [e1] at this; exact this
  | aslEnd _ _ _ _ a h0 hn => exact @VR.aslEnd U.toVals τ _ es _ _ a (by rw [e1]; exact h0) (by rw [e2]; exact hn)
 | .eslc nl, v, h => by
  have e2 : Ad U.V (nl.inst θ) = Ad W.V nl := by unfold Ad; rw [BD hV hβ hM]
  cases h with
  | eslc _ a hn => exact @VR.eslc U.toVals τ _ a (by rw [e2]; exact hn)
 | .aptr b es i off, v, h => by
  have e1 : Ac U.V (i.inst θ) = Ac W.V i := by unfold Ac; rw [BD hV hβ hM]
  cases h with
  | aptr _ _ _ _ base hb h0 =>
   have := @VR.aptr U.toVals τ _ es (i.inst θ) off base (hβ _ _ hb) (by rw [e1]; exact h0)
   rw [e1] at this; exact this
 | .nmap b nl, v, h => by
  have e2 : Ad U.V (nl.inst θ) = Ad W.V nl := by unfold Ad; rw [BD hV hβ hM]
  cases h with
  | nmap _ _ base hb hn => exact @VR.nmap U.toVals τ _ _ base (hβ _ _ hb) (by rw [e2]; exact hn)
  | nmap0 _ _ hn => exact @VR.nmap0 U.toVals τ _ _ (by rw [e2]; exact hn)
theorem EL : ∀ (l : List AV) (vs : List Value), @VL W.toVals σ l vs → @VL U.toVals τ (@AV.instL U.toFacts θ β l) vs
 | [], vs, h => by have := VL.nil_inv (U := W.toVals) h; subst this; exact VL.nil (U := U.toVals) _
 | a :: l, vs, h => by
  obtain ⟨v, r, rfl, q1, q2⟩ := VL.cons_inv (U := W.toVals) h;exact VL.cons (U := U.toVals) (Ed a v q1) (EL l r q2)
end
theorem Js : ∀ (l : List An) (es : List MapEntry), @ER W.toVals σ l es → @ER U.toVals τ (@Nb U.toFacts θ β l) es
 | [], [], _ => trivial
 | a :: l, e :: r, h => ⟨Ed hV hK hβ hM _ _ h.1, Ed hV hK hβ hM _ _ h.2.1, h.2.2.1, Js l r h.2.2.2⟩
theorem Ms {x y : Ag} {base : B9} {ob : Option Obj} (h : @Ag.inst U.toFacts θ β x = some y) (hb : @BR W.toVals σ x base ob) : @BR U.toVals τ y base ob := by
 unfold Ag.inst at h;split at h
 ·cases h;obtain ⟨cur, e, fz, b1, b2, b3, b4, b5⟩ := hb;refine ⟨cur, e, fz, b1, b2, b3, b4, fun i a hi ha => ?_⟩
  rw [T.get_mapA] at ha;cases hx : (_ : T AV).get i with
  | none => rw [hx] at ha; cases ha
  | some a0 =>
   rw [hx] at ha;cases ha;obtain ⟨v, v1, v2⟩ := b5 i a0 hi hx;exact ⟨v, v1, Ed hV hK hβ hM _ _ v2⟩
 ·cases h;obtain ⟨ks, cur, et, fz, b1, b2, b3, b4, b5⟩ := hb;exact ⟨ks, cur, et, fz, by rw [← hK]; exact b1, b2, b3, b4, by rw [BD hV hβ hM, ← hK]; exact b5.mono hM⟩
 ·cases h;obtain ⟨es, b1, b2⟩ := hb;exact ⟨es, b1, Js hV hK hβ hM _ _ b2⟩
 ·cases h;obtain ⟨kks, vks, es', clock, b1, b2, b3, b4⟩ := hb;exact ⟨kks, vks, es', clock, by rw [← hK]; exact b1, by rw [← hK]; exact b2, b3, by rw [BD hV hβ hM, ← hK]; exact b4.mono hM⟩
 ·cases h; exact hb
 ·cases h;obtain ⟨l', q1, q2⟩ := hb;cases l' with
  | nil => exact ⟨[], trivial, q2⟩
  | cons => exact q1.elim
 ·cases h;obtain ⟨tm, bd, q1, q2, q3⟩ := hb;refine ⟨tm, bd, hβ _ _ q1, @TR.mk U.toVals τ _ _ _ (@TR.size W.toVals σ _ _ _ q2) (fun i x hx => ?_), q3⟩
  rw [T.get_mapA] at hx;cases hy : (_ : T AV).get i with
  | none => rw [hy] at hx; cases hx
  | some a0 =>
   rw [hy] at hx;cases hx;exact Ed hV hK hβ hM _ _ (@TR.get W.toVals σ _ _ _ q2 i a0 hy)
 ·cases h
end
end Go.AE
namespace Go.AE
structure Bd where
 v : T SE
 b : T Nat
 deriving Inhabited
def Bd.var (m : Bd) (e x : SE) : Bd := match e with
 | .var i => match m.v.get i with
  | none => { v := m.v.set i x, b := m.b }
  | some _ => m
 | _ => m
def Bd.blk (m : Bd) (b c : Nat) : Bd := match m.b.get b with
 | none => { v := m.v, b := m.b.set b c }
 | some _ => m
mutual
def Et : AV → AV → Bd → Bd
 | .ptr b _, .ptr c _, m => m.blk b c
 | .slice b _ _ _, .slice c _ _ _, m => m.blk b c
 | .map b, .map c, m => m.blk b c
 | .func (.yield l) f c, .func (.yield l') f' c', m => DW c c' (DW f f' (m.blk l l'))
 | .func _ f c, .func _ f' c', m => DW c c' (DW f f' m)
 | .iface _ v, .iface _ v', m => Et v v' m
 | .agg l, .agg l', m => DW l l' m
 | .tuple l, .tuple l', m => DW l l' m
 | .sb p e, .sb p' e', m => m.var e (match p == p' with | true => e' | false => .neg e')
 | .sb p e, .bool b, m => m.var e (.bc (b == p))
 | .si _ e, .si _ e', m => m.var e e'
 | .si _ e, .int _ n, m => m.var e (.c n)
 | .ss e, .ss e', m => m.var e e'
 | .ss e, .str l b, m => m.var e (.strc l b)
 | .dat _ x, .dat _ x', m => m.var x x'
 | .dat _ x, .slice0, m => m.var x .nilL
 | .asl b _ n nl, .asl c _ n' nl', m => ((m.blk b c).var n n').var nl nl'
 | .asl b _ n nl, .slice c _ n' _, m => ((m.blk b c).var n (.c n')).var nl (.bc false)
 | .asl _ _ n nl, .slice0, m => (m.var n (.c 0)).var nl (.bc true)
 | .asl _ _ n nl, .eslc nl', m => (m.var n (.c 0)).var nl nl'
 | .eslc nl, .eslc nl', m => m.var nl nl'
 | .eslc nl, .slice0, m => m.var nl (.bc true)
 | .nmap b nl, .nmap c nl', m => (m.blk b c).var nl nl'
 | .nmap b nl, .map c, m => (m.blk b c).var nl (.bc false)
 | .nmap _ nl, .map0, m => m.var nl (.bc true)
 | _, _, m => m
termination_by structural a => a
def DW : List AV → List AV → Bd → Bd
 | a :: l, b :: k, m => DW l k (Et a b m)
 | _, _, m => m
termination_by structural l => l
end
def Ld : T AV → T AV → Bd → Bd
 | .node v l r, .node v' l' r', m => Ld r r' (Ld l l' (match v, v' with
  | some a, some b => Et a b m
  | _, _ => m))
 | _, _, m => m
def Nv [Facts] (E : Env) : Ag → Ag → Bd → Bd
 | .cells _ c, .cells _ c', m => Ld c c' m
 | .loop _ _ _ _ t _ _ _ d, .loop _ _ _ _ t' _ _ _ d', m => Ld t t' (m.blk d d')
 | .arr _ x, .arr _ x', m => m.var x x'
 | .dmap _ _ x, .dmap _ _ x', m => m.var x x'
 | .dmap k v x, .map es _, m => match E.kinds k, E.kinds v with
  | some kks, some vks => match I2 kks vks .emptyL es with
   | some y => m.var x y
   | none => m
  | _, _ => m
 | .arr e x, .cells n c, m => match E.kinds e with
  | some ks => match c.range 0 n with
   | some l => match CK ks (n / ks.length) .emptyL l with
    | some y => m.var x y
    | none => m
   | none => m
  | none => m
 | _, _, m => m
def I1 [Facts] (E : Env) (h : Aa) : List (Option Ag) → Nat → Bd → Bd
 | [], _, m => m
 | none :: r, i, m => I1 E h r (i + 1) m
 | some x :: r, i, m => match m.b.get i with
  | some c => match h.blk.get c with
   | some y => I1 E h r (i + 1) (Nv E x y m)
   | none => I1 E h r (i + 1) m
  | none => I1 E h r (i + 1) m
def Fc [Facts] (E : Env) (l : List (Option Ag)) (h : Aa) (m : Bd) : Bd := match l with
 | [] => m
 | [_] => m
 | _ => I1 E h l 0 (I1 E h l 0 (I1 E h l 0 m))
def Ay [Facts] (E : Env) : List (Option Ag) → Nat → Bd → Aa → Bd × Aa
 | [], _, m, h => (m, h)
 | none :: r, i, m, h => match m.b.get i with
  | some _ => Ay E r (i + 1) m h
  | none => Ay E r (i + 1) (m.blk i h.nx) { h with nx := h.nx + 1 }
 | some x :: r, i, m, h => match m.b.get i with
  | some c => match h.blk.get c with
   | some y => Ay E r (i + 1) (Nv E x y m) h
   | none => Ay E r (i + 1) m h
  | none => match x with
   | .arr e y => Ay E r (i + 1) ((m.blk i h.nx).var y .nilL) (h.new (.arr e .nilL))
   | .dmap k v y => Ay E r (i + 1) ((m.blk i h.nx).var y .emptyL) (h.new (.dmap k v .emptyL))
   | _ => Ay E r (i + 1) m h
def FS (t : T SE) : Nat → Nat → List SE
 | _, 0 => []
 | i, n + 1 => (match t.get i with | some x => x | none => .c 0) :: FS t (i + 1) n
def Gc (t : T Nat) : Nat → Nat → List Nat
 | _, 0 => []
 | i, n + 1 => (match t.get i with | some x => x | none => 0) :: Gc t (i + 1) n
def Jo (n : Nat) : List Nat → Bool
 | [] => true
 | b :: r => Nat.blt b n && Jo n r
def Co (nx : Nat) : Nat → List Nat
 | 0 => []
 | m + 1 => nx :: Co (nx + 1) m
def F5 [U : Facts] (θ : List SE) : List (SB × Bool) → Bool
 | [] => true
 | (e, b) :: r => (match AA U.facts (e.inst θ) with
  | some c => c == b
  | none => false) && F5 θ r
def CU [Facts] (θ : List SE) (β : List Nat) : List (Option Ag) → List Nat → T Ag → Option (T Ag)
 | [], [], t => some t
 | none :: r, b :: bs, t => CU θ β r bs (t.del b)
 | some x :: r, b :: bs, t => match x.inst θ β with
  | some y => CU θ β r bs (t.set b y)
  | none => none
 | _, _, _ => none
def N3 [Facts] : Obs → Bool
 | [] => true
 | (a, .bc true) :: r => a.isB && Ia a && N3 r
 | _ => false
def GI [Facts] : Option Obs → Bool
 | some o => N3 o
 | none => false
theorem P5 {U : Unk} : ∀ {o : Obs}, @N3 U.toFacts o = true → o.holds U.V := by
 intro o
 induction o with
 | nil => intro _ a b hm; cases hm
 | cons p r ih =>
  intro h;unfold N3 at h;split at h
  ·rename_i heq; cases heq
  ·rename_i x r' heq;cases heq;simp only [Bool.and_eq_true] at h;intro a b hm;rcases List.mem_cons.1 hm with q | q
   ·cases q;have h1 := h.1.2;unfold Ia at h1;split at h1
    ·rename_i hd;have := Al U.ok hd;rw [J9 U.V h.1.1];show D.bool (Ad U.V x) = _;rw [this]; rfl
    ·cases h1
   ·exact ih h.2 a b q
  ·cases h
theorem JH {U : Unk} {o : Option Obs} (h : @GI U.toFacts o = true) : ∃ l, o = some l ∧ l.holds U.V := by
 unfold GI at h;split at h
 ·exact ⟨_, rfl, P5 h⟩
 ·cases h
def Oo (old new : T Ag) : List Nat → List Nat
 | [] => []
 | b :: r => match eqO NJ (old.get b) (new.get b) with
  | true => Oo old new r
  | false => b :: Oo old new r
theorem Kz {old new : T Ag} : ∀ {l : List Nat} {b : Nat}, b ∈ l → b ∉ Oo old new l → new.get b = old.get b
 | c :: r, b, h, hn => by
  simp only [Oo] at hn;split at hn
  ·rename_i he;rcases List.mem_cons.1 h with q | q
   ·subst q;exact (Pf (fun _ _ => Lb) he).symm
   ·exact Kz q hn
  ·rcases List.mem_cons.1 h with q | q
   ·subst q;exact absurd (by simp) hn
   ·exact Kz q (fun c => hn (by simp [c]))
def Mm [Facts] (E : Env) (s : Sm) (θ : List SE) (β : List Nat) (args : List AV) (h : Aa) : Option (AV × Aa) :=
 match GI (Fe θ β s.args args) && GI (C7 E θ β h s.pre β) && Dx β && Jo h.nx β && F5 θ s.facts && Nat.ble s.pre.length s.post.length with
 | true =>
  match CU θ (β ++ Co h.nx (s.post.length - s.pre.length)) s.post (β ++ Co h.nx (s.post.length - s.pre.length)) h.blk with
  | some t => some (s.res.inst θ (β ++ Co h.nx (s.post.length - s.pre.length)), { blk := t, nx := h.nx + (s.post.length - s.pre.length), log := Oo h.blk t β ++ h.log })
  | none => none
 | false => none
def SA : AV → Kd
 | .dat e _ => .slice e
 | _ => .bool
def KZ [Facts] (E : Env) (p a : AV) (h : Aa) : AV × Aa :=
 match p, a with
 | .agg qs, .agg xs => match Gb E (qs.map SA) xs h with
  | (xs', h1) => (.agg xs', h1)
 | p, a => Hv E (SA p) a h
def Lp [Facts] (E : Env) : List AV → List AV → Aa → List AV × Aa
 | p :: ps, a :: l, h => match KZ E p a h with
  | (a', h1) => match Lp E ps l h1 with
   | (l', h2) => (a' :: l', h2)
 | _, l, h => (l, h)
def CP [Facts] (E : Env) : List (Option Ag) → Nat → T Nat → Aa → Aa
 | [], _, _, h => h
 | some (.arr e _) :: r, i, b, h => match b.get i, E.kinds e with
  | some c, some ks => match En ks with
   | true => match h.blk.get c with
    | some (.cells _ _) => CP E r (i + 1) b (Fs E e c h)
    | _ => CP E r (i + 1) b h
   | false => CP E r (i + 1) b h
  | _, _ => CP E r (i + 1) b h
 | some (.cells n pc) :: r, i, b, h => match b.get i, pc.range 0 n with
  | some c, some l => match En (JG l) with
   | true => CP E r (i + 1) b (C2 E (JG l) c h)
   | false => CP E r (i + 1) b h
  | _, _ => CP E r (i + 1) b h
 | _ :: r, i, b, h => CP E r (i + 1) b h
def Lj [Facts] (E : Env) (s : Sm) (args : List AV) (h : Aa) : List AV × Aa := match Lp E s.args args h with
 | (args, h) => (args, CP E s.pre 0 (Fc E s.pre h (DW s.args args ⟨.nil, .nil⟩)).b h)
def Mh : AV → Bool
 | .bool _ => true
 | .int _ _ => true
 | .str _ _ => true
 | .sb _ _ => true
 | .si _ _ => true
 | .ss _ => true
 | _ => false
def Ku : AV → Bool
 | .tuple l => l.all Mh
 | a => Mh a
def RH (s : Sm) (h : Aa) (r : AV × Aa) : AV × Aa := match s.pre, s.post, Ku r.1 with
 | [], [], true => (r.1, h)
 | _, _, _ => r
def Pd [Facts] (E : Env) (s : Sm) (args : List AV) (h0 : Aa) : Option (AV × Aa) :=
 match Lj E s args h0 with
 | (args, h) => match Ay E s.pre 0 (Fc E s.pre h (DW s.args args ⟨.nil, .nil⟩)) h with
  | (m, h1) => match Mm E s (FS m.v 0 s.nv) (Gc m.b 0 s.pre.length) args h1 with
   | some r => some (RH s h0 r)
   | none => none
def JE [Facts] (E : Env) : List Sm → FuncId → List AV → Aa → Option (AV × Aa)
 | [], _, _, _ => none
 | s :: r, f, args, h => match Nat.beq s.f f with
  | true => match Pd E s args h with
   | some x => some x
   | none => JE E r f args h
  | false => JE E r f args h
def Sm.Valid (P : Program) (F : Nat → D → D) (s : Sm) : Prop :=
 ∀ [U : Unk], U.K = (Env.of P).kinds → U.V.fn = F → (∀ e b, (e, b) ∈ s.facts → Ad U.V e = b) → ∀ (ρ : Ren) (w : World) (args' : List Value), VL ρ s.args args' → HR ρ (AL s.pre).get w → (∀ b, s.pre.length ≤ b → ρ b = none) →
  ∀ (c0 : Frame) (base : List Frame), ∃ σ v' w', Bk P (lone (Frame.enter P s.f args'.toArray .normal) (c0 :: base) w) c0 base true v' w' ∧ VR σ s.res v' ∧ HR σ (AL s.post).get w' ∧
   Ext ρ σ { blk := AL s.pre, nx := s.pre.length, log := [] } { blk := AL s.post, nx := s.post.length, log := List.range s.pre.length } w w'
theorem Ib : ∀ (m nx i : Nat), (Co nx m)[i]? = if i < m then some (nx + i) else none
 | 0, nx, i => by simp [Co]
 | m + 1, nx, i => by
  cases i with
  | zero => simp [Co]
  | succ i =>
   simp only [Co, List.getElem?_cons_succ, Ib m (nx + 1) i];by_cases c : i < m
   ·rw [if_pos c, if_pos (by omega)]; congr 1; omega
   ·rw [if_neg c, if_neg (by omega)]
theorem Iu {n : Nat} : ∀ {l : List Nat}, Jo n l = true → ∀ b ∈ l, b < n
 | [], _, b, hb => by cases hb
 | c :: r, h, b, hb => by
  simp only [Jo, Bool.and_eq_true] at h;rcases List.mem_cons.1 hb with rfl | hb
  ·simpa [Nat.blt_eq] using h.1
  ·exact Iu h.2 b hb
theorem Bm {U : Unk} {θ : List SE} : ∀ {l : List (SB × Bool)}, @F5 U.toFacts θ l = true → ∀ e b, (e, b) ∈ l → Ad (U.V.inst θ) e = b
 | [], _, e, b, h => by cases h
 | (x, c) :: r, h, e, b, hm => by
  simp only [F5, Bool.and_eq_true] at h;rcases List.mem_cons.1 hm with q | q
  ·cases q;have h1 := h.1;split at h1
   ·rename_i d hd;have := @Al U U.V _ U.ok _ _ hd;rw [DI] at this;rw [this]; exact eq_of_beq h1
   ·cases h1
  ·exact Bm h.2 e b q
theorem Mr [Facts] {θ : List SE} {β : List Nat} : ∀ (l : List (Option Ag)) (bs : List Nat) (t t' : T Ag), CU θ β l bs t = some t' → (∀ (i j b : Nat), bs[i]? = some b → bs[j]? = some b → i = j) →
  (∀ c, c ∉ bs → t'.get c = t.get c) ∧ ∀ (i c : Nat), bs[i]? = some c → (l[i]? = some none ∧ t'.get c = none) ∨ ∃ (x y : Ag), l[i]? = some (some x) ∧ x.inst θ β = some y ∧ t'.get c = some y := by
 intro l
 induction l with
 | nil =>
  intro bs t t' h hd;cases bs with
  | nil => simp only [CU, Option.some.injEq] at h; subst h; exact ⟨fun _ _ => rfl, fun i c hc => by simp at hc⟩
  | cons => cases h
 | cons o r ih =>
  intro bs t t' h hd;cases bs with
  | nil => cases o <;> cases h
  | cons b bs =>
   have hb : b ∉ bs := by
    intro hm;obtain ⟨j, hj, e⟩ := List.getElem_of_mem hm;have := hd 0 (j + 1) b rfl (by simp [hj, e])
    omega
   have hd' : ∀ (i j b : Nat), bs[i]? = some b → bs[j]? = some b → i = j := fun i j c hi hj => by
    have := hd (i + 1) (j + 1) c (by simpa using hi) (by simpa using hj)
    omega
   cases o with
   | none =>
    simp only [CU] at h;obtain ⟨q1, q2⟩ := ih bs _ t' h hd';refine ⟨fun c hc => ?_, fun i c hc => ?_⟩
    ·simp only [List.mem_cons, not_or] at hc;rw [q1 c hc.2, T.get_del, if_neg (fun e => hc.1 e.symm)]
    ·cases i with
     | zero =>
      simp only [List.getElem?_cons_zero, Option.some.injEq] at hc;subst hc;exact .inl ⟨rfl, by rw [q1 _ hb, T.get_del, if_pos rfl]⟩
     | succ i =>
      simp only [List.getElem?_cons_succ] at hc ⊢;exact q2 i c hc
   | some x =>
    simp only [CU] at h;split at h
    ·rename_i y hy;obtain ⟨q1, q2⟩ := ih bs _ t' h hd';refine ⟨fun c hc => ?_, fun i c hc => ?_⟩
     ·simp only [List.mem_cons, not_or] at hc;rw [q1 c hc.2, T.get_set, if_neg (fun e => hc.1 e.symm)]
     ·cases i with
      | zero =>
       simp only [List.getElem?_cons_zero, Option.some.injEq] at hc;subst hc;exact .inr ⟨x, y, rfl, hy, by rw [q1 _ hb, T.get_set, if_pos rfl]⟩
      | succ i =>
       simp only [List.getElem?_cons_succ] at hc ⊢;exact q2 i c hc
    ·cases h
@[reducible] def BY (U : Unk) (F : List (SB × Bool)) (θ : List SE) (h : ∀ e b, (e, b) ∈ F → Ad (U.V.inst θ) e = b) : Unk := { facts := F, V := U.V.inst θ, K := U.K, R := [], hR := fun _ _ _ _ _ h => (by cases h), ok := h }
theorem NA {U : Unk} {E : Env} {FF : List (SB × Bool)} {θ : List SE} {β : List Nat} (hok : ∀ e b, (e, b) ∈ FF → Ad (U.V.inst θ) e = b) {pre post : List (Option Ag)} {res : AV} {o : Obs} {h : Aa} {t : T Ag} {ρ σ : Ren} {w w' : World} {v' : Value} {n0 n1 : Nat} (hn0 : pre.length = n0) (hn1 : post.length = n1)
  (ho2 : C7 E θ β h pre β = some o) (hoh : o.holds U.V) (hnd : Dx β = true) (hlt : ∀ b ∈ β, b < h.nx) (hlen : n0 ≤ n1) (ht : CU θ (β ++ Co h.nx (n1 - n0)) post (β ++ Co h.nx (n1 - n0)) h.blk = some t)
  (hr : HR ρ h.blk.get w) (hwf : ∀ b, h.nx ≤ b → h.blk.get b = none) (hfree : AN ρ h.nx (h.nx + (n1 - n0)))
  (q2 : @VR (BY U FF θ hok).toVals σ res v') (q3 : @HR (BY U FF θ hok).toVals σ (AL post).get w') (q4 : Ext (ρ.back β) σ { blk := AL pre, nx := pre.length, log := [] } { blk := AL post, nx := post.length, log := List.range pre.length } w w') :
  ∃ τ, VR τ (res.inst θ (β ++ Co h.nx (n1 - n0))) v' ∧ HR τ t.get w' ∧ Ext ρ τ h { blk := t, nx := h.nx + (n1 - n0), log := β ++ h.log } w w' := by
 have hV : (BY U FF θ hok).V = U.V.inst θ := rfl;have hK : (BY U FF θ hok).K = U.K := rfl;have hbl : pre.length = β.length := (Cl (U := U) (W := BY U FF θ hok) hV hK pre β o ho2 hoh).1;have hblk := (Cl (U := U) (W := BY U FF θ hok) hV hK pre β o ho2 hoh).2
 have hback : ∀ b, pre.length ≤ b → (ρ.back β).m b = none := by
  intro b hb;have : β[b]? = none := List.getElem?_eq_none (by omega)
  simp [Ren.back, this]
 have hbn : β.length = n0 := by omega
 have gb : ∀ (i : Nat), (β ++ Co h.nx (n1 - n0))[i]? = if i < n0 then β[i]? else if i < n1 then some (h.nx + (i - n0)) else none := by
  intro i;by_cases c : i < n0
  ·rw [if_pos c, List.getElem?_append_left (by omega)]
  ·rw [if_neg c, List.getElem?_append_right (by omega), Ib, hbn]
   by_cases c2 : i < n1
   ·rw [if_pos c2, if_pos (by omega)]
   ·rw [if_neg c2, if_neg (by omega)]
 have gdist : ∀ (i j b : Nat), (β ++ Co h.nx (n1 - n0))[i]? = some b → (β ++ Co h.nx (n1 - n0))[j]? = some b → i = j := by
  intro i j b hi hj;rw [gb] at hi hj;by_cases c : i < n0
  ·rw [if_pos c] at hi;have := hlt b (List.mem_of_getElem? hi);by_cases d : j < n0
   ·rw [if_pos d] at hj; exact JC hnd hi hj
   ·rw [if_neg d] at hj;split at hj
    ·cases hj; omega
    ·cases hj
  ·rw [if_neg c] at hi;split at hi
   ·cases hi;by_cases d : j < n0
    ·rw [if_pos d] at hj;have := hlt _ (List.mem_of_getElem? hj);omega
    ·rw [if_neg d] at hj;split at hj
     ·simp only [Option.some.injEq] at hj; omega
     ·cases hj
   ·cases hi
 obtain ⟨t1, t2⟩ := @Mr U.toFacts θ _ _ _ _ _ ht gdist
 let τ : Ren := ⟨fun c => if h.nx ≤ c ∧ c < h.nx + (n1 - n0) then σ (n0 + (c - h.nx)) else ρ c, σ.imm⟩
 have τold : ∀ c, c < h.nx → τ c = ρ c := fun c hc => by show (if _ then _ else _) = _; rw [if_neg (by omega)]
 have τnew : ∀ i, n0 ≤ i → i < n1 → τ (h.nx + (i - n0)) = σ i := fun i h1 h2 => by
  show (if _ then _ else _) = _
  rw [if_pos (by omega)]; congr 1; omega
 have hle0 := q4.le
 have back : ∀ b base, (ρ.back β).m b = some base → ∃ c, β[b]? = some c ∧ ρ c = some base := by
  intro b base hb;simp only [Ren.back] at hb;cases hc : β[b]? with
  | none => rw [hc] at hb; cases hb
  | some c => rw [hc] at hb; exact ⟨c, rfl, hb⟩
 have preLive : ∀ b, (AL pre).get b ≠ none → ∃ c y, β[b]? = some c ∧ h.blk.get c = some y := by
  intro b hb;rw [BC] at hb;cases hx : pre[b]? with
  | none => rw [hx] at hb; exact absurd rfl hb
  | some ox =>
   cases ox with
   | none => rw [hx] at hb; exact absurd rfl hb
   | some x =>
    obtain ⟨c, y, o', a1, a2, a3, a4⟩ := hblk b x hx;exact ⟨c, y, a1, a2⟩
 have hle : ρ.le τ := by
  refine ⟨fun c base hc => ?_, fun k a hk => hle0.imm k a hk⟩
  show (if _ then _ else _) = _
  rw [if_neg ?_]
  ·exact hc
  ·intro hcr;rw [hfree c hcr.1 hcr.2] at hc; cases hc
 have hβ : ∀ b base, σ b = some base → τ ((β ++ Co h.nx (n1 - n0)).getD b 0) = some base := by
  intro b bs hb;rcases q4.new b bs hb with hq | ⟨a1, a2, _⟩
  ·obtain ⟨c, c1, c2⟩ := back b bs hq;have hbl' : b < n0 := by have := (List.getElem?_eq_some_iff.1 c1).1; omega
   have e : (β ++ Co h.nx (n1 - n0)).getD b 0 = c := by rw [List.getD_eq_getElem?_getD, gb, if_pos hbl', c1]; rfl
   rw [e, τold c (hlt c (List.mem_of_getElem? c1))]; exact c2
  ·simp only [hn0, hn1] at a1 a2;have e : (β ++ Co h.nx (n1 - n0)).getD b 0 = h.nx + (b - n0) := by rw [List.getD_eq_getElem?_getD, gb, if_neg (by omega), if_pos a2]; rfl
   rw [e, τnew b a1 a2]; exact hb
 have kinds : ∀ c y, t.get c = some y → (∃ i x, (β ++ Co h.nx (n1 - n0))[i]? = some c ∧ (AL post).get i = some x ∧ @Ag.inst U.toFacts θ (β ++ Co h.nx (n1 - n0)) x = some y) ∨ (c ∉ β ∧ c < h.nx ∧ h.blk.get c = some y) := by
  intro c y hy;by_cases hm : c ∈ β ++ Co h.nx (n1 - n0)
  ·obtain ⟨i, hi, e⟩ := List.getElem_of_mem hm;have hic : (β ++ Co h.nx (n1 - n0))[i]? = some c := List.getElem?_eq_some_iff.2 ⟨hi, e⟩;rcases t2 i c hic with ⟨_, q⟩ | ⟨x, y', a1, a2, a3⟩
   ·rw [q] at hy; cases hy
   ·rw [a3] at hy; cases hy;exact .inl ⟨i, x, hic, by rw [BC, a1]; rfl, a2⟩
  ·rw [t1 c hm] at hy;refine .inr ⟨fun e => hm (List.mem_append_left _ e), ?_, hy⟩
   rcases Nat.lt_or_ge c h.nx with q | q
   ·exact q
   ·rw [hwf c q] at hy; cases hy
 have baseOf : ∀ i c bs, (β ++ Co h.nx (n1 - n0))[i]? = some c → τ c = some bs → σ i = some bs := by
  intro i c bs hi hc;rw [gb] at hi;by_cases d : i < n0
  ·rw [if_pos d] at hi;rw [τold c (hlt c (List.mem_of_getElem? hi))] at hc;exact hle0.m i bs (by show (β[i]?).bind ρ.m = some bs; rw [hi]; exact hc)
  ·rw [if_neg d] at hi;split at hi
   ·rename_i d2;cases hi;rw [τnew i (by omega) d2] at hc; exact hc
   ·cases hi
 have given : ∀ b0 base0 c bs y, (ρ.back β).m b0 = some base0 → (AL pre).get b0 ≠ none → c ∉ β → ρ c = some bs → h.blk.get c = some y → base0.cb ≠ bs.cb := by
  intro b0 base0 c bs y h1 h2 h3 h4 h5;obtain ⟨c1, e1, e2⟩ := back b0 base0 h1;obtain ⟨c2, y2, e3, e4⟩ := preLive b0 h2;rw [e1] at e3; cases e3;exact hr.apart c1 c base0 bs (fun e => h3 (e ▸ List.mem_of_getElem? e1)) e2 h4 (by rw [e4]; exact Option.some_ne_none _) (by rw [h5]; exact Option.some_ne_none _)
 have mixed : ∀ i c bs c' bs' y' x, (β ++ Co h.nx (n1 - n0))[i]? = some c → (AL post).get i = some x → τ c = some bs → c' ∉ β → c' < h.nx → h.blk.get c' = some y' → τ c' = some bs' → bs.cb ≠ bs'.cb := by
  intro i c bs c' bs' y' x hi hx hc h3 h4 h5 h6;rw [τold c' h4] at h6;have hσ := baseOf i c bs hi hc;rcases q4.new i bs hσ with hq | ⟨a1, a2, a3 | ⟨b0, base0, e1, e2, e3⟩⟩
  ·rcases q4.live i (by show (AL post).get i ≠ none; rw [hx]; exact Option.some_ne_none _) with l | ⟨l1, l2⟩
   ·exact given i bs c' bs' y' hq l h3 h6 h5
   ·simp only at l1;rw [hback i l1] at hq; cases hq
  ·have := hr.lt c' bs' h6; omega
  ·rw [← e3]; exact given b0 base0 c' bs' y' e1 e2 h3 h6 h5
 refine ⟨τ, Ed (U := U) (W := BY U FF θ hok) hV hK hβ (fun k a hk => hk) res v' q2, ⟨?_, ?_, ?_, ?_, ?_⟩, ⟨hle, by show h.nx ≤ h.nx + _; omega, ?_, q4.calm, ?_, ⟨β, rfl, ?_⟩, ?_, ?_⟩⟩
 ·intro c bs hc;by_cases d : h.nx ≤ c ∧ c < h.nx + (n1 - n0)
  ·have : τ c = σ (n0 + (c - h.nx)) := by show (if _ then _ else _) = _; rw [if_pos d]
   rw [this] at hc;exact HR.lt (U := (BY U FF θ hok).toVals) q3 _ bs hc
  ·have : τ c = ρ c := by show (if _ then _ else _) = _; rw [if_neg d]
   rw [this] at hc;have := hr.lt c bs hc;have := q4.calm.size;omega
 ·intro c bs y hc hy;rcases kinds c y hy with ⟨i, x, a1, a2, a3⟩ | ⟨a1, a2, a3⟩
  ·exact Ms (U := U) (W := BY U FF θ hok) hV hK hβ (fun k a hk => hk) a3 (HR.blk (U := (BY U FF θ hok).toVals) q3 i bs x (baseOf i c bs a1 hc) a2)
  ·rw [τold c a2] at hc;have hk := q4.kept bs.cb (hr.lt c bs hc) (fun b0 base0 hb0 hl0 => given b0 base0 c bs y hb0 hl0 a1 hc a3)
   rw [hk];exact (hr.blk c bs y hc a3).mono hle
 ·intro c c' bs bs' hne hc hc' h1 h2;cases hy : t.get c with
  | none => exact absurd hy h1
  | some y =>
   cases hy' : t.get c' with
   | none => exact absurd hy' h2
   | some y' =>
    rcases kinds c y hy with ⟨i, x, a1, a2, a3⟩ | ⟨a1, a2, a3⟩
    ·rcases kinds c' y' hy' with ⟨i', x', b1, b2, b3⟩ | ⟨b1, b2, b3⟩
     ·exact HR.apart (U := (BY U FF θ hok).toVals) q3 i i' bs bs' (fun e => by subst e; rw [a1] at b1; cases b1; exact hne rfl) (baseOf i c bs a1 hc) (baseOf i' c' bs' b1 hc') (by rw [a2]; exact Option.some_ne_none _) (by rw [b2]; exact Option.some_ne_none _)
     ·exact mixed i c bs c' bs' y' x a1 a2 hc b1 b2 b3 hc'
    ·rcases kinds c' y' hy' with ⟨i', x', b1, b2, b3⟩ | ⟨b1, b2, b3⟩
     ·exact (mixed i' c' bs' c bs y x' b1 b2 hc' a1 a2 a3 hc).symm
     ·rw [τold c a2] at hc;rw [τold c' b2] at hc';exact hr.apart c c' bs bs' hne hc hc' (by rw [a3]; exact Option.some_ne_none _) (by rw [b3]; exact Option.some_ne_none _)
 ·intro k arr hk;exact HR.imm (U := (BY U FF θ hok).toVals) q3 k arr hk
 ·intro k arr c bs hk hc hl;cases hy : t.get c with
  | none => exact absurd hy hl
  | some y =>
   rcases kinds c y hy with ⟨i, x, a1, a2, a3⟩ | ⟨a1, a2, a3⟩
   ·exact HR.off (U := (BY U FF θ hok).toVals) q3 k arr i bs hk (baseOf i c bs a1 hc) (by rw [a2]; exact Option.some_ne_none _)
   ·rw [τold c a2] at hc;have hl3 : h.blk.get c ≠ none := by rw [a3]; exact Option.some_ne_none _
    rcases q4.imm k arr hk with e | e | ⟨b0, base0, e1, e2, e3⟩
    ·exact hr.off k arr c bs e hc hl3
    ·have := hr.lt c bs hc; omega
    ·rw [← e3]; exact (given b0 base0 c bs y e1 e2 a1 hc a3).symm
 ·intro c bs hc;by_cases d : h.nx ≤ c ∧ c < h.nx + (n1 - n0)
  ·have e : τ c = σ (n0 + (c - h.nx)) := by show (if _ then _ else _) = _; rw [if_pos d]
   rw [e] at hc;refine .inr ⟨d.1, d.2, ?_⟩;rcases q4.new _ bs hc with hq | ⟨_, _, a3 | ⟨b0, base0, e1, e2, e3⟩⟩
   ·rw [hback _ (by omega)] at hq; cases hq
   ·exact .inl a3
   ·obtain ⟨c1, x1, x2⟩ := back b0 base0 e1;obtain ⟨c2, y2, x3, x4⟩ := preLive b0 e2;rw [x1] at x3; cases x3;exact .inr ⟨c1, base0, x2, by rw [x4]; exact Option.some_ne_none _, e3⟩
  ·have e : τ c = ρ c := by show (if _ then _ else _) = _; rw [if_neg d]
   rw [e] at hc;exact .inl hc
 ·intro k hk hno;refine q4.kept k hk (fun b0 base0 e1 e2 => ?_)
  obtain ⟨c1, x1, x2⟩ := back b0 base0 e1;obtain ⟨c2, y2, x3, x4⟩ := preLive b0 e2;rw [x1] at x3; cases x3;exact hno c1 base0 x2 (by rw [x4]; exact Option.some_ne_none _)
 ·intro b hb hrange;refine t1 b (fun hm => ?_)
  rcases List.mem_append.1 hm with q | q
  ·exact hb q
  ·obtain ⟨i, hi, e⟩ := List.getElem_of_mem q;have hi' : (Co h.nx (n1 - n0))[i]? = some b := by simp [hi, e]
   rw [Ib] at hi';split at hi'
   ·cases hi';simp only at hrange;omega
   ·cases hi'
 ·intro b hb;show h.blk.get b ≠ none ∨ (h.nx ≤ b ∧ b < h.nx + (n1 - n0));cases hy : t.get b with
  | none => exact absurd hy hb
  | some y =>
   rcases kinds b y hy with ⟨i, x, a1, a2, a3⟩ | ⟨a1, a2, a3⟩
   ·rw [gb] at a1;by_cases d : i < n0
    ·rw [if_pos d] at a1;rcases q4.live i (by show (AL post).get i ≠ none; rw [a2]; exact Option.some_ne_none _) with l | ⟨l1, _⟩
     ·obtain ⟨c2, y2, x3, x4⟩ := preLive i l;rw [a1] at x3; cases x3;exact .inl (by rw [x4]; exact Option.some_ne_none _)
     ·simp only at l1; omega
    ·rw [if_neg d] at a1;split at a1
     ·cases a1; exact .inr (by omega)
     ·cases a1
   ·exact .inl (by rw [a3]; exact Option.some_ne_none _)
 ·intro k arr hk;rcases q4.imm k arr hk with e | e | ⟨b0, base0, e1, e2, e3⟩
  ·exact .inl e
  ·exact .inr (.inl e)
  ·obtain ⟨c1, x1, x2⟩ := back b0 base0 e1;obtain ⟨c2, y2, x3, x4⟩ := preLive b0 e2;rw [x1] at x3; cases x3;exact .inr (.inr ⟨c1, base0, x2, by rw [x4]; exact Option.some_ne_none _, e3⟩)
theorem N6 {U : Unk} {E : Env} (hE : OK E) {F : Nat → D → D} (hF : U.V.fn = F) {s : Sm} (hs : s.Valid E.P F) {θ : List SE} {β : List Nat} {args : List AV} {args' : List Value} {h h' : Aa} {v : AV} {ρ : Ren} {w : World}
  (hx : Mm E s θ β args h = some (v, h')) (ha : VL ρ args args') (hr : HR ρ h.blk.get w) (hwf : ∀ b, h.nx ≤ b → h.blk.get b = none) (hfree : AN ρ h.nx h'.nx) (c0 : Frame) (base : List Frame) :
  ∃ τ v' w', Bk E.P (lone (Frame.enter E.P s.f args'.toArray .normal) (c0 :: base) w) c0 base true v' w' ∧ VR τ v v' ∧ HR τ h'.blk.get w' ∧ Ext ρ τ h h' w w' := by
 unfold Mm at hx;split at hx
 ·rename_i hc;split at hx
  ·rename_i t ht;simp only [Option.some.injEq, Prod.mk.injEq] at hx;obtain ⟨rfl, rfl⟩ := hx;obtain ⟨hc, hlen⟩ := Ak hc;obtain ⟨hc, hfc⟩ := Ak hc;obtain ⟨hc, hlt⟩ := Ak hc;obtain ⟨hc, hnd⟩ := Ak hc;obtain ⟨ho1, ho2⟩ := Ak hc;obtain ⟨l1, ho1, hl1⟩ := JH ho1;obtain ⟨l2, ho2, hl2⟩ := JH ho2;have hlen := Cf hlen;have hlt := Iu hlt;have hV : (BY U s.facts θ (Bm hfc)).V = U.V.inst θ := rfl;have hK : (BY U s.facts θ (Bm hfc)).K = U.K := rfl;have hbl : s.pre.length = β.length := (Cl (U := U) (W := BY U s.facts θ (Bm hfc)) hV hK s.pre β _ ho2 hl2).1;have p1 := DJ (U := U) (W := BY U s.facts θ (Bm hfc)) hV hK s.args args _ args' ho1 hl1 ha;have p2 := HR.toPat (U := U) (W := BY U s.facts θ (Bm hfc)) hV hK hE hr ho2 hl2 hnd
   have hback : ∀ b, s.pre.length ≤ b → (ρ.back β).m b = none := by
    intro b hb;have : β[b]? = none := List.getElem?_eq_none (by omega)
    simp [Ren.back, this]
   obtain ⟨σ, v', w', q1, q2, q3, q4⟩ := hs (U := BY U s.facts θ (Bm hfc)) hE.kd hF (Bm hfc) (ρ.back β) w args' p1 p2 hback c0 base;obtain ⟨τ, r1, r2, r3⟩ := NA (U := U) (E := E) (FF := s.facts) (Bm hfc) rfl rfl ho2 hl2 hnd hlt hlen ht hr hwf hfree q2 q3 q4;refine ⟨τ, v', w', q1, r1, r2, { r3 with log := ⟨Oo h.blk t β, rfl, fun b hb hr => ?_⟩ }⟩
   by_cases hm : b ∈ β
   ·exact Kz hm hb
   ·obtain ⟨l, e1, e2⟩ := r3.log;have e1 : β ++ h.log = l ++ h.log := e1;have := List.append_cancel_right e1;subst this;exact e2 b hm hr
  ·cases hx
 ·cases hx
theorem A2 [Facts] {E : Env} : ∀ (l : List (Option Ag)) (i : Nat) (m : Bd) (h : Aa), h.nx ≤ (Ay E l i m h).2.nx
 | [], _, _, _ => Nat.le_refl _
 | none :: r, i, m, h => by
  simp only [Ay];split
  ·exact A2 r (i + 1) m h
  ·exact Nat.le_trans (Nat.le_succ _) (A2 (E := E) r (i + 1) (m.blk i h.nx) { h with nx := h.nx + 1 })
 | some x :: r, i, m, h => by
  simp only [Ay];split
  ·split
   ·exact A2 r (i + 1) _ h
   ·exact A2 r (i + 1) _ h
  ·split
   ·rename_i e y;have := A2 (E := E) r (i + 1) ((m.blk i h.nx).var y .nilL) (h.new (.arr e .nilL));exact Nat.le_trans (Nat.le_succ _) this
   ·rename_i k v y;have := A2 (E := E) r (i + 1) ((m.blk i h.nx).var y .emptyL) (h.new (.dmap k v .emptyL));exact Nat.le_trans (Nat.le_succ _) this
   ·exact A2 r (i + 1) _ h
theorem A0 {U : Unk} {E : Env} {ρ : Ren} {w : World} : ∀ (l : List (Option Ag)) (i : Nat) (m : Bd) (h : Aa), HR ρ h.blk.get w → WF h → AN ρ h.nx (Ay E l i m h).2.nx →
  HR ρ (Ay E l i m h).2.blk.get w ∧ Ext ρ ρ h (Ay E l i m h).2 w w ∧ WF (Ay E l i m h).2
 | [], _, _, h, hr, hwf, _ => ⟨hr, Ext.refl _ _ _, hwf⟩
 | none :: r, i, m, h, hr, hwf, hf => by
  simp only [Ay] at hf ⊢;split at hf
  ·exact A0 r (i + 1) m h hr hwf hf
  ·have hn := A2 (E := E) r (i + 1) (m.blk i h.nx) { h with nx := h.nx + 1 }
   have e0 : Ext ρ ρ h { h with nx := h.nx + 1 } w w := ⟨Ren.le_refl ρ, Nat.le_succ _, fun _ _ e => .inl e, FH.refl w, fun _ _ _ => rfl, ⟨[], rfl, fun _ _ _ => rfl⟩, fun _ e => .inl e, fun _ _ e => .inl e⟩
   obtain ⟨q1, q2, q3⟩ := A0 r (i + 1) (m.blk i h.nx) { h with nx := h.nx + 1 } hr (e0.wf hwf) (e0.free hf)
   exact ⟨q1, e0.trans q2 hf, q3⟩
 | some x :: r, i, m, h, hr, hwf, hf => by
  simp only [Ay] at hf ⊢;split at hf
  ·split at hf
   ·exact A0 r (i + 1) _ h hr hwf hf
   ·exact A0 r (i + 1) _ h hr hwf hf
  ·split at hf
   ·rename_i e y;have hn := A2 (E := E) r (i + 1) ((m.blk i h.nx).var y .nilL) (h.new (.arr e .nilL));have hn1 : (h.new (.arr e .nilL)).nx = h.nx + 1 := rfl;obtain ⟨p1, p2⟩ := HR.phantom hr (hf h.nx (Nat.le_refl _) (by omega)) (.arr e .nilL)
    obtain ⟨q1, q2, q3⟩ := A0 r (i + 1) _ _ p1 (p2.wf hwf) (p2.free hf);exact ⟨q1, p2.trans q2 hf, q3⟩
   ·rename_i k v y;have hn := A2 (E := E) r (i + 1) ((m.blk i h.nx).var y .emptyL) (h.new (.dmap k v .emptyL));have hn1 : (h.new (.dmap k v .emptyL)).nx = h.nx + 1 := rfl;obtain ⟨p1, p2⟩ := HR.phantom hr (hf h.nx (Nat.le_refl _) (by omega)) (.dmap k v .emptyL)
    obtain ⟨q1, q2, q3⟩ := A0 r (i + 1) _ _ p1 (p2.wf hwf) (p2.free hf);exact ⟨q1, p2.trans q2 hf, q3⟩
   ·exact A0 r (i + 1) _ h hr hwf hf
theorem Ll {U : Unk} {E : Env} (hE : OK E) {w : World} {p a a' : AV} {v : Value} {ρ : Ren} {h h' : Aa} (hr : HR ρ h.blk.get w) (ha : VR ρ a v) (hx : KZ E p a h = (a', h')) :
  h'.nx = h.nx ∧ ∃ σ : Ren, VR σ a' v ∧ HR σ h'.blk.get w ∧ Ext ρ σ h h' w w := by
 unfold KZ at hx;split at hx
 ·rename_i qs xs;split at hx;rename_i xs' h1 hf;cases hx;cases ha with
  | agg _ l' e1 e2 =>
   obtain ⟨hn, σ, q1, q2, q3⟩ := HO hE hr ⟨e1, e2⟩ hf;exact ⟨hn, σ, .agg xs' l' q1.1 q1.2, q2, q3⟩
 ·exact ⟨Ks hx, HN hE hr ha hx⟩
theorem KE {U : Unk} {E : Env} (hE : OK E) {w : World} : ∀ {ps l l' : List AV} {vs : List Value} {ρ : Ren} {h h' : Aa}, HR ρ h.blk.get w → VL ρ l vs → Lp E ps l h = (l', h') →
  h'.nx = h.nx ∧ ∃ σ : Ren, VL σ l' vs ∧ HR σ h'.blk.get w ∧ Ext ρ σ h h' w w
 | [], l, l', vs, ρ, h, h', hr, hv, hx => by
  cases l <;> (simp only [Lp] at hx; cases hx; exact ⟨rfl, ρ, hv, hr, Ext.refl _ _ _⟩)
 | k :: ks, [], l', vs, ρ, h, h', hr, hv, hx => by
  simp only [Lp] at hx; cases hx; exact ⟨rfl, ρ, hv, hr, Ext.refl _ _ _⟩
 | k :: ks, a :: l, l', vs, ρ, h, h', hr, hv, hx => by
  obtain ⟨v, r, rfl, h1, h2⟩ := hv.cons_inv;simp only [Lp] at hx;generalize hf1 : KZ E k a h = p1 at hx;obtain ⟨a1, h3⟩ := p1;simp only at hx;generalize hf2 : Lp E ks l h3 = p2 at hx;obtain ⟨l1, h4⟩ := p2;simp only at hx;cases hx;obtain ⟨hn1, σ, q1, q2, q3⟩ := Ll hE hr h1 hf1;obtain ⟨hn2, τ, r1, r2, r3⟩ := KE hE q2 (h2.mono q3.le) hf2;refine ⟨by omega, τ, VL.cons (q1.mono r3.le) r1, r2, q3.trans r3 (fun b hb hb2 => by omega)⟩
theorem Bh {U : Unk} {E : Env} (hE : OK E) {w : World} : ∀ (l : List (Option Ag)) (i : Nat) (b : T Nat) (h : Aa) (ρ : Ren), HR ρ h.blk.get w → (CP E l i b h).nx = h.nx ∧ ∃ σ : Ren, HR σ (CP E l i b h).blk.get w ∧ Ext ρ σ h (CP E l i b h) w w
 | [], _, _, h, ρ, hr => ⟨rfl, ρ, hr, Ext.refl _ _ _⟩
 | some (.arr e x) :: r, i, b, h, ρ, hr => by
  have next := Bh hE r (i + 1) b h ρ hr;simp only [CP];split
  ·rename_i c ks hbc hke;split
   ·split
    ·obtain ⟨n1, σ, q1, q2⟩ := JZ (e := e) (b := c) hE hr;obtain ⟨n2, τ, r1, r2⟩ := Bh hE r (i + 1) b (Fs E e c h) σ q1;exact ⟨by omega, τ, r1, q2.trans r2 (fun d h1 h2 => by omega)⟩
    ·exact next
   ·exact next
  ·exact next
 | none :: r, i, b, h, ρ, hr => Bh hE r (i + 1) b h ρ hr
 | some (.cells n pc) :: r, i, b, h, ρ, hr => by
  have next := Bh hE r (i + 1) b h ρ hr;simp only [CP];split
  ·rename_i c l hbc hl;split
   ·obtain ⟨n1, σ, q1, q2⟩ := Hk (ks := JG l) (b := c) hE hr;obtain ⟨n2, τ, r1, r2⟩ := Bh hE r (i + 1) b (C2 E (JG l) c h) σ q1;exact ⟨by omega, τ, r1, q2.trans r2 (fun d h1 h2 => by omega)⟩
   ·exact next
  ·exact next
 | some (.map _ _) :: r, i, b, h, ρ, hr => Bh hE r (i + 1) b h ρ hr
 | some (.dmap _ _ _) :: r, i, b, h, ρ, hr => Bh hE r (i + 1) b h ρ hr
 | some (.loop _ _ _ _ _ _ _ _ _) :: r, i, b, h, ρ, hr => Bh hE r (i + 1) b h ρ hr
 | some (.deferred _) :: r, i, b, h, ρ, hr => Bh hE r (i + 1) b h ρ hr
 | some (.mapIter _ _ _ _) :: r, i, b, h, ρ, hr => Bh hE r (i + 1) b h ρ hr
theorem Qw {U : Unk} {E : Env} (hE : OK E) {w : World} {s : Sm} {l l' : List AV} {vs : List Value} {ρ : Ren} {h h' : Aa} (hr : HR ρ h.blk.get w) (hv : VL ρ l vs) (hx : Lj E s l h = (l', h')) :
  h'.nx = h.nx ∧ ∃ σ : Ren, VL σ l' vs ∧ HR σ h'.blk.get w ∧ Ext ρ σ h h' w w := by
 unfold Lj at hx;split at hx;rename_i args h1 hf;cases hx;obtain ⟨n1, σ, q1, q2, q3⟩ := KE hE hr hv hf;obtain ⟨n2, τ, r1, r2⟩ := Bh hE s.pre 0 (Fc E s.pre h1 (DW s.args l' ⟨.nil, .nil⟩)).b h1 σ q2;exact ⟨by omega, τ, q1.mono r2.le, r1, q3.trans r2 (fun b hb hb2 => by omega)⟩
theorem H0 {U : Unk} {a : AV} {v : Value} {ρ σ : Ren} (h : Mh a = true) (hv : VR ρ a v) : VR σ a v := by
 cases hv with
 | bool b => exact .bool b
 | int k n => exact .int k n
 | str s => exact .str s
 | sb p e => exact .sb p e
 | si k e => exact .si k e
 | ss x => exact .ss x
 | _ => cases h
theorem Nk {U : Unk} {a : AV} {v : Value} {ρ σ : Ren} (h : Ku a = true) (hv : VR ρ a v) : VR σ a v := by
 unfold Ku at h;split at h
 ·rename_i l;cases hv with
  | tuple _ l' h1 h2 => exact .tuple l l' h1 fun i a v ha hv => H0 (List.all_eq_true.mp h a (List.mem_of_getElem? ha)) (h2 i a v ha hv)
 ·exact H0 h hv
theorem HR.still {U : Unk} {ρ : Ren} {g : Nat → Option Ag} {w w' : World} (hr : HR ρ g w) (hs : w.heap.size ≤ w'.heap.size) (hk : ∀ k, k < w.heap.size → w'.heap[k]? = w.heap[k]?) : HR ρ g w' := by
 refine ⟨fun b base hb => Nat.lt_of_lt_of_le (hr.lt b base hb) hs, fun b base x hb hx => ?_, hr.apart, fun k arr hi => ?_, hr.off⟩
 ·rw [hk _ (hr.lt b base hb)];exact hr.blk b base x hb hx
 ·rw [hk _ (hr.immLt hi)];exact hr.imm k arr hi
theorem QM {U : Unk} {E : Env} (hE : OK E) {F : Nat → D → D} (hF : U.V.fn = F) {s : Sm} (hs : s.Valid E.P F) {θ : List SE} {β : List Nat} {args : List AV} {args' : List Value} {h h0 h' : Aa} {v : AV} {ρ ρ0 : Ren} {w : World}
  (hx : Mm E s θ β args h = some (v, h')) (p1 : s.pre = []) (p2 : s.post = []) (p3 : Ku v = true) (hβ : β = []) (ha : VL ρ args args') (hr : HR ρ h.blk.get w) (hr0 : HR ρ0 h0.blk.get w) (c0 : Frame) (base : List Frame) :
  ∃ τ v' w', Bk E.P (lone (Frame.enter E.P s.f args'.toArray .normal) (c0 :: base) w) c0 base true v' w' ∧ VR τ v v' ∧ HR τ h0.blk.get w' ∧ Ext ρ0 τ h0 h0 w w' := by
 subst hβ
 have hx2 : ∃ g, Mm E s θ [] args { h with blk := .nil } = some (v, g) ∧ g.nx = h.nx := by
  unfold Mm at hx ⊢;rw [p1, p2] at hx ⊢;split at hx
  ·rename_i hc;have hc2 : (GI (Fe θ [] s.args args) && GI (C7 E θ [] { h with blk := .nil } [] []) && Dx [] && Jo h.nx [] && F5 θ s.facts && Nat.ble ([] : List (Option Ag)).length ([] : List (Option Ag)).length) = true := hc
   rw [hc2];split at hx
   ·simp only [Option.some.injEq, Prod.mk.injEq] at hx;obtain ⟨rfl, rfl⟩ := hx;exact ⟨_, rfl, rfl⟩
   ·cases hx
  ·cases hx
 obtain ⟨g, hx2, hn⟩ := hx2;have e0 : ∀ b, ({ h with blk := T.nil } : Aa).blk.get b = none := fun b => by show T.get (T.nil : T Ag) b = none; cases b <;> rfl
 have hr2 : HR ρ ({ h with blk := T.nil } : Aa).blk.get w := hr.restrict fun b => .inl (e0 b)
 obtain ⟨τ, v', w', q1, q2, _, q4⟩ := N6 hE hF hs hx2 ha hr2 (fun b _ => e0 b) (fun b b1 b2 => by rw [hn] at b2; exact absurd b2 (Nat.not_lt.2 b1)) c0 base
 have kp : ∀ k, k < w.heap.size → w'.heap[k]? = w.heap[k]? := fun k hk => q4.kept k hk fun b base _ hl => absurd (e0 b) hl
 have cm := q4.calm;exact ⟨ρ0, v', w', q1, Nk p3 q2, hr0.still cm.size kp, ⟨Ren.le_refl ρ0, Nat.le_refl _, fun _ _ e => .inl e, cm, fun k hk _ => kp k hk, ⟨[], rfl, fun _ _ _ => rfl⟩, fun _ e => .inl e, fun _ _ e => .inl e⟩⟩
theorem Im {U : Unk} {E : Env} (hE : OK E) {F : Nat → D → D} (hF : U.V.fn = F) {f : FuncId} {args : List AV} {args' : List Value} {h g : Aa} {v : AV} {ρ : Ren} {w : World} : ∀ {l : List Sm}, (∀ s ∈ l, s.Valid E.P F) → JE E l f args h = some (v, g) → VL ρ args args' → HR ρ h.blk.get w → WF h → AN ρ h.nx g.nx →
  ∀ (c0 : Frame) (base : List Frame), ∃ σ v' w', Bk E.P (lone (Frame.enter E.P f args'.toArray .normal) (c0 :: base) w) c0 base true v' w' ∧ VR σ v v' ∧ HR σ g.blk.get w' ∧ Ext ρ σ h g w w'
 | [], _, hx, _, _, _, _ => by simp [JE] at hx
 | s :: r, hO, hx, ha, hr, hwf, hfree => by
  simp only [JE] at hx;split at hx
  ·rename_i hb;have e1 := Aq hb;subst e1;split at hx
   ·rename_i x hap;cases hx;unfold Pd at hap;split at hap;rename_i args0 h0 hfz;split at hap;rename_i m h1 hbd;have hfz : Lj E s args h = (args0, h0) := hfz;obtain ⟨hn0, σ0, z1, z2, z3⟩ := Qw hE hr ha hfz;have hwf0 : WF h0 := z3.wf hwf;have e2 : (Ay E s.pre 0 (Fc E s.pre h0 (DW s.args args0 ⟨.nil, .nil⟩)) h0).2 = h1 := by rw [hbd]
    split at hap;rotate_left
    ·cases hap
    rename_i r0 hap0;obtain ⟨v0, g0⟩ := r0;have hap := Option.some.inj hap;unfold RH at hap;split at hap
    ·rename_i p1 p2 p3;simp only [Prod.mk.injEq] at hap;obtain ⟨rfl, rfl⟩ := hap;intro c0 base;have hb0 : h1 = h0 := by rw [← e2, p1]; rfl
     subst hb0;exact QM hE hF (hO s (by simp)) (args := args0) (h := h1) hap0 p1 p2 p3 (by rw [p1]; rfl) z1 z2 hr c0 base
    simp only [Prod.mk.injEq] at hap;obtain ⟨rfl, rfl⟩ := hap;have hap := hap0
    have hnx : h1.nx ≤ g0.nx := by
     unfold Mm at hap;split at hap
     ·split at hap
      ·simp only [Option.some.injEq, Prod.mk.injEq] at hap;obtain ⟨_, rfl⟩ := hap;show h1.nx ≤ h1.nx + _;omega
      ·cases hap
     ·cases hap
    have hfree0 : AN σ0 h0.nx g0.nx := z3.free hfree;obtain ⟨q1, q2, q3⟩ := A0 (E := E) s.pre 0 (Fc E s.pre h0 (DW s.args args0 ⟨.nil, .nil⟩)) h0 z2 hwf0 (fun b b1 b2 => hfree0 b b1 (by rw [e2] at b2; omega))
    rw [e2] at q1 q2 q3;intro c0 base;obtain ⟨τ, v', w', r1, r2, r3, r4⟩ := N6 hE hF (hO s (by simp)) hap z1 q1 q3 (q2.free hfree0) c0 base
    exact ⟨τ, v', w', r1, r2, r3, z3.trans (q2.trans r4 hfree0) hfree⟩
   ·exact Im hE hF (fun e he => hO e (by simp [he])) hx ha hr hwf hfree
  ·exact Im hE hF (fun e he => hO e (by simp [he])) hx ha hr hwf hfree
end Go.AE
namespace Go.AE
def EW [Facts] (E : Env) (s : AS) (f : Operand) (params : List Tmp) (assign body : Code) (k : List AI) : Option (FuncId × List AV × Aa × AF) :=
 match Nr s.fr s.h with
 | some (d, h1, mark) => match Af s.fr.tmps f with
  | .func fn first captured => match CV E fn captured (first ++ [.func (.yield h1.nx) [] []]) (h1.new (.loop .ready none s.fr.fn s.fr.nt s.fr.tmps params assign body d)) with
   | .enter g args _ => some (g, args, h1.new (.loop .ready none s.fr.fn s.fr.nt s.fr.tmps params assign body d), { s.fr with todo := .inRange h1.nx :: k, defers := mark ++ s.fr.defers })
   | _ => none
  | _ => none
 | none => none
variable [U : Unk]
section
variable {E : Env} (hE : OK E) {ρ : Ren} {w : World} {c : Frame} {ccs : List Frame} {s : AS}
include hE
theorem Na {base : List Frame} {fr0 : Frame} {w0 : World} {h h' : Aa} {sm : Sem Next} {g : FuncId} {args : List AV} {f : AF}
  (hst : (stepG E.P true { frame := fr0, callers := ccs ++ base, status := .running, dying := none } w0).bare = (stepG.apply E.P true c (ccs ++ base) none sm w).bare)
  (hd : Df E ρ h w sm (.enter g args h')) (hf : FrR ρ f c) : ∃ args' : List Value, VL ρ args args' ∧ step E.P (lone fr0 (ccs ++ base) w0) = .next (lone (Frame.enter E.P g args'.toArray .normal) (c :: (ccs ++ base)) w) := by
 obtain ⟨rfl, args', ha, hrun⟩ := hd;refine ⟨args', ha, step_lone_go ?_⟩;rw [hst];have ht := hf.todo;simp only [stepG.apply, Sem.runT_eq, hrun, if_true, GStep.bare_after, GStep.bare_go];generalize c.todo = td at ht;generalize f.todo = fd at ht;cases ht with
 | nil => rfl
 | cons a _ => cases a <;> rfl
 | rest =>
  generalize hq : U.R = r;cases r with
  | nil => rfl
  | cons x k => cases x <;> first | rfl | exact absurd hq (U.hR _ _ _ _ _)
theorem J2 (hsr : SR ρ s c ccs w) (hm : c.mode = .run) {fo : Operand} {params : Array Tmp} {assign body : Code} {k : List AI} {k' : List Item} (hk : IL ρ k k') (ht : c.todo = .code (.rangeFunc fo params assign body) :: k')
  {g : FuncId} {args : List AV} {h3 : Aa} {fr' : AF} (hx : EW E s fo params.toList assign body k = some (g, args, h3, fr')) (hfree : AN ρ s.h.nx h3.nx) (base : List Frame) :
  ∃ σ c' args' w1, step E.P (lone c (ccs ++ base) w) = .next (lone (Frame.enter E.P g args'.toArray .normal) (c' :: (ccs ++ base)) w1) ∧ VL σ args args' ∧ FrR σ fr' c' ∧ HR σ h3.blk.get w1 ∧ Ext ρ σ s.h h3 w w1 := by
 unfold EW at hx;split at hx
 ·rename_i d h1 mark hcoll;split at hx
  ·rename_i fn first captured hev;split at hx
   ·rename_i g2 args2 h32 hiv;cases hx;have hn1 : (h1.new (.loop .ready none s.fr.fn s.fr.nt s.fr.tmps params.toList assign body d)).nx = h1.nx + 1 := rfl;obtain ⟨σ, w1, bd, mark', q1, q2, q3, q4, q5⟩ := LZ (E := E) hsr.h hsr.fr hcoll (fun b h1 h2 => hfree b h1 (by simp only [hn1]; omega))
    have hfr := hsr.fr.mono q5.le;have hfree1 : σ h1.nx = none := (q5.free hfree) h1.nx (Nat.le_refl _) (by simp only [hn1]; omega)
    have hle := Ren.le_upd hfree1 ⟨w1.heap.size, 0, 0⟩;obtain ⟨p1, p2⟩ := q4.new hfree1 (.loop .ready none s.fr.fn s.fr.nt s.fr.tmps params.toList assign body d)
     (.loop { state := .ready, pending := none, fn := c.fn, tmps := c.tmps, params := params, assign := assign, body := body, defers := bd.cb }) 0
     ⟨c.tmps, bd, hle.m _ _ q2, hfr.tm.mono hle, by rw [hfr.fn]⟩
     { w1 with heap := w1.heap.push (.loop { state := .ready, pending := none, fn := c.fn, tmps := c.tmps, params := params, assign := assign, body := body, defers := bd.cb }) } rfl rfl rfl rfl
    have hu : (σ.upd h1.nx ⟨w1.heap.size, 0, 0⟩) h1.nx = some ⟨w1.heap.size, 0, 0⟩ := by simp [Ren.upd]
    have hrun : (Instr.enterLoop c.fn c.tmps params assign body c.roundOf).run E.P w = .ok (w1.heap.size, mark') { w1 with heap := w1.heap.push (.loop { state := .ready, pending := none, fn := c.fn, tmps := c.tmps, params := params, assign := assign, body := body, defers := bd.cb }) } := by
     cases hro : c.roundOf with
     | some l =>
      rw [hro] at q1;simp only [Ie, Sem.run_bind, Sem.run_pure] at q1;simp only [Instr.enterLoop, Sem.run_bind, Sem.run_pure, run_newObj, Result.andThen_ok];cases hG : (Instr.getLoop l).run E.P w with
      | ok a w2 =>
       rw [hG] at q1;simp only [Result.andThen_ok, Result.ok.injEq, Prod.mk.injEq] at q1 ⊢;obtain ⟨⟨e1, e2⟩, e3⟩ := q1;rw [e1, e2, e3];exact ⟨⟨rfl, rfl⟩, rfl⟩
      | halt x w2 => rw [hG] at q1; cases q1
     | none =>
      rw [hro] at q1;simp only [Ie, Sem.run_bind, Sem.run_pure, run_newObj, Result.andThen_ok, Result.ok.injEq, Prod.mk.injEq] at q1;obtain ⟨⟨e1, e2⟩, e3⟩ := q1;simp only [Instr.enterLoop, Sem.run_bind, Sem.run_pure, run_newObj, Result.andThen_ok];rw [← e1, ← e2, ← e3]
    have hf2 := hfr.mono hle;have hv := hf2.evR fo;rw [hev] at hv;generalize hcv : c.eval fo = cv at hv;cases hv with
    | func _ fn' _ _ f' c' r1 r2 r3 r4 r5 =>
     have ha : VL (σ.upd h1.nx ⟨w1.heap.size, 0, 0⟩) (first ++ [.func (.yield h1.nx) [] []]) (f' ++ [.func (.yield w1.heap.size) #[] #[]]) :=
      VL.append ⟨r2, r3⟩ (VL.cons (.func _ _ [] [] [] [] ⟨_, hu, rfl⟩ rfl (by simp) rfl (by simp)) (VL.nil _))
     have hdoes := C1 hE p1 r1 ⟨r4, r5⟩ ha;rw [hiv] at hdoes
     have hfrr : FrR (σ.upd h1.nx ⟨w1.heap.size, 0, 0⟩) { s.fr with todo := .inRange h1.nx :: k, defers := mark ++ s.fr.defers } { c with todo := .inRangeFunc w1.heap.size :: k', defers := mark' ++ c.defers } :=
      ⟨hf2.fn, hf2.tm, .cons (.inRange _ _ hu) ((hk.mono q5.le).mono hle), (q3.mono hle).append hf2.defers, hf2.mode, hf2.kind, hf2.round⟩
     obtain ⟨args', e1, e2⟩ := Na hE (base := base) (c := { c with todo := .inRangeFunc w1.heap.size :: k', defers := mark' ++ c.defers })
      (f := { s.fr with todo := .inRange h1.nx :: k, defers := mark ++ s.fr.defers }) (Ho hm ht hrun) (hdoes.congr (by
       have hcv2 : c.eval (.const (.func (.yield w1.heap.size) #[] #[])) = .func (.yield w1.heap.size) #[] #[] := rfl;simp [resolve, hcv, hcv2, Deferred.ofValue])) hfrr
     exact ⟨_, _, args', _, e2, e1, hfrr, p1, q5.trans p2 hfree⟩
   ·cases hx
  ·cases hx
 ·cases hx
end
end Go.AE
namespace Go.AE
def K7 : List Orc → FuncId → List AV → Aa → Option (Bool × AV × Aa)
 | [], _, _, _ => none
 | e :: r, f, args, h => match Nat.beq e.f f && Nat.beq e.nx h.nx && Fi e.args args && MN e.part h.blk with
  | true => some (e.ok, e.v, AZ h { blk := e.out, nx := e.nx', log := e.wr })
  | false => K7 r f args h
def H9 [Facts] (E : Env) (f : FuncId) (args : List AV) (h : Aa) : Option (Bool × AV × Aa) :=
 match K7 E.orc f args h with
 | some r => some r
 | none => match JE E E.sms f args h with
  | some (v, g) => some (true, v, g)
  | none => none
def Np (h : Aa) : AV → AV
 | .slice b 0 n es => match h.blk.get b with
  | some (.arr _ _) => .asl b es (.c n) (.bc false)
  | _ => .slice b 0 n es
 | x => x
def SQ (h : Aa) : AV → Bool
 | .slice b 0 _ _ => match h.blk.get b with
  | some (.arr _ _) => true
  | _ => false
 | _ => false
def T.anyA {α : Type} (f : α → Bool) : T α → Bool
 | .nil => false
 | .node v l r => (match v with | some x => f x | none => false) || l.anyA f || r.anyA f
def QF (h : Aa) (fr : AF) : AF := match fr.tmps.anyA (SQ h) with
 | true => { fr with tmps := fr.tmps.mapA (Np h) }
 | false => fr
def Qm [Facts] (E : Env) (s : AS) (all : Array Oper) (o : Oper) (r : List Oper) : Option AS :=
 match o.op, r, o.dst with
 | .slice t x (some lo) none none, o2 :: _, some d => match o2.op with
  | .call c => match c.callee, c.argTypes.toList, c.args.toList with
   | .builtin .clear, [t1], [.tmp d'] => match Af s.fr.tmps x, toI (Af s.fr.tmps lo) with
    | .asl b es n nl, some (_, l) => match E.desc t, E.desc t1, s.h.blk.get b with
     | some (.slice e), some (.slice e1), some (.arr e2 y) => match E.zero e, E.kinds e with
      | some z, some ks => match Nat.beq d d' && (Nat.beq e e1 && (Nat.beq e e2 && (Nat.beq z.cells.length es && (Nat.beq es ks.length && (C6 z.cells && (E.szIs e es && (Da n y && inB l n n))))))) with
       | true => match Cg all o s.fr.tmps, BT s.fr .top with
        | some true, some fr1 => match Cg all o2 fr1.tmps, BT fr1 .top with
         | some true, some fr2 => some { s with fr := fr2, h := s.h.put b (.arr e (.sub y (.c 0) l)) }
         | _, _ => none
        | _, _ => none
       | false => none
      | _, _ => none
     | _, _, _ => none
    | _, _ => none
   | _, _, _ => none
  | _ => none
 | _, _, _ => none
def Qn [Facts] (t : T AV) : List Tmp → Option (Tmp × AV)
 | [] => none
 | i :: r => match t.get i with
  | some (.nmap b nl) => match Ql (.nmap b nl) with
   | .nmap _ _ => Qn t r
   | v => some (i, v)
  | _ => Qn t r
def S6 [Facts] (s : AS) : Option AS := match s.fr.todo with
 | .ops all (o :: _) :: _ => match Qn s.fr.tmps (BI all o) with
  | some (i, v) => some { s with fr := { s.fr with tmps := s.fr.tmps.set i v } }
  | none => none
 | _ => none
def P7 [Facts] (E : Env) (s : AS) : Option AS :=
  match E.orc.isEmpty && E.sms.isEmpty with
  | true => none
  | false => match s.fr.mode with
    | .run => match s.fr.todo with
      | .ops all (o :: r) :: _ => match Qm E s all o r with
       | some s' => some s'
       | none => match IU o.op with
        | false => match Cg all o s.fr.tmps with
          | some true => match aop E s.fr.tmps s.h o.op with
            | .enter g args _ => match H9 E g args s.h with
              | some (true, v, h) => match BT s.fr v with
                | some fr => some { s with fr := QF h fr, h }
                | none => none
              | _ => none
            | _ => none
          | _ => none
        | true => none
      | .code (.rangeFunc f params assign body) :: k => match EW E s f params.toList assign body k with
        | some (g, args, h3, fr') => match H9 E g args h3 with
          | some (true, v, h) => match Nat.ble h3.nx h.nx, BT fr' v with
            | true, some fr => some { s with fr := QF h fr, h }
            | _, _ => none
          | _ => none
        | none => none
      | _ => none
    | _ => none
def OY [Facts] (E : Env) (s : AS) : Option AS := match S6 s with
 | some s' => some s'
 | none => P7 E s
def Nw (n : Nat) : List Out → Option (List AS)
 | [] => some []
 | .next s :: r => match Nat.beq s.h.nx n, Nw n r with
  | true, some l => some (s :: l)
  | _, _ => none
 | _ => none
def Px [U : Facts] (E : Env) (s : AS) : Option (List AS) :=
 match s.fr.mode, s.fr.todo with
 | .run, .ops all (o :: _) :: _ => match Cg all o s.fr.tmps with
  | some true => match o.op with
   | .next it false => match KU (Af s.fr.tmps it) s.h with
    | some l => Nw s.h.nx (l.map fun p => Br E s.fr s.cs (.val p.1 p.2))
    | none => none
   | _ => none
  | _ => none
 | _, _ => none
def QY (ok : Bool) (v : AV) (n : Nat) : List (Option (Bool × AV × Aa)) → Bool
 | [] => true
 | some (ok', v', h') :: r => (ok' == ok) && A5 v' v && Nat.beq h'.nx n && QY ok v n r
 | none :: _ => false
def JT (h : Aa) : Nat → List Nat
 | 0 => []
 | n + 1 => match h.blk.get n with
  | some _ => n :: JT h n
  | none => JT h n
def P3 (s : AS) : List (Option (Bool × AV × Aa)) → Option (Bool × AV × Aa)
 | some (ok, v, h) :: r => match QY ok v h.nx r && Nat.ble s.h.nx h.nx with
  | true => some (ok, v, { blk := .nil, nx := h.nx, log := JT s.h s.h.nx ++ s.h.log })
  | false => none
 | _ => none
def Eg [Facts] (E : Env) : Nat → FuncId → Bool → AS → Option (Bool × AV × Aa)
  | 0, _, _, _ => none
  | f + 1, f0, rd, s => match OY E s with
   | some s' => (match Nat.ble s.h.nx s'.h.nx with
     | true => Eg E f f0 rd s'
     | false => none)
   | none => match EO E s with
    | .next s' => match Nat.ble s.h.nx s'.h.nx with
      | true => Eg E f f0 rd s'
      | false => none
    | .done ok v h => match Nat.ble s.h.nx h.nx && Nat.beq s.fr.fn f0 && (rd || s.fr.round.isNone) with
      | true => some (ok, v, h)
      | false => none
    | .draw s ops k =>
      match Cd E (fun a h => match a with
        | .enter g args => match H9 E g args h with
          | some r => some r
          | none => match A9 E g args .normal with
            | some fr => Eg E f fr.fn true { fr, cs := [], h }
            | none => none
        | .round l args => match EG l args h with
          | some fr => Eg E f fr.fn true { fr, cs := [], h }
          | none => none) ops s.fr.nt ops.toList [] s.fr.tmps s.h with
      | some (none, tmps, h) => Eg E f f0 rd { s with fr := { s.fr with tmps, todo := k }, h }
      | some (some v, tmps, h) => Eg E f f0 rd { s with fr := { s.fr with tmps, todo := .dead :: k, mode := .panic [(v, false)] }, h }
      | none => none
    | .bad _ => match Px E s with
      | some l => P3 s (l.map fun s' => Eg E f f0 rd s')
      | none => none
def RC [Facts] (E : Env) (n : Nat) (f : FuncId) (args : List AV) (h : Aa) : Option (Bool × AV × Aa) :=
 match A9 E f args .normal with
 | some fr => Eg E n f false { fr, cs := [], h }
 | none => none
def Ap [Facts] (E : Env) (N : Nat) (e : Orc) : Bool :=
 match RC E N e.f e.args { blk := e.part, nx := e.nx, log := [] } with
 | some (ok, v, g) => (ok == e.ok) && A5 v e.v && MN e.out g.blk && Nat.beq g.nx e.nx' && Re e.nx e.wr g.log
 | none => false
section
variable [U : Unk] {E : Env} (hE : OK E) {ρ : Ren} {h : Aa} {w : World}
include hE
theorem Ru (hr : HR ρ h.blk.get w) {t t1 ty e : TypeId} {ks : List Kd} {z : AV} {b es : Nat} {n nl y l : SE} {xv lov : Value} {kd : IntKind} (hd : E.desc t = some (.slice e)) (hd1 : E.desc t1 = some (.slice e)) (hz : E.zero e = some z) (hk : E.kinds e = some ks)
  (hzl : z.cells.length = es) (hks : es = ks.length) (hza : C6 z.cells = true) (hx : VR ρ (.asl b es n nl) xv) (hb : h.blk.get b = some (.arr e y)) (hs : E.szIs e es = true) (hn : Da n y = true) (hlo : lov = .int kd (Ac U.V l)) (hin : inB l n n = true) :
  ∃ v w', (Instr.sliceAt t xv (some lov) none none).run E.P w = .ok v w ∧ (Builtin.clear_ #[t1] ty #[v]).run E.P w = .ok (.tuple #[]) w' ∧ HR ρ (h.put b (.arr e (.sub y (.c 0) l))).blk.get w' ∧ Ext ρ ρ h (h.put b (.arr e (.sub y (.c 0) l))) w w' := by
 obtain ⟨b0, b1, b2⟩ := GS hin;have hfl := DY hn;have hu := hE.run_und hd (w := w);have hu1 := hE.run_und hd1 (w := w);have e0 : Ac U.V (.c 0) = 0 := rfl
 have hrl : (Ab U.V (.sub y (.c 0) l)).rows.length = (Ac U.V l).toNat := by
  rw [C4, e0];rw [Ah] at hfl;simp;omega
 have key : ∀ i, i < (Ac U.V l).toNat → (Ab U.V (.sub y (.c 0) l)).rows.getD i default = (Ab U.V y).rows.getD i default := by
  intro i hi;rw [C4, e0, H6 (by simpa using hi)]
  congr 1
  simp
 have rows : ∀ {ks' : List Kd} {co : Nat} {cur cur' : Array Value}, AU U.K ρ.imm ks' cur co (Ab U.V y).rows → cur'.size = cur.size → (∀ j, j < co + (Ac U.V l).toNat * ks'.length → cur'.getD j Go.undef = cur.getD j Go.undef) → AU U.K ρ.imm ks' cur' co (Ab U.V (.sub y (.c 0) l)).rows := by
  intro ks' co cur cur' hR hsz hc;rw [Ah] at hfl;have hle : (Ac U.V l).toNat ≤ (Ab U.V y).rows.length := by omega
  refine ⟨?_, fun i hi => ?_, fun i j kd hi hj => ?_⟩
  ·rw [hrl, hsz];have := hR.1;have := Nat.mul_le_mul_right ks'.length hle;omega
  ·rw [hrl] at hi;rw [key i hi];exact hR.2.1 i (by omega)
  ·rw [hrl] at hi;rw [key i hi, hc]
   ·exact hR.2.2 i j kd (by omega) hj
   ·have hjl : j < ks'.length := (List.getElem?_eq_some_iff.1 hj).1;have : (i + 1) * ks'.length ≤ (Ac U.V l).toNat * ks'.length := Nat.mul_le_mul_right _ (by omega)
    rw [Nat.add_mul, Nat.one_mul] at this;omega
 have still : HR ρ (h.put b (.arr e (.sub y (.c 0) l))).blk.get w ∧ Ext ρ ρ h (h.put b (.arr e (.sub y (.c 0) l))) w w := by
  refine hr.swap (by rw [hb]; exact Option.some_ne_none _) _ fun base hρ => ?_
  obtain ⟨ks', cur, et, fz, q1, q2, q3, q4, q5⟩ := hr.blk b base _ hρ hb;exact ⟨ks', cur, et, fz, q1, q2, q3, q4, rows q5 rfl fun _ _ => rfl⟩
 have p1 : (some lov = none ∧ l = .c 0) ∨ ∃ k, some lov = some (.int k (Ac U.V l)) := .inr ⟨kd, by rw [hlo]⟩
 cases hx with
 | aslEnd _ _ _ _ ad q0 qn =>
  have hl0 : Ac U.V l = 0 := by omega
  have q := E9 (P := E.P) (w := w) (b := true) (len := 0) (cap := 0) (u := n) (du := n) (hi' := none) (dl := .c 0) p1 (.inl ⟨rfl, rfl⟩) rfl (by rw [q0]; rfl) b0 b1 (by rw [q0]; exact Int.le_refl _) (Nat.le_refl _)
  rw [hl0, q0] at q;refine ⟨.slice ad 0 0, w, ?_, ?_, still.1, still.2⟩
  ·simp [Instr.sliceAt, Instr.slice, hu, q, hE.run_szIs hs]
  ·cases ad <;> simp [Builtin.clear_, hu1]
 | asl _ _ _ _ cap base hρ q0 qc qz qn =>
  have q := E9 (P := E.P) (w := w) (b := true) (len := (Ac U.V n).toNat) (cap := cap) (u := n) (du := n) (hi' := none) (dl := .c 0) p1 (.inl ⟨rfl, rfl⟩) rfl (by omega) b0 b1 (by omega) qc
  generalize hL : (Ac U.V l).toNat = L at *;generalize hN : (Ac U.V n).toNat = N at *;have hLN : L ≤ N := by omega
  have hrun : (Instr.sliceAt t (.slice (some ⟨base.cb, base.co, none⟩) N cap) (some lov) none none).run E.P w = .ok (.slice (if cap = L then some ⟨base.cb, base.co, none⟩ else some ⟨base.cb, base.co + L * es, none⟩) (N - L) (cap - L)) w := by
   simp [Instr.sliceAt, Instr.slice, hu, q, hE.run_szIs hs, Bx]
  by_cases hc : N - L = 0
  ·rw [hc] at hrun;refine ⟨_, w, hrun, ?_, still.1, still.2⟩;split <;> simp [Builtin.clear_, hu1]
  ·have hcap : cap ≠ L := by omega
   rw [if_neg hcap] at hrun;obtain ⟨ks', cur, et, fz, q1, q2, q3, q4, q5⟩ := hr.blk b base _ hρ hb;have hk2 : U.K e = some ks := by rw [hE.kd, ← hE.ke]; exact hk
   rw [hk2] at q1;cases q1;obtain ⟨zv, z1, z2⟩ := hE.run_zero ρ hz w;have zc := (Ax ρ z2).cells (A1 z2);have hzs : zv.cells.size = es := by have := zc.1; simp at this; omega
   have hone : ∀ v ∈ (Builtin.zeroCells zv.cells (N - L)).toList, v.oneCell' = true := by
    intro v hv;have hm := Fq hza zc;rw [Builtin.zeroCells] at hv;simp only [Array.toList_map, Array.toList_range, List.mem_map, List.mem_range] at hv;obtain ⟨i, hi, rfl⟩ := hv
    have hpos : 0 < zv.cells.size := by
     rcases Nat.eq_zero_or_pos zv.cells.size with c | c
     ·rw [c] at hi; simp at hi
     ·exact c
    have hlt : i % zv.cells.size < zv.cells.size := Nat.mod_lt _ hpos;have : zv.cells[i % zv.cells.size]! = zv.cells[i % zv.cells.size] := by simp [hlt]
    rw [this];exact hm _ (by simp)
   have hlen : (Builtin.zeroCells zv.cells (N - L)).toList.length = (N - L) * es := by
    rw [Builtin.zeroCells, hzs]; simp
   have hfit : base.co + L * es + (N - L) * es ≤ cur.size := by
    have e1 : L * es + (N - L) * es = N * es := by rw [← Nat.add_mul]; congr 1; omega
    have e2 : N * es ≤ cap * es := Nat.mul_le_mul_right _ (by omega)
    omega
   obtain ⟨w', cur', r1, r2, r3, r4, r5, r6, r7, r8, r9⟩ := Bv E.P base.cb (base.co + L * es) et fz (Builtin.zeroCells zv.cells (N - L)).toList 0 w cur q2 (by rw [hlen]; omega) (by rw [q3]; exact q4) hone
   refine ⟨_, w', hrun, ?_, ?_⟩
   ·obtain ⟨m, hm⟩ := Nat.exists_eq_succ_of_ne_zero hc;rw [hm] at r1 ⊢;simp [Builtin.clear_, hu1, z1, r1]
   ·refine hr.put hρ (by rw [hb]; simp) _ w' ?_ r5 r6 r7 r8 r9
    refine ⟨ks, cur', et, fz, hk2, r2, by rw [r3, q3], q4, rows q5 r3 fun j hj => ?_⟩
    rw [Array.getD_eq_getD_getElem?, Array.getD_eq_getD_getElem?, r4 j, if_neg (by rw [← hks] at hj; omega)]
end
end Go.AE

