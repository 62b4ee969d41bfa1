/- What is proved here: an evaluator of the model's steps that the kernel can run, and that whatever it answers is what the model does (part 2 of 6: AeOps4, AeOps5, AeOps6, AeOps7, AeOps8, AeOps9, AeOps10, AeOps11, AeSym, AeOps12, AeOps13, AeOps14, AeOps15, AeOps16, AeOps17). Conditions: those that each theorem states; they hold of no one program. -/
import Derived.Test.YthkffgljlhjggaaGreatBeA
import Derived.IntWalk
import Derived.Laws.Append
import Derived.Laws.AppendOwn
import Derived.Laws.StructEq
import Derived.ChangeKeysEq
import Derived.Laws.Closers25b
import Derived.Laws.BytesString
set_option linter.unusedVariables false
set_option linter.unusedSectionVars false
set_option linter.unusedSimpArgs false
namespace Go.AE
variable [U : Unk]
section
variable {E : Env} (hE : OK E) {ρ : Ren} {h : Aa} {w : World}
include hE
omit hE in
theorem Es {len cap : Nat} {lo hi mx : Option AV} {lo' hi' mx' : Option Value} {l hh : Nat} (P : Program) (w : World) (isSlice : Bool)
  (hlo : ∀ a, lo = some a → ∃ v, lo' = some v ∧ VR ρ a v) (hlo0 : lo = none → lo' = none)
  (hhi : ∀ a, hi = some a → ∃ v, hi' = some v ∧ VR ρ a v) (hhi0 : hi = none → hi' = none)
  (hmx : ∀ a, mx = some a → ∃ v, mx' = some v ∧ VR ρ a v) (hmx0 : mx = none → mx' = none)
  (hmh : mx ≠ none → hi ≠ none) (hc : len ≤ cap)
  (hb : Dl len lo hi mx = some (l, hh)) : ∃ m, (Instr.sliceBounds isSlice len cap lo' hi' mx').run P w = .ok (l, hh, m) w ∧ l ≤ hh ∧ hh ≤ m ∧ m ≤ cap ∧ hh ≤ len := by
 unfold Dl at hb
 have getb : ∀ (o : Option AV) (o' : Option Value) (d k : Nat), (∀ a, o = some a → ∃ v, o' = some v ∧ VR ρ a v) → (o = none → o' = none) → Gd o d = some k → (o = none ∧ o' = none ∧ k = d) ∨ (o ≠ none ∧ ∃ kd, o' = some (.int kd (k : Int))) := by
  intro o o' d k h1 h2 h3;cases o with
  | none => simp [Gd] at h3; exact .inl ⟨rfl, h2 rfl, h3.symm⟩
  | some a =>
   obtain ⟨v, hv, hvr⟩ := h1 a rfl;simp only [Gd] at h3;obtain ⟨kd, rfl⟩ := Cv hvr h3;exact .inr ⟨by simp, kd, hv⟩
 cases hm : Gd mx len with
 | none => simp [hm] at hb
 | some m =>
  simp only [hm] at hb;cases h1 : Gd hi len with
  | none => simp [h1] at hb
  | some H =>
   cases h2 : Gd lo 0 with
   | none => simp [h1, h2] at hb
   | some L =>
    simp only [h1, h2] at hb;cases hcc : (Nat.ble L H && Nat.ble H m && Nat.ble m len) with
    | false => simp [hcc] at hb
    | true =>
     simp only [hcc, Option.some.injEq, Prod.mk.injEq] at hb;obtain ⟨rfl, rfl⟩ := hb;obtain ⟨c12, c3⟩ := Av hcc;obtain ⟨c1, c2⟩ := Av c12;have b1 := Dh c1;have b2 := Dh c2;have b3 := Dh c3
     have I8 : ∀ (kd : IntKind) (x y : Nat) (code : BoundsCode), x ≤ y → (Instr.sliceBound (.int kd (x : Int)) y code).run P w = .ok x w := by
      intro kd x y code hxy;simp [Instr.sliceBound, asIntOf, hxy]
     rcases getb mx mx' len m hmx hmx0 hm with ⟨e1, e2, e3⟩ | ⟨e1, kd1, e2⟩
     ·subst e1; subst e2; subst e3;rcases getb hi hi' m H hhi hhi0 h1 with ⟨f1, f2, f3⟩ | ⟨f1, kd2, f2⟩
      ·subst f2;rcases getb lo lo' 0 L hlo hlo0 h2 with ⟨g1, g2, g3⟩ | ⟨g1, kd3, g2⟩
       ·subst g2; subst g3; subst f3;exact ⟨cap, by simp [Instr.sliceBounds], by omega, by omega, by omega, by omega⟩
       ·subst g2; subst f3;exact ⟨cap, by simp [Instr.sliceBounds, I8 _ _ _ _ b1], by omega, by omega, by omega, by omega⟩
      ·subst f2;rcases getb lo lo' 0 L hlo hlo0 h2 with ⟨g1, g2, g3⟩ | ⟨g1, kd3, g2⟩
       ·subst g2; subst g3;exact ⟨cap, by simp [Instr.sliceBounds, I8 _ H cap _ (by omega)], by omega, by omega, by omega, by omega⟩
       ·subst g2;exact ⟨cap, by simp [Instr.sliceBounds, I8 _ H cap _ (by omega), I8 _ L H _ b1], by omega, by omega, by omega, by omega⟩
     ·subst e2;rcases getb hi hi' len H hhi hhi0 h1 with ⟨f1, f2, f3⟩ | ⟨f1, kd2, f2⟩
      ·exact absurd f1 (hmh e1)
      ·subst f2;rcases getb lo lo' 0 L hlo hlo0 h2 with ⟨g1, g2, g3⟩ | ⟨g1, kd3, g2⟩
       ·subst g2; subst g3;exact ⟨m, by simp [Instr.sliceBounds, I8 _ m cap _ (by omega), I8 _ H m _ b2], by omega, by omega, by omega, by omega⟩
       ·subst g2;exact ⟨m, by simp [Instr.sliceBounds, I8 _ m cap _ (by omega), I8 _ H m _ b2, I8 _ L H _ b1], by omega, by omega, by omega, by omega⟩
theorem TO (hr : HR ρ h.blk.get w) {t : TypeId} {x a : AV} {xv : Value} {lo hi mx : Option AV} {lo' hi' mx' : Option Value} (hx : VR ρ x xv)
  (hlo : ∀ a, lo = some a → ∃ v, lo' = some v ∧ VR ρ a v) (hlo0 : lo = none → lo' = none)
  (hhi : ∀ a, hi = some a → ∃ v, hi' = some v ∧ VR ρ a v) (hhi0 : hi = none → hi' = none)
  (hmx : ∀ a, mx = some a → ∃ v, mx' = some v ∧ VR ρ a v) (hmx0 : mx = none → mx' = none)
  (hmh : mx ≠ none → hi ≠ none)
  (hl : Ry E t x lo hi mx h = some a) : ∃ v, (Instr.sliceAt t xv lo' hi' mx').run E.P w = .ok v w ∧ VR ρ a v := by
 unfold Ry at hl;cases hd : E.desc t with
 | none => simp [hd] at hl
 | some d =>
  cases d with
  | string =>
   cases hx with
   | str s =>
    simp only [hd] at hl;cases mx with
    | some m => simp at hl
    | none =>
     simp only [] at hl;cases hb : Dl s.data.toList.length lo hi none with
     | none => simp only [hb] at hl; cases hl
     | some p =>
      obtain ⟨L, H⟩ := p;simp only [hb, Option.some.injEq] at hl;subst hl;obtain ⟨m, q1, q2, q3, q4, q5⟩ := Es E.P w false hlo hlo0 hhi hhi0 hmx hmx0 hmh (Nat.le_refl _) hb;have e0 := hmx0 rfl;subst e0;have hsz : s.size = s.data.toList.length := by simp
      rw [Mt q2 q5]
      have hx : (s.extract L H).data.toList = (s.data.toList.drop L).take (H - L) := by
       simp [ByteArray.data_extract]
      have hlen : H - L = ((s.data.toList.drop L).take (H - L)).length := by simp; omega
      refine ⟨.string (s.extract L H), ?_, ?_⟩
      ·simp only [Instr.sliceAt, Sem.run_bind, hE.run_und hd, Result.andThen_ok, Instr.slice];rw [← hsz] at q1;simp [q1]
      ·have := VR.str (ρ := ρ) (s.extract L H);rw [hx] at this;rw [← hlen] at this;exact this
   | _ => simp [hd] at hl
  | slice e =>
   cases hx with
   | slice0 =>
    simp only [hd] at hl;cases hb : Dl 0 lo hi mx with
    | none => simp [hb] at hl
    | some p =>
     obtain ⟨L, H⟩ := p;cases hs : E.has e with
     | false => simp [hb, hs] at hl
     | true =>
      simp only [hb, hs, Option.some.injEq] at hl;subst hl;obtain ⟨m, q1, q2, q3, q4, q5⟩ := Es E.P w true hlo hlo0 hhi hhi0 hmx hmx0 hmh (Nat.le_refl 0) hb;have : L = 0 ∧ H = 0 ∧ m = 0 := by omega
      obtain ⟨rfl, rfl, rfl⟩ := this;exact ⟨.slice none 0 0, by simp [Instr.sliceAt, Instr.slice, hE.run_und hd, q1, hE.run_has hs], .slice0⟩
   | slice b off len es cap base hb2 hc hz =>
    simp only [hd] at hl;cases hb : Dl len lo hi mx with
    | none => simp [hb] at hl
    | some p =>
     obtain ⟨L, H⟩ := p;simp only [hb] at hl;cases hs : E.szIs e es with
     | false => simp [hs] at hl
     | true =>
      simp only [hs, Option.some.injEq] at hl;subst hl;obtain ⟨m, q1, q2, q3, q4, q5⟩ := Es E.P w true hlo hlo0 hhi hhi0 hmx hmx0 hmh hc hb;by_cases hml : m = L
      ·have : H = L := by omega
       subst this;subst hml;refine ⟨.slice (some ⟨base.cb, base.co + off, none⟩) 0 0, ?_, ?_⟩
       ·simp [Instr.sliceAt, Instr.slice, hE.run_und hd, q1, hE.run_szIs hs]
       ·rw [Nat.sub_self]; exact .sliceEnd _ _ _ _
      ·refine ⟨.slice (some ⟨base.cb, base.co + (off + L * es), none⟩) (H - L) (m - L), ?_, ?_⟩
       ·simp [Instr.sliceAt, Instr.slice, hE.run_und hd, q1, hE.run_szIs hs, hml, Cl, Nat.add_assoc]
       ·refine .slice b _ _ es _ base hb2 (by omega) ?_
        have h1 : L * es + (m - L) * es = m * es := by rw [← Nat.add_mul]; congr 1; omega
        have h2 : m * es ≤ cap * es := Nat.mul_le_mul_right _ q4;omega
   | sliceEnd b off es a =>
    simp only [hd] at hl;cases hb : Dl 0 lo hi mx with
    | none => simp [hb] at hl
    | some p =>
     obtain ⟨L, H⟩ := p;simp only [hb] at hl;cases hs : E.szIs e es with
     | false => simp [hs] at hl
     | true =>
      simp only [hs, Option.some.injEq] at hl;subst hl;obtain ⟨m, q1, q2, q3, q4, q5⟩ := Es E.P w true hlo hlo0 hhi hhi0 hmx hmx0 hmh (Nat.le_refl 0) hb;have : L = 0 ∧ H = 0 ∧ m = 0 := by omega
      obtain ⟨rfl, rfl, rfl⟩ := this;refine ⟨.slice (some a) 0 0, ?_, ?_⟩
      ·simp [Instr.sliceAt, Instr.slice, hE.run_und hd, q1, hE.run_szIs hs]
      ·rw [Nat.sub_self]; exact .sliceEnd _ _ _ _
   | _ => simp [hd] at hl
  | array n e =>
   cases hx with
   | ptr b off base hb2 =>
    simp only [hd] at hl;cases hb : Dl n lo hi mx with
    | none => simp [hb] at hl
    | some p =>
     obtain ⟨L, H⟩ := p;cases hs : E.has e with
     | false => simp [hb, hs] at hl
     | true =>
      cases hg : h.blk.get b with
      | none => simp [hb, hs, hg] at hl
      | some y =>
       cases y with
       | cells sz c =>
        simp only [hb, hs, hg] at hl;cases hq : Nat.ble (off + n * E.size e) sz with
        | false => simp [hq] at hl
        | true =>
         simp only [hq, Option.some.injEq] at hl;subst hl;have hq' := Dh hq;obtain ⟨cur, e1, fz, h1, h2, h3, h4, h5⟩ := hr.blk b base _ hb2 hg;obtain ⟨m, q1, q2, q3, q4, q5⟩ := Es E.P w false hlo hlo0 hhi hhi0 hmx hmx0 hmh (Nat.le_refl n) hb;by_cases hml : m = L
         ·have : H = L := by omega
          subst this;subst hml;refine ⟨.slice (some ⟨base.cb, base.co + off, none⟩) 0 0, ?_, ?_⟩
          ·simp [Instr.sliceAt, Instr.sureAddr, hE.run_und hd, q1, hE.run_has hs]
          ·rw [Nat.sub_self]; exact .sliceEnd _ _ _ _
         ·refine ⟨.slice (some ⟨base.cb, base.co + (off + L * E.size e), none⟩) (H - L) (m - L), ?_, ?_⟩
          ·simp [Instr.sliceAt, Instr.sureAddr, hE.run_und hd, q1, hE.run_has hs, hml, Cl, Nat.add_assoc]
          ·refine .slice b _ _ _ _ base hb2 (by omega) ?_
           have g1 : L * E.size e + (m - L) * E.size e = m * E.size e := by rw [← Nat.add_mul]; congr 1; omega
           have g2 : m * E.size e ≤ n * E.size e := Nat.mul_le_mul_right _ q4;omega
       | _ => simp [hb, hs, hg] at hl
   | _ => simp [hd] at hl
  | _ => cases hx <;> simp [hd] at hl
end
end Go.AE
namespace Go.AE
variable [U : Unk]
def Ur {α : Type} (l : List α) (off : Nat) (r l2 : List α) : Prop := l2.length = l.length ∧ ∀ j, l2[j]? = if off ≤ j ∧ j < off + r.length then r[j - off]? else l[j]?
theorem Fh : ∀ (l : List AV) (off : Nat) (r : List AV), off + r.length ≤ l.length → Ur l off r (AX l off r) := by
 intro l
 induction l with
 | nil =>
  intro off r h;have : r = [] := List.eq_nil_of_length_eq_zero (by simp only [List.length_nil] at h; omega)
  subst this;exact ⟨by simp [AX], fun j => by simp [AX]⟩
 | cons x l ih =>
  intro off r h;cases r with
  | nil => exact ⟨by simp [AX], fun j => by rw [if_neg (by simp)]; simp [AX]⟩
  | cons v r =>
   simp only [List.length_cons] at h;cases off with
   | zero =>
    obtain ⟨h1, h2⟩ := ih 0 r (by omega)
    refine ⟨by simp [AX, h1], fun j => ?_⟩
    cases j with
    | zero => simp [AX]
    | succ j =>
     simp only [AX, List.getElem?_cons_succ, h2 j, List.length_cons, Nat.zero_add, Nat.zero_le, true_and, Nat.sub_zero];by_cases c : j < r.length
     ·rw [if_pos c, if_pos (by omega)]
     ·rw [if_neg c, if_neg (by omega)]
   | succ off =>
    obtain ⟨h1, h2⟩ := ih off (v :: r) (by simp; omega)
    refine ⟨by simp [AX, h1], fun j => ?_⟩
    cases j with
    | zero => rw [if_neg (by omega)]; simp [AX]
    | succ j =>
     simp only [AX, List.getElem?_cons_succ, h2 j, List.length_cons];by_cases c : off ≤ j ∧ j < off + (r.length + 1)
     ·rw [if_pos c, if_pos (by omega)]; congr 1; omega
     ·rw [if_neg c, if_neg (by omega)]
theorem Q6 (off : Nat) : ∀ (r : List Value) (k : Nat) (cs : Array Value), off + k + r.length ≤ cs.size →
  Ur cs.toList (off + k) r ((r.zipIdx k).foldl (fun cs (p : Value × Nat) => cs.setIfInBounds (off + p.2) p.1) cs).toList := by
 intro r
 induction r with
 | nil => intro k cs h; exact ⟨rfl, fun j => by rw [if_neg (by simp)]; rfl⟩
 | cons v r ih =>
  intro k cs h;simp only [List.length_cons] at h;simp only [List.zipIdx_cons, List.foldl_cons];obtain ⟨h1, h2⟩ := ih (k + 1) (cs.setIfInBounds (off + k) v) (by simp; omega)
  refine ⟨by rw [h1]; simp, fun j => ?_⟩
  rw [h2 j];simp only [List.length_cons];by_cases c1 : off + (k + 1) ≤ j ∧ j < off + (k + 1) + r.length
  ·rw [if_pos c1, if_pos (by omega)]
   have : j - (off + k) = (j - (off + (k + 1))) + 1 := by omega
   rw [this, List.getElem?_cons_succ]
  ·rw [if_neg c1];by_cases c2 : j = off + k
   ·subst c2;rw [if_pos (by omega)]
    have : off + k < cs.size := by omega
    simp [this]
   ·rw [if_neg (by omega)]
    simp only [Array.getElem?_toList];rw [Array.getElem?_setIfInBounds_ne (fun e => c2 e.symm)]
theorem Ur.vl {ρ : Ren} {l r l2 : List AV} {l' r' l2' : List Value} {off : Nat} (h : Ur l off r l2) (h' : Ur l' off r' l2') (hl : VL ρ l l') (hr : VL ρ r r') : VL ρ l2 l2' := by
 refine ⟨by rw [h.1, h'.1, hl.1], fun i a v ha hv => ?_⟩
 rw [h.2 i] at ha;rw [h'.2 i, ← hr.1] at hv;by_cases c : off ≤ i ∧ i < off + r.length
 ·rw [if_pos c] at ha hv; exact hr.2 _ a v ha hv
 ·rw [if_neg c] at ha hv; exact hl.2 _ a v ha hv
def PL (ρ : Ren) : List (Nat × AV) → List (Nat × Value) → Prop
 | [], [] => True
 | (i, a) :: r, (j, v) :: r' => i = j ∧ VR ρ a v ∧ PL ρ r r'
 | _, _ => False
theorem If {ρ : Ren} {place : Nat → Option (Nat × Nat)} : ∀ {ps : List (Nat × AV)} {ps' : List (Nat × Value)} {cells out : List AV} {cells' : Array Value}, PL ρ ps ps' → VL ρ cells cells'.toList →
  Fs place cells ps = some out → ∃ out', Instr.fill place cells' ps' = some out' ∧ VL ρ out out'.toList
 | [], [], cells, out, cells', _, hc, h => by
  simp only [Fs, Option.some.injEq] at h;subst h;exact ⟨cells', rfl, hc⟩
 | (i, a) :: r, (j, v) :: r', cells, out, cells', ⟨h1, h2, h3⟩, hc, h => by
  subst h1;simp only [Fs] at h;cases hp : place i with
  | none => simp [hp] at h
  | some p =>
   obtain ⟨off, size⟩ := p;simp only [hp] at h;cases hq : (Nat.beq a.cells.length size && Nat.ble (off + size) cells.length && !a.isTop) with
   | false => simp [hq] at h
   | true =>
    simp only [hq] at h;obtain ⟨q12, q0⟩ := Av hq;obtain ⟨q1, q2⟩ := Av q12;have hnt : a ≠ .top := by rintro rfl; simp [AV.isTop] at q0
    have e1 := AG q1;have e2 := Dh q2;have hv := h2.cells hnt;have hlen : v.cells.size = size := by have := hv.1; simp at this; omega
    have hcl : cells.length = cells'.size := by simpa using hc.1
    have L1 := Fh cells off a.cells (by omega)
    have L2 := Q6 off v.cells.toList 0 cells' (by simp; omega)
    simp only [Nat.add_zero] at L2;obtain ⟨out', q3, q4⟩ := If h3 (L1.vl L2 hc hv) h;refine ⟨out', ?_, q4⟩;simp only [Instr.fill, hp];rw [if_neg (by simp [hlen]; omega), ← q3]
    congr 1
    rw [← Array.foldl_toList];simp [Array.toList_zipIdx]
theorem H4 {place : Nat → Option (Nat × Nat)} : ∀ {ps : List (Nat × AV)} {cells out : List AV}, Fs place cells ps = some out → out.length = cells.length
 | [], cells, out, h => by simp only [Fs, Option.some.injEq] at h; subst h; rfl
 | (i, a) :: r, cells, out, h => by
  simp only [Fs] at h;cases hp : place i with
  | none => simp [hp] at h
  | some p =>
   obtain ⟨off, size⟩ := p;simp only [hp] at h;cases hq : (Nat.beq a.cells.length size && Nat.ble (off + size) cells.length && !a.isTop) with
   | false => simp [hq] at h
   | true =>
    simp only [hq] at h;obtain ⟨q12, q0⟩ := Av hq;obtain ⟨q1, q2⟩ := Av q12;have e1 := AG q1;have e2 := Dh q2;rw [H4 h, (Fh cells off a.cells (by omega)).1]
section
variable {E : Env} (hE : OK E) {ρ : Ren} {h : Aa} {w : World}
include hE
omit hE in
theorem Bx {v : Value} {z : AV} (h : ofValue v = some z) : z ≠ .top := by
 rintro rfl
 cases v with
 | agg c => simp only [ofValue] at h; cases hc : C3 c.toList <;> simp [hc] at h
 | pointer p => cases p <;> simp [ofValue, A6] at h
 | slice p l c => cases p <;> cases l <;> cases c <;> simp [ofValue, A6] at h
 | map r => cases r <;> simp [ofValue, A6] at h
 | _ => simp [ofValue, A6] at h
theorem Kf (fs : List Field) (hall : fs.all (fun f => E.has f.type) = true) (w : World) :
  (fs.mapM fun f => do pure (f.offset, ← sizeOf f.type) : Sem (List (Nat × Nat))).run E.P w = .ok (fs.map fun f => (f.offset, E.size f.type)) w := by
 induction fs with
 | nil => simp
 | cons f r ih =>
  simp only [List.all_cons, Bool.and_eq_true] at hall;simp only [List.mapM_cons, Sem.run_bind, hE.run_has hall.1, Result.andThen_ok, Sem.run_pure, ih hall.2, List.map_cons]
theorem T5 {t : TypeId} {ps : List (Nat × AV)} {ps' : List (Nat × Value)} {a : AV} (hp : PL ρ ps ps') (hb : Rv E t ps = some a) :
  ∃ v, (Instr.build t ps'.toArray).run E.P w = .ok v w ∧ VR ρ a v := by
 unfold Rv at hb;cases hz : E.zero t with
 | none => simp [hz] at hb
 | some z =>
  obtain ⟨zv, z1, z2⟩ := hE.run_zero ρ hz w;have zc := (AR ρ z2).cells (Bx z2);cases hd : E.desc t with
  | none => simp [hz, hd] at hb
  | some d =>
   cases d with
   | struct fs =>
    simp only [hz, hd] at hb;cases hall : fs.toList.all (fun f => E.has f.type) with
    | false => simp only [hall] at hb; cases hb
    | true =>
     simp only [hall] at hb;cases hf : Fs (OA E fs.toList) z.cells ps with
     | none => simp only [hf, Option.map_none] at hb; cases hb
     | some out =>
      simp only [hf, Option.map_some, Option.some.injEq] at hb;subst hb
      have hpl : OA E fs.toList = (fun i => ((fs.toList.map fun f => (f.offset, E.size f.type)).toArray)[i]?) := by
       funext i
       simp only [OA, List.getElem?_toArray, List.getElem?_map];cases fs.toList[i]? <;> rfl
      rw [hpl] at hf;obtain ⟨out', q1, q2⟩ := If hp zc hf;refine ⟨.agg out', ?_, ?_⟩
      ·have hm := Kf hE fs.toList hall w;simp only [Instr.build, Sem.run_bind, z1, Result.andThen_ok, hE.run_und hd];rw [Array.mapM_eq_mapM_toList];simp only [Sem.run_map, hm, Result.andThen_ok];rw [q1];rfl
      ·exact .agg out out'.toList q2.1 q2.2
   | array n e =>
    simp only [hz, hd] at hb;cases hh : E.has e with
    | false => simp [hh] at hb
    | true =>
     simp only [hh] at hb;cases hf : Fs (fun i => some (i * E.size e, E.size e)) z.cells ps with
     | none => simp [hf] at hb
     | some out =>
      simp only [hf, Option.map_some, Option.some.injEq] at hb;subst hb;obtain ⟨out', q1, q2⟩ := If hp zc hf;refine ⟨.agg out', ?_, .agg out out'.toList q2.1 q2.2⟩;simp [Instr.build, z1, hE.run_und hd, hE.run_has hh, q1]
   | _ => simp [hz, hd] at hb
end
end Go.AE
namespace Go.AE
variable [U : Unk]
theorem Gb (n : Nat) (h : n ≤ 4611686018427387904) : IntKind.i64.wrap (n : Int) = n := IntWalk.i64_in _ (by omega)
theorem JG (z : List AV) : ∀ (n i : Nat), i < n * z.length → (BA z n)[i]? = z[i % z.length]?
 | 0, i, h => by simp at h
 | n + 1, i, h => by
  simp only [BA];by_cases hi : i < z.length
  ·rw [List.getElem?_append_left hi, Nat.mod_eq_of_lt hi]
  ·rw [List.getElem?_append_right (by omega), JG z n (i - z.length) (by rw [Nat.add_mul] at h; omega)]
   congr 1
   rw [← Nat.mod_eq_sub_mod (by omega)]
theorem Cf (z : List AV) : ∀ n, (BA z n).length = n * z.length
 | 0 => by simp [BA]
 | n + 1 => by simp only [BA, List.length_append, Cf z n, Nat.add_mul]; omega
theorem ED {ρ : Ren} {z : List AV} {zero : Array Value} (hz : VL ρ z zero.toList) (n : Nat) (zero' : Array Value) (h0 : n * z.length = 0 ∨ zero' = zero) :
  VL ρ (BA z n) ((Array.range (n * z.length)).map (zero'[· % zero'.size]!)).toList := by
 have hl : z.length = zero.size := by simpa using hz.1
 refine ⟨by simp [Cf], fun i a v ha hv => ?_⟩
 have hi : i < n * z.length := by
  have := (List.getElem?_eq_some_iff.1 ha).1
  rwa [Cf] at this
 rcases h0 with h0 | rfl
 ·omega
 ·have hzp : 0 < z.length := by
   rcases Nat.eq_zero_or_pos z.length with e | e
   ·rw [e] at hi; simp at hi
   ·exact e
  rw [JG z n i hi] at ha;have hm : i % z.length < z.length := Nat.mod_lt _ hzp;simp only [Array.toList_map, Array.toList_range, List.getElem?_map, List.getElem?_range hi, Option.map_some, Option.some.injEq] at hv;subst hv;obtain ⟨v, hv, hvr⟩ := hz.get ha;rw [hl] at hv
  have : zero'[i % zero'.size]! = v := by
   rw [Array.getElem?_toList] at hv;simp [Array.getElem!_eq_getD, Array.getD_eq_getD_getElem?, hv]
  rw [this]; exact hvr
section
variable {E : Env} (hE : OK E) {ρ : Ren} {h : Aa} {w : World}
include hE
def A7 (E : Env) (ρ : Ren) (h h' : Aa) (w : World) (s : Sem Value) (a : AV) : Prop :=
 ∃ σ v w', s.run E.P w = .ok v w' ∧ VR σ a v ∧ HR σ h'.blk.get w' ∧ Ext ρ σ h h' w w'
omit hE in
theorem AB (hr : HR ρ h.blk.get w) {s : Sem Value} {a : AV} (hs : ∃ v, s.run E.P w = .ok v w ∧ VR ρ a v) : A7 E ρ h h w s a := by
 obtain ⟨v, h1, h2⟩ := hs;exact ⟨ρ, v, w, h1, h2, hr, Ext.refl ρ h w⟩
theorem Vj (hr : HR ρ h.blk.get w) (hf : ρ h.nx = none) {t : TypeId} {z : AV} (hz : E.zero t = some z) :
  A7 E ρ h (BH h z.cells) w (Instr.alloc t true (.tuple #[])) (.ptr h.nx 0) := by
 obtain ⟨zv, z1, z2⟩ := hE.run_zero ρ hz w;have zc := (AR ρ z2).cells (Bx z2);obtain ⟨σ, s1, q1, q2⟩ := hr.newList hf t zv.cells zc;refine ⟨σ, .pointer (some ⟨w.heap.size, 0, none⟩), _, ?_, .ptr h.nx 0 _ s1, q1, q2⟩;simp only [Instr.alloc, Sem.run_bind, z1, Result.andThen_ok, newVar, newRow, run_newObj, Sem.run_pure]
omit hE in
theorem ZA (hr : HR ρ h.blk.get w) (hf : ρ h.nx = none) {t : TypeId} {a : AV} {v : Value} (ha : VR ρ a v) (ht : a ≠ .top) :
  A7 E ρ h (BH h a.cells) w (Instr.box t v) (.ptr h.nx 0) := by
 obtain ⟨σ, s1, q1, q2⟩ := hr.newList hf t v.cells (ha.cells ht);refine ⟨σ, .pointer (some ⟨w.heap.size, 0, none⟩), _, ?_, .ptr h.nx 0 _ s1, q1, q2⟩;simp only [Instr.box, Sem.run_bind, Result.andThen_ok, newVar, newRow, run_newObj, Sem.run_pure]
theorem LH (hr : HR ρ h.blk.get w) {t : TypeId} {len : Nat} {ps : List (Nat × AV)} {ps' : List (Nat × Value)} {a : AV} {h' : Aa} (hp : PL ρ ps ps') (hb : Gr E t len ps h = some (a, h')) (hf : Bg ρ h.nx h'.nx) :
  A7 E ρ h h' w (Instr.buildSlice t len ps'.toArray) a := by
 unfold Gr at hb;cases hd : E.desc t with
 | none => simp [hd] at hb
 | some d =>
  cases d with
  | slice e =>
   simp only [hd] at hb;cases hc : Nat.ble (len * E.size e) 16777216 with
   | false => simp [hc] at hb
   | true =>
    cases hz : E.zero e with
    | none => simp [hc, hz] at hb
    | some z =>
     simp only [hc, hz] at hb;cases hzl : Nat.beq z.cells.length (E.size e) with
     | false => simp [hzl] at hb
     | true =>
      simp only [hzl] at hb;cases hfl : Fs (fun i => some (i * E.size e, E.size e)) (BA z.cells len) ps with
      | none => simp [hfl] at hb
      | some cells =>
       simp only [hfl, Option.some.injEq, Prod.mk.injEq] at hb;obtain ⟨rfl, rfl⟩ := hb;have hzl' := AG hzl;have hc' := Dh hc;obtain ⟨i, v, i1, i2, i3⟩ := GK hz;have hsz : ∀ w, (sizeOf e).run E.P w = .ok (E.size e) w := fun w => by rw [hE.run_sz i1]; simp [Env.size, i1]
       obtain ⟨zv, z1, z2⟩ := hE.run_zero ρ hz w;have zc := (AR ρ z2).cells (Bx z2);have hfree : ρ h.nx = none := hf h.nx (Nat.le_refl _) (by simp [BH, Aa.new])
       have h0 : len * z.cells.length = 0 ∨ (if len * E.size e = 0 then #[] else zv.cells) = zv.cells := by
        rw [hzl'];by_cases e0 : len * E.size e = 0
        ·exact .inl e0
        ·exact .inr (by rw [if_neg e0])
       have hcells := ED zc len (if len * E.size e = 0 then #[] else zv.cells) h0
       rw [hzl'] at hcells;obtain ⟨out', o1, o2⟩ := If hp hcells hfl;obtain ⟨σ, s1, q1, q2⟩ := hr.newList hfree e out' o2
       have hol : out'.size = len * E.size e := by
        have g1 := H4 hfl;rw [Cf, hzl'] at g1;have g2 := o2.1;simp at g2;omega
       refine ⟨σ, .slice (some ⟨w.heap.size, 0, none⟩) len len, _, ?_, ?_, q1, q2⟩
       ·simp only [Instr.buildSlice, Sem.run_bind, hE.run_und hd, Result.andThen_ok, hsz];rw [if_neg (by omega)]
        by_cases e0 : len * E.size e = 0
        ·simp only [e0, if_true] at o1;simp only [e0, if_true, Sem.run_bind, Sem.run_pure, Result.andThen_ok];rw [o1];simp only [newRow, Sem.run_bind, run_newObj, Result.andThen_ok, Sem.run_pure]
        ·rw [if_neg e0] at o1;rw [if_neg e0];simp only [Sem.run_bind, z1, Sem.run_pure, Result.andThen_ok];rw [o1];simp only [newRow, Sem.run_bind, run_newObj, Result.andThen_ok, Sem.run_pure]
       ·exact VR.slice h.nx 0 len (E.size e) len _ s1 (Nat.le_refl _) (by simp only [Nat.zero_add]; omega)
  | _ => simp [hd] at hb
theorem Ms (hr : HR ρ h.blk.get w) {t : TypeId} {l c a : AV} {lv cv : Value} {h' : Aa} (hl : VR ρ l lv) (hcv : VR ρ c cv) (hb : HS E t l c h = some (a, h')) (hf : Bg ρ h.nx h'.nx) :
  A7 E ρ h h' w (Instr.makeSlice t lv cv) a := by
 unfold HS at hb;cases hd : E.desc t with
 | none => simp [hd] at hb
 | some d =>
  cases hn : Dj l with
  | none => cases d <;> simp [hd, hn] at hb
  | some n =>
   cases hm : Dj c with
   | none => cases d <;> simp [hd, hn, hm] at hb
   | some m =>
    obtain ⟨k1, rfl⟩ := Cv hl hn;obtain ⟨k2, rfl⟩ := Cv hcv hm;cases d with
    | slice e =>
     simp only [hd, hn, hm] at hb;cases hi : E.ty.get e with
     | none => simp [hi] at hb
     | some inf =>
      simp only [hi] at hb;cases hz : E.zero e with
      | none => simp [hz] at hb
      | some z =>
       simp only [hz] at hb;cases hc : (Nat.beq n m && Nat.ble n 1048576 && Nat.ble (inf.bytes * n) 140737488355328 && Nat.beq z.cells.length inf.size) with
       | false => simp [hc] at hb
       | true =>
        simp only [hc, Option.some.injEq, Prod.mk.injEq] at hb;obtain ⟨rfl, rfl⟩ := hb;obtain ⟨c123, c4⟩ := Av hc;obtain ⟨c12, c3⟩ := Av c123;obtain ⟨c1, c2⟩ := Av c12;have e1 := AG c1;have e2 := Dh c2;have e3 := Dh c3;have e4 := AG c4;subst e1;obtain ⟨zv, z1, z2⟩ := hE.run_zero ρ hz w;have zc := (AR ρ z2).cells (Bx z2);have hfree : ρ h.nx = none := hf h.nx (Nat.le_refl _) (by simp [BH, Aa.new])
        have h0 : n * z.cells.length = 0 ∨ (if n * inf.size = 0 then #[] else zv.cells) = zv.cells := by
         rw [e4];by_cases e0 : n * inf.size = 0
         ·exact .inl e0
         ·exact .inr (by rw [if_neg e0])
        have hcells := ED zc n (if n * inf.size = 0 then #[] else zv.cells) h0
        rw [e4] at hcells;obtain ⟨σ, s1, q1, q2⟩ := hr.newList hfree e _ hcells;have hwrap := Gb n (by omega)
        refine ⟨σ, .slice (some ⟨w.heap.size, 0, none⟩) n n, _, ?_, ?_, q1, q2⟩
        ·simp only [Instr.makeSlice, Sem.run_bind, hE.run_und hd, Result.andThen_ok, asInt, asIntOf, Sem.run_pure, hE.run_info hi, hwrap]
         have hbn : ¬ ((inf.bytes : Int) * (n : Int) > 2 ^ 48) := by
          have : ((inf.bytes * n : Nat) : Int) ≤ 140737488355328 := by omega
          rw [Int.natCast_mul] at this;omega
         have hcond : (decide ((n : Int) < 0) || decide ((inf.bytes : Int) * (n : Int) > 2 ^ 48) || decide ((n : Int) < 0) || decide ((n : Int) > (n : Int))) = false := by
          rw [decide_eq_false hbn, decide_eq_false (show ¬ ((n : Int) < 0) by omega), decide_eq_false (show ¬ ((n : Int) > (n : Int)) by omega)]
          rfl
         rw [if_neg (by rw [hcond]; exact Bool.false_ne_true)]
         simp only [Sem.run_bind, run_askRoom, Result.andThen_ok, Int.toNat_natCast, hE.run_sz hi];by_cases e0 : n * inf.size = 0
         ·rw [if_pos e0];simp only [Sem.run_bind, Sem.run_pure, Result.andThen_ok, newRow, run_newObj, if_pos e0]
         ·rw [if_neg e0];simp only [Sem.run_bind, z1, Sem.run_pure, Result.andThen_ok, newRow, run_newObj, if_neg e0]
        ·exact VR.slice h.nx 0 n inf.size n _ s1 (Nat.le_refl _) (by simp)
    | _ => simp [hd, hn, hm] at hb
end
end Go.AE
namespace Go.AE
variable [U : Unk]
theorem HR.strike {ρ : Ren} {h : Aa} {w : World} (hr : HR ρ h.blk.get w) (b : Nat) : HR ρ (h.strike b).blk.get w ∧ Ext ρ ρ h (h.strike b) w w := by
 refine ⟨hr.restrict fun c => ?_, ⟨Ren.le_refl ρ, Nat.le_refl _, fun _ _ e => .inl e, Hz.refl w, fun _ _ _ => rfl, ⟨[b], rfl, ?_⟩, ?_, fun _ _ e => .inl e⟩⟩
 ·simp only [Aa.strike, T.get_del];by_cases e : b = c
  ·exact .inl (by rw [if_pos e])
  ·exact .inr (by rw [if_neg e])
 ·intro c hc _;simp only [Aa.strike, T.get_del];rw [if_neg (fun e => hc (by simp [e]))]
 ·intro c hc;simp only [Aa.strike, T.get_del] at hc;by_cases e : b = c
  ·rw [if_pos e] at hc; exact absurd rfl hc
  ·rw [if_neg e] at hc; exact .inl hc
theorem HR.move {ρ : Ren} {h : Aa} {w : World} (hr : HR ρ h.blk.get w) {b : Nat} {base base' : Db} (hb : ρ b = some base) (hl : h.blk.get b ≠ none) (hf : ρ h.nx = none) (hcb : base'.cb = base.cb) (x : Aq)
  (w' : World) (hx : BR (ρ.upd h.nx base') x base' w'.heap[base.cb]?) (hsz : w'.heap.size = w.heap.size) (hold : ∀ k, k ≠ base.cb → w'.heap[k]? = w.heap[k]?) (hos : w'.os = w.os) (ht : w'.tape = w.tape) (ho : w'.output = w.output) :
  HR (ρ.upd h.nx base') ((h.strike b).new x).blk.get w' ∧ Ext ρ (ρ.upd h.nx base') h ((h.strike b).new x) w w' := by
 have hle := Ren.le_upd hf base';have hbn : b ≠ h.nx := by rintro rfl; rw [hf] at hb; cases hb
 have inv : ∀ c d, ρ.upd h.nx base' c = some d → (c = h.nx ∧ d = base') ∨ (c ≠ h.nx ∧ ρ c = some d) := by
  intro c d hc;simp only [Ren.upd] at hc;by_cases e : c = h.nx
  ·rw [if_pos e] at hc; exact .inl ⟨e, by simpa using hc.symm⟩
  ·rw [if_neg e] at hc; exact .inr ⟨e, hc⟩
 have get : ∀ c, ((h.strike b).new x).blk.get c = if h.nx = c then some x else if b = c then none else h.blk.get c := by
  intro c; simp only [Aa.new, Aa.strike, T.get_set, T.get_del]
 refine ⟨⟨?_, ?_, ?_, ?_, ?_⟩, ⟨hle, Nat.le_succ _, ?_, ⟨hos, ht, ho, by omega⟩, ?_, ⟨[b], rfl, ?_⟩, ?_, fun _ _ e => .inl e⟩⟩
 ·intro c d hc;rcases inv c d hc with ⟨_, rfl⟩ | ⟨_, h1⟩
  ·rw [hcb, hsz]; exact hr.lt b base hb
  ·rw [hsz]; exact hr.lt c d h1
 ·intro c d y hc hy;rw [get] at hy;rcases inv c d hc with ⟨rfl, rfl⟩ | ⟨hne, h1⟩
  ·rw [if_pos rfl] at hy; cases hy; rw [hcb]; exact hx
  ·rw [if_neg (fun e => hne e.symm)] at hy
   by_cases e : b = c
   ·rw [if_pos e] at hy; cases hy
   ·rw [if_neg e] at hy;rw [hold _ (hr.apart c b d base (fun q => e q.symm) h1 hb (by rw [hy]; simp) hl)]
    exact (hr.blk c d y h1 hy).mono hle
 ·have one : ∀ c d, c ≠ h.nx → ρ c = some d → ((h.strike b).new x).blk.get c ≠ none → base'.cb ≠ d.cb := by
   intro c d hne h1 h2;rw [get, if_neg (fun e => hne e.symm)] at h2
   by_cases e : b = c
   ·rw [if_pos e] at h2; exact absurd rfl h2
   ·rw [if_neg e] at h2;rw [hcb];exact hr.apart b c base d e hb h1 hl h2
  intro c c' d d' hne hc hc' h1 h2;rcases inv c d hc with ⟨rfl, rfl⟩ | ⟨hn, h3⟩
  ·rcases inv c' d' hc' with ⟨e, _⟩ | ⟨hn', h4⟩
   ·exact absurd e.symm hne
   ·exact one c' d' hn' h4 h2
  ·rcases inv c' d' hc' with ⟨rfl, rfl⟩ | ⟨hn', h4⟩
   ·exact (one c d hn h3 h1).symm
   ·rw [get, if_neg (fun e => hn e.symm)] at h1
    rw [get, if_neg (fun e => hn' e.symm)] at h2
    by_cases e : b = c
    ·rw [if_pos e] at h1; exact absurd rfl h1
    ·by_cases e' : b = c'
     ·rw [if_pos e'] at h2; exact absurd rfl h2
     ·rw [if_neg e] at h1; rw [if_neg e'] at h2;exact hr.apart c c' d d' hne h3 h4 h1 h2
 ·intro k arr hk;rw [hold k (hr.off k arr b base hk hb hl).symm];exact hr.imm k arr hk
 ·intro k arr c d hk hc h2;rcases inv c d hc with ⟨rfl, rfl⟩ | ⟨hn, h3⟩
  ·rw [hcb]; exact hr.off k arr b base hk hb hl
  ·rw [get, if_neg (fun e => hn e.symm)] at h2
   by_cases e : b = c
   ·rw [if_pos e] at h2; exact absurd rfl h2
   ·rw [if_neg e] at h2; exact hr.off k arr c d hk h3 h2
 ·intro c d hc;rcases inv c d hc with ⟨rfl, rfl⟩ | ⟨_, h1⟩
  ·exact .inr ⟨Nat.le_refl _, Nat.lt_succ_self _, .inr ⟨b, base, hb, hl, hcb.symm⟩⟩
  ·exact .inl h1
 ·intro k hk hn;exact hold k (fun e => hn b base hb hl e.symm)
 ·intro c hc hr';rw [get, if_neg (by simp only [Aa.new, Aa.strike] at hr'; omega), if_neg (fun e => hc (by simp [e]))]
 ·intro c hc;rw [get] at hc;by_cases e : h.nx = c
  ·exact .inr ⟨by omega, by simp only [Aa.new, Aa.strike]; omega⟩
  ·rw [if_neg e] at hc;by_cases e' : b = c
   ·rw [if_pos e'] at hc; exact absurd rfl hc
   ·rw [if_neg e'] at hc; exact .inl hc
theorem Ext.drawn {ρ σ : Ren} {h h' : Aa} {w w1 w' : World} (e : Ext ρ σ h h' w1 w') (hh : w1.heap = w.heap) (hos : w1.os = w.os) (ht : w1.tape = w.tape) (ho : w1.output = w.output) : Ext ρ σ h h' w w' :=
 ⟨e.le, e.nx, hh ▸ e.new, ⟨e.calm.os.trans hos, e.calm.tape.trans ht, e.calm.output.trans ho, hh ▸ e.calm.size⟩, hh ▸ e.kept, e.log, e.live, hh ▸ e.imm⟩
theorem AL (P : Program) (w : World) (b o k : Nat) (cur : Array Value) (e : TypeId) (fz : Nat × Nat) (hb : w.heap[b]? = some (.cells cur e fz)) (hk : o + k ≤ cur.size) :
  (Go.loadCells ⟨b, o, none⟩ k).run P w = .ok ((cur.toList.drop o).take k).toArray w := by
 have hl : ((cur.toList.drop o).take k).length = k := by simp; omega
 have := C9 (w := w) P b o ((cur.toList.drop o).take k) 0 #[] (by
  intro j v hj;rw [List.getElem?_take] at hj;by_cases c : j < k
  ·rw [if_pos c] at hj;simp only [List.getElem?_drop, Array.getElem?_toList] at hj;simp [World.cell?, hb, hj]
  ·rw [if_neg c] at hj; cases hj)
 rw [hl] at this;simpa [Go.loadCells] using this
theorem FP : ∀ (l : List UInt8), bytesOf l.length (AH l) = l.map fun b => AV.int .u8 (b.toNat : Nat)
 | [] => rfl
 | b :: r => by
  obtain ⟨h1, h2⟩ := Fw b r;simp only [List.length_cons, bytesOf, h1, h2, FP r, List.map_cons]
theorem PE (ρ : Ren) (l : List UInt8) : VL ρ (l.map fun b => AV.int .u8 (b.toNat : Nat)) (l.map fun b => Value.int .u8 (b.toNat : Nat)) := by
 refine ⟨by simp, fun i a v ha hv => ?_⟩
 simp only [List.getElem?_map] at ha hv;cases hb : l[i]? with
 | none => simp [hb] at ha
 | some b =>
  simp only [hb, Option.map_some, Option.some.injEq] at ha hv;subst ha; subst hv;exact .int _ _
section
variable {E : Env} (hE : OK E) {ρ : Ren} {h : Aa} {w : World}
theorem Sa (hr : HR ρ h.blk.get w) (P : Program) {es n m : Nat} {x : AV} {xv : Value} {l : List AV} (hx : VR ρ x xv) (hm : GR x = some m) (hn : n ≤ m) (hs : Lh h es n x = some l) :
  ∃ vs : List Value, VL ρ l vs ∧ l.length = n * es ∧ (Builtin.lenOf xv).run P w = .ok m w ∧ ∀ w' : World, w'.heap = w.heap → (Builtin.firstCells es n xv).run P w' = .ok vs.toArray w' := by
 cases hx with
 | slice0 =>
  simp only [GR, Option.some.injEq] at hm;simp only [Lh, Option.some.injEq] at hs;subst hs;have : n = 0 := by omega
  subst this;exact ⟨[], VL.nil ρ, by simp, by simp [Builtin.lenOf, hm.symm], fun w' _ => by simp [Builtin.firstCells]⟩
 | slice b off k es' cap base hb hc hz =>
  simp only [GR, Option.some.injEq] at hm;subst hm;simp only [Lh] at hs;cases he : Nat.beq es es' with
  | false => simp [he] at hs
  | true =>
   simp only [he] at hs;have := AG he;subst this;unfold Cx at hs;cases hg : h.blk.get b with
   | none => simp [hg] at hs
   | some y =>
    cases y with
    | cells sz c =>
     simp only [hg] at hs;cases hq : Nat.ble (off + n * es) sz with
     | false => simp [hq] at hs
     | true =>
      simp only [hq] at hs;have hlen := (T.range_spec c _ _ _ hs).1;obtain ⟨vs, q1, q2, q3⟩ := hr.loadCells P hb hg (Dh hq) hs;refine ⟨vs, q1, hlen, by simp [Builtin.lenOf], fun w' hw => ?_⟩
      have hr' : HR ρ h.blk.get w' := hr.same hw;have hv : vs.length = n * es := by rw [← q1.1, hlen]
      have h2 := C9 (w := w') P base.cb (base.co + off) vs 0 #[] (fun j v hj => by
       have := q3 j v hj;simp only [Nat.zero_add];rw [← this]; simp [World.cell?, hw])
      simp only [Builtin.firstCells, Go.loadCells];rw [← hv, h2]; simp
    | _ => simp [hg] at hs
 | sliceEnd b off es' a =>
  simp only [GR, Option.some.injEq] at hm;have : n = 0 := by omega
  subst this;simp only [Lh] at hs;cases he : Nat.beq es es' with
  | false => simp [he] at hs
  | true =>
   simp only [he, Nat.zero_mul] at hs
   have hl : l = [] := by
    unfold Cx at hs;cases hg : h.blk.get b with
    | none => simp [hg] at hs
    | some y =>
     cases y with
     | cells sz c =>
      simp only [hg] at hs;cases hq : Nat.ble (off + 0) sz with
      | false => simp only [hq] at hs; cases hs
      | true => simp only [hq, T.range, Option.some.injEq] at hs; exact hs.symm
     | _ => simp [hg] at hs
   subst hl;exact ⟨[], VL.nil ρ, by simp, by simp [Builtin.lenOf, hm.symm], fun w' _ => by simp [Builtin.firstCells, Go.loadCells, loadCellsFrom]⟩
 | str s =>
  simp only [GR, Option.some.injEq] at hm;simp only [Lh] at hs;cases he : Nat.beq es 1 with
  | false => simp [he] at hs
  | true =>
   simp only [he, Option.some.injEq] at hs;have := AG he;subst this;subst hs;rw [FP];refine ⟨(s.data.toList.map fun b => Value.int .u8 (b.toNat : Nat)).take n, (PE ρ _).take n, by simp at hm ⊢; omega, by simp [Builtin.lenOf]; simpa using hm, fun w' _ => ?_⟩
   simp only [Builtin.firstCells, Sem.run_pure]
   congr 1
   apply Array.ext';simp [ByteArray.data_extract]
 | _ => simp [GR] at hm
end
end Go.AE
namespace Go.AE
variable [U : Unk]
section
variable {P : Program} {w : World}
inductive UX (P : Program) (w : World) (t' e : TypeId) (inf : TypeInfo) (xv : Value) (m : Nat) (nv : List Value) : Prop
 | cells (d : TypeDesc) (hu : P.underlying t' = some d) (hd : (∃ e', d = .slice e') ∨ d = .string) (hl : (Builtin.lenOf xv).run P w = .ok m w)
   (hf : ∀ w' : World, w'.heap = w.heap → (Builtin.firstCells inf.size m xv).run P w' = .ok nv.toArray w')
 | zeros (k k' : IntKind) (hu : P.underlying t' = some (.int k)) (hx : xv = .int k' (m : Int)) (hm : m ≤ 1048576) (hb : m * inf.bytes ≤ 140737488355328)
   (z : Value) (hz : inf.zero = some z) (hzs : z.cells.size = inf.size) (hn : nv.toArray = Builtin.zeroCells z.cells m)
theorem C8 (t t' ty e : TypeId) (inf : TypeInfo) (ht : P.underlying t = some (.slice e)) (hi : P.info? e = some inf) (xv : Value) (m : Nat) (nv : List Value) (hs : UX P w t' e inf xv m nv)
  (base : Option Addr) (sLen sCap : Nat) (hroom : sLen + m ≤ sCap) :
  (Builtin.append_ #[t, t'] ty #[.slice base sLen sCap, xv]).run P w =
   ((match base with | some a => storeCells (a.add (sLen * inf.size)) nv | none => pure ()).run P w).andThen fun _ w' => .ok (.slice base (sLen + m) sCap) w' := by
 cases hs with
 | cells d hu hd hl hf =>
  have hf' := hf w rfl;have h1 : (underlying t').run P w = .ok d w := by simp [underlying, hu]
  have h2 : (underlying t).run P w = .ok (.slice e) w := by simp [underlying, ht]
  have h3 : (sizeOf e).run P w = .ok inf.size w := by simp [sizeOf, typeInfo, hi]
  unfold Builtin.append_
  rcases hd with ⟨e', rfl⟩ | rfl <;>
   simp only [List.getElem?_toArray, List.getElem?_cons_zero, List.getElem?_cons_succ, Sem.run_bind, h2, Result.andThen_ok, h3, h1, Bool.false_eq_true, if_false, hl, if_pos hroom, Bool.not_false, if_true, hf', Sem.run_pure] <;>
   cases base <;> simp
 | zeros k k' hu hx hm hb z hz hzs hn =>
  subst hx;have hw := Gb m (by omega)
  have h0 : ¬ ((m : Int) < 0) := by omega
  have h48 : ¬ ((m : Int) * (inf.bytes : Int) > 2 ^ 48) := by
   have : ((m * inf.bytes : Nat) : Int) ≤ 140737488355328 := by omega
   rw [Int.natCast_mul] at this;omega
  have h1 : (underlying t').run P w = .ok (.int k) w := by simp [underlying, hu]
  have h2 : (underlying t).run P w = .ok (.slice e) w := by simp [underlying, ht]
  have h3 : (sizeOf e).run P w = .ok inf.size w := by simp [sizeOf, typeInfo, hi]
  have h4 : (typeInfo e).run P w = .ok inf w := by simp [typeInfo, hi]
  have h5 : (zeroValue e).run P w = .ok z w := by simp [zeroValue, typeInfo, hi, hz]
  have hzero : nv = [] ∨ m * inf.size ≠ 0 := by
   by_cases e0 : m * inf.size = 0
   ·left;have : nv.toArray.size = 0 := by rw [hn]; simp [Builtin.zeroCells, hzs, e0]
    simpa using this
   ·exact .inr e0
  unfold Builtin.append_;simp only [List.getElem?_toArray, List.getElem?_cons_zero, List.getElem?_cons_succ, Sem.run_bind, h2, Result.andThen_ok, h3, h1, Sem.run_pure, if_true, asInt, asIntOf, hw, if_neg h0, h4, if_neg h48, Int.toNat_natCast, if_pos hroom, Bool.not_true, Bool.false_eq_true, if_false];by_cases e0 : m * inf.size = 0
  ·have hnv : nv = [] := by
    rcases hzero with h | h
    ·exact h
    ·exact absurd e0 h
   subst hnv;rw [if_pos e0];cases base <;> simp [storeCells]
  ·rw [if_neg e0];simp only [Sem.run_bind, h5, Result.andThen_ok, Sem.run_pure, ← hn];cases base <;> simp
theorem EV (t t' ty e : TypeId) (inf : TypeInfo) (ht : P.underlying t = some (.slice e)) (hi : P.info? e = some inf) (z : Value) (hzz : inf.zero = some z) (xv : Value) (m : Nat) (nv : List Value) (hs : UX P w t' e inf xv m nv)
  (base : Option Addr) (sLen sCap : Nat) (hgrow : sCap < sLen + m) (h63 : sLen + m ≤ 4611686018427387904) (hby : (sLen + m) * inf.bytes ≤ 140737488355328) (ov : Array Value)
  (ho : ∀ w' : World, w'.heap = w.heap → (Builtin.firstCells inf.size sLen (.slice base sLen sCap)).run P w' = .ok ov w') :
  ∃ cap, sLen + m ≤ cap ∧ (Builtin.append_ #[t, t'] ty #[.slice base sLen sCap, xv]).run P w =
   .ok (.slice (some ⟨w.heap.size, 0, none⟩) (sLen + m) cap) { w with drawn := w.drawn + 1, heap := w.heap.push (.cells (ov ++ nv.toArray ++ Builtin.zeroCells z.cells (cap - (sLen + m))) e) } := by
 refine ⟨grownCap w (sLen + m) sCap e, grownCap_ge w _ _ _, ?_⟩;have hng : ¬ (sLen + m ≤ sCap) := by omega
 have h63' : ¬ (((sLen + m : Nat) : Int) > IntKind.i64.max) := by simp only [IntKind.max, IntKind.signed, IntKind.bits]; omega
 have h48' : ¬ (Builtin.nextslicecap (sLen + m) sCap * inf.bytes > 2 ^ 48) := by have := growslice_fits hgrow hby; omega
 have hw1 : ({ w with drawn := w.drawn + 1 } : World).heap = w.heap := rfl
 have h2 : ∀ w : World, (underlying t).run P w = .ok (.slice e) w := fun w => by simp [underlying, ht]
 have h3 : ∀ w : World, (sizeOf e).run P w = .ok inf.size w := fun w => by simp [sizeOf, typeInfo, hi]
 have h4 : ∀ w : World, (typeInfo e).run P w = .ok inf w := fun w => by simp [typeInfo, hi]
 have h5 : ∀ w : World, (zeroValue e).run P w = .ok z w := fun w => by simp [zeroValue, typeInfo, hi, hzz]
 have hch : (choose (.appendCap (sLen + m) sCap e)).run P w = .ok (grownCap w (sLen + m) sCap e) { w with drawn := w.drawn + 1 } := by simp [Question.forced, grownCap]
 cases hs with
 | cells d hu hd hl hf =>
  have h1 : (underlying t').run P w = .ok d w := by simp [underlying, hu]
  unfold Builtin.append_;rcases hd with ⟨e', rfl⟩ | rfl
  all_goals
   simp only [List.getElem?_toArray, List.getElem?_cons_zero, List.getElem?_cons_succ, Sem.run_bind, h2, Result.andThen_ok, h3, h1, Bool.false_eq_true, if_false, hl, if_neg hng, Bool.not_false, if_true, h4, Sem.run_pure];rw [if_neg (fun h => h63' h.1)]
   simp only [Sem.run_bind, h4, Result.andThen_ok];rw [if_neg h48'];simp only [Sem.run_bind, hch, Result.andThen_ok, h4, run_askRoom, ho _ hw1, hf _ hw1, h5, newRow, run_newObj, Sem.run_pure]
 | zeros k k' hu hx hm hb z' hz' hzs hn =>
  subst hx;rw [hzz] at hz'; cases hz';have hw := Gb m (by omega)
  have h0 : ¬ ((m : Int) < 0) := by omega
  have h48 : ¬ ((m : Int) * (inf.bytes : Int) > 2 ^ 48) := by
   have : ((m * inf.bytes : Nat) : Int) ≤ 140737488355328 := by omega
   rw [Int.natCast_mul] at this;omega
  have h1 : (underlying t').run P w = .ok (.int k) w := by simp [underlying, hu]
  unfold Builtin.append_;simp only [List.getElem?_toArray, List.getElem?_cons_zero, List.getElem?_cons_succ, Sem.run_bind, h2, Result.andThen_ok, h3, h1, Sem.run_pure, if_true, asInt, asIntOf, hw, if_neg h0, h4, if_neg h48, Int.toNat_natCast, if_neg hng, Bool.not_true, Bool.false_eq_true, if_false];rw [if_neg (fun h => h63' h.1)]
  simp only [Sem.run_bind, h4, Result.andThen_ok];rw [if_neg h48'];simp only [Sem.run_bind, hch, Result.andThen_ok, h4, run_askRoom, ho _ hw1];by_cases e0 : m * inf.size = 0
  ·rw [if_pos e0]
   have hnv : nv.toArray = #[] := by
    rw [hn]; apply Array.eq_empty_of_size_eq_zero; simp [Builtin.zeroCells, hzs, e0]
   simp only [Sem.run_pure, Result.andThen_ok, Sem.run_bind, h5, newRow, run_newObj, hnv]
  ·rw [if_neg e0];simp only [Sem.run_pure, Result.andThen_ok, Sem.run_bind, h5, newRow, run_newObj, hn]
end
end Go.AE
namespace Go.AE
variable [U : Unk]
section
variable {E : Env} (hE : OK E) {ρ : Ren} {h : Aa} {w : World}
include hE
omit hE in
theorem KM (hr : HR ρ h.blk.get w) (hf : ρ h.nx = none) (e : TypeId) {news olds : List AV} {nv ov : List Value} (hn : VL ρ news nv) (k sLen m cap es : Nat) (hov : ov.length = k) {c : T AV}
  (hc : ∀ i a, i < k + news.length → c.get i = some a → (∃ v, i < k ∧ ov[i]? = some v ∧ VR ρ a v) ∨ (k ≤ i ∧ news[i - k]? = some a))
  (rest : Array Value) (hsz : (sLen + m) * es = k + news.length) (hrest : rest.size = (cap - (sLen + m)) * es) (hcap : sLen + m ≤ cap) :
  ∃ σ, HR σ (h.new (.cells (k + news.length) c)).blk.get { w with drawn := w.drawn + 1, heap := w.heap.push (.cells (ov.toArray ++ nv.toArray ++ rest) e) } ∧
   Ext ρ σ h (h.new (.cells (k + news.length) c)) w { w with drawn := w.drawn + 1, heap := w.heap.push (.cells (ov.toArray ++ nv.toArray ++ rest) e) } ∧
   VR σ (.slice h.nx 0 (sLen + m) es) (.slice (some ⟨w.heap.size, 0, none⟩) (sLen + m) cap) := by
 have hnl := hn.1;have hr1 : HR ρ h.blk.get { w with drawn := w.drawn + 1 } := hr.same rfl
 have hasz : (ov.toArray ++ nv.toArray ++ rest).size = cap * es := by
  simp only [Array.size_append, List.size_toArray, hov, ← hnl, hrest];have : cap * es = (sLen + m) * es + (cap - (sLen + m)) * es := by rw [← Nat.add_mul]; congr 1; omega
  omega
 obtain ⟨σ, s1, q1, q2⟩ := hr1.newRow hf e (n := k + news.length) (c := c) (ov.toArray ++ nv.toArray ++ rest) (by
  simp only [Array.size_append, List.size_toArray, hov, ← hnl]; omega) (by
  intro i a hi ha;rcases hc i a hi ha with ⟨v, h1, h2, h3⟩ | ⟨h1, h2⟩
  ·exact ⟨v, by rw [Array.append_assoc, Array.getElem?_append_left (by simp; omega)]; simpa using h2, h3⟩
  ·obtain ⟨v, hv, hvr⟩ := hn.get h2;refine ⟨v, ?_, hvr⟩;rw [Array.getElem?_append_left (by simp; omega), Array.getElem?_append_right (by simp; omega)]
   simpa [hov] using hv)
 refine ⟨σ, q1, Ext.drawn q2 rfl rfl rfl rfl, ?_⟩;have hv := VR.slice (ρ := σ) h.nx 0 (sLen + m) es cap _ s1 hcap (by simp only [Nat.zero_add]; omega)
 exact hv
theorem JI (hr : HR ρ h.blk.get w) {t t' ty e : TypeId} {inf : TypeInfo} (ht : E.P.underlying t = some (.slice e)) (hi : E.ty.get e = some inf) {z : AV} (hz : E.zero e = some z) (hzl : z.cells.length = inf.size) {s a : AV} {sv xv : Value} {m : Nat} {news : List AV} {nv : List Value} {h' : Aa}
  (hs : VR ρ s sv) (hsrc : UX E.P w t' e inf xv m nv) (hn : VL ρ news nv) (hnl : news.length = m * inf.size) (ha : Dc inf s m news h = some (a, h')) (hf : Bg ρ h.nx h'.nx) :
  A7 E ρ h h' w (Builtin.append_ #[t, t'] ty #[sv, xv]) a := by
 obtain ⟨i', zv, i1, i2, i3⟩ := GK hz;rw [hi] at i1; cases i1;have hinf := hE.ty e inf hi
 have hzc : zv.cells.size = inf.size := by
  have := ((AR ρ i3).cells (Bx i3)).1;simp at this; omega
 cases hs with
 | slice0 =>
  simp only [Dc] at ha;cases hc : (Nat.ble m 4611686018427387904 && Nat.ble (m * inf.bytes) 140737488355328) with
  | false => simp [hc] at ha
  | true =>
   simp only [hc] at ha;obtain ⟨c1, c2⟩ := Av hc;have d1 := Dh c1;have d2 := Dh c2;cases m with
   | zero =>
    simp only [Option.some.injEq, Prod.mk.injEq] at ha;obtain ⟨rfl, rfl⟩ := ha;refine AB hr ⟨.slice none 0 0, ?_, .slice0⟩;rw [C8 t t' ty e inf ht hinf xv 0 nv hsrc none 0 0 (by omega)]
    rfl
   | succ m =>
    simp only [Option.some.injEq, Prod.mk.injEq] at ha;obtain ⟨rfl, rfl⟩ := ha;have hfree : ρ h.nx = none := hf h.nx (Nat.le_refl _) (by simp [BH, Aa.new])
    obtain ⟨cap, k1, k2⟩ := EV t t' ty e inf ht hinf zv i2 xv (m + 1) nv hsrc none 0 0 (by omega) (by omega) (by simpa using d2) #[] (fun w' _ => by simp [Builtin.firstCells])
    obtain ⟨σ, q1, q2, q3⟩ := KM hr hfree e (olds := []) (ov := []) hn 0 0 (m + 1) cap inf.size rfl (c := .ofList news) (by
     intro i a hi ha;rw [T.get_ofList] at ha;exact .inr ⟨Nat.zero_le _, by simpa using ha⟩) (Builtin.zeroCells zv.cells (cap - (0 + (m + 1)))) (by simp [hnl]) (by simp [Builtin.zeroCells, hzc]) k1
    simp only [Nat.zero_add] at q1 q2 q3 k2;exact ⟨σ, _, _, k2, q3, q1, q2⟩
 | slice b off n es cap base hb hcap hz2 =>
  simp only [Dc] at ha;cases hc : (Nat.beq inf.size es && El news && Nat.ble (n + m) 4611686018427387904 && Nat.ble ((n + m) * inf.bytes) 140737488355328) with
  | false => simp [hc] at ha
  | true =>
   simp only [hc] at ha;obtain ⟨c123, c4⟩ := Av hc;obtain ⟨c12, c3⟩ := Av c123;obtain ⟨c1, c2⟩ := Av c12;have d1 := AG c1;have d3 := Dh c3;have d4 := Dh c4;subst d1;cases m with
   | zero =>
    simp only [Option.some.injEq, Prod.mk.injEq] at ha;obtain ⟨rfl, rfl⟩ := ha
    have hnv : nv = [] := by
     have e1 := hn.1;rw [hnl] at e1;simpa using e1.symm
    subst hnv;refine AB hr ⟨.slice (some ⟨base.cb, base.co + off, none⟩) n cap, ?_, .slice b off n inf.size cap base hb hcap hz2⟩;rw [C8 t t' ty e inf ht hinf xv 0 [] hsrc _ n cap (by omega)]
    simp [storeCells]
   | succ m =>
    simp only [] at ha;cases hg : h.blk.get b with
    | none => simp [hg] at ha
    | some y =>
     cases y with
     | cells sz c =>
      simp only [hg] at ha
      have hnew : ∃ c', a = .slice h.nx 0 (n + (m + 1)) inf.size ∧ h' = (h.strike b).new (.cells (n * inf.size + news.length) c') ∧ off + n * inf.size ≤ sz ∧
        ∀ i a, i < n * inf.size + news.length → c'.get i = some a → (i < n * inf.size ∧ c.get (off + i) = some a) ∨ (n * inf.size ≤ i ∧ news[i - n * inf.size]? = some a) := by
       cases hq : (Nat.beq off 0 && Nat.beq (n * inf.size) sz) with
       | true =>
        simp only [hq, Option.some.injEq, Prod.mk.injEq] at ha;obtain ⟨rfl, rfl⟩ := ha;obtain ⟨g1, g2⟩ := Av hq;have e1 := AG g1;have e2 := AG g2;subst e1;refine ⟨_, rfl, rfl, by omega, ?_⟩
        intro i a hi ha;rw [FT] at ha;by_cases c : n * inf.size ≤ i ∧ i < n * inf.size + news.length
        ·rw [if_pos c] at ha; exact .inr ⟨c.1, ha⟩
        ·rw [if_neg c] at ha; exact .inl ⟨by omega, by simpa using ha⟩
       | false =>
        simp only [hq] at ha;cases hl : Cx h b off (n * inf.size) with
        | none => simp [hl] at ha
        | some olds =>
         simp only [hl, Option.some.injEq, Prod.mk.injEq] at ha;obtain ⟨rfl, rfl⟩ := ha;unfold Cx at hl;simp only [hg] at hl;cases hq2 : Nat.ble (off + n * inf.size) sz with
         | false => simp [hq2] at hl
         | true =>
          simp only [hq2] at hl;obtain ⟨l1, l2⟩ := T.range_spec c _ _ _ hl;refine ⟨_, rfl, rfl, Dh hq2, ?_⟩;intro i a hi ha;rw [T.get_ofList] at ha;by_cases c : i < n * inf.size
          ·rw [List.getElem?_append_left (by omega)] at ha
           exact .inl ⟨c, by rw [l2 i c]; exact ha⟩
          ·rw [List.getElem?_append_right (by omega), l1] at ha
           exact .inr ⟨by omega, ha⟩
      clear ha;obtain ⟨c', rfl, rfl, hoff, hc'⟩ := hnew;have hfree : ρ h.nx = none := hf h.nx (Nat.le_refl _) (by simp [Aa.new, Aa.strike])
      obtain ⟨cur, e1, fz, r1, r2, r3, r4, r5⟩ := hr.blk b base _ hb hg;have hnvl : nv.length = (m + 1) * inf.size := by rw [← hn.1, hnl]
      have hncap : n * inf.size ≤ cap * inf.size := Nat.mul_le_mul_right _ hcap;by_cases hroom : n + (m + 1) ≤ cap
      ·
       have hfit : (n + (m + 1)) * inf.size ≤ cap * inf.size := Nat.mul_le_mul_right _ hroom;rw [Nat.add_mul] at hfit;obtain ⟨w', cur', q1, q2, q3, q4, q5, q6, q7, q8, q9⟩ := Cg E.P base.cb (base.co + off + n * inf.size) e1 fz nv 0 w cur r1 (by rw [hnvl, r2]; omega) (by rw [r2]; exact r4) (HG c2 hn)
       have hx : BR (ρ.upd h.nx ⟨base.cb, base.co + off, base.csz⟩) (.cells (n * inf.size + news.length) c') ⟨base.cb, base.co + off, base.csz⟩ w'.heap[base.cb]? := by
        refine ⟨cur', e1, fz, q2, by rw [q3, r2], ?_, r4, ?_⟩
        ·show base.co + off + (n * inf.size + news.length) ≤ base.csz;rw [hnl]; omega
        ·intro i a hi ha;rw [q4];simp only [Nat.add_zero];rcases hc' i a hi ha with ⟨g1, g2⟩ | ⟨g1, g2⟩
         ·rw [if_neg (by omega)]
          obtain ⟨v, hv, hvr⟩ := r5 (off + i) a (by omega) g2
          exact ⟨v, by rw [← hv]; congr 1; omega, hvr.mono (Ren.le_upd hfree _)⟩
         ·rw [if_pos (by rw [hnvl, ← hnl]; omega)]
          obtain ⟨v, hv, hvr⟩ := hn.get g2;exact ⟨v, by rw [← hv]; congr 1; omega, hvr.mono (Ren.le_upd hfree _)⟩
       obtain ⟨p1, p2⟩ := hr.move hb (by rw [hg]; simp) hfree (base' := ⟨base.cb, base.co + off, base.csz⟩) rfl _ w' hx q5 q6 q7 q8 q9
       refine ⟨_, .slice (some ⟨base.cb, base.co + off, none⟩) (n + (m + 1)) cap, w', ?_, ?_, p1, p2⟩
       ·rw [C8 t t' ty e inf ht hinf xv (m + 1) nv hsrc _ n cap hroom];simp only [Cl];rw [q1];rfl
       ·have := VR.slice (ρ := ρ.upd h.nx ⟨base.cb, base.co + off, base.csz⟩) h.nx 0 (n + (m + 1)) inf.size cap _ (Ren.upd_same _ _ _) hroom (by simp only [Nat.add_zero]; omega)
        simpa using this
      ·
       have hov := AL E.P
       obtain ⟨cap', k1, k2⟩ := EV t t' ty e inf ht hinf zv i2 xv (m + 1) nv hsrc (some ⟨base.cb, base.co + off, none⟩) n cap (by omega) (by omega) d4 ((cur.toList.drop (base.co + off)).take (n * inf.size)).toArray (fun w' hw => by
        simp only [Builtin.firstCells];exact AL E.P w' base.cb (base.co + off) (n * inf.size) cur e1 fz (by rw [hw]; exact r1) (by rw [r2]; omega))
       obtain ⟨p1, p2⟩ := hr.strike b;have hovl : ((cur.toList.drop (base.co + off)).take (n * inf.size)).length = n * inf.size := by simp; omega
       obtain ⟨σ, q1, q2, q3⟩ := KM p1 hfree e (olds := []) (ov := (cur.toList.drop (base.co + off)).take (n * inf.size)) hn (n * inf.size) n (m + 1) cap' inf.size hovl (c := c') (by
        intro i a hi ha;rcases hc' i a hi ha with ⟨g1, g2⟩ | ⟨g1, g2⟩
        ·obtain ⟨v, hv, hvr⟩ := r5 (off + i) a (by omega) g2
         refine .inl ⟨v, g1, ?_, hvr⟩;rw [List.getElem?_take, if_pos g1, List.getElem?_drop, Array.getElem?_toList, ← hv]
         congr 1; omega
        ·exact .inr ⟨g1, g2⟩) (Builtin.zeroCells zv.cells (cap' - (n + (m + 1)))) (by rw [hnl, Nat.add_mul]) (by simp [Builtin.zeroCells, hzc]) k1
       refine ⟨σ, _, _, k2, q3, q1, p2.trans q2 ?_⟩;exact hf
     | _ => simp [hg] at ha
 | sliceEnd b off es ad =>
  simp only [Dc] at ha;cases hc : (Nat.beq inf.size es && El news && Nat.ble (0 + m) 4611686018427387904 && Nat.ble ((0 + m) * inf.bytes) 140737488355328) with
  | false => simp only [hc] at ha; cases ha
  | true =>
   simp only [hc] at ha;obtain ⟨c123, c4⟩ := Av hc;obtain ⟨c12, c3⟩ := Av c123;obtain ⟨c1, c2⟩ := Av c12;have d1 := AG c1;have d3 := Dh c3;have d4 := Dh c4;subst d1;cases m with
   | zero =>
    simp only [Option.some.injEq, Prod.mk.injEq] at ha;obtain ⟨rfl, rfl⟩ := ha
    have hnv : nv = [] := by
     have e1 := hn.1;rw [hnl] at e1;simpa using e1.symm
    subst hnv;refine AB hr ⟨.slice (some ad) 0 0, ?_, .sliceEnd b off inf.size ad⟩;rw [C8 t t' ty e inf ht hinf xv 0 [] hsrc _ 0 0 (by omega)]
    simp [storeCells]
   | succ m =>
    simp only [] at ha;cases hg : h.blk.get b with
    | none => simp [hg] at ha
    | some y =>
     cases y with
     | cells sz c =>
      simp only [hg] at ha
      have hnew : ∃ c', a = .slice h.nx 0 (0 + (m + 1)) inf.size ∧ h' = (h.strike b).new (.cells (0 * inf.size + news.length) c') ∧
        ∀ i a, i < 0 + news.length → c'.get i = some a → news[i]? = some a := by
       cases hq : (Nat.beq off 0 && Nat.beq (0 * inf.size) sz) with
       | true =>
        simp only [hq, Option.some.injEq, Prod.mk.injEq] at ha;obtain ⟨rfl, rfl⟩ := ha;refine ⟨_, rfl, rfl, ?_⟩;intro i a hi ha;rw [FT] at ha;rw [if_pos (by simp only [Nat.zero_mul]; omega)] at ha
        simpa using ha
       | false =>
        simp only [hq] at ha;cases hl : Cx h b off (0 * inf.size) with
        | none => simp only [hl] at ha; cases ha
        | some olds =>
         simp only [hl, Option.some.injEq, Prod.mk.injEq] at ha;obtain ⟨rfl, rfl⟩ := ha
         have ho : olds = [] := by
          unfold Cx at hl;simp only [hg, Nat.zero_mul] at hl;cases hq2 : Nat.ble (off + 0) sz with
          | false => simp only [hq2] at hl; cases hl
          | true => simp only [hq2, T.range, Option.some.injEq] at hl; exact hl.symm
         subst ho;refine ⟨_, rfl, rfl, ?_⟩;intro i a hi ha;rw [T.get_ofList] at ha;simpa using ha
      clear ha;obtain ⟨c', rfl, rfl, hc'⟩ := hnew;have hfree : ρ h.nx = none := hf h.nx (Nat.le_refl _) (by simp [Aa.new, Aa.strike])
      obtain ⟨cap', k1, k2⟩ := EV t t' ty e inf ht hinf zv i2 xv (m + 1) nv hsrc (some ad) 0 0 (by omega) (by omega) d4 #[] (fun w' hw => by simp [Builtin.firstCells, Go.loadCells, loadCellsFrom])
      obtain ⟨p1, p2⟩ := hr.strike b
      obtain ⟨σ, q1, q2, q3⟩ := KM p1 hfree e (olds := []) (ov := []) hn 0 0 (m + 1) cap' inf.size rfl (c := c') (by
       intro i a hi ha;exact .inr ⟨Nat.zero_le _, by simpa using hc' i a hi ha⟩) (Builtin.zeroCells zv.cells (cap' - (0 + (m + 1)))) (by simp [hnl]) (by simp [Builtin.zeroCells, hzc]) k1
      simp only [Nat.zero_mul] at hf ⊢;exact ⟨σ, _, _, k2, q3, q1, p2.trans q2 hf⟩
     | _ => simp [hg] at ha
 | _ => simp [Dc] at ha
theorem Lw (hr : HR ρ h.blk.get w) {t t' ty : TypeId} {s x a : AV} {sv xv : Value} {h' : Aa} (hs : VR ρ s sv) (hx : VR ρ x xv) (ha : Io E t t' s x h = some (a, h')) (hf : Bg ρ h.nx h'.nx) :
  A7 E ρ h h' w (Builtin.append_ #[t, t'] ty #[sv, xv]) a := by
 unfold Io at ha;cases hd : E.desc t with
 | none => simp [hd] at ha
 | some d =>
  cases d with
  | slice e =>
   simp only [hd] at ha;cases hi : E.ty.get e with
   | none => simp [hi] at ha
   | some inf =>
    simp only [hi] at ha;cases hz : E.zero e with
    | none => simp [hz] at ha
    | some z =>
     simp only [hz] at ha;cases hzq : Nat.beq z.cells.length inf.size with
     | false => simp [hzq] at ha
     | true =>
     simp only [hzq] at ha;have hzl := AG hzq
     have cellsrc : ∀ (d' : TypeDesc), E.desc t' = some d' → ((∃ e', d' = .slice e') ∨ d' = .string) → (match GR x with
       | none => none
       | some m => match Lh h inf.size m x with
        | none => none
        | some news => Dc inf s m news h) = some (a, h') → A7 E ρ h h' w (Builtin.append_ #[t, t'] ty #[sv, xv]) a := by
      intro d' hd' hk hq;cases hl : GR x with
      | none => simp [hl] at hq
      | some m =>
       simp only [hl] at hq;cases hsr : Lh h inf.size m x with
       | none => simp [hsr] at hq
       | some news =>
        simp only [hsr] at hq;obtain ⟨vs, v1, v2, v3, v4⟩ := Sa hr E.P hx hl (Nat.le_refl m) hsr;exact JI hE hr (hE.und hd) hi hz hzl hs (.cells d' (hE.und hd') hk v3 v4) v1 v2 hq hf
     cases hd' : E.desc t' with
     | none => simp [hd'] at ha
     | some d' =>
      cases d' with
      | int k =>
       simp only [hd'] at ha;cases hn : Dj x with
       | none => simp [hn] at ha
       | some m =>
        simp only [hn] at ha;cases hc : (Nat.ble m 1048576 && Nat.ble (m * inf.bytes) 140737488355328) with
        | false => simp [hc] at ha
        | true =>
         simp only [hc] at ha;obtain ⟨c1, c2⟩ := Av hc;obtain ⟨k', rfl⟩ := Cv hx hn;obtain ⟨i', zv, i1, i2, i3⟩ := GK hz;rw [hi] at i1; cases i1;have zc := (AR ρ i3).cells (Bx i3);have hzs : zv.cells.size = inf.size := by have := zc.1; simp at this; omega
         have hv := ED zc m zv.cells (.inr rfl)
         have hnv : ((Array.range (m * z.cells.length)).map (zv.cells[· % zv.cells.size]!)).toList.toArray = Builtin.zeroCells zv.cells m := by
          rw [Array.toArray_toList, Builtin.zeroCells, hzs, hzl]
         refine JI hE hr (hE.und hd) hi hz hzl hs (.zeros k k' (hE.und hd') rfl (Dh c1) (Dh c2) zv i2 hzs hnv) hv (by rw [Cf, hzl]) ha hf
      | slice e' => simp only [hd'] at ha; exact cellsrc _ hd' (.inl ⟨e', rfl⟩) ha
      | string => simp only [hd'] at ha; exact cellsrc _ hd' (.inr rfl) ha
      | _ => simp [hd'] at ha
  | _ => simp [hd] at ha
theorem WC (hr : HR ρ h.blk.get w) {t t' ty : TypeId} {d x a : AV} {dv xv : Value} {h' : Aa} (hdv : VR ρ d dv) (hx : VR ρ x xv) (ha : RN E t d x h = some (a, h')) (ats : Array TypeId) (hat : ats[0]? = some t) :
  A7 E ρ h h' w (Builtin.copy_ ats ty #[dv, xv]) a := by
 unfold RN at ha;cases hd : E.desc t with
 | none => simp [hd] at ha
 | some ds =>
  cases ds with
  | slice e =>
   simp only [hd] at ha;cases hi : E.ty.get e with
   | none => simp [hi] at ha
   | some inf =>
    simp only [hi] at ha;cases hn : GR d with
    | none => simp [hn] at ha
    | some n =>
     cases hm : GR x with
     | none => simp [hn, hm] at ha
     | some m =>
      simp only [hn, hm] at ha;cases hs : Lh h inf.size (min m n) x with
      | none => simp [hs] at ha
      | some l =>
       simp only [hs] at ha;obtain ⟨vs, v1, v2, v3, v4⟩ := Sa hr E.P hx hm (Nat.min_le_left _ _) hs;have v5 := v4 w rfl
       have hrun : ∀ (bs : Option Addr) (cap : Nat), (Builtin.copy_ ats ty #[.slice bs n cap, xv]).run E.P w =
         ((match bs with | some a => storeCells a vs | none => pure ()).run E.P w).andThen fun _ w' => .ok (goInt (min m n : Nat)) w' := by
        intro bs cap;unfold Builtin.copy_;simp only [hat, List.getElem?_toArray, List.getElem?_cons_zero, List.getElem?_cons_succ, Sem.run_bind, hE.run_und hd, Result.andThen_ok, v3, hE.run_sz hi];have : Nat.min m n = min m n := rfl;rw [this, v5];simp only [Result.andThen_ok];cases bs <;> simp
       cases hdv with
       | slice0 =>
        simp only [GR, Option.some.injEq] at hn;subst hn;simp only [Option.some.injEq, Prod.mk.injEq] at ha;obtain ⟨rfl, rfl⟩ := ha;refine AB hr ⟨goInt (min m 0 : Nat), by rw [hrun none 0]; simp, ?_⟩
        rw [Nat.min_zero];exact .int _ _
       | slice b off k es cap base hb hcap hz =>
        simp only [GR, Option.some.injEq] at hn;subst hn;simp only [] at ha;cases he : Nat.beq inf.size es with
        | false => simp [he] at ha
        | true =>
         simp only [he] at ha;cases l with
         | nil =>
          simp only [Option.some.injEq, Prod.mk.injEq] at ha;obtain ⟨rfl, rfl⟩ := ha;have := v1.nil_inv;subst this;exact AB hr ⟨goInt (min m k : Nat), by rw [hrun]; simp [storeCells], .int _ _⟩
         | cons l0 lr =>
          simp only [] at ha;cases hst : storeN h b off (l0 :: lr) with
          | none => simp [hst] at ha
          | some h2 =>
           simp only [hst, Option.some.injEq, Prod.mk.injEq] at ha;obtain ⟨rfl, rfl⟩ := ha;obtain ⟨w', q1, q2, q3⟩ := hr.storeN E.P hb v1 hst;exact ⟨ρ, goInt (min m k : Nat), w', by rw [hrun]; simp only []; rw [q1]; rfl, .int _ _, q2, q3⟩
       | sliceEnd b off es ad =>
        simp only [GR, Option.some.injEq] at hn;subst hn;simp only [] at ha;cases he : Nat.beq inf.size es with
        | false => simp [he] at ha
        | true =>
         simp only [he] at ha
         have hl0 : l = [] := by
          rw [Nat.min_zero, Nat.zero_mul] at v2;exact List.eq_nil_of_length_eq_zero v2
         subst hl0;simp only [Option.some.injEq, Prod.mk.injEq] at ha;obtain ⟨rfl, rfl⟩ := ha;have := v1.nil_inv;subst this;exact AB hr ⟨goInt (min m 0 : Nat), by rw [hrun]; simp [storeCells], .int _ _⟩
       | _ => simp at ha
  | _ => simp [hd] at ha
end
end Go.AE
namespace Go.AE
variable [U : Unk]
section
variable {E : Env} (hE : OK E) {ρ : Ren} {w : World}
include hE
theorem J5 {d : Nat} (ih : ∀ (t : TypeId) (x y : AV) (r : Bool) (xv yv : Value), aeq E d t x y = some r → VR ρ x xv → VR ρ y yv → (Op.equalIn d t xv yv).run E.P w = .ok r w)
  {xs ys : List AV} {xs' ys' : List Value} (hx : VL ρ xs xs') (hy : VL ρ ys ys') : ∀ {fs : List Field} {r : Bool}, eqFields E (aeq E d) xs ys fs = some r →
  (Op.eqFields d xs'.toArray ys'.toArray fs).run E.P w = .ok r w
 | [], r, h => by simp only [eqFields, Option.some.injEq] at h; subst h; simp [Op.eqFields]
 | f :: fs, r, h => by
  simp only [eqFields] at h;cases hn : (f.name == "_") with
  | true => simp [hn] at h
  | false =>
   simp only [hn] at h;have hne : f.name ≠ "_" := by simpa using hn
   cases h1 : CC E f.type xs f.offset with
   | none => simp [h1] at h
   | some a =>
    cases h2 : CC E f.type ys f.offset with
    | none => simp [h1, h2] at h
    | some b =>
     simp only [h1, h2] at h;obtain ⟨av, q1, q2⟩ := hE.run_part h1 hx w;obtain ⟨bv, q3, q4⟩ := hE.run_part h2 hy w;cases h3 : aeq E d f.type a b with
     | none => simp [h3] at h
     | some r3 =>
      have q5 := ih _ _ _ _ _ _ h3 q2 q4;simp only [Op.eqFields, ne_eq, hne, not_false_eq_true, if_true, Sem.run_bind, q1, q3, q5, Result.andThen_ok];cases r3 with
      | true => simp only [h3] at h; simp only [Bool.not_true, Bool.false_eq_true, if_false]; exact J5 ih hx hy h
      | false => simp only [h3, Option.some.injEq] at h; subst h; simp
theorem KP {d : Nat} (ih : ∀ (t : TypeId) (x y : AV) (r : Bool) (xv yv : Value), aeq E d t x y = some r → VR ρ x xv → VR ρ y yv → (Op.equalIn d t xv yv).run E.P w = .ok r w)
  {xs ys : List AV} {xs' ys' : List Value} (hx : VL ρ xs xs') (hy : VL ρ ys ys') {e : TypeId} {n : Nat} : ∀ {k i : Nat} {r : Bool}, Is E (aeq E d) e n xs ys k i = some r →
  (Op.eqItems d e n xs'.toArray ys'.toArray (List.range' i k)).run E.P w = .ok r w
 | 0, i, r, h => by simp only [Is, Option.some.injEq] at h; subst h; simp [Op.eqItems]
 | k + 1, i, r, h => by
  simp only [Is] at h;cases h1 : CC E e xs (i * n) with
  | none => simp [h1] at h
  | some a =>
   cases h2 : CC E e ys (i * n) with
   | none => simp [h1, h2] at h
   | some b =>
    simp only [h1, h2] at h;obtain ⟨av, q1, q2⟩ := hE.run_part h1 hx w;obtain ⟨bv, q3, q4⟩ := hE.run_part h2 hy w;cases h3 : aeq E d e a b with
    | none => simp [h3] at h
    | some r3 =>
     have q5 := ih _ _ _ _ _ _ h3 q2 q4;simp only [List.range'_succ, Op.eqItems, Sem.run_bind, q1, q3, q5, Result.andThen_ok];cases r3 with
     | true => simp only [h3] at h; simp only [Bool.not_true, Bool.false_eq_true, if_false]; exact KP ih hx hy h
     | false => simp only [h3, Option.some.injEq] at h; subst h; simp
set_option maxHeartbeats 1000000 in
theorem QT : ∀ (d : Nat) (t : TypeId) (x y : AV) (r : Bool) (xv yv : Value), aeq E d t x y = some r → VR ρ x xv → VR ρ y yv → (Op.equalIn d t xv yv).run E.P w = .ok r w := by
 intro d
 induction d with
 | zero => intro t x y r xv yv h; simp [aeq] at h
 | succ d ih =>
  intro t x y r xv yv h hx hy;simp only [aeq] at h;cases hd : E.desc t with
  | none => rw [hd] at h; cases h
  | some ds =>
   rw [hd] at h;have hu := hE.run_und hd w;have fin : ∀ b : Bool, some b = some r → b = r := fun b e => by simpa using e
   cases ds with
   | bool =>
    cases hx <;> first | (cases h; done) | skip
    cases hy <;> first | (cases h; done) | skip
    rw [← fin _ h]; simp [Op.equalIn, hu]
   | int k0 =>
    cases hx <;> first | (cases h; done) | skip
    cases hy <;> first | (cases h; done) | skip
    rename_i k a k' b;by_cases hk : k = k'
    ·subst hk; simp only [decide_true, Option.some.injEq] at h; subst h; simp [Op.equalIn, hu]
    ·simp [hk] at h
   | string =>
    cases hx <;> first | (cases h; done) | skip
    cases hy <;> first | (cases h; done) | skip
    rename_i s s';simp only [Option.some.injEq] at h;subst h;rw [Cc];simp only [Op.equalIn, Sem.run_bind, hu, Result.andThen_ok, Sem.run_pure];rw [beq_toListBytes]
   | pointer e =>
    cases hx <;> first | (cases h; done) | skip
    all_goals
     cases hy <;> first | (cases h; done) | skip
    all_goals (rw [← fin _ h]; simp [Op.equalIn, hu])
   | interface ms =>
    cases hx <;> first | (cases h; done) | skip
    ·rename_i tx a v hv;cases hy <;> first | (cases h; done) | skip
     ·rename_i ty b v' hv';simp only [] at h;cases hq : Nat.beq tx ty with
      | false =>
       simp only [hq, Option.some.injEq] at h;subst h;have := Tw hq;simp [Op.equalIn, hu, this]
      | true =>
       simp only [hq] at h;have := AG hq;subst this;cases hi : E.ty.get tx with
       | none => simp [hi] at h
       | some inf =>
        simp only [hi] at h;cases hc : inf.comparable with
        | false => simp [hc] at h
        | true =>
         simp only [hc] at h;have := ih _ _ _ _ _ _ h hv hv';simp [Op.equalIn, hu, hE.run_info hi, hc, this]
     ·rw [← fin _ h]; simp [Op.equalIn, hu]
    ·cases hy <;> first | (cases h; done) | skip
     all_goals (rw [← fin _ h]; simp [Op.equalIn, hu])
   | struct fs =>
    cases hx <;> first | (cases h; done) | skip
    cases hy <;> first | (cases h; done) | skip
    rename_i xs xs' a1 a2 ys ys' b1 b2;simp only [] at h;cases hs : E.P.stoodInHeld t with
    | true => simp [hs] at h
    | false =>
     simp only [hs] at h;have hund := hE.und hd;have hfo : E.P.fieldsOf t = fs := by simp [Program.fieldsOf, hund]
     rw [run_equalIn_struct w d t xs'.toArray ys'.toArray (by rw [hfo]; exact hund) hs, hfo]
     exact J5 hE ih ⟨a1, a2⟩ ⟨b1, b2⟩ h
   | array len e =>
    cases hx <;> first | (cases h; done) | skip
    cases hy <;> first | (cases h; done) | skip
    rename_i xs xs' a1 a2 ys ys' b1 b2;simp only [] at h;cases hh : E.has e with
    | false => simp [hh] at h
    | true =>
     simp only [hh] at h;unfold Env.has at hh;cases hi : E.ty.get e with
     | none => simp [hi] at hh
     | some inf =>
      have hcs : E.P.cellsOf e = E.size e := by simp [Program.cellsOf, hE.ty e inf hi, Env.size, hi]
      rw [run_equalIn_array w d xs'.toArray ys'.toArray (hE.und hd) (hE.ty e inf hi), hcs, List.range_eq_range'];exact KP hE ih ⟨a1, a2⟩ ⟨b1, b2⟩ h
   | slice e =>
    cases hx <;> first | (cases h; done) | skip
    all_goals
     cases hy <;> first | (cases h; done) | skip
    all_goals (rw [← fin _ h]; simp [Op.equalIn, hu])
   | map k e =>
    cases hx <;> first | (cases h; done) | skip
    all_goals
     cases hy <;> first | (cases h; done) | skip
    all_goals (rw [← fin _ h]; simp [Op.equalIn, hu])
   | func ps rs v =>
    cases hx <;> first | (cases h; done) | skip
    all_goals
     cases hy <;> first | (cases h; done) | skip
    all_goals (rw [← fin _ h]; simp [Op.equalIn, hu])
   | _ => cases hx <;> first | (cases h; done) | (cases hy <;> (cases h; done))
end
end Go.AE
namespace Go.AE
variable [U : Unk]
theorem Dq (k : IntKind) (x : Int) : (BitVec.ofInt k.bits x).toNat = bits k x := by
 simp [bits, BitVec.toNat_ofInt]
section
variable {E : Env} (hE : OK E) {ρ : Ren} {h : Aa} {w : World}
theorem Jb {op : BinOp} {k : IntKind} {a b : Int} {r : AV} (t : TypeId) (hs : op ≠ .shl) (hs' : op ≠ .shr) (hr : Dw op k a b = some r) :
    ∃ v, (binOp op t (.int k a) (.int k b)).run E.P w = .ok v w ∧ VR ρ r v := by
  cases op <;> simp only [Dw] at hr <;> first | (cases hr; done) | skip
  case quo =>
    cases hb : (b == 0) with
    | true => simp [hb] at hr
    | false =>
      simp only [hb, Option.some.injEq] at hr;have : b ≠ 0 := by simpa using hb
      subst hr;exact ⟨_, by simp [binOp, Op.intDiv, this], .int _ _⟩
  case rem =>
    cases hb : (b == 0) with
    | true => simp [hb] at hr
    | false =>
      simp only [hb, Option.some.injEq] at hr;have : b ≠ 0 := by simpa using hb
      subst hr;exact ⟨_, by simp [binOp, Op.intDiv, this], .int _ _⟩
  case and =>
    simp only [Option.some.injEq] at hr;subst hr;refine ⟨_, by simp only [binOp, Op.intBits, ne_eq, not_true_eq_false, if_false, Sem.run_pure]; rfl, ?_⟩
    rw [BitVec.toNat_and, Dq, Dq];exact .int _ _
  case or =>
    simp only [Option.some.injEq] at hr;subst hr;refine ⟨_, by simp only [binOp, Op.intBits, ne_eq, not_true_eq_false, if_false, Sem.run_pure]; rfl, ?_⟩
    rw [BitVec.toNat_or, Dq, Dq];exact .int _ _
  case xor =>
    simp only [Option.some.injEq] at hr;subst hr;refine ⟨_, by simp only [binOp, Op.intBits, ne_eq, not_true_eq_false, if_false, Sem.run_pure]; rfl, ?_⟩
    rw [BitVec.toNat_xor, Dq, Dq];exact .int _ _
  all_goals
    simp only [Option.some.injEq] at hr;subst hr;refine ⟨_, by simp only [binOp, Op.intArith, Op.intCmp, ne_eq, not_true_eq_false, if_false, Sem.run_pure]; rfl, ?_⟩
    first
      | exact .int _ _
      | exact .bool _
      | (rename_i pos e; have h := VR.sb (ρ := ρ) (!pos) e; have h2 : (!(Ah U.V e == pos)) = (Ah U.V e == !pos) := by cases Ah U.V e <;> cases pos <;> rfl
         rw [h2]; exact h)
theorem MD (d : Nat) (t : TypeId) (x y : AV) (hx : x.isSym = true) : aeq E d t x y = none := by
 cases d with
 | zero => rfl
 | succ d =>
  simp only [aeq];cases E.desc t with
  | none => rfl
  | some ds => cases x <;> first | (cases hx; done) | (cases ds <;> rfl)
theorem NA (d : Nat) (t : TypeId) (x y : AV) (hy : y.isSym = true) : aeq E d t x y = none := by
 cases d with
 | zero => rfl
 | succ d =>
  simp only [aeq];cases E.desc t with
  | none => rfl
  | some ds => cases y <;> first | (cases hy; done) | (cases ds <;> cases x <;> rfl)
theorem TH {op : BinOp} {k k' : IntKind} {a b : Int} {r : AV} (t : TypeId) (hs : op = .shl ∨ op = .shr) (hr : LZ op k a b = some r) :
  ∃ v, (binOp op t (.int k a) (.int k' b)).run E.P w = .ok v w ∧ VR ρ r v := by
 unfold LZ at hr;by_cases hb : b < 0
 ·simp [hb] at hr
 ·simp only [hb, decide_false] at hr;rcases hs with rfl | rfl
  ·simp only [Option.some.injEq] at hr;subst hr;exact ⟨_, by simp only [binOp, Op.shift, hb, if_false, Sem.run_pure], .int _ _⟩
  ·simp only [Option.some.injEq] at hr;subst hr;exact ⟨_, by simp only [binOp, Op.shift, hb, if_false, Sem.run_pure], .int _ _⟩
theorem Nz {op : BinOp} {s s' : ByteArray} {r : AV} (t : TypeId) (hr : Ot op s.data.toList.length (AH s.data.toList) s'.data.toList.length (AH s'.data.toList) = some r) :
  ∃ v, (binOp op t (.string s) (.string s')).run E.P w = .ok v w ∧ VR ρ r v := by
 have hless := NH (s.data.toList.length + 1) s.data.toList s'.data.toList (Nat.lt_succ_self _);have e1 := ByteArray.toList_eq s;have e2 := ByteArray.toList_eq s';cases op <;> simp only [Ot] at hr <;> first | (cases hr; done) | skip
 case add =>
  cases hc : Nat.ble (s.data.toList.length + s'.data.toList.length) 4611686018427387904 with
  | false => simp only [hc] at hr; cases hr
  | true =>
   simp only [hc, Option.some.injEq] at hr;subst hr;have hle := Dh hc;have hsz : s.size = s.data.toList.length := by simp
   have hsz' : s'.size = s'.data.toList.length := by simp
   refine ⟨.string (s ++ s'), ?_, ?_⟩
   ·have hmax : ¬ (((s.size + s'.size : Nat) : Int) > IntKind.i64.max) := by
     simp only [IntKind.max, IntKind.signed, IntKind.bits]; omega
    simp only [binOp, Op.stringOp];rw [if_neg hmax];rfl
   ·have hv := VR.str (ρ := ρ) (s ++ s');have hd : (s ++ s').data.toList = s.data.toList ++ s'.data.toList := by simp [ByteArray.data_append]
    rw [hd, List.length_append, FH, ← Oq] at hv;exact hv
 all_goals
  simp only [Option.some.injEq] at hr;subst hr;refine ⟨_, by simp only [binOp, Op.stringOp, Sem.run_pure]; rfl, ?_⟩
  first
   | (rw [Cc]; exact .bool _)
   | (rw [hless, Cc, e1, e2]; exact .bool _)
   | (rw [hless, e1, e2]; exact .bool _)
theorem aZ {op : UnOp} {x r : AV} {xv : Value} (hx : VR ρ x xv) (hr : unA op x = some r) : ∃ v, (Op.unary op xv).run E.P w = .ok v w ∧ VR ρ r v := by
  cases op <;> cases hx <;> simp only [unA] at hr <;> first | (cases hr; done) | skip
  all_goals
    simp only [Option.some.injEq] at hr;subst hr;refine ⟨_, by simp only [Op.unary, Op.intArith, Sem.run_pure]; rfl, ?_⟩
    first
      | exact .int _ _
      | exact .bool _
      | (rename_i pos e; have h := VR.sb (ρ := ρ) (!pos) e; have h2 : (!(Ah U.V e == pos)) = (Ah U.V e == !pos) := by cases Ah U.V e <;> cases pos <;> rfl
         rw [h2]; exact h)
theorem B6 {op : BinOp} {t : TypeId} {x y : Operand} {a b : Value} (h1 : ¬ (a = .nilIface ∧ b = .nilIface)) (h2 : (∃ xs, a = .agg xs) → (∃ ys, b = .agg ys) → E.P.eqGuardType E.P.depth t = false) :
  (eqGuard op t x y a b).run E.P w = .ok () w := by
 unfold eqGuard;cases op <;> (try (simp; done))
 all_goals
  cases a <;> cases b <;> first
   | (simp; done)
   | (exact absurd ⟨rfl, rfl⟩ h1)
   | (rename_i xs ys; simp [h2 ⟨xs, rfl⟩ ⟨ys, rfl⟩])
theorem Nf (d : Nat) (t : TypeId) (y : AV) : aeq E d t .top y = none := by
 cases d with
 | zero => rfl
 | succ d =>
  simp only [aeq];cases E.desc t with
  | none => rfl
  | some ds => cases ds <;> rfl
theorem M4 (d : Nat) (t : TypeId) (x : AV) : aeq E d t x .top = none := by
 cases d with
 | zero => rfl
 | succ d =>
  simp only [aeq];cases E.desc t with
  | none => rfl
  | some ds => cases ds <;> cases x <;> rfl
theorem Ej (t : TypeId) (xv yv : Value) (h1 : ¬ ∃ k a k' b, xv = .int k a ∧ yv = .int k' b) (h2 : ¬ ∃ k a k' b, xv = .float k a ∧ yv = .float k' b) (h3 : ¬ ∃ k a b k' c d, xv = .complex k a b ∧ yv = .complex k' c d) (h4 : ¬ ∃ a b, xv = .string a ∧ yv = .string b) :
  binOp .eql t xv yv = (do pure (.bool (← Op.equal t xv yv))) ∧ binOp .neq t xv yv = (do pure (.bool (!(← Op.equal t xv yv)))) := by
 cases xv <;> cases yv <;> first
  | exact ⟨rfl, rfl⟩
  | exact absurd ⟨_, _, _, _, rfl, rfl⟩ h1
  | exact absurd ⟨_, _, _, _, rfl, rfl⟩ h2
  | exact absurd ⟨_, _, _, _, _, _, rfl, rfl⟩ h3
  | exact absurd ⟨_, _, rfl, rfl⟩ h4
include hE
theorem Uz {t : TypeId} {x y : AV} {xv yv : Value} {b : Bool} (hx : VR ρ x xv) (hy : VR ρ y yv) (hb : aeq E 10000 t x y = some b) (hi : ¬ ∃ k a k' b, x = .int k a ∧ y = .int k' b) (hs : ¬ ∃ l a l' b, x = .str l a ∧ y = .str l' b) :
  (binOp .eql t xv yv).run E.P w = .ok (.bool b) w ∧ (binOp .neq t xv yv).run E.P w = .ok (.bool (!b)) w := by
 have hxt : x ≠ .top := by rintro rfl; rw [Nf] at hb; cases hb
 have hyt : y ≠ .top := by rintro rfl; rw [M4] at hb; cases hb
 have hrun := QT (w := w) hE 10000 t x y b xv yv hb hx hy
 obtain ⟨q1, q2⟩ := Ej t xv yv (by
   rintro ⟨k, a, k', c, rfl, rfl⟩
   cases hx with
   | top => exact hxt rfl
   | si k e => rw [MD _ _ _ _ rfl] at hb; cases hb
   | int => cases hy with
    | top => exact hyt rfl
    | si k e => rw [NA _ _ _ _ rfl] at hb; cases hb
    | int => exact hi ⟨_, _, _, _, rfl, rfl⟩) (by
   rintro ⟨k, a, k', c, rfl, rfl⟩
   cases hx; exact hxt rfl) (by
   rintro ⟨k, a, b', k', c, d, rfl, rfl⟩
   cases hx; exact hxt rfl) (by
   rintro ⟨a, c, rfl, rfl⟩
   cases hx with
   | top => exact hxt rfl
   | ss i => rw [MD _ _ _ _ rfl] at hb; cases hb
   | str => cases hy with
    | top => exact hyt rfl
    | ss i => rw [NA _ _ _ _ rfl] at hb; cases hb
    | str => exact hs ⟨_, _, _, _, rfl, rfl⟩)
 rw [q1, q2];simp only [Op.equal, Op.maxDepth, Sem.run_bind, hrun, Result.andThen_ok, Sem.run_pure];exact ⟨trivial, trivial⟩
theorem R9 {op : BinOp} {t : TypeId} {ox oy : Operand} {x y r : AV} {xv yv : Value} (hx : VR ρ x xv) (hy : VR ρ y yv) (hr : QQ E op t x y = some r) :
  ∃ v, (do eqGuard op t ox oy xv yv; binOp op t xv yv : Sem Value).run E.P w = .ok v w ∧ VR ρ r v := by
 have eqs : (¬ ∃ k a k' b, x = .int k a ∧ y = .int k' b) → (¬ ∃ l a l' b, x = .str l a ∧ y = .str l' b) → (¬ (x = .nilIface ∧ y = .nilIface)) → ((∃ xs, x = .agg xs) → (∃ ys, y = .agg ys) → E.P.eqGuardType E.P.depth t = false) →
   (match op with
    | .eql => (aeq E 10000 t x y).map AV.bool
    | .neq => (aeq E 10000 t x y).map fun b => AV.bool (!b)
    | _ => none) = some r → ∃ v, (do eqGuard op t ox oy xv yv; binOp op t xv yv : Sem Value).run E.P w = .ok v w ∧ VR ρ r v := by
  intro h1 h2 h3 h4 h5
  have hab : ∃ b, aeq E 10000 t x y = some b := by
   cases hb : aeq E 10000 t x y with
   | some b => exact ⟨b, rfl⟩
   | none => cases op <;> simp [hb] at h5
  obtain ⟨b, hb⟩ := hab;have hxt : x ≠ .top := by rintro rfl; rw [Nf] at hb; cases hb
  have hyt : y ≠ .top := by rintro rfl; rw [M4] at hb; cases hb
  have hg : (eqGuard op t ox oy xv yv).run E.P w = .ok () w := B6 (by
    rintro ⟨rfl, rfl⟩
    cases hx with
    | top => exact hxt rfl
    | nilIface => cases hy with
     | top => exact hyt rfl
     | nilIface => exact h3 ⟨rfl, rfl⟩) (by
    rintro ⟨xs, rfl⟩ ⟨ys, rfl⟩
    cases hx with
    | top => exact absurd rfl hxt
    | agg => cases hy with
     | top => exact absurd rfl hyt
     | agg => exact h4 ⟨_, rfl⟩ ⟨_, rfl⟩)
  obtain ⟨q1, q2⟩ := Uz (w := w) hE hx hy hb h1 h2;rw [hb] at h5;cases op <;> simp only [Option.map_some, Option.some.injEq] at h5 <;> first | (cases h5; done) | skip
  ·subst h5; exact ⟨_, by simp only [Sem.run_bind, hg, Result.andThen_ok, q1], .bool _⟩
  ·subst h5; exact ⟨_, by simp only [Sem.run_bind, hg, Result.andThen_ok, q2], .bool _⟩
 have nog : ∀ {a b : Value}, (¬ (a = .nilIface ∧ b = .nilIface)) → (¬ ∃ xs, a = .agg xs) → (eqGuard op t ox oy a b).run E.P w = .ok () w :=
  fun h1 h2 => B6 h1 (fun h _ => absurd h h2)
 cases x with
 | int k a =>
  cases y with
  | int k' b =>
   cases hx; cases hy;have hg := nog (a := .int k a) (b := .int k' b) (by simp) (by simp)
   by_cases hsh : op = .shl ∨ op = .shr
   ·have hr' : LZ op k a b = some r := by rcases hsh with rfl | rfl <;> simpa [QQ] using hr
    obtain ⟨v, q1, q2⟩ := TH (E := E) (w := w) (ρ := ρ) (k' := k') t hsh hr';exact ⟨v, by simp only [Sem.run_bind, hg, Result.andThen_ok, q1], q2⟩
   ·have hs1 : op ≠ .shl := fun e => hsh (.inl e)
    have hs2 : op ≠ .shr := fun e => hsh (.inr e)
    have hr' : (match decide (k = k') with | true => Dw op k a b | false => none) = some r := by
     cases op <;> first | exact hr | exact absurd rfl hs1 | exact absurd rfl hs2
    by_cases hk : k = k'
    ·subst hk;simp only [decide_true] at hr';obtain ⟨v, q1, q2⟩ := Jb (E := E) (w := w) (ρ := ρ) t hs1 hs2 hr';exact ⟨v, by simp only [Sem.run_bind, hg, Result.andThen_ok, q1], q2⟩
    ·simp [hk] at hr'
  | _ => exact eqs (by simp) (by simp) (by simp) (by simp) (by cases op <;> exact hr)
 | str l a =>
  cases y with
  | str l' b =>
   cases hx; cases hy;rename_i s s';have hg := nog (a := .string s) (b := .string s') (by simp) (by simp)
   simp only [QQ] at hr;obtain ⟨v, q1, q2⟩ := Nz (E := E) (w := w) (ρ := ρ) t hr;exact ⟨v, by simp only [Sem.run_bind, hg, Result.andThen_ok, q1], q2⟩
  | _ => exact eqs (by simp) (by simp) (by simp) (by simp) (by cases op <;> exact hr)
 | agg xs =>
  cases y with
  | agg ys =>
   simp only [QQ] at hr;cases hq : E.P.eqGuardType E.P.depth t with
   | true => simp [hq] at hr
   | false => simp only [hq] at hr; exact eqs (by simp) (by simp) (by simp) (fun _ _ => hq) (by cases op <;> exact hr)
  | _ => exact eqs (by simp) (by simp) (by simp) (by simp) (by cases op <;> exact hr)
 | nilIface =>
  cases y with
  | nilIface => simp [QQ] at hr
  | _ => exact eqs (by simp) (by simp) (by simp) (by simp) (by cases op <;> exact hr)
 | _ => exact eqs (by simp) (by simp) (by simp) (by simp) (by cases op <;> exact hr)
end
end Go.AE
namespace Go.AE
theorem SE.same_eq {a b : SE} (h : a.same b = true) : a = b := by
 induction a generalizing b <;> cases b <;> simp only [SE.same, Bool.and_eq_true, decide_eq_true_eq, beq_iff_eq, Bool.false_eq_true, Nat.beq_eq] at h <;> grind
theorem W9 {a b : Fn} (h : ZP a b = true) : a = b := by
 cases a <;> cases b <;> simp_all [ZP]
mutual
theorem GV : ∀ (a b : AV), BD a b = true → a = b
 | .top, b, h => by cases b <;> simp_all [BD]
 | .bool _, b, h => by cases b <;> simp_all [BD]
 | .int _ _, b, h => by cases b <;> simp_all [BD]
 | .str _ _, b, h => by cases b <;> simp_all [BD]
 | .ptr0, b, h => by cases b <;> simp_all [BD]
 | .ptr _ _, b, h => by cases b <;> simp_all [BD]
 | .slice0, b, h => by cases b <;> simp_all [BD]
 | .slice _ _ _ _, b, h => by cases b <;> simp_all [BD]
 | .map0, b, h => by cases b <;> simp_all [BD]
 | .map _, b, h => by cases b <;> simp_all [BD]
 | .func fn f c, b, h => by
  cases b with
  | func fn' f' c' =>
   simp only [BD, Bool.and_eq_true] at h;rw [W9 h.1.1, Fl f f' h.1.2, Fl c c' h.2]
  | _ => simp [BD] at h
 | .nilFunc, b, h => by cases b <;> simp_all [BD]
 | .iface t v, b, h => by
  cases b with
  | iface t' v' =>
   simp only [BD, Bool.and_eq_true] at h;rw [Nat.eq_of_beq_eq_true h.1, GV v v' h.2]
  | _ => simp [BD] at h
 | .nilIface, b, h => by cases b <;> simp_all [BD]
 | .agg l, b, h => by
  cases b with
  | agg l' =>
   simp only [BD] at h;rw [Fl l l' h]
  | _ => simp [BD] at h
 | .tuple l, b, h => by
  cases b with
  | tuple l' =>
   simp only [BD] at h;rw [Fl l l' h]
  | _ => simp [BD] at h
 | .sb p e, b, h => by
  cases b with
  | sb p' e' =>
   simp only [BD, Bool.and_eq_true] at h;rw [eq_of_beq h.1, SE.same_eq h.2]
  | _ => simp [BD] at h
 | .si k e, b, h => by
  cases b with
  | si k' e' =>
   simp only [BD, Bool.and_eq_true, decide_eq_true_eq] at h;rw [h.1, SE.same_eq h.2]
  | _ => simp [BD] at h
 | .ss e, b, h => by
  cases b with
  | ss e' =>
   simp only [BD] at h;rw [SE.same_eq h]
  | _ => simp [BD] at h
 | .dat t e, b, h => by
  cases b with
  | dat t' e' =>
   simp only [BD, Bool.and_eq_true] at h;rw [Nat.eq_of_beq_eq_true h.1, SE.same_eq h.2]
  | _ => simp [BD] at h
 | .dptr _ _ _ _, b, h => by cases b <;> simp [BD] at h
 | .asl b0 es n nl, b, h => by
  cases b with
  | asl b' es' n' nl' =>
   simp only [BD, Bool.and_eq_true] at h;rw [Nat.eq_of_beq_eq_true h.1.1.1, Nat.eq_of_beq_eq_true h.1.1.2, SE.same_eq h.1.2, SE.same_eq h.2]
  | _ => simp [BD] at h
 | .eslc e, b, h => by
  cases b with
  | eslc e' =>
   simp only [BD] at h;rw [SE.same_eq h]
  | _ => simp [BD] at h
 | .aptr _ _ _ _, b, h => by cases b <;> simp [BD] at h
 | .nmap b0 e, b, h => by
  cases b with
  | nmap b' e' =>
   simp only [BD, Bool.and_eq_true] at h;rw [Nat.eq_of_beq_eq_true h.1, SE.same_eq h.2]
  | _ => simp [BD] at h
theorem Fl : ∀ (a b : List AV), Ho a b = true → a = b
 | [], b, h => by cases b <;> simp_all [Ho]
 | a :: l, b, h => by
  cases b with
  | nil => simp [Ho] at h
  | cons b m =>
   simp only [Ho, Bool.and_eq_true] at h;rw [GV a b h.1, Fl l m h.2]
end
theorem UL {α : Type} {eq : α → α → Bool} (he : ∀ a b, eq a b = true → a = b) {a b : Option α} (h : eqO eq a b = true) : a = b := by
 cases a <;> cases b <;> simp [eqO] at h ⊢
 exact he _ _ h
theorem Rp {α : Type} {eq : α → α → Bool} (he : ∀ a b, eq a b = true → a = b) : ∀ (a b : T α), eqT eq a b = true → a = b
 | .nil, .nil, _ => rfl
 | .node v l r, .node v' l' r', h => by
  simp only [eqT, Bool.and_eq_true] at h;rw [UL he h.1.1, Rp he l l' h.1.2, Rp he r r' h.2]
 | .nil, .node _ _ _, h => by simp [eqT] at h
 | .node _ _ _, .nil, h => by simp [eqT] at h
theorem Sz : ∀ (a b : List AP), Tq a b = true → a = b
 | [], [], _ => rfl
 | a :: l, b :: m, h => by
  simp only [Tq, Bool.and_eq_true] at h;obtain ⟨⟨⟨h1, h2⟩, h3⟩, h4⟩ := h;cases a; cases b;simp only at h1 h2 h3;rw [GV _ _ h1, GV _ _ h2, Nat.eq_of_beq_eq_true h3, Sz l m h4]
 | [], _ :: _, h => by simp [Tq] at h
 | _ :: _, [], h => by simp [Tq] at h
theorem PV {a b : Aq} (h : S3 a b = true) : a = b := by
 cases a <;> cases b <;> simp only [S3, Bool.and_eq_true, Bool.false_eq_true] at h
 ·rw [Nat.eq_of_beq_eq_true h.1, Rp GV _ _ h.2]
 ·rw [Nat.eq_of_beq_eq_true h.1, SE.same_eq h.2]
 ·rw [Nat.eq_of_beq_eq_true h.1, Sz _ _ h.2]
 ·rw [Nat.eq_of_beq_eq_true h.1.1, Nat.eq_of_beq_eq_true h.1.2, SE.same_eq h.2]
variable [U : Unk]
section
variable {V : Val} {a b : SE}
theorem BN {n : Int} : Ad V (.c n) = n := rfl
theorem Lu {k : IntKind} : Ad V (.conv k a) = k.wrap (Ad V a) := rfl
theorem Gl {op : BinOp} {k : IntKind} : Ad V (.arith op k a b) = match Dw op k (Ad V a) (Ad V b) with
  | some (.int _ n) => n
  | _ => 0 := rfl
theorem DA : Ad V (.lenS a) = ((AT V a).data.toList.length : Nat) := rfl
theorem Ao : Ad V (.lenL a) = ((Ab V a).rows.length : Nat) := rfl
theorem Ay : Ah V (.lss a b) = decide (Ad V a < Ad V b) := rfl
theorem B9 : Ah V (.eql a b) = (Ad V a == Ad V b) := rfl
theorem T3 {l c : Nat} : Ah V (.eqS a l c) = strEq (AT V a).data.toList.length (AH (AT V a).data.toList) l c := rfl
theorem KW : Ah V (.eqSS a b) = strEq (AT V a).data.toList.length (AH (AT V a).data.toList) (AT V b).data.toList.length (AH (AT V b).data.toList) := rfl
end
theorem SE.same_ok {a b : SE} (h : a.same b = true) : a = b := by
 induction a generalizing b <;> cases b <;> simp only [SE.same, Bool.and_eq_true, decide_eq_true_eq, beq_iff_eq, Bool.false_eq_true, Nat.beq_eq] at h <;> grind
theorem SB.same_ok {a b : SB} (h : a.same b = true) : a = b := SE.same_ok h
def LoB (o : Option Int) (n : Int) : Prop := ∀ l, o = some l → l ≤ n
def HiB (o : Option Int) (n : Int) : Prop := ∀ l, o = some l → n ≤ l
theorem LoB.max {a b : Option Int} {n : Int} (h : LoB a n) (k : LoB b n) : LoB (Pu a b) n := by
 intro l hl;unfold Pu at hl;split at hl
 ·rename_i a b;have h1 := h a rfl;have h2 := k b rfl;cases hd : decide (a ≤ b) <;> rw [hd] at hl <;> cases hl <;> assumption
 ·exact h l hl
 ·exact k l hl
theorem HiB.min {a b : Option Int} {n : Int} (h : HiB a n) (k : HiB b n) : HiB (Ti a b) n := by
 intro l hl;unfold Ti at hl;split at hl
 ·rename_i a b;have h1 := h a rfl;have h2 := k b rfl;cases hd : decide (a ≤ b) <;> rw [hd] at hl <;> cases hl <;> assumption
 ·exact h l hl
 ·exact k l hl
theorem LoB.some {a n : Int} (h : a ≤ n) : LoB (some a) n := fun l hl => by cases hl; exact h
theorem HiB.some {a n : Int} (h : n ≤ a) : HiB (some a) n := fun l hl => by cases hl; exact h
theorem LoB.none {n : Int} : LoB none n := fun l hl => by cases hl
theorem HiB.none {n : Int} : HiB none n := fun l hl => by cases hl
theorem TX {V : Val} {e : SE} {p : SB × Bool} (hp : Ah V p.1 = p.2) : LoB (QR e p) (Ad V e) := by
 intro l hl;obtain ⟨x, b⟩ := p
 have go : ∀ {a : SE} {r : Int}, (match a.same e with | true => some r | false => none) = some l → a = e ∧ l = r := by
  intro a r h;split at h
  ·rename_i hs; cases h; exact ⟨SE.same_ok hs, rfl⟩
  ·cases h
 unfold QR at hl;split at hl <;> first | (cases hl; done) | skip
 all_goals
  rename_i a m heq;obtain ⟨rfl, rfl⟩ := go hl;cases heq;simp [Ay, B9, BN] at hp
  first | omega | (have := of_decide_eq_false hp; omega) | (have := of_decide_eq_true hp; omega)
theorem Tc {V : Val} {e : SE} {p : SB × Bool} (hp : Ah V p.1 = p.2) : HiB (Rf e p) (Ad V e) := by
 intro l hl;obtain ⟨x, b⟩ := p
 have go : ∀ {a : SE} {r : Int}, (match a.same e with | true => some r | false => none) = some l → a = e ∧ l = r := by
  intro a r h;split at h
  ·rename_i hs; cases h; exact ⟨SE.same_ok hs, rfl⟩
  ·cases h
 unfold Rf at hl;split at hl <;> first | (cases hl; done) | skip
 all_goals
  rename_i a m heq;obtain ⟨rfl, rfl⟩ := go hl;cases heq;simp [Ay, B9, BN] at hp
  first | omega | (have := of_decide_eq_false hp; omega) | (have := of_decide_eq_true hp; omega)
theorem CX {V : Val} {e : SE} : ∀ {F : List (SB × Bool)}, (∀ e b, (e, b) ∈ F → Ah V e = b) → LoB (CQ e F) (Ad V e)
 | [], _ => LoB.none
 | p :: r, h => LoB.max (TX (h p.1 p.2 (by simp))) (CX fun e b hm => h e b (by simp [hm]))
theorem C0 {V : Val} {e : SE} : ∀ {F : List (SB × Bool)}, (∀ e b, (e, b) ∈ F → Ah V e = b) → HiB (CR e F) (Ad V e)
 | [], _ => HiB.none
 | p :: r, h => HiB.min (Tc (h p.1 p.2 (by simp))) (C0 fun e b hm => h e b (by simp [hm]))
theorem GP (k : IntKind) (n : Int) (h1 : k.min ≤ n) (h2 : n ≤ k.max) : k.wrap n = n := by
 cases k <;> simp only [IntKind.wrap, IntKind.min, IntKind.max, IntKind.bits, IntKind.signed] at * <;> simp at * <;> omega
theorem QX (k : IntKind) (n : Int) : k.min ≤ k.wrap n ∧ k.wrap n ≤ k.max := by
 cases k <;> simp only [IntKind.wrap, IntKind.min, IntKind.max, IntKind.bits, IntKind.signed] <;> simp <;> omega
theorem Dx {V : Val} : ∀ x : SE, (Ab V (Cm x)).rows.length = (Ab V x).rows.length := by
 intro x
 induction x
 case upd a i j x ih _ _ => rw [Cm, ih]; simp only [Ab, D.rows, List.length_modify]
 case nilIs a b ih _ => rw [Cm, ih]; simp only [Ab, D.rows]
 all_goals rfl
theorem QU {V : Val} {n y : SE} (h : Kq n y = true) : Ad V n = Ad V (.lenL y) := by
 cases n <;> simp only [Kq, Bool.false_eq_true] at h
 rename_i x;rw [Ao, Ao, ← Dx x, ← Dx y, SE.same_ok h]
theorem O3 {V : Val} : ∀ {x : SE} {n : Nat}, Gt x = some n → (Ab V x).rows.length = n := by
 intro x
 induction x <;> intro n h <;> simp only [Gt, reduceCtorEq] at h
 case nilL => cases h; rfl
 case emptyL => cases h; rfl
 case nilIs a b ih _ => exact ih h
 case snoc a r ih _ =>
  split at h
  ·rename_i k hk;cases h;have := ih hk;simp only [Ab, D.rows, List.length_append, List.length_singleton] at this ⊢;rw [this]
  ·cases h
theorem GB {V : Val} {F : List (SB × Bool)} (hF : ∀ e b, (e, b) ∈ F → Ah V e = b) : ∀ e : SE, LoB (bnd F e).1 (Ad V e) ∧ HiB (bnd F e).2 (Ad V e) := by
 intro e
 induction e with
 | c n => exact ⟨LoB.some (Int.le_refl _), HiB.some (Int.le_refl _)⟩
 | lenS i => exact ⟨LoB.max (LoB.some (by simp only [DA, Ao]; omega)) (CX hF), C0 hF⟩
 | lenL i =>
  unfold bnd;split
  ·rename_i n hn;have := O3 (V := V) hn;exact ⟨LoB.some (by rw [Ao, this]; exact Int.le_refl _), HiB.some (by rw [Ao, this]; exact Int.le_refl _)⟩
  ·exact ⟨LoB.max (LoB.some (by simp only [DA, Ao]; omega)) (CX hF), C0 hF⟩
 | conv k a ih =>
  unfold bnd;split;rename_i lo hi hb;rw [hb] at ih;split
  ·rename_i hw;unfold Oz at hw;split at hw
   ·rename_i l h;simp only [Bool.and_eq_true, decide_eq_true_eq] at hw;have h1 := ih.1 l rfl;have h2 := ih.2 h rfl;have e : Ad V (.conv k a) = Ad V a := GP k (Ad V a) (by omega) (by omega)
    exact ⟨LoB.max (e ▸ ih.1) (CX hF), HiB.min (e ▸ ih.2) (C0 hF)⟩
   ·cases hw
  ·have e : k.min ≤ Ad V (.conv k a) ∧ Ad V (.conv k a) ≤ k.max := QX k _;exact ⟨LoB.max (LoB.some e.1) (CX hF), HiB.min (HiB.some e.2) (C0 hF)⟩
 | arith op k a b iha ihb =>
  have base : LoB (CQ (.arith op k a b) F) (Ad V (.arith op k a b)) ∧ HiB (CR (.arith op k a b) F) (Ad V (.arith op k a b)) := ⟨CX hF, C0 hF⟩;unfold bnd;split
  ·rename_i m;split
   ·rename_i l hi hb;rw [hb] at iha;split
    ·rename_i hc;simp only [Bool.and_eq_true, decide_eq_true_eq] at hc;have h1 := iha.1 l rfl;have hm : (m == 0) = false := by simp; omega
     have e : Ad V (.arith .rem k a (.c m)) = (Ad V a).tmod m := by
      simp only [Gl, BN, Dw, hm]
     have q1 : 0 ≤ (Ad V a).tmod m := Int.tmod_nonneg _ (by omega)
     have q2 : (Ad V a).tmod m < m := Int.tmod_lt_of_pos _ (by omega)
     refine ⟨LoB.max (LoB.some (by rw [e]; exact q1)) base.1, HiB.min (HiB.some (by rw [e]; omega)) base.2⟩
    ·exact base
   ·exact base
  ·exact base
 | _ => exact ⟨CX hF, C0 hF⟩
theorem Ie {V : Val} {e : SB} {b : Bool} : ∀ {F : List (SB × Bool)}, (∀ e b, (e, b) ∈ F → Ah V e = b) → Id e F = some b → Ah V e = b
 | [], _, h => by cases h
 | (x, c) :: r, hF, h => by
  unfold Id at h;split at h
  ·rename_i hs;cases h;rw [SB.same_ok hs];exact hF x b (by simp)
  ·exact Ie (fun e b hm => hF e b (by simp [hm])) h
theorem Qr {a b : Option Int} (h : ltO a b = true) : ∃ x y, a = some x ∧ b = some y ∧ x < y := by
 unfold ltO at h;split at h
 ·exact ⟨_, _, rfl, rfl, by simpa using h⟩
 ·cases h
theorem bD {a b : Option Int} (h : leO a b = true) : ∃ x y, a = some x ∧ b = some y ∧ x ≤ y := by
 unfold leO at h;split at h
 ·exact ⟨_, _, rfl, rfl, by simpa using h⟩
 ·cases h
theorem RE {V : Val} {F : List (SB × Bool)} (hF : ∀ e b, (e, b) ∈ F → Ah V e = b) {e : SB} {b : Bool} (h : Oj F e = some b) : Ah V e = b := by
 unfold Oj at h;cases e with
 | lss x y =>
  simp only at h;have hx := GB hF x;have hy := GB hF y;split at h
  ·rename_i hl;cases h;obtain ⟨p, q, e1, e2, e3⟩ := Qr hl;have := hx.2 p e1;have := hy.1 q e2;simp only [Ay, decide_eq_true_eq]; omega
  ·split at h
   ·rename_i hl;cases h;obtain ⟨p, q, e1, e2, e3⟩ := bD hl;have := hy.2 p e1;have := hx.1 q e2;simp only [Ay, decide_eq_false_iff_not]; omega
   ·cases h
 | eql x y =>
  simp only at h;have hx := GB hF x;have hy := GB hF y;split at h
  ·rename_i hl;cases h;simp only [B9, beq_eq_false_iff_ne, ne_eq];simp only [Bool.or_eq_true] at hl;rcases hl with hl | hl
   ·obtain ⟨p, q, e1, e2, e3⟩ := Qr hl;have := hx.2 p e1;have := hy.1 q e2;omega
   ·obtain ⟨p, q, e1, e2, e3⟩ := Qr hl;have := hy.2 p e1;have := hx.1 q e2;omega
  ·split at h
   ·rename_i hs;cases h;rw [SE.same_eq hs];simp [B9]
   ·cases h
 | bc c => cases h; rfl
 | _ => cases h
theorem Ri {V : Val} {F : List (SB × Bool)} (hF : ∀ e b, (e, b) ∈ F → Ah V e = b) : ∀ (e : SB) (b : Bool), DD F e = some b → Ah V e = b := by
 intro e
 have Ki : ∀ (a : SB), (∀ b, DD F a = some b → Ah V a = b) → ∀ b, (match Id a F with
   | some c => some c
   | none => DD F a) = some b → Ah V a = b := by
  intro a ih b h;split at h
  ·rename_i c hc;cases h;exact Ie hF hc
  ·exact ih b h
 induction e with
 | neg a ih =>
  intro b h;simp only [DD] at h;show (!Ah V a) = b;split at h
  ·rename_i c hc;cases h;rw [Ie hF hc]
  ·split at h
   ·rename_i c hc;cases h;rw [ih c hc]
   ·cases h
 | and x y ihx ihy =>
  intro b h;simp only [DD] at h;show (Ah V x && Ah V y) = b;split at h
  ·rename_i hc;cases h;rw [Ki x ihx _ hc]; rfl
  ·rename_i hc;rw [Ki x ihx _ hc, Ki y ihy _ h]; rfl
  ·split at h
   ·rename_i hc;cases h;rw [Ki y ihy _ hc]; simp
   ·cases h
 | _ =>
  intro b h;exact RE hF h
theorem Aw {V : Val} {F : List (SB × Bool)} (hF : ∀ e b, (e, b) ∈ F → Ah V e = b) {e : SB} {b : Bool} (h : AW F e = some b) : Ah V e = b := by
 unfold AW at h;split at h
 ·rename_i c hc;cases h;exact Ie hF hc
 ·exact Ri hF e b h
theorem GS (ρ : Ren) (pos : Bool) (e : SB) : VR ρ (mkB pos e) (.bool (Ah U.V e == pos)) := by
 unfold mkB;split
 ·rename_i b h;rw [Aw U.ok h];exact .bool _
 ·exact .sb pos e
theorem C2 (ρ : Ren) (k : IntKind) (e : SE) : VR ρ (mkI k e) (.int k (Ad U.V e)) := by
 have hb := GB U.ok e;unfold mkI;split
 ·rename_i l h hq;rw [hq] at hb;split
  ·rename_i hl;have h1 := hb.1 l rfl;have h2 := hb.2 h rfl;have h3 : l = h := by simpa using hl
   have : Ad U.V e = l := by omega
   rw [this];exact .int k l
  ·exact .si k e
 ·exact .si k e
theorem FA {n y : SE} (h : Ey n y = true) : Ad U.V n = Ad U.V (.lenL y) := by
 unfold Ey at h;rw [Bool.or_eq_true] at h;rcases h with h | h
 ·exact QU h
 ·unfold Me at h;split at h
  ·rename_i hd;have := Aw U.ok hd;rw [B9] at this;exact eq_of_beq this
  ·cases h
theorem Jg {ρ : Ren} {b es : Nat} {n y nl : SE} {v : Value} (h : Ey n y = true) (hv : VR ρ (.asl b es n nl) v) : VR ρ (.asl b es (.lenL y) nl) v := by
 have e := FA h;cases hv with
 | asl _ _ _ _ cap base hb h0 hc hz hn =>
  have := VR.asl (ρ := ρ) b es (.lenL y) nl cap base hb (e ▸ h0) (e ▸ hc) hz hn;rw [← e] at this;exact this
 | aslEnd _ _ _ _ a h0 hn => exact .aslEnd _ _ _ _ a (e ▸ h0) hn
section
variable {E : Env} {ρ : Ren} {w : World}
theorem CY {x : AV} {xv : Value} {k : IntKind} {e : SE} (hx : VR ρ x xv) (h : toI x = some (k, e)) : xv = .int k (Ad U.V e) := by
 cases hx <;> simp only [toI] at h <;> cases h <;> rfl
theorem IG {x : AV} {xv : Value} (hx : VR ρ x xv) : VR ρ (L7 x) xv := by
 unfold L7;split
 ·rename_i k e;split
  ·rename_i l h hb;split
   ·rename_i hlh;have hlh : l = h := by simpa using hlh
    subst hlh;cases hx with
    | si _ _ =>
     obtain ⟨b1, b2⟩ := GB U.ok e;rw [hb] at b1 b2;have e1 := b1 l rfl;have e2 := b2 l rfl;have : Ad U.V e = l := by omega
     rw [this];exact .int k l
   ·exact hx
  ·exact hx
 ·exact hx
theorem WY {op : BinOp} {k : IntKind} {a b : SE} {r : AV} (t : TypeId) (h : bo op k a b = some r) :
  ∃ v, (binOp op t (.int k (Ad U.V a)) (.int k (Ad U.V b))).run E.P w = .ok v w ∧ VR ρ r v := by
 have ar : ∀ {op : BinOp} {n : Int}, op ≠ .shl → op ≠ .shr → Dw op k (Ad U.V a) (Ad U.V b) = some (.int k n) → ∃ v, (binOp op t (.int k (Ad U.V a)) (.int k (Ad U.V b))).run E.P w = .ok v w ∧ VR ρ (mkI k (.arith op k a b)) v := by
  intro op n h1 h2 h3;obtain ⟨v, q1, q2⟩ := Jb (E := E) (w := w) (ρ := ρ) t h1 h2 h3;cases q2;refine ⟨_, q1, ?_⟩;have e : Ad U.V (.arith op k a b) = n := by simp only [Gl, h3]
  have := C2 ρ k (.arith op k a b);rw [e] at this;exact this
 have cm : ∀ {op : BinOp} {c : Bool} {pos : Bool} {e : SB}, op ≠ .shl → op ≠ .shr → Dw op k (Ad U.V a) (Ad U.V b) = some (.bool c) → (Ah U.V e == pos) = c → ∃ v, (binOp op t (.int k (Ad U.V a)) (.int k (Ad U.V b))).run E.P w = .ok v w ∧ VR ρ (mkB pos e) v := by
  intro op c pos e h1 h2 h3 h4;obtain ⟨v, q1, q2⟩ := Jb (E := E) (w := w) (ρ := ρ) t h1 h2 h3;cases q2;exact ⟨_, q1, h4 ▸ GS ρ pos e⟩
 have nz : ∀ {b : SE}, Sb b = true → (Ad U.V b == 0) = false := by
  intro b hb;unfold Sb at hb;rw [Bool.or_eq_true] at hb;rcases hb with hb | hb
  ·cases b <;> simp [Y1] at hb
   simpa [BN] using hb
  ·split at hb
   ·rename_i hd;have := Aw U.ok hd
    rwa [B9, BN] at this
   ·cases hb
 cases op <;> simp only [bo] at h <;> first | (cases h; done) | skip
 case quo =>
  split at h
  ·rename_i hb; cases h; exact ar (by simp) (by simp) (by simp only [Dw, nz hb]; rfl)
  ·cases h
 case rem =>
  split at h
  ·rename_i hb; cases h; exact ar (by simp) (by simp) (by simp only [Dw, nz hb]; rfl)
  ·cases h
 case eql => cases h; exact cm (by simp) (by simp) rfl (by simp [Ay, B9])
 case neq => cases h; exact cm (by simp) (by simp) rfl (by simp only [B9, bne]; cases (Ad U.V a == Ad U.V b) <;> rfl)
 case lss => cases h; exact cm (by simp) (by simp) rfl (by simp [Ay, B9])
 case leq => cases h; exact cm (by simp) (by simp) rfl (by simp only [Ay]; by_cases h : Ad U.V a ≤ Ad U.V b <;> simp [h] <;> omega)
 case gtr => cases h; exact cm (by simp) (by simp) rfl (by simp [Ay, B9])
 case geq => cases h; exact cm (by simp) (by simp) rfl (by simp only [Ay]; by_cases h : Ad U.V a ≥ Ad U.V b <;> simp [h] <;> omega)
 all_goals cases h; exact ar (by simp) (by simp) rfl
theorem Ou {op : BinOp} {s s' : ByteArray} {e : SB} {r : AV} (t : TypeId) (h : UN op e = some r) (he : Ah U.V e = strEq s.data.toList.length (AH s.data.toList) s'.data.toList.length (AH s'.data.toList)) :
  ∃ v, (binOp op t (.string s) (.string s')).run E.P w = .ok v w ∧ VR ρ r v := by
 have cm : ∀ {op : BinOp} {c : Bool} {pos : Bool}, Ot op s.data.toList.length (AH s.data.toList) s'.data.toList.length (AH s'.data.toList) = some (.bool c) → (Ah U.V e == pos) = c → ∃ v, (binOp op t (.string s) (.string s')).run E.P w = .ok v w ∧ VR ρ (mkB pos e) v := by
  intro op c pos h3 h4;obtain ⟨v, q1, q2⟩ := Nz (E := E) (w := w) (ρ := ρ) t h3;cases q2;exact ⟨_, q1, h4 ▸ GS ρ pos e⟩
 cases op <;> simp only [UN] at h <;> first | (cases h; done) | skip
 case eql => cases h; exact cm rfl (by rw [he]; simp)
 case neq => cases h; exact cm rfl (by rw [he]; cases strEq _ _ _ _ <;> rfl)
theorem Qj (l a l' b : Nat) : strEq l a l' b = strEq l' b l a := by
 unfold strEq
 have : ∀ i j : Nat, Nat.beq i j = Nat.beq j i := fun i j => by
  cases h : Nat.beq i j with
  | true => rw [AG h, Fi]
  | false => exact (FM (fun e => Tw h e.symm)).symm
 rw [this l, this a]
theorem XW {op : BinOp} {t : TypeId} {ox oy : Operand} {x y r : AV} {xv yv : Value} (hx : VR ρ x xv) (hy : VR ρ y yv) (hr : Z1 op x y = some r) :
  ∃ v, (do eqGuard op t ox oy xv yv; binOp op t xv yv : Sem Value).run E.P w = .ok v w ∧ VR ρ r v := by
 have fin : ∀ {a b : Value}, (¬ (a = .nilIface ∧ b = .nilIface)) → (¬ ∃ xs, a = .agg xs) → (∃ v, (binOp op t a b).run E.P w = .ok v w ∧ VR ρ r v) → ∃ v, (do eqGuard op t ox oy a b; binOp op t a b : Sem Value).run E.P w = .ok v w ∧ VR ρ r v := by
  intro a b h1 h2 ⟨v, q1, q2⟩;have hg : (eqGuard op t ox oy a b).run E.P w = .ok () w := B6 h1 (fun h _ => absurd h h2)
  exact ⟨v, by simp only [Sem.run_bind, hg, Result.andThen_ok, q1], q2⟩
 unfold Z1 at hr;split at hr
 ·cases hx; cases hy;exact fin (by simp) (by simp) (Ou t hr rfl)
 ·cases hx; cases hy;exact fin (by simp) (by simp) (Ou t hr rfl)
 ·cases hx; cases hy;exact fin (by simp) (by simp) (Ou t hr (by rw [T3]; exact Qj _ _ _ _))
 ·split at hr
  ·rename_i k a k' b h1 h2;split at hr
   ·rename_i hk;have hk : k = k' := by simpa using hk
    subst hk;rw [CY hx h1, CY hy h2];exact fin (by simp) (by simp) (WY t hr)
   ·cases hr
  ·cases hr
end
end Go.AE
namespace Go.AE
variable [U : Unk]
theorem ER.length {ρ : Ren} : ∀ {l : List AP} {l' : List MapEntry}, ER ρ l l' → l.length = l'.length
 | [], [], _ => rfl
 | _ :: _, _ :: _, ⟨_, _, _, h⟩ => by simp [ER.length h]
section
variable {E : Env} (hE : OK E) {ρ : Ren} {h : Aa} {w : World}
include hE
theorem DN (em : Bool) (k : Nat) : ∀ (d : Nat) (t : TypeId) (v : AV) (vv : Value), B0 E d t v = true → VR ρ v vv → (Instr.checkKey em (d + k) t vv).run E.P w = .ok () w := by
 intro d
 induction d with
 | zero => intro t v vv h; simp [B0] at h
 | succ d ih =>
  intro t v vv h hv;rw [show d + 1 + k = (d + k) + 1 from by omega, Instr.checkKey]
  simp only [B0] at h;cases hd : E.desc t with
  | none => simp [hd] at h
  | some ds =>
   simp only [Sem.run_bind, hE.run_und hd, Result.andThen_ok];cases ds with
   | int q => simp
   | string => simp
   | bool => simp
   | struct fs =>
    simp only [hd] at h;cases hv <;> simp only [Bool.false_eq_true] at h
    rename_i cs cs' h1 h2;simp only [ne_eq, Sem.run_bind];rw [← Array.forIn_toList];generalize fs.toList = fl at h
    induction fl with
    | nil => simp
    | cons f fl ihf =>
     simp only [Jp] at h;cases hp : CC E f.type cs f.offset with
     | none => simp [hp] at h
     | some a =>
      simp only [hp] at h;cases hk : B0 E d f.type a with
      | false => simp [hk] at h
      | true =>
       simp only [hk] at h;obtain ⟨av, q1, q2⟩ := hE.run_part hp ⟨h1, h2⟩ w;have q3 := ih _ _ _ hk q2;simp only [List.forIn_cons, Sem.run_bind];by_cases hn : f.name = "_"
       ·simp only [hn, not_true_eq_false, if_false, Sem.run_pure, Result.andThen_ok];exact ihf h
       ·simp only [hn, not_false_eq_true, if_true, Sem.run_bind, q1, q3, Result.andThen_ok, Sem.run_pure];exact ihf h
   | array n e =>
    simp only [hd] at h;cases hv <;> simp only [Bool.false_eq_true] at h
    rename_i cs cs' h1 h2;cases hh : E.has e with
    | false => simp [hh] at h
    | true =>
     simp only [hh] at h;simp only [Std.Legacy.Range.forIn_eq_forIn_range', Std.Legacy.Range.size, Nat.sub_zero, Nat.add_one_sub_one, Nat.div_one];generalize hi : (0 : Nat) = i at h ⊢;clear hi hd;simp only [Sem.run_bind]
     induction n generalizing i with
     | zero => simp
     | succ n ihn =>
      simp only [Lt] at h;cases hp : CC E e cs (i * E.size e) with
      | none => simp [hp] at h
      | some a =>
       simp only [hp] at h;cases hk : B0 E d e a with
       | false => simp [hk] at h
       | true =>
        simp only [hk] at h;obtain ⟨av, q1, q2⟩ := hE.run_part hp ⟨h1, h2⟩ w;have q3 := ih _ _ _ hk q2;simp only [List.range'_succ, List.forIn_cons, Sem.run_bind, hE.run_has hh, Result.andThen_ok, q1, q3, Sem.run_pure];exact ihn (i + 1) h
   | _ => simp [hd] at h
def FR (ρ : Ren) : Option (Nat × AV) → Option (Nat × Value) → Prop
 | none, none => True
 | some (i, a), some (j, v) => i = j ∧ VR ρ a v
 | _, _ => False
theorem Hj {t : TypeId} {k : AV} {kv : Value} (hk : VR ρ k kv) : ∀ {es : List AP} {es' : List MapEntry} {i : Nat} {r : Option (Nat × AV)}, ER ρ es es' → DQ E t k es i = some r →
  ∃ r', FR ρ r r' ∧ (Instr.findAsking t kv es' i).run E.P w = .ok r' w
 | [], [], i, r, _, h => by
  simp only [DQ, Option.some.injEq] at h;subst h;exact ⟨none, trivial, by simp [Instr.findAsking]⟩
 | e :: es, e' :: es', i, r, ⟨h1, h2, h3, h4⟩, h => by
  simp only [DQ] at h;cases ha : aeq E 10000 t k e.key with
  | none => simp [ha] at h
  | some b =>
   have hask : (Op.equal t kv e'.key).run E.P w = .ok b w := QT (w := w) hE 10000 t k e.key b kv e'.key ha hk h1;cases b with
   | true =>
    simp only [ha, Option.some.injEq] at h;subst h;exact ⟨some (i, e'.val), ⟨rfl, h2⟩, by simp [Instr.findAsking, hask]⟩
   | false =>
    simp only [ha] at h;obtain ⟨r', q1, q2⟩ := Hj hk h4 h;exact ⟨r', q1, by simp [Instr.findAsking, hask, q2]⟩
omit hE in
theorem Mf {t : TypeId} {ds : TypeDesc} (hd : E.desc t = some ds) {x y : AV} {b : Bool} {xv yv : Value} {d : Nat} (ha : aeq E (d + 1) t x y = some b) (hx : VR ρ x xv) (hy : VR ρ y yv) :
  Instr.sameNow ds xv yv = some b ∨ ∀ u v, Instr.sameNow ds u v = none := by
 simp only [aeq, hd] at ha;cases ds with
 | int q =>
  cases hx <;> first | (cases ha; done) | skip
  cases hy <;> first | (cases ha; done) | skip
  rename_i k n k' n';by_cases hk : k = k'
  ·subst hk; simp only [decide_true, Option.some.injEq] at ha; subst ha; exact .inl (by simp [Instr.sameNow])
  ·simp [hk] at ha
 | string =>
  cases hx <;> first | (cases ha; done) | skip
  cases hy <;> first | (cases ha; done) | skip
  rename_i s s';simp only [Option.some.injEq] at ha;subst ha;rw [Cc];exact .inl (by simp only [Instr.sameNow]; rw [beq_toListBytes])
 | bool =>
  cases hx <;> first | (cases ha; done) | skip
  cases hy <;> first | (cases ha; done) | skip
  simp only [Option.some.injEq] at ha;subst ha;exact .inl (by simp [Instr.sameNow])
 | _ => exact .inr (fun u v => by cases u <;> cases v <;> rfl)
omit hE in
theorem K6 {t : TypeId} {ds : TypeDesc} (hd : E.desc t = some ds) {k : AV} {kv : Value} (hk : VR ρ k kv) (hq : ¬ ∀ u v, Instr.sameNow ds u v = none) : ∀ {es : List AP} {es' : List MapEntry} {i : Nat} {r : Option (Nat × AV)}, ER ρ es es' → DQ E t k es i = some r →
  ∃ r', FR ρ r r' ∧ Instr.findNow ds kv es' i = some r'
 | [], [], i, r, _, h => by
  simp only [DQ, Option.some.injEq] at h;subst h;exact ⟨none, trivial, rfl⟩
 | e :: es, e' :: es', i, r, ⟨h1, h2, h3, h4⟩, h => by
  simp only [DQ] at h;cases ha : aeq E 10000 t k e.key with
  | none => simp [ha] at h
  | some b =>
   have hs : Instr.sameNow ds kv e'.key = some b := (Mf hd ha hk h1).resolve_right hq;cases b with
   | true =>
    simp only [ha, Option.some.injEq] at h;subst h;exact ⟨some (i, e'.val), ⟨rfl, h2⟩, by simp [Instr.findNow, hs]⟩
   | false =>
    simp only [ha] at h;obtain ⟨r', q1, q2⟩ := K6 hd hk hq h4 h;exact ⟨r', q1, by simp [Instr.findNow, hs, q2]⟩
theorem EC {t : TypeId} {ds : TypeDesc} (hd : E.desc t = some ds) {k : AV} {kv : Value} (hk : VR ρ k kv) {es : List AP} {es' : List MapEntry} {r : Option (Nat × AV)} (he : ER ρ es es') (h : DQ E t k es 0 = some r) :
  ∃ r', FR ρ r r' ∧ (Instr.findKey t kv es').run E.P w = .ok r' w := by
 by_cases hq : ∀ u v, Instr.sameNow ds u v = none
 ·cases es' with
  | nil =>
   cases es with
   | nil =>
    simp only [DQ, Option.some.injEq] at h;subst h;exact ⟨none, trivial, by simp [Instr.findKey, hE.run_und hd, Instr.findNow]⟩
   | cons e es => cases he
  | cons e' es' =>
   obtain ⟨r', q1, q2⟩ := Hj (w := w) hE hk he h;exact ⟨r', q1, by simp [Instr.findKey, hE.run_und hd, Instr.findNow, hq, q2]⟩
 ·obtain ⟨r', q1, q2⟩ := K6 hd hk hq he h;exact ⟨r', q1, by simp [Instr.findKey, hE.run_und hd, q2]⟩
theorem Q9 (hr : HR ρ h.blk.get w) {t : TypeId} {m k a : AV} {mv kv : Value} {ok : Bool} (hm : VR ρ m mv) (hk : VR ρ k kv) (ha : Om E t m k ok h = some a) :
  ∃ v, (Instr.lookup t mv kv ok).run E.P w = .ok v w ∧ VR ρ a v := by
 unfold Om at ha;cases hd : E.desc t with
 | none => simp [hd] at ha
 | some d =>
  cases d with
  | map kt et =>
   simp only [hd] at ha;cases hkk : B0 E 20 kt k with
   | false => simp [hkk] at ha
   | true =>
    cases hz : E.zero et with
    | none => simp [hkk, hz] at ha
    | some z =>
     simp only [hkk, hz] at ha;obtain ⟨zv, z1, z2⟩ := hE.run_zero ρ hz w;have hzr := AR ρ z2;have hck : ∀ em, (Instr.checkKey em 10000 kt kv).run E.P w = .ok () w := fun em => DN (w := w) hE em 9980 20 kt k kv hkk hk
     have hkd : ∃ ds, E.desc kt = some ds := by
      simp only [B0] at hkk;cases hq : E.desc kt with
      | none => simp [hq] at hkk
      | some ds => exact ⟨ds, rfl⟩
     obtain ⟨ds, hkd⟩ := hkd
     have fin : ∀ (v : AV) (b : Bool) (vv : Value), VR ρ v vv → VR ρ (Mo ok v b) (if ok then .tuple #[vv, .bool b] else vv) := by
      intro v b vv hv;cases ok with
      | true =>
       have := VL.cons hv (VL.cons (VR.bool (ρ := ρ) b) (VL.nil ρ));exact .tuple _ [vv, .bool b] this.1 this.2
      | false => exact hv
     have emp : (Instr.findKey kt kv []).run E.P w = .ok none w := by
      obtain ⟨r', q1, q2⟩ := EC (w := w) hE hkd hk (es := []) (es' := []) (r := none) trivial rfl;cases r' with
      | none => exact q2
      | some p => cases q1
     cases hm with
     | map0 =>
      simp only [Option.some.injEq] at ha;subst ha;refine ⟨_, ?_, fin z false zv hzr⟩;simp [Instr.lookup, hE.run_und hd, hck, emp, z1]
     | map b base hb =>
      simp only [] at ha;cases hg : h.blk.get b with
      | none => simp [hg] at ha
      | some y =>
       cases y with
       | map es clock =>
        simp only [hg] at ha;obtain ⟨es', e1, e2⟩ := hr.blk b base _ hb hg;have hget : (getObj base.cb).run E.P w = .ok (.map es'.toArray clock) w := by simp [getObj, Sem.run, e1]
        cases hf : DQ E kt k es 0 with
        | none => simp [hf] at ha
        | some r =>
         obtain ⟨r', q1, q2⟩ := EC (w := w) hE hkd hk e2 hf;cases r with
         | none =>
          simp only [hf, Option.some.injEq] at ha;subst ha;cases r' with
          | some p => cases q1
          | none =>
           refine ⟨_, ?_, fin z false zv hzr⟩;simp [Instr.lookup, hE.run_und hd, hget, hck, q2, z1]
         | some p =>
          obtain ⟨i, v⟩ := p;simp only [hf, Option.some.injEq] at ha;subst ha;cases r' with
          | none => cases q1
          | some p' =>
           obtain ⟨j, vv⟩ := p';refine ⟨_, ?_, fin v true vv q1.2⟩;simp [Instr.lookup, hE.run_und hd, hget, hck, q2]
       | _ => simp [hg] at ha
     | _ => simp at ha
  | _ => simp [hd] at ha
end
end Go.AE
namespace Go.AE
variable [U : Unk]
theorem ER.get {ρ : Ren} : ∀ {l : List AP} {l' : List MapEntry} {i : Nat} {e : AP}, ER ρ l l' → l[i]? = some e → ∃ e', l'[i]? = some e' ∧ VR ρ e.key e'.key ∧ VR ρ e.val e'.val ∧ e'.born = e.born
 | [], [], i, e, _, h => by simp at h
 | a :: l, a' :: l', 0, e, ⟨h1, h2, h3, h4⟩, h => by simp at h; subst h; exact ⟨a', rfl, h1, h2, h3⟩
 | a :: l, a' :: l', i + 1, e, ⟨h1, h2, h3, h4⟩, h => by simpa using ER.get h4 (by simpa using h)
theorem ER.setVal {ρ : Ren} : ∀ {l : List AP} {l' : List MapEntry} {i : Nat} {k v : AV} {kv vv : Value}, ER ρ l l' → VR ρ k kv → VR ρ v vv → ER ρ (setVal l i k v) (l'.modify i fun e => { e with key := kv, val := vv })
 | [], [], i, k, v, kv, vv, _, _, _ => by simp [AE.setVal, ER]
 | a :: l, a' :: l', 0, k, v, kv, vv, ⟨h1, h2, h3, h4⟩, hk, hv => by
  simp only [AE.setVal, List.modify_zero_cons];exact ⟨hk, hv, h3, h4⟩
 | a :: l, a' :: l', i + 1, k, v, kv, vv, ⟨h1, h2, h3, h4⟩, hk, hv => by
  simp only [AE.setVal, List.modify_succ_cons];exact ⟨h1, h2, h3, ER.setVal h4 hk hv⟩
theorem ER.append {ρ : Ren} : ∀ {l : List AP} {l' : List MapEntry} {m : List AP} {m' : List MapEntry}, ER ρ l l' → ER ρ m m' → ER ρ (l ++ m) (l' ++ m')
 | [], [], _, _, _, h => h
 | _ :: _, _ :: _, _, _, ⟨h1, h2, h3, h4⟩, h => ⟨h1, h2, h3, ER.append h4 h⟩
theorem ER.eraseIdx {ρ : Ren} : ∀ {l : List AP} {l' : List MapEntry} (i : Nat), ER ρ l l' → ER ρ (l.eraseIdx i) (l'.eraseIdx i)
 | [], [], i, _ => by simp [ER]
 | _ :: _, _ :: _, 0, ⟨_, _, _, h⟩ => by simpa using h
 | _ :: _, _ :: _, i + 1, ⟨h1, h2, h3, h4⟩ => by
  simp only [List.eraseIdx_cons_succ];exact ⟨h1, h2, h3, ER.eraseIdx i h4⟩
section
variable {E : Env} (hE : OK E) {ρ : Ren} {h : Aa} {w : World}
theorem AQ (P : Program) {r : Nat} {o o' : Obj} (ho : w.heap[r]? = some o) (hc : ∀ c e f, o ≠ .cells c e f) :
  (setObj r o').run P w = .ok () { w with heap := w.heap.setIfInBounds r o' } := by
 cases o <;> simp only [setObj, Sem.run, ho]
 exact absurd rfl (hc _ _ _)
theorem AC (P : Program) {r : Nat} {o : Obj} (ho : w.heap[r]? = some o) (hc : ∀ c e f, o ≠ .cells c e f) :
  (getObj r).run P w = .ok o w := by
 cases o <;> simp only [getObj, Sem.run, ho]
 exact absurd rfl (hc _ _ _)
theorem HR.setObj (hr : HR ρ h.blk.get w) {r : Nat} {base : Db} (hb : ρ r = some base) (hl : h.blk.get r ≠ none) (x : Aq) (o' : Obj) (hx : BR ρ x base (some o')) :
  HR ρ (h.put r x).blk.get { w with heap := w.heap.setIfInBounds base.cb o' } ∧ Ext ρ ρ h (h.put r x) w { w with heap := w.heap.setIfInBounds base.cb o' } := by
 have hlt := hr.lt r base hb;refine hr.put hb hl x _ ?_ (by simp) (fun k hk => by simp [Array.getElem?_setIfInBounds_ne (Ne.symm hk)]) rfl rfl rfl
 have : ({ w with heap := w.heap.setIfInBounds base.cb o' } : World).heap[base.cb]? = some o' := by simp [hlt]
 rw [this]; exact hx
theorem OR : ∀ {a b : AV}, D9 a b = true → a = b := by
 intro a b h;cases a <;> cases b <;> simp only [D9] at h <;> first | (cases h; done) | skip
 ·rename_i x y; cases x <;> cases y <;> first | rfl | cases h
 ·rename_i k x k' y;by_cases hk : k = k'
  ·subst hk;simp only [decide_true] at h;rw [eq_of_beq h]
  ·simp [hk] at h
 ·rename_i l x l' y;obtain ⟨h1, h2⟩ := Av h;rw [AG h1, AG h2]
theorem Nj : ∀ {l m : List AV}, I4 l m = true → l = m
 | [], [], _ => rfl
 | [], _ :: _, h => by simp [I4] at h
 | _ :: _, [], h => by simp [I4] at h
 | a :: l, b :: m, h => by
  simp only [I4] at h;cases hs : D9 a b with
  | false => simp [hs] at h
  | true => simp only [hs] at h; rw [OR hs, Nj h]
theorem JZ {a b : AV} (h : Gw a b = true) : a = b := by
 cases a <;> cases b <;> first | exact congrArg AV.agg (Nj h) | exact OR h
theorem DX (P : Program) (ov nv : Value) :
  ∃ v w', (Instr.keyThatStays ov nv).run P w = .ok v w' ∧ (v = nv ∨ v = ov) ∧ w'.heap = w.heap ∧ w'.os = w.os ∧ w'.tape = w.tape ∧ w'.output = w.output := by
 unfold Instr.keyThatStays;by_cases hs : Instr.sameBits 10000 ov nv = true
 ·exact ⟨nv, w, by simp [hs], .inl rfl, rfl, rfl, rfl, rfl⟩
 ·simp only [hs, Bool.false_eq_true, if_false, Sem.run_bind, run_choose, Question.forced, Sem.run_pure];exact ⟨_, _, rfl, by split <;> simp, rfl, rfl, rfl, rfl⟩
include hE
theorem Hw (hr : HR ρ h.blk.get w) {t : TypeId} {m k v : AV} {mv kv vv : Value} {h' : Aa} (hm : VR ρ m mv) (hk : VR ρ k kv) (hv : VR ρ v vv) (ha : H9 E t m k v h = some h') :
  ∃ w', (Instr.mapUpdate t mv kv vv).run E.P w = .ok () w' ∧ HR ρ h'.blk.get w' ∧ Ext ρ ρ h h' w w' := by
 unfold H9 at ha;cases hd : E.desc t with
 | none => simp [hd] at ha
 | some d =>
  cases d with
  | map kt et =>
   simp only [hd] at ha;cases hkk : B0 E 20 kt k with
   | false => simp [hkk] at ha
   | true =>
    simp only [hkk] at ha;have hck : ∀ em, (Instr.checkKey em 10000 kt kv).run E.P w = .ok () w := fun em => DN (w := w) hE em 9980 20 kt k kv hkk hk
    have hkd : ∃ ds, E.desc kt = some ds := by
     simp only [B0] at hkk;cases hq : E.desc kt with
     | none => simp [hq] at hkk
     | some ds => exact ⟨ds, rfl⟩
    obtain ⟨ds, hkd⟩ := hkd;cases hm with
    | map b base hb =>
     simp only [] at ha;cases hg : h.blk.get b with
     | none => simp [hg] at ha
     | some y =>
      cases y with
      | map es clock =>
       simp only [hg] at ha;obtain ⟨es', e1, e2⟩ := hr.blk b base _ hb hg;have hget := AC (w := w) E.P e1 (by simp)
       cases hf : DQ E kt k es 0 with
       | none => simp [hf] at ha
       | some r =>
        obtain ⟨r', q1, q2⟩ := EC (w := w) hE hkd hk e2 hf;cases r with
        | none =>
         simp only [hf, Option.some.injEq] at ha;subst ha;cases r' with
         | some p => cases q1
         | none =>
          obtain ⟨p1, p2⟩ := hr.setObj hb (by rw [hg]; simp) (.map (es ++ [{ key := k, val := v, born := clock }]) (clock + 1)) (.map (es'.toArray.push { key := kv, val := vv, born := clock }) (clock + 1))
           ⟨es' ++ [{ key := kv, val := vv, born := clock }], by simp, e2.append ⟨hk, hv, rfl, trivial⟩⟩
          refine ⟨_, ?_, p1, p2⟩;simp [Instr.mapUpdate, hE.run_und hd, hget, hck, q2, AQ (w := w) E.P e1 (by simp)]
        | some p =>
         obtain ⟨i, v0⟩ := p;simp only [hf] at ha;cases r' with
         | none => cases q1
         | some p' =>
          obtain ⟨j, v0'⟩ := p';obtain ⟨rfl, q3⟩ := q1;cases hi : es[i]? with
          | none => simp [hi] at ha
          | some e =>
           simp only [hi] at ha;cases hs : Gw k e.key with
           | false => simp [hs] at ha
           | true =>
            simp only [hs, Option.some.injEq] at ha;subst ha;have hke := JZ hs;obtain ⟨e', g1, g2, g3, g4⟩ := e2.get hi;obtain ⟨nk, w1, s1, s2, s3, s4, s5, s6⟩ := DX (w := w) E.P e'.key kv
            have hnk : VR ρ k nk := by
             rcases s2 with rfl | rfl
             ·exact hk
             ·rw [hke]; exact g2
            have hr1 : HR ρ h.blk.get w1 := hr.same s3
            obtain ⟨p1, p2⟩ := hr1.setObj hb (by rw [hg]; simp) (.map (setVal es i k v) clock) (.map (es'.toArray.modify i fun e => { e with key := nk, val := vv }) clock)
             ⟨es'.modify i fun e => { e with key := nk, val := vv }, by simp [List.modify_toArray], e2.setVal hnk hv⟩
            refine ⟨_, ?_, p1, p2.drawn s3 s4 s5 s6⟩;have e1' : w1.heap[base.cb]? = some (.map es'.toArray clock) := by rw [s3]; exact e1
            simp only [Instr.mapUpdate, Sem.run_bind, hE.run_und hd, Result.andThen_ok, hget, hck, q2, List.getElem?_toArray, g1, Option.map_some, Option.getD_some, s1];rw [AQ (w := w1) E.P e1' (by simp)]
      | _ => simp [hg] at ha
    | _ => simp at ha
  | _ => simp [hd] at ha
theorem Rd (hr : HR ρ h.blk.get w) {t ty : TypeId} {m k : AV} {mv kv : Value} {h' : Aa} (hm : VR ρ m mv) (hk : VR ρ k kv) (ha : Km E t m k h = some h') (ats : Array TypeId) (hat : ats[0]? = some t) :
  ∃ w', (Builtin.delete_ ats ty #[mv, kv]).run E.P w = .ok (.tuple #[]) w' ∧ HR ρ h'.blk.get w' ∧ Ext ρ ρ h h' w w' := by
 unfold Km at ha;cases hd : E.desc t with
 | none => simp [hd] at ha
 | some d =>
  cases d with
  | map kt et =>
   simp only [hd] at ha;cases hkk : B0 E 20 kt k with
   | false => simp [hkk] at ha
   | true =>
    simp only [hkk] at ha;have hck : ∀ em, (Instr.checkKey em 10000 kt kv).run E.P w = .ok () w := fun em => DN (w := w) hE em 9980 20 kt k kv hkk hk
    have hkd : ∃ ds, E.desc kt = some ds := by
     simp only [B0] at hkk;cases hq : E.desc kt with
     | none => simp [hq] at hkk
     | some ds => exact ⟨ds, rfl⟩
    obtain ⟨ds, hkd⟩ := hkd;cases hm with
    | map0 =>
     simp only [Option.some.injEq] at ha;subst ha;refine ⟨w, ?_, hr, Ext.refl ρ h w⟩;simp [Builtin.delete_, hat, hE.run_und hd, hck]
    | map b base hb =>
     simp only [] at ha;cases hg : h.blk.get b with
     | none => simp [hg] at ha
     | some y =>
      cases y with
      | map es clock =>
       simp only [hg] at ha;obtain ⟨es', e1, e2⟩ := hr.blk b base _ hb hg;have hget := AC (w := w) E.P e1 (by simp)
       cases hf : DQ E kt k es 0 with
       | none => simp [hf] at ha
       | some r =>
        obtain ⟨r', q1, q2⟩ := EC (w := w) hE hkd hk e2 hf;cases r with
        | none =>
         simp only [hf, Option.some.injEq] at ha;subst ha;cases r' with
         | some p => cases q1
         | none =>
          obtain ⟨p1, p2⟩ := hr.setObj hb (by rw [hg]; simp) (.map es clock) (.map es'.toArray clock) ⟨es', rfl, e2⟩
          refine ⟨_, ?_, p1, p2⟩;simp [Builtin.delete_, hat, hE.run_und hd, hget, hck, q2, AQ (w := w) E.P e1 (by simp)]
        | some p =>
         obtain ⟨i, v0⟩ := p;simp only [hf, Option.some.injEq] at ha;subst ha;cases r' with
         | none => cases q1
         | some p' =>
          obtain ⟨j, v0'⟩ := p';obtain ⟨rfl, q3⟩ := q1;obtain ⟨p1, p2⟩ := hr.setObj hb (by rw [hg]; simp) (.map (es.eraseIdx i) clock) (.map (es'.toArray.eraseIdxIfInBounds i) clock) ⟨es'.eraseIdx i, by simp, e2.eraseIdx i⟩
          refine ⟨_, ?_, p1, p2⟩;simp [Builtin.delete_, hat, hE.run_und hd, hget, hck, q2, AQ (w := w) E.P e1 (by simp)]
      | _ => simp [hg] at ha
    | _ => simp at ha
  | _ => simp [hd] at ha
end
end Go.AE
namespace Go.AE
variable [U : Unk]
theorem H0 {ρ : Ren} {n : Nat} {v : AV} {vv : Value} (hv : VR ρ v vv) : ∀ {es es2 : List AP} {es' : List MapEntry}, ER ρ es es' → Dy es n v = some es2 →
  ∃ i, es'.findIdx? (fun e => (e.born : Int) == (n : Int)) = some i ∧ ER ρ es2 (es'.modify i fun e => { e with val := vv })
 | [], _, [], _, h => by simp [Dy] at h
 | e :: es, es2, e' :: es', ⟨h1, h2, h3, h4⟩, h => by
  simp only [Dy] at h;cases hb : Nat.beq e.born n with
  | true =>
   simp only [hb, Option.some.injEq] at h;subst h;have := AG hb;exact ⟨0, by simp [List.findIdx?_cons, h3, this], by simp only [List.modify_zero_cons]; exact ⟨h1, hv, h3, h4⟩⟩
  | false =>
   simp only [hb] at h;cases hs : Dy es n v with
   | none => simp [hs] at h
   | some r =>
    simp only [hs, Option.some.injEq] at h;subst h;obtain ⟨i, q1, q2⟩ := H0 hv h4 hs;have hne := Tw hb;refine ⟨i + 1, ?_, by simp only [List.modify_succ_cons]; exact ⟨h1, h2, h3, q2⟩⟩
    have : ((e'.born : Int) == (n : Int)) = false := by rw [h3]; simp; omega
    simp [List.findIdx?_cons, this, q1]
theorem ER.setKey {ρ : Ren} {k : AV} {kv : Value} (hk : VR ρ k kv) : ∀ {l : List AP} {l' : List MapEntry} {i : Nat} {e : AP}, ER ρ l l' → l[i]? = some e → ER ρ (AE.setVal l i k e.val) (l'.modify i fun e => { e with key := kv })
 | [], [], i, e, _, h => by simp at h
 | a :: l, a' :: l', 0, e, ⟨h1, h2, h3, h4⟩, h => by
  simp at h; subst h;simp only [AE.setVal, List.modify_zero_cons];exact ⟨hk, h2, h3, h4⟩
 | a :: l, a' :: l', i + 1, e, ⟨h1, h2, h3, h4⟩, h => by
  simp only [AE.setVal, List.modify_succ_cons];exact ⟨h1, h2, h3, ER.setKey hk h4 (by simpa using h)⟩
section
variable {E : Env} (hE : OK E) {ρ : Ren} {h : Aa} {w : World}
theorem LY (hr : HR ρ h.blk.get w) {t : TypeId} {m s v : AV} {mv sv vv : Value} {h' : Aa} (hm : VR ρ m mv) (hs : VR ρ s sv) (hv : VR ρ v vv) (ha : GG m s v h = some h') :
  ∃ w', (Instr.entryStore t mv sv vv).run E.P w = .ok () w' ∧ HR ρ h'.blk.get w' ∧ Ext ρ ρ h h' w w' := by
 unfold GG at ha;cases hn : Dj s with
 | none => cases m <;> simp [hn] at ha
 | some n =>
  obtain ⟨k, rfl⟩ := Cv hs hn;cases hm with
  | map b base hb =>
   simp only [hn] at ha;cases hg : h.blk.get b with
   | none => simp [hg] at ha
   | some y =>
    cases y with
    | map es clock =>
     simp only [hg] at ha;obtain ⟨es', e1, e2⟩ := hr.blk b base _ hb hg;have hget := AC (w := w) E.P e1 (by simp)
     cases hsb : Dy es n v with
     | none => simp [hsb] at ha
     | some es2 =>
      simp only [hsb, Option.some.injEq] at ha;subst ha;obtain ⟨i, q1, q2⟩ := H0 hv e2 hsb;obtain ⟨p1, p2⟩ := hr.setObj hb (by rw [hg]; simp) (.map es2 clock) (.map (es'.toArray.modify i fun e => { e with val := vv }) clock) ⟨_, by simp [List.modify_toArray], q2⟩
      refine ⟨_, ?_, p1, p2⟩;simp [Instr.entryStore, hget, asInt, asIntOf, q1, AQ (w := w) E.P e1 (by simp)]
    | _ => simp [hg] at ha
  | _ => simp at ha
include hE
theorem Ud (hr : HR ρ h.blk.get w) {t : TypeId} {m k a : AV} {mv kv : Value} {h' : Aa} (hm : VR ρ m mv) (hk : VR ρ k kv) (ha : QN E t m k h = some (a, h')) :
  A7 E ρ h h' w (Instr.mapEntry t mv kv) a := by
 unfold QN at ha;cases hd : E.desc t with
 | none => simp [hd] at ha
 | some d =>
  cases d with
  | map kt et =>
   simp only [hd] at ha;cases hkk : B0 E 20 kt k with
   | false => simp [hkk] at ha
   | true =>
    cases hz : E.zero et with
    | none => simp [hkk, hz] at ha
    | some z =>
     simp only [hkk, hz] at ha;obtain ⟨zv, z1, z2⟩ := hE.run_zero ρ hz w;have hzr := AR ρ z2;have hck : ∀ em, (Instr.checkKey em 10000 kt kv).run E.P w = .ok () w := fun em => DN (w := w) hE em 9980 20 kt k kv hkk hk
     have hkd : ∃ ds, E.desc kt = some ds := by
      simp only [B0] at hkk;cases hq : E.desc kt with
      | none => simp [hq] at hkk
      | some ds => exact ⟨ds, rfl⟩
     obtain ⟨ds, hkd⟩ := hkd
     have pair : ∀ (v : AV) (vv : Value) (n : Nat), VR ρ v vv → VR ρ (.tuple [v, .int .i64 (n : Int)]) (.tuple #[vv, goInt n]) := by
      intro v vv n hv;have := VL.cons hv (VL.cons (VR.int (ρ := ρ) .i64 (n : Int)) (VL.nil ρ));exact .tuple _ [vv, goInt n] this.1 this.2
     cases hm with
     | map b base hb =>
      simp only [] at ha;cases hg : h.blk.get b with
      | none => simp [hg] at ha
      | some y =>
       cases y with
       | map es clock =>
        simp only [hg] at ha;obtain ⟨es', e1, e2⟩ := hr.blk b base _ hb hg;have hget := AC (w := w) E.P e1 (by simp)
        cases hf : DQ E kt k es 0 with
        | none => simp [hf] at ha
        | some r =>
         obtain ⟨r', q1, q2⟩ := EC (w := w) hE hkd hk e2 hf;cases r with
         | none =>
          simp only [hf, Option.some.injEq, Prod.mk.injEq] at ha;obtain ⟨rfl, rfl⟩ := ha;cases r' with
          | some p => cases q1
          | none =>
           obtain ⟨p1, p2⟩ := hr.setObj hb (by rw [hg]; simp) (.map (es ++ [{ key := k, val := z, born := clock }]) (clock + 1)) (.map (es'.toArray.push { key := kv, val := zv, born := clock }) (clock + 1))
            ⟨es' ++ [{ key := kv, val := zv, born := clock }], by simp, e2.append ⟨hk, hzr, rfl, trivial⟩⟩
           refine ⟨ρ, _, _, ?_, pair z zv clock hzr, p1, p2⟩;simp [Instr.mapEntry, hE.run_und hd, hget, hck, q2, z1, AQ (w := w) E.P e1 (by simp)]
         | some p =>
          obtain ⟨i, v0⟩ := p;simp only [hf] at ha;cases r' with
          | none => cases q1
          | some p' =>
           obtain ⟨j, v0'⟩ := p';obtain ⟨rfl, q3⟩ := q1;cases hi : es[i]? with
           | none => simp [hi] at ha
           | some e =>
            simp only [hi] at ha;cases hs : Gw k e.key with
            | false => simp [hs] at ha
            | true =>
             simp only [hs, Option.some.injEq, Prod.mk.injEq] at ha;obtain ⟨rfl, rfl⟩ := ha;have hke := JZ hs;obtain ⟨e', g1, g2, g3, g4⟩ := e2.get hi;obtain ⟨nk, w1, s1, s2, s3, s4, s5, s6⟩ := DX (w := w) E.P e'.key kv
             have hnk : VR ρ k nk := by
              rcases s2 with rfl | rfl
              ·exact hk
              ·rw [hke]; exact g2
             have hr1 : HR ρ h.blk.get w1 := hr.same s3
             obtain ⟨p1, p2⟩ := hr1.setObj hb (by rw [hg]; simp) (.map (setVal es i k e.val) clock) (.map (es'.toArray.modify i fun e => { e with key := nk }) clock)
              ⟨es'.modify i fun e => { e with key := nk }, by simp [List.modify_toArray], ER.setKey hnk e2 hi⟩
             refine ⟨ρ, _, _, ?_, pair v0 v0' e.born q3, p1, p2.drawn s3 s4 s5 s6⟩;have e1' : w1.heap[base.cb]? = some (.map es'.toArray clock) := by rw [s3]; exact e1
             simp only [Instr.mapEntry, Sem.run_bind, hE.run_und hd, Result.andThen_ok, hget, hck, q2, List.getElem?_toArray, g1, Option.map_some, Option.getD_some, s1, g4];rw [AQ (w := w1) E.P e1' (by simp)]
             rfl
       | _ => simp [hg] at ha
     | _ => simp at ha
  | _ => simp [hd] at ha
omit hE in
theorem W4 (hE : OK E) (hr : HR ρ h.blk.get w) {t ty : TypeId} {x a : AV} {xv : Value} (hx : VR ρ x xv) (ha : ZC E t x h = some a) (ats : Array TypeId) (hat : ats[0]? = some t) (args : Array Value) (harg : args[0]? = some xv) :
    ∃ v, (Builtin.len_ ats ty args).run E.P w = .ok v w ∧ VR ρ a v := by
  unfold ZC at ha;cases hd : E.desc t with
  | none => simp [hd] at ha
  | some d =>
    cases d with
    | string =>
      cases hx <;> simp only [hd] at ha <;> first | (cases ha; done) | skip
      · simp only [Option.some.injEq] at ha
        subst ha;rename_i s;refine ⟨goInt s.size, by simp [Builtin.len_, hat, harg, hE.run_und hd], ?_⟩
        have : s.data.toList.length = s.size := by simp
        rw [this]; exact .int _ _
      · simp only [Option.some.injEq] at ha
        subst ha;rename_i i;refine ⟨goInt (AT U.V i).size, by simp [Builtin.len_, hat, harg, hE.run_und hd], ?_⟩
        have h1 : (AT U.V i).data.toList.length = (AT U.V i).size := by simp
        have h2 := C2 ρ .i64 (.lenS i);have h3 : Ad U.V (.lenS i) = ((AT U.V i).data.toList.length : Nat) := rfl;rw [h3, h1] at h2;exact h2
    | array n e =>
      simp only [hd, Option.some.injEq] at ha;subst ha;refine ⟨goInt n, ?_, .int _ _⟩;cases hx <;> simp [Builtin.len_, hat, harg, hE.run_und hd]
    | slice e =>
      cases hx <;> simp only [hd] at ha <;> first | (cases ha; done) | skip
      all_goals
        simp only [Option.some.injEq] at ha;subst ha
        first
          | exact ⟨_, by simp [Builtin.len_, hat, harg, hE.run_und hd]; rfl, .int _ _⟩
          | (rename_i e' x a n c hdv
             obtain ⟨_, _, _, e1, e2⟩ := hdv.slice_inv;cases e1;have q := C2 ρ .i64 (.lenL x);rw [Ao, e2] at q;exact ⟨_, by simp [Builtin.len_, hat, harg, hE.run_und hd]; rfl, q⟩)
          | (rename_i b es n nl cap base hb h0 hc hz hnl
             have q := C2 ρ .i64 n;refine ⟨goInt (Ad U.V n).toNat, by simp [Builtin.len_, hat, harg, hE.run_und hd], ?_⟩
             have e : goInt ((Ad U.V n).toNat : Nat) = .int .i64 (Ad U.V n) := by simp [goInt]; omega
             rw [e]; exact q)
          | (rename_i b es n nl a h0 hnl
             have q := C2 ρ .i64 n;rw [h0] at q;exact ⟨_, by simp [Builtin.len_, hat, harg, hE.run_und hd]; rfl, q⟩)
    | map k e =>
      cases hx <;> simp only [hd] at ha <;> first | (cases ha; done) | skip
      · simp only [Option.some.injEq] at ha
        subst ha;exact ⟨goInt 0, by simp [Builtin.len_, hat, harg, hE.run_und hd], .int _ _⟩
      · rename_i b base hb
        cases hg : h.blk.get b with
        | none => simp [hg] at ha
        | some y =>
          cases y with
          | map es clock =>
            simp only [hg, Option.some.injEq] at ha;subst ha;obtain ⟨es', e1, e2⟩ := hr.blk b base _ hb hg;have hget := AC (w := w) E.P e1 (by simp)
            refine ⟨goInt es'.length, by simp [Builtin.len_, hat, harg, hE.run_und hd, hget], ?_⟩
            rw [e2.length]; exact .int _ _
          | dmap kt vt x =>
            simp only [hg, Option.some.injEq] at ha;subst ha;obtain ⟨kks, vks, es', clock, _, _, e1, e2⟩ := hr.blk b base _ hb hg;have hget := AC (w := w) E.P e1 (by simp)
            refine ⟨goInt es'.length, by simp [Builtin.len_, hat, harg, hE.run_und hd, hget], ?_⟩
            have q := C2 ρ .i64 (.lenL x);rw [Ao, ← e2.length] at q;exact q
          | _ => simp [hg] at ha
    | _ => cases hx <;> simp [hd] at ha
end
end Go.AE
namespace Go.AE
variable [U : Unk]
theorem Qw {ρ : Ren} (P : Program) (w : World) (k : IntKind) : ∀ {l : List AV} {l' : List Value} {x : Int} {a : AV}, VL ρ l l' → IS k x l = some a → ∃ v, (l'.foldlM Builtin.max2 (.int k x)).run P w = .ok v w ∧ VR ρ a v := by
 intro l
 induction l with
 | nil => intro l' x a hl h; rw [hl.nil_inv]; simp only [IS, Option.some.injEq] at h; subst h; exact ⟨_, by simp, .int _ _⟩
 | cons y r ih =>
  intro l' x a hl h;obtain ⟨v, r', rfl, hv, hr⟩ := hl.cons_inv;cases hv <;> simp only [IS] at h <;> first | (cases h; done) | skip
  obtain ⟨u, q1, q2⟩ := ih hr h;exact ⟨u, by simp only [List.foldlM_cons, Builtin.max2, Sem.run_bind, Sem.run_pure, Result.andThen_ok]; exact q1, q2⟩
theorem Re {ρ : Ren} (P : Program) (w : World) (k : IntKind) : ∀ {l : List AV} {l' : List Value} {x : Int} {a : AV}, VL ρ l l' → IT k x l = some a → ∃ v, (l'.foldlM Builtin.min2 (.int k x)).run P w = .ok v w ∧ VR ρ a v := by
 intro l
 induction l with
 | nil => intro l' x a hl h; rw [hl.nil_inv]; simp only [IT, Option.some.injEq] at h; subst h; exact ⟨_, by simp, .int _ _⟩
 | cons y r ih =>
  intro l' x a hl h;obtain ⟨v, r', rfl, hv, hr⟩ := hl.cons_inv;cases hv <;> simp only [IT] at h <;> first | (cases h; done) | skip
  obtain ⟨u, q1, q2⟩ := ih hr h;exact ⟨u, by simp only [List.foldlM_cons, Builtin.min2, Sem.run_bind, Sem.run_pure, Result.andThen_ok]; exact q1, q2⟩
theorem O4 {ρ : Ren} : ∀ {l : List AV} {vs : List Value} {n : Nat}, J3 l = some n → VL ρ l vs → ∃ ns : List Int, vs = ns.map (Value.int .u8) ∧ ns.length = l.length ∧ AH (ns.map fun n => UInt8.ofNat n.toNat) = n
 | [], vs, n, h, hv => by
  simp only [J3, Option.some.injEq] at h;subst h;rw [hv.nil_inv];exact ⟨[], rfl, rfl, rfl⟩
 | a :: l, vs, n, h, hv => by
  obtain ⟨v, r, rfl, hv1, hv2⟩ := hv.cons_inv;cases hv1 <;> first | (cases h; done) | skip
  rename_i k m;cases k <;> first | (cases h; done) | skip
  cases m with
  | negSucc m => cases h
  | ofNat m =>
   simp only [J3] at h;cases hp : J3 l with
   | none => simp [hp] at h
   | some q =>
    simp only [hp, Option.some.injEq] at h;subst h;obtain ⟨ns, h1, h2, h3⟩ := O4 hp hv2;refine ⟨(m : Int) :: ns, by simp [h1], by simp [h2], ?_⟩
    simp only [List.map_cons, AH, h3, Int.toNat_natCast];simp
theorem KU (ns : List Int) : ∀ (s : ByteArray), (ns.foldl (fun r n => r.push (UInt8.ofNat n.toNat)) s).data.toList = s.data.toList ++ ns.map fun n => UInt8.ofNat n.toNat := by
 induction ns with
 | nil => intro s; simp
 | cons n ns ih => intro s; simp only [List.foldl_cons, ih, List.map_cons]; simp [ByteArray.push]
theorem JW {α : Type} (a : Array α) (x : α) (f : α → α) : (a.push x).modify a.size f = a.push (f x) := by
 apply Array.ext_getElem?;intro i;simp only [Array.getElem?_modify, Array.getElem?_push];by_cases h : i = a.size
 ·subst h; simp
 ·rw [if_neg (fun e => h e.symm), if_neg h, if_neg h]
section
variable {E : Env} (hE : OK E) {ρ : Ren} {h : Aa} {w : World}
include hE
theorem PH (hr : HR ρ h.blk.get w) {s d : TypeId} {x a : AV} {xv : Value} {h' : Aa} (hx : VR ρ x xv) (ha : SD E s d x h = some (a, h')) (hf : Bg ρ h.nx h'.nx) :
  A7 E ρ h h' w (convert s d xv) a := by
 unfold SD at ha;cases hs : E.desc s with
 | none => rw [hs] at ha; cases ha
 | some sd =>
  cases hd : E.desc d with
  | none => rw [hs, hd] at ha; cases sd <;> cases ha
  | some dd =>
   rw [hs, hd] at ha;have us := hE.run_und hs w;have ud := hE.run_und hd w;cases hx with
   | int k n =>
    cases dd <;> first | (cases ha; done) | (cases sd <;> (cases ha; done)) | skip
    simp only [Option.some.injEq, Prod.mk.injEq] at ha;obtain ⟨rfl, rfl⟩ := ha;exact AB hr ⟨_, by simp [convert, us, ud, Conv.intToInt], .int _ _⟩
   | si k e =>
    cases dd <;> first | (cases ha; done) | (cases sd <;> (cases ha; done)) | skip
    simp only [Option.some.injEq, Prod.mk.injEq] at ha;obtain ⟨rfl, rfl⟩ := ha;exact AB hr ⟨_, by simp [convert, us, ud, Conv.intToInt, Lu], C2 ρ _ (.conv _ e)⟩
   | ss i =>
    cases dd <;> first | (cases ha; done) | (cases sd <;> (cases ha; done)) | skip
    simp only [Option.some.injEq, Prod.mk.injEq] at ha;obtain ⟨rfl, rfl⟩ := ha;refine AB hr ⟨.string (AT U.V i), ?_, .ss i⟩;cases sd <;> simp [convert, us, ud]
   | str t =>
    cases dd <;> first | (cases ha; done) | (cases sd <;> (cases ha; done)) | skip
    ·simp only [Option.some.injEq, Prod.mk.injEq] at ha;obtain ⟨rfl, rfl⟩ := ha;refine AB hr ⟨.string t, ?_, .str t⟩;cases sd <;> simp [convert, us, ud]
    ·rename_i e;simp only [] at ha;cases he : E.desc e with
     | none => rw [he] at ha; cases ha
     | some ed =>
      have ue := hE.run_und he w;rw [he] at ha;cases ed <;> first | (cases ha; done) | skip
      rename_i k;cases k <;> first | (cases ha; done) | skip
      simp only [Option.some.injEq, Prod.mk.injEq] at ha;obtain ⟨rfl, rfl⟩ := ha;have hfree : ρ h.nx = none := hf h.nx (Nat.le_refl _) (by simp [Aa.new])
      generalize hcap : grownCap w t.size 0 e = cap;have hge : t.size ≤ cap := by rw [← hcap]; exact grownCap_ge w _ _ _
      generalize harr : (t.data.map (fun b => Value.int .u8 b.toNat) ++ Array.replicate (cap - t.size) (.int .u8 0)) = arr
      have hasz : arr.size = cap := by rw [← harr]; simp; omega
      have hr1 : HR ρ h.blk.get { w with drawn := w.drawn + 1 } := hr.same rfl
      obtain ⟨p1, p2⟩ := hr1.new hfree (.cells t.data.toList.length (.ofList (bytesOf t.data.toList.length (AH t.data.toList)))) (.cells arr e (arr.size, arr.size + 1)) arr.size (by
       refine ⟨arr, e, _, rfl, rfl, ?_, .inr (Nat.le_refl _), ?_⟩
       ·show 0 + _ ≤ arr.size;simp; omega
       ·intro i a hi ha;rw [T.get_ofList, FP] at ha;obtain ⟨v, hv, hvr⟩ := (PE (ρ.upd h.nx ⟨w.heap.size, 0, arr.size⟩) t.data.toList).get ha;refine ⟨v, ?_, hvr⟩;rw [← harr];have hi' : i < t.size := by simpa using hi
        simp only [Nat.zero_add];rw [Array.getElem?_append_left (by simpa using hi')]
        simpa using hv) { w with drawn := w.drawn + 1, heap := w.heap.push (.cells arr e (arr.size, arr.size + 1)) } rfl rfl rfl rfl
      refine ⟨_, .slice (some ⟨w.heap.size, 0, none⟩) t.size cap, _, ?_, ?_, p1, p2.drawn rfl rfl rfl rfl⟩
      ·have hch : (choose (.appendCap t.size 0 e)).run E.P w = .ok cap { w with drawn := w.drawn + 1 } := by rw [← hcap]; simp [Question.forced, grownCap]
       have hconv : (convert s d (.string t)).run E.P w = (Conv.stringToBytes e t).run E.P w := by
        cases sd <;> simp [convert, us, ud, ue]
       rw [hconv];simp only [Conv.stringToBytes, Sem.run_bind, hch, Result.andThen_ok, newRow, run_newObj, Sem.run_pure, harr];simp only [markStringish, Sem.run_bind, run_shape, Result.andThen_ok];have hsh : ({ w with drawn := w.drawn + 1, heap := w.heap.push (.cells arr e) } : World).shape? w.heap.size = some (e, arr.size) := by simp [World.shape?]
       rw [hsh];simp only [run_freeze, Result.andThen_ok]
       have hfz : ({ w with drawn := w.drawn + 1, heap := w.heap.push (.cells arr e) } : World).freeze ⟨w.heap.size, arr.size, none⟩ 1 = { w with drawn := w.drawn + 1, heap := w.heap.push (.cells arr e (arr.size, arr.size + 1)) } := by
        simp [World.freeze, JW]
       rw [hfz]
      ·have hsz : t.size = t.data.toList.length := by simp
       rw [hsz] at hge ⊢;exact VR.slice h.nx 0 _ 1 cap _ (Ren.upd_same _ _ _) hge (by simp [hasz])
   | slice0 =>
    cases dd <;> cases sd <;> first | (cases ha; done) | skip
    rename_i e;simp only [] at ha;cases he : E.desc e with
    | none => rw [he] at ha; cases ha
    | some ed =>
     have ue := hE.run_und he w;rw [he] at ha;cases ed <;> first | (cases ha; done) | skip
     rename_i k;cases k <;> first | (cases ha; done) | skip
     simp only [Option.some.injEq, Prod.mk.injEq] at ha;obtain ⟨rfl, rfl⟩ := ha;exact AB hr ⟨.string .empty, by simp [convert, us, ud, ue, Conv.bytesToString], .str .empty⟩
   | slice b off len es cap base hb hcap hz =>
    cases dd <;> cases sd <;> first | (cases ha; done) | skip
    ·rename_i e;simp only [] at ha;cases he : E.desc e with
     | none => rw [he] at ha; cases ha
     | some ed =>
      have ue := hE.run_und he w;rw [he] at ha;cases ed <;> first | (cases ha; done) | skip
      rename_i k;cases k <;> first | (cases ha; done) | skip
      simp only [] at ha;cases hl : Cx h b off len with
      | none => simp [hl] at ha
      | some l =>
       simp only [hl] at ha;cases hp : J3 l with
       | none => simp [hp] at ha
       | some n =>
        simp only [hp, Option.some.injEq, Prod.mk.injEq] at ha;obtain ⟨rfl, rfl⟩ := ha;unfold Cx at hl;cases hg : h.blk.get b with
        | none => simp [hg] at hl
        | some y =>
         cases y with
         | cells sz c =>
          simp only [hg] at hl;cases hq : Nat.ble (off + len) sz with
          | false => simp [hq] at hl
          | true =>
           simp only [hq] at hl;have hlen := (T.range_spec c _ _ _ hl).1;obtain ⟨vs, q1, q2, q3⟩ := hr.loadCells E.P hb hg (Dh hq) hl;obtain ⟨ns, n1, n2, n3⟩ := O4 hp q1;rw [n1] at q2;have hrun := run_bytesToString (P := E.P) w ⟨base.cb, base.co + off, none⟩ len cap ns q2;refine AB hr ⟨_, by rw [run_convert_bytes_string w s d e _ _ _ (hE.und hs) (hE.und he) (hE.und hd)]; exact hrun, ?_⟩
           have hv := VR.str (ρ := ρ) (ns.foldl (fun r n => r.push (UInt8.ofNat n.toNat)) ByteArray.empty)
           have e0 : (ByteArray.empty.data.toList ++ ns.map fun n => UInt8.ofNat n.toNat) = ns.map fun n => UInt8.ofNat n.toNat := by simp
           rw [KU, e0, List.length_map, n3, n2, hlen] at hv;exact hv
         | _ => simp [hg] at hl
    ·rename_i e e';simp only [] at ha;cases he : E.desc e with
     | none => rw [he] at ha; cases ha
     | some ed =>
      have ue := hE.run_und he w;rw [he] at ha;cases ed <;> first | (cases ha; done) | skip
      rename_i k;cases k <;> first | (cases ha; done) | skip
      simp only [] at ha;cases hsd : Nat.beq s d with
      | false => rw [hsd] at ha; cases ha
      | true =>
       cases len with
       | zero => rw [hsd] at ha; cases ha
       | succ len =>
        cases hg : h.blk.get b with
        | none => rw [hsd, hg] at ha; cases ha
        | some y =>
         cases y <;> first | (rw [hsd, hg] at ha; cases ha; done) | skip
         rename_i sz c;rw [hsd, hg] at ha;simp only [Option.some.injEq, Prod.mk.injEq] at ha;obtain ⟨rfl, rfl⟩ := ha;have hsd' := AG hsd;subst hsd';rw [hs] at hd;cases hd;obtain ⟨cur, e1, fz, r1, r2, r3, r4, r5⟩ := hr.blk b base _ hb hg;have hlt := hr.lt b base hb;have hsh : w.shape? base.cb = some (e1, cur.size) := by simp [World.shape?, r1]
         obtain ⟨w', hw'⟩ : ∃ w', w' = w.freeze ⟨base.cb, cur.size, none⟩ 1 := ⟨_, rfl⟩
         have hat : w'.heap[base.cb]? = some (.cells cur e1 (if fz.1 == fz.2 then (cur.size, cur.size + 1) else (min fz.1 cur.size, max fz.2 (cur.size + 1)))) := by
          rw [hw'];unfold World.freeze;rw [if_neg (by omega)]
          show (w.heap.modify base.cb _)[base.cb]? = _;rw [Array.getElem?_modify, if_pos rfl, r1];rfl
         have hnot : ∀ k, k ≠ base.cb → w'.heap[k]? = w.heap[k]? := by
          intro k hk;rw [hw'];unfold World.freeze;rw [if_neg (by omega)]
          show (w.heap.modify base.cb _)[k]? = _;rw [Array.getElem?_modify, if_neg (fun e => hk e.symm)]
         have hsz : w'.heap.size = w.heap.size := by rw [hw']; simp [World.freeze]
         have hstr : w'.os = w.os ∧ w'.tape = w.tape ∧ w'.output = w.output := by rw [hw']; simp [World.freeze]
         have hbr : BR ρ (.cells sz c) base w'.heap[base.cb]? := by
          refine ⟨cur, e1, _, hat, r2, r3, ?_, r5⟩;by_cases q : fz.1 = fz.2
          ·right; simp [q, r2]
          ·have := r4.resolve_left q;right;have q' : (fz.1 == fz.2) = false := by simpa using q
           rw [q'];simp only [Bool.false_eq_true, if_false];omega
         have hr' : HR ρ h.blk.get w' := by
          refine ⟨fun c d hc => hsz ▸ hr.lt c d hc, ?_, hr.apart, fun k arr hk => by rw [hnot k (hr.off k arr b base hk hb (by rw [hg]; simp)).symm]; exact hr.imm k arr hk, hr.off⟩
          intro c' d y hc hy;by_cases e : c' = b
          ·subst e;rw [hb] at hc; cases hc;rw [hg] at hy; cases hy;exact hbr
          ·rw [hnot _ (hr.apart c' b d base e hc hb (by rw [hy]; simp) (by rw [hg]; simp))]
           exact hr.blk c' d y hc hy
         refine ⟨ρ, .slice (some ⟨base.cb, base.co + off, none⟩) (len + 1) cap, w', ?_, .slice b off (len + 1) es cap base hb hcap hz, hr', ⟨Ren.le_refl ρ, Nat.le_refl _, fun _ _ e => .inl e, ⟨hstr.1, hstr.2.1, hstr.2.2, by omega⟩, ?_, ⟨[], rfl, fun _ _ _ => rfl⟩, fun _ e => .inl e, fun _ _ e => .inl e⟩⟩
         ·simp only [convert, Sem.run_bind, us, Result.andThen_ok, ue, beq_self_eq_true, markStringish, run_shape, hsh, run_freeze, Sem.run_pure, ← hw']
         ·intro k hk hn;exact hnot k (fun e => hn b base hb (by rw [hg]; simp) e.symm)
   | sliceEnd b off es ad =>
    cases dd <;> cases sd <;> first | (cases ha; done) | skip
    ·rename_i e;simp only [] at ha;cases he : E.desc e with
     | none => rw [he] at ha; cases ha
     | some ed =>
      have ue := hE.run_und he w;rw [he] at ha;cases ed <;> first | (cases ha; done) | skip
      rename_i k;cases k <;> first | (cases ha; done) | skip
      simp only [] at ha;cases hl : Cx h b off 0 with
      | none => simp [hl] at ha
      | some l =>
       simp only [hl] at ha
       have hl0 : l = [] := by
        unfold Cx at hl;cases hg : h.blk.get b with
        | none => simp [hg] at hl
        | some y =>
         cases y with
         | cells sz c =>
          simp only [hg] at hl;cases hq : Nat.ble (off + 0) sz with
          | false => simp only [hq] at hl; cases hl
          | true => simp only [hq, T.range, Option.some.injEq] at hl; exact hl.symm
         | _ => simp [hg] at hl
       subst hl0;simp only [J3, Option.some.injEq, Prod.mk.injEq] at ha;obtain ⟨rfl, rfl⟩ := ha;have hrun := run_bytesToString (P := E.P) w ad 0 0 [] (by simp [Go.loadCells, loadCellsFrom])
       exact AB hr ⟨_, by rw [run_convert_bytes_string w s d e _ _ _ (hE.und hs) (hE.und he) (hE.und hd)]; exact hrun, .str .empty⟩
    ·rename_i e e';simp only [] at ha;cases he : E.desc e with
     | none => rw [he] at ha; cases ha
     | some ed =>
      rw [he] at ha;cases ed <;> first | (cases ha; done) | skip
      rename_i k;cases k <;> first | (cases ha; done) | skip
      simp only [] at ha;cases Nat.beq s d <;> cases h.blk.get b <;> simp at ha
   | _ => cases dd <;> first | (cases ha; done) | (cases sd <;> (cases ha; done))
end
end Go.AE
namespace Go.AE
variable [U : Unk]
theorem Hq (c : UInt8) (s : ByteArray) : ∀ (n i : Nat), i + n = s.size → DC c.toNat n (AH (s.data.toList.drop i)) i = (match (List.range' i n).find? (fun j => s[j]! == c) with | some j => (j : Int) | none => -1)
 | 0, i, h => by simp [DC]
 | n + 1, i, h => by
  have hi : i < s.data.toList.length := by simp; omega
  have hd : s.data.toList.drop i = s.data.toList[i] :: s.data.toList.drop (i + 1) := List.drop_eq_getElem_cons hi
  have hg : s[i]! = s.data.toList[i] := by
   have hi' : i < s.size := by omega
   rw [getElem!_pos s i hi']; rfl
  obtain ⟨h1, h2⟩ := Fw s.data.toList[i] (s.data.toList.drop (i + 1));rw [hd];simp only [DC, h1, h2, List.range'_succ, List.find?_cons, hg];by_cases e : s.data.toList[i] = c
  ·rw [e]; simp
  ·have e1 : Nat.beq s.data.toList[i].toNat c.toNat = false := FM (fun q => e (UInt8.toNat_inj.1 q))
   have e2 : (s.data.toList[i] == c) = false := by simpa using e
   rw [e1, e2];exact Hq c s n (i + 1) (by omega)
section
variable {E : Env} (hE : OK E) {ρ : Ren} {h : Aa} {w : World}
include hE
theorem Qi {x a : AV} {xv : Value} {xt t : TypeId} {ok : Bool} (hx : VR ρ x xv) (ha : Od E x t ok = some a) :
  ∃ v, (Instr.typeAssert xv xt t ok).run E.P w = .ok v w ∧ VR ρ a v := by
 unfold Od at ha;cases hd : E.desc t with
 | none => rw [hd] at ha; cases ha
 | some d =>
  rw [hd] at ha;have hu := hE.run_und hd w
  have pair : ∀ (v : AV) (vv : Value) (b : Bool), VR ρ v vv → VR ρ (.tuple [v, .bool b]) (.tuple #[vv, .bool b]) := by
   intro v vv b hv;have := VL.cons hv (VL.cons (VR.bool (ρ := ρ) b) (VL.nil ρ));exact .tuple _ [vv, .bool b] this.1 this.2
  simp only [] at ha;cases hif : ON d with
  | true => simp [hif] at ha
  | false =>
   simp only [hif] at ha;cases hx <;> first | (cases ha; done) | skip
   ·rename_i t' v vv hv;simp only [N3] at ha
    have run1 : (Instr.typeAssert (.iface t' vv) xt t ok).run E.P w = (if t' = t then (pure (if ok then .tuple #[vv, .bool true] else vv) : Sem Value) else
      (if ok then (do pure (.tuple #[← zeroValue t, .bool false])) else runtimePanic (.typeAssertion (some xt) (some t') t ""))).run E.P w := by
     cases d <;> first | (cases hif; done) | simp only [Instr.typeAssert, Sem.run_bind, hu, Result.andThen_ok]
    cases hb : Nat.beq t' t with
    | true =>
     have := AG hb;cases ok with
     | true =>
      simp only [hb, Option.some.injEq] at ha;subst ha;exact ⟨_, by rw [run1, if_pos this]; rfl, pair v vv true hv⟩
     | false =>
      simp only [hb, Option.some.injEq] at ha;subst ha;exact ⟨_, by rw [run1, if_pos this]; rfl, hv⟩
    | false =>
     have := Tw hb;cases ok with
     | true =>
      cases hz : E.zero t with
      | none => simp [hb, hz] at ha
      | some z =>
       simp only [hb, hz, Option.some.injEq] at ha;subst ha;obtain ⟨zv, z1, z2⟩ := hE.run_zero ρ hz w;exact ⟨_, by rw [run1, if_neg this]; simp [z1], pair z zv false (AR ρ z2)⟩
     | false => simp [hb] at ha
   ·simp only [N3] at ha;cases ok with
    | false => cases hz : E.zero t <;> simp at ha
    | true =>
     cases hz : E.zero t with
     | none => simp [hz] at ha
     | some z =>
      simp only [hz, Option.some.injEq] at ha;subst ha;obtain ⟨zv, z1, z2⟩ := hE.run_zero ρ hz w;refine ⟨_, ?_, pair z zv false (AR ρ z2)⟩;cases d <;> first | (cases hif; done) | simp [Instr.typeAssert, hu, z1]
theorem Tp (hr : HR ρ h.blk.get w) {t : TypeId} {x a : AV} {xv : Value} {h' : Aa} (hx : VR ρ x xv) (ha : QA E t x h = some (a, h')) (hf : Bg ρ h.nx h'.nx) :
  A7 E ρ h h' w (Instr.range t xv) a := by
 unfold QA at ha;cases hd : E.desc t with
 | none => rw [hd] at ha; cases ha
 | some d =>
  rw [hd] at ha;have hu := hE.run_und hd w;cases d <;> first | (cases ha; done) | skip
  rename_i kt et
  ·cases hx <;> first | (cases ha; done) | skip
   ·simp only [Option.some.injEq, Prod.mk.injEq] at ha;obtain ⟨rfl, rfl⟩ := ha;have hfree : ρ h.nx = none := hf h.nx (Nat.le_refl _) (by simp [Aa.new])
    obtain ⟨p1, p2⟩ := hr.new hfree (.mapIter none 0 [] 0) (.mapIter none 0 #[] 0) 0 ⟨rfl, rfl⟩ { w with heap := w.heap.push (.mapIter none 0 #[] 0) } rfl rfl rfl rfl
    refine ⟨_, .pointer (some ⟨w.heap.size, 0, none⟩), _, by simp [Instr.range, hu], ?_, p1, p2⟩
    exact .ptr h.nx 0 _ (Ren.upd_same _ _ _)
   ·rename_i b base hb;simp only [] at ha;cases hg : h.blk.get b with
    | none => simp [hg] at ha
    | some y =>
     cases y with
     | map es clock =>
      simp only [hg, Option.some.injEq, Prod.mk.injEq] at ha;obtain ⟨rfl, rfl⟩ := ha;obtain ⟨es', e1, e2⟩ := hr.blk b base _ hb hg;have hget := AC (w := w) E.P e1 (by simp)
      have hfree : ρ h.nx = none := hf h.nx (Nat.le_refl _) (by simp [Aa.new])
      obtain ⟨p1, p2⟩ := hr.new hfree (.mapIter (some b) clock [] clock) (.mapIter (some base.cb) clock #[] clock) 0 ⟨rfl, base, (Ren.le_upd hfree _).m _ _ hb, rfl⟩ { w with heap := w.heap.push (.mapIter (some base.cb) clock #[] clock) } rfl rfl rfl rfl
      refine ⟨_, .pointer (some ⟨w.heap.size, 0, none⟩), _, by simp [Instr.range, hu, hget], ?_, p1, p2⟩
      exact .ptr h.nx 0 _ (Ren.upd_same _ _ _)
     | _ => simp [hg] at ha
end
end Go.AE
namespace Go.AE
variable [U : Unk]
section
variable {E : Env} (hE : OK E) {ρ : Ren} {h : Aa} {w : World}
theorem Uv (hr : HR ρ h.blk.get w) {it a : AV} {iv : Value} {isS : Bool} {ty : TypeId} {h' : Aa} (hi : VR ρ it iv) (ha : VY it isS h = some (a, h')) :
  A7 E ρ h h' w (Instr.next iv isS ty) a := by
 unfold VY at ha
 have fin1 : VR ρ (.tuple [.bool false]) (.tuple #[.bool false]) := by
  have := VL.cons (VR.bool (ρ := ρ) false) (VL.nil ρ);exact .tuple _ [.bool false] this.1 this.2
 have trip : ∀ (x y : AV) (xv yv : Value), VR ρ x xv → VR ρ y yv → VR ρ (.tuple [.bool true, x, y]) (.tuple #[.bool true, xv, yv]) := by
  intro x y xv yv hx hy;have := VL.cons (VR.bool (ρ := ρ) true) (VL.cons hx (VL.cons hy (VL.nil ρ)));exact .tuple _ [.bool true, xv, yv] this.1 this.2
 cases hi <;> first | (cases ha; done) | skip
 rename_i r off base hb;cases off with
 | succ n => cases ha
 | zero =>
  simp only [] at ha;cases hg : h.blk.get r with
  | none => rw [hg] at ha; cases ha
  | some y =>
   rw [hg] at ha;cases y <;> first | (cases isS <;> (cases ha; done)) | skip
   rename_i m since seen last;cases isS with
   | true => cases m <;> cases ha
   | false =>
    cases m with
    | none =>
     simp only [Option.some.injEq, Prod.mk.injEq] at ha;obtain ⟨rfl, rfl⟩ := ha;obtain ⟨hc0, e1⟩ := hr.blk r base _ hb hg;have hget := AC (w := w) E.P e1 (by simp)
     refine AB hr ⟨_, ?_, fin1⟩;simp [Instr.next, hc0, hget]
    | some m =>
     obtain ⟨hc0, bm, hm, e1⟩ := hr.blk r base _ hb hg;have hget := AC (w := w) E.P e1 (by simp)
     simp only [] at ha;cases hgm : h.blk.get m with
     | none => rw [hgm] at ha; cases ha
     | some ym =>
      rw [hgm] at ha;cases ym <;> first | (cases ha; done) | skip
      rename_i es clock;obtain ⟨es', m1, m2⟩ := hr.blk m bm _ hm hgm;have hgetm := AC (w := w) E.P m1 (by simp)
      cases es with
      | nil =>
       simp only [Option.some.injEq, Prod.mk.injEq] at ha;obtain ⟨rfl, rfl⟩ := ha;cases es' with
       | cons => cases m2
       | nil =>
        refine AB hr ⟨_, ?_, fin1⟩;simp [Instr.next, hc0, hget, hgetm, Question.forced]
      | cons e es =>
       cases es with
       | cons => cases ha
       | nil =>
        cases es' with
        | nil => cases m2
        | cons e' es' =>
         cases es' with
         | cons => exact absurd m2.2.2.2 (by simp [ER])
         | nil =>
          obtain ⟨k1, k2, k3, _⟩ := m2;simp only [] at ha;cases hbb : (Nat.blt e.born since && Nat.blt e.born last) with
          | false => rw [hbb] at ha; cases seen <;> cases ha
          | true =>
           rw [hbb] at ha;obtain ⟨b1, b2⟩ := Av hbb;have c1 := IqQ b1;have c2 := IqQ b2;cases seen with
           | nil =>
            simp only [Option.some.injEq, Prod.mk.injEq] at ha;obtain ⟨rfl, rfl⟩ := ha;obtain ⟨p1, p2⟩ := hr.setObj hb (by rw [hg]; simp) (.mapIter (some m) since [e.born] clock) (.mapIter (some bm.cb) since #[e.born] clock) ⟨hc0, bm, hm, rfl⟩
            refine ⟨ρ, .tuple #[.bool true, e'.key, e'.val], _, ?_, trip _ _ _ _ k1 k2, p1, p2⟩;have q1 : e'.born < since := by omega
            have q2 : ¬ since ≤ e'.born := by omega
            rw [← k3];simp [Instr.next, hc0, hget, hgetm, q1, q2, Question.forced, AQ (w := w) E.P e1 (by simp)]
           | cons n seen =>
            cases seen with
            | cons => cases ha
            | nil =>
             simp only [] at ha;cases hn : Nat.beq n e.born with
             | false => rw [hn] at ha; cases ha
             | true =>
              rw [hn] at ha;simp only [Option.some.injEq, Prod.mk.injEq] at ha;obtain ⟨rfl, rfl⟩ := ha;have hn' := AG hn;refine AB hr ⟨_, ?_, fin1⟩;have q1 : ¬ last ≤ e'.born := by omega
              have hn2 : n = e'.born := by omega
              subst hn2;simp [Instr.next, hc0, hget, hgetm, q1, Question.forced]
theorem Mv (hr : HR ρ h.blk.get w) {it a : AV} {iv : Value} (hi : VR ρ it iv) (ha : HP it h = some a) :
  ∃ v, (Instr.entry iv).run E.P w = .ok v w ∧ VR ρ a v := by
 unfold HP at ha;cases hi <;> first | (cases ha; done) | skip
 rename_i r off base hb;cases off with
 | succ n => cases ha
 | zero =>
  simp only [] at ha;cases hg : h.blk.get r with
  | none => rw [hg] at ha; cases ha
  | some y =>
   rw [hg] at ha;cases y <;> first | (cases ha; done) | skip
   rename_i m since seen last;cases m with
   | none => cases ha
   | some m =>
    cases seen with
    | nil => cases ha
    | cons n seen =>
     cases seen with
     | cons => cases ha
     | nil =>
      obtain ⟨hc0, bm, hm, e1⟩ := hr.blk r base _ hb hg;have hget := AC (w := w) E.P e1 (by simp)
      simp only [] at ha;cases hgm : h.blk.get m with
      | none => rw [hgm] at ha; cases ha
      | some ym =>
       rw [hgm] at ha;cases ym <;> first | (cases ha; done) | skip
       rename_i es clock;obtain ⟨es', m1, m2⟩ := hr.blk m bm _ hm hgm;have hgetm := AC (w := w) E.P m1 (by simp)
       cases es with
       | nil => cases ha
       | cons e es =>
        cases es with
        | cons => cases ha
        | nil =>
         cases es' with
         | nil => cases m2
         | cons e' es' =>
          cases es' with
          | cons => exact absurd m2.2.2.2 (by simp [ER])
          | nil =>
           obtain ⟨k1, k2, k3, _⟩ := m2;simp only [] at ha;cases hbb : (Nat.beq clock last && Nat.beq e.born n) with
           | false => rw [hbb] at ha; cases ha
           | true =>
            rw [hbb] at ha;simp only [Option.some.injEq] at ha;subst ha;obtain ⟨b1, b2⟩ := Av hbb;have c1 := AG b1;have c2 := AG b2;have hv := VL.cons k1 (VL.cons k2 (VL.nil ρ));refine ⟨.tuple #[e'.key, e'.val], ?_, .tuple _ [e'.key, e'.val] hv.1 hv.2⟩;simp [Instr.entry, hc0, hget, hgetm, c1, k3, c2]
theorem Kx {nt : Nat} {tmps : T AV} {tm : Array Value} (ht : TR ρ nt tmps tm) (o : Operand) : VR ρ (Aj tmps o) (match o with
  | .tmp t => tm.getD t Go.undef
  | .const v => v
  | .global g => .pointer (some ⟨g, 0, none⟩)
  | .func f => .func (.func f) #[] #[]) := by
 cases o with
 | tmp t =>
  simp only [Aj];cases hg : tmps.get t with
  | none => exact .top _
  | some a => exact ht.get t a hg
 | const v =>
  simp only [Aj];cases hv : ofValue v with
  | none => exact .top v
  | some a => exact AR ρ hv
 | global g => exact .top _
 | func f => exact .func _ _ [] [] [] [] rfl rfl (by simp) rfl (by simp)
def EvR (ρ : Ren) (tmps : T AV) (ev : Operand → Value) : Prop := ∀ o, VR ρ (Aj tmps o) (ev o)
theorem EvR.list {tmps : T AV} {ev : Operand → Value} (hev : EvR ρ tmps ev) : ∀ (l : List Operand), VL ρ (l.map (Aj tmps)) (l.map ev)
 | [] => VL.nil ρ
 | o :: l => VL.cons (hev o) (EvR.list hev l)
theorem EvR.parts {tmps : T AV} {ev : Operand → Value} (hev : EvR ρ tmps ev) : ∀ (l : List (Nat × Operand)), PL ρ (l.map fun (i, x) => (i, Aj tmps x)) (l.map fun (i, x) => (i, ev x))
 | [] => trivial
 | (i, x) :: l => ⟨rfl, hev x, EvR.parts hev l⟩
end
end Go.AE

