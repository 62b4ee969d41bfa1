/- What is proved here: an evaluator of the model's steps that the kernel can run, and that whatever it answers is what the model does (part 2 of 6: AeOps5, AeOps6, AeOps7, AeOps8, AeOps9, AeOps10, AeOps11, AeSym, AeOps12, AeOps13, AeOps14, AeOps15, AeOps16, AeOps17, AeOps18, AeDat1, AeDat2). Conditions: those that each theorem states; they hold of no one program. -/
import Derived.Test.YtpcdkfgmpekeeaaBeA
import Derived.IntWalk
import Derived.Laws.Append
import Derived.Laws.AppendOwn
import Derived.Laws.StructEq
import Derived.ChangeKeysEq
import Derived.Laws.Closers25b
import Derived.Laws.BytesString
set_option linter.unusedVariables false
set_option linter.unusedSectionVars false
set_option linter.unusedSimpArgs false
namespace Go.AE
variable [U : Unk]
def To {α : Type} (l : List α) (off : Nat) (r l2 : List α) : Prop := l2.length = l.length ∧ ∀ j, l2[j]? = if off ≤ j ∧ j < off + r.length then r[j - off]? else l[j]?
theorem Ey : ∀ (l : List AV) (off : Nat) (r : List AV), off + r.length ≤ l.length → To l off r (AU l off r) := by
 intro l
 induction l with
 | nil =>
  intro off r h;have : r = [] := List.eq_nil_of_length_eq_zero (by simp only [List.length_nil] at h; omega)
  subst this;exact ⟨by simp [AU], fun j => by simp [AU]⟩
 | cons x l ih =>
  intro off r h;cases r with
  | nil => exact ⟨by simp [AU], fun j => by rw [if_neg (by simp)]; simp [AU]⟩
  | cons v r =>
   simp only [List.length_cons] at h;cases off with
   | zero =>
    obtain ⟨h1, h2⟩ := ih 0 r (by omega)
    refine ⟨by simp [AU, h1], fun j => ?_⟩
    cases j with
    | zero => simp [AU]
    | succ j =>
     simp only [AU, List.getElem?_cons_succ, h2 j, List.length_cons, Nat.zero_add, Nat.zero_le, true_and, Nat.sub_zero];by_cases c : j < r.length
     ·rw [if_pos c, if_pos (by omega)]
     ·rw [if_neg c, if_neg (by omega)]
   | succ off =>
    obtain ⟨h1, h2⟩ := ih off (v :: r) (by simp; omega)
    refine ⟨by simp [AU, h1], fun j => ?_⟩
    cases j with
    | zero => rw [if_neg (by omega)]; simp [AU]
    | succ j =>
     simp only [AU, List.getElem?_cons_succ, h2 j, List.length_cons];by_cases c : off ≤ j ∧ j < off + (r.length + 1)
     ·rw [if_pos c, if_pos (by omega)]; congr 1; omega
     ·rw [if_neg c, if_neg (by omega)]
theorem PX (off : Nat) : ∀ (r : List Value) (k : Nat) (cs : Array Value), off + k + r.length ≤ cs.size →
  To cs.toList (off + k) r ((r.zipIdx k).foldl (fun cs (p : Value × Nat) => cs.setIfInBounds (off + p.2) p.1) cs).toList := by
 intro r
 induction r with
 | nil => intro k cs h; exact ⟨rfl, fun j => by rw [if_neg (by simp)]; rfl⟩
 | cons v r ih =>
  intro k cs h;simp only [List.length_cons] at h;simp only [List.zipIdx_cons, List.foldl_cons];obtain ⟨h1, h2⟩ := ih (k + 1) (cs.setIfInBounds (off + k) v) (by simp; omega)
  refine ⟨by rw [h1]; simp, fun j => ?_⟩
  rw [h2 j];simp only [List.length_cons];by_cases c1 : off + (k + 1) ≤ j ∧ j < off + (k + 1) + r.length
  ·rw [if_pos c1, if_pos (by omega)]
   have : j - (off + k) = (j - (off + (k + 1))) + 1 := by omega
   rw [this, List.getElem?_cons_succ]
  ·rw [if_neg c1];by_cases c2 : j = off + k
   ·subst c2;rw [if_pos (by omega)]
    have : off + k < cs.size := by omega
    simp [this]
   ·rw [if_neg (by omega)]
    simp only [Array.getElem?_toList];rw [Array.getElem?_setIfInBounds_ne (fun e => c2 e.symm)]
theorem To.vl {ρ : Ren} {l r l2 : List AV} {l' r' l2' : List Value} {off : Nat} (h : To l off r l2) (h' : To l' off r' l2') (hl : VL ρ l l') (hr : VL ρ r r') : VL ρ l2 l2' := by
 refine ⟨by rw [h.1, h'.1, hl.1], fun i a v ha hv => ?_⟩
 rw [h.2 i] at ha;rw [h'.2 i, ← hr.1] at hv;by_cases c : off ≤ i ∧ i < off + r.length
 ·rw [if_pos c] at ha hv; exact hr.2 _ a v ha hv
 ·rw [if_neg c] at ha hv; exact hl.2 _ a v ha hv
def PL (ρ : Ren) : List (Nat × AV) → List (Nat × Value) → Prop
 | [], [] => True
 | (i, a) :: r, (j, v) :: r' => i = j ∧ VR ρ a v ∧ PL ρ r r'
 | _, _ => False
theorem Hl {ρ : Ren} {place : Nat → Option (Nat × Nat)} : ∀ {ps : List (Nat × AV)} {ps' : List (Nat × Value)} {cells out : List AV} {cells' : Array Value}, PL ρ ps ps' → VL ρ cells cells'.toList →
  EH place cells ps = some out → ∃ out', Instr.fill place cells' ps' = some out' ∧ VL ρ out out'.toList
 | [], [], cells, out, cells', _, hc, h => by
  simp only [EH, Option.some.injEq] at h;subst h;exact ⟨cells', rfl, hc⟩
 | (i, a) :: r, (j, v) :: r', cells, out, cells', ⟨h1, h2, h3⟩, hc, h => by
  subst h1;simp only [EH] at h;cases hp : place i with
  | none => simp [hp] at h
  | some p =>
   obtain ⟨off, size⟩ := p;simp only [hp] at h;cases hq : (Nat.beq a.cells.length size && Nat.ble (off + size) cells.length && !a.isTop) with
   | false => simp [hq] at h
   | true =>
    simp only [hq] at h;obtain ⟨q12, q0⟩ := Av hq;obtain ⟨q1, q2⟩ := Av q12;have hnt : a ≠ .top := by rintro rfl; simp [AV.isTop] at q0
    have e1 := AA q1;have e2 := C7 q2;have hv := h2.cells hnt;have hlen : v.cells.size = size := by have := hv.1; simp at this; omega
    have hcl : cells.length = cells'.size := by simpa using hc.1
    have L1 := Ey cells off a.cells (by omega)
    have L2 := PX off v.cells.toList 0 cells' (by simp; omega)
    simp only [Nat.add_zero] at L2;obtain ⟨out', q3, q4⟩ := Hl h3 (L1.vl L2 hc hv) h;refine ⟨out', ?_, q4⟩;simp only [Instr.fill, hp];rw [if_neg (by simp [hlen]; omega), ← q3]
    congr 1
    rw [← Array.foldl_toList];simp [Array.toList_zipIdx]
theorem Ho {place : Nat → Option (Nat × Nat)} : ∀ {ps : List (Nat × AV)} {cells out : List AV}, EH place cells ps = some out → out.length = cells.length
 | [], cells, out, h => by simp only [EH, Option.some.injEq] at h; subst h; rfl
 | (i, a) :: r, cells, out, h => by
  simp only [EH] at h;cases hp : place i with
  | none => simp [hp] at h
  | some p =>
   obtain ⟨off, size⟩ := p;simp only [hp] at h;cases hq : (Nat.beq a.cells.length size && Nat.ble (off + size) cells.length && !a.isTop) with
   | false => simp [hq] at h
   | true =>
    simp only [hq] at h;obtain ⟨q12, q0⟩ := Av hq;obtain ⟨q1, q2⟩ := Av q12;have e1 := AA q1;have e2 := C7 q2;rw [Ho h, (Ey cells off a.cells (by omega)).1]
section
variable {E : Env} (hE : OK E) {ρ : Ren} {h : Aa} {w : World}
include hE
omit hE in
theorem Bp {v : Value} {z : AV} (h : ofValue v = some z) : z ≠ .top := by
 rintro rfl
 cases v with
 | agg c => simp only [ofValue] at h; cases hc : CO c.toList <;> simp [hc] at h
 | pointer p => cases p <;> simp [ofValue, A1] at h
 | slice p l c => cases p <;> cases l <;> cases c <;> simp [ofValue, A1] at h
 | map r => cases r <;> simp [ofValue, A1] at h
 | _ => simp [ofValue, A1] at h
theorem Jk (fs : List Field) (hall : fs.all (fun f => E.has f.type) = true) (w : World) :
  (fs.mapM fun f => do pure (f.offset, ← sizeOf f.type) : Sem (List (Nat × Nat))).run E.P w = .ok (fs.map fun f => (f.offset, E.size f.type)) w := by
 induction fs with
 | nil => simp
 | cons f r ih =>
  simp only [List.all_cons, Bool.and_eq_true] at hall;simp only [List.mapM_cons, Sem.run_bind, hE.run_has hall.1, Result.andThen_ok, Sem.run_pure, ih hall.2, List.map_cons]
theorem Sy {t : TypeId} {ps : List (Nat × AV)} {ps' : List (Nat × Value)} {a : AV} (hp : PL ρ ps ps') (hb : Qy E t ps = some a) :
  ∃ v, (Instr.build t ps'.toArray).run E.P w = .ok v w ∧ VR ρ a v := by
 unfold Qy at hb;cases hz : E.zero t with
 | none => simp [hz] at hb
 | some z =>
  obtain ⟨zv, z1, z2⟩ := hE.run_zero ρ hz w;have zc := (A5 ρ z2).cells (Bp z2);cases hd : E.desc t with
  | none => simp [hz, hd] at hb
  | some d =>
   cases d with
   | struct fs =>
    simp only [hz, hd] at hb;cases hall : fs.toList.all (fun f => E.has f.type) with
    | false => simp only [hall] at hb; cases hb
    | true =>
     simp only [hall] at hb;cases hf : EH (MH E fs.toList) z.cells ps with
     | none => simp only [hf, Option.map_none] at hb; cases hb
     | some out =>
      simp only [hf, Option.map_some, Option.some.injEq] at hb;subst hb
      have hpl : MH E fs.toList = (fun i => ((fs.toList.map fun f => (f.offset, E.size f.type)).toArray)[i]?) := by
       funext i
       simp only [MH, List.getElem?_toArray, List.getElem?_map];cases fs.toList[i]? <;> rfl
      rw [hpl] at hf;obtain ⟨out', q1, q2⟩ := Hl hp zc hf;refine ⟨.agg out', ?_, ?_⟩
      ·have hm := Jk hE fs.toList hall w;simp only [Instr.build, Sem.run_bind, z1, Result.andThen_ok, hE.run_und hd];rw [Array.mapM_eq_mapM_toList];simp only [Sem.run_map, hm, Result.andThen_ok];rw [q1];rfl
      ·exact .agg out out'.toList q2.1 q2.2
   | array n e =>
    simp only [hz, hd] at hb;cases hh : E.has e with
    | false => simp [hh] at hb
    | true =>
     simp only [hh] at hb;cases hf : EH (fun i => some (i * E.size e, E.size e)) z.cells ps with
     | none => simp [hf] at hb
     | some out =>
      simp only [hf, Option.map_some, Option.some.injEq] at hb;subst hb;obtain ⟨out', q1, q2⟩ := Hl hp zc hf;refine ⟨.agg out', ?_, .agg out out'.toList q2.1 q2.2⟩;simp [Instr.build, z1, hE.run_und hd, hE.run_has hh, q1]
   | _ => simp [hz, hd] at hb
end
end Go.AE
namespace Go.AE
variable [U : Unk]
theorem Fa (n : Nat) (h : n ≤ 4611686018427387904) : IntKind.i64.wrap (n : Int) = n := IntWalk.i64_in _ (by omega)
theorem I8 (z : List AV) : ∀ (n i : Nat), i < n * z.length → (Bs z n)[i]? = z[i % z.length]?
 | 0, i, h => by simp at h
 | n + 1, i, h => by
  simp only [Bs];by_cases hi : i < z.length
  ·rw [List.getElem?_append_left hi, Nat.mod_eq_of_lt hi]
  ·rw [List.getElem?_append_right (by omega), I8 z n (i - z.length) (by rw [Nat.add_mul] at h; omega)]
   congr 1
   rw [← Nat.mod_eq_sub_mod (by omega)]
theorem B5 (z : List AV) : ∀ n, (Bs z n).length = n * z.length
 | 0 => by simp [Bs]
 | n + 1 => by simp only [Bs, List.length_append, B5 z n, Nat.add_mul]; omega
theorem DZ {ρ : Ren} {z : List AV} {zero : Array Value} (hz : VL ρ z zero.toList) (n : Nat) (zero' : Array Value) (h0 : n * z.length = 0 ∨ zero' = zero) :
  VL ρ (Bs z n) ((Array.range (n * z.length)).map (zero'[· % zero'.size]!)).toList := by
 have hl : z.length = zero.size := by simpa using hz.1
 refine ⟨by simp [B5], fun i a v ha hv => ?_⟩
 have hi : i < n * z.length := by
  have := (List.getElem?_eq_some_iff.1 ha).1
  rwa [B5] at this
 rcases h0 with h0 | rfl
 ·omega
 ·have hzp : 0 < z.length := by
   rcases Nat.eq_zero_or_pos z.length with e | e
   ·rw [e] at hi; simp at hi
   ·exact e
  rw [I8 z n i hi] at ha;have hm : i % z.length < z.length := Nat.mod_lt _ hzp;simp only [Array.toList_map, Array.toList_range, List.getElem?_map, List.getElem?_range hi, Option.map_some, Option.some.injEq] at hv;subst hv;obtain ⟨v, hv, hvr⟩ := hz.get ha;rw [hl] at hv
  have : zero'[i % zero'.size]! = v := by
   rw [Array.getElem?_toList] at hv;simp [Array.getElem!_eq_getD, Array.getD_eq_getD_getElem?, hv]
  rw [this]; exact hvr
section
variable {E : Env} (hE : OK E) {ρ : Ren} {h : Aa} {w : World}
include hE
def A3 (E : Env) (ρ : Ren) (h h' : Aa) (w : World) (s : Sem Value) (a : AV) : Prop :=
 ∃ σ v w', s.run E.P w = .ok v w' ∧ VR σ a v ∧ HR σ h'.blk.get w' ∧ Ext ρ σ h h' w w'
omit hE in
theorem AM (hr : HR ρ h.blk.get w) {s : Sem Value} {a : AV} (hs : ∃ v, s.run E.P w = .ok v w ∧ VR ρ a v) : A3 E ρ h h w s a := by
 obtain ⟨v, h1, h2⟩ := hs;exact ⟨ρ, v, w, h1, h2, hr, Ext.refl ρ h w⟩
theorem Tk (hr : HR ρ h.blk.get w) (hf : ρ h.nx = none) {t : TypeId} {z : AV} (hz : E.zero t = some z) :
  A3 E ρ h (Bw h z.cells) w (Instr.alloc t true (.tuple #[])) (.ptr h.nx 0) := by
 obtain ⟨zv, z1, z2⟩ := hE.run_zero ρ hz w;have zc := (A5 ρ z2).cells (Bp z2);obtain ⟨σ, s1, q1, q2⟩ := hr.newList hf t zv.cells zc;refine ⟨σ, .pointer (some ⟨w.heap.size, 0, none⟩), _, ?_, .ptr h.nx 0 _ s1, q1, q2⟩;simp only [Instr.alloc, Sem.run_bind, z1, Result.andThen_ok, newVar, newRow, run_newObj, Sem.run_pure]
omit hE in
theorem Zi (hr : HR ρ h.blk.get w) (hf : ρ h.nx = none) {t : TypeId} {a : AV} {v : Value} (ha : VR ρ a v) (ht : a ≠ .top) :
  A3 E ρ h (Bw h a.cells) w (Instr.box t v) (.ptr h.nx 0) := by
 obtain ⟨σ, s1, q1, q2⟩ := hr.newList hf t v.cells (ha.cells ht);refine ⟨σ, .pointer (some ⟨w.heap.size, 0, none⟩), _, ?_, .ptr h.nx 0 _ s1, q1, q2⟩;simp only [Instr.box, Sem.run_bind, Result.andThen_ok, newVar, newRow, run_newObj, Sem.run_pure]
theorem JZ (hr : HR ρ h.blk.get w) {t : TypeId} {len : Nat} {ps : List (Nat × AV)} {ps' : List (Nat × Value)} {a : AV} {h' : Aa} (hp : PL ρ ps ps') (hb : FY E t len ps h = some (a, h')) (hf : Bh ρ h.nx h'.nx) :
  A3 E ρ h h' w (Instr.buildSlice t len ps'.toArray) a := by
 unfold FY at hb;cases hd : E.desc t with
 | none => simp [hd] at hb
 | some d =>
  cases d with
  | slice e =>
   simp only [hd] at hb;cases hc : Nat.ble (len * E.size e) 16777216 with
   | false => simp [hc] at hb
   | true =>
    cases hz : E.zero e with
    | none => simp [hc, hz] at hb
    | some z =>
     simp only [hc, hz] at hb;cases hzl : Nat.beq z.cells.length (E.size e) with
     | false => simp [hzl] at hb
     | true =>
      simp only [hzl] at hb;cases hfl : EH (fun i => some (i * E.size e, E.size e)) (Bs z.cells len) ps with
      | none => simp [hfl] at hb
      | some cells =>
       simp only [hfl, Option.some.injEq, Prod.mk.injEq] at hb;obtain ⟨rfl, rfl⟩ := hb;have hzl' := AA hzl;have hc' := C7 hc;obtain ⟨i, v, i1, i2, i3⟩ := FN hz;have hsz : ∀ w, (sizeOf e).run E.P w = .ok (E.size e) w := fun w => by rw [hE.run_sz i1]; simp [Env.size, i1]
       obtain ⟨zv, z1, z2⟩ := hE.run_zero ρ hz w;have zc := (A5 ρ z2).cells (Bp z2);have hfree : ρ h.nx = none := hf h.nx (Nat.le_refl _) (by simp [Bw, Aa.new])
       have h0 : len * z.cells.length = 0 ∨ (if len * E.size e = 0 then #[] else zv.cells) = zv.cells := by
        rw [hzl'];by_cases e0 : len * E.size e = 0
        ·exact .inl e0
        ·exact .inr (by rw [if_neg e0])
       have hcells := DZ zc len (if len * E.size e = 0 then #[] else zv.cells) h0
       rw [hzl'] at hcells;obtain ⟨out', o1, o2⟩ := Hl hp hcells hfl;obtain ⟨σ, s1, q1, q2⟩ := hr.newList hfree e out' o2
       have hol : out'.size = len * E.size e := by
        have g1 := Ho hfl;rw [B5, hzl'] at g1;have g2 := o2.1;simp at g2;omega
       refine ⟨σ, .slice (some ⟨w.heap.size, 0, none⟩) len len, _, ?_, ?_, q1, q2⟩
       ·simp only [Instr.buildSlice, Sem.run_bind, hE.run_und hd, Result.andThen_ok, hsz];rw [if_neg (by omega)]
        by_cases e0 : len * E.size e = 0
        ·simp only [e0, if_true] at o1;simp only [e0, if_true, Sem.run_bind, Sem.run_pure, Result.andThen_ok];rw [o1];simp only [newRow, Sem.run_bind, run_newObj, Result.andThen_ok, Sem.run_pure]
        ·rw [if_neg e0] at o1;rw [if_neg e0];simp only [Sem.run_bind, z1, Sem.run_pure, Result.andThen_ok];rw [o1];simp only [newRow, Sem.run_bind, run_newObj, Result.andThen_ok, Sem.run_pure]
       ·exact VR.slice h.nx 0 len (E.size e) len _ s1 (Nat.le_refl _) (by simp only [Nat.zero_add]; omega)
  | _ => simp [hd] at hb
theorem Lp (hr : HR ρ h.blk.get w) {t : TypeId} {l c a : AV} {lv cv : Value} {h' : Aa} (hl : VR ρ l lv) (hcv : VR ρ c cv) (hb : He E t l c h = some (a, h')) (hf : Bh ρ h.nx h'.nx) :
  A3 E ρ h h' w (Instr.makeSlice t lv cv) a := by
 unfold He at hb;cases hd : E.desc t with
 | none => simp [hd] at hb
 | some d =>
  cases hn : CX l with
  | none => cases d <;> simp [hd, hn] at hb
  | some n =>
   cases hm : CX c with
   | none => cases d <;> simp [hd, hn, hm] at hb
   | some m =>
    obtain ⟨k1, rfl⟩ := Cd hl hn;obtain ⟨k2, rfl⟩ := Cd hcv hm;cases d with
    | slice e =>
     simp only [hd, hn, hm] at hb;cases hi : E.ty.get e with
     | none => simp [hi] at hb
     | some inf =>
      simp only [hi] at hb;cases hz : E.zero e with
      | none => simp [hz] at hb
      | some z =>
       simp only [hz] at hb;cases hc : (Nat.beq n m && Nat.ble n 1048576 && Nat.ble (inf.bytes * n) 140737488355328 && Nat.beq z.cells.length inf.size) with
       | false => simp [hc] at hb
       | true =>
        simp only [hc, Option.some.injEq, Prod.mk.injEq] at hb;obtain ⟨rfl, rfl⟩ := hb;obtain ⟨c123, c4⟩ := Av hc;obtain ⟨c12, c3⟩ := Av c123;obtain ⟨c1, c2⟩ := Av c12;have e1 := AA c1;have e2 := C7 c2;have e3 := C7 c3;have e4 := AA c4;subst e1;obtain ⟨zv, z1, z2⟩ := hE.run_zero ρ hz w;have zc := (A5 ρ z2).cells (Bp z2);have hfree : ρ h.nx = none := hf h.nx (Nat.le_refl _) (by simp [Bw, Aa.new])
        have h0 : n * z.cells.length = 0 ∨ (if n * inf.size = 0 then #[] else zv.cells) = zv.cells := by
         rw [e4];by_cases e0 : n * inf.size = 0
         ·exact .inl e0
         ·exact .inr (by rw [if_neg e0])
        have hcells := DZ zc n (if n * inf.size = 0 then #[] else zv.cells) h0
        rw [e4] at hcells;obtain ⟨σ, s1, q1, q2⟩ := hr.newList hfree e _ hcells;have hwrap := Fa n (by omega)
        refine ⟨σ, .slice (some ⟨w.heap.size, 0, none⟩) n n, _, ?_, ?_, q1, q2⟩
        ·simp only [Instr.makeSlice, Sem.run_bind, hE.run_und hd, Result.andThen_ok, asInt, asIntOf, Sem.run_pure, hE.run_info hi, hwrap]
         have hbn : ¬ ((inf.bytes : Int) * (n : Int) > 2 ^ 48) := by
          have : ((inf.bytes * n : Nat) : Int) ≤ 140737488355328 := by omega
          rw [Int.natCast_mul] at this;omega
         have hcond : (decide ((n : Int) < 0) || decide ((inf.bytes : Int) * (n : Int) > 2 ^ 48) || decide ((n : Int) < 0) || decide ((n : Int) > (n : Int))) = false := by
          rw [decide_eq_false hbn, decide_eq_false (show ¬ ((n : Int) < 0) by omega), decide_eq_false (show ¬ ((n : Int) > (n : Int)) by omega)]
          rfl
         rw [if_neg (by rw [hcond]; exact Bool.false_ne_true)]
         simp only [Sem.run_bind, run_askRoom, Result.andThen_ok, Int.toNat_natCast, hE.run_sz hi];by_cases e0 : n * inf.size = 0
         ·rw [if_pos e0];simp only [Sem.run_bind, Sem.run_pure, Result.andThen_ok, newRow, run_newObj, if_pos e0]
         ·rw [if_neg e0];simp only [Sem.run_bind, z1, Sem.run_pure, Result.andThen_ok, newRow, run_newObj, if_neg e0]
        ·exact VR.slice h.nx 0 n inf.size n _ s1 (Nat.le_refl _) (by simp)
    | _ => simp [hd, hn, hm] at hb
end
end Go.AE
namespace Go.AE
variable [U : Unk]
theorem HR.strike {ρ : Ren} {h : Aa} {w : World} (hr : HR ρ h.blk.get w) (b : Nat) : HR ρ (h.strike b).blk.get w ∧ Ext ρ ρ h (h.strike b) w w := by
 refine ⟨hr.restrict fun c => ?_, ⟨Ren.le_refl ρ, Nat.le_refl _, fun _ _ e => .inl e, Ha.refl w, fun _ _ _ => rfl, ⟨[b], rfl, ?_⟩, ?_, fun _ _ e => .inl e⟩⟩
 ·simp only [Aa.strike, T.get_del];by_cases e : b = c
  ·exact .inl (by rw [if_pos e])
  ·exact .inr (by rw [if_neg e])
 ·intro c hc _;simp only [Aa.strike, T.get_del];rw [if_neg (fun e => hc (by simp [e]))]
 ·intro c hc;simp only [Aa.strike, T.get_del] at hc;by_cases e : b = c
  ·rw [if_pos e] at hc; exact absurd rfl hc
  ·rw [if_neg e] at hc; exact .inl hc
theorem HR.move {ρ : Ren} {h : Aa} {w : World} (hr : HR ρ h.blk.get w) {b : Nat} {base base' : C3} (hb : ρ b = some base) (hl : h.blk.get b ≠ none) (hf : ρ h.nx = none) (hcb : base'.cb = base.cb) (x : Aj)
  (w' : World) (hx : BR (ρ.upd h.nx base') x base' w'.heap[base.cb]?) (hsz : w'.heap.size = w.heap.size) (hold : ∀ k, k ≠ base.cb → w'.heap[k]? = w.heap[k]?) (hos : w'.os = w.os) (ht : w'.tape = w.tape) (ho : w'.output = w.output) :
  HR (ρ.upd h.nx base') ((h.strike b).new x).blk.get w' ∧ Ext ρ (ρ.upd h.nx base') h ((h.strike b).new x) w w' := by
 have hle := Ren.le_upd hf base';have hbn : b ≠ h.nx := by rintro rfl; rw [hf] at hb; cases hb
 have inv : ∀ c d, ρ.upd h.nx base' c = some d → (c = h.nx ∧ d = base') ∨ (c ≠ h.nx ∧ ρ c = some d) := by
  intro c d hc;simp only [Ren.upd] at hc;by_cases e : c = h.nx
  ·rw [if_pos e] at hc; exact .inl ⟨e, by simpa using hc.symm⟩
  ·rw [if_neg e] at hc; exact .inr ⟨e, hc⟩
 have get : ∀ c, ((h.strike b).new x).blk.get c = if h.nx = c then some x else if b = c then none else h.blk.get c := by
  intro c; simp only [Aa.new, Aa.strike, T.get_set, T.get_del]
 refine ⟨⟨?_, ?_, ?_, ?_, ?_⟩, ⟨hle, Nat.le_succ _, ?_, ⟨hos, ht, ho, by omega⟩, ?_, ⟨[b], rfl, ?_⟩, ?_, fun _ _ e => .inl e⟩⟩
 ·intro c d hc;rcases inv c d hc with ⟨_, rfl⟩ | ⟨_, h1⟩
  ·rw [hcb, hsz]; exact hr.lt b base hb
  ·rw [hsz]; exact hr.lt c d h1
 ·intro c d y hc hy;rw [get] at hy;rcases inv c d hc with ⟨rfl, rfl⟩ | ⟨hne, h1⟩
  ·rw [if_pos rfl] at hy; cases hy; rw [hcb]; exact hx
  ·rw [if_neg (fun e => hne e.symm)] at hy
   by_cases e : b = c
   ·rw [if_pos e] at hy; cases hy
   ·rw [if_neg e] at hy;rw [hold _ (hr.apart c b d base (fun q => e q.symm) h1 hb (by rw [hy]; simp) hl)]
    exact (hr.blk c d y h1 hy).mono hle
 ·have one : ∀ c d, c ≠ h.nx → ρ c = some d → ((h.strike b).new x).blk.get c ≠ none → base'.cb ≠ d.cb := by
   intro c d hne h1 h2;rw [get, if_neg (fun e => hne e.symm)] at h2
   by_cases e : b = c
   ·rw [if_pos e] at h2; exact absurd rfl h2
   ·rw [if_neg e] at h2;rw [hcb];exact hr.apart b c base d e hb h1 hl h2
  intro c c' d d' hne hc hc' h1 h2;rcases inv c d hc with ⟨rfl, rfl⟩ | ⟨hn, h3⟩
  ·rcases inv c' d' hc' with ⟨e, _⟩ | ⟨hn', h4⟩
   ·exact absurd e.symm hne
   ·exact one c' d' hn' h4 h2
  ·rcases inv c' d' hc' with ⟨rfl, rfl⟩ | ⟨hn', h4⟩
   ·exact (one c d hn h3 h1).symm
   ·rw [get, if_neg (fun e => hn e.symm)] at h1
    rw [get, if_neg (fun e => hn' e.symm)] at h2
    by_cases e : b = c
    ·rw [if_pos e] at h1; exact absurd rfl h1
    ·by_cases e' : b = c'
     ·rw [if_pos e'] at h2; exact absurd rfl h2
     ·rw [if_neg e] at h1; rw [if_neg e'] at h2;exact hr.apart c c' d d' hne h3 h4 h1 h2
 ·intro k arr hk;rw [hold k (hr.off k arr b base hk hb hl).symm];exact hr.imm k arr hk
 ·intro k arr c d hk hc h2;rcases inv c d hc with ⟨rfl, rfl⟩ | ⟨hn, h3⟩
  ·rw [hcb]; exact hr.off k arr b base hk hb hl
  ·rw [get, if_neg (fun e => hn e.symm)] at h2
   by_cases e : b = c
   ·rw [if_pos e] at h2; exact absurd rfl h2
   ·rw [if_neg e] at h2; exact hr.off k arr c d hk h3 h2
 ·intro c d hc;rcases inv c d hc with ⟨rfl, rfl⟩ | ⟨_, h1⟩
  ·exact .inr ⟨Nat.le_refl _, Nat.lt_succ_self _, .inr ⟨b, base, hb, hl, hcb.symm⟩⟩
  ·exact .inl h1
 ·intro k hk hn;exact hold k (fun e => hn b base hb hl e.symm)
 ·intro c hc hr';rw [get, if_neg (by simp only [Aa.new, Aa.strike] at hr'; omega), if_neg (fun e => hc (by simp [e]))]
 ·intro c hc;rw [get] at hc;by_cases e : h.nx = c
  ·exact .inr ⟨by omega, by simp only [Aa.new, Aa.strike]; omega⟩
  ·rw [if_neg e] at hc;by_cases e' : b = c
   ·rw [if_pos e'] at hc; exact absurd rfl hc
   ·rw [if_neg e'] at hc; exact .inl hc
theorem Ext.drawn {ρ σ : Ren} {h h' : Aa} {w w1 w' : World} (e : Ext ρ σ h h' w1 w') (hh : w1.heap = w.heap) (hos : w1.os = w.os) (ht : w1.tape = w.tape) (ho : w1.output = w.output) : Ext ρ σ h h' w w' :=
 ⟨e.le, e.nx, hh ▸ e.new, ⟨e.calm.os.trans hos, e.calm.tape.trans ht, e.calm.output.trans ho, hh ▸ e.calm.size⟩, hh ▸ e.kept, e.log, e.live, hh ▸ e.imm⟩
theorem AH (P : Program) (w : World) (b o k : Nat) (cur : Array Value) (e : TypeId) (fz : Nat × Nat) (hb : w.heap[b]? = some (.cells cur e fz)) (hk : o + k ≤ cur.size) :
  (Go.loadCells ⟨b, o, none⟩ k).run P w = .ok ((cur.toList.drop o).take k).toArray w := by
 have hl : ((cur.toList.drop o).take k).length = k := by simp; omega
 have := CV (w := w) P b o ((cur.toList.drop o).take k) 0 #[] (by
  intro j v hj;rw [List.getElem?_take] at hj;by_cases c : j < k
  ·rw [if_pos c] at hj;simp only [List.getElem?_drop, Array.getElem?_toList] at hj;simp [World.cell?, hb, hj]
  ·rw [if_neg c] at hj; cases hj)
 rw [hl] at this;simpa [Go.loadCells] using this
theorem Fk : ∀ (l : List UInt8), Gc l.length (AC l) = l.map fun b => AV.int .u8 (b.toNat : Nat)
 | [] => rfl
 | b :: r => by
  obtain ⟨h1, h2⟩ := Gl b r;simp only [List.length_cons, Gc, h1, h2, Fk r, List.map_cons]
theorem Ok (ρ : Ren) (l : List UInt8) : VL ρ (l.map fun b => AV.int .u8 (b.toNat : Nat)) (l.map fun b => Value.int .u8 (b.toNat : Nat)) := by
 refine ⟨by simp, fun i a v ha hv => ?_⟩
 simp only [List.getElem?_map] at ha hv;cases hb : l[i]? with
 | none => simp [hb] at ha
 | some b =>
  simp only [hb, Option.map_some, Option.some.injEq] at ha hv;subst ha; subst hv;exact .int _ _
section
variable {E : Env} (hE : OK E) {ρ : Ren} {h : Aa} {w : World}
theorem RS (hr : HR ρ h.blk.get w) (P : Program) {es n m : Nat} {x : AV} {xv : Value} {l : List AV} (hx : VR ρ x xv) (hm : FD x = some m) (hn : n ≤ m) (hs : Lm h es n x = some l) :
  ∃ vs : List Value, VL ρ l vs ∧ l.length = n * es ∧ (Builtin.lenOf xv).run P w = .ok m w ∧ ∀ w' : World, w'.heap = w.heap → (Builtin.firstCells es n xv).run P w' = .ok vs.toArray w' := by
 cases hx with
 | slice0 =>
  simp only [FD, Option.some.injEq] at hm;simp only [Lm, Option.some.injEq] at hs;subst hs;have : n = 0 := by omega
  subst this;exact ⟨[], VL.nil ρ, by simp, by simp [Builtin.lenOf, hm.symm], fun w' _ => by simp [Builtin.firstCells]⟩
 | slice b off k es' cap base hb hc hz =>
  simp only [FD, Option.some.injEq] at hm;subst hm;simp only [Lm] at hs;cases he : Nat.beq es es' with
  | false => simp [he] at hs
  | true =>
   simp only [he] at hs;have := AA he;subst this;unfold Dx at hs;cases hg : h.blk.get b with
   | none => simp [hg] at hs
   | some y =>
    cases y with
    | cells sz c =>
     simp only [hg] at hs;cases hq : Nat.ble (off + n * es) sz with
     | false => simp [hq] at hs
     | true =>
      simp only [hq] at hs;have hlen := (T.range_spec c _ _ _ hs).1;obtain ⟨vs, q1, q2, q3⟩ := hr.loadCells P hb hg (C7 hq) hs;refine ⟨vs, q1, hlen, by simp [Builtin.lenOf], fun w' hw => ?_⟩
      have hr' : HR ρ h.blk.get w' := hr.same hw;have hv : vs.length = n * es := by rw [← q1.1, hlen]
      have h2 := CV (w := w') P base.cb (base.co + off) vs 0 #[] (fun j v hj => by
       have := q3 j v hj;simp only [Nat.zero_add];rw [← this]; simp [World.cell?, hw])
      simp only [Builtin.firstCells, Go.loadCells];rw [← hv, h2]; simp
    | _ => simp [hg] at hs
 | sliceEnd b off es' a =>
  simp only [FD, Option.some.injEq] at hm;have : n = 0 := by omega
  subst this;simp only [Lm] at hs;cases he : Nat.beq es es' with
  | false => simp [he] at hs
  | true =>
   simp only [he, Nat.zero_mul] at hs
   have hl : l = [] := by
    unfold Dx at hs;cases hg : h.blk.get b with
    | none => simp [hg] at hs
    | some y =>
     cases y with
     | cells sz c =>
      simp only [hg] at hs;cases hq : Nat.ble (off + 0) sz with
      | false => simp only [hq] at hs; cases hs
      | true => simp only [hq, T.range, Option.some.injEq] at hs; exact hs.symm
     | _ => simp [hg] at hs
   subst hl;exact ⟨[], VL.nil ρ, by simp, by simp [Builtin.lenOf, hm.symm], fun w' _ => by simp [Builtin.firstCells, Go.loadCells, loadCellsFrom]⟩
 | str s =>
  simp only [FD, Option.some.injEq] at hm;simp only [Lm] at hs;cases he : Nat.beq es 1 with
  | false => simp [he] at hs
  | true =>
   simp only [he, Option.some.injEq] at hs;have := AA he;subst this;subst hs;rw [Fk];refine ⟨(s.data.toList.map fun b => Value.int .u8 (b.toNat : Nat)).take n, (Ok ρ _).take n, by simp at hm ⊢; omega, by simp [Builtin.lenOf]; simpa using hm, fun w' _ => ?_⟩
   simp only [Builtin.firstCells, Sem.run_pure]
   congr 1
   apply Array.ext';simp [ByteArray.data_extract]
 | _ => simp [FD] at hm
end
end Go.AE
namespace Go.AE
variable [U : Unk]
section
variable {P : Program} {w : World}
inductive UB (P : Program) (w : World) (t' e : TypeId) (inf : TypeInfo) (xv : Value) (m : Nat) (nv : List Value) : Prop
 | cells (d : TypeDesc) (hu : P.underlying t' = some d) (hd : (∃ e', d = .slice e') ∨ d = .string) (hl : (Builtin.lenOf xv).run P w = .ok m w)
   (hf : ∀ w' : World, w'.heap = w.heap → (Builtin.firstCells inf.size m xv).run P w' = .ok nv.toArray w')
 | zeros (k k' : IntKind) (hu : P.underlying t' = some (.int k)) (hx : xv = .int k' (m : Int)) (hm : m ≤ 1048576) (hb : m * inf.bytes ≤ 140737488355328)
   (z : Value) (hz : inf.zero = some z) (hzs : z.cells.size = inf.size) (hn : nv.toArray = Builtin.zeroCells z.cells m)
theorem CK (t t' ty e : TypeId) (inf : TypeInfo) (ht : P.underlying t = some (.slice e)) (hi : P.info? e = some inf) (xv : Value) (m : Nat) (nv : List Value) (hs : UB P w t' e inf xv m nv)
  (base : Option Addr) (sLen sCap : Nat) (hroom : sLen + m ≤ sCap) :
  (Builtin.append_ #[t, t'] ty #[.slice base sLen sCap, xv]).run P w =
   ((match base with | some a => storeCells (a.add (sLen * inf.size)) nv | none => pure ()).run P w).andThen fun _ w' => .ok (.slice base (sLen + m) sCap) w' := by
 cases hs with
 | cells d hu hd hl hf =>
  have hf' := hf w rfl;have h1 : (underlying t').run P w = .ok d w := by simp [underlying, hu]
  have h2 : (underlying t).run P w = .ok (.slice e) w := by simp [underlying, ht]
  have h3 : (sizeOf e).run P w = .ok inf.size w := by simp [sizeOf, typeInfo, hi]
  unfold Builtin.append_
  rcases hd with ⟨e', rfl⟩ | rfl <;>
   simp only [List.getElem?_toArray, List.getElem?_cons_zero, List.getElem?_cons_succ, Sem.run_bind, h2, Result.andThen_ok, h3, h1, Bool.false_eq_true, if_false, hl, if_pos hroom, Bool.not_false, if_true, hf', Sem.run_pure] <;>
   cases base <;> simp
 | zeros k k' hu hx hm hb z hz hzs hn =>
  subst hx;have hw := Fa m (by omega)
  have h0 : ¬ ((m : Int) < 0) := by omega
  have h48 : ¬ ((m : Int) * (inf.bytes : Int) > 2 ^ 48) := by
   have : ((m * inf.bytes : Nat) : Int) ≤ 140737488355328 := by omega
   rw [Int.natCast_mul] at this;omega
  have h1 : (underlying t').run P w = .ok (.int k) w := by simp [underlying, hu]
  have h2 : (underlying t).run P w = .ok (.slice e) w := by simp [underlying, ht]
  have h3 : (sizeOf e).run P w = .ok inf.size w := by simp [sizeOf, typeInfo, hi]
  have h4 : (typeInfo e).run P w = .ok inf w := by simp [typeInfo, hi]
  have h5 : (zeroValue e).run P w = .ok z w := by simp [zeroValue, typeInfo, hi, hz]
  have hzero : nv = [] ∨ m * inf.size ≠ 0 := by
   by_cases e0 : m * inf.size = 0
   ·left;have : nv.toArray.size = 0 := by rw [hn]; simp [Builtin.zeroCells, hzs, e0]
    simpa using this
   ·exact .inr e0
  unfold Builtin.append_;simp only [List.getElem?_toArray, List.getElem?_cons_zero, List.getElem?_cons_succ, Sem.run_bind, h2, Result.andThen_ok, h3, h1, Sem.run_pure, if_true, asInt, asIntOf, hw, if_neg h0, h4, if_neg h48, Int.toNat_natCast, if_pos hroom, Bool.not_true, Bool.false_eq_true, if_false];by_cases e0 : m * inf.size = 0
  ·have hnv : nv = [] := by
    rcases hzero with h | h
    ·exact h
    ·exact absurd e0 h
   subst hnv;rw [if_pos e0];cases base <;> simp [storeCells]
  ·rw [if_neg e0];simp only [Sem.run_bind, h5, Result.andThen_ok, Sem.run_pure, ← hn];cases base <;> simp
theorem Em (t t' ty e : TypeId) (inf : TypeInfo) (ht : P.underlying t = some (.slice e)) (hi : P.info? e = some inf) (z : Value) (hzz : inf.zero = some z) (xv : Value) (m : Nat) (nv : List Value) (hs : UB P w t' e inf xv m nv)
  (base : Option Addr) (sLen sCap : Nat) (hgrow : sCap < sLen + m) (h63 : sLen + m ≤ 4611686018427387904) (hby : (sLen + m) * inf.bytes ≤ 140737488355328) (ov : Array Value)
  (ho : ∀ w' : World, w'.heap = w.heap → (Builtin.firstCells inf.size sLen (.slice base sLen sCap)).run P w' = .ok ov w') :
  ∃ cap, sLen + m ≤ cap ∧ (Builtin.append_ #[t, t'] ty #[.slice base sLen sCap, xv]).run P w =
   .ok (.slice (some ⟨w.heap.size, 0, none⟩) (sLen + m) cap) { w with drawn := w.drawn + 1, heap := w.heap.push (.cells (ov ++ nv.toArray ++ Builtin.zeroCells z.cells (cap - (sLen + m))) e) } := by
 refine ⟨grownCap w (sLen + m) sCap e, grownCap_ge w _ _ _, ?_⟩;have hng : ¬ (sLen + m ≤ sCap) := by omega
 have h63' : ¬ (((sLen + m : Nat) : Int) > IntKind.i64.max) := by simp only [IntKind.max, IntKind.signed, IntKind.bits]; omega
 have h48' : ¬ (Builtin.nextslicecap (sLen + m) sCap * inf.bytes > 2 ^ 48) := by have := growslice_fits hgrow hby; omega
 have hw1 : ({ w with drawn := w.drawn + 1 } : World).heap = w.heap := rfl
 have h2 : ∀ w : World, (underlying t).run P w = .ok (.slice e) w := fun w => by simp [underlying, ht]
 have h3 : ∀ w : World, (sizeOf e).run P w = .ok inf.size w := fun w => by simp [sizeOf, typeInfo, hi]
 have h4 : ∀ w : World, (typeInfo e).run P w = .ok inf w := fun w => by simp [typeInfo, hi]
 have h5 : ∀ w : World, (zeroValue e).run P w = .ok z w := fun w => by simp [zeroValue, typeInfo, hi, hzz]
 have hch : (choose (.appendCap (sLen + m) sCap e)).run P w = .ok (grownCap w (sLen + m) sCap e) { w with drawn := w.drawn + 1 } := by simp [Question.forced, grownCap]
 cases hs with
 | cells d hu hd hl hf =>
  have h1 : (underlying t').run P w = .ok d w := by simp [underlying, hu]
  unfold Builtin.append_;rcases hd with ⟨e', rfl⟩ | rfl
  all_goals
   simp only [List.getElem?_toArray, List.getElem?_cons_zero, List.getElem?_cons_succ, Sem.run_bind, h2, Result.andThen_ok, h3, h1, Bool.false_eq_true, if_false, hl, if_neg hng, Bool.not_false, if_true, h4, Sem.run_pure];rw [if_neg (fun h => h63' h.1)]
   simp only [Sem.run_bind, h4, Result.andThen_ok];rw [if_neg h48'];simp only [Sem.run_bind, hch, Result.andThen_ok, h4, run_askRoom, ho _ hw1, hf _ hw1, h5, newRow, run_newObj, Sem.run_pure]
 | zeros k k' hu hx hm hb z' hz' hzs hn =>
  subst hx;rw [hzz] at hz'; cases hz';have hw := Fa m (by omega)
  have h0 : ¬ ((m : Int) < 0) := by omega
  have h48 : ¬ ((m : Int) * (inf.bytes : Int) > 2 ^ 48) := by
   have : ((m * inf.bytes : Nat) : Int) ≤ 140737488355328 := by omega
   rw [Int.natCast_mul] at this;omega
  have h1 : (underlying t').run P w = .ok (.int k) w := by simp [underlying, hu]
  unfold Builtin.append_;simp only [List.getElem?_toArray, List.getElem?_cons_zero, List.getElem?_cons_succ, Sem.run_bind, h2, Result.andThen_ok, h3, h1, Sem.run_pure, if_true, asInt, asIntOf, hw, if_neg h0, h4, if_neg h48, Int.toNat_natCast, if_neg hng, Bool.not_true, Bool.false_eq_true, if_false];rw [if_neg (fun h => h63' h.1)]
  simp only [Sem.run_bind, h4, Result.andThen_ok];rw [if_neg h48'];simp only [Sem.run_bind, hch, Result.andThen_ok, h4, run_askRoom, ho _ hw1];by_cases e0 : m * inf.size = 0
  ·rw [if_pos e0]
   have hnv : nv.toArray = #[] := by
    rw [hn]; apply Array.eq_empty_of_size_eq_zero; simp [Builtin.zeroCells, hzs, e0]
   simp only [Sem.run_pure, Result.andThen_ok, Sem.run_bind, h5, newRow, run_newObj, hnv]
  ·rw [if_neg e0];simp only [Sem.run_pure, Result.andThen_ok, Sem.run_bind, h5, newRow, run_newObj, hn]
end
end Go.AE
namespace Go.AE
variable [U : Unk]
section
variable {E : Env} (hE : OK E) {ρ : Ren} {h : Aa} {w : World}
include hE
omit hE in
theorem KA (hr : HR ρ h.blk.get w) (hf : ρ h.nx = none) (e : TypeId) {news olds : List AV} {nv ov : List Value} (hn : VL ρ news nv) (k sLen m cap es : Nat) (hov : ov.length = k) {c : T AV}
  (hc : ∀ i a, i < k + news.length → c.get i = some a → (∃ v, i < k ∧ ov[i]? = some v ∧ VR ρ a v) ∨ (k ≤ i ∧ news[i - k]? = some a))
  (rest : Array Value) (hsz : (sLen + m) * es = k + news.length) (hrest : rest.size = (cap - (sLen + m)) * es) (hcap : sLen + m ≤ cap) :
  ∃ σ, HR σ (h.new (.cells (k + news.length) c)).blk.get { w with drawn := w.drawn + 1, heap := w.heap.push (.cells (ov.toArray ++ nv.toArray ++ rest) e) } ∧
   Ext ρ σ h (h.new (.cells (k + news.length) c)) w { w with drawn := w.drawn + 1, heap := w.heap.push (.cells (ov.toArray ++ nv.toArray ++ rest) e) } ∧
   VR σ (.slice h.nx 0 (sLen + m) es) (.slice (some ⟨w.heap.size, 0, none⟩) (sLen + m) cap) := by
 have hnl := hn.1;have hr1 : HR ρ h.blk.get { w with drawn := w.drawn + 1 } := hr.same rfl
 have hasz : (ov.toArray ++ nv.toArray ++ rest).size = cap * es := by
  simp only [Array.size_append, List.size_toArray, hov, ← hnl, hrest];have : cap * es = (sLen + m) * es + (cap - (sLen + m)) * es := by rw [← Nat.add_mul]; congr 1; omega
  omega
 obtain ⟨σ, s1, q1, q2⟩ := hr1.newRow hf e (n := k + news.length) (c := c) (ov.toArray ++ nv.toArray ++ rest) (by
  simp only [Array.size_append, List.size_toArray, hov, ← hnl]; omega) (by
  intro i a hi ha;rcases hc i a hi ha with ⟨v, h1, h2, h3⟩ | ⟨h1, h2⟩
  ·exact ⟨v, by rw [Array.append_assoc, Array.getElem?_append_left (by simp; omega)]; simpa using h2, h3⟩
  ·obtain ⟨v, hv, hvr⟩ := hn.get h2;refine ⟨v, ?_, hvr⟩;rw [Array.getElem?_append_left (by simp; omega), Array.getElem?_append_right (by simp; omega)]
   simpa [hov] using hv)
 refine ⟨σ, q1, Ext.drawn q2 rfl rfl rfl rfl, ?_⟩;have hv := VR.slice (ρ := σ) h.nx 0 (sLen + m) es cap _ s1 hcap (by simp only [Nat.zero_add]; omega)
 exact hv
theorem I4 (hr : HR ρ h.blk.get w) {t t' ty e : TypeId} {inf : TypeInfo} (ht : E.P.underlying t = some (.slice e)) (hi : E.ty.get e = some inf) {z : AV} (hz : E.zero e = some z) (hzl : z.cells.length = inf.size) {s a : AV} {sv xv : Value} {m : Nat} {news : List AV} {nv : List Value} {h' : Aa}
  (hs : VR ρ s sv) (hsrc : UB E.P w t' e inf xv m nv) (hn : VL ρ news nv) (hnl : news.length = m * inf.size) (ha : C0 inf s m news h = some (a, h')) (hf : Bh ρ h.nx h'.nx) :
  A3 E ρ h h' w (Builtin.append_ #[t, t'] ty #[sv, xv]) a := by
 obtain ⟨i', zv, i1, i2, i3⟩ := FN hz;rw [hi] at i1; cases i1;have hinf := hE.ty e inf hi
 have hzc : zv.cells.size = inf.size := by
  have := ((A5 ρ i3).cells (Bp i3)).1;simp at this; omega
 cases hs with
 | slice0 =>
  simp only [C0] at ha;cases hc : (Nat.ble m 4611686018427387904 && Nat.ble (m * inf.bytes) 140737488355328) with
  | false => simp [hc] at ha
  | true =>
   simp only [hc] at ha;obtain ⟨c1, c2⟩ := Av hc;have d1 := C7 c1;have d2 := C7 c2;cases m with
   | zero =>
    simp only [Option.some.injEq, Prod.mk.injEq] at ha;obtain ⟨rfl, rfl⟩ := ha;refine AM hr ⟨.slice none 0 0, ?_, .slice0⟩;rw [CK t t' ty e inf ht hinf xv 0 nv hsrc none 0 0 (by omega)]
    rfl
   | succ m =>
    simp only [Option.some.injEq, Prod.mk.injEq] at ha;obtain ⟨rfl, rfl⟩ := ha;have hfree : ρ h.nx = none := hf h.nx (Nat.le_refl _) (by simp [Bw, Aa.new])
    obtain ⟨cap, k1, k2⟩ := Em t t' ty e inf ht hinf zv i2 xv (m + 1) nv hsrc none 0 0 (by omega) (by omega) (by simpa using d2) #[] (fun w' _ => by simp [Builtin.firstCells])
    obtain ⟨σ, q1, q2, q3⟩ := KA hr hfree e (olds := []) (ov := []) hn 0 0 (m + 1) cap inf.size rfl (c := .ofList news) (by
     intro i a hi ha;rw [T.get_ofList] at ha;exact .inr ⟨Nat.zero_le _, by simpa using ha⟩) (Builtin.zeroCells zv.cells (cap - (0 + (m + 1)))) (by simp [hnl]) (by simp [Builtin.zeroCells, hzc]) k1
    simp only [Nat.zero_add] at q1 q2 q3 k2;exact ⟨σ, _, _, k2, q3, q1, q2⟩
 | slice b off n es cap base hb hcap hz2 =>
  simp only [C0] at ha;cases hc : (Nat.beq inf.size es && D5 news && Nat.ble (n + m) 4611686018427387904 && Nat.ble ((n + m) * inf.bytes) 140737488355328) with
  | false => simp [hc] at ha
  | true =>
   simp only [hc] at ha;obtain ⟨c123, c4⟩ := Av hc;obtain ⟨c12, c3⟩ := Av c123;obtain ⟨c1, c2⟩ := Av c12;have d1 := AA c1;have d3 := C7 c3;have d4 := C7 c4;subst d1;cases m with
   | zero =>
    simp only [Option.some.injEq, Prod.mk.injEq] at ha;obtain ⟨rfl, rfl⟩ := ha
    have hnv : nv = [] := by
     have e1 := hn.1;rw [hnl] at e1;simpa using e1.symm
    subst hnv;refine AM hr ⟨.slice (some ⟨base.cb, base.co + off, none⟩) n cap, ?_, .slice b off n inf.size cap base hb hcap hz2⟩;rw [CK t t' ty e inf ht hinf xv 0 [] hsrc _ n cap (by omega)]
    simp [storeCells]
   | succ m =>
    simp only [] at ha;cases hg : h.blk.get b with
    | none => simp [hg] at ha
    | some y =>
     cases y with
     | cells sz c =>
      simp only [hg] at ha
      have hnew : ∃ c', a = .slice h.nx 0 (n + (m + 1)) inf.size ∧ h' = (h.strike b).new (.cells (n * inf.size + news.length) c') ∧ off + n * inf.size ≤ sz ∧
        ∀ i a, i < n * inf.size + news.length → c'.get i = some a → (i < n * inf.size ∧ c.get (off + i) = some a) ∨ (n * inf.size ≤ i ∧ news[i - n * inf.size]? = some a) := by
       cases hq : (Nat.beq off 0 && Nat.beq (n * inf.size) sz) with
       | true =>
        simp only [hq, Option.some.injEq, Prod.mk.injEq] at ha;obtain ⟨rfl, rfl⟩ := ha;obtain ⟨g1, g2⟩ := Av hq;have e1 := AA g1;have e2 := AA g2;subst e1;refine ⟨_, rfl, rfl, by omega, ?_⟩
        intro i a hi ha;rw [Fc] at ha;by_cases c : n * inf.size ≤ i ∧ i < n * inf.size + news.length
        ·rw [if_pos c] at ha; exact .inr ⟨c.1, ha⟩
        ·rw [if_neg c] at ha; exact .inl ⟨by omega, by simpa using ha⟩
       | false =>
        simp only [hq] at ha;cases hl : Dx h b off (n * inf.size) with
        | none => simp [hl] at ha
        | some olds =>
         simp only [hl, Option.some.injEq, Prod.mk.injEq] at ha;obtain ⟨rfl, rfl⟩ := ha;unfold Dx at hl;simp only [hg] at hl;cases hq2 : Nat.ble (off + n * inf.size) sz with
         | false => simp [hq2] at hl
         | true =>
          simp only [hq2] at hl;obtain ⟨l1, l2⟩ := T.range_spec c _ _ _ hl;refine ⟨_, rfl, rfl, C7 hq2, ?_⟩;intro i a hi ha;rw [T.get_ofList] at ha;by_cases c : i < n * inf.size
          ·rw [List.getElem?_append_left (by omega)] at ha
           exact .inl ⟨c, by rw [l2 i c]; exact ha⟩
          ·rw [List.getElem?_append_right (by omega), l1] at ha
           exact .inr ⟨by omega, ha⟩
      clear ha;obtain ⟨c', rfl, rfl, hoff, hc'⟩ := hnew;have hfree : ρ h.nx = none := hf h.nx (Nat.le_refl _) (by simp [Aa.new, Aa.strike])
      obtain ⟨cur, e1, fz, r1, r2, r3, r4, r5⟩ := hr.blk b base _ hb hg;have hnvl : nv.length = (m + 1) * inf.size := by rw [← hn.1, hnl]
      have hncap : n * inf.size ≤ cap * inf.size := Nat.mul_le_mul_right _ hcap;by_cases hroom : n + (m + 1) ≤ cap
      ·
       have hfit : (n + (m + 1)) * inf.size ≤ cap * inf.size := Nat.mul_le_mul_right _ hroom;rw [Nat.add_mul] at hfit;obtain ⟨w', cur', q1, q2, q3, q4, q5, q6, q7, q8, q9⟩ := B6 E.P base.cb (base.co + off + n * inf.size) e1 fz nv 0 w cur r1 (by rw [hnvl, r2]; omega) (by rw [r2]; exact r4) (G4 c2 hn)
       have hx : BR (ρ.upd h.nx ⟨base.cb, base.co + off, base.csz⟩) (.cells (n * inf.size + news.length) c') ⟨base.cb, base.co + off, base.csz⟩ w'.heap[base.cb]? := by
        refine ⟨cur', e1, fz, q2, by rw [q3, r2], ?_, r4, ?_⟩
        ·show base.co + off + (n * inf.size + news.length) ≤ base.csz;rw [hnl]; omega
        ·intro i a hi ha;rw [q4];simp only [Nat.add_zero];rcases hc' i a hi ha with ⟨g1, g2⟩ | ⟨g1, g2⟩
         ·rw [if_neg (by omega)]
          obtain ⟨v, hv, hvr⟩ := r5 (off + i) a (by omega) g2
          exact ⟨v, by rw [← hv]; congr 1; omega, hvr.mono (Ren.le_upd hfree _)⟩
         ·rw [if_pos (by rw [hnvl, ← hnl]; omega)]
          obtain ⟨v, hv, hvr⟩ := hn.get g2;exact ⟨v, by rw [← hv]; congr 1; omega, hvr.mono (Ren.le_upd hfree _)⟩
       obtain ⟨p1, p2⟩ := hr.move hb (by rw [hg]; simp) hfree (base' := ⟨base.cb, base.co + off, base.csz⟩) rfl _ w' hx q5 q6 q7 q8 q9
       refine ⟨_, .slice (some ⟨base.cb, base.co + off, none⟩) (n + (m + 1)) cap, w', ?_, ?_, p1, p2⟩
       ·rw [CK t t' ty e inf ht hinf xv (m + 1) nv hsrc _ n cap hroom];simp only [BY];rw [q1];rfl
       ·have := VR.slice (ρ := ρ.upd h.nx ⟨base.cb, base.co + off, base.csz⟩) h.nx 0 (n + (m + 1)) inf.size cap _ (Ren.upd_same _ _ _) hroom (by simp only [Nat.add_zero]; omega)
        simpa using this
      ·
       have hov := AH E.P
       obtain ⟨cap', k1, k2⟩ := Em t t' ty e inf ht hinf zv i2 xv (m + 1) nv hsrc (some ⟨base.cb, base.co + off, none⟩) n cap (by omega) (by omega) d4 ((cur.toList.drop (base.co + off)).take (n * inf.size)).toArray (fun w' hw => by
        simp only [Builtin.firstCells];exact AH E.P w' base.cb (base.co + off) (n * inf.size) cur e1 fz (by rw [hw]; exact r1) (by rw [r2]; omega))
       obtain ⟨p1, p2⟩ := hr.strike b;have hovl : ((cur.toList.drop (base.co + off)).take (n * inf.size)).length = n * inf.size := by simp; omega
       obtain ⟨σ, q1, q2, q3⟩ := KA p1 hfree e (olds := []) (ov := (cur.toList.drop (base.co + off)).take (n * inf.size)) hn (n * inf.size) n (m + 1) cap' inf.size hovl (c := c') (by
        intro i a hi ha;rcases hc' i a hi ha with ⟨g1, g2⟩ | ⟨g1, g2⟩
        ·obtain ⟨v, hv, hvr⟩ := r5 (off + i) a (by omega) g2
         refine .inl ⟨v, g1, ?_, hvr⟩;rw [List.getElem?_take, if_pos g1, List.getElem?_drop, Array.getElem?_toList, ← hv]
         congr 1; omega
        ·exact .inr ⟨g1, g2⟩) (Builtin.zeroCells zv.cells (cap' - (n + (m + 1)))) (by rw [hnl, Nat.add_mul]) (by simp [Builtin.zeroCells, hzc]) k1
       refine ⟨σ, _, _, k2, q3, q1, p2.trans q2 ?_⟩;exact hf
     | _ => simp [hg] at ha
 | sliceEnd b off es ad =>
  simp only [C0] at ha;cases hc : (Nat.beq inf.size es && D5 news && Nat.ble (0 + m) 4611686018427387904 && Nat.ble ((0 + m) * inf.bytes) 140737488355328) with
  | false => simp only [hc] at ha; cases ha
  | true =>
   simp only [hc] at ha;obtain ⟨c123, c4⟩ := Av hc;obtain ⟨c12, c3⟩ := Av c123;obtain ⟨c1, c2⟩ := Av c12;have d1 := AA c1;have d3 := C7 c3;have d4 := C7 c4;subst d1;cases m with
   | zero =>
    simp only [Option.some.injEq, Prod.mk.injEq] at ha;obtain ⟨rfl, rfl⟩ := ha
    have hnv : nv = [] := by
     have e1 := hn.1;rw [hnl] at e1;simpa using e1.symm
    subst hnv;refine AM hr ⟨.slice (some ad) 0 0, ?_, .sliceEnd b off inf.size ad⟩;rw [CK t t' ty e inf ht hinf xv 0 [] hsrc _ 0 0 (by omega)]
    simp [storeCells]
   | succ m =>
    simp only [] at ha;cases hg : h.blk.get b with
    | none => simp [hg] at ha
    | some y =>
     cases y with
     | cells sz c =>
      simp only [hg] at ha
      have hnew : ∃ c', a = .slice h.nx 0 (0 + (m + 1)) inf.size ∧ h' = (h.strike b).new (.cells (0 * inf.size + news.length) c') ∧
        ∀ i a, i < 0 + news.length → c'.get i = some a → news[i]? = some a := by
       cases hq : (Nat.beq off 0 && Nat.beq (0 * inf.size) sz) with
       | true =>
        simp only [hq, Option.some.injEq, Prod.mk.injEq] at ha;obtain ⟨rfl, rfl⟩ := ha;refine ⟨_, rfl, rfl, ?_⟩;intro i a hi ha;rw [Fc] at ha;rw [if_pos (by simp only [Nat.zero_mul]; omega)] at ha
        simpa using ha
       | false =>
        simp only [hq] at ha;cases hl : Dx h b off (0 * inf.size) with
        | none => simp only [hl] at ha; cases ha
        | some olds =>
         simp only [hl, Option.some.injEq, Prod.mk.injEq] at ha;obtain ⟨rfl, rfl⟩ := ha
         have ho : olds = [] := by
          unfold Dx at hl;simp only [hg, Nat.zero_mul] at hl;cases hq2 : Nat.ble (off + 0) sz with
          | false => simp only [hq2] at hl; cases hl
          | true => simp only [hq2, T.range, Option.some.injEq] at hl; exact hl.symm
         subst ho;refine ⟨_, rfl, rfl, ?_⟩;intro i a hi ha;rw [T.get_ofList] at ha;simpa using ha
      clear ha;obtain ⟨c', rfl, rfl, hc'⟩ := hnew;have hfree : ρ h.nx = none := hf h.nx (Nat.le_refl _) (by simp [Aa.new, Aa.strike])
      obtain ⟨cap', k1, k2⟩ := Em t t' ty e inf ht hinf zv i2 xv (m + 1) nv hsrc (some ad) 0 0 (by omega) (by omega) d4 #[] (fun w' hw => by simp [Builtin.firstCells, Go.loadCells, loadCellsFrom])
      obtain ⟨p1, p2⟩ := hr.strike b
      obtain ⟨σ, q1, q2, q3⟩ := KA p1 hfree e (olds := []) (ov := []) hn 0 0 (m + 1) cap' inf.size rfl (c := c') (by
       intro i a hi ha;exact .inr ⟨Nat.zero_le _, by simpa using hc' i a hi ha⟩) (Builtin.zeroCells zv.cells (cap' - (0 + (m + 1)))) (by simp [hnl]) (by simp [Builtin.zeroCells, hzc]) k1
      simp only [Nat.zero_mul] at hf ⊢;exact ⟨σ, _, _, k2, q3, q1, p2.trans q2 hf⟩
     | _ => simp [hg] at ha
 | _ => simp [C0] at ha
theorem Kg (hr : HR ρ h.blk.get w) {t t' ty : TypeId} {s x a : AV} {sv xv : Value} {h' : Aa} (hs : VR ρ s sv) (hx : VR ρ x xv) (ha : Hx E t t' s x h = some (a, h')) (hf : Bh ρ h.nx h'.nx) :
  A3 E ρ h h' w (Builtin.append_ #[t, t'] ty #[sv, xv]) a := by
 unfold Hx at ha;cases hd : E.desc t with
 | none => simp [hd] at ha
 | some d =>
  cases d with
  | slice e =>
   simp only [hd] at ha;cases hi : E.ty.get e with
   | none => simp [hi] at ha
   | some inf =>
    simp only [hi] at ha;cases hz : E.zero e with
    | none => simp [hz] at ha
    | some z =>
     simp only [hz] at ha;cases hzq : Nat.beq z.cells.length inf.size with
     | false => simp [hzq] at ha
     | true =>
     simp only [hzq] at ha;have hzl := AA hzq
     have cellsrc : ∀ (d' : TypeDesc), E.desc t' = some d' → ((∃ e', d' = .slice e') ∨ d' = .string) → (match FD x with
       | none => none
       | some m => match Lm h inf.size m x with
        | none => none
        | some news => C0 inf s m news h) = some (a, h') → A3 E ρ h h' w (Builtin.append_ #[t, t'] ty #[sv, xv]) a := by
      intro d' hd' hk hq;cases hl : FD x with
      | none => simp [hl] at hq
      | some m =>
       simp only [hl] at hq;cases hsr : Lm h inf.size m x with
       | none => simp [hsr] at hq
       | some news =>
        simp only [hsr] at hq;obtain ⟨vs, v1, v2, v3, v4⟩ := RS hr E.P hx hl (Nat.le_refl m) hsr;exact I4 hE hr (hE.und hd) hi hz hzl hs (.cells d' (hE.und hd') hk v3 v4) v1 v2 hq hf
     cases hd' : E.desc t' with
     | none => simp [hd'] at ha
     | some d' =>
      cases d' with
      | int k =>
       simp only [hd'] at ha;cases hn : CX x with
       | none => simp [hn] at ha
       | some m =>
        simp only [hn] at ha;cases hc : (Nat.ble m 1048576 && Nat.ble (m * inf.bytes) 140737488355328) with
        | false => simp [hc] at ha
        | true =>
         simp only [hc] at ha;obtain ⟨c1, c2⟩ := Av hc;obtain ⟨k', rfl⟩ := Cd hx hn;obtain ⟨i', zv, i1, i2, i3⟩ := FN hz;rw [hi] at i1; cases i1;have zc := (A5 ρ i3).cells (Bp i3);have hzs : zv.cells.size = inf.size := by have := zc.1; simp at this; omega
         have hv := DZ zc m zv.cells (.inr rfl)
         have hnv : ((Array.range (m * z.cells.length)).map (zv.cells[· % zv.cells.size]!)).toList.toArray = Builtin.zeroCells zv.cells m := by
          rw [Array.toArray_toList, Builtin.zeroCells, hzs, hzl]
         refine I4 hE hr (hE.und hd) hi hz hzl hs (.zeros k k' (hE.und hd') rfl (C7 c1) (C7 c2) zv i2 hzs hnv) hv (by rw [B5, hzl]) ha hf
      | slice e' => simp only [hd'] at ha; exact cellsrc _ hd' (.inl ⟨e', rfl⟩) ha
      | string => simp only [hd'] at ha; exact cellsrc _ hd' (.inr rfl) ha
      | _ => simp [hd'] at ha
  | _ => simp [hd] at ha
theorem Vb (hr : HR ρ h.blk.get w) {t t' ty : TypeId} {d x a : AV} {dv xv : Value} {h' : Aa} (hdv : VR ρ d dv) (hx : VR ρ x xv) (ha : Q7 E t d x h = some (a, h')) (ats : Array TypeId) (hat : ats[0]? = some t) :
  A3 E ρ h h' w (Builtin.copy_ ats ty #[dv, xv]) a := by
 unfold Q7 at ha;cases hd : E.desc t with
 | none => simp [hd] at ha
 | some ds =>
  cases ds with
  | slice e =>
   simp only [hd] at ha;cases hi : E.ty.get e with
   | none => simp [hi] at ha
   | some inf =>
    simp only [hi] at ha;cases hn : FD d with
    | none => simp [hn] at ha
    | some n =>
     cases hm : FD x with
     | none => simp [hn, hm] at ha
     | some m =>
      simp only [hn, hm] at ha;cases hs : Lm h inf.size (min m n) x with
      | none => simp [hs] at ha
      | some l =>
       simp only [hs] at ha;obtain ⟨vs, v1, v2, v3, v4⟩ := RS hr E.P hx hm (Nat.min_le_left _ _) hs;have v5 := v4 w rfl
       have hrun : ∀ (bs : Option Addr) (cap : Nat), (Builtin.copy_ ats ty #[.slice bs n cap, xv]).run E.P w =
         ((match bs with | some a => storeCells a vs | none => pure ()).run E.P w).andThen fun _ w' => .ok (goInt (min m n : Nat)) w' := by
        intro bs cap;unfold Builtin.copy_;simp only [hat, List.getElem?_toArray, List.getElem?_cons_zero, List.getElem?_cons_succ, Sem.run_bind, hE.run_und hd, Result.andThen_ok, v3, hE.run_sz hi];have : Nat.min m n = min m n := rfl;rw [this, v5];simp only [Result.andThen_ok];cases bs <;> simp
       cases hdv with
       | slice0 =>
        simp only [FD, Option.some.injEq] at hn;subst hn;simp only [Option.some.injEq, Prod.mk.injEq] at ha;obtain ⟨rfl, rfl⟩ := ha;refine AM hr ⟨goInt (min m 0 : Nat), by rw [hrun none 0]; simp, ?_⟩
        rw [Nat.min_zero];exact .int _ _
       | slice b off k es cap base hb hcap hz =>
        simp only [FD, Option.some.injEq] at hn;subst hn;simp only [] at ha;cases he : Nat.beq inf.size es with
        | false => simp [he] at ha
        | true =>
         simp only [he] at ha;cases l with
         | nil =>
          simp only [Option.some.injEq, Prod.mk.injEq] at ha;obtain ⟨rfl, rfl⟩ := ha;have := v1.nil_inv;subst this;exact AM hr ⟨goInt (min m k : Nat), by rw [hrun]; simp [storeCells], .int _ _⟩
         | cons l0 lr =>
          simp only [] at ha;cases hst : storeN h b off (l0 :: lr) with
          | none => simp [hst] at ha
          | some h2 =>
           simp only [hst, Option.some.injEq, Prod.mk.injEq] at ha;obtain ⟨rfl, rfl⟩ := ha;obtain ⟨w', q1, q2, q3⟩ := hr.storeN E.P hb v1 hst;exact ⟨ρ, goInt (min m k : Nat), w', by rw [hrun]; simp only []; rw [q1]; rfl, .int _ _, q2, q3⟩
       | sliceEnd b off es ad =>
        simp only [FD, Option.some.injEq] at hn;subst hn;simp only [] at ha;cases he : Nat.beq inf.size es with
        | false => simp [he] at ha
        | true =>
         simp only [he] at ha
         have hl0 : l = [] := by
          rw [Nat.min_zero, Nat.zero_mul] at v2;exact List.eq_nil_of_length_eq_zero v2
         subst hl0;simp only [Option.some.injEq, Prod.mk.injEq] at ha;obtain ⟨rfl, rfl⟩ := ha;have := v1.nil_inv;subst this;exact AM hr ⟨goInt (min m 0 : Nat), by rw [hrun]; simp [storeCells], .int _ _⟩
       | _ => simp at ha
  | _ => simp [hd] at ha
end
end Go.AE
namespace Go.AE
variable [U : Unk]
section
variable {E : Env} (hE : OK E) {ρ : Ren} {w : World}
include hE
theorem IqQ {d : Nat} (ih : ∀ (t : TypeId) (x y : AV) (r : Bool) (xv yv : Value), aeq E d t x y = some r → VR ρ x xv → VR ρ y yv → (Op.equalIn d t xv yv).run E.P w = .ok r w)
  {xs ys : List AV} {xs' ys' : List Value} (hx : VL ρ xs xs') (hy : VL ρ ys ys') : ∀ {fs : List Field} {r : Bool}, eqFields E (aeq E d) xs ys fs = some r →
  (Op.eqFields d xs'.toArray ys'.toArray fs).run E.P w = .ok r w
 | [], r, h => by simp only [eqFields, Option.some.injEq] at h; subst h; simp [Op.eqFields]
 | f :: fs, r, h => by
  simp only [eqFields] at h;cases hn : (f.name == "_") with
  | true => simp [hn] at h
  | false =>
   simp only [hn] at h;have hne : f.name ≠ "_" := by simpa using hn
   cases h1 : Cq E f.type xs f.offset with
   | none => simp [h1] at h
   | some a =>
    cases h2 : Cq E f.type ys f.offset with
    | none => simp [h1, h2] at h
    | some b =>
     simp only [h1, h2] at h;obtain ⟨av, q1, q2⟩ := hE.run_part h1 hx w;obtain ⟨bv, q3, q4⟩ := hE.run_part h2 hy w;cases h3 : aeq E d f.type a b with
     | none => simp [h3] at h
     | some r3 =>
      have q5 := ih _ _ _ _ _ _ h3 q2 q4;simp only [Op.eqFields, ne_eq, hne, not_false_eq_true, if_true, Sem.run_bind, q1, q3, q5, Result.andThen_ok];cases r3 with
      | true => simp only [h3] at h; simp only [Bool.not_true, Bool.false_eq_true, if_false]; exact IqQ ih hx hy h
      | false => simp only [h3, Option.some.injEq] at h; subst h; simp
theorem KM {d : Nat} (ih : ∀ (t : TypeId) (x y : AV) (r : Bool) (xv yv : Value), aeq E d t x y = some r → VR ρ x xv → VR ρ y yv → (Op.equalIn d t xv yv).run E.P w = .ok r w)
  {xs ys : List AV} {xs' ys' : List Value} (hx : VL ρ xs xs') (hy : VL ρ ys ys') {e : TypeId} {n : Nat} : ∀ {k i : Nat} {r : Bool}, H3 E (aeq E d) e n xs ys k i = some r →
  (Op.eqItems d e n xs'.toArray ys'.toArray (List.range' i k)).run E.P w = .ok r w
 | 0, i, r, h => by simp only [H3, Option.some.injEq] at h; subst h; simp [Op.eqItems]
 | k + 1, i, r, h => by
  simp only [H3] at h;cases h1 : Cq E e xs (i * n) with
  | none => simp [h1] at h
  | some a =>
   cases h2 : Cq E e ys (i * n) with
   | none => simp [h1, h2] at h
   | some b =>
    simp only [h1, h2] at h;obtain ⟨av, q1, q2⟩ := hE.run_part h1 hx w;obtain ⟨bv, q3, q4⟩ := hE.run_part h2 hy w;cases h3 : aeq E d e a b with
    | none => simp [h3] at h
    | some r3 =>
     have q5 := ih _ _ _ _ _ _ h3 q2 q4;simp only [List.range'_succ, Op.eqItems, Sem.run_bind, q1, q3, q5, Result.andThen_ok];cases r3 with
     | true => simp only [h3] at h; simp only [Bool.not_true, Bool.false_eq_true, if_false]; exact KM ih hx hy h
     | false => simp only [h3, Option.some.injEq] at h; subst h; simp
set_option maxHeartbeats 1000000 in
theorem O6 : ∀ (d : Nat) (t : TypeId) (x y : AV) (r : Bool) (xv yv : Value), aeq E d t x y = some r → VR ρ x xv → VR ρ y yv → (Op.equalIn d t xv yv).run E.P w = .ok r w := by
 intro d
 induction d with
 | zero => intro t x y r xv yv h; simp [aeq] at h
 | succ d ih =>
  intro t x y r xv yv h hx hy;simp only [aeq] at h;cases hd : E.desc t with
  | none => rw [hd] at h; cases h
  | some ds =>
   rw [hd] at h;have hu := hE.run_und hd w;have fin : ∀ b : Bool, some b = some r → b = r := fun b e => by simpa using e
   cases ds with
   | bool =>
    cases hx <;> first | (cases h; done) | skip
    cases hy <;> first | (cases h; done) | skip
    rw [← fin _ h]; simp [Op.equalIn, hu]
   | int k0 =>
    cases hx <;> first | (cases h; done) | skip
    cases hy <;> first | (cases h; done) | skip
    rename_i k a k' b;by_cases hk : k = k'
    ·subst hk; simp only [decide_true, Option.some.injEq] at h; subst h; simp [Op.equalIn, hu]
    ·simp [hk] at h
   | string =>
    cases hx <;> first | (cases h; done) | skip
    cases hy <;> first | (cases h; done) | skip
    rename_i s s';simp only [Option.some.injEq] at h;subst h;rw [B7];simp only [Op.equalIn, Sem.run_bind, hu, Result.andThen_ok, Sem.run_pure];rw [beq_toListBytes]
   | pointer e =>
    cases hx <;> first | (cases h; done) | skip
    all_goals
     cases hy <;> first | (cases h; done) | skip
    all_goals (rw [← fin _ h]; simp [Op.equalIn, hu])
   | interface ms =>
    cases hx <;> first | (cases h; done) | skip
    ·rename_i tx a v hv;cases hy <;> first | (cases h; done) | skip
     ·rename_i ty b v' hv';simp only [] at h;cases hq : Nat.beq tx ty with
      | false =>
       simp only [hq, Option.some.injEq] at h;subst h;have := TU hq;simp [Op.equalIn, hu, this]
      | true =>
       simp only [hq] at h;have := AA hq;subst this;cases hi : E.ty.get tx with
       | none => simp [hi] at h
       | some inf =>
        simp only [hi] at h;cases hc : inf.comparable with
        | false => simp [hc] at h
        | true =>
         simp only [hc] at h;have := ih _ _ _ _ _ _ h hv hv';simp [Op.equalIn, hu, hE.run_info hi, hc, this]
     ·rw [← fin _ h]; simp [Op.equalIn, hu]
    ·cases hy <;> first | (cases h; done) | skip
     all_goals (rw [← fin _ h]; simp [Op.equalIn, hu])
   | struct fs =>
    cases hx <;> first | (cases h; done) | skip
    cases hy <;> first | (cases h; done) | skip
    rename_i xs xs' a1 a2 ys ys' b1 b2;simp only [] at h;cases hs : E.P.stoodInHeld t with
    | true => simp [hs] at h
    | false =>
     simp only [hs] at h;have hund := hE.und hd;have hfo : E.P.fieldsOf t = fs := by simp [Program.fieldsOf, hund]
     rw [run_equalIn_struct w d t xs'.toArray ys'.toArray (by rw [hfo]; exact hund) hs, hfo]
     exact IqQ hE ih ⟨a1, a2⟩ ⟨b1, b2⟩ h
   | array len e =>
    cases hx <;> first | (cases h; done) | skip
    cases hy <;> first | (cases h; done) | skip
    rename_i xs xs' a1 a2 ys ys' b1 b2;simp only [] at h;cases hh : E.has e with
    | false => simp [hh] at h
    | true =>
     simp only [hh] at h;unfold Env.has at hh;cases hi : E.ty.get e with
     | none => simp [hi] at hh
     | some inf =>
      have hcs : E.P.cellsOf e = E.size e := by simp [Program.cellsOf, hE.ty e inf hi, Env.size, hi]
      rw [run_equalIn_array w d xs'.toArray ys'.toArray (hE.und hd) (hE.ty e inf hi), hcs, List.range_eq_range'];exact KM hE ih ⟨a1, a2⟩ ⟨b1, b2⟩ h
   | slice e =>
    cases hx <;> first | (cases h; done) | skip
    all_goals
     cases hy <;> first | (cases h; done) | skip
    all_goals (rw [← fin _ h]; simp [Op.equalIn, hu])
   | map k e =>
    cases hx <;> first | (cases h; done) | skip
    all_goals
     cases hy <;> first | (cases h; done) | skip
    all_goals (rw [← fin _ h]; simp [Op.equalIn, hu])
   | func ps rs v =>
    cases hx <;> first | (cases h; done) | skip
    all_goals
     cases hy <;> first | (cases h; done) | skip
    all_goals (rw [← fin _ h]; simp [Op.equalIn, hu])
   | _ => cases hx <;> first | (cases h; done) | (cases hy <;> (cases h; done))
end
end Go.AE
namespace Go.AE
variable [U : Unk]
theorem Dp (k : IntKind) (x : Int) : (BitVec.ofInt k.bits x).toNat = bits k x := by
 simp [bits, BitVec.toNat_ofInt]
section
variable {E : Env} (hE : OK E) {ρ : Ren} {h : Aa} {w : World}
theorem Iv {op : BinOp} {k : IntKind} {a b : Int} {r : AV} (t : TypeId) (hs : op ≠ .shl) (hs' : op ≠ .shr) (hr : CW op k a b = some r) :
    ∃ v, (binOp op t (.int k a) (.int k b)).run E.P w = .ok v w ∧ VR ρ r v := by
  cases op <;> simp only [CW] at hr <;> first | (cases hr; done) | skip
  case quo =>
    cases hb : (b == 0) with
    | true => simp [hb] at hr
    | false =>
      simp only [hb, Option.some.injEq] at hr;have : b ≠ 0 := by simpa using hb
      subst hr;exact ⟨_, by simp [binOp, Op.intDiv, this], .int _ _⟩
  case rem =>
    cases hb : (b == 0) with
    | true => simp [hb] at hr
    | false =>
      simp only [hb, Option.some.injEq] at hr;have : b ≠ 0 := by simpa using hb
      subst hr;exact ⟨_, by simp [binOp, Op.intDiv, this], .int _ _⟩
  case and =>
    simp only [Option.some.injEq] at hr;subst hr;refine ⟨_, by simp only [binOp, Op.intBits, ne_eq, not_true_eq_false, if_false, Sem.run_pure]; rfl, ?_⟩
    rw [BitVec.toNat_and, Dp, Dp];exact .int _ _
  case or =>
    simp only [Option.some.injEq] at hr;subst hr;refine ⟨_, by simp only [binOp, Op.intBits, ne_eq, not_true_eq_false, if_false, Sem.run_pure]; rfl, ?_⟩
    rw [BitVec.toNat_or, Dp, Dp];exact .int _ _
  case xor =>
    simp only [Option.some.injEq] at hr;subst hr;refine ⟨_, by simp only [binOp, Op.intBits, ne_eq, not_true_eq_false, if_false, Sem.run_pure]; rfl, ?_⟩
    rw [BitVec.toNat_xor, Dp, Dp];exact .int _ _
  all_goals
    simp only [Option.some.injEq] at hr;subst hr;refine ⟨_, by simp only [binOp, Op.intArith, Op.intCmp, ne_eq, not_true_eq_false, if_false, Sem.run_pure]; rfl, ?_⟩
    first
      | exact .int _ _
      | exact .bool _
      | (rename_i pos e; have h := VR.sb (ρ := ρ) (!pos) e; have h2 : (!(Ad U.V e == pos)) = (Ad U.V e == !pos) := by cases Ad U.V e <;> cases pos <;> rfl
         rw [h2]; exact h)
theorem L4 (d : Nat) (t : TypeId) (x y : AV) (hx : x.isSym = true) : aeq E d t x y = none := by
 cases d with
 | zero => rfl
 | succ d =>
  simp only [aeq];cases E.desc t with
  | none => rfl
  | some ds => cases x <;> first | (cases hx; done) | (cases ds <;> rfl)
theorem Mj (d : Nat) (t : TypeId) (x y : AV) (hy : y.isSym = true) : aeq E d t x y = none := by
 cases d with
 | zero => rfl
 | succ d =>
  simp only [aeq];cases E.desc t with
  | none => rfl
  | some ds => cases y <;> first | (cases hy; done) | (cases ds <;> cases x <;> rfl)
theorem Sn {op : BinOp} {k k' : IntKind} {a b : Int} {r : AV} (t : TypeId) (hs : op = .shl ∨ op = .shr) (hr : Kr op k a b = some r) :
  ∃ v, (binOp op t (.int k a) (.int k' b)).run E.P w = .ok v w ∧ VR ρ r v := by
 unfold Kr at hr;by_cases hb : b < 0
 ·simp [hb] at hr
 ·simp only [hb, decide_false] at hr;rcases hs with rfl | rfl
  ·simp only [Option.some.injEq] at hr;subst hr;exact ⟨_, by simp only [binOp, Op.shift, hb, if_false, Sem.run_pure], .int _ _⟩
  ·simp only [Option.some.injEq] at hr;subst hr;exact ⟨_, by simp only [binOp, Op.shift, hb, if_false, Sem.run_pure], .int _ _⟩
theorem Ms {op : BinOp} {s s' : ByteArray} {r : AV} (t : TypeId) (hr : Np op s.data.toList.length (AC s.data.toList) s'.data.toList.length (AC s'.data.toList) = some r) :
  ∃ v, (binOp op t (.string s) (.string s')).run E.P w = .ok v w ∧ VR ρ r v := by
 have hless := Ni (s.data.toList.length + 1) s.data.toList s'.data.toList (Nat.lt_succ_self _);have e1 := ByteArray.toList_eq s;have e2 := ByteArray.toList_eq s';cases op <;> simp only [Np] at hr <;> first | (cases hr; done) | skip
 case add =>
  cases hc : Nat.ble (s.data.toList.length + s'.data.toList.length) 4611686018427387904 with
  | false => simp only [hc] at hr; cases hr
  | true =>
   simp only [hc, Option.some.injEq] at hr;subst hr;have hle := C7 hc;have hsz : s.size = s.data.toList.length := by simp
   have hsz' : s'.size = s'.data.toList.length := by simp
   refine ⟨.string (s ++ s'), ?_, ?_⟩
   ·have hmax : ¬ (((s.size + s'.size : Nat) : Int) > IntKind.i64.max) := by
     simp only [IntKind.max, IntKind.signed, IntKind.bits]; omega
    simp only [binOp, Op.stringOp];rw [if_neg hmax];rfl
   ·have hv := VR.str (ρ := ρ) (s ++ s');have hd : (s ++ s').data.toList = s.data.toList ++ s'.data.toList := by simp [ByteArray.data_append]
    rw [hd, List.length_append, E2, ← Nb] at hv;exact hv
 all_goals
  simp only [Option.some.injEq] at hr;subst hr;refine ⟨_, by simp only [binOp, Op.stringOp, Sem.run_pure]; rfl, ?_⟩
  first
   | (rw [B7]; exact .bool _)
   | (rw [hless, B7, e1, e2]; exact .bool _)
   | (rw [hless, e1, e2]; exact .bool _)
theorem ZW {op : UnOp} {x r : AV} {xv : Value} (hx : VR ρ x xv) (hr : unA op x = some r) : ∃ v, (Op.unary op xv).run E.P w = .ok v w ∧ VR ρ r v := by
  cases op <;> cases hx <;> simp only [unA] at hr <;> first | (cases hr; done) | skip
  all_goals
    simp only [Option.some.injEq] at hr;subst hr;refine ⟨_, by simp only [Op.unary, Op.intArith, Sem.run_pure]; rfl, ?_⟩
    first
      | exact .int _ _
      | exact .bool _
      | (rename_i pos e; have h := VR.sb (ρ := ρ) (!pos) e; have h2 : (!(Ad U.V e == pos)) = (Ad U.V e == !pos) := by cases Ad U.V e <;> cases pos <;> rfl
         rw [h2]; exact h)
theorem CA {op : BinOp} {t : TypeId} {x y : Operand} {a b : Value} (h1 : ¬ (a = .nilIface ∧ b = .nilIface)) (h2 : (∃ xs, a = .agg xs) → (∃ ys, b = .agg ys) → E.P.eqGuardType E.P.depth t = false) :
  (eqGuard op t x y a b).run E.P w = .ok () w := by
 unfold eqGuard;cases op <;> (try (simp; done))
 all_goals
  cases a <;> cases b <;> first
   | (simp; done)
   | (exact absurd ⟨rfl, rfl⟩ h1)
   | (rename_i xs ys; simp [h2 ⟨xs, rfl⟩ ⟨ys, rfl⟩])
theorem L8 (d : Nat) (t : TypeId) (y : AV) : aeq E d t .top y = none := by
 cases d with
 | zero => rfl
 | succ d =>
  simp only [aeq];cases E.desc t with
  | none => rfl
  | some ds => cases ds <;> rfl
theorem L3 (d : Nat) (t : TypeId) (x : AV) : aeq E d t x .top = none := by
 cases d with
 | zero => rfl
 | succ d =>
  simp only [aeq];cases E.desc t with
  | none => rfl
  | some ds => cases ds <;> cases x <;> rfl
theorem Gr (t : TypeId) (xv yv : Value) (h1 : ¬ ∃ k a k' b, xv = .int k a ∧ yv = .int k' b) (h2 : ¬ ∃ k a k' b, xv = .float k a ∧ yv = .float k' b) (h3 : ¬ ∃ k a b k' c d, xv = .complex k a b ∧ yv = .complex k' c d) (h4 : ¬ ∃ a b, xv = .string a ∧ yv = .string b) :
  binOp .eql t xv yv = (do pure (.bool (← Op.equal t xv yv))) ∧ binOp .neq t xv yv = (do pure (.bool (!(← Op.equal t xv yv)))) := by
 cases xv <;> cases yv <;> first
  | exact ⟨rfl, rfl⟩
  | exact absurd ⟨_, _, _, _, rfl, rfl⟩ h1
  | exact absurd ⟨_, _, _, _, rfl, rfl⟩ h2
  | exact absurd ⟨_, _, _, _, _, _, rfl, rfl⟩ h3
  | exact absurd ⟨_, _, rfl, rfl⟩ h4
include hE
theorem Vf {t : TypeId} {x y : AV} {xv yv : Value} {b : Bool} (hx : VR ρ x xv) (hy : VR ρ y yv) (hb : aeq E 10000 t x y = some b) (hi : ¬ ∃ k a k' b, x = .int k a ∧ y = .int k' b) (hs : ¬ ∃ l a l' b, x = .str l a ∧ y = .str l' b) :
  (binOp .eql t xv yv).run E.P w = .ok (.bool b) w ∧ (binOp .neq t xv yv).run E.P w = .ok (.bool (!b)) w := by
 have hxt : x ≠ .top := by rintro rfl; rw [L8] at hb; cases hb
 have hyt : y ≠ .top := by rintro rfl; rw [L3] at hb; cases hb
 have hrun := O6 (w := w) hE 10000 t x y b xv yv hb hx hy
 obtain ⟨q1, q2⟩ := Gr t xv yv (by
   rintro ⟨k, a, k', c, rfl, rfl⟩
   cases hx with
   | top => exact hxt rfl
   | si k e => rw [L4 _ _ _ _ rfl] at hb; cases hb
   | int => cases hy with
    | top => exact hyt rfl
    | si k e => rw [Mj _ _ _ _ rfl] at hb; cases hb
    | int => exact hi ⟨_, _, _, _, rfl, rfl⟩) (by
   rintro ⟨k, a, k', c, rfl, rfl⟩
   cases hx; exact hxt rfl) (by
   rintro ⟨k, a, b', k', c, d, rfl, rfl⟩
   cases hx; exact hxt rfl) (by
   rintro ⟨a, c, rfl, rfl⟩
   cases hx with
   | top => exact hxt rfl
   | ss i => rw [L4 _ _ _ _ rfl] at hb; cases hb
   | str => cases hy with
    | top => exact hyt rfl
    | ss i => rw [Mj _ _ _ _ rfl] at hb; cases hb
    | str => exact hs ⟨_, _, _, _, rfl, rfl⟩)
 rw [q1, q2];simp only [Op.equal, Op.maxDepth, Sem.run_bind, hrun, Result.andThen_ok, Sem.run_pure];exact ⟨trivial, trivial⟩
theorem RT {op : BinOp} {t : TypeId} {ox oy : Operand} {x y r : AV} {xv yv : Value} (hx : VR ρ x xv) (hy : VR ρ y yv) (hr : Ps E op t x y = some r) :
  ∃ v, (do eqGuard op t ox oy xv yv; binOp op t xv yv : Sem Value).run E.P w = .ok v w ∧ VR ρ r v := by
 have eqs : (¬ ∃ k a k' b, x = .int k a ∧ y = .int k' b) → (¬ ∃ l a l' b, x = .str l a ∧ y = .str l' b) → (¬ (x = .nilIface ∧ y = .nilIface)) → ((∃ xs, x = .agg xs) → (∃ ys, y = .agg ys) → E.P.eqGuardType E.P.depth t = false) →
   (match op with
    | .eql => (aeq E 10000 t x y).map AV.bool
    | .neq => (aeq E 10000 t x y).map fun b => AV.bool (!b)
    | _ => none) = some r → ∃ v, (do eqGuard op t ox oy xv yv; binOp op t xv yv : Sem Value).run E.P w = .ok v w ∧ VR ρ r v := by
  intro h1 h2 h3 h4 h5
  have hab : ∃ b, aeq E 10000 t x y = some b := by
   cases hb : aeq E 10000 t x y with
   | some b => exact ⟨b, rfl⟩
   | none => cases op <;> simp [hb] at h5
  obtain ⟨b, hb⟩ := hab;have hxt : x ≠ .top := by rintro rfl; rw [L8] at hb; cases hb
  have hyt : y ≠ .top := by rintro rfl; rw [L3] at hb; cases hb
  have hg : (eqGuard op t ox oy xv yv).run E.P w = .ok () w := CA (by
    rintro ⟨rfl, rfl⟩
    cases hx with
    | top => exact hxt rfl
    | nilIface => cases hy with
     | top => exact hyt rfl
     | nilIface => exact h3 ⟨rfl, rfl⟩) (by
    rintro ⟨xs, rfl⟩ ⟨ys, rfl⟩
    cases hx with
    | top => exact absurd rfl hxt
    | agg => cases hy with
     | top => exact absurd rfl hyt
     | agg => exact h4 ⟨_, rfl⟩ ⟨_, rfl⟩)
  obtain ⟨q1, q2⟩ := Vf (w := w) hE hx hy hb h1 h2;rw [hb] at h5;cases op <;> simp only [Option.map_some, Option.some.injEq] at h5 <;> first | (cases h5; done) | skip
  ·subst h5; exact ⟨_, by simp only [Sem.run_bind, hg, Result.andThen_ok, q1], .bool _⟩
  ·subst h5; exact ⟨_, by simp only [Sem.run_bind, hg, Result.andThen_ok, q2], .bool _⟩
 have nog : ∀ {a b : Value}, (¬ (a = .nilIface ∧ b = .nilIface)) → (¬ ∃ xs, a = .agg xs) → (eqGuard op t ox oy a b).run E.P w = .ok () w :=
  fun h1 h2 => CA h1 (fun h _ => absurd h h2)
 cases x with
 | int k a =>
  cases y with
  | int k' b =>
   cases hx; cases hy;have hg := nog (a := .int k a) (b := .int k' b) (by simp) (by simp)
   by_cases hsh : op = .shl ∨ op = .shr
   ·have hr' : Kr op k a b = some r := by rcases hsh with rfl | rfl <;> simpa [Ps] using hr
    obtain ⟨v, q1, q2⟩ := Sn (E := E) (w := w) (ρ := ρ) (k' := k') t hsh hr';exact ⟨v, by simp only [Sem.run_bind, hg, Result.andThen_ok, q1], q2⟩
   ·have hs1 : op ≠ .shl := fun e => hsh (.inl e)
    have hs2 : op ≠ .shr := fun e => hsh (.inr e)
    have hr' : (match decide (k = k') with | true => CW op k a b | false => none) = some r := by
     cases op <;> first | exact hr | exact absurd rfl hs1 | exact absurd rfl hs2
    by_cases hk : k = k'
    ·subst hk;simp only [decide_true] at hr';obtain ⟨v, q1, q2⟩ := Iv (E := E) (w := w) (ρ := ρ) t hs1 hs2 hr';exact ⟨v, by simp only [Sem.run_bind, hg, Result.andThen_ok, q1], q2⟩
    ·simp [hk] at hr'
  | _ => exact eqs (by simp) (by simp) (by simp) (by simp) (by cases op <;> exact hr)
 | str l a =>
  cases y with
  | str l' b =>
   cases hx; cases hy;rename_i s s';have hg := nog (a := .string s) (b := .string s') (by simp) (by simp)
   simp only [Ps] at hr;obtain ⟨v, q1, q2⟩ := Ms (E := E) (w := w) (ρ := ρ) t hr;exact ⟨v, by simp only [Sem.run_bind, hg, Result.andThen_ok, q1], q2⟩
  | _ => exact eqs (by simp) (by simp) (by simp) (by simp) (by cases op <;> exact hr)
 | agg xs =>
  cases y with
  | agg ys =>
   simp only [Ps] at hr;cases hq : E.P.eqGuardType E.P.depth t with
   | true => simp [hq] at hr
   | false => simp only [hq] at hr; exact eqs (by simp) (by simp) (by simp) (fun _ _ => hq) (by cases op <;> exact hr)
  | _ => exact eqs (by simp) (by simp) (by simp) (by simp) (by cases op <;> exact hr)
 | nilIface =>
  cases y with
  | nilIface => simp [Ps] at hr
  | _ => exact eqs (by simp) (by simp) (by simp) (by simp) (by cases op <;> exact hr)
 | _ => exact eqs (by simp) (by simp) (by simp) (by simp) (by cases op <;> exact hr)
end
end Go.AE
namespace Go.AE
theorem SE.same_eq {a b : SE} (h : a.same b = true) : a = b := by
 induction a generalizing b <;> cases b <;> simp only [SE.same, Bool.and_eq_true, decide_eq_true_eq, beq_iff_eq, Bool.false_eq_true, Nat.beq_eq] at h <;> grind
theorem Xi {a b : Fn} (h : ZI a b = true) : a = b := by
 cases a <;> cases b <;> simp_all [ZI]
mutual
theorem Ge : ∀ (a b : AV), BI a b = true → a = b
 | .top, b, h => by cases b <;> simp_all [BI]
 | .bool _, b, h => by cases b <;> simp_all [BI]
 | .int _ _, b, h => by cases b <;> simp_all [BI]
 | .str _ _, b, h => by cases b <;> simp_all [BI]
 | .ptr0, b, h => by cases b <;> simp_all [BI]
 | .ptr _ _, b, h => by cases b <;> simp_all [BI]
 | .slice0, b, h => by cases b <;> simp_all [BI]
 | .slice _ _ _ _, b, h => by cases b <;> simp_all [BI]
 | .map0, b, h => by cases b <;> simp_all [BI]
 | .map _, b, h => by cases b <;> simp_all [BI]
 | .func fn f c, b, h => by
  cases b with
  | func fn' f' c' =>
   simp only [BI, Bool.and_eq_true] at h;rw [Xi h.1.1, EG f f' h.1.2, EG c c' h.2]
  | _ => simp [BI] at h
 | .nilFunc, b, h => by cases b <;> simp_all [BI]
 | .iface t v, b, h => by
  cases b with
  | iface t' v' =>
   simp only [BI, Bool.and_eq_true] at h;rw [Nat.eq_of_beq_eq_true h.1, Ge v v' h.2]
  | _ => simp [BI] at h
 | .nilIface, b, h => by cases b <;> simp_all [BI]
 | .agg l, b, h => by
  cases b with
  | agg l' =>
   simp only [BI] at h;rw [EG l l' h]
  | _ => simp [BI] at h
 | .tuple l, b, h => by
  cases b with
  | tuple l' =>
   simp only [BI] at h;rw [EG l l' h]
  | _ => simp [BI] at h
 | .sb p e, b, h => by
  cases b with
  | sb p' e' =>
   simp only [BI, Bool.and_eq_true] at h;rw [eq_of_beq h.1, SE.same_eq h.2]
  | _ => simp [BI] at h
 | .si k e, b, h => by
  cases b with
  | si k' e' =>
   simp only [BI, Bool.and_eq_true, decide_eq_true_eq] at h;rw [h.1, SE.same_eq h.2]
  | _ => simp [BI] at h
 | .ss e, b, h => by
  cases b with
  | ss e' =>
   simp only [BI] at h;rw [SE.same_eq h]
  | _ => simp [BI] at h
 | .dat t e, b, h => by
  cases b with
  | dat t' e' =>
   simp only [BI, Bool.and_eq_true] at h;rw [Nat.eq_of_beq_eq_true h.1, SE.same_eq h.2]
  | _ => simp [BI] at h
 | .dptr _ _ _ _, b, h => by cases b <;> simp [BI] at h
 | .asl b0 es n nl, b, h => by
  cases b with
  | asl b' es' n' nl' =>
   simp only [BI, Bool.and_eq_true] at h;rw [Nat.eq_of_beq_eq_true h.1.1.1, Nat.eq_of_beq_eq_true h.1.1.2, SE.same_eq h.1.2, SE.same_eq h.2]
  | _ => simp [BI] at h
 | .eslc e, b, h => by
  cases b with
  | eslc e' =>
   simp only [BI] at h;rw [SE.same_eq h]
  | _ => simp [BI] at h
 | .aptr _ _ _ _, b, h => by cases b <;> simp [BI] at h
theorem EG : ∀ (a b : List AV), GG a b = true → a = b
 | [], b, h => by cases b <;> simp_all [GG]
 | a :: l, b, h => by
  cases b with
  | nil => simp [GG] at h
  | cons b m =>
   simp only [GG, Bool.and_eq_true] at h;rw [Ge a b h.1, EG l m h.2]
end
theorem Ta {α : Type} {eq : α → α → Bool} (he : ∀ a b, eq a b = true → a = b) {a b : Option α} (h : eqO eq a b = true) : a = b := by
 cases a <;> cases b <;> simp [eqO] at h ⊢
 exact he _ _ h
theorem QB {α : Type} {eq : α → α → Bool} (he : ∀ a b, eq a b = true → a = b) : ∀ (a b : T α), eqT eq a b = true → a = b
 | .nil, .nil, _ => rfl
 | .node v l r, .node v' l' r', h => by
  simp only [eqT, Bool.and_eq_true] at h;rw [Ta he h.1.1, QB he l l' h.1.2, QB he r r' h.2]
 | .nil, .node _ _ _, h => by simp [eqT] at h
 | .node _ _ _, .nil, h => by simp [eqT] at h
theorem Rr : ∀ (a b : List AO), SA a b = true → a = b
 | [], [], _ => rfl
 | a :: l, b :: m, h => by
  simp only [SA, Bool.and_eq_true] at h;obtain ⟨⟨⟨h1, h2⟩, h3⟩, h4⟩ := h;cases a; cases b;simp only at h1 h2 h3;rw [Ge _ _ h1, Ge _ _ h2, Nat.eq_of_beq_eq_true h3, Rr l m h4]
 | [], _ :: _, h => by simp [SA] at h
 | _ :: _, [], h => by simp [SA] at h
theorem N3 {a b : Aj} (h : QN a b = true) : a = b := by
 cases a <;> cases b <;> simp only [QN, Bool.and_eq_true, Bool.false_eq_true] at h
 ·rw [Nat.eq_of_beq_eq_true h.1, QB Ge _ _ h.2]
 ·rw [Nat.eq_of_beq_eq_true h.1, SE.same_eq h.2]
 ·rw [Nat.eq_of_beq_eq_true h.1, Rr _ _ h.2]
 ·rw [Nat.eq_of_beq_eq_true h.1.1, Nat.eq_of_beq_eq_true h.1.2, SE.same_eq h.2]
variable [U : Unk]
section
variable {V : Val} {a b : SE}
theorem BD {n : Int} : Ac V (.c n) = n := rfl
theorem KR {k : IntKind} : Ac V (.conv k a) = k.wrap (Ac V a) := rfl
theorem FL {op : BinOp} {k : IntKind} : Ac V (.arith op k a b) = match CW op k (Ac V a) (Ac V b) with
  | some (.int _ n) => n
  | _ => 0 := rfl
theorem Dq : Ac V (.lenS a) = ((AP V a).data.toList.length : Nat) := rfl
theorem Ak : Ac V (.lenL a) = ((Ab V a).rows.length : Nat) := rfl
theorem Ay : Ad V (.lss a b) = decide (Ac V a < Ac V b) := rfl
theorem BS : Ad V (.eql a b) = (Ac V a == Ac V b) := rfl
theorem R3 {l c : Nat} : Ad V (.eqS a l c) = strEq (AP V a).data.toList.length (AC (AP V a).data.toList) l c := rfl
theorem KJ : Ad V (.eqSS a b) = strEq (AP V a).data.toList.length (AC (AP V a).data.toList) (AP V b).data.toList.length (AC (AP V b).data.toList) := rfl
end
theorem SE.same_ok {a b : SE} (h : a.same b = true) : a = b := by
 induction a generalizing b <;> cases b <;> simp only [SE.same, Bool.and_eq_true, decide_eq_true_eq, beq_iff_eq, Bool.false_eq_true, Nat.beq_eq] at h <;> grind
theorem SB.same_ok {a b : SB} (h : a.same b = true) : a = b := SE.same_ok h
def LoB (o : Option Int) (n : Int) : Prop := ∀ l, o = some l → l ≤ n
def HiB (o : Option Int) (n : Int) : Prop := ∀ l, o = some l → n ≤ l
theorem LoB.max {a b : Option Int} {n : Int} (h : LoB a n) (k : LoB b n) : LoB (NQ a b) n := by
 intro l hl;unfold NQ at hl;split at hl
 ·rename_i a b;have h1 := h a rfl;have h2 := k b rfl;cases hd : decide (a ≤ b) <;> rw [hd] at hl <;> cases hl <;> assumption
 ·exact h l hl
 ·exact k l hl
theorem HiB.min {a b : Option Int} {n : Int} (h : HiB a n) (k : HiB b n) : HiB (SD a b) n := by
 intro l hl;unfold SD at hl;split at hl
 ·rename_i a b;have h1 := h a rfl;have h2 := k b rfl;cases hd : decide (a ≤ b) <;> rw [hd] at hl <;> cases hl <;> assumption
 ·exact h l hl
 ·exact k l hl
theorem LoB.some {a n : Int} (h : a ≤ n) : LoB (some a) n := fun l hl => by cases hl; exact h
theorem HiB.some {a n : Int} (h : n ≤ a) : HiB (some a) n := fun l hl => by cases hl; exact h
theorem LoB.none {n : Int} : LoB none n := fun l hl => by cases hl
theorem HiB.none {n : Int} : HiB none n := fun l hl => by cases hl
theorem SW {V : Val} {e : SE} {p : SB × Bool} (hp : Ad V p.1 = p.2) : LoB (Pn e p) (Ac V e) := by
 intro l hl;obtain ⟨x, b⟩ := p
 have go : ∀ {a : SE} {r : Int}, (match a.same e with | true => some r | false => none) = some l → a = e ∧ l = r := by
  intro a r h;split at h
  ·rename_i hs; cases h; exact ⟨SE.same_ok hs, rfl⟩
  ·cases h
 unfold Pn at hl;split at hl <;> first | (cases hl; done) | skip
 all_goals
  rename_i a m heq;obtain ⟨rfl, rfl⟩ := go hl;cases heq;simp [Ay, BS, BD] at hp
  first | omega | (have := of_decide_eq_false hp; omega) | (have := of_decide_eq_true hp; omega)
theorem S7 {V : Val} {e : SE} {p : SB × Bool} (hp : Ad V p.1 = p.2) : HiB (PV e p) (Ac V e) := by
 intro l hl;obtain ⟨x, b⟩ := p
 have go : ∀ {a : SE} {r : Int}, (match a.same e with | true => some r | false => none) = some l → a = e ∧ l = r := by
  intro a r h;split at h
  ·rename_i hs; cases h; exact ⟨SE.same_ok hs, rfl⟩
  ·cases h
 unfold PV at hl;split at hl <;> first | (cases hl; done) | skip
 all_goals
  rename_i a m heq;obtain ⟨rfl, rfl⟩ := go hl;cases heq;simp [Ay, BS, BD] at hp
  first | omega | (have := of_decide_eq_false hp; omega) | (have := of_decide_eq_true hp; omega)
theorem CF {V : Val} {e : SE} : ∀ {F : List (SB × Bool)}, (∀ e b, (e, b) ∈ F → Ad V e = b) → LoB (Cx e F) (Ac V e)
 | [], _ => LoB.none
 | p :: r, h => LoB.max (SW (h p.1 p.2 (by simp))) (CF fun e b hm => h e b (by simp [hm]))
theorem Cz {V : Val} {e : SE} : ∀ {F : List (SB × Bool)}, (∀ e b, (e, b) ∈ F → Ad V e = b) → HiB (Cu e F) (Ac V e)
 | [], _ => HiB.none
 | p :: r, h => HiB.min (S7 (h p.1 p.2 (by simp))) (Cz fun e b hm => h e b (by simp [hm]))
theorem FG (k : IntKind) (n : Int) (h1 : k.min ≤ n) (h2 : n ≤ k.max) : k.wrap n = n := by
 cases k <;> simp only [IntKind.wrap, IntKind.min, IntKind.max, IntKind.bits, IntKind.signed] at * <;> simp at * <;> omega
theorem Qo (k : IntKind) (n : Int) : k.min ≤ k.wrap n ∧ k.wrap n ≤ k.max := by
 cases k <;> simp only [IntKind.wrap, IntKind.min, IntKind.max, IntKind.bits, IntKind.signed] <;> simp <;> omega
theorem Dj {V : Val} : ∀ x : SE, (Ab V (Ch x)).rows.length = (Ab V x).rows.length := by
 intro x
 induction x
 case upd a i j x ih _ _ => rw [Ch, ih]; simp only [Ab, D.rows, List.length_modify]
 case nilIs a b ih _ => rw [Ch, ih]; simp only [Ab, D.rows]
 all_goals rfl
theorem Qm {V : Val} {n y : SE} (h : JE n y = true) : Ac V n = Ac V (.lenL y) := by
 cases n <;> simp only [JE, Bool.false_eq_true] at h
 rename_i x;rw [Ak, Ak, ← Dj x, ← Dj y, SE.same_ok h]
theorem OX {V : Val} : ∀ {x : SE} {n : Nat}, FT x = some n → (Ab V x).rows.length = n := by
 intro x
 induction x <;> intro n h <;> simp only [FT, reduceCtorEq] at h
 case nilL => cases h; rfl
 case emptyL => cases h; rfl
 case nilIs a b ih _ => exact ih h
 case snoc a r ih _ =>
  split at h
  ·rename_i k hk;cases h;have := ih hk;simp only [Ab, D.rows, List.length_append, List.length_singleton] at this ⊢;rw [this]
  ·cases h
theorem FqQ {V : Val} {F : List (SB × Bool)} (hF : ∀ e b, (e, b) ∈ F → Ad V e = b) : ∀ e : SE, LoB (bnd F e).1 (Ac V e) ∧ HiB (bnd F e).2 (Ac V e) := by
 intro e
 induction e with
 | c n => exact ⟨LoB.some (Int.le_refl _), HiB.some (Int.le_refl _)⟩
 | lenS i => exact ⟨LoB.max (LoB.some (by simp only [Dq, Ak]; omega)) (CF hF), Cz hF⟩
 | lenL i =>
  unfold bnd;split
  ·rename_i n hn;have := OX (V := V) hn;exact ⟨LoB.some (by rw [Ak, this]; exact Int.le_refl _), HiB.some (by rw [Ak, this]; exact Int.le_refl _)⟩
  ·exact ⟨LoB.max (LoB.some (by simp only [Dq, Ak]; omega)) (CF hF), Cz hF⟩
 | conv k a ih =>
  unfold bnd;split;rename_i lo hi hb;rw [hb] at ih;split
  ·rename_i hw;unfold MS at hw;split at hw
   ·rename_i l h;simp only [Bool.and_eq_true, decide_eq_true_eq] at hw;have h1 := ih.1 l rfl;have h2 := ih.2 h rfl;have e : Ac V (.conv k a) = Ac V a := FG k (Ac V a) (by omega) (by omega)
    exact ⟨LoB.max (e ▸ ih.1) (CF hF), HiB.min (e ▸ ih.2) (Cz hF)⟩
   ·cases hw
  ·have e : k.min ≤ Ac V (.conv k a) ∧ Ac V (.conv k a) ≤ k.max := Qo k _;exact ⟨LoB.max (LoB.some e.1) (CF hF), HiB.min (HiB.some e.2) (Cz hF)⟩
 | arith op k a b iha ihb =>
  have base : LoB (Cx (.arith op k a b) F) (Ac V (.arith op k a b)) ∧ HiB (Cu (.arith op k a b) F) (Ac V (.arith op k a b)) := ⟨CF hF, Cz hF⟩;unfold bnd;split
  ·rename_i m;split
   ·rename_i l hi hb;rw [hb] at iha;split
    ·rename_i hc;simp only [Bool.and_eq_true, decide_eq_true_eq] at hc;have h1 := iha.1 l rfl;have hm : (m == 0) = false := by simp; omega
     have e : Ac V (.arith .rem k a (.c m)) = (Ac V a).tmod m := by
      simp only [FL, BD, CW, hm]
     have q1 : 0 ≤ (Ac V a).tmod m := Int.tmod_nonneg _ (by omega)
     have q2 : (Ac V a).tmod m < m := Int.tmod_lt_of_pos _ (by omega)
     refine ⟨LoB.max (LoB.some (by rw [e]; exact q1)) base.1, HiB.min (HiB.some (by rw [e]; omega)) base.2⟩
    ·exact base
   ·exact base
  ·exact base
 | _ => exact ⟨CF hF, Cz hF⟩
theorem H6 {V : Val} {e : SB} {b : Bool} : ∀ {F : List (SB × Bool)}, (∀ e b, (e, b) ∈ F → Ad V e = b) → Hz e F = some b → Ad V e = b
 | [], _, h => by cases h
 | (x, c) :: r, hF, h => by
  unfold Hz at h;split at h
  ·rename_i hs;cases h;rw [SB.same_ok hs];exact hF x b (by simp)
  ·exact H6 (fun e b hm => hF e b (by simp [hm])) h
theorem Pq {a b : Option Int} (h : ltO a b = true) : ∃ x y, a = some x ∧ b = some y ∧ x < y := by
 unfold ltO at h;split at h
 ·exact ⟨_, _, rfl, rfl, by simpa using h⟩
 ·cases h
theorem Z1 {a b : Option Int} (h : leO a b = true) : ∃ x y, a = some x ∧ b = some y ∧ x ≤ y := by
 unfold leO at h;split at h
 ·exact ⟨_, _, rfl, rfl, by simpa using h⟩
 ·cases h
theorem O7 {V : Val} {F : List (SB × Bool)} (hF : ∀ e b, (e, b) ∈ F → Ad V e = b) {e : SB} {b : Bool} (h : Nr F e = some b) : Ad V e = b := by
 unfold Nr at h;cases e with
 | lss x y =>
  simp only at h;have hx := FqQ hF x;have hy := FqQ hF y;split at h
  ·rename_i hl;cases h;obtain ⟨p, q, e1, e2, e3⟩ := Pq hl;have := hx.2 p e1;have := hy.1 q e2;simp only [Ay, decide_eq_true_eq]; omega
  ·split at h
   ·rename_i hl;cases h;obtain ⟨p, q, e1, e2, e3⟩ := Z1 hl;have := hy.2 p e1;have := hx.1 q e2;simp only [Ay, decide_eq_false_iff_not]; omega
   ·cases h
 | eql x y =>
  simp only at h;have hx := FqQ hF x;have hy := FqQ hF y;split at h
  ·rename_i hl;cases h;simp only [BS, beq_eq_false_iff_ne, ne_eq];simp only [Bool.or_eq_true] at hl;rcases hl with hl | hl
   ·obtain ⟨p, q, e1, e2, e3⟩ := Pq hl;have := hx.2 p e1;have := hy.1 q e2;omega
   ·obtain ⟨p, q, e1, e2, e3⟩ := Pq hl;have := hy.2 p e1;have := hx.1 q e2;omega
  ·split at h
   ·rename_i hs;cases h;rw [SE.same_eq hs];simp [BS]
   ·cases h
 | bc c => cases h; rfl
 | _ => cases h
theorem Qj {V : Val} {F : List (SB × Bool)} (hF : ∀ e b, (e, b) ∈ F → Ad V e = b) : ∀ (e : SB) (b : Bool), Dt F e = some b → Ad V e = b := by
 intro e
 have Hd : ∀ (a : SB), (∀ b, Dt F a = some b → Ad V a = b) → ∀ b, (match Hz a F with
   | some c => some c
   | none => Dt F a) = some b → Ad V a = b := by
  intro a ih b h;split at h
  ·rename_i c hc;cases h;exact H6 hF hc
  ·exact ih b h
 induction e with
 | neg a ih =>
  intro b h;simp only [Dt] at h;show (!Ad V a) = b;split at h
  ·rename_i c hc;cases h;rw [H6 hF hc]
  ·split at h
   ·rename_i c hc;cases h;rw [ih c hc]
   ·cases h
 | and x y ihx ihy =>
  intro b h;simp only [Dt] at h;show (Ad V x && Ad V y) = b;split at h
  ·rename_i hc;cases h;rw [Hd x ihx _ hc]; rfl
  ·rename_i hc;rw [Hd x ihx _ hc, Hd y ihy _ h]; rfl
  ·split at h
   ·rename_i hc;cases h;rw [Hd y ihy _ hc]; simp
   ·cases h
 | _ =>
  intro b h;exact O7 hF h
theorem Az {V : Val} {F : List (SB × Bool)} (hF : ∀ e b, (e, b) ∈ F → Ad V e = b) {e : SB} {b : Bool} (h : AW F e = some b) : Ad V e = b := by
 unfold AW at h;split at h
 ·rename_i c hc;cases h;exact H6 hF hc
 ·exact Qj hF e b h
theorem Hg (ρ : Ren) (pos : Bool) (e : SB) : VR ρ (mkB pos e) (.bool (Ad U.V e == pos)) := by
 unfold mkB;split
 ·rename_i b h;rw [Az U.ok h];exact .bool _
 ·exact .sb pos e
theorem CE (ρ : Ren) (k : IntKind) (e : SE) : VR ρ (mkI k e) (.int k (Ac U.V e)) := by
 have hb := FqQ U.ok e;unfold mkI;split
 ·rename_i l h hq;rw [hq] at hb;split
  ·rename_i hl;have h1 := hb.1 l rfl;have h2 := hb.2 h rfl;have h3 : l = h := by simpa using hl
   have : Ac U.V e = l := by omega
   rw [this];exact .int k l
  ·exact .si k e
 ·exact .si k e
theorem EV {n y : SE} (h : DY n y = true) : Ac U.V n = Ac U.V (.lenL y) := by
 unfold DY at h;rw [Bool.or_eq_true] at h;rcases h with h | h
 ·exact Qm h
 ·unfold Kp at h;split at h
  ·rename_i hd;have := Az U.ok hd;rw [BS] at this;exact eq_of_beq this
  ·cases h
theorem Iu {ρ : Ren} {b es : Nat} {n y nl : SE} {v : Value} (h : DY n y = true) (hv : VR ρ (.asl b es n nl) v) : VR ρ (.asl b es (.lenL y) nl) v := by
 have e := EV h;cases hv with
 | asl _ _ _ _ cap base hb h0 hc hz hn =>
  have := VR.asl (ρ := ρ) b es (.lenL y) nl cap base hb (e ▸ h0) (e ▸ hc) hz hn;rw [← e] at this;exact this
 | aslEnd _ _ _ _ a h0 hn => exact .aslEnd _ _ _ _ a (e ▸ h0) hn
section
variable {E : Env} {ρ : Ren} {w : World}
theorem Cy {x : AV} {xv : Value} {k : IntKind} {e : SE} (hx : VR ρ x xv) (h : toI x = some (k, e)) : xv = .int k (Ac U.V e) := by
 cases hx <;> simp only [toI] at h <;> cases h <;> rfl
theorem Hv {x : AV} {xv : Value} (hx : VR ρ x xv) : VR ρ (KP x) xv := by
 unfold KP;split
 ·rename_i k e;split
  ·rename_i l h hb;split
   ·rename_i hlh;have hlh : l = h := by simpa using hlh
    subst hlh;cases hx with
    | si _ _ =>
     obtain ⟨b1, b2⟩ := FqQ U.ok e;rw [hb] at b1 b2;have e1 := b1 l rfl;have e2 := b2 l rfl;have : Ac U.V e = l := by omega
     rw [this];exact .int k l
   ·exact hx
  ·exact hx
 ·exact hx
theorem WE {op : BinOp} {k : IntKind} {a b : SE} {r : AV} (t : TypeId) (h : YC op k a b = some r) :
  ∃ v, (binOp op t (.int k (Ac U.V a)) (.int k (Ac U.V b))).run E.P w = .ok v w ∧ VR ρ r v := by
 have ar : ∀ {op : BinOp} {n : Int}, op ≠ .shl → op ≠ .shr → CW op k (Ac U.V a) (Ac U.V b) = some (.int k n) → ∃ v, (binOp op t (.int k (Ac U.V a)) (.int k (Ac U.V b))).run E.P w = .ok v w ∧ VR ρ (mkI k (.arith op k a b)) v := by
  intro op n h1 h2 h3;obtain ⟨v, q1, q2⟩ := Iv (E := E) (w := w) (ρ := ρ) t h1 h2 h3;cases q2;refine ⟨_, q1, ?_⟩;have e : Ac U.V (.arith op k a b) = n := by simp only [FL, h3]
  have := CE ρ k (.arith op k a b);rw [e] at this;exact this
 have cm : ∀ {op : BinOp} {c : Bool} {pos : Bool} {e : SB}, op ≠ .shl → op ≠ .shr → CW op k (Ac U.V a) (Ac U.V b) = some (.bool c) → (Ad U.V e == pos) = c → ∃ v, (binOp op t (.int k (Ac U.V a)) (.int k (Ac U.V b))).run E.P w = .ok v w ∧ VR ρ (mkB pos e) v := by
  intro op c pos e h1 h2 h3 h4;obtain ⟨v, q1, q2⟩ := Iv (E := E) (w := w) (ρ := ρ) t h1 h2 h3;cases q2;exact ⟨_, q1, h4 ▸ Hg ρ pos e⟩
 have nz : ∀ {b : SE}, QO b = true → (Ac U.V b == 0) = false := by
  intro b hb;unfold QO at hb;rw [Bool.or_eq_true] at hb;rcases hb with hb | hb
  ·cases b <;> simp [X7] at hb
   simpa [BD] using hb
  ·split at hb
   ·rename_i hd;have := Az U.ok hd
    rwa [BS, BD] at this
   ·cases hb
 cases op <;> simp only [YC] at h <;> first | (cases h; done) | skip
 case quo =>
  split at h
  ·rename_i hb; cases h; exact ar (by simp) (by simp) (by simp only [CW, nz hb]; rfl)
  ·cases h
 case rem =>
  split at h
  ·rename_i hb; cases h; exact ar (by simp) (by simp) (by simp only [CW, nz hb]; rfl)
  ·cases h
 case eql => cases h; exact cm (by simp) (by simp) rfl (by simp [Ay, BS])
 case neq => cases h; exact cm (by simp) (by simp) rfl (by simp only [BS, bne]; cases (Ac U.V a == Ac U.V b) <;> rfl)
 case lss => cases h; exact cm (by simp) (by simp) rfl (by simp [Ay, BS])
 case leq => cases h; exact cm (by simp) (by simp) rfl (by simp only [Ay]; by_cases h : Ac U.V a ≤ Ac U.V b <;> simp [h] <;> omega)
 case gtr => cases h; exact cm (by simp) (by simp) rfl (by simp [Ay, BS])
 case geq => cases h; exact cm (by simp) (by simp) rfl (by simp only [Ay]; by_cases h : Ac U.V a ≥ Ac U.V b <;> simp [h] <;> omega)
 all_goals cases h; exact ar (by simp) (by simp) rfl
theorem Nm {op : BinOp} {s s' : ByteArray} {e : SB} {r : AV} (t : TypeId) (h : TW op e = some r) (he : Ad U.V e = strEq s.data.toList.length (AC s.data.toList) s'.data.toList.length (AC s'.data.toList)) :
  ∃ v, (binOp op t (.string s) (.string s')).run E.P w = .ok v w ∧ VR ρ r v := by
 have cm : ∀ {op : BinOp} {c : Bool} {pos : Bool}, Np op s.data.toList.length (AC s.data.toList) s'.data.toList.length (AC s'.data.toList) = some (.bool c) → (Ad U.V e == pos) = c → ∃ v, (binOp op t (.string s) (.string s')).run E.P w = .ok v w ∧ VR ρ (mkB pos e) v := by
  intro op c pos h3 h4;obtain ⟨v, q1, q2⟩ := Ms (E := E) (w := w) (ρ := ρ) t h3;cases q2;exact ⟨_, q1, h4 ▸ Hg ρ pos e⟩
 cases op <;> simp only [TW] at h <;> first | (cases h; done) | skip
 case eql => cases h; exact cm rfl (by rw [he]; simp)
 case neq => cases h; exact cm rfl (by rw [he]; cases strEq _ _ _ _ <;> rfl)
theorem Qf (l a l' b : Nat) : strEq l a l' b = strEq l' b l a := by
 unfold strEq
 have : ∀ i j : Nat, Nat.beq i j = Nat.beq j i := fun i j => by
  cases h : Nat.beq i j with
  | true => rw [AA h, EP]
  | false => exact (F9 (fun e => TU h e.symm)).symm
 rw [this l, this a]
theorem WN {op : BinOp} {t : TypeId} {ox oy : Operand} {x y r : AV} {xv yv : Value} (hx : VR ρ x xv) (hy : VR ρ y yv) (hr : Zj op x y = some r) :
  ∃ v, (do eqGuard op t ox oy xv yv; binOp op t xv yv : Sem Value).run E.P w = .ok v w ∧ VR ρ r v := by
 have fin : ∀ {a b : Value}, (¬ (a = .nilIface ∧ b = .nilIface)) → (¬ ∃ xs, a = .agg xs) → (∃ v, (binOp op t a b).run E.P w = .ok v w ∧ VR ρ r v) → ∃ v, (do eqGuard op t ox oy a b; binOp op t a b : Sem Value).run E.P w = .ok v w ∧ VR ρ r v := by
  intro a b h1 h2 ⟨v, q1, q2⟩;have hg : (eqGuard op t ox oy a b).run E.P w = .ok () w := CA h1 (fun h _ => absurd h h2)
  exact ⟨v, by simp only [Sem.run_bind, hg, Result.andThen_ok, q1], q2⟩
 unfold Zj at hr;split at hr
 ·cases hx; cases hy;exact fin (by simp) (by simp) (Nm t hr rfl)
 ·cases hx; cases hy;exact fin (by simp) (by simp) (Nm t hr rfl)
 ·cases hx; cases hy;exact fin (by simp) (by simp) (Nm t hr (by rw [R3]; exact Qf _ _ _ _))
 ·split at hr
  ·rename_i k a k' b h1 h2;split at hr
   ·rename_i hk;have hk : k = k' := by simpa using hk
    subst hk;rw [Cy hx h1, Cy hy h2];exact fin (by simp) (by simp) (WE t hr)
   ·cases hr
  ·cases hr
end
end Go.AE
namespace Go.AE
variable [U : Unk]
theorem ER.length {ρ : Ren} : ∀ {l : List AO} {l' : List MapEntry}, ER ρ l l' → l.length = l'.length
 | [], [], _ => rfl
 | _ :: _, _ :: _, ⟨_, _, _, h⟩ => by simp [ER.length h]
section
variable {E : Env} (hE : OK E) {ρ : Ren} {h : Aa} {w : World}
include hE
theorem Ft (em : Bool) (k : Nat) : ∀ (d : Nat) (t : TypeId) (v : AV) (vv : Value), CY E d t v = true → VR ρ v vv → (Instr.checkKey em (d + k) t vv).run E.P w = .ok () w := by
 intro d
 induction d with
 | zero => intro t v vv h; simp [CY] at h
 | succ d ih =>
  intro t v vv h hv;rw [show d + 1 + k = (d + k) + 1 from by omega, Instr.checkKey]
  simp only [CY] at h;cases hd : E.desc t with
  | none => simp [hd] at h
  | some ds =>
   simp only [Sem.run_bind, hE.run_und hd, Result.andThen_ok];cases ds with
   | int q => simp
   | string => simp
   | bool => simp
   | struct fs =>
    simp only [hd] at h;cases hv <;> simp only [Bool.false_eq_true] at h
    rename_i cs cs' h1 h2;simp only [ne_eq, Sem.run_bind];rw [← Array.forIn_toList];generalize fs.toList = fl at h
    induction fl with
    | nil => simp
    | cons f fl ihf =>
     simp only [Ir] at h;cases hp : Cq E f.type cs f.offset with
     | none => simp [hp] at h
     | some a =>
      simp only [hp] at h;cases hk : CY E d f.type a with
      | false => simp [hk] at h
      | true =>
       simp only [hk] at h;obtain ⟨av, q1, q2⟩ := hE.run_part hp ⟨h1, h2⟩ w;have q3 := ih _ _ _ hk q2;simp only [List.forIn_cons, Sem.run_bind];by_cases hn : f.name = "_"
       ·simp only [hn, not_true_eq_false, if_false, Sem.run_pure, Result.andThen_ok];exact ihf h
       ·simp only [hn, not_false_eq_true, if_true, Sem.run_bind, q1, q3, Result.andThen_ok, Sem.run_pure];exact ihf h
   | array n e =>
    simp only [hd] at h;cases hv <;> simp only [Bool.false_eq_true] at h
    rename_i cs cs' h1 h2;cases hh : E.has e with
    | false => simp [hh] at h
    | true =>
     simp only [hh] at h;simp only [Std.Legacy.Range.forIn_eq_forIn_range', Std.Legacy.Range.size, Nat.sub_zero, Nat.add_one_sub_one, Nat.div_one];generalize hi : (0 : Nat) = i at h ⊢;clear hi hd;simp only [Sem.run_bind]
     induction n generalizing i with
     | zero => simp
     | succ n ihn =>
      simp only [KF] at h;cases hp : Cq E e cs (i * E.size e) with
      | none => simp [hp] at h
      | some a =>
       simp only [hp] at h;cases hk : CY E d e a with
       | false => simp [hk] at h
       | true =>
        simp only [hk] at h;obtain ⟨av, q1, q2⟩ := hE.run_part hp ⟨h1, h2⟩ w;have q3 := ih _ _ _ hk q2;simp only [List.range'_succ, List.forIn_cons, Sem.run_bind, hE.run_has hh, Result.andThen_ok, q1, q3, Sem.run_pure];exact ihn (i + 1) h
   | _ => simp [hd] at h
def FR (ρ : Ren) : Option (Nat × AV) → Option (Nat × Value) → Prop
 | none, none => True
 | some (i, a), some (j, v) => i = j ∧ VR ρ a v
 | _, _ => False
theorem GJ {t : TypeId} {k : AV} {kv : Value} (hk : VR ρ k kv) : ∀ {es : List AO} {es' : List MapEntry} {i : Nat} {r : Option (Nat × AV)}, ER ρ es es' → ES E t k es i = some r →
  ∃ r', FR ρ r r' ∧ (Instr.findAsking t kv es' i).run E.P w = .ok r' w
 | [], [], i, r, _, h => by
  simp only [ES, Option.some.injEq] at h;subst h;exact ⟨none, trivial, by simp [Instr.findAsking]⟩
 | e :: es, e' :: es', i, r, ⟨h1, h2, h3, h4⟩, h => by
  simp only [ES] at h;cases ha : aeq E 10000 t k e.key with
  | none => simp [ha] at h
  | some b =>
   have hask : (Op.equal t kv e'.key).run E.P w = .ok b w := O6 (w := w) hE 10000 t k e.key b kv e'.key ha hk h1;cases b with
   | true =>
    simp only [ha, Option.some.injEq] at h;subst h;exact ⟨some (i, e'.val), ⟨rfl, h2⟩, by simp [Instr.findAsking, hask]⟩
   | false =>
    simp only [ha] at h;obtain ⟨r', q1, q2⟩ := GJ hk h4 h;exact ⟨r', q1, by simp [Instr.findAsking, hask, q2]⟩
omit hE in
theorem K1 {t : TypeId} {ds : TypeDesc} (hd : E.desc t = some ds) {x y : AV} {b : Bool} {xv yv : Value} {d : Nat} (ha : aeq E (d + 1) t x y = some b) (hx : VR ρ x xv) (hy : VR ρ y yv) :
  Instr.sameNow ds xv yv = some b ∨ ∀ u v, Instr.sameNow ds u v = none := by
 simp only [aeq, hd] at ha;cases ds with
 | int q =>
  cases hx <;> first | (cases ha; done) | skip
  cases hy <;> first | (cases ha; done) | skip
  rename_i k n k' n';by_cases hk : k = k'
  ·subst hk; simp only [decide_true, Option.some.injEq] at ha; subst ha; exact .inl (by simp [Instr.sameNow])
  ·simp [hk] at ha
 | string =>
  cases hx <;> first | (cases ha; done) | skip
  cases hy <;> first | (cases ha; done) | skip
  rename_i s s';simp only [Option.some.injEq] at ha;subst ha;rw [B7];exact .inl (by simp only [Instr.sameNow]; rw [beq_toListBytes])
 | bool =>
  cases hx <;> first | (cases ha; done) | skip
  cases hy <;> first | (cases ha; done) | skip
  simp only [Option.some.injEq] at ha;subst ha;exact .inl (by simp [Instr.sameNow])
 | _ => exact .inr (fun u v => by cases u <;> cases v <;> rfl)
omit hE in
theorem Lh {t : TypeId} {ds : TypeDesc} (hd : E.desc t = some ds) {k : AV} {kv : Value} (hk : VR ρ k kv) (hq : ¬ ∀ u v, Instr.sameNow ds u v = none) : ∀ {es : List AO} {es' : List MapEntry} {i : Nat} {r : Option (Nat × AV)}, ER ρ es es' → ES E t k es i = some r →
  ∃ r', FR ρ r r' ∧ Instr.findNow ds kv es' i = some r'
 | [], [], i, r, _, h => by
  simp only [ES, Option.some.injEq] at h;subst h;exact ⟨none, trivial, rfl⟩
 | e :: es, e' :: es', i, r, ⟨h1, h2, h3, h4⟩, h => by
  simp only [ES] at h;cases ha : aeq E 10000 t k e.key with
  | none => simp [ha] at h
  | some b =>
   have hs : Instr.sameNow ds kv e'.key = some b := (K1 hd ha hk h1).resolve_right hq;cases b with
   | true =>
    simp only [ha, Option.some.injEq] at h;subst h;exact ⟨some (i, e'.val), ⟨rfl, h2⟩, by simp [Instr.findNow, hs]⟩
   | false =>
    simp only [ha] at h;obtain ⟨r', q1, q2⟩ := Lh hd hk hq h4 h;exact ⟨r', q1, by simp [Instr.findNow, hs, q2]⟩
theorem GZ {t : TypeId} {ds : TypeDesc} (hd : E.desc t = some ds) {k : AV} {kv : Value} (hk : VR ρ k kv) {es : List AO} {es' : List MapEntry} {r : Option (Nat × AV)} (he : ER ρ es es') (h : ES E t k es 0 = some r) :
  ∃ r', FR ρ r r' ∧ (Instr.findKey t kv es').run E.P w = .ok r' w := by
 by_cases hq : ∀ u v, Instr.sameNow ds u v = none
 ·cases es' with
  | nil =>
   cases es with
   | nil =>
    simp only [ES, Option.some.injEq] at h;subst h;exact ⟨none, trivial, by simp [Instr.findKey, hE.run_und hd, Instr.findNow]⟩
   | cons e es => cases he
  | cons e' es' =>
   obtain ⟨r', q1, q2⟩ := GJ (w := w) hE hk he h;exact ⟨r', q1, by simp [Instr.findKey, hE.run_und hd, Instr.findNow, hq, q2]⟩
 ·obtain ⟨r', q1, q2⟩ := Lh hd hk hq he h;exact ⟨r', q1, by simp [Instr.findKey, hE.run_und hd, q2]⟩
theorem Qd (hr : HR ρ h.blk.get w) {t : TypeId} {m k a : AV} {mv kv : Value} {ok : Bool} (hm : VR ρ m mv) (hk : VR ρ k kv) (ha : M8 E t m k ok h = some a) :
  ∃ v, (Instr.lookup t mv kv ok).run E.P w = .ok v w ∧ VR ρ a v := by
 unfold M8 at ha;cases hd : E.desc t with
 | none => simp [hd] at ha
 | some d =>
  cases d with
  | map kt et =>
   simp only [hd] at ha;cases hkk : CY E 20 kt k with
   | false => simp [hkk] at ha
   | true =>
    cases hz : E.zero et with
    | none => simp [hkk, hz] at ha
    | some z =>
     simp only [hkk, hz] at ha;obtain ⟨zv, z1, z2⟩ := hE.run_zero ρ hz w;have hzr := A5 ρ z2;have hck : ∀ em, (Instr.checkKey em 10000 kt kv).run E.P w = .ok () w := fun em => Ft (w := w) hE em 9980 20 kt k kv hkk hk
     have hkd : ∃ ds, E.desc kt = some ds := by
      simp only [CY] at hkk;cases hq : E.desc kt with
      | none => simp [hq] at hkk
      | some ds => exact ⟨ds, rfl⟩
     obtain ⟨ds, hkd⟩ := hkd
     have fin : ∀ (v : AV) (b : Bool) (vv : Value), VR ρ v vv → VR ρ (LE ok v b) (if ok then .tuple #[vv, .bool b] else vv) := by
      intro v b vv hv;cases ok with
      | true =>
       have := VL.cons hv (VL.cons (VR.bool (ρ := ρ) b) (VL.nil ρ));exact .tuple _ [vv, .bool b] this.1 this.2
      | false => exact hv
     have emp : (Instr.findKey kt kv []).run E.P w = .ok none w := by
      obtain ⟨r', q1, q2⟩ := GZ (w := w) hE hkd hk (es := []) (es' := []) (r := none) trivial rfl;cases r' with
      | none => exact q2
      | some p => cases q1
     cases hm with
     | map0 =>
      simp only [Option.some.injEq] at ha;subst ha;refine ⟨_, ?_, fin z false zv hzr⟩;simp [Instr.lookup, hE.run_und hd, hck, emp, z1]
     | map b base hb =>
      simp only [] at ha;cases hg : h.blk.get b with
      | none => simp [hg] at ha
      | some y =>
       cases y with
       | map es clock =>
        simp only [hg] at ha;obtain ⟨es', e1, e2⟩ := hr.blk b base _ hb hg;have hget : (getObj base.cb).run E.P w = .ok (.map es'.toArray clock) w := by simp [getObj, Sem.run, e1]
        cases hf : ES E kt k es 0 with
        | none => simp [hf] at ha
        | some r =>
         obtain ⟨r', q1, q2⟩ := GZ (w := w) hE hkd hk e2 hf;cases r with
         | none =>
          simp only [hf, Option.some.injEq] at ha;subst ha;cases r' with
          | some p => cases q1
          | none =>
           refine ⟨_, ?_, fin z false zv hzr⟩;simp [Instr.lookup, hE.run_und hd, hget, hck, q2, z1]
         | some p =>
          obtain ⟨i, v⟩ := p;simp only [hf, Option.some.injEq] at ha;subst ha;cases r' with
          | none => cases q1
          | some p' =>
           obtain ⟨j, vv⟩ := p';refine ⟨_, ?_, fin v true vv q1.2⟩;simp [Instr.lookup, hE.run_und hd, hget, hck, q2]
       | _ => simp [hg] at ha
     | _ => simp at ha
  | _ => simp [hd] at ha
end
end Go.AE
namespace Go.AE
variable [U : Unk]
theorem ER.get {ρ : Ren} : ∀ {l : List AO} {l' : List MapEntry} {i : Nat} {e : AO}, ER ρ l l' → l[i]? = some e → ∃ e', l'[i]? = some e' ∧ VR ρ e.key e'.key ∧ VR ρ e.val e'.val ∧ e'.born = e.born
 | [], [], i, e, _, h => by simp at h
 | a :: l, a' :: l', 0, e, ⟨h1, h2, h3, h4⟩, h => by simp at h; subst h; exact ⟨a', rfl, h1, h2, h3⟩
 | a :: l, a' :: l', i + 1, e, ⟨h1, h2, h3, h4⟩, h => by simpa using ER.get h4 (by simpa using h)
theorem ER.setVal {ρ : Ren} : ∀ {l : List AO} {l' : List MapEntry} {i : Nat} {k v : AV} {kv vv : Value}, ER ρ l l' → VR ρ k kv → VR ρ v vv → ER ρ (setVal l i k v) (l'.modify i fun e => { e with key := kv, val := vv })
 | [], [], i, k, v, kv, vv, _, _, _ => by simp [AE.setVal, ER]
 | a :: l, a' :: l', 0, k, v, kv, vv, ⟨h1, h2, h3, h4⟩, hk, hv => by
  simp only [AE.setVal, List.modify_zero_cons];exact ⟨hk, hv, h3, h4⟩
 | a :: l, a' :: l', i + 1, k, v, kv, vv, ⟨h1, h2, h3, h4⟩, hk, hv => by
  simp only [AE.setVal, List.modify_succ_cons];exact ⟨h1, h2, h3, ER.setVal h4 hk hv⟩
theorem ER.append {ρ : Ren} : ∀ {l : List AO} {l' : List MapEntry} {m : List AO} {m' : List MapEntry}, ER ρ l l' → ER ρ m m' → ER ρ (l ++ m) (l' ++ m')
 | [], [], _, _, _, h => h
 | _ :: _, _ :: _, _, _, ⟨h1, h2, h3, h4⟩, h => ⟨h1, h2, h3, ER.append h4 h⟩
theorem ER.eraseIdx {ρ : Ren} : ∀ {l : List AO} {l' : List MapEntry} (i : Nat), ER ρ l l' → ER ρ (l.eraseIdx i) (l'.eraseIdx i)
 | [], [], i, _ => by simp [ER]
 | _ :: _, _ :: _, 0, ⟨_, _, _, h⟩ => by simpa using h
 | _ :: _, _ :: _, i + 1, ⟨h1, h2, h3, h4⟩ => by
  simp only [List.eraseIdx_cons_succ];exact ⟨h1, h2, h3, ER.eraseIdx i h4⟩
section
variable {E : Env} (hE : OK E) {ρ : Ren} {h : Aa} {w : World}
theorem Bq (P : Program) {r : Nat} {o o' : Obj} (ho : w.heap[r]? = some o) (hc : ∀ c e f, o ≠ .cells c e f) :
  (setObj r o').run P w = .ok () { w with heap := w.heap.setIfInBounds r o' } := by
 cases o <;> simp only [setObj, Sem.run, ho]
 exact absurd rfl (hc _ _ _)
theorem A6 (P : Program) {r : Nat} {o : Obj} (ho : w.heap[r]? = some o) (hc : ∀ c e f, o ≠ .cells c e f) :
  (getObj r).run P w = .ok o w := by
 cases o <;> simp only [getObj, Sem.run, ho]
 exact absurd rfl (hc _ _ _)
theorem HR.setObj (hr : HR ρ h.blk.get w) {r : Nat} {base : C3} (hb : ρ r = some base) (hl : h.blk.get r ≠ none) (x : Aj) (o' : Obj) (hx : BR ρ x base (some o')) :
  HR ρ (h.put r x).blk.get { w with heap := w.heap.setIfInBounds base.cb o' } ∧ Ext ρ ρ h (h.put r x) w { w with heap := w.heap.setIfInBounds base.cb o' } := by
 have hlt := hr.lt r base hb;refine hr.put hb hl x _ ?_ (by simp) (fun k hk => by simp [Array.getElem?_setIfInBounds_ne (Ne.symm hk)]) rfl rfl rfl
 have : ({ w with heap := w.heap.setIfInBounds base.cb o' } : World).heap[base.cb]? = some o' := by simp [hlt]
 rw [this]; exact hx
theorem N2 : ∀ {a b : AV}, FM a b = true → a = b := by
 intro a b h;cases a <;> cases b <;> simp only [FM] at h <;> first | (cases h; done) | skip
 ·rename_i x y; cases x <;> cases y <;> first | rfl | cases h
 ·rename_i k x k' y;by_cases hk : k = k'
  ·subst hk;simp only [decide_true] at h;rw [eq_of_beq h]
  ·simp [hk] at h
 ·rename_i l x l' y;obtain ⟨h1, h2⟩ := Av h;rw [AA h1, AA h2]
theorem LG : ∀ {l m : List AV}, Io l m = true → l = m
 | [], [], _ => rfl
 | [], _ :: _, h => by simp [Io] at h
 | _ :: _, [], h => by simp [Io] at h
 | a :: l, b :: m, h => by
  simp only [Io] at h;cases hs : FM a b with
  | false => simp [hs] at h
  | true => simp only [hs] at h; rw [N2 hs, LG h]
theorem Ow {a b : AV} (h : Ka a b = true) : a = b := by
 cases a <;> cases b <;> first | exact congrArg AV.agg (LG h) | exact N2 h
theorem Fp (P : Program) (ov nv : Value) :
  ∃ v w', (Instr.keyThatStays ov nv).run P w = .ok v w' ∧ (v = nv ∨ v = ov) ∧ w'.heap = w.heap ∧ w'.os = w.os ∧ w'.tape = w.tape ∧ w'.output = w.output := by
 unfold Instr.keyThatStays;by_cases hs : Instr.sameBits 10000 ov nv = true
 ·exact ⟨nv, w, by simp [hs], .inl rfl, rfl, rfl, rfl, rfl⟩
 ·simp only [hs, Bool.false_eq_true, if_false, Sem.run_bind, run_choose, Question.forced, Sem.run_pure];exact ⟨_, _, rfl, by split <;> simp, rfl, rfl, rfl, rfl⟩
include hE
theorem Hh (hr : HR ρ h.blk.get w) {t : TypeId} {m k v : AV} {mv kv vv : Value} {h' : Aa} (hm : VR ρ m mv) (hk : VR ρ k kv) (hv : VR ρ v vv) (ha : HT E t m k v h = some h') :
  ∃ w', (Instr.mapUpdate t mv kv vv).run E.P w = .ok () w' ∧ HR ρ h'.blk.get w' ∧ Ext ρ ρ h h' w w' := by
 unfold HT at ha;cases hd : E.desc t with
 | none => simp [hd] at ha
 | some d =>
  cases d with
  | map kt et =>
   simp only [hd] at ha;cases hkk : CY E 20 kt k with
   | false => simp [hkk] at ha
   | true =>
    simp only [hkk] at ha;have hck : ∀ em, (Instr.checkKey em 10000 kt kv).run E.P w = .ok () w := fun em => Ft (w := w) hE em 9980 20 kt k kv hkk hk
    have hkd : ∃ ds, E.desc kt = some ds := by
     simp only [CY] at hkk;cases hq : E.desc kt with
     | none => simp [hq] at hkk
     | some ds => exact ⟨ds, rfl⟩
    obtain ⟨ds, hkd⟩ := hkd;cases hm with
    | map b base hb =>
     simp only [] at ha;cases hg : h.blk.get b with
     | none => simp [hg] at ha
     | some y =>
      cases y with
      | map es clock =>
       simp only [hg] at ha;obtain ⟨es', e1, e2⟩ := hr.blk b base _ hb hg;have hget := A6 (w := w) E.P e1 (by simp)
       cases hf : ES E kt k es 0 with
       | none => simp [hf] at ha
       | some r =>
        obtain ⟨r', q1, q2⟩ := GZ (w := w) hE hkd hk e2 hf;cases r with
        | none =>
         simp only [hf, Option.some.injEq] at ha;subst ha;cases r' with
         | some p => cases q1
         | none =>
          obtain ⟨p1, p2⟩ := hr.setObj hb (by rw [hg]; simp) (.map (es ++ [{ key := k, val := v, born := clock }]) (clock + 1)) (.map (es'.toArray.push { key := kv, val := vv, born := clock }) (clock + 1))
           ⟨es' ++ [{ key := kv, val := vv, born := clock }], by simp, e2.append ⟨hk, hv, rfl, trivial⟩⟩
          refine ⟨_, ?_, p1, p2⟩;simp [Instr.mapUpdate, hE.run_und hd, hget, hck, q2, Bq (w := w) E.P e1 (by simp)]
        | some p =>
         obtain ⟨i, v0⟩ := p;simp only [hf] at ha;cases r' with
         | none => cases q1
         | some p' =>
          obtain ⟨j, v0'⟩ := p';obtain ⟨rfl, q3⟩ := q1;cases hi : es[i]? with
          | none => simp [hi] at ha
          | some e =>
           simp only [hi] at ha;cases hs : Ka k e.key with
           | false => simp [hs] at ha
           | true =>
            simp only [hs, Option.some.injEq] at ha;subst ha;have hke := Ow hs;obtain ⟨e', g1, g2, g3, g4⟩ := e2.get hi;obtain ⟨nk, w1, s1, s2, s3, s4, s5, s6⟩ := Fp (w := w) E.P e'.key kv
            have hnk : VR ρ k nk := by
             rcases s2 with rfl | rfl
             ·exact hk
             ·rw [hke]; exact g2
            have hr1 : HR ρ h.blk.get w1 := hr.same s3
            obtain ⟨p1, p2⟩ := hr1.setObj hb (by rw [hg]; simp) (.map (setVal es i k v) clock) (.map (es'.toArray.modify i fun e => { e with key := nk, val := vv }) clock)
             ⟨es'.modify i fun e => { e with key := nk, val := vv }, by simp [List.modify_toArray], e2.setVal hnk hv⟩
            refine ⟨_, ?_, p1, p2.drawn s3 s4 s5 s6⟩;have e1' : w1.heap[base.cb]? = some (.map es'.toArray clock) := by rw [s3]; exact e1
            simp only [Instr.mapUpdate, Sem.run_bind, hE.run_und hd, Result.andThen_ok, hget, hck, q2, List.getElem?_toArray, g1, Option.map_some, Option.getD_some, s1];rw [Bq (w := w1) E.P e1' (by simp)]
      | _ => simp [hg] at ha
    | _ => simp at ha
  | _ => simp [hd] at ha
theorem P3 (hr : HR ρ h.blk.get w) {t ty : TypeId} {m k : AV} {mv kv : Value} {h' : Aa} (hm : VR ρ m mv) (hk : VR ρ k kv) (ha : Js E t m k h = some h') (ats : Array TypeId) (hat : ats[0]? = some t) :
  ∃ w', (Builtin.delete_ ats ty #[mv, kv]).run E.P w = .ok (.tuple #[]) w' ∧ HR ρ h'.blk.get w' ∧ Ext ρ ρ h h' w w' := by unfold Js at ha; cases ha
end
end Go.AE
namespace Go.AE
variable [U : Unk]
theorem HD {ρ : Ren} {n : Nat} {v : AV} {vv : Value} (hv : VR ρ v vv) : ∀ {es es2 : List AO} {es' : List MapEntry}, ER ρ es es' → De es n v = some es2 →
  ∃ i, es'.findIdx? (fun e => (e.born : Int) == (n : Int)) = some i ∧ ER ρ es2 (es'.modify i fun e => { e with val := vv })
 | [], _, [], _, h => by simp [De] at h
 | e :: es, es2, e' :: es', ⟨h1, h2, h3, h4⟩, h => by
  simp only [De] at h;cases hb : Nat.beq e.born n with
  | true =>
   simp only [hb, Option.some.injEq] at h;subst h;have := AA hb;exact ⟨0, by simp [List.findIdx?_cons, h3, this], by simp only [List.modify_zero_cons]; exact ⟨h1, hv, h3, h4⟩⟩
  | false =>
   simp only [hb] at h;cases hs : De es n v with
   | none => simp [hs] at h
   | some r =>
    simp only [hs, Option.some.injEq] at h;subst h;obtain ⟨i, q1, q2⟩ := HD hv h4 hs;have hne := TU hb;refine ⟨i + 1, ?_, by simp only [List.modify_succ_cons]; exact ⟨h1, h2, h3, q2⟩⟩
    have : ((e'.born : Int) == (n : Int)) = false := by rw [h3]; simp; omega
    simp [List.findIdx?_cons, this, q1]
section
variable {E : Env} (hE : OK E) {ρ : Ren} {h : Aa} {w : World}
theorem JY (hr : HR ρ h.blk.get w) {t : TypeId} {m s v : AV} {mv sv vv : Value} {h' : Aa} (hm : VR ρ m mv) (hs : VR ρ s sv) (hv : VR ρ v vv) (ha : FQ m s v h = some h') :
  ∃ w', (Instr.entryStore t mv sv vv).run E.P w = .ok () w' ∧ HR ρ h'.blk.get w' ∧ Ext ρ ρ h h' w w' := by
 unfold FQ at ha;cases hn : CX s with
 | none => cases m <;> simp [hn] at ha
 | some n =>
  obtain ⟨k, rfl⟩ := Cd hs hn;cases hm with
  | map b base hb =>
   simp only [hn] at ha;cases hg : h.blk.get b with
   | none => simp [hg] at ha
   | some y =>
    cases y with
    | map es clock =>
     simp only [hg] at ha;obtain ⟨es', e1, e2⟩ := hr.blk b base _ hb hg;have hget := A6 (w := w) E.P e1 (by simp)
     cases hsb : De es n v with
     | none => simp [hsb] at ha
     | some es2 =>
      simp only [hsb, Option.some.injEq] at ha;subst ha;obtain ⟨i, q1, q2⟩ := HD hv e2 hsb;obtain ⟨p1, p2⟩ := hr.setObj hb (by rw [hg]; simp) (.map es2 clock) (.map (es'.toArray.modify i fun e => { e with val := vv }) clock) ⟨_, by simp [List.modify_toArray], q2⟩
      refine ⟨_, ?_, p1, p2⟩;simp [Instr.entryStore, hget, asInt, asIntOf, q1, Bq (w := w) E.P e1 (by simp)]
    | _ => simp [hg] at ha
  | _ => simp at ha
include hE
theorem SQ (hr : HR ρ h.blk.get w) {t : TypeId} {m k a : AV} {mv kv : Value} {h' : Aa} (hm : VR ρ m mv) (hk : VR ρ k kv) (ha : PI E t m k h = some (a, h')) :
  A3 E ρ h h' w (Instr.mapEntry t mv kv) a := by unfold PI at ha; cases ha
omit hE in
theorem Xr (hE : OK E) (hr : HR ρ h.blk.get w) {t ty : TypeId} {x a : AV} {xv : Value} (hx : VR ρ x xv) (ha : Yt E t x h = some a) (ats : Array TypeId) (hat : ats[0]? = some t) (args : Array Value) (harg : args[0]? = some xv) :
    ∃ v, (Builtin.len_ ats ty args).run E.P w = .ok v w ∧ VR ρ a v := by
  unfold Yt at ha;cases hd : E.desc t with
  | none => simp [hd] at ha
  | some d =>
    cases d with
    | string =>
      cases hx <;> simp only [hd] at ha <;> first | (cases ha; done) | skip
      · simp only [Option.some.injEq] at ha
        subst ha;rename_i s;refine ⟨goInt s.size, by simp [Builtin.len_, hat, harg, hE.run_und hd], ?_⟩
        have : s.data.toList.length = s.size := by simp
        rw [this]; exact .int _ _
      · simp only [Option.some.injEq] at ha
        subst ha;rename_i i;refine ⟨goInt (AP U.V i).size, by simp [Builtin.len_, hat, harg, hE.run_und hd], ?_⟩
        have h1 : (AP U.V i).data.toList.length = (AP U.V i).size := by simp
        have h2 := CE ρ .i64 (.lenS i);have h3 : Ac U.V (.lenS i) = ((AP U.V i).data.toList.length : Nat) := rfl;rw [h3, h1] at h2;exact h2
    | array n e =>
      simp only [hd, Option.some.injEq] at ha;subst ha;refine ⟨goInt n, ?_, .int _ _⟩;cases hx <;> simp [Builtin.len_, hat, harg, hE.run_und hd]
    | slice e =>
      cases hx <;> simp only [hd] at ha <;> first | (cases ha; done) | skip
      all_goals
        simp only [Option.some.injEq] at ha;subst ha
        first
          | exact ⟨_, by simp [Builtin.len_, hat, harg, hE.run_und hd]; rfl, .int _ _⟩
          | (rename_i e' x a n c hdv
             obtain ⟨_, _, _, e1, e2⟩ := hdv.slice_inv;cases e1;have q := CE ρ .i64 (.lenL x);rw [Ak, e2] at q;exact ⟨_, by simp [Builtin.len_, hat, harg, hE.run_und hd]; rfl, q⟩)
          | (rename_i b es n nl cap base hb h0 hc hz hnl
             have q := CE ρ .i64 n;refine ⟨goInt (Ac U.V n).toNat, by simp [Builtin.len_, hat, harg, hE.run_und hd], ?_⟩
             have e : goInt ((Ac U.V n).toNat : Nat) = .int .i64 (Ac U.V n) := by simp [goInt]; omega
             rw [e]; exact q)
          | (rename_i b es n nl a h0 hnl
             have q := CE ρ .i64 n;rw [h0] at q;exact ⟨_, by simp [Builtin.len_, hat, harg, hE.run_und hd]; rfl, q⟩)
    | map k e =>
      cases hx <;> simp only [hd] at ha <;> first | (cases ha; done) | skip
      · simp only [Option.some.injEq] at ha
        subst ha;exact ⟨goInt 0, by simp [Builtin.len_, hat, harg, hE.run_und hd], .int _ _⟩
      · rename_i b base hb
        cases hg : h.blk.get b with
        | none => simp [hg] at ha
        | some y =>
          cases y with
          | map es clock =>
            simp only [hg, Option.some.injEq] at ha;subst ha;obtain ⟨es', e1, e2⟩ := hr.blk b base _ hb hg;have hget := A6 (w := w) E.P e1 (by simp)
            refine ⟨goInt es'.length, by simp [Builtin.len_, hat, harg, hE.run_und hd, hget], ?_⟩
            rw [e2.length]; exact .int _ _
          | dmap kt vt x =>
            simp only [hg, Option.some.injEq] at ha;subst ha;obtain ⟨kks, vks, es', clock, _, _, e1, e2⟩ := hr.blk b base _ hb hg;have hget := A6 (w := w) E.P e1 (by simp)
            refine ⟨goInt es'.length, by simp [Builtin.len_, hat, harg, hE.run_und hd, hget], ?_⟩
            have q := CE ρ .i64 (.lenL x);rw [Ak, ← e2.length] at q;exact q
          | _ => simp [hg] at ha
    | _ => cases hx <;> simp [hd] at ha
end
end Go.AE
namespace Go.AE
variable [U : Unk]
theorem Qz {ρ : Ren} (P : Program) (w : World) (k : IntKind) : ∀ {l : List AV} {l' : List Value} {x : Int} {a : AV}, VL ρ l l' → Hy k x l = some a → ∃ v, (l'.foldlM Builtin.max2 (.int k x)).run P w = .ok v w ∧ VR ρ a v := by
 intro l
 induction l with
 | nil => intro l' x a hl h; rw [hl.nil_inv]; simp only [Hy, Option.some.injEq] at h; subst h; exact ⟨_, by simp, .int _ _⟩
 | cons y r ih =>
  intro l' x a hl h;obtain ⟨v, r', rfl, hv, hr⟩ := hl.cons_inv;cases hv <;> simp only [Hy] at h <;> first | (cases h; done) | skip
  obtain ⟨u, q1, q2⟩ := ih hr h;exact ⟨u, by simp only [List.foldlM_cons, Builtin.max2, Sem.run_bind, Sem.run_pure, Result.andThen_ok]; exact q1, q2⟩
theorem PN {ρ : Ren} (P : Program) (w : World) (k : IntKind) : ∀ {l : List AV} {l' : List Value} {x : Int} {a : AV}, VL ρ l l' → H0 k x l = some a → ∃ v, (l'.foldlM Builtin.min2 (.int k x)).run P w = .ok v w ∧ VR ρ a v := by
 intro l
 induction l with
 | nil => intro l' x a hl h; rw [hl.nil_inv]; simp only [H0, Option.some.injEq] at h; subst h; exact ⟨_, by simp, .int _ _⟩
 | cons y r ih =>
  intro l' x a hl h;obtain ⟨v, r', rfl, hv, hr⟩ := hl.cons_inv;cases hv <;> simp only [H0] at h <;> first | (cases h; done) | skip
  obtain ⟨u, q1, q2⟩ := ih hr h;exact ⟨u, by simp only [List.foldlM_cons, Builtin.min2, Sem.run_bind, Sem.run_pure, Result.andThen_ok]; exact q1, q2⟩
theorem P5 (ns : List Int) : ∀ (s : ByteArray), (ns.foldl (fun r n => r.push (UInt8.ofNat n.toNat)) s).data.toList = s.data.toList ++ ns.map fun n => UInt8.ofNat n.toNat := by
 induction ns with
 | nil => intro s; simp
 | cons n ns ih => intro s; simp only [List.foldl_cons, ih, List.map_cons]; simp [ByteArray.push]
theorem IP {α : Type} (a : Array α) (x : α) (f : α → α) : (a.push x).modify a.size f = a.push (f x) := by
 apply Array.ext_getElem?;intro i;simp only [Array.getElem?_modify, Array.getElem?_push];by_cases h : i = a.size
 ·subst h; simp
 ·rw [if_neg (fun e => h e.symm), if_neg h, if_neg h]
section
variable {E : Env} (hE : OK E) {ρ : Ren} {h : Aa} {w : World}
include hE
theorem NO (hr : HR ρ h.blk.get w) {s d : TypeId} {x a : AV} {xv : Value} {h' : Aa} (hx : VR ρ x xv) (ha : QQ E s d x h = some (a, h')) (hf : Bh ρ h.nx h'.nx) :
  A3 E ρ h h' w (convert s d xv) a := by
 unfold QQ at ha;cases hs : E.desc s with
 | none => rw [hs] at ha; cases ha
 | some sd =>
  cases hd : E.desc d with
  | none => rw [hs, hd] at ha; cases sd <;> cases ha
  | some dd =>
   rw [hs, hd] at ha;have us := hE.run_und hs w;have ud := hE.run_und hd w;cases hx with
   | int k n =>
    cases dd <;> first | (cases ha; done) | (cases sd <;> (cases ha; done)) | skip
    simp only [Option.some.injEq, Prod.mk.injEq] at ha;obtain ⟨rfl, rfl⟩ := ha;exact AM hr ⟨_, by simp [convert, us, ud, Conv.intToInt], .int _ _⟩
   | si k e =>
    cases dd <;> first | (cases ha; done) | (cases sd <;> (cases ha; done)) | skip
    simp only [Option.some.injEq, Prod.mk.injEq] at ha;obtain ⟨rfl, rfl⟩ := ha;exact AM hr ⟨_, by simp [convert, us, ud, Conv.intToInt, KR], CE ρ _ (.conv _ e)⟩
   | ss i =>
    cases dd <;> first | (cases ha; done) | (cases sd <;> (cases ha; done)) | skip
    simp only [Option.some.injEq, Prod.mk.injEq] at ha;obtain ⟨rfl, rfl⟩ := ha;refine AM hr ⟨.string (AP U.V i), ?_, .ss i⟩;cases sd <;> simp [convert, us, ud]
   | str t =>
    cases dd <;> first | (cases ha; done) | (cases sd <;> (cases ha; done)) | skip
    ·simp only [Option.some.injEq, Prod.mk.injEq] at ha;obtain ⟨rfl, rfl⟩ := ha;refine AM hr ⟨.string t, ?_, .str t⟩;cases sd <;> simp [convert, us, ud]
    ·rename_i e;simp only [] at ha;cases he : E.desc e with
     | none => rw [he] at ha; cases ha
     | some ed =>
      have ue := hE.run_und he w;rw [he] at ha;cases ed <;> first | (cases ha; done) | skip
      rename_i k;cases k <;> first | (cases ha; done) | skip
      simp only [Option.some.injEq, Prod.mk.injEq] at ha;obtain ⟨rfl, rfl⟩ := ha;have hfree : ρ h.nx = none := hf h.nx (Nat.le_refl _) (by simp [Aa.new])
      generalize hcap : grownCap w t.size 0 e = cap;have hge : t.size ≤ cap := by rw [← hcap]; exact grownCap_ge w _ _ _
      generalize harr : (t.data.map (fun b => Value.int .u8 b.toNat) ++ Array.replicate (cap - t.size) (.int .u8 0)) = arr
      have hasz : arr.size = cap := by rw [← harr]; simp; omega
      have hr1 : HR ρ h.blk.get { w with drawn := w.drawn + 1 } := hr.same rfl
      obtain ⟨p1, p2⟩ := hr1.new hfree (.cells t.data.toList.length (.ofList (Gc t.data.toList.length (AC t.data.toList)))) (.cells arr e (arr.size, arr.size + 1)) arr.size (by
       refine ⟨arr, e, _, rfl, rfl, ?_, .inr (Nat.le_refl _), ?_⟩
       ·show 0 + _ ≤ arr.size;simp; omega
       ·intro i a hi ha;rw [T.get_ofList, Fk] at ha;obtain ⟨v, hv, hvr⟩ := (Ok (ρ.upd h.nx ⟨w.heap.size, 0, arr.size⟩) t.data.toList).get ha;refine ⟨v, ?_, hvr⟩;rw [← harr];have hi' : i < t.size := by simpa using hi
        simp only [Nat.zero_add];rw [Array.getElem?_append_left (by simpa using hi')]
        simpa using hv) { w with drawn := w.drawn + 1, heap := w.heap.push (.cells arr e (arr.size, arr.size + 1)) } rfl rfl rfl rfl
      refine ⟨_, .slice (some ⟨w.heap.size, 0, none⟩) t.size cap, _, ?_, ?_, p1, p2.drawn rfl rfl rfl rfl⟩
      ·have hch : (choose (.appendCap t.size 0 e)).run E.P w = .ok cap { w with drawn := w.drawn + 1 } := by rw [← hcap]; simp [Question.forced, grownCap]
       have hconv : (convert s d (.string t)).run E.P w = (Conv.stringToBytes e t).run E.P w := by
        cases sd <;> simp [convert, us, ud, ue]
       rw [hconv];simp only [Conv.stringToBytes, Sem.run_bind, hch, Result.andThen_ok, newRow, run_newObj, Sem.run_pure, harr];simp only [markStringish, Sem.run_bind, run_shape, Result.andThen_ok];have hsh : ({ w with drawn := w.drawn + 1, heap := w.heap.push (.cells arr e) } : World).shape? w.heap.size = some (e, arr.size) := by simp [World.shape?]
       rw [hsh];simp only [run_freeze, Result.andThen_ok]
       have hfz : ({ w with drawn := w.drawn + 1, heap := w.heap.push (.cells arr e) } : World).freeze ⟨w.heap.size, arr.size, none⟩ 1 = { w with drawn := w.drawn + 1, heap := w.heap.push (.cells arr e (arr.size, arr.size + 1)) } := by
        simp [World.freeze, IP]
       rw [hfz]
      ·have hsz : t.size = t.data.toList.length := by simp
       rw [hsz] at hge ⊢;exact VR.slice h.nx 0 _ 1 cap _ (Ren.upd_same _ _ _) hge (by simp [hasz])
   | slice0 => cases dd <;> cases sd <;> cases ha
   | slice b off len es cap base hb hcap hz => cases dd <;> cases sd <;> cases ha
   | _ => cases dd <;> first | (cases ha; done) | (cases sd <;> (cases ha; done))
end
end Go.AE
namespace Go.AE
variable [U : Unk]
section
variable {E : Env} (hE : OK E) {ρ : Ren} {h : Aa} {w : World}
include hE
theorem Po {x a : AV} {xv : Value} {xt t : TypeId} {ok : Bool} (hx : VR ρ x xv) (ha : ND E x t ok = some a) :
  ∃ v, (Instr.typeAssert xv xt t ok).run E.P w = .ok v w ∧ VR ρ a v := by unfold ND at ha; cases ha
theorem SV (hr : HR ρ h.blk.get w) {t : TypeId} {x a : AV} {xv : Value} {h' : Aa} (hx : VR ρ x xv) (ha : PA E t x h = some (a, h')) (hf : Bh ρ h.nx h'.nx) :
  A3 E ρ h h' w (Instr.range t xv) a := by
 unfold PA at ha;cases hd : E.desc t with
 | none => rw [hd] at ha; cases ha
 | some d =>
  rw [hd] at ha;have hu := hE.run_und hd w;cases d <;> first | (cases ha; done) | skip
  rename_i kt et
  ·cases hx <;> first | (cases ha; done) | skip
   ·simp only [Option.some.injEq, Prod.mk.injEq] at ha;obtain ⟨rfl, rfl⟩ := ha;have hfree : ρ h.nx = none := hf h.nx (Nat.le_refl _) (by simp [Aa.new])
    obtain ⟨p1, p2⟩ := hr.new hfree (.mapIter none 0 [] 0) (.mapIter none 0 #[] 0) 0 ⟨rfl, rfl⟩ { w with heap := w.heap.push (.mapIter none 0 #[] 0) } rfl rfl rfl rfl
    refine ⟨_, .pointer (some ⟨w.heap.size, 0, none⟩), _, by simp [Instr.range, hu], ?_, p1, p2⟩
    exact .ptr h.nx 0 _ (Ren.upd_same _ _ _)
   ·rename_i b base hb;simp only [] at ha;cases hg : h.blk.get b with
    | none => simp [hg] at ha
    | some y =>
     cases y with
     | map es clock =>
      simp only [hg, Option.some.injEq, Prod.mk.injEq] at ha;obtain ⟨rfl, rfl⟩ := ha;obtain ⟨es', e1, e2⟩ := hr.blk b base _ hb hg;have hget := A6 (w := w) E.P e1 (by simp)
      have hfree : ρ h.nx = none := hf h.nx (Nat.le_refl _) (by simp [Aa.new])
      obtain ⟨p1, p2⟩ := hr.new hfree (.mapIter (some b) clock [] clock) (.mapIter (some base.cb) clock #[] clock) 0 ⟨rfl, base, (Ren.le_upd hfree _).m _ _ hb, rfl⟩ { w with heap := w.heap.push (.mapIter (some base.cb) clock #[] clock) } rfl rfl rfl rfl
      refine ⟨_, .pointer (some ⟨w.heap.size, 0, none⟩), _, by simp [Instr.range, hu, hget], ?_, p1, p2⟩
      exact .ptr h.nx 0 _ (Ren.upd_same _ _ _)
     | _ => simp [hg] at ha
end
end Go.AE
namespace Go.AE
variable [U : Unk]
section
variable {E : Env} (hE : OK E) {ρ : Ren} {h : Aa} {w : World}
theorem Ur (hr : HR ρ h.blk.get w) {it a : AV} {iv : Value} {isS : Bool} {ty : TypeId} {h' : Aa} (hi : VR ρ it iv) (ha : Uh it isS h = some (a, h')) :
  A3 E ρ h h' w (Instr.next iv isS ty) a := by unfold Uh at ha; cases ha
theorem Lz (hr : HR ρ h.blk.get w) {it a : AV} {iv : Value} (hi : VR ρ it iv) (ha : GU it h = some a) :
  ∃ v, (Instr.entry iv).run E.P w = .ok v w ∧ VR ρ a v := by unfold GU at ha; cases ha
theorem JC {nt : Nat} {tmps : T AV} {tm : Array Value} (ht : TR ρ nt tmps tm) (o : Operand) : VR ρ (Ah tmps o) (match o with
  | .tmp t => tm.getD t Go.undef
  | .const v => v
  | .global g => .pointer (some ⟨g, 0, none⟩)
  | .func f => .func (.func f) #[] #[]) := by
 cases o with
 | tmp t =>
  simp only [Ah];cases hg : tmps.get t with
  | none => exact .top _
  | some a => exact ht.get t a hg
 | const v =>
  simp only [Ah];cases hv : ofValue v with
  | none => exact .top v
  | some a => exact A5 ρ hv
 | global g => exact .top _
 | func f => exact .func _ _ [] [] [] [] rfl rfl (by simp) rfl (by simp)
def EvR (ρ : Ren) (tmps : T AV) (ev : Operand → Value) : Prop := ∀ o, VR ρ (Ah tmps o) (ev o)
theorem EvR.list {tmps : T AV} {ev : Operand → Value} (hev : EvR ρ tmps ev) : ∀ (l : List Operand), VL ρ (l.map (Ah tmps)) (l.map ev)
 | [] => VL.nil ρ
 | o :: l => VL.cons (hev o) (EvR.list hev l)
theorem EvR.parts {tmps : T AV} {ev : Operand → Value} (hev : EvR ρ tmps ev) : ∀ (l : List (Nat × Operand)), PL ρ (l.map fun (i, x) => (i, Ah tmps x)) (l.map fun (i, x) => (i, ev x))
 | [] => trivial
 | (i, x) :: l => ⟨rfl, hev x, EvR.parts hev l⟩
end
end Go.AE
namespace Go.AE
variable [U : Unk]
def ET (E : Env) (ρ : Ren) (h : Aa) (w : World) (s : Sem Next) : Res → Prop
 | .val v h' => Bh ρ h.nx h'.nx → ∃ σ v' w', (s.run E.P w = .ok (.value v') w' ∨ (s.run E.P w = .ok .skip w' ∧ v' = Go.undef)) ∧ VR σ v v' ∧ HR σ h'.blk.get w' ∧ Ext ρ σ h h' w w'
 | .enter f args h' => h' = h ∧ ∃ args' : List Value, VL ρ args args' ∧ s.run E.P w = .ok (.enter f args'.toArray) w
 | .round l args h' => h' = h ∧ ∃ base, ∃ args' : List Value, ρ l = some base ∧ VL ρ args args' ∧ s.run E.P w = (Instr.yield base.cb args'.toArray).run E.P w
 | .defer d h' => h' = h ∧ ∃ d', DR ρ d d' ∧ s.run E.P w = .ok (.defer d') w
 | .recover h' => h' = h ∧ s.run E.P w = .ok .recover w
 | .panic v h' => h' = h ∧ ∃ v', VR ρ v v' ∧ s.run E.P w = .halt (.panic v') w
 | .bad _ => True
section
variable {E : Env} (hE : OK E) {ρ : Ren} {h : Aa} {w : World}
theorem By {s : Sem Value} {why : String} {o : Option (AV × Aa)} (ho : ∀ a h', o = some (a, h') → Bh ρ h.nx h'.nx → A3 E ρ h h' w s a) :
  ET E ρ h w (do pure (.value (← s))) (Ew why o) := by
 cases o with
 | none => trivial
 | some p =>
  obtain ⟨a, h'⟩ := p;intro hf;obtain ⟨σ, v, w', q1, q2, q3, q4⟩ := ho a h' rfl hf;exact ⟨σ, v, w', .inl (by simp [q1]), q2, q3, q4⟩
theorem Ba (hr : HR ρ h.blk.get w) {s : Sem Value} {why : String} {o : Option AV} (ho : ∀ a, o = some a → ∃ v, s.run E.P w = .ok v w ∧ VR ρ a v) :
  ET E ρ h w (do pure (.value (← s))) (DF h why o) := by
 cases o with
 | none => trivial
 | some a =>
  intro hf;obtain ⟨v, q1, q2⟩ := ho a rfl;exact ⟨ρ, v, w, .inl (by simp [q1]), q2, hr, Ext.refl ρ h w⟩
theorem Ia {s : Sem Unit} {why : String} {o : Option Aa} (ho : ∀ h', o = some h' → ∃ w', s.run E.P w = .ok () w' ∧ HR ρ h'.blk.get w' ∧ Ext ρ ρ h h' w w') :
  ET E ρ h w (do s; pure .skip) (E8 why o) := by
 cases o with
 | none => trivial
 | some h' =>
  intro hf;obtain ⟨w', q1, q2, q3⟩ := ho h' rfl;exact ⟨ρ, Go.undef, w', .inr ⟨by simp [q1], rfl⟩, VR.undef ρ, q2, q3⟩
include hE
theorem PO (hr : HR ρ h.blk.get w) {f : FuncId} {fn : Func} (hfn : E.fn.get f = some fn) (hb : fn.body = none) {args : List AV} {args' : List Value} (ha : VL ρ args args') :
  ET E ρ h w (callFunc f args'.toArray) (QU fn.name args h) := trivial
theorem T9 (hr : HR ρ h.blk.get w) {f : FuncId} {args : List AV} {args' : List Value} (ha : VL ρ args args') : ET E ρ h w (callFunc f args'.toArray) (Uc E f args h) := by
 unfold Uc;cases hf : E.fn.get f with
 | none => trivial
 | some fn =>
  cases hb : fn.body with
  | none => simp only []; rw [hb]; exact PO hE hr hf hb ha
  | some c =>
   simp only [];rw [hb];refine ⟨rfl, args', ha, ?_⟩;simp only [callFunc, Sem.run_bind, run_program, Result.andThen_ok, hE.fn f fn hf, hE.num f fn hf, hb, Option.isNone_some, Bool.false_eq_true, if_false, Sem.run_pure]
theorem D6 (hr : HR ρ h.blk.get w) {fn fn' : Fn} {captured args : List AV} {captured' args' : List Value} (hfn : FnR ρ fn fn') (hc : VL ρ captured captured') (ha : VL ρ args args') :
  ET E ρ h w (invoke (.fn fn' captured'.toArray) args'.toArray) (El E fn captured args h) := by
 cases fn with
 | func f =>
  simp only [FnR] at hfn;subst hfn;simp only [El, invoke];have := T9 (w := w) hE hr (f := f) (ha.append hc);simpa using this
 | yield l =>
  obtain ⟨base, hb, rfl⟩ := hfn;simp only [El];exact ⟨rfl, base, args', hb, ha, rfl⟩
 | methodOf t name => trivial
 | via t path f ptr => trivial
 | method name => trivial
end
end Go.AE
namespace Go.AE
variable [U : Unk]
theorem HS {e : SB} (h : Kp e = true) : Ad U.V e = true := by
 unfold Kp at h;split at h
 ·rename_i hd; exact Az U.ok hd
 ·cases h
theorem H9 {e : SB} (h : QI e = true) : Ad U.V e = false := by
 unfold QI at h;split at h
 ·rename_i hd; exact Az U.ok hd
 ·cases h
theorem KG {i n : SE} (h : inR i n = true) : 0 ≤ Ac U.V i ∧ Ac U.V i < Ac U.V n := by
 unfold inR at h;obtain ⟨h1, h2⟩ := Av h;have a := H9 h1;have b := HS h2;rw [Ay, decide_eq_false_iff_not, BD] at a;rw [Ay, decide_eq_true_eq] at b;omega
theorem Is {ρ : Ren} {x i : SE} {j : Nat} {kd : Kd} {v : Value} (h : DV U.K ρ.imm kd v (Ab U.V (.cell x i j))) : VR ρ (Ik x i j kd) v := by
 cases h with
 | int k n _ hr e =>
  have e : Ac U.V (.cell x i j) = n := e;simp only [Ik];split
  ·have := CE ρ k (.cell x i j);rw [e] at this; exact this
  ·rename_i hk;have hb := hr.resolve_left (by simpa using hk)
   have := CE ρ k (.conv k (.cell x i j));rw [KR, e, FG k n hb.1 hb.2] at this;exact this
 | bool b _ e =>
  have := Hg ρ true (.cell x i j);have e : (Ad U.V (.cell x i j) == true) = b := by unfold Ad; rw [e]; cases b <;> rfl
  rw [e] at this; exact this
 | str s _ e =>
  have := VR.ss (ρ := ρ) (.cell x i j);have e : AP U.V (.cell x i j) = s := e;rw [e] at this; exact this
 | nil e _ h1 h2 => exact .dat e _ _ _ _ (.nil e _ h1 h2)
 | empty e a cap _ h1 h2 => exact .dat e _ _ _ _ (.empty e a cap _ h1 h2)
 | slc e b off n cap _ ks arr hk ha hn hc h1 hin hrow hv => exact .dat e _ _ _ _ (.slc e b off n cap _ ks arr hk ha hn hc h1 hin hrow hv)
omit U in
theorem kinds_size {E : Env} {ar : Bool} {n : Nat} {t : TypeId} {ks : List Kd} (h : DD ar E.desc E.szIs n t = some ks) : E.szIs t ks.length = true ∧ ∃ m, n = m + 1 ∧ Ig ar E.szIs (DD ar E.desc E.szIs m) (E.desc t) = some ks := by
 cases n with
 | zero => cases h
 | succ m =>
  simp only [DD] at h;split at h
  ·rename_i l hl;split at h
   ·rename_i hs; cases h; exact ⟨hs, m, rfl, hl⟩
   ·cases h
  ·cases h
omit U in
theorem Env.kinds_size {E : Env} {t : TypeId} {ks : List Kd} (h : E.kinds t = some ks) : E.szIs t ks.length = true := (AE.kinds_size h).1
omit U in
theorem DV.at {K : TypeId → Option (List Kd)} {M : Nat → Option (Array Value)} {e : TypeId} {a : Option Addr} {n cap : Nat} {d : D} (h : DV K M (.slice e) (.slice a n cap) d) (hn : 0 < n) : ∃ b o, a = some ⟨b, o, none⟩ ∧ n ≤ cap := by
 cases h
 ·omega
 ·omega
 ·exact ⟨_, _, rfl, by assumption⟩
omit U in
theorem DV.row {K : TypeId → Option (List Kd)} {M : Nat → Option (Array Value)} {e : TypeId} {b o n cap i : Nat} {d : D} {ks : List Kd} (h : DV K M (.slice e) (.slice (some ⟨b, o, none⟩) n cap) d) (hk : K e = some ks) (hi : i < n) :
  ∃ arr, M b = some arr ∧ o + n * ks.length ≤ arr.size ∧ d.rows.length = n ∧ ∀ j kd, ks[j]? = some kd → DV K M kd (arr.getD (o + i * ks.length + j) Go.undef) ((d.rows.getD i default).cells.getD j default) := by
 cases h with
 | empty => omega
 | slc _ _ _ _ _ _ ks' arr hk' ha hn hc h1 hin hrow hv =>
  rw [hk] at hk'; cases hk';exact ⟨arr, ha, hin, hn, fun j kd hj => hv i j kd hi hj⟩
omit U in
theorem Bl.row {K : TypeId → Option (List Kd)} {M : Nat → Option (Array Value)} {ks : List Kd} {cur : Array Value} {o i : Nat} {rows : List D} (h : Bl K M ks cur o rows) (hi : i < rows.length) :
  o + rows.length * ks.length ≤ cur.size ∧ ∀ j kd, ks[j]? = some kd → DV K M kd (cur.getD (o + i * ks.length + j) Go.undef) ((rows.getD i default).cells.getD j default) :=
 ⟨h.1, fun j kd hj => h.2.2 i j kd hi hj⟩
section
variable {E : Env} (hE : OK E) {ρ : Ren} {h : Aa} {w : World}
include hE
omit hE in
theorem Hf {ks : List Kd} {y i : SE} {arr : Array Value} {p : Nat} (hv : ∀ j kd, ks[j]? = some kd → DV U.K ρ.imm kd (arr.getD (p + j) Go.undef) (Ab U.V (.cell y i j))) :
  ∀ (n j : Nat) (l : List AV), Gg y i ks j n = some l → (n = 0 ∨ j + n ≤ ks.length) ∧ l.length = n ∧ ∀ q a, l[q]? = some a → VR ρ a (arr.getD (p + j + q) Go.undef)
 | 0, j, l, hl => by
  simp only [Gg, Option.some.injEq] at hl;subst hl;exact ⟨.inl rfl, rfl, fun q a hq => by simp at hq⟩
 | n + 1, j, l, hl => by
  simp only [Gg] at hl;split at hl
  ·rename_i k l' hk hl';cases hl;obtain ⟨h1, h2, h3⟩ := Hf hv n (j + 1) l' hl';have hjl : j < ks.length := (List.getElem?_eq_some_iff.1 hk).1;refine ⟨.inr (by omega), by simp [h2], fun q a hq => ?_⟩
   cases q with
   | zero =>
    simp only [List.getElem?_cons_zero, Option.some.injEq] at hq;subst hq;exact Is (hv j k hk)
   | succ q =>
    simp only [List.getElem?_cons_succ] at hq;have := h3 q a hq;rw [show p + j + (q + 1) = p + (j + 1) + q by omega]
    exact this
  ·cases hl
theorem Lg {t e : TypeId} {ks : List Kd} {y i : SE} {off b p : Nat} {fz : Nat × Nat} {arr : Array Value} {a : AV} (hb : w.heap[b]? = some (.cells arr e fz)) (hsz : p + ks.length ≤ arr.size)
  (hv : ∀ j kd, ks[j]? = some kd → DV U.K ρ.imm kd (arr.getD (p + j) Go.undef) (Ab U.V (.cell y i j))) (hl : JI E t ks y i off = some a) :
  ∃ v, (Instr.loadAt t (.pointer (some ⟨b, p + off, none⟩))).run E.P w = .ok v w ∧ VR ρ a v := by
 unfold JI at hl;split at hl
 ·rename_i d hd;unfold Instr.loadAt loadVar;simp only [Instr.sureAddr, Sem.run_bind, Sem.run_pure, Result.andThen_ok, hE.run_isAgg hd];split at hl
  ·rename_i hag;split at hl
   ·rename_i l hc;cases hl;obtain ⟨h1, h2, h3⟩ := Hf hv _ _ _ hc;simp only [hag, if_true, Sem.run_bind, hE.run_size hd, Result.andThen_ok];by_cases hz : E.size t = 0
    ·rw [hz];refine ⟨.agg #[], by simp [loadCells, loadCellsFrom], ?_⟩
     have : l = [] := by rw [hz] at h2; exact List.eq_nil_of_length_eq_zero h2
     subst this;exact .agg [] [] rfl (by simp)
    ·have hle : off + E.size t ≤ ks.length := h1.resolve_left hz;rw [AH E.P w b (p + off) (E.size t) arr e fz hb (by omega)]
     simp only [Result.andThen_ok, Sem.run_pure];refine ⟨_, rfl, .agg _ _ (by simp; omega) ?_⟩
     intro q x v hq hqv;have hql : q < E.size t := by have := (List.getElem?_eq_some_iff.1 hq).1; omega
     have := h3 q x hq;rw [List.getElem?_take, if_pos hql, List.getElem?_drop, Array.getElem?_toList] at hqv;have ev : arr.getD (p + off + q) Go.undef = v := by simp [Array.getD_eq_getD_getElem?, hqv]
     rw [ev] at this; exact this
   ·cases hl
  ·rename_i hag;split at hl
   ·rename_i k hk;cases hl;have hkl : off < ks.length := (List.getElem?_eq_some_iff.1 hk).1;have hlt : p + off < arr.size := by omega
    have hc : w.cell? ⟨b, p + off, none⟩ = some (arr.getD (p + off) Go.undef) := by
     simp [World.cell?, hb, Array.getD_eq_getD_getElem?, hlt]
    simp only [hag, Bool.false_eq_true, if_false, run_load, hc];exact ⟨_, rfl, Is (hv off k hk)⟩
   ·cases hl
 ·cases hl
theorem Te (hr : HR ρ h.blk.get w) {t : TypeId} {x a : AV} {xv : Value} (hx : VR ρ x xv) (hl : Tv E t x h = some a) :
  ∃ v, (Instr.loadAt t xv).run E.P w = .ok v w ∧ VR ρ a v := by
 unfold Tv at hl;split at hl
 ·rename_i e y i off;split at hl
  ·rename_i ks hk;cases hx with
   | dptr _ _ _ _ b o n cap ks' hd hk' h0 hi ho =>
    have hk2 : U.K e = some ks := by rw [hE.kd, ← hE.ke]; exact hk
    rw [hk2] at hk'; cases hk';obtain ⟨arr, a1, a2, a3, a4⟩ := hd.row hk2 hi;obtain ⟨et, fz, hw⟩ := hr.imm b arr a1;have hle : ((Ac U.V i).toNat + 1) * ks.length ≤ n * ks.length := Nat.mul_le_mul_right _ hi;rw [Nat.add_mul, Nat.one_mul] at hle;exact Lg hE (p := o + (Ac U.V i).toNat * ks.length) hw (by omega) a4 hl
  ·cases hl
 ·rename_i b es i off;split at hl
  ·rename_i e y hb;split at hl
   ·rename_i ks hk;split at hl
    ·rename_i hc;obtain ⟨c1, c2⟩ := Av hc;have hes := AA c1;subst hes;obtain ⟨r0, r1⟩ := KG c2
     try rw [Ak, Dj, ← Ak] at r1
     rw [Ak] at r1;cases hx with
     | aptr _ _ _ _ base hρ h0 =>
      obtain ⟨ks', cur, et, fz, b1, b2, b3, b4, b5⟩ := hr.blk b base _ hρ hb;have hk2 : U.K e = some ks := by rw [hE.kd, ← hE.ke]; exact hk
      rw [hk2] at b1; cases b1;have hi : (Ac U.V i).toNat < (Ab U.V y).rows.length := by omega
      obtain ⟨a2, a4⟩ := b5.row hi;have hle : ((Ac U.V i).toNat + 1) * ks.length ≤ (Ab U.V y).rows.length * ks.length := Nat.mul_le_mul_right _ hi;rw [Nat.add_mul, Nat.one_mul] at hle;exact Lg hE (p := base.co + (Ac U.V i).toNat * ks.length) b2 (by omega) a4 hl
    ·cases hl
   ·cases hl
  ·cases hl
 ·exact OZ hE hr hx hl
theorem Ls {t : TypeId} {x i a : AV} {xv iv : Value} (hx : VR ρ x xv) (hi : VR ρ i iv) (hl : GP E t x i = some a) :
  ∃ v, (Instr.indexAt t xv iv).run E.P w = .ok v w ∧ VR ρ a v := by
 unfold GP at hl;split at hl
 ·rename_i e' y;split at hl
  ·rename_i e k ie hd hti;split at hl
   ·rename_i k0 kr hk;split at hl
    ·rename_i hc;cases hl;obtain ⟨c1, c2⟩ := Av hc;have he := AA c1;subst he;obtain ⟨r0, r1⟩ := KG c2
     try rw [Ak, Dj, ← Ak] at r1
     rw [Ak] at r1;have hiv := Cy hi hti;subst hiv;have hk2 : U.K e = some (k0 :: kr) := by rw [hE.kd, ← hE.ke]; exact hk
     cases hx with
     | dat _ _ ad n cap hdv =>
      obtain ⟨_, _, _, q1, q2⟩ := hdv.slice_inv;cases q1;rw [q2] at r1;obtain ⟨b, o, rfl, hcap⟩ := hdv.at (by omega)
      refine ⟨.pointer (some ⟨b, o + (Ac U.V ie).toNat * (k0 :: kr).length + 0, none⟩), ?_, .dptr e y ie 0 b o n cap _ hdv hk2 r0 (by omega) (by simp)⟩
      have hlt : 0 ≤ Ac U.V ie ∧ Ac U.V ie < n := by omega
      simp [Instr.indexAt, asIntOf, hE.run_und hd, hE.run_szIs (Env.kinds_size hk), hlt, BY]
    ·cases hl
   ·cases hl
  ·cases hl
 ·rename_i b es n nl;split at hl
  ·rename_i e k ie hd hti;split at hl
   ·rename_i hc;cases hl;obtain ⟨c1, c2⟩ := Av hc;obtain ⟨r0, r1⟩ := KG c2
    try rw [Ak, Dj, ← Ak] at r1
    have hiv := Cy hi hti;subst hiv;cases hx with
    | asl _ _ _ _ cap base hb h0 hcap hz hnl =>
     refine ⟨.pointer (some ⟨base.cb, base.co + (Ac U.V ie).toNat * es + 0, none⟩), ?_, .aptr b es ie 0 base hb r0⟩;have hlt : 0 ≤ Ac U.V ie ∧ Ac U.V ie < ((Ac U.V n).toNat : Int) := by omega
     generalize (Ac U.V n).toNat = N at hlt;simp [Instr.indexAt, asIntOf, hE.run_und hd, hE.run_szIs c1, hlt, BY]
    | aslEnd _ _ _ _ ad h0 hnl => omega
   ·cases hl
  ·cases hl
 ·rename_i b es i0 off;split at hl
  ·rename_i len e n hd hn;split at hl
   ·rename_i hc;cases hl;obtain ⟨c1, c2⟩ := Av hc;obtain ⟨k, rfl⟩ := Cd (Hv hi) hn;have hlt := Kj c1;cases hx with
    | aptr _ _ _ _ base hb h0 =>
     have := VR.aptr (ρ := ρ) b es i0 (off + n * E.size e) base hb h0;rw [← Nat.add_assoc] at this;refine ⟨_, ?_, this⟩;simp [Instr.indexAt, asIntOf, hE.run_und hd, hE.run_has c2, Instr.sureAddr, hlt, BY]
   ·cases hl
  ·cases hl
 ·rename_i e' y i0 off;split at hl
  ·rename_i len e n ks hd hn hk;split at hl
   ·rename_i hc;cases hl;obtain ⟨c0, c3⟩ := Av hc;obtain ⟨c1, c2⟩ := Av c0;obtain ⟨k, rfl⟩ := Cd (Hv hi) hn;have hlt := Kj c1;cases hx with
    | dptr _ _ _ _ b o n' cap ks' hdv hk' h0 hi' ho =>
     have hk2 : U.K e' = some ks := by rw [hE.kd, ← hE.ke]; exact hk
     rw [hk2] at hk'; cases hk';have := VR.dptr (ρ := ρ) e' y i0 (off + n * E.size e) b o n' cap ks hdv hk2 h0 hi' (Kj c3);rw [← Nat.add_assoc] at this;refine ⟨_, ?_, this⟩;simp [Instr.indexAt, asIntOf, hE.run_und hd, hE.run_has c2, Instr.sureAddr, hlt, BY]
   ·cases hl
  ·cases hl
 ·exact Lr hE hx (Hv hi) hl
theorem IM {t : TypeId} {fs : Array Field} {f : Nat} {fd : Field} (hd : E.desc t = some (.struct fs)) (hf : fs.toList[f]? = some fd) {n : Nat} (hs : E.size fd.type = n + 1) (b o : Nat) :
  (Instr.fieldAt t (.pointer (some ⟨b, o, none⟩)) f).run E.P w = .ok (.pointer (some ⟨b, o + fd.offset, none⟩)) w := by
 have hf' : fs[f]? = some fd := by simpa using hf
 have hsz : ∀ w, (sizeOf fd.type).run E.P w = .ok (n + 1) w := by
  intro w;unfold Env.size at hs;cases hi : E.ty.get fd.type with
  | none => simp [hi] at hs
  | some i => simp only [hi] at hs; rw [hE.run_sz hi, hs]
 simp [Instr.fieldAt, hE.run_und hd, hf', Instr.sureAddr, fieldPlace, hsz, BY]
theorem LC {t : TypeId} {x a : AV} {f : Nat} {xv : Value} (hx : VR ρ x xv) (hl : G3 E t x f = some a) :
  ∃ v, (Instr.fieldAt t xv f).run E.P w = .ok v w ∧ VR ρ a v := by
 unfold G3 at hl;split at hl
 ·rename_i e y i off;split at hl
  ·rename_i fs ks hd hk;split at hl
   ·rename_i fd hf;split at hl
    ·rename_i n hs hb;cases hl;cases hx with
     | dptr _ _ _ _ b o n' cap ks' hdv hk' h0 hi ho =>
      have hk2 : U.K e = some ks := by rw [hE.kd, ← hE.ke]; exact hk
      rw [hk2] at hk'; cases hk';have := VR.dptr (ρ := ρ) e y i (off + fd.offset) b o n' cap ks hdv hk2 h0 hi (Kj hb);rw [← Nat.add_assoc] at this;exact ⟨_, IM hE hd hf hs b _, this⟩
    ·cases hl
   ·cases hl
  ·cases hl
 ·rename_i b es i off;split at hl
  ·rename_i fs hd;split at hl
   ·rename_i fd hf;split at hl
    ·cases hl
    ·rename_i n hs;cases hl;cases hx with
     | aptr _ _ _ _ base hb h0 =>
      have := VR.aptr (ρ := ρ) b es i (off + fd.offset) base hb h0;rw [← Nat.add_assoc] at this
      obtain ⟨m, hm⟩ : ∃ m, E.size fd.type = m + 1 := by
       cases hq : E.size fd.type with
       | zero => exact absurd hq hs
       | succ m => exact ⟨m, rfl⟩
      exact ⟨_, IM hE hd hf hm base.cb _, this⟩
   ·cases hl
  ·cases hl
 ·exact Ly hE hx hl
end
end Go.AE
namespace Go.AE
variable [U : Unk]
omit U in
theorem Y3 {a : AV} (h : a.isTop = false) : a ≠ .top := by rintro rfl; cases h
theorem DM : ∀ (l : List UInt8), CZ l.length (AC l) = l
 | [] => rfl
 | b :: r => by
  have h := Gl b r;simp only [List.length_cons, CZ, h.1, h.2, DM r]
  congr 1
  simp
theorem Jq {ρ : Ren} {kd : Kd} {a : AV} {v : Value} {x : SE} (h : VR ρ a v) (hs : Xb kd a = some x) : DV U.K ρ.imm kd v (Ab U.V x) := by
 unfold Xb at hs;split at hs
 ·rename_i k k' n;split at hs
  ·rename_i hc;cases hs;cases h;obtain ⟨c1, c2⟩ := Av hc;have hk : k = k' := by simpa using c1
   subst hk;refine .int k n _ ?_ rfl;simpa using c2
  ·cases hs
 ·rename_i k k' e;split at hs
  ·rename_i hc;cases hs;cases h;obtain ⟨c1, c2⟩ := Av hc;have hk : k = k' := by simpa using c1
   subst hk;refine .int k _ _ ?_ rfl;rcases Bool.or_eq_true_iff.1 c2 with c | c
   ·exact .inl (by simpa using c)
   ·right;have hb := FqQ U.ok x;unfold MS at c;split at c
    ·rename_i l h hl hh;simp only [Bool.and_eq_true, decide_eq_true_eq] at c;have h1 := hb.1 l hl;have h2 := hb.2 h hh;omega
    ·cases c
  ·cases hs
 ·rename_i b;cases hs; cases h;exact .bool b _ rfl
 ·rename_i pos e;cases hs; cases h;refine .bool _ _ ?_;cases pos with
  | true => show (Ab U.V e).toBool = _; unfold Ad; cases (Ab U.V e).toBool <;> rfl
  | false => show (!(Ab U.V e).toBool) = _; unfold Ad; cases (Ab U.V e).toBool <;> rfl
 ·rename_i l b;cases hs; cases h;refine .str _ _ ?_;show (⟨(CZ _ _).toArray⟩ : ByteArray) = _;rw [DM]
 ·cases hs; cases h;exact .str _ _ rfl
 ·rename_i e e' y;split at hs
  ·rename_i hc;cases hs;have := AA hc;subst this;cases h
   assumption
  ·cases hs
 ·cases hs; cases h;exact .nil _ _ rfl rfl
 ·cases hs
omit U in
theorem List.getD_modify (l : List D) (i : Nat) (f : D → D) (q : Nat) (hq : q < l.length) : (l.modify i f).getD q default = if i = q then f (l.getD q default) else l.getD q default := by
 simp only [List.getD_eq_getElem?_getD, List.getElem?_modify];split
 ·rename_i h; subst h; simp [hq]
 ·simp [hq]
theorem Bl.upd {ρ : Ren} {ks : List Kd} {cur cur' : Array Value} {o j : Nat} {y i x : SE} {kd : Kd} {v : Value} (h : Bl U.K ρ.imm ks cur o (Ab U.V y).rows) (hi : (Ac U.V i).toNat < (Ab U.V y).rows.length) (hj : ks[j]? = some kd)
  (hd : DV U.K ρ.imm kd v (Ab U.V x)) (hs : cur'.size = cur.size) (hg : ∀ p, cur'[p]? = if p = o + (Ac U.V i).toNat * ks.length + j then some v else cur[p]?) : Bl U.K ρ.imm ks cur' o (Ab U.V (.upd y i j x)).rows := by
 have er : (Ab U.V (.upd y i j x)).rows = (Ab U.V y).rows.modify (Ac U.V i).toNat fun r => .row (r.cells.set j (Ab U.V x)) := rfl
 have el : (Ab U.V (.upd y i j x)).rows.length = (Ab U.V y).rows.length := by rw [er]; simp
 obtain ⟨h1, h2, h3⟩ := h;have hjl : j < ks.length := (List.getElem?_eq_some_iff.1 hj).1;refine ⟨by rw [el, hs]; exact h1, fun q hq => ?_, fun q c kd' hq hc => ?_⟩
 ·rw [el] at hq;rw [er, List.getD_modify _ _ _ _ hq];split
  ·simp only [D.cells, List.length_set]; exact h2 q hq
  ·exact h2 q hq
 ·rw [el] at hq;have hcl : c < ks.length := (List.getElem?_eq_some_iff.1 hc).1;have hold := h3 q c kd' hq hc;rw [er, List.getD_modify _ _ _ _ hq];by_cases hqi : (Ac U.V i).toNat = q
  ·rw [if_pos hqi];simp only [D.cells];by_cases hcj : c = j
   ·subst hcj;rw [hj] at hc; cases hc;have e1 : cur'.getD (o + q * ks.length + c) Go.undef = v := by simp [Array.getD_eq_getD_getElem?, hg, hqi]
    have e2 : ((((Ab U.V y).rows.getD q default).cells.set c (Ab U.V x)).getD c default) = Ab U.V x := by
     have := h2 q hq;generalize ((Ab U.V y).rows.getD q default).cells = cl at this ⊢;simp [List.getD_eq_getElem?_getD, this, hcl]
    rw [e1];simp only [D.cells] at e2;rw [e2]; exact hd
   ·have e1 : cur'.getD (o + q * ks.length + c) Go.undef = cur.getD (o + q * ks.length + c) Go.undef := by
     simp only [Array.getD_eq_getD_getElem?, hg, hqi];rw [if_neg (by omega)]
    have e2 : ((((Ab U.V y).rows.getD q default).cells.set j (Ab U.V x)).getD c default) = ((Ab U.V y).rows.getD q default).cells.getD c default := by
     simp only [List.getD_eq_getElem?_getD];rw [List.getElem?_set_ne (fun e => hcj e.symm)]
    rw [e1];simp only [D.cells] at e2 hold ⊢;rw [e2]; exact hold
  ·rw [if_neg hqi]
   have e1 : cur'.getD (o + q * ks.length + c) Go.undef = cur.getD (o + q * ks.length + c) Go.undef := by
    simp only [Array.getD_eq_getD_getElem?, hg];rw [if_neg ?_];intro e;have hlt : (Ac U.V i).toNat < q ∨ q < (Ac U.V i).toNat := by omega
    rcases hlt with hlt | hlt
    ·have := Nat.mul_le_mul_right ks.length hlt;rw [Nat.succ_mul] at this;omega
    ·have := Nat.mul_le_mul_right ks.length hlt;rw [Nat.succ_mul] at this;omega
   rw [e1]; exact hold
theorem Mw {ρ : Ren} {ks : List Kd} {o : Nat} {i : SE} : ∀ (l : List AV) (vs : List Value) (j : Nat) (y y' : SE) (cur cur' : Array Value), Bl U.K ρ.imm ks cur o (Ab U.V y).rows → (Ac U.V i).toNat < (Ab U.V y).rows.length → Dm i ks y j l = some y' → VL ρ l vs →
  cur'.size = cur.size → (∀ p, cur'[p]? = if o + (Ac U.V i).toNat * ks.length + j ≤ p ∧ p < o + (Ac U.V i).toNat * ks.length + j + vs.length then vs[p - (o + (Ac U.V i).toNat * ks.length + j)]? else cur[p]?) →
  Bl U.K ρ.imm ks cur' o (Ab U.V y').rows
 | [], vs, j, y, y', cur, cur', h, hi, hu, hv, hs, hg => by
  simp only [Dm, Option.some.injEq] at hu;subst hu;have := hv.nil_inv;subst this
  have : cur' = cur := by
   apply Array.ext_getElem?;intro p;rw [hg, if_neg (by simp)]
  rw [this]; exact h
 | a :: r, vs, j, y, y', cur, cur', h, hi, hu, hv, hs, hg => by
  obtain ⟨v, vr, rfl, ha, hr⟩ := hv.cons_inv;simp only [Dm] at hu;split at hu
  ·rename_i k hk;split at hu
   ·rename_i x hx;have hd := Jq ha hx;have hjl : j < ks.length := (List.getElem?_eq_some_iff.1 hk).1;have hle : ((Ac U.V i).toNat + 1) * ks.length ≤ (Ab U.V y).rows.length * ks.length := Nat.mul_le_mul_right _ hi;rw [Nat.add_mul, Nat.one_mul] at hle;have hin := h.1
    have h1 := h.upd (cur' := cur.setIfInBounds (o + (Ac U.V i).toNat * ks.length + j) v) hi hk hd (by simp) (fun p => by
     rw [Array.getElem?_setIfInBounds];by_cases e : o + (Ac U.V i).toNat * ks.length + j = p
     ·rw [if_pos e, if_pos e.symm, if_pos (by omega)]
     ·rw [if_neg e, if_neg (fun q => e q.symm)])
    have el : (Ab U.V (.upd y i j x)).rows.length = (Ab U.V y).rows.length := by
     have er : (Ab U.V (.upd y i j x)).rows = (Ab U.V y).rows.modify (Ac U.V i).toNat fun r => .row (r.cells.set j (Ab U.V x)) := rfl
     rw [er]; simp
    refine Mw r vr (j + 1) _ y' _ cur' h1 (by rw [el]; exact hi) hu hr (by rw [hs]; simp) (fun p => ?_)
    rw [hg];simp only [List.length_cons];by_cases e : p = o + (Ac U.V i).toNat * ks.length + j
    ·subst e;rw [if_pos (by omega), if_neg (by omega), Array.getElem?_setIfInBounds_self]
     rw [if_pos (by omega)]
     simp
    ·by_cases c : o + (Ac U.V i).toNat * ks.length + j ≤ p ∧ p < o + (Ac U.V i).toNat * ks.length + j + (vr.length + 1)
     ·rw [if_pos c, if_pos (by omega)]
      rw [show p - (o + (Ac U.V i).toNat * ks.length + j) = (p - (o + (Ac U.V i).toNat * ks.length + (j + 1))) + 1 by omega]
      simp
     ·rw [if_neg c, if_neg (by omega), Array.getElem?_setIfInBounds_ne (fun q => e q.symm)]
   ·cases hu
  ·cases hu
section
variable {E : Env} (hE : OK E) {ρ : Ren} {h : Aa} {w : World}
include hE
omit hE in
theorem J0 {i : SE} {ks : List Kd} : ∀ (l : List AV) (j : Nat) (y y' : SE), Dm i ks y j l = some y' → j + l.length ≤ ks.length ∨ l = []
 | [], _, _, _, _ => .inr rfl
 | a :: r, j, y, y', hu => by
  simp only [Dm] at hu;split at hu
  ·rename_i k hk;split at hu
   ·rename_i x hx;have hjl : j < ks.length := (List.getElem?_eq_some_iff.1 hk).1;rcases J0 r (j + 1) _ _ hu with h | h
    ·left; simp only [List.length_cons]; omega
    ·left; subst h; simp; omega
   ·cases hu
  ·cases hu
omit hE in
theorem FH {i : SE} {ks : List Kd} : ∀ (l : List AV) (vs : List Value) (j : Nat) (y y' : SE), Dm i ks y j l = some y' → VL ρ l vs → ∀ v ∈ vs, v.oneCell' = true
 | [], vs, _, _, _, _, hv, v, hm => by have := hv.nil_inv; subst this; cases hm
 | a :: r, vs, j, y, y', hu, hv, v, hm => by
  obtain ⟨v0, vr, rfl, ha, hr⟩ := hv.cons_inv;simp only [Dm] at hu;split at hu
  ·rename_i k hk;split at hu
   ·rename_i x hx;rcases List.mem_cons.1 hm with rfl | hm
    ·have := Jq ha hx;cases this <;> rfl
    ·exact FH r vr (j + 1) _ _ hu hr v hm
   ·cases hu
  ·cases hu
theorem IB (hr : HR ρ h.blk.get w) {t : TypeId} {x a : AV} {xv v : Value} {h' : Aa} (hx : VR ρ x xv) (ha : VR ρ a v) (hl : DC E t x a h = some h') :
  ∃ w', (Instr.storeAt t xv v).run E.P w = .ok () w' ∧ HR ρ h'.blk.get w' ∧ Ext ρ ρ h h' w w' := by
 unfold DC at hl;split at hl
 ·rename_i b es i off;split at hl
  ·rename_i e y hb;split at hl
   ·rename_i ks hk;split at hl
    ·rename_i hc;split at hl
     ·rename_i y' hu;cases hl;obtain ⟨c123, c4⟩ := Av hc;obtain ⟨c12, c3⟩ := Av c123;obtain ⟨c1, c2⟩ := Av c12;have hes := AA c1;subst hes;obtain ⟨r0, r1⟩ := KG c2
      try rw [Ak, Dj, ← Ak] at r1
      rw [Ak] at r1;have hcs := ha.cells (Y3 (by simpa using c4))
      cases hx with
      | aptr _ _ _ _ base hρ h0 =>
       obtain ⟨ks', cur, et, fz, b1, b2, b3, b4, b5⟩ := hr.blk b base _ hρ hb;have hk2 : U.K e = some ks := by rw [hE.kd, ← hE.ke]; exact hk
       rw [hk2] at b1; cases b1;have hi : (Ac U.V i).toNat < (Ab U.V y).rows.length := by omega
       have hle : ((Ac U.V i).toNat + 1) * ks.length ≤ (Ab U.V y).rows.length * ks.length := Nat.mul_le_mul_right _ hi;rw [Nat.add_mul, Nat.one_mul] at hle;have hin := b5.1;have hlen : a.cells.length = v.cells.toList.length := hcs.1
       have hfit : base.co + (Ac U.V i).toNat * ks.length + off + 0 + v.cells.toList.length ≤ cur.size ∨ v.cells.toList = [] := by
        rcases J0 _ _ _ _ hu with q | q
        ·left; omega
        ·right; rw [q] at hlen; exact List.eq_nil_of_length_eq_zero hlen.symm
       have hst : ∃ w' cur', (storeCells ⟨base.cb, base.co + (Ac U.V i).toNat * ks.length + off, none⟩ v.cells.toList 0).run E.P w = .ok () w' ∧ w'.heap[base.cb]? = some (.cells cur' et fz) ∧ cur'.size = cur.size ∧
         (∀ j, cur'[j]? = if base.co + (Ac U.V i).toNat * ks.length + off ≤ j ∧ j < base.co + (Ac U.V i).toNat * ks.length + off + v.cells.toList.length then v.cells.toList[j - (base.co + (Ac U.V i).toNat * ks.length + off)]? else cur[j]?) ∧
         w'.heap.size = w.heap.size ∧ (∀ k, k ≠ base.cb → w'.heap[k]? = w.heap[k]?) ∧ w'.os = w.os ∧ w'.tape = w.tape ∧ w'.output = w.output := by
        rcases hfit with hfit | hnil
        ·exact B6 E.P base.cb (base.co + (Ac U.V i).toNat * ks.length + off) et fz v.cells.toList 0 w cur b2 hfit (by rw [b3]; exact b4) (FH _ _ _ _ _ hu hcs)
        ·rw [hnil];exact ⟨w, cur, by simp [storeCells], b2, rfl, fun j => by rw [if_neg (by simp)], rfl, fun _ _ => rfl, rfl, rfl, rfl⟩
       obtain ⟨w', cur', q1, q2, q3, q4, q5, q6, q7, q8, q9⟩ := hst;have hrows := Mw a.cells v.cells.toList off y y' cur cur' b5 hi hu hcs q3 q4;obtain ⟨p1, p2⟩ := hr.put hρ (by rw [hb]; exact Option.some_ne_none _) (.arr e y') w' ⟨ks, cur', et, fz, hk2, q2, by rw [q3, b3], b4, hrows⟩ q5 q6 q7 q8 q9
       refine ⟨w', ?_, p1, p2⟩;unfold Instr.storeAt storeVar;have e : v.cells.size = a.cells.length := by have := hcs.1; simp at this; omega
       simp [Instr.sureAddr, hE.run_szIs c3, e, q1]
     ·cases hl
    ·cases hl
   ·cases hl
  ·cases hl
 ·exact Sj hE hr hx ha hl
end
end Go.AE

