/- What is proved here: an evaluator of the model's steps that the kernel can run, and that whatever it answers is what the model does (part 5 of 5: AeRun3, AeOrc, AeRun4, AeOK, AeTop). Conditions: those that each theorem states; they hold of no one program. -/
import Derived.Test.YtpaklonjljncnaaGreatAeD
import Derived.Eval
import Derived.KernelRfl
import Derived.Carry
import Derived.Handed
set_option linter.unusedSectionVars false
/-! AeRun3 -/
namespace Go.AE
variable [U : Unk]
set_option linter.unusedVariables false

theorem drawOps_mono {E : Env} {callF : Ask → AHeap → Option (Bool × AV × AHeap)} {all : Array Oper} {nt : Nat} : ∀ (l : List Oper) (recs : List Rc) (tmps : T AV) (h : AHeap) (r : Option AV) (tmps' : T AV) (h' : AHeap),
    drawOps E callF all nt l recs tmps h = some (r, tmps', h') → h.nx ≤ h'.nx
  | [], recs, tmps, h, r, tmps', h', hd => by
    simp only [drawOps, Option.some.injEq, Prod.mk.injEq] at hd
    obtain ⟨_, _, rfl⟩ := hd
    exact Nat.le_refl _
  | o :: rest, recs, tmps, h, r, tmps', h', hd => by
    simp only [drawOps] at hd
    split at hd
    · cases hd
    · split at hd
      · cases hd
      · rename_i d _
        split at hd
        · cases hd
        · rename_i hnx hok
          have hle : h.nx ≤ d.g.nx := Nat.le_of_ble_eq_true hnx
          split at hd
          · cases hd
          · split at hd
            · cases hd
            · have := drawOps_mono rest _ _ _ _ _ _ hd
              exact Nat.le_trans hle this
        · rename_i hnx hok
          have hle : h.nx ≤ d.g.nx := Nat.le_of_ble_eq_true hnx
          split at hd
          · simp only [Option.some.injEq, Prod.mk.injEq] at hd
            obtain ⟨_, _, rfl⟩ := hd
            exact hle
          · cases hd

theorem runA_mono {E : Env} : ∀ (f : Nat) (f0 : FuncId) (rd : Bool) (s : AS) (ok : Bool) (v : AV) (h : AHeap), runA E f f0 rd s = some (ok, v, h) → s.h.nx ≤ h.nx
  | 0, f0, rd, s, ok, v, h, hx => by cases hx
  | f + 1, f0, rd, s, ok, v, h, hx => by
    simp only [runA] at hx
    split at hx
    · split at hx
      · rename_i hb
        exact Nat.le_trans (Nat.le_of_ble_eq_true hb) (runA_mono f f0 rd _ ok v h hx)
      · cases hx
    split at hx
    · split at hx
      · rename_i hb
        exact Nat.le_trans (Nat.le_of_ble_eq_true hb) (runA_mono f f0 rd _ ok v h hx)
      · cases hx
    · split at hx
      · rename_i hb
        simp only [Option.some.injEq, Prod.mk.injEq] at hx
        obtain ⟨_, _, rfl⟩ := hx
        exact Nat.le_of_ble_eq_true (andT (andT hb).1).1
      · cases hx
    · rename_i s2 ops k hst
      obtain ⟨rfl, _, _⟩ := stepA_draw hst
      split at hx
      · rename_i hd
        exact Nat.le_trans (drawOps_mono _ _ _ _ _ _ _ hd) (runA_mono f f0 rd _ ok v h hx)
      · rename_i hd
        exact Nat.le_trans (drawOps_mono _ _ _ _ _ _ _ hd) (runA_mono f f0 rd _ ok v h hx)
      · cases hx
    · cases hx

section
variable {E : Env} (hE : OK E) {callF : Ask → AHeap → Option (Bool × AV × AHeap)} {ρ : Ren} {h : AHeap} {w : World} {c : Frame} {ccs base : List Frame} {s : AS}

/-- the state behind a region that drew -/
def behind (s : AS) (r : Option AV) (tmps : T AV) (k : List AI) (h : AHeap) : AS :=
  match r with
  | none => { s with fr := { s.fr with tmps, todo := k }, h }
  | some v => { s with fr := { s.fr with tmps, todo := .dead :: k, mode := .panic [(v, false)] }, h }

/-- the memory merged back from a run on all of it -/
theorem merge_full {σ : Ren} {h g : AHeap} {w w' : World} (hwf : WF h) (hn : h.nx ≤ g.nx) (q3 : HR σ g.blk.get w') (q4 : Ext ρ σ (part h none) g w w') : HR σ (mergeH h g).blk.get w' ∧ Ext ρ σ h (mergeH h g) w w' := by
  obtain ⟨l, hl1, hl2⟩ := q4.log
  have hl1' : g.log = l := by rw [hl1]; exact List.append_nil l
  refine ⟨q3.weaken fun b x _ hx => ?_, ⟨q4.le, hn, q4.new, q4.calm, q4.kept, ⟨below h.nx g.log, rfl, fun b hb ho => mergeH_old hn hb ho⟩, fun b hb => mergeH_live hwf hn hb⟩⟩
  by_cases h1 : b < h.nx
  · by_cases h2 : b ∈ below h.nx g.log
    · rcases mergeH_wr h2 with q | ⟨_, q⟩
      · rw [q] at hx; cases hx
      · rw [← q]; exact hx
    · rw [mergeH_old hn h2 (.inl h1)] at hx
      rw [hl2 b (fun e => h2 (mem_below.2 ⟨by rw [hl1']; exact e, h1⟩)) (.inl h1)]
      exact hx
  · by_cases h2 : b < g.nx
    · rw [mergeH_new hwf hn (by omega) h2] at hx; exact hx
    · rw [mergeH_wf hwf hn b (by show g.nx ≤ b; omega)] at hx; cases hx

include hE
theorem draw_ok (hF : CallOK E callF) (hsr : SR ρ s c ccs w) (hwf : WF s.h) (hm : s.fr.mode = .run) {id : Nat} {ops : Array Oper} {k : List AI} (ht : s.fr.todo = .code (.region id ops true) :: k) {r : Option AV} {tmps : T AV}
    (hd : drawOps E callF ops s.fr.nt ops.toList [] s.fr.tmps s.h = some (r, tmps, h)) (hfree : Free ρ s.h.nx h.nx) (base : List Frame) :
    ∃ σ c' w', Steps E.P (lone c (ccs ++ base) w) (lone c' (ccs ++ base) w') ∧ SR σ (behind s r tmps k h) c' ccs w' ∧
      Ext ρ σ s.h h w w' := by
  have hmode := hsr.fr.mode
  rw [hm] at hmode
  have hcm : c.mode = .run := by
    generalize c.mode = x at hmode
    cases hmode; rfl
  have htodo := hsr.fr.todo
  rw [ht] at htodo
  generalize hct : c.todo = td at htodo
  cases htodo with | cons a hk =>
  rename_i k'
  cases a
  obtain ⟨H, Tm, R, Dd, n, q1, q2, q3, q4, q5, q6⟩ := drawOps_text _ _ _ _ _ _ _ hd
  simp only [List.length_nil, Nat.zero_add] at q2 q3 q4 q5 q6
  have X : Text E callF ops s.fr.nt H Tm R Dd n := ⟨fun j hj => by obtain ⟨o, h1, h2⟩ := q4 j hj; exact ⟨o, by simpa using h1, h2⟩, by rw [q2]; exact hwf⟩
  have hfree0 : Free ρ (H 0).nx h.nx := by rw [q2]; exact hfree
  have hle : n ≤ ops.size := by
    cases hr : r with
    | none => have := (q5 hr).1; simp at this; omega
    | some v =>
      obtain ⟨o, h1, _⟩ := q6 v hr
      have := (List.getElem?_eq_some_iff.1 h1).1
      simp at this; omega
  have hM : (H n).nx ≤ h.nx := by
    cases hr : r with
    | none => rw [(q5 hr).2.2]; exact Nat.le_refl _
    | some v =>
      obtain ⟨o, h1, b, e1, e2, e3⟩ := q6 v hr
      rw [e3]; exact b.tx.nx
  have hbad : n < ops.size → ∃ o, ops[n]? = some o ∧ Bad E callF ops H Tm R Dd n o (ops.toList.drop (n + 1)) := by
    intro hn
    cases hr : r with
    | none => have := (q5 hr).1; simp at this; omega
    | some v =>
      obtain ⟨o, h1, b, _⟩ := q6 v hr
      exact ⟨o, by simpa using h1, b⟩
  -- the order is drawn
  have hst := st_draw (P := E.P) (cs := ccs ++ base) (w := w) hcm hct
  rw [hE.mixed] at hst
  have hsched : ∀ t, Region.schedule true ops t = Region.linearise.go .any ops ops.size t (Array.replicate ops.size false) [] := fun t => rfl
  rw [hsched] at hst
  generalize htape : w.tape w.drawn (.order c.fn id) = t at hst
  have hD0 : ∀ i, (Array.replicate ops.size false).getD i false = false := by
    intro i
    rw [Array.getD_eq_getD_getElem?, Array.getElem?_replicate]
    split <;> rfl
  have htm0 : TR ρ s.fr.nt (Tm 0) c.tmps := by rw [q3]; exact hsr.fr.tm
  have hh0 : HR ρ (H 0).blk.get { w with drawn := w.drawn + 1 } := by rw [q2]; exact hsr.h.same rfl
  have I0 : Inv s.fr.nt H Tm R n h.nx ρ { w with drawn := w.drawn + 1 } (fun i => (Array.replicate ops.size false).getD i false) ρ c.tmps { w with drawn := w.drawn + 1 } := inv0 htm0 hh0 hfree0 hD0
  obtain ⟨rest, σ, tm', w1, D', r1, r2, r3, r4, r5⟩ := X.sched hE hF (cs := ccs ++ base) (k := k') hM hfree0 hle hbad ops.size t (Array.replicate ops.size false) ρ { w with drawn := w.drawn + 1 }
    { c with todo := .inRegion ops (Region.linearise.go .any ops ops.size t (Array.replicate ops.size false) []) :: k' } hcm rfl (by simp) (by omega) I0
  obtain ⟨f1, f2, f3⟩ := X.final r1 r2
  rw [q2] at f3
  have f3' : Ext ρ σ s.h (H n) w w1 := f3.drawn rfl rfl rfl rfl
  have hfr := hsr.fr.mono f3'.le
  cases hr : r with
  | none =>
    obtain ⟨e1, e2, e3⟩ := q5 hr
    have hn : n = ops.size := by simpa using e1
    rw [r4 hn] at r3
    subst e2; subst e3
    refine ⟨σ, { c with tmps := tm', todo := k' }, w1, Steps.head hst (Steps.trans r3 (Steps.one (st_regionEnd hcm rfl))), ⟨⟨hfr.fn, f1, hk.mono f3'.le, hfr.defers, hfr.mode, hfr.kind, hfr.round⟩, hsr.cs.mono f3'.le, f2⟩, f3'⟩
  | some v =>
    obtain ⟨o, h1, b, e1, e2, e3⟩ := q6 v hr
    have hn : n < ops.size := by
      have := (List.getElem?_eq_some_iff.1 h1).1
      simpa using this
    obtain ⟨rr, hrr⟩ := r5 hn
    rw [hrr] at r3
    have hfp := drawOp_bad b.tx.did b.ok
    have hpart : HR σ (part (H n) (Dd n).fp).blk.get w1 := by rw [hfp]; exact f2
    have hlooks : TR σ s.fr.nt (restrictT (Tm n) (looksOf ops o)) tm' := ⟨f1.size, fun t x hx => f1.get t x (get_restrictT _ _ _ _ hx).2⟩
    have hnx : h.nx = (Dd n).g.nx := by rw [e3]; rfl
    have hfreen : Free σ (H n).nx (Dd n).g.nx := by rw [← hnx]; exact f3'.free hfree
    obtain ⟨τ, v', w2, p1, p2, p3, p4⟩ := drawOp_ok hE hF (cs := ccs ++ base) (c := { c with tmps := tm', todo := .inRegion ops (n :: rr) :: k' }) b.tx.did (X.wfAt (Nat.le_refl _)) hcm rfl (by simpa using h1) hlooks hpart hfreen
    rw [b.ok] at p1
    rw [hfp] at p4
    obtain ⟨m1, m2⟩ := merge_full (X.wfAt (Nat.le_refl _)) b.tx.nx p3 p4
    rw [← e3] at m1 m2
    have hfr2 := hfr.mono m2.le
    subst e1; subst e2
    have eraise : ({ c with tmps := tm', todo := .inRegion ops (n :: rr) :: k' } : Frame).raise [{ v := v', recovered := false }] = { c with tmps := tm', todo := .inRegion ops (n :: rr) :: k', mode := .panicking [{ v := v', recovered := false }] } := by
      simp [Frame.raise, hcm]
    simp only [Comes1] at p1
    rw [eraise] at p1
    exact ⟨τ, _, w2, Steps.head hst (Steps.trans r3 p1), ⟨⟨hfr2.fn, f1.mono m2.le, .cons (.dead _ _) ((hk.mono f3'.le).mono m2.le), hfr2.defers, .panic _ _ ⟨p2, rfl, rfl, trivial⟩, hfr2.kind, hfr2.round⟩, (hsr.cs.mono f3'.le).mono m2.le, m1⟩, f3'.trans m2 hfree⟩
end
end Go.AE

/-! AeOrc -/
namespace Go.AE
set_option linter.unusedVariables false

theorem eqFn_eq {a b : Fn} (h : eqFn a b = true) : a = b := by
  cases a <;> cases b <;> simp_all [eqFn]
mutual
theorem eqAV_eq : ∀ (a b : AV), eqAV a b = true → a = b
  | .top, b, h => by cases b <;> simp_all [eqAV]
  | .bool _, b, h => by cases b <;> simp_all [eqAV]
  | .int _ _, b, h => by cases b <;> simp_all [eqAV]
  | .str _ _, b, h => by cases b <;> simp_all [eqAV]
  | .ptr0, b, h => by cases b <;> simp_all [eqAV]
  | .ptr _ _, b, h => by cases b <;> simp_all [eqAV]
  | .slice0, b, h => by cases b <;> simp_all [eqAV]
  | .slice _ _ _ _, b, h => by cases b <;> simp_all [eqAV]
  | .map0, b, h => by cases b <;> simp_all [eqAV]
  | .map _, b, h => by cases b <;> simp_all [eqAV]
  | .func fn f c, b, h => by
    cases b with
    | func fn' f' c' =>
      simp only [eqAV, Bool.and_eq_true] at h
      rw [eqFn_eq h.1.1, eqAVs_eq f f' h.1.2, eqAVs_eq c c' h.2]
    | _ => simp [eqAV] at h
  | .nilFunc, b, h => by cases b <;> simp_all [eqAV]
  | .iface t v, b, h => by
    cases b with
    | iface t' v' =>
      simp only [eqAV, Bool.and_eq_true] at h
      rw [Nat.eq_of_beq_eq_true h.1, eqAV_eq v v' h.2]
    | _ => simp [eqAV] at h
  | .nilIface, b, h => by cases b <;> simp_all [eqAV]
  | .agg l, b, h => by
    cases b with
    | agg l' =>
      simp only [eqAV] at h
      rw [eqAVs_eq l l' h]
    | _ => simp [eqAV] at h
  | .tuple l, b, h => by
    cases b with
    | tuple l' =>
      simp only [eqAV] at h
      rw [eqAVs_eq l l' h]
    | _ => simp [eqAV] at h
  | .sb _ _, b, h => by cases b <;> simp [eqAV] at h
  | .si _ _, b, h => by cases b <;> simp [eqAV] at h
  | .ss _, b, h => by cases b <;> simp [eqAV] at h
  | .sl _, b, h => by cases b <;> simp [eqAV] at h
theorem eqAVs_eq : ∀ (a b : List AV), eqAVs a b = true → a = b
  | [], b, h => by cases b <;> simp_all [eqAVs]
  | a :: l, b, h => by
    cases b with
    | nil => simp [eqAVs] at h
    | cons b m =>
      simp only [eqAVs, Bool.and_eq_true] at h
      rw [eqAV_eq a b h.1, eqAVs_eq l m h.2]
end
theorem eqO_eq {α : Type} {eq : α → α → Bool} (he : ∀ a b, eq a b = true → a = b) {a b : Option α} (h : eqO eq a b = true) : a = b := by
  cases a <;> cases b <;> simp [eqO] at h ⊢
  exact he _ _ h
theorem eqT_eq {α : Type} {eq : α → α → Bool} (he : ∀ a b, eq a b = true → a = b) : ∀ (a b : T α), eqT eq a b = true → a = b
  | .nil, .nil, _ => rfl
  | .node v l r, .node v' l' r', h => by
    simp only [eqT, Bool.and_eq_true] at h
    rw [eqO_eq he h.1.1, eqT_eq he l l' h.1.2, eqT_eq he r r' h.2]
  | .nil, .node _ _ _, h => by simp [eqT] at h
  | .node _ _ _, .nil, h => by simp [eqT] at h
theorem eqEs_eq : ∀ (a b : List AEntry), eqEs a b = true → a = b
  | [], [], _ => rfl
  | a :: l, b :: m, h => by
    simp only [eqEs, Bool.and_eq_true] at h
    obtain ⟨⟨⟨h1, h2⟩, h3⟩, h4⟩ := h
    cases a; cases b
    simp only at h1 h2 h3
    rw [eqAV_eq _ _ h1, eqAV_eq _ _ h2, Nat.eq_of_beq_eq_true h3, eqEs_eq l m h4]
  | [], _ :: _, h => by simp [eqEs] at h
  | _ :: _, [], h => by simp [eqEs] at h
theorem eqBlk_eq {a b : ABlk} (h : eqBlk a b = true) : a = b := by
  cases a <;> cases b <;> simp only [eqBlk, Bool.and_eq_true, Bool.false_eq_true] at h
  · rw [Nat.eq_of_beq_eq_true h.1, eqT_eq eqAV_eq _ _ h.2]
  · rw [Nat.eq_of_beq_eq_true h.1, eqEs_eq _ _ h.2]
theorem subT_ok : ∀ {a b : T ABlk}, subT a b = true → ∀ i x, a.get i = some x → b.get i = some x
  | .nil, _, _, i, x, hx => by simp [T.get] at hx
  | .node v l r, .nil, h, _, _, _ => by simp [subT] at h
  | .node v l r, .node v' l' r', h, i, x, hx => by
    simp only [subT, Bool.and_eq_true] at h
    obtain ⟨⟨h1, h2⟩, h3⟩ := h
    simp only [T.get] at hx ⊢
    split at hx
    · subst hx
      simp only at h1
      cases v' with
      | none => simp at h1
      | some y => rw [eqBlk_eq h1]
    · split at hx
      · exact subT_ok h2 _ _ hx
      · exact subT_ok h3 _ _ hx
theorem inWr_ok {b : Nat} : ∀ {l : List Nat}, inWr b l = true → b ∈ l
  | [], h => by simp [inWr] at h
  | c :: r, h => by
    simp only [inWr, Bool.or_eq_true] at h
    rcases h with h | h
    · rw [Nat.eq_of_beq_eq_true h]; simp
    · simp [inWr_ok h]
theorem subL_ok {nx : Nat} {wr : List Nat} : ∀ {l : List Nat}, subL nx wr l = true → ∀ b ∈ l, b < nx → b ∈ wr
  | [], _, b, hb, _ => by cases hb
  | c :: r, h, b, hb, hlt => by
    simp only [subL, Bool.and_eq_true, Bool.or_eq_true] at h
    simp only [List.mem_cons] at hb
    rcases hb with rfl | hb
    · rcases h.1 with h1 | h1
      · have := Nat.le_of_ble_eq_true h1; omega
      · exact inWr_ok h1
    · exact subL_ok h.2 b hb hlt

/-- a known call: from whatever memory that holds its part, the machine comes to what it says -/
def Orc.Valid (P : Program) (e : Orc) : Prop :=
  ∀ [U : Unk] (ρ : Ren) (w : World) (args' : List Value), VL ρ e.args args' → HR ρ e.part.get w → WF { blk := e.part, nx := e.nx, log := [] } → Free ρ e.nx e.nx' →
    ∀ (c0 : Frame) (base : List Frame), ∃ σ v' w' g, Comes1 P (lone (Frame.enter P e.f args'.toArray .normal) (c0 :: base) w) c0 base e.ok v' w' ∧ VR σ e.v v' ∧ HR σ g.blk.get w' ∧
      Ext ρ σ { blk := e.part, nx := e.nx, log := [] } g w w' ∧ (∀ b x, e.out.get b = some x → g.blk.get b = some x) ∧ g.nx = e.nx' ∧ (∀ b ∈ g.log, b < e.nx → b ∈ e.wr)
def OrcOK (E : Env) : Prop := ∀ e ∈ E.orc, e.Valid E.P

variable [U : Unk]

theorem merge_part {ρ σ : Ren} {h g : AHeap} {w w' : World} {p out : T ABlk} {nx' : Nat} {wr : List Nat} (hr : HR ρ h.blk.get w) (hwf : WF h) (hsub : ∀ b x, p.get b = some x → h.blk.get b = some x)
    (hfree : Free ρ h.nx nx') (q3 : HR σ g.blk.get w') (q4 : Ext ρ σ { blk := p, nx := h.nx, log := [] } g w w') (ho : ∀ b x, out.get b = some x → g.blk.get b = some x) (hn : g.nx = nx') (hl : ∀ b ∈ g.log, b < h.nx → b ∈ wr) :
    HR σ (mergeH h { blk := out, nx := nx', log := wr }).blk.get w' ∧ Ext ρ σ h (mergeH h { blk := out, nx := nx', log := wr }) w w' := by
  have hnx : h.nx ≤ nx' := by have := q4.nx; rw [hn] at this; exact this
  have hps : ∀ b, p.get b ≠ none → h.blk.get b ≠ none := by
    intro b hb
    cases hp : p.get b with
    | none => exact absurd hp hb
    | some x => rw [hsub b x hp]; exact Option.some_ne_none _
  have cls : ∀ b x, (mergeH h { blk := out, nx := nx', log := wr }).blk.get b = some x → g.blk.get b = some x ∨ (b < h.nx ∧ p.get b = none ∧ h.blk.get b = some x) := by
    intro b x hx
    by_cases h1 : b < h.nx
    · by_cases h2 : b ∈ below h.nx wr
      · rcases mergeH_wr (h := h) (g := { blk := out, nx := nx', log := wr }) h2 with q | ⟨_, q⟩
        · rw [q] at hx; cases hx
        · rw [q] at hx; exact .inl (ho b x hx)
      · rw [mergeH_old (h := h) (g := { blk := out, nx := nx', log := wr }) hnx h2 (.inl h1)] at hx
        cases hp : p.get b with
        | none => exact .inr ⟨h1, rfl, hx⟩
        | some y =>
          have e := hsub b y hp
          rw [hx] at e
          cases e
          obtain ⟨l, hl1, hl2⟩ := q4.log
          have hl1' : g.log = l := by rw [hl1]; exact List.append_nil l
          refine .inl ((hl2 b (fun e => h2 (mem_below.2 ⟨hl b (by rw [hl1']; exact e) h1, h1⟩)) (.inl h1)).trans hp)
    · by_cases h2 : b < nx'
      · rw [mergeH_new (h := h) (g := { blk := out, nx := nx', log := wr }) hwf hnx (by omega) h2] at hx
        exact .inl (ho b x hx)
      · rw [mergeH_wf (h := h) (g := { blk := out, nx := nx', log := wr }) hwf hnx b (by show nx' ≤ b; omega)] at hx; cases hx
  have old : ∀ b base, σ b = some base → b < h.nx → ρ b = some base := by
    intro b base hb hlt
    rcases q4.new b base hb with e | ⟨e, _⟩
    · exact e
    · exact absurd e (by show ¬ h.nx ≤ b; omega)
  have LR : ∀ b b' base base' x x', σ b = some base → σ b' = some base' → g.blk.get b = some x → b' < h.nx → p.get b' = none → h.blk.get b' = some x' → base.cb ≠ base'.cb := by
    intro b b' base base' x x' hb hb' hx hlt hp hx'
    have hb'' := old b' base' hb' hlt
    have hne' : h.blk.get b' ≠ none := by rw [hx']; exact Option.some_ne_none _
    have hin : ∀ b0 base0, ρ b0 = some base0 → p.get b0 ≠ none → base0.cb ≠ base'.cb := fun b0 base0 h0 hp0 =>
      hr.apart b0 b' base0 base' (fun e => by subst e; exact hp0 hp) h0 hb'' (hps b0 hp0) hne'
    rcases q4.new b base hb with e | ⟨_, _, e⟩
    · rcases q4.live b (by rw [hx]; exact Option.some_ne_none _) with l | ⟨l1, l2⟩
      · exact hin b base e l
      · have := hfree b l1 (by rw [← hn]; exact l2)
        rw [this] at e; cases e
    · rcases e with e | ⟨b0, base0, e1, e2, e3⟩
      · have := hr.lt b' base' hb''; omega
      · rw [← e3]; exact hin b0 base0 e1 e2
  refine ⟨⟨q3.lt, fun b base x hb hx => ?_, fun b b' base base' hne hb hb' h1 h2 => ?_⟩, ⟨q4.le, hnx, fun b base hb => ?_, q4.calm, fun k hk hkk => q4.kept k hk (fun b base hb hp => hkk b base hb (hps b hp)), ⟨below h.nx wr, rfl, fun b hb ho => mergeH_old (h := h) (g := { blk := out, nx := nx', log := wr }) hnx hb ho⟩, fun b hb => mergeH_live (h := h) (g := { blk := out, nx := nx', log := wr }) hwf hnx hb⟩⟩
  · rcases cls b x hx with q | ⟨hlt, hp, hh⟩
    · exact q3.blk b base x hb q
    · have hρ := old b base hb hlt
      have hk := q4.kept base.cb (hr.lt b base hρ) (fun b' base' hb' hp' => hr.apart b' b base' base (fun e => by subst e; exact hp' hp) hb' hρ (hps b' hp') (by rw [hh]; exact Option.some_ne_none _))
      rw [hk]
      exact (hr.blk b base x hρ hh).mono q4.le
  · cases hx : (mergeH h { blk := out, nx := nx', log := wr }).blk.get b with
    | none => exact absurd hx h1
    | some x =>
      cases hx' : (mergeH h { blk := out, nx := nx', log := wr }).blk.get b' with
      | none => exact absurd hx' h2
      | some x' =>
        rcases cls b x hx with q | ⟨a1, a2, a3⟩
        · rcases cls b' x' hx' with q' | ⟨a1', a2', a3'⟩
          · exact q3.apart b b' base base' hne hb hb' (by rw [q]; exact Option.some_ne_none _) (by rw [q']; exact Option.some_ne_none _)
          · exact LR b b' base base' x x' hb hb' q a1' a2' a3'
        · rcases cls b' x' hx' with q' | ⟨a1', a2', a3'⟩
          · exact fun e => LR b' b base' base x' x hb' hb q' a1 a2 a3 e.symm
          · exact hr.apart b b' base base' hne (old b base hb a1) (old b' base' hb' a1') (by rw [a3]; exact Option.some_ne_none _) (by rw [a3']; exact Option.some_ne_none _)
  · rcases q4.new b base hb with e | ⟨e1, e2, e3⟩
    · exact .inl e
    · exact .inr ⟨e1, by show b < nx'; rw [← hn]; exact e2, e3.imp id (fun ⟨b0, base0, x1, x2, x3⟩ => ⟨b0, base0, x1, hps b0 x2, x3⟩)⟩

theorem find_ok {P : Program} {f : FuncId} {args : List AV} {args' : List Value} {h g : AHeap} {ok : Bool} {v : AV} {ρ : Ren} {w : World} : ∀ {l : List Orc}, (∀ e ∈ l, e.Valid P) → findO l f args h = some (ok, v, g) → VL ρ args args' → HR ρ h.blk.get w → WF h → Free ρ h.nx g.nx →
    ∀ (c0 : Frame) (base : List Frame), ∃ σ v' w', Comes1 P (lone (Frame.enter P f args'.toArray .normal) (c0 :: base) w) c0 base ok v' w' ∧ VR σ v v' ∧ HR σ g.blk.get w' ∧ Ext ρ σ h g w w'
  | [], _, hx, _, _, _, _ => by simp [findO] at hx
  | e :: r, hO, hx, ha, hr, hwf, hfree => by
    simp only [findO] at hx
    split at hx
    · rename_i hb
      simp only [Bool.and_eq_true] at hb
      obtain ⟨⟨⟨h1, h2⟩, h3⟩, h4⟩ := hb
      have e1 := Nat.eq_of_beq_eq_true h1
      have e2 := Nat.eq_of_beq_eq_true h2
      have e3 := eqAVs_eq _ _ h3
      subst e1
      subst e3
      cases hx
      intro c0 base
      have hfree' : Free ρ e.nx e.nx' := by rw [e2]; exact hfree
      obtain ⟨σ, v', w', gg, a1, a2, a3, a4, a5, a6, a7⟩ := hO e (by simp) ρ w args' ha (hr.weaken (fun b x _ hx => subT_ok h4 b x hx)) (fun b hb => by
        show e.part.get b = none
        cases hp : e.part.get b with
        | none => rfl
        | some x =>
          have q := subT_ok h4 b x hp
          rw [hwf b (by rw [← e2]; exact hb)] at q
          cases q) hfree' c0 base
      rw [e2] at a4 a7
      obtain ⟨m1, m2⟩ := merge_part hr hwf (subT_ok h4) hfree a3 a4 a5 a6 a7
      exact ⟨σ, v', w', a1, a2, m1, m2⟩
    · exact find_ok (fun e he => hO e (by simp [he])) hx ha hr hwf hfree

section
variable {E : Env} (hE : OK E) (hO : OrcOK E) {ρ : Ren} {w : World} {c : Frame} {ccs : List Frame} {s s' : AS}
include hE hO
theorem topO_ok (hsr : SR ρ s c ccs w) (hwf : WF s.h) (hx : topO E s = some s') (hfree : Free ρ s.h.nx s'.h.nx) (base : List Frame) :
    ∃ σ c' ccs' w', Steps E.P (lone c (ccs ++ base) w) (lone c' (ccs' ++ base) w') ∧ SR σ s' c' ccs' w' ∧ Ext ρ σ s.h s'.h w w' := by
  unfold topO at hx
  split at hx
  · cases hx
  · split at hx
    · rename_i hm
      split at hx
      · rename_i all o r k ht
        split at hx
        · rename_i hsim
          split at hx
          · rename_i hw
            split at hx
            · rename_i g args h1 hop
              split at hx
              · rename_i v h2 hfind
                split at hx
                · rename_i fr hfin
                  cases hx
                  have htodo := hsr.fr.todo
                  rw [ht] at htodo
                  obtain ⟨i, idx, k', e, ho, hm', hk⟩ := htodo.ops_inv
                  have hmode := hsr.fr.mode
                  rw [hm] at hmode
                  have hcm : c.mode = .run := by
                    generalize c.mode = x at hmode
                    cases hmode; rfl
                  have ht' := hsr.fr.tm
                  have hev : EvR ρ s.fr.tmps c.eval := by
                    intro x
                    have := eval_ok ht' x
                    cases x <;> exact this
                  have hdoes := aop_ok hE hsr.h hev o
                  rw [hop] at hdoes
                  obtain ⟨rfl, args', ha, hrun⟩ := hdoes
                  have hnd : ∀ cl, o.op ≠ .defer cl := by
                    intro cl e
                    rw [e] at hop
                    simp only [aop] at hop
                    rcases deferOp_shape s.fr.tmps cl s.h with ⟨d, hq⟩ | ⟨y, hq⟩ <;> (rw [hq] at hop; cases hop)
                  obtain ⟨σ, v', w', q1, q2, q3, q4⟩ := find_ok hO hfind ha hsr.h hwf hfree c (ccs ++ base)
                  have hst := st_enter (cs := ccs ++ base) (P := E.P) hcm e ho (wantedA_ok ht' hw) (.inr hnd) hrun
                  exact ⟨σ, c.finish v', ccs, w', Steps.head hst q1, ⟨finishA_ok (hsr.fr.mono q4.le) hfin q2, hsr.cs.mono q4.le, q3⟩, q4⟩
                · cases hx
              · cases hx
            · cases hx
          · cases hx
        · cases hx
      · cases hx
    · cases hx
end
end Go.AE

/-! AeRun4 -/
namespace Go.AE
variable [U : Unk]
set_option linter.unusedVariables false

section
variable {E : Env} (hE : OK E) (hO : OrcOK E)
include hE hO

/-- THE RUN: what the evaluator finds is what the machine comes to. -/
theorem run_ok : ∀ (f : Nat) (f0 : FuncId) (rd : Bool) (s : AS) (ρ : Ren) (c : Frame) (ccs : List Frame) (w : World) (ok : Bool) (v : AV) (h : AHeap), SR ρ s c ccs w → WF s.h → runA E f f0 rd s = some (ok, v, h) → Free ρ s.h.nx h.nx →
    ∀ base : List Frame, ∃ σ cf v' w1 w', Steps E.P (lone c (ccs ++ base) w) (lone cf base w1) ∧ cf.fn = f0 ∧ (rd = false → cf.roundOf = none) ∧ Ends E.P cf w1 ok v' w' ∧ VR σ v v' ∧ HR σ h.blk.get w' ∧ Ext ρ σ s.h h w w' := by
  intro f
  induction f with
  | zero => intro f0 rd s ρ c ccs w ok v h hsr hwf hx; cases hx
  | succ f ih =>
    intro f0 rd s ρ c ccs w ok v h hsr hwf hx hfree base
    -- going on from a later state
    have go : ∀ (s' : AS) (σ : Ren) (c' : Frame) (ccs' : List Frame) (w1 : World), Steps E.P (lone c (ccs ++ base) w) (lone c' (ccs' ++ base) w1) → SR σ s' c' ccs' w1 → Ext ρ σ s.h s'.h w w1 → runA E f f0 rd s' = some (ok, v, h) →
        ∃ σ cf v' w1 w', Steps E.P (lone c (ccs ++ base) w) (lone cf base w1) ∧ cf.fn = f0 ∧ (rd = false → cf.roundOf = none) ∧ Ends E.P cf w1 ok v' w' ∧ VR σ v v' ∧ HR σ h.blk.get w' ∧ Ext ρ σ s.h h w w' := by
      intro s' σ c' ccs' w1 h1 h2 h3 h4
      obtain ⟨τ, cf, v', w2, w', q1, q2, q3, q4, q5, q6, q7⟩ := ih f0 rd s' σ c' ccs' w1 ok v h h2 (h3.wf hwf) h4 (h3.free hfree) base
      exact ⟨τ, cf, v', w2, w', Steps.trans h1 q1, q2, q3, q4, q5, q6, h3.trans q7 hfree⟩
    simp only [runA] at hx
    split at hx
    · rename_i s' htop
      split at hx
      · rename_i hb
        have hmono := runA_mono f f0 rd s' ok v h hx
        obtain ⟨σ, cf', ccs', w', q1, q2, q3⟩ := topO_ok hE hO hsr hwf htop (fun b h1 h2 => hfree b h1 (by omega)) base
        exact go s' σ cf' ccs' w' q1 q2 q3 hx
      · cases hx
    split at hx
    · rename_i s' hst
      split at hx
      · rename_i hb
        have hmono := runA_mono f f0 rd s' ok v h hx
        obtain ⟨σ, cf', ccs', w', q1, q2, q3⟩ := stepA_ok (base := base) hE hsr hst (fun b h1 h2 => hfree b h1 (by omega))
        exact go s' σ cf' ccs' w' (Steps.one q1) q2 q3 hx
      · cases hx
    · rename_i ok' v' h' hst
      split at hx
      · rename_i hb
        simp only [Option.some.injEq, Prod.mk.injEq] at hx
        obtain ⟨rfl, rfl, rfl⟩ := hx
        obtain ⟨rfl, x, w', q1, q2, q3, q4⟩ := stepA_done hE hsr hst
        obtain ⟨b1, b2⟩ := andT hb
        have hfn := beqT (andT b1).2
        refine ⟨ρ, c, x, w, w', Steps.refl _ _, hsr.fr.fn.trans hfn, fun hrd => ?_, q4, q1, q2, q3⟩
        subst hrd
        have hround := hsr.fr.round
        simp only [Bool.false_or, Option.isNone_iff_eq_none] at b2
        rw [b2] at hround
        exact hround.none_inv
      · cases hx
    · rename_i s2 ops k hst
      obtain ⟨rfl, hm, id, ht⟩ := stepA_draw hst
      have hC : ∀ (fr : AF) (g g' : AHeap) (ok : Bool) (v : AV) (ρ : Ren) (cf : Frame) (w : World), FrR ρ fr cf → HR ρ g.blk.get w → WF g → runA E f fr.fn true { fr, cs := [], h := g } = some (ok, v, g') → Free ρ g.nx g'.nx →
          ∀ (c0 : Frame) (base : List Frame), ∃ σ v' w', Comes1 E.P (lone cf (c0 :: base) w) c0 base ok v' w' ∧ VR σ v v' ∧ HR σ g'.blk.get w' ∧ Ext ρ σ g g' w w' := by
        intro fr g g' ok v ρ cf w hfr hr hwf hx hfree c0 base
        obtain ⟨σ, cf', v', w1, w', q1, q2, q3, q4, q5, q6, q7⟩ := ih fr.fn true { fr, cs := [], h := g } ρ cf [] w ok v g' ⟨hfr, .nil, hr⟩ hwf hx hfree (c0 :: base)
        refine ⟨σ, v', w', ?_, q5, q6, q7⟩
        have := Steps.trans q1 (Steps.one (q4.back c0 base))
        cases ok <;> exact this
      generalize hcf : (fun (a : Ask) (h : AHeap) => match a with
        | .enter g args => match findO E.orc g args h with
          | some r => some r
          | none => match enterF E g args .normal with
            | some fr => runA E f fr.fn true { fr, cs := [], h }
            | none => none
        | .round l args => match roundF l args h with
          | some fr => runA E f fr.fn true { fr, cs := [], h }
          | none => none) = callF at hx
      have hF : CallOK E callF := by
        subst hcf
        refine ⟨?_, ?_⟩
        · intro f' args args' g g' ok v ρ w ha hr hwf hx hfree
          simp only at hx
          split at hx
          · rename_i r hfind
            cases hx
            exact find_ok hO hfind ha hr hwf hfree
          · split at hx
            · rename_i fr hfr
              exact hC fr g g' ok v ρ _ w (enterF_ok hE hfr ha) hr hwf hx hfree
            · cases hx
        · intro l args g g' ok v ρ w hr hwf hx hfree
          simp only at hx
          split at hx
          · rename_i fr hfr
            exact ⟨fr, hfr, fun cf hcf => hC fr g g' ok v ρ cf w hcf hr hwf hx hfree⟩
          · cases hx
      split at hx
      · rename_i tmps h1 hd
        have hmono := runA_mono f f0 rd _ ok v h hx
        obtain ⟨σ, c', w', q1, q2, q3⟩ := draw_ok hE hF hsr hwf hm ht hd (fun b a1 a2 => hfree b a1 (Nat.lt_of_lt_of_le a2 hmono)) base
        exact go _ σ c' ccs w' q1 q2 q3 hx
      · rename_i v1 tmps h1 hd
        have hmono := runA_mono f f0 rd _ ok v h hx
        obtain ⟨σ, c', w', q1, q2, q3⟩ := draw_ok hE hF hsr hwf hm ht hd (fun b a1 a2 => hfree b a1 (Nat.lt_of_lt_of_le a2 hmono)) base
        exact go _ σ c' ccs w' q1 q2 q3 hx
      · cases hx
    · cases hx

/-- a call of a function -/
theorem calls_ok {N : Nat} {f : FuncId} {args : List AV} {args' : List Value} {ρ : Ren} {h h' : AHeap} {w : World} {ok : Bool} {v : AV} (hx : callN E N f args h = some (ok, v, h')) (ha : VL ρ args args') (hr : HR ρ h.blk.get w) (hwf : WF h) (hfree : Free ρ h.nx h'.nx) :
    Calls E.P f args'.toArray w fun e w' => ∃ σ v', e = endOf ok v' ∧ VR σ v v' ∧ HR σ h'.blk.get w' ∧ Ext ρ σ h h' w w' := by
  intro cs
  unfold callN at hx
  split at hx
  · rename_i fr hfr
    have hfrr := enterF_ok hE hfr ha
    obtain ⟨σ, cf, v', w1, w', q1, q2, q3, q4, q5, q6, q7⟩ := run_ok hE hO N f false _ ρ _ [] w ok v h' ⟨hfrr, .nil, hr⟩ hwf hx hfree cs
    obtain ⟨e1, e2⟩ := q4.leaves (q3 rfl)
    subst e1
    refine ⟨endOf ok v', w', cf, ⟨σ, v', rfl, q5, q6, q7⟩, ?_, q2, e2⟩
    cases ok <;> exact q1
  · cases hx

/-- a known call that the run bears out -/
theorem Orc.valid {N : Nat} {e : Orc} (h : ∀ [F : Facts], checkO E N e = true) : e.Valid E.P := by
  intro U ρ w args' ha hr hwf hfree c0 base
  have hx := h (F := U.toFacts)
  unfold checkO at hx
  split at hx
  · rename_i ok v g hcall
    simp only [Bool.and_eq_true, beq_iff_eq] at hx
    obtain ⟨⟨⟨⟨h1, h2⟩, h3⟩, h4⟩, h5⟩ := hx
    have e4 := Nat.eq_of_beq_eq_true h4
    unfold callN at hcall
    split at hcall
    · rename_i fr hfr
      obtain ⟨σ, cf, v', w1, w', q1, q2, q3, q4, q5, q6, q7⟩ := run_ok hE hO N e.f false _ ρ _ [] w ok v g ⟨enterF_ok hE hfr ha, .nil, hr⟩ hwf hcall (by show Free ρ e.nx g.nx; rw [e4]; exact hfree) (c0 :: base)
      refine ⟨σ, v', w', g, ?_, eqAV_eq _ _ h2 ▸ q5, q6, q7, subT_ok h3, e4, subL_ok h5⟩
      rw [← h1]
      have := Steps.trans q1 (Steps.one (q4.back c0 base))
      cases ok <;> exact this
    · cases hcall
  · cases hx
end
end Go.AE

/-! AeOK -/
namespace Go.AE
variable [U : Unk]
set_option linter.unusedVariables false

/-- what the evaluator asks of a function's table entry -/
def okFn (x : Func) : Bool := !(x.name == "runtime.NumGoroutine") && (x.body.isSome || (!(x.name == "maps.clone") && !(x.name == "internal/bytealg.IndexByteString")) || (Extern.allNextRows.lookup x.origin).isNone)

theorem cloneNext : Extern.allNextRows.lookup "maps.clone" = none := by kernel_rfl
theorem cloneGen : Extern.allGenericRows.lookup "maps.clone" = none := by kernel_rfl
theorem cloneTyped : Extern.allTypedRows.lookup "maps.clone" = none := by kernel_rfl
theorem cloneRow : Extern.allRows.lookup "maps.clone" = some Extern.MapsClone.clone := by kernel_rfl
theorem ixbNext : Extern.allNextRows.lookup "internal/bytealg.IndexByteString" = none := by kernel_rfl
theorem ixbGen : Extern.allGenericRows.lookup "internal/bytealg.IndexByteString" = none := by kernel_rfl
theorem ixbTyped : Extern.allTypedRows.lookup "internal/bytealg.IndexByteString" = none := by kernel_rfl
theorem ixbRow : Extern.allRows.lookup "internal/bytealg.IndexByteString" = some Extern.BytealgIndexByte.indexByte := by kernel_rfl

omit U in
theorem findNext_none {x : Func} {n : String} (hn : x.name = n) (h1 : Extern.allNextRows.lookup n = none) (h2 : Extern.allNextRows.lookup x.origin = none) : Extern.findNext x = none := by
  show ((Extern.allNextRows.lookup x.name).map (· x.params x.resultTypes) <|> (Extern.allNextRows.lookup x.origin).map (· x.params x.resultTypes)) = none
  rw [hn, h1, h2]; rfl

omit U in
theorem find_some {x : Func} {n : String} {g : Array Value → Sem Value} (hn : x.name = n) (h1 : Extern.allGenericRows.lookup n = none) (h2 : Extern.allTypedRows.lookup n = none) (h3 : Extern.allRows.lookup n = some g) : Extern.find x = some g := by
  show (((Extern.allGenericRows.lookup x.name).map (· x.targs x.params x.resultTypes) <|> (Extern.allTypedRows.lookup x.name).map (· x.params x.resultTypes) <|> Extern.allRows.lookup x.name) <|> ((Extern.allGenericRows.lookup x.origin).map (· x.targs x.params x.resultTypes) <|> (Extern.allTypedRows.lookup x.origin).map (· x.params x.resultTypes) <|> Extern.allRows.lookup x.origin)) = some g
  rw [hn, h1, h2, h3]; rfl

theorem OK.of {P : Program} {l : List Orc} (hm : P.follows .mixedOrders = true) (hc : P.funcs.toList.all okFn = true) : OK (Env.ofO P l) := by
  have hfn : ∀ f x, (Env.ofO P l).fn.get f = some x → P.funcs[f]? = some x := by
    intro f x h
    rw [Env.ofO, T.get_ofList] at h
    simpa using h
  have hall : ∀ f x, (Env.ofO P l).fn.get f = some x → okFn x = true := by
    intro f x h
    have := hfn f x h
    exact List.all_eq_true.1 hc x (by
      have h2 : P.funcs.toList[f]? = some x := by simpa using this
      exact List.mem_of_getElem? h2)
  refine ⟨fun t i h => ?_, hfn, fun f x h => ?_, fun f x h hb hn => ?_, fun f x h hb hn => ?_, hm⟩
  · rw [Env.ofO, T.get_ofList] at h
    have h2 : P.types[t]? = some i := by simpa using h
    have hlt : t < P.types.size := (Array.getElem?_eq_some_iff.1 h2).1
    show P.info? t = some i
    simp only [Tables.info?, if_pos hlt]
    exact h2
  · have := hall f x h
    simp only [okFn, Bool.and_eq_true, Bool.not_eq_true'] at this
    exact this.1
  · have q := hall f x h
    have ho : Extern.allNextRows.lookup x.origin = none := by simpa [okFn, hb, hn] using q
    exact ⟨findNext_none hn cloneNext ho, find_some hn cloneGen cloneTyped cloneRow⟩
  · have q := hall f x h
    have ho : Extern.allNextRows.lookup x.origin = none := by simpa [okFn, hb, hn] using q
    exact ⟨findNext_none hn ixbNext ho, find_some hn ixbGen ixbTyped ixbRow⟩

theorem OrcOK.none {P : Program} : OrcOK (Env.ofO P []) := fun e he => by cases he
theorem OrcOK.add {P : Program} {l : List Orc} {e : Orc} {N : Nat} (hE : OK (Env.ofO P l)) (hO : OrcOK (Env.ofO P l)) (h : ∀ [F : Facts], checkO (Env.ofO P l) N e = true) : OrcOK (Env.ofO P (e :: l)) := by
  intro x hx
  rcases List.mem_cons.1 hx with rfl | hx
  · exact Orc.valid (E := Env.ofO P l) hE hO h
  · exact hO x hx
end Go.AE

/-! AeTop -/
namespace Go.AE
open Go.RowKit
set_option linter.unusedVariables false

/-! A LAW: a function of plain data, run with unknown arguments; the ways through it parted by a tree of tests. -/

/-- the kinds of a cell -/
inductive Kd where
  | int (k : IntKind)
  | bool
  | str
  | slice

def kindsFs (E : Env) (rec_ : TypeId → Option (List Kd)) : List Field → Nat → Option (List Kd)
  | [], _ => some []
  | f :: r, off => match Nat.beq f.offset off, rec_ f.type with
    | true, some ks => match E.szIs f.type ks.length, kindsFs E rec_ r (off + ks.length) with
      | true, some l => some (ks ++ l)
      | _, _ => none
    | _, _ => none
/-- the kinds of a type's cells -/
def kindsF (E : Env) : Nat → TypeId → Option (List Kd)
  | 0, _ => none
  | n + 1, t => match E.desc t with
    | some (.int k) => some [.int k]
    | some .bool => some [.bool]
    | some .string => some [.str]
    | some (.slice _) => some [.slice]
    | some (.struct fs) => match kindsFs E (kindsF E n) fs.toList 0 with
      | some l => match E.szIs t l.length with
        | true => some l
        | false => none
      | none => none
    | _ => none

def KM : Kd → Value → Prop
  | .int k, v => ∃ n, v = .int k n ∧ (Lit.int k n).wf = true
  | .bool, v => ∃ b, v = .bool b
  | .str, v => ∃ s, v = .string s
  | .slice, v => ∃ a n c, v = .slice a n c
def KL : List Kd → List Value → Prop
  | [], [] => True
  | k :: ks, v :: vs => KM k v ∧ KL ks vs
  | _, _ => False
theorem KL.length : ∀ {ks : List Kd} {vs : List Value}, KL ks vs → ks.length = vs.length
  | [], [], _ => rfl
  | _ :: _, _ :: _, h => by simp [KL.length h.2]
theorem KL.append : ∀ {ks ks' : List Kd} {vs vs' : List Value}, KL ks vs → KL ks' vs' → KL (ks ++ ks') (vs ++ vs')
  | [], _, [], _, _, h => h
  | _ :: _, _, _ :: _, _, h, h' => ⟨h.1, KL.append h.2 h'⟩

def symCell [Facts] (j : Nat) : Kd → AV
  | .int k => mkI k (.var j)
  | .bool => mkB true (.var j)
  | .str => .ss j
  | .slice => .sl j
def symCells [Facts] : Nat → List Kd → List AV
  | _, [] => []
  | j, k :: ks => symCell j k :: symCells (j + 1) ks
def isStructD : TypeDesc → Bool
  | .struct _ => true
  | _ => false
def symArgs [Facts] (E : Env) : Nat → List TypeId → Option (List AV)
  | _, [] => some []
  | j, t :: ts => match E.desc t, kindsF E 20 t with
    | some d, some ks => match symArgs E (j + ks.length) ts with
      | some r => match isStructD d with
        | true => some (.agg (symCells j ks) :: r)
        | false => match symCells j ks with
          | [a] => some (a :: r)
          | _ => none
      | none => none
    | _, _ => none
def allKinds (E : Env) : List TypeId → Option (List Kd)
  | [] => some []
  | t :: ts => match kindsF E 20 t, allKinds E ts with
    | some ks, some l => some (ks ++ l)
    | _, _ => none
def rangeFacts : Nat → List Kd → List (SB × Bool)
  | _, [] => []
  | j, .int k :: r => match decide (k = .i64) with
    | true => rangeFacts (j + 1) r
    | false => (.lss (.var j) (.c k.min), false) :: (.lss (.c k.max) (.var j), false) :: rangeFacts (j + 1) r
  | j, _ :: r => rangeFacts (j + 1) r

inductive DT where
  | leaf
  | split (e : SB) (t f : DT)
def checkDT (run : List (SB × Bool) → Bool) : DT → List (SB × Bool) → Bool
  | .leaf, F => run F
  | .split e t f, F => match checkDT run t ((e, true) :: F) with
    | true => checkDT run f ((e, false) :: F)
    | false => false
def okDone : Option (Bool × AV × AHeap) → Bool
  | some (true, .bool true, _) => true
  | _ => false
def lawRun (E : Env) (N : Nat) (f : FuncId) (ts : List TypeId) (F : List (SB × Bool)) : Bool :=
  match @symArgs ⟨F⟩ E 0 ts with
  | some args => okDone (@callN ⟨F⟩ E N f args { blk := .nil, nx := 0, log := [] })
  | none => false
def lawCheck (E : Env) (N : Nat) (f : FuncId) (ts : List TypeId) (dt : DT) : Bool :=
  match allKinds E ts with
  | some ks => checkDT (lawRun E N f ts) dt (rangeFacts 0 ks)
  | none => false

@[reducible] def noUnk : Unk := { facts := [], V := ⟨fun _ => 0, fun _ => false, fun _ => .empty, fun _ => (none, 0, 0)⟩, ok := by simp }

/-- the unknowns are the arguments' cells -/
def valOf (cs : List Value) : Val where
  I j := match cs[j]? with | some (.int _ n) => n | _ => 0
  B j := match cs[j]? with | some (.bool b) => b | _ => false
  S j := match cs[j]? with | some (.string s) => s | _ => .empty
  L j := match cs[j]? with | some (.slice a n c) => (a, n, c) | _ => (none, 0, 0)

theorem symCells_ok [U : Unk] {all : List Value} (hV : U.V = valOf all) (ρ : Ren) : ∀ (ks : List Kd) (vs : List Value) (j : Nat), (∀ i, i < vs.length → all[j + i]? = vs[i]?) → KL ks vs → VL ρ (symCells j ks) vs
  | [], [], _, _, _ => VL.nil ρ
  | k :: ks, v :: vs, j, hi, h => by
    have h0 : all[j]? = some v := by have := hi 0 (by simp); simpa using this
    refine VL.cons ?_ (symCells_ok hV ρ ks vs (j + 1) (fun i hl => by have := hi (i + 1) (by simp; omega); rw [show j + 1 + i = j + (i + 1) by omega, this]; simp) h.2)
    have hk := h.1
    cases k with
    | int k =>
      obtain ⟨n, rfl, _⟩ := hk
      have := mkI_ok ρ k (.var j)
      have e : evalI U.V (.var j) = n := by rw [hV]; simp [evalI, valOf, h0]
      rw [e] at this; exact this
    | bool =>
      obtain ⟨b, rfl⟩ := hk
      have := mkB_ok ρ true (.var j)
      have e : (evalB U.V (.var j) == true) = b := by rw [hV]; simp [evalB, valOf, h0]
      rw [e] at this; exact this
    | str =>
      obtain ⟨s, rfl⟩ := hk
      have := VR.ss (ρ := ρ) j
      have e : U.V.S j = s := by rw [hV]; simp [valOf, h0]
      rw [e] at this; exact this
    | slice =>
      obtain ⟨a, n, c, rfl⟩ := hk
      have := VR.sl (ρ := ρ) j
      have e : U.V.L j = (a, n, c) := by rw [hV]; simp [valOf, h0]
      rw [e] at this; exact this

theorem rangeFacts_ok {all : List Value} : ∀ (ks : List Kd) (vs : List Value) (j : Nat), (∀ i, i < vs.length → all[j + i]? = vs[i]?) → KL ks vs → ∀ e b, (e, b) ∈ rangeFacts j ks → evalB (valOf all) e = b
  | [], [], _, _, _, e, b, hm => by simp [rangeFacts] at hm
  | k :: ks, v :: vs, j, hi, h, e, b, hm => by
    have h0 : all[j]? = some v := by have := hi 0 (by simp); simpa using this
    have ih := rangeFacts_ok ks vs (j + 1) (fun i hl => by have := hi (i + 1) (by simp; omega); rw [show j + 1 + i = j + (i + 1) by omega, this]; simp) h.2 e b
    cases k with
    | int k =>
      obtain ⟨n, rfl, hw⟩ := h.1
      have e0 : evalI (valOf all) (.var j) = n := by simp [evalI, valOf, h0]
      have hb : k.min ≤ n ∧ n ≤ k.max := by simpa [Lit.wf] using hw
      simp only [rangeFacts] at hm
      split at hm
      · exact ih hm
      · simp only [List.mem_cons, Prod.mk.injEq] at hm
        rcases hm with ⟨rfl, rfl⟩ | ⟨rfl, rfl⟩ | hm
        · have : ¬ (evalI (valOf all) (.var j) < evalI (valOf all) (.c k.min)) := by rw [e0]; simp only [evalI]; omega
          simp only [evalB, decide_eq_false_iff_not]; exact this
        · have : ¬ (evalI (valOf all) (.c k.max) < evalI (valOf all) (.var j)) := by rw [e0]; simp only [evalI]; omega
          simp only [evalB, decide_eq_false_iff_not]; exact this
        · exact ih hm
    | bool => exact ih hm
    | str => exact ih hm
    | slice => exact ih hm

section
variable {E : Env} (hE : OK E) {H : Type} {enc : TypeId × Value → H} {w : World} {base : Nat} {sp : Nat → Bool} {held : Bool}
include hE

omit hE in
theorem szIs_cells (hE : OK E) {t : TypeId} {n : Nat} (h : E.szIs t n = true) : E.P.cellsOf t = n := by
  unfold Env.szIs at h
  cases hi : E.ty.get t with
  | none => rw [hi] at h; cases h
  | some i => rw [hi] at h; simp [Program.cellsOf, hE.ty t i hi, beqT h]

theorem kindsFs_ok {rec_ : TypeId → Option (List Kd)} {m : Nat} {cs : List Value} (hrec : ∀ t ks cs x, rec_ t = some ks → DataW.trod enc E.P w base sp held m t cs = some x → KL ks cs) :
    ∀ (fs : List Field) (off : Nat) (ks : List Kd), kindsFs E rec_ fs off = some ks → (∀ f ∈ fs, ∃ x, DataW.trod enc E.P w base sp held m f.type ((cs.drop f.offset).take (E.P.cellsOf f.type)) = some x) → KL ks ((cs.drop off).take ks.length) := by
  intro fs
  induction fs with
  | nil => intro off ks h _; simp [kindsFs] at h; subst h; simp [KL]
  | cons f r ih =>
    intro off ks h hx
    simp only [kindsFs] at h
    split at h
    · rename_i k1 ho hk
      split at h
      · rename_i l hs hl
        cases h
        obtain ⟨x, hx1⟩ := hx f (by simp)
        have hoff := beqT ho
        have hsz := szIs_cells hE hs
        have q1 := hrec _ _ _ _ hk hx1
        rw [hsz, hoff] at q1
        have q2 := ih _ _ hl (fun f hf => hx f (by simp [hf]))
        have e : (cs.drop off).take (k1 ++ l).length = (cs.drop off).take k1.length ++ (cs.drop (off + k1.length)).take l.length := by
          rw [List.length_append, List.take_add, List.drop_drop]
        rw [e]
        exact q1.append q2
      · cases h
    · cases h

theorem kinds_ok : ∀ (n m : Nat) (t : TypeId) (ks : List Kd) (cs : List Value) (x : DataW H × List MemPlace), kindsF E n t = some ks → DataW.trod enc E.P w base sp held m t cs = some x → KL ks cs := by
  intro n
  induction n with
  | zero => intro m t ks cs x h; simp [kindsF] at h
  | succ n ih =>
    intro m t ks cs x h hx
    simp only [kindsF] at h
    cases hd : E.desc t with
    | none => rw [hd] at h; cases h
    | some d =>
      have hu := OK.und (U := noUnk) hE hd
      rw [hd] at h
      cases m with
      | zero => simp [DataW.trod] at hx
      | succ m =>
      cases d <;> first | (cases h; done) | skip
      case bool =>
        cases h
        unfold DataW.trod at hx
        rw [hu] at hx
        split at hx <;> simp_all [KL, KM]
      case int k =>
        cases h
        unfold DataW.trod at hx
        rw [hu] at hx
        split at hx <;> simp_all [KL, KM]
      case string =>
        cases h
        unfold DataW.trod at hx
        rw [hu] at hx
        split at hx <;> simp_all [KL, KM]
      case slice e =>
        cases h
        unfold DataW.trod at hx
        rw [hu] at hx
        split at hx <;> simp_all [KL, KM]
      case struct fs =>
        simp only at h
        split at h
        · rename_i l hl
          split at h
          · rename_i hs
            cases h
            obtain ⟨xs, q, e1, e2, e3, e4, e5⟩ := DataW.trod_struct hu hx
            have := kindsFs_ok hE (m := q) (cs := cs) (fun t ks cs x a b => ih q t ks cs x a b) fs.toList 0 ks hl (fun f hf => by
              obtain ⟨i, hi, rfl⟩ := List.getElem_of_mem hf
              have hi' : i < fs.size := by simpa using hi
              have h5 := e5 i fs[i] (by simp [hi'])
              have hxi : i < xs.length := by omega
              exact ⟨xs[i], by simpa [hxi] using h5⟩)
            have hlen : cs.length = ks.length := by rw [e3, szIs_cells hE hs]
            rw [List.drop_zero, ← hlen, List.take_length] at this
            exact this
          · cases h
        · cases h

/-- the arguments: their kinds, and what stands for them -/
theorem args_ok : ∀ (ts : List TypeId) (vs : List Value) (ds : List (DataW H)) (ps : List MemPlace) (ks : List Kd), DataW.TrodAll enc E.P w base sp held ts vs ds ps →
    (∀ (j : Nat) t v, ts[j]? = some t → vs[j]? = some v → ∃ r b0, Value.okWide E.P w r b0 t v) → allKinds E ts = some ks →
    ∃ cs : List Value, KL ks cs ∧ ∀ (U : Unk) (all : List Value) (j : Nat) (args : List AV) (ρ : Ren), U.V = valOf all → (∀ i, i < cs.length → all[j + i]? = cs[i]?) → symArgs E j ts = some args → VL ρ args vs := by
  intro ts
  induction ts with
  | nil =>
    intro vs ds ps ks hA hval hk
    cases vs with
    | nil =>
      simp [allKinds] at hk
      subst hk
      exact ⟨[], trivial, fun U all j args ρ _ _ ha => by simp [symArgs] at ha; subst ha; exact VL.nil ρ⟩
    | cons => cases ds <;> simp [DataW.TrodAll] at hA
  | cons t ts ih =>
    intro vs ds ps ks hA hval hk
    cases vs with
    | nil => cases ds <;> simp [DataW.TrodAll] at hA
    | cons v vs =>
      cases ds with
      | nil => simp [DataW.TrodAll] at hA
      | cons d ds =>
        obtain ⟨p, q, ⟨fuel, hx⟩, hA2, _⟩ := hA
        simp only [allKinds] at hk
        split at hk
        · rename_i k1 l h1 hl
          cases hk
          obtain ⟨cs, q1, q2⟩ := ih vs ds q l hA2 (fun j t v ht hv => hval (j + 1) t v (by simpa using ht) (by simpa using hv)) hl
          have hkl := kinds_ok hE 20 fuel t k1 _ _ h1 hx
          refine ⟨v.cells.toList ++ cs, hkl.append q1, ?_⟩
          intro U all j args ρ hV hall ha
          obtain ⟨r, b0, hok⟩ := hval 0 t v rfl rfl
          simp only [symArgs] at ha
          split at ha
          · rename_i d0 k1' hd h1'
            rw [h1] at h1'
            cases h1'
            have hu := OK.und (U := noUnk) hE hd
            split at ha
            · rename_i rr hrr
              have tail := q2 U all (j + k1.length) rr ρ hV (fun i hi => by
                have := hall (v.cells.toList.length + i) (by simp only [List.length_append]; omega)
                rw [List.getElem?_append_right (by omega), ← hkl.length] at this
                rw [show j + k1.length + i = j + (k1.length + i) by omega, this]
                congr 1; omega) hrr
              have head := symCells_ok hV ρ k1 v.cells.toList j (fun i hi => by
                have := hall i (by simp only [List.length_append]; omega)
                rw [this, List.getElem?_append_left hi]) hkl
              split at ha
              · rename_i hs
                cases ha
                refine VL.cons ?_ tail
                cases d0 <;> simp [isStructD] at hs
                unfold Value.okWide at hok
                rw [hu] at hok
                obtain ⟨cs', rfl, _⟩ := hok
                exact .agg _ cs'.toList head.1 head.2
              · rename_i hs
                split at ha
                · rename_i a hsym
                  cases ha
                  refine VL.cons ?_ tail
                  rw [hsym] at head
                  have hv1 : v.cells.toList = [v] := by
                    cases v <;> first | rfl | skip
                    rename_i cs'
                    exfalso
                    unfold Value.okWide at hok
                    rw [hu] at hok
                    unfold kindsF at h1
                    rw [hd] at h1
                    cases d0 <;> simp [isStructD] at hs <;> first | (cases h1; done) | skip
                    all_goals simp [Cell.okWide, Cell.ok, hu] at hok
                  rw [hv1] at head
                  obtain ⟨v', r', e1, e2, _⟩ := head.cons_inv
                  cases e1
                  exact e2
                · cases ha
            · cases ha
          · cases ha
        · cases hk

omit hE in
theorem empty_HR [U : Unk] (w : World) : HR (fun _ => none) (T.nil : T ABlk).get w := ⟨fun b base h => by simp at h, fun b base x h => by simp at h, fun b b' base base' _ h => by simp at h⟩

theorem leaf_ok (hO : OrcOK E) {N : Nat} {f : FuncId} {ts : List TypeId} {vs all : List Value} {F : List (SB × Bool)} (hF : ∀ e b, (e, b) ∈ F → evalB (valOf all) e = b)
    (hargs : ∀ (U : Unk) (args : List AV) (ρ : Ren), U.V = valOf all → symArgs E 0 ts = some args → VL ρ args vs) (hc : lawRun E N f ts F = true) (W : World) :
    Calls E.P f vs.toArray W fun e W' => e = .returned (.bool true) ∧ Below W.heap.size W W' := by
  let U : Unk := { facts := F, V := valOf all, ok := hF }
  unfold lawRun at hc
  split at hc
  · rename_i args ha
    have hv := hargs U args (fun _ => none) rfl ha
    generalize hcall : @callN ⟨F⟩ E N f args { blk := .nil, nx := 0, log := [] } = o at hc
    unfold okDone at hc
    split at hc
    · rename_i h'
      refine (calls_ok (U := U) hE hO hcall hv (empty_HR W) (fun b _ => rfl) (fun b _ _ => rfl)).mono ?_
      rintro e W' ⟨σ, v', rfl, q1, q2, q3⟩
      cases q1
      exact ⟨rfl, q3.calm.os, q3.calm.tape, q3.calm.output, q3.calm.size, fun k hk => q3.kept k hk (fun b base h => by simp at h)⟩
    · cases hc
  · cases hc

theorem dt_ok (hO : OrcOK E) {N : Nat} {f : FuncId} {ts : List TypeId} {vs all : List Value} (hargs : ∀ (U : Unk) (args : List AV) (ρ : Ren), U.V = valOf all → symArgs E 0 ts = some args → VL ρ args vs) (W : World) :
    ∀ (dt : DT) (F : List (SB × Bool)), (∀ e b, (e, b) ∈ F → evalB (valOf all) e = b) → checkDT (lawRun E N f ts) dt F = true → Calls E.P f vs.toArray W fun e W' => e = .returned (.bool true) ∧ Below W.heap.size W W' := by
  intro dt
  induction dt with
  | leaf => intro F hF hc; exact leaf_ok hE hO hF hargs hc W
  | split e t f iht ihf =>
    intro F hF hc
    simp only [checkDT] at hc
    split at hc
    · rename_i ht
      cases he : evalB (valOf all) e with
      | true => exact iht _ (fun e' b' hm => by
          simp only [List.mem_cons, Prod.mk.injEq] at hm
          rcases hm with ⟨rfl, rfl⟩ | hm
          · exact he
          · exact hF e' b' hm) ht
      | false => exact ihf _ (fun e' b' hm => by
          simp only [List.mem_cons, Prod.mk.injEq] at hm
          rcases hm with ⟨rfl, rfl⟩ | hm
          · exact he
          · exact hF e' b' hm) hc
    · cases hc

theorem law_ok (hO : OrcOK E) {N : Nat} {f : FuncId} {ts : List TypeId} {vs : List Value} {ds : List (DataW H)} {ps : List MemPlace} {dt : DT} (hA : DataW.TrodAll enc E.P w base sp held ts vs ds ps)
    (hval : ∀ (j : Nat) t v, ts[j]? = some t → vs[j]? = some v → ∃ r b0, Value.okWide E.P w r b0 t v) (hc : lawCheck E N f ts dt = true) (W : World) :
    Calls E.P f vs.toArray W fun e W' => e = .returned (.bool true) ∧ Below W.heap.size W W' := by
  unfold lawCheck at hc
  split at hc
  · rename_i ks hk
    obtain ⟨cs, q1, q2⟩ := args_ok hE ts vs ds ps ks hA hval hk
    exact dt_ok hE hO (all := cs) (fun U args ρ hV ha => q2 U cs 0 args ρ hV (fun i _ => by simp) ha) W dt _ (rangeFacts_ok ks cs 0 (fun i _ => by simp) q1) hc
  · cases hc
end

/-! the row -/
theorem trodAll_len {H : Type} {enc : TypeId × Value → H} {P : Program} {w : World} {base : Nat} {sp : Nat → Bool} {held : Bool} : ∀ {ts : List TypeId} {vs : List Value} {ds : List (DataW H)} {ps : List MemPlace}, DataW.TrodAll enc P w base sp held ts vs ds ps → ds.length = ts.length
  | [], [], [], _, _ => rfl
  | _ :: _, _ :: _, _ :: _, _, ⟨_, _, _, h, _⟩ => by simp [trodAll_len h]
  | [], _ :: _, _, _, h => by simp [DataW.TrodAll] at h
  | [], [], _ :: _, _, h => by simp [DataW.TrodAll] at h
  | _ :: _, [], _, _, h => by simp [DataW.TrodAll] at h
  | _ :: _, _ :: _, [], _, h => by simp [DataW.TrodAll] at h

theorem trodAll_below {H : Type} {enc : TypeId × Value → H} {P : Program} (hl : laidOutB P = true) {W W' : World} (hb : Below W.heap.size W W') : ∀ {ts : List TypeId} {vs : List Value} {ds : List (DataW H)} {ps : List MemPlace},
    (∀ t ∈ ts, P.readableRec t = true ∧ t < P.types.size) → DataW.TrodAll enc P W 0 (fun _ => true) true ts vs ds ps → (∀ x ∈ ps, x.block < W.heap.size) → DataW.TrodAll enc P W' 0 (fun b => decide (b < W.heap.size)) true ts vs ds ps
  | [], [], [], _, _, h, _ => h
  | t :: ts, v :: vs, d :: ds, ps, hr, ⟨p, q, h1, h2, he⟩, hlt => by
    subst he
    exact ⟨p, q, Below.trod hl (hr t (by simp)).1 (hr t (by simp)).2 h1 hb (fun x hx => hlt x (by simp [hx])), trodAll_below hl hb (fun t ht => hr t (by simp [ht])) h2 (fun x hx => hlt x (by simp [hx])), rfl⟩
  | [], _ :: _, _, _, _, h, _ => by simp [DataW.TrodAll] at h
  | [], [], _ :: _, _, _, h, _ => by simp [DataW.TrodAll] at h
  | _ :: _, [], _, _, _, h, _ => by simp [DataW.TrodAll] at h
  | _ :: _, _ :: _, [], _, _, h, _ => by simp [DataW.TrodAll] at h

theorem law_lifted {H : Type} {enc : TypeId × Value → H} {a : Assume} {C : Checked} {os : Os} {f : FuncId} {fn : Func} {s : ChangeSpec} {conds : List PathCond} {apart : Bool} {N : Nat} {dt : DT} {tb : TypeId} {l : List Orc}
    (own : ownKnob C.prog.godebug = none) (started : os.Started) (noInit : C.prog.inits.idxOf? f = none) (hfn : C.prog.funcs[f]? = some fn)
    (witness : ∃ (w : World) (tape : Tape) (i : Input), w.os = os ∧ (w.forCall tape i).Shaped C.prog ∧ i.vars = [] ∧ Input.okWide C.prog (w.forCall tape i) .any w.heap.size f i ∧
      s.pre6 enc C.prog fn conds apart (w.forCall tape i).memory i.args ∧ a.holds C.prog (lone (Frame.enter C.prog f i.args .normal) [] (w.forCall tape i)))
    (hl : laidOutB C.prog = true) (hr : ∀ t ∈ fn.params.toList, C.prog.readableRec t = true ∧ t < C.prog.types.size) (hvars : s.vars = [])
    (hspec : ∀ ds : List (DataW H), ds.length = fn.params.toList.length → s.fn H ds = { results := [.lit (.bool true)], args := ds })
    (hres : fn.resultTypes = #[tb]) (hb : C.prog.underlying tb = some .bool) (hE : OK (Env.ofO C.prog l)) (hO : OrcOK (Env.ofO C.prog l)) (hc : lawCheck (Env.ofO C.prog l) N f fn.params.toList dt = true) :
    ReturnsInHanded a C os f .any (s.pre6 enc C.prog fn conds apart) (s.post enc C.prog fn apart true false false) := by
  refine returnsInHanded_of_change own started noInit hfn witness ?_
  intro W base args ds gs before hval hW hcnd _
  have hW' := hW
  obtain ⟨p, q, hA, hV, rfl, hfz, hnd⟩ := hW
  rw [hvars] at hV
  have hgs : gs = [] ∧ q = [] := by
    cases gs with
    | nil => exact ⟨rfl, hV⟩
    | cons => simp [DataW.TrodVars] at hV
  obtain ⟨rfl, rfl⟩ := hgs
  have hlen := trodAll_len hA
  have hsp := hspec ds hlen
  refine (law_ok (E := Env.ofO C.prog l) hE hO hA (fun j t v ht hv => ⟨_, _, hval j t v (by simpa using ht) (by simpa using hv)⟩) hc W).mono ?_
  rintro e W' ⟨rfl, hbelow⟩
  refine ⟨.bool true, rfl, ds, [], p ++ [], [], p, [], hW', ?_, ?_, ?_, hbelow.frame _, fun h => by cases h⟩
  · rw [List.append_nil, hsp, hres]
    exact ⟨[], [], shut_bool hb true, rfl, rfl⟩
  · rw [List.append_nil, hsp]
    exact trodAll_below hl hbelow hr hA (fun x hx => hW'.lt x (by simp [hx]))
  · rw [List.append_nil, hsp, hvars]; rfl
end Go.AE
