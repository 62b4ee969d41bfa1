/- What is proved here: an evaluator of the model's steps that the kernel can run, and that whatever it answers is what the model does (part 3 of 6: AeDat3, AeDat4, AeFrz, AeDat5, AeSlc, AeEqS, AeMap, AeMap2, AeCat, AeOps19). Conditions: those that each theorem states; they hold of no one program. -/
import Derived.Test.YtpcdkfgmpekeeaaBeB
import Derived.Laws.BytesString
set_option linter.unusedVariables false
set_option linter.unusedSectionVars false
set_option linter.unusedSimpArgs false
namespace Go.AE
variable [U : Unk]
def Bj (K : TypeId → Option (List Kd)) (M : Nat → Option (Array Value)) (ks : List Kd) (vs : List Value) (rows : List D) : Prop :=
 vs.length = rows.length * ks.length ∧ (∀ i, i < rows.length → (rows.getD i default).cells.length = ks.length) ∧
  ∀ i j kd, i < rows.length → ks[j]? = some kd → DV K M kd (vs.getD (i * ks.length + j) Go.undef) ((rows.getD i default).cells.getD j default)
section
variable {K : TypeId → Option (List Kd)} {M : Nat → Option (Array Value)} {ks : List Kd}
omit U
theorem Bj.nil : Bj K M ks [] [] := ⟨by simp, fun i h => by simp at h, fun i j kd h => by simp at h⟩
theorem OI {l m : List D} {i : Nat} : (l ++ m).getD i default = if i < l.length then l.getD i default else m.getD (i - l.length) default := by
 simp only [List.getD_eq_getElem?_getD];by_cases h : i < l.length
 ·rw [if_pos h, List.getElem?_append_left h]
 ·rw [if_neg h, List.getElem?_append_right (by omega)]
theorem So {l m : List Value} {i : Nat} : (l ++ m).getD i Go.undef = if i < l.length then l.getD i Go.undef else m.getD (i - l.length) Go.undef := by
 simp only [List.getD_eq_getElem?_getD];by_cases h : i < l.length
 ·rw [if_pos h, List.getElem?_append_left h]
 ·rw [if_neg h, List.getElem?_append_right (by omega)]
theorem Pk {i n l j : Nat} (hi : i < n) (hj : j < l) : i * l + j < n * l := by
 have := Nat.mul_le_mul_right l hi;rw [Nat.succ_mul] at this;omega
theorem Bj.append {vs ws : List Value} {r s : List D} (h : Bj K M ks vs r) (k : Bj K M ks ws s) : Bj K M ks (vs ++ ws) (r ++ s) := by
 refine ⟨by simp [h.1, k.1, Nat.add_mul], fun i hi => ?_, fun i j kd hi hj => ?_⟩
 ·rw [OI];simp only [List.length_append] at hi;split
  ·rename_i c; exact h.2.1 i c
  ·exact k.2.1 _ (by omega)
 ·have hjl : j < ks.length := (List.getElem?_eq_some_iff.1 hj).1;simp only [List.length_append] at hi;rw [OI, So, h.1];by_cases c : i < r.length
  ·rw [if_pos c, if_pos (Pk c hjl)];exact h.2.2 i j kd c hj
  ·rw [if_neg c, if_neg (by
    have := Nat.mul_le_mul_right ks.length (Nat.le_of_not_lt c);omega)]
   have e : i * ks.length + j - r.length * ks.length = (i - r.length) * ks.length + j := by
    have := Nat.mul_le_mul_right ks.length (Nat.le_of_not_lt c);rw [Nat.sub_mul]; omega
   rw [e];exact k.2.2 _ j kd (by omega) hj
theorem Bj.at {vs : List Value} {rows : List D} {cur : Array Value} {off : Nat} (h : Bj K M ks vs rows) (hs : off + vs.length ≤ cur.size) (hg : ∀ q, q < vs.length → cur[off + q]? = vs[q]?) : Bl K M ks cur off rows := by
 refine ⟨by rw [← h.1]; exact hs, h.2.1, fun i j kd hi hj => ?_⟩
 have hjl : j < ks.length := (List.getElem?_eq_some_iff.1 hj).1;have := h.2.2 i j kd hi hj;have hq : i * ks.length + j < vs.length := by rw [h.1]; exact Pk hi hjl
 have e : cur.getD (off + i * ks.length + j) Go.undef = vs.getD (i * ks.length + j) Go.undef := by
  simp only [Array.getD_eq_getD_getElem?, List.getD_eq_getElem?_getD];rw [Nat.add_assoc, hg _ hq]
 rw [e]; exact this
theorem Bl.vals {rows : List D} {cur : Array Value} {off : Nat} (h : Bl K M ks cur off rows) : Bj K M ks ((cur.toList.drop off).take (rows.length * ks.length)) rows := by
 refine ⟨by have := h.1; simp; omega, h.2.1, fun i j kd hi hj => ?_⟩
 have hjl : j < ks.length := (List.getElem?_eq_some_iff.1 hj).1;have := h.2.2 i j kd hi hj
 have e : ((cur.toList.drop off).take (rows.length * ks.length)).getD (i * ks.length + j) Go.undef = cur.getD (off + i * ks.length + j) Go.undef := by
  simp only [Array.getD_eq_getD_getElem?, List.getD_eq_getElem?_getD];rw [List.getElem?_take, if_pos (Pk hi hjl), List.getElem?_drop, Array.getElem?_toList, Nat.add_assoc]
 rw [e]; exact this
theorem Bj.mono {N : Nat → Option (Array Value)} (hle : ∀ k a, M k = some a → N k = some a) {vs : List Value} {rows : List D} (h : Bj K M ks vs rows) : Bj K N ks vs rows :=
 ⟨h.1, h.2.1, fun i j kd a b => (h.2.2 i j kd a b).mono hle⟩
end
section
variable {ρ : Ren}
theorem Ex : ∀ (ks : List Kd) (l : List AV) (vs : List Value) (r : SE), F7 ks l = some r → VL ρ l vs → (Ab U.V r).cells.length = ks.length ∧ vs.length = ks.length ∧ ∀ j kd, ks[j]? = some kd → DV U.K ρ.imm kd (vs.getD j Go.undef) ((Ab U.V r).cells.getD j default)
 | [], [], vs, r, h, hv => by
  simp only [F7, Option.some.injEq] at h;subst h;have := hv.nil_inv;subst this;exact ⟨rfl, rfl, fun j kd hj => by simp at hj⟩
 | k :: ks, a :: l, vs, r, h, hv => by
  obtain ⟨v, vr, rfl, ha, hr⟩ := hv.cons_inv;simp only [F7] at h;split at h
  ·rename_i x y hx hy;cases h;obtain ⟨h1, h2, h3⟩ := Ex ks l vr y hy hr;have ec : (Ab U.V (.rcons x y)).cells = Ab U.V x :: (Ab U.V y).cells := rfl;rw [ec];refine ⟨by simp [h1], by simp [h2], fun j kd hj => ?_⟩
   cases j with
   | zero =>
    simp only [List.getElem?_cons_zero, Option.some.injEq] at hj;subst hj;exact Jq ha hx
   | succ j =>
    simp only [List.getElem?_cons_succ] at hj;exact h3 j kd hj
  ·cases h
 | [], _ :: _, _, _, h, _ => by cases h
 | _ :: _, [], _, _, h, _ => by cases h
theorem Bj.one {ks : List Kd} {vs : List Value} {r : D} (h1 : r.cells.length = ks.length) (h2 : vs.length = ks.length) (h3 : ∀ j kd, ks[j]? = some kd → DV U.K ρ.imm kd (vs.getD j Go.undef) (r.cells.getD j default)) : Bj U.K ρ.imm ks vs [r] := by
 refine ⟨by simp [h2], fun i hi => ?_, fun i j kd hi hj => ?_⟩
 ·have : i = 0 := by simpa using hi
  subst this; exact h1
 ·have : i = 0 := by simpa using hi
  subst this;simpa using h3 j kd hj
theorem ED {ks : List Kd} : ∀ (n : Nat) (y y' : SE) (l : List AV) (vs : List Value), DE ks n y l = some y' → VL ρ l vs → ∃ rs : List D, rs.length = n ∧ (Ab U.V y').rows = (Ab U.V y).rows ++ rs ∧ Bj U.K ρ.imm ks vs rs
 | 0, y, y', [], vs, h, hv => by
  simp only [DE, Option.some.injEq] at h;subst h;have := hv.nil_inv;subst this;exact ⟨[], rfl, by simp, .nil⟩
 | 0, y, y', _ :: _, vs, h, hv => by cases h
 | n + 1, y, y', l, vs, h, hv => by
  simp only [DE] at h;split at h
  ·rename_i r hr;obtain ⟨h1, h2, h3⟩ := Ex ks _ (vs.take ks.length) r hr (hv.take _);obtain ⟨rs, q1, q2, q3⟩ := ED n _ y' _ (vs.drop ks.length) h (hv.drop _);refine ⟨Ab U.V r :: rs, by simp [q1], ?_, ?_⟩
   ·rw [q2];show ((Ab U.V y).rows ++ [Ab U.V r]) ++ rs = _;simp
   ·have := (Bj.one h1 h2 h3).append q3;simpa using this
  ·cases h
variable {E : Env} (hE : OK E) {h : Aa} {w : World}
include hE
theorem Ij {e : TypeId} {ks : List Kd} {b off n es : Nat} {l : List AV} {sv : Value} (hr : HR ρ h.blk.get w) (hx : VR ρ (.slice b off n es) sv) (hl : Dx h b off (n * es) = some l) :
  ∃ vs, VL ρ l vs ∧ vs.length = n * es ∧ ((n = 0 ∧ ∃ a, sv = .slice (some a) 0 0) ∨ ∃ base cur et fz cap sz c, ρ b = some base ∧ h.blk.get b = some (.cells sz c) ∧ sv = .slice (some ⟨base.cb, base.co + off, none⟩) n cap ∧ n ≤ cap ∧ base.co + off + cap * es ≤ base.csz ∧ w.heap[base.cb]? = some (.cells cur et fz) ∧ cur.size = base.csz ∧ (fz.1 = fz.2 ∨ base.csz ≤ fz.1) ∧
   ∀ q, q < vs.length → cur[base.co + off + q]? = vs[q]?) := by
 cases hx with
 | slice _ _ _ _ cap base hb hc hz =>
  unfold Dx at hl;split at hl
  ·rename_i sz c hg;split at hl
   ·rename_i hle;obtain ⟨vs, q1, q2, q3⟩ := hr.loadCells E.P hb hg (C7 hle) hl;obtain ⟨cur, et, fz, r1, r2, r3, r4, r5⟩ := hr.blk b base _ hb hg;have hlen : vs.length = n * es := by rw [← q1.1]; exact (T.range_spec c _ _ _ hl).1
    refine ⟨vs, q1, hlen, .inr ⟨base, cur, et, fz, cap, sz, c, hb, hg, rfl, hc, hz, r1, r2, r4, fun q hq => ?_⟩⟩
    have hv : vs[q]? = some vs[q] := by simp [hq]
    have := q3 q _ hv;rw [hv];simpa [World.cell?, r1] using this
   ·cases hl
  ·cases hl
 | sliceEnd _ _ _ a =>
  unfold Dx at hl;split at hl
  ·rename_i sz c hg;split at hl
   ·have e0 : 0 * es = 0 := by simp
    rw [e0] at hl;simp only [T.range, Option.some.injEq] at hl;subst hl;exact ⟨[], VL.nil ρ, by simp, .inl ⟨rfl, a, rfl⟩⟩
   ·cases hl
  ·cases hl
theorem WD (hr : HR ρ h.blk.get w) {t' e e' : TypeId} {inf : TypeInfo} {ks : List Kd} (hk : E.kinds e = some ks) (hsz : ks.length = inf.size) (ht' : E.P.underlying t' = some (.slice e')) {y y' m : SE} {x : AV} {xv : Value} (hx : VR ρ x xv) (hs : VV e ks h y x = some (y', m)) :
  ∃ rs nv, (Ab U.V y').rows = (Ab U.V y).rows ++ rs ∧ Ac U.V m = (rs.length : Nat) ∧ Bj U.K ρ.imm ks nv rs ∧ UB E.P w t' e inf xv rs.length nv := by
 have hk2 : U.K e = some ks := by rw [hE.kd, ← hE.ke]; exact hk
 have none_ : ∀ a : Option Addr, UB E.P w t' e inf (.slice a 0 0) 0 [] := by
  intro a;refine .cells _ ht' (.inl ⟨e', rfl⟩) (by simp [Builtin.lenOf]) (fun w' _ => ?_)
  cases a with
  | none => simp [Builtin.firstCells]
  | some a => simp [Builtin.firstCells, loadCells, loadCellsFrom]
 unfold VV at hs;split at hs
 ·cases hs; cases hx;exact ⟨[], [], by simp, rfl, .nil, none_ none⟩
 ·cases hs; cases hx;exact ⟨[], [], by simp, rfl, .nil, none_ _⟩
 ·rename_i e1 x';split at hs
  ·rename_i hc;cases hs;have := AA hc;subst this;cases hx with
   | dat _ _ a n c hd =>
    obtain ⟨_, _, _, q1, q2⟩ := hd.slice_inv;cases q1;have er : (Ab U.V (.cat y x')).rows = (Ab U.V y).rows ++ (Ab U.V x').rows := rfl;by_cases hn : n = 0
    ·subst hn;have e0 : (Ab U.V x').rows = [] := List.eq_nil_of_length_eq_zero q2;refine ⟨[], [], by rw [er, e0], by rw [Ak, e0], .nil, ?_⟩
     refine .cells _ ht' (.inl ⟨e', rfl⟩) (by simp [Builtin.lenOf]) (fun w' _ => ?_)
     cases a with
     | none => simp [Builtin.firstCells]
     | some a => simp [Builtin.firstCells, loadCells, loadCellsFrom]
    ·obtain ⟨b, o, rfl, hcap⟩ := hd.at (by omega)
     generalize hdd : Ab U.V x' = d at hd;cases hd with
     | slc _ _ _ _ _ _ ks' arr hk' ha hn' hc' h1 hin hrow hv =>
      rw [hk2] at hk'; cases hk';obtain ⟨et, fz, hw⟩ := hr.imm b arr ha;have hra : Bl U.K ρ.imm ks arr o d.rows := ⟨by rw [hn']; exact hin, fun i hi => hrow i (by omega), fun i j kd hi hj => hv i j kd (by omega) hj⟩
      refine ⟨d.rows, _, by rw [er, hdd], by rw [Ak, hdd], hra.vals, ?_⟩
      rw [hn'];refine .cells _ ht' (.inl ⟨e', rfl⟩) (by simp [Builtin.lenOf]) (fun w' hw' => ?_)
      simp only [Builtin.firstCells, ← hsz];exact AH E.P w' b o (n * ks.length) arr et fz (by rw [hw']; exact hw) hin
     | empty => omega
  ·cases hs
 ·rename_i b es n nl;split at hs
  ·rename_i e1 z hes hb;split at hs
   ·rename_i hc;cases hs;obtain ⟨c1, c2⟩ := Av hc;have := AA c1;subst this;have := AA hes;subst this;have hx := Iu c2 hx;clear c2;have er : (Ab U.V (.cat y z)).rows = (Ab U.V y).rows ++ (Ab U.V z).rows := rfl;cases hx with
    | asl _ _ _ _ cap base hρ h0 hcap hz hnl =>
     obtain ⟨ks', cur, et, fz, b1, b2, b3, b4, b5⟩ := hr.blk b base _ hρ hb;rw [hk2] at b1; cases b1;refine ⟨(Ab U.V z).rows, _, er, Ak, b5.vals, ?_⟩;have e2 : (Ac U.V (.lenL z)).toNat = (Ab U.V z).rows.length := by rw [Ak]; simp
     rw [e2];refine .cells _ ht' (.inl ⟨e', rfl⟩) (by simp [Builtin.lenOf]) (fun w' hw' => ?_)
     simp only [Builtin.firstCells, ← hsz];exact AH E.P w' base.cb base.co _ cur et fz (by rw [hw']; exact b2) b5.1
    | aslEnd _ _ _ _ a h0 hnl =>
     rw [Ak] at h0;have e0 : (Ab U.V z).rows = [] := List.eq_nil_of_length_eq_zero (by omega)
     exact ⟨[], [], by rw [er, e0], by rw [Ak, e0], .nil, none_ a⟩
   ·cases hs
  ·cases hs
 ·rename_i b off n es;split at hs
  ·rename_i hes;split at hs
   ·rename_i l hl;split at hs
    ·rename_i y1 hy;cases hs;have := AA hes;subst this;obtain ⟨vs, v1, v2, v3⟩ := Ij hE (e := e) (ks := ks) hr hx hl;obtain ⟨rs, q1, q2, q3⟩ := ED n y y' l vs hy v1;refine ⟨rs, vs, q2, by rw [q1]; rfl, q3, ?_⟩
     rw [q1];rcases v3 with ⟨rfl, a, rfl⟩ | ⟨base, cur, et, fz, cap, sz, c, p1, p2, rfl, p4, p5, p6, p7, p8, p9⟩
     ·have : vs = [] := List.eq_nil_of_length_eq_zero (by simpa using v2)
      subst this;exact none_ (some a)
     ·refine .cells _ ht' (.inl ⟨e', rfl⟩) (by simp [Builtin.lenOf]) (fun w' hw' => ?_)
      have hle : n * ks.length ≤ cap * ks.length := Nat.mul_le_mul_right _ p4;have := AH E.P w' base.cb (base.co + off) (n * ks.length) cur et fz (by rw [hw']; exact p6) (by rw [p7]; omega)
      simp only [Builtin.firstCells, ← hsz, this]
      congr 2
      apply List.ext_getElem?;intro q;rw [List.getElem?_take];by_cases hq : q < n * ks.length
      ·rw [if_pos hq, List.getElem?_drop, Array.getElem?_toList, p9 q (by omega)]
      ·rw [if_neg hq, List.getElem?_eq_none (by omega)]
    ·cases hs
   ·cases hs
  ·cases hs
 ·cases hs
inductive JN (ρ : Ren) (h : Aa) (w : World) (ks : List Kd) (ys nls : SE) : Option Nat → Value → Prop
 | none (b : Option Nat) (a : Option Addr) (hy : (Ab U.V ys).rows = []) (hn : a.isNone = Ad U.V nls) : JN ρ h w ks ys nls b (.slice a 0 0)
 | blk (b off cap : Nat) (base : C3) (cur : Array Value) (et : TypeId) (fz : Nat × Nat) (hb : ρ b = some base) (hl : h.blk.get b ≠ .none) (hc : (Ab U.V ys).rows.length ≤ cap) (hz : base.co + off + cap * ks.length ≤ base.csz)
   (hw : w.heap[base.cb]? = some (.cells cur et fz)) (hs : cur.size = base.csz) (hf : fz.1 = fz.2 ∨ base.csz ≤ fz.1) (hv : Bl U.K ρ.imm ks cur (base.co + off) (Ab U.V ys).rows) (hn : Ad U.V nls = false) :
   JN ρ h w ks ys nls (some b) (.slice (some ⟨base.cb, base.co + off, .none⟩) (Ab U.V ys).rows.length cap)
theorem UZ (hr : HR ρ h.blk.get w) {e : TypeId} {ks : List Kd} (hk : E.kinds e = some ks) {s : AV} {sv : Value} {ys nls : SE} {bs : Option Nat} (hx : VR ρ s sv) (hb : Ru e ks h s = some (ys, nls, bs)) : JN ρ h w ks ys nls bs sv := by
 have hk2 : U.K e = some ks := by rw [hE.kd, ← hE.ke]; exact hk
 unfold Ru at hb;split at hb
 ·cases hb; cases hx;exact .none _ _ rfl rfl
 ·cases hb; cases hx;rename_i a hn;exact .none _ _ rfl hn
 ·rename_i b off n es;split at hb
  ·rename_i hes;split at hb
   ·rename_i l hl;split at hb
    ·rename_i y hy;cases hb;have := AA hes;subst this;obtain ⟨vs, v1, v2, v3⟩ := Ij hE (e := e) (ks := ks) hr hx hl;obtain ⟨rs, q1, q2, q3⟩ := ED n .emptyL ys l vs hy v1;have er : (Ab U.V ys).rows = rs := by rw [q2]; rfl
     rcases v3 with ⟨rfl, a, rfl⟩ | ⟨base, cur, et, fz, cap, sz, c, p1, p2, rfl, p4, p5, p6, p7, p8, p9⟩
     ·exact .none _ _ (by rw [er]; exact List.eq_nil_of_length_eq_zero q1) rfl
     ·have hle : n * ks.length ≤ cap * ks.length := Nat.mul_le_mul_right _ p4
      have := JN.blk (ρ := ρ) (h := h) (w := w) (ks := ks) (ys := ys) (nls := .bc false) b off cap base cur et fz p1 (by rw [p2]; exact Option.some_ne_none _) (by rw [er, q1]; exact p4) p5 p6 p7 p8
       (by rw [er]; exact q3.at (by rw [v2, p7]; omega) p9) rfl
      rw [er, q1] at this;exact this
    ·cases hb
   ·cases hb
  ·cases hb
 ·rename_i b es n nl;split at hb
  ·rename_i e1 z hes hbk;split at hb
   ·rename_i hc;cases hb;obtain ⟨c1, c2⟩ := Av hc;have := AA c1;subst this;have := AA hes;subst this;have hx := Iu c2 hx;clear c2;cases hx with
    | asl _ _ _ _ cap base hρ h0 hcap hz hnl =>
     obtain ⟨ks', cur, et, fz, b1, b2, b3, b4, b5⟩ := hr.blk b base _ hρ hbk;rw [hk2] at b1; cases b1;have e2 : (Ac U.V (.lenL ys)).toNat = (Ab U.V ys).rows.length := by rw [Ak]; simp
     rw [e2] at hcap ⊢;exact JN.blk (ρ := ρ) (h := h) (w := w) (ks := ks) b 0 cap base cur et fz hρ (by rw [hbk]; exact Option.some_ne_none _) hcap (by simpa using hz) b2 b3 b4 (by simpa using b5) hnl
    | aslEnd _ _ _ _ a h0 hnl =>
     rw [Ak] at h0;exact .none _ _ (List.eq_nil_of_length_eq_zero (by omega)) hnl
   ·cases hb
  ·cases hb
 ·cases hb
omit hE in
theorem HR.phantom (hr : HR ρ h.blk.get w) (hf : ρ h.nx = none) (x : Aj) : HR ρ (h.new x).blk.get w ∧ Ext ρ ρ h (h.new x) w w := by
 have live : ∀ b base, ρ b = some base → (h.new x).blk.get b = h.blk.get b := by
  intro b base hb;simp only [Aa.new, T.get_set];rw [if_neg (by rintro rfl; rw [hf] at hb; cases hb)]
 refine ⟨⟨hr.lt, fun b base y hb hy => hr.blk b base y hb (by rw [← live b base hb]; exact hy), fun b b' base base' hne hb hb' h1 h2 => hr.apart b b' base base' hne hb hb' (by rw [← live b base hb]; exact h1) (by rw [← live b' base' hb']; exact h2), hr.imm, fun k arr b base hk hb hl => hr.off k arr b base hk hb (by rw [← live b base hb]; exact hl)⟩,
  ⟨Ren.le_refl ρ, Nat.le_succ _, fun _ _ e => .inl e, Ha.refl w, fun _ _ _ => rfl, ⟨[], rfl, fun b _ hb => ?_⟩, fun b hb => ?_, fun _ _ e => .inl e⟩⟩
 ·simp only [Aa.new, T.get_set];simp only [Aa.new] at hb;rw [if_neg (by omega)]
 ·simp only [Aa.new, T.get_set] at hb ⊢;by_cases e : h.nx = b
  ·exact .inr ⟨by omega, by omega⟩
  ·rw [if_neg e] at hb; exact .inl hb
omit hE in
theorem Px (hr : HR ρ h.blk.get w) (o : Option Nat) : HR ρ (Ee h o).blk.get w ∧ Ext ρ ρ h (Ee h o) w w ∧ (Ee h o).nx = h.nx := by
 cases o with
 | none => exact ⟨hr, Ext.refl _ _ _, rfl⟩
 | some b => obtain ⟨p1, p2⟩ := hr.strike b; exact ⟨p1, p2, rfl⟩
theorem GQ (hr : HR ρ h.blk.get w) {t t' ty : TypeId} {s x a : AV} {sv xv : Value} {h' : Aa} (hs : VR ρ s sv) (hx : VR ρ x xv) (ha : Hp E t t' s x h = some (a, h')) (hf : Bh ρ h.nx h'.nx)
  (hA : ∀ a h', Hx E t t' s x h = some (a, h') → Bh ρ h.nx h'.nx → A3 E ρ h h' w (Builtin.append_ #[t, t'] ty #[sv, xv]) a) :
  A3 E ρ h h' w (Builtin.append_ #[t, t'] ty #[sv, xv]) a := by
 unfold Hp at ha;split at ha
 ·exact hA a h' ha hf
 ·split at ha
  ·rename_i e e' hd hd';split at ha
   ·rename_i inf ks z hi hk hz;split at ha
    ·rename_i hc;split at ha
     ·rename_i ys nls bs hbase;split at ha
      ·rename_i y m hsrc;split at ha
       ·rename_i hb;cases ha;obtain ⟨c12, c3⟩ := Av hc;obtain ⟨c1, c2⟩ := Av c12;have hsz := AA c1;have hzl := AA c2;have hby := C7 c3;have hinf := hE.ty e inf hi;have hk2 : U.K e = some ks := by rw [hE.kd, ← hE.ke]; exact hk
        obtain ⟨b1, b2⟩ := Av hb;have b1 := HS b1;have b2 := HS b2;rw [Ay, decide_eq_true_eq, Ak, BD] at b1;rw [Ay, decide_eq_true_eq, BD] at b2;have ht := hE.und hd;have ht' := hE.und hd';obtain ⟨rs, nv, s1, s2, s3, s4⟩ := WD hE hr hk hsz ht' hx hsrc;have hB := UZ hE hr hk hs hbase;obtain ⟨i', zv, i1, i2, i3⟩ := FN hz;rw [hi] at i1; cases i1
        have hzc : zv.cells.size = inf.size := by
         have := ((A5 ρ i3).cells (Bp i3)).1;simp at this; omega
        have hnvl : nv.length = rs.length * inf.size := by rw [s3.1, hsz]
        have hrl : rs.length < 1048576 := by omega
        have hyl : Ac U.V (.lenL y) = (((Ab U.V ys).rows.length + rs.length : Nat) : Int) := by rw [Ak, s1]; simp
        have hnl : Ad U.V (.and nls (.eql m (.c 0))) = (Ad U.V nls && (Ac U.V m == 0)) := rfl;have hfree : ρ h.nx = none := hf h.nx (Nat.le_refl _) (by cases bs <;> simp [Aa.new, Ee, Aa.strike])
        obtain ⟨o1, o2, o3⟩ := Px hr bs
        have grow : ∀ (base : Option Addr) (sLen cap : Nat) (ov : List Value), sv = .slice base sLen cap → sLen = (Ab U.V ys).rows.length → sLen ≤ cap → cap < sLen + rs.length → Bj U.K ρ.imm ks ov (Ab U.V ys).rows →
          (∀ w' : World, w'.heap = w.heap → (Builtin.firstCells inf.size sLen (.slice base sLen cap)).run E.P w' = .ok ov.toArray w') →
          A3 E ρ h ((Ee h bs).new (.arr e y)) w (Builtin.append_ #[t, t'] ty #[sv, xv]) (.asl h.nx inf.size (.lenL y) (.and nls (.eql m (.c 0)))) := by
         intro base sLen cap ov hsv hsl hle hgr hov hfc;subst hsv;have hb1 : (sLen + rs.length) * inf.bytes ≤ 1074790400 * 1024 := Nat.mul_le_mul (by omega) hby
         obtain ⟨cap', k1, k2⟩ := Em t t' ty e inf ht hinf zv i2 xv rs.length nv s4 base sLen cap hgr (by omega) (by omega) ov.toArray hfc
         generalize hzz : Builtin.zeroCells zv.cells (cap' - (sLen + rs.length)) = zs at k2;have hzsz : zs.size = (cap' - (sLen + rs.length)) * inf.size := by rw [← hzz]; simp [Builtin.zeroCells, hzc]
         have hasz : (ov.toArray ++ nv.toArray ++ zs).size = cap' * inf.size := by
          have hovl : ov.length = sLen * inf.size := by rw [hov.1, hsz, hsl]
          simp only [Array.size_append, List.size_toArray, hovl, hnvl, hzsz];rw [← Nat.add_mul, ← Nat.add_mul]
          congr 1; omega
         have hvals := hov.append s3;rw [← s1] at hvals
         have hrows : Bl U.K ρ.imm ks (ov.toArray ++ nv.toArray ++ zs) 0 (Ab U.V y).rows := hvals.at (by simp) (fun q hq => by
          have hq' : q < ov.length + nv.length := by simpa using hq
          rw [Nat.zero_add, Array.getElem?_append_left (by simpa using hq')]
          simp only [List.append_toArray, List.getElem?_toArray])
         have hr1 : HR ρ (Ee h bs).blk.get { w with drawn := w.drawn + 1 } := o1.same rfl
         have hf1 : ρ (Ee h bs).nx = none := by rw [o3]; exact hfree
         obtain ⟨p1, p2⟩ := hr1.new hf1 (.arr e y) (.cells (ov.toArray ++ nv.toArray ++ zs) e) (cap' * inf.size) ⟨ks, _, e, _, hk2, rfl, hasz, .inl rfl, hrows⟩ { w with drawn := w.drawn + 1, heap := w.heap.push (.cells (ov.toArray ++ nv.toArray ++ zs) e) } rfl rfl rfl rfl
         refine ⟨_, _, _, k2, ?_, p1, (o2.trans (Ext.drawn p2 rfl rfl rfl rfl) hf)⟩;rw [o3];have hNl : (Ac U.V (.lenL y)).toNat = sLen + rs.length := by rw [hyl, hsl]; exact Int.toNat_natCast _
         have := VR.asl (ρ := ρ.upd h.nx ⟨w.heap.size, 0, cap' * inf.size⟩) h.nx inf.size (.lenL y) (.and nls (.eql m (.c 0))) cap' ⟨w.heap.size, 0, cap' * inf.size⟩ (Ren.upd_same _ _ _) (by rw [hyl]; exact Int.natCast_nonneg _) (by rw [hNl]; exact k1) (by show 0 + cap' * inf.size ≤ cap' * inf.size; rw [Nat.zero_add]; exact Nat.le_refl _) (by
          rw [hnl, s2];have : ((rs.length : Int) == 0) = false := by simp; intro e; rw [e] at hgr; simp at hgr; omega
          rw [this, Bool.and_false])
         rw [hNl] at this;exact this
        cases hB with
        | none _ ad hy hn =>
         have hy0 : (Ab U.V ys).rows.length = 0 := by rw [hy]; rfl
         by_cases hm : rs.length = 0
         ·
          have hnv : nv = [] := List.eq_nil_of_length_eq_zero (by rw [hnvl, hm]; simp)
          subst hnv;obtain ⟨p1, p2⟩ := HR.phantom o1 (by rw [o3]; exact hfree) (.arr e y)
          refine ⟨ρ, .slice ad 0 0, w, ?_, .aslEnd _ _ _ _ _ (by rw [hyl, hy0, hm]; rfl) ?_, p1, o2.trans p2 hf⟩
          ·rw [CK t t' ty e inf ht hinf xv rs.length [] s4 ad 0 0 (by omega)]
           cases ad with
           | none => simp [hm]
           | some ad => simp [storeCells, hm]
          ·rw [hnl, s2, hm, hn]; simp
         ·exact grow ad 0 0 [] rfl hy0.symm (Nat.le_refl _) (by omega) (by rw [hy]; exact .nil) (fun w' _ => by
           cases ad with
           | none => simp [Builtin.firstCells]
           | some ad => simp [Builtin.firstCells, loadCells, loadCellsFrom])
        | blk b off cap base cur et fz hb hl hcap hzz hw hcs hfz hv hn =>
         by_cases hroom : (Ab U.V ys).rows.length + rs.length ≤ cap
         ·
          have hfit : ((Ab U.V ys).rows.length + rs.length) * ks.length ≤ cap * ks.length := Nat.mul_le_mul_right _ hroom;rw [Nat.add_mul] at hfit
          have hone : ∀ v ∈ nv, v.oneCell' = true := by
           intro v hvm;obtain ⟨q, hq, rfl⟩ := List.getElem_of_mem hvm
           have hpos : 0 < ks.length := by
            rcases Nat.eq_zero_or_pos ks.length with h0 | h0
            ·rw [s3.1, h0] at hq; simp at hq
            ·exact h0
           have hqd : q / ks.length < rs.length := by
            rw [s3.1] at hq;exact Nat.div_lt_of_lt_mul (by rw [Nat.mul_comm]; exact hq)
           have hqm : q % ks.length < ks.length := Nat.mod_lt _ hpos;have := s3.2.2 (q / ks.length) (q % ks.length) (ks[q % ks.length]) hqd (by simp [hqm])
           have e1 : q / ks.length * ks.length + q % ks.length = q := by rw [Nat.mul_comm]; exact Nat.div_add_mod _ _
           rw [e1] at this;have e2 : nv.getD q Go.undef = nv[q] := by simp [List.getD_eq_getElem?_getD, hq]
           rw [e2] at this;generalize nv[q] = v0 at this;generalize ks[q % ks.length] = kq at this;cases this <;> rfl
          obtain ⟨w', cur', q1, q2, q3, q4, q5, q6, q7, q8, q9⟩ := B6 E.P base.cb (base.co + off + (Ab U.V ys).rows.length * ks.length) et fz nv 0 w cur hw (by rw [s3.1, hcs]; omega) (by rw [hcs]; exact hfz) hone
          have hrows : Bl U.K ρ.imm ks cur' (base.co + off) (Ab U.V y).rows := by
           have hvals := hv.vals.append s3;rw [← s1] at hvals
           have hl1 : ((cur.toList.drop (base.co + off)).take ((Ab U.V ys).rows.length * ks.length)).length = (Ab U.V ys).rows.length * ks.length := by
            have := hv.1; simp; omega
           refine hvals.at (by rw [List.length_append, hl1, s3.1, q3, hcs]; omega) (fun q hq => ?_)
           rw [List.length_append, hl1] at hq;rw [q4];simp only [Nat.add_zero];by_cases hq1 : q < (Ab U.V ys).rows.length * ks.length
           ·rw [if_neg (by omega), List.getElem?_append_left (by rw [hl1]; exact hq1), List.getElem?_take, if_pos hq1, List.getElem?_drop, Array.getElem?_toList]
           ·rw [if_pos (by omega), List.getElem?_append_right (by rw [hl1]; omega), hl1]
            congr 1; omega
          obtain ⟨p1, p2⟩ := hr.move hb hl hfree (base' := ⟨base.cb, base.co + off, base.csz⟩) rfl (.arr e y) w' ⟨ks, cur', et, fz, hk2, q2, by rw [q3, hcs], hfz, hrows⟩ q5 q6 q7 q8 q9
          refine ⟨_, .slice (some ⟨base.cb, base.co + off, none⟩) ((Ab U.V ys).rows.length + rs.length) cap, w', ?_, ?_, p1, p2⟩
          ·rw [CK t t' ty e inf ht hinf xv rs.length nv s4 _ _ cap hroom];simp only [BY, ← hsz];rw [q1];rfl
          ·have hNl : (Ac U.V (.lenL y)).toNat = (Ab U.V ys).rows.length + rs.length := by rw [hyl]; exact Int.toNat_natCast _
           have := VR.asl (ρ := ρ.upd h.nx ⟨base.cb, base.co + off, base.csz⟩) h.nx inf.size (.lenL y) (.and nls (.eql m (.c 0))) cap ⟨base.cb, base.co + off, base.csz⟩ (Ren.upd_same _ _ _) (by rw [hyl]; omega) (by rw [hNl]; exact hroom) (by rw [← hsz]; exact hzz) (by rw [hnl, hn]; rfl)
           rw [hNl] at this;exact this
         ·have hovl : ((cur.toList.drop (base.co + off)).take ((Ab U.V ys).rows.length * ks.length)).length = (Ab U.V ys).rows.length * ks.length := by
           have := hv.1; simp; omega
          exact grow (some ⟨base.cb, base.co + off, none⟩) _ cap _ rfl rfl hcap (by omega) hv.vals (fun w' hw' => by
           simp only [Builtin.firstCells, ← hsz];exact AH E.P w' base.cb (base.co + off) _ cur et fz (by rw [hw']; exact hw) hv.1)
       ·cases ha
      ·cases ha
     ·cases ha
    ·cases ha
   ·cases ha
  ·cases ha
end
end Go.AE
namespace Go.AE
variable [U : Unk]
section
variable {E : Env} {ρ : Ren} {w : World} (hE : OK E)
include hE
theorem UH {t : TypeId} (hd : E.desc t = some .bool) (n : Nat) (a b : Bool) : aeq E (n + 1) t (.bool a) (.bool b) = some (a == b) := by
 simp only [aeq, hd]
theorem GM {op : BinOp} {t : TypeId} {ox oy : Operand} (hd : E.desc t = some .bool) (a b q : Bool) (hq : CP op (a == b) = some q) :
  (do eqGuard op t ox oy (.bool a) (.bool b); binOp op t (.bool a) (.bool b) : Sem Value).run E.P w = .ok (.bool q) w := by
 have hb : Ps E op t (.bool a) (.bool b) = some (.bool q) := by
  have h1 := UH hE hd 9999 a b;cases op <;> simp only [CP, reduceCtorEq, Option.some.injEq] at hq
  ·subst hq; show (aeq E 10000 t _ _).map AV.bool = _; rw [h1]; rfl
  ·subst hq; show ((aeq E 10000 t _ _).map fun b => AV.bool (!b)) = _; rw [h1]; rfl
 obtain ⟨v, q1, q2⟩ := RT (ρ := Ren.empty) (w := w) (ox := ox) (oy := oy) hE (.bool a) (.bool b) hb;cases q2;exact q1
omit hE in
theorem EU {x : AV} {xv : Value} (hx : VR ρ x xv) : (∀ b, O3 x = some (.inl b) → xv = .bool b) ∧ (∀ p e, O3 x = some (.inr (p, e)) → xv = .bool (Ad U.V e == p)) := by
 cases x <;> simp only [O3, reduceCtorEq, false_imp_iff, implies_true, and_self]
 ·rename_i b;cases hx;exact ⟨fun c h => (by cases h; rfl), fun p e h => (by cases h)⟩
 ·rename_i p e;cases hx;refine ⟨fun b h => ?_, fun p' e' h => ?_⟩
  ·split at h
   ·rename_i c hc;cases h;rw [Az U.ok hc]
   ·cases h
  ·split at h
   ·cases h
   ·cases h; rfl
theorem HB {op : BinOp} {t e : TypeId} {ox oy : Operand} (hd : E.desc t = some (.slice e)) (a : Option Addr) (n c : Nat) (q : Bool) (hq : CP op a.isNone = some q) (h0 : a = none → n = 0 ∧ c = 0) :
  (do eqGuard op t ox oy (.slice a n c) (.slice none 0 0); binOp op t (.slice a n c) (.slice none 0 0) : Sem Value).run E.P w = .ok (.bool q) w ∧
  (do eqGuard op t ox oy (.slice none 0 0) (.slice a n c); binOp op t (.slice none 0 0) (.slice a n c) : Sem Value).run E.P w = .ok (.bool q) w := by
 have hu := hE.run_und hd w;have g1 : (eqGuard op t ox oy (.slice a n c) (.slice none 0 0)).run E.P w = .ok () w := CA (by simp) (by simp)
 have g2 : (eqGuard op t ox oy (.slice none 0 0) (.slice a n c)).run E.P w = .ok () w := CA (by simp) (by simp)
 obtain ⟨b1, b2⟩ := Gr t (.slice a n c) (.slice none 0 0) (by simp) (by simp) (by simp) (by simp)
 obtain ⟨b3, b4⟩ := Gr t (.slice none 0 0) (.slice a n c) (by simp) (by simp) (by simp) (by simp)
 have f1 : ∀ m : Nat, (Op.equalIn (m + 1) t (.slice a n c) (.slice none 0 0)).run E.P w = .ok a.isNone w := by
  intro m;cases a <;> simp [Op.equalIn, hu]
 have f2 : ∀ m : Nat, (Op.equalIn (m + 1) t (.slice none 0 0) (.slice a n c)).run E.P w = .ok a.isNone w := by
  intro m;cases a <;> simp [Op.equalIn, hu]
 have e1 : (Op.equal t (.slice a n c) (.slice none 0 0)).run E.P w = .ok a.isNone w := f1 9999;have e2 : (Op.equal t (.slice none 0 0) (.slice a n c)).run E.P w = .ok a.isNone w := f2 9999;cases op <;> simp only [CP, reduceCtorEq, Option.some.injEq] at hq
 ·subst hq;refine ⟨?_, ?_⟩
  ·simp only [Sem.run_bind, g1, Result.andThen_ok, b1, e1]; rfl
  ·simp only [Sem.run_bind, g2, Result.andThen_ok, b3, e2]; rfl
 ·subst hq;refine ⟨?_, ?_⟩
  ·simp only [Sem.run_bind, g1, Result.andThen_ok, b2, e1]; rfl
  ·simp only [Sem.run_bind, g2, Result.andThen_ok, b4, e2]; rfl
omit hE in
theorem RU {x : AV} {xv : Value} {s : SE} (hx : VR ρ x xv) (h : Xy x = some s) : ∃ a n c, xv = .slice a n c ∧ (a = none → n = 0 ∧ c = 0) ∧ Ad U.V s = a.isNone := by
 cases hx <;> simp only [Xy, reduceCtorEq, Option.some.injEq] at h <;> subst h
 ·exact ⟨none, 0, 0, rfl, fun _ => ⟨rfl, rfl⟩, rfl⟩
 ·exact ⟨_, _, _, rfl, fun h => (by cases h), rfl⟩
 ·exact ⟨_, _, _, rfl, fun h => (by cases h), rfl⟩
 ·rename_i e x a n c hd;refine ⟨a, n, c, rfl, ?_, ?_⟩
  ·rintro rfl
   cases hd; exact ⟨rfl, rfl⟩
  ·have : Ad U.V (.isNil x) = (Ab U.V x).isNil := rfl;rw [this];cases hd with
   | nil _ _ h1 => rw [h1]; rfl
   | empty _ _ _ _ h1 => rw [h1]; rfl
   | slc _ _ _ _ _ _ _ _ _ _ _ _ h1 => rw [h1]; rfl
 ·rename_i hn;exact ⟨_, _, _, rfl, fun h => (by cases h), by rw [hn]; rfl⟩
 ·rename_i a h0 hn;exact ⟨a, 0, 0, rfl, fun _ => ⟨rfl, rfl⟩, hn.symm⟩
 ·rename_i a hn;exact ⟨a, 0, 0, rfl, fun _ => ⟨rfl, rfl⟩, hn.symm⟩
omit hE in
theorem JQ {op : BinOp} {p q : Bool} (h : CP op p = some q) (x : Bool) : CP op (x == p) = some (x == q) := by
 cases op <;> simp only [CP, reduceCtorEq, Option.some.injEq] at h ⊢ <;> subst h <;> cases x <;> cases p <;> rfl
theorem Yx {op : BinOp} {t : TypeId} {ox oy : Operand} {x y r : AV} {xv yv : Value} (hx : VR ρ x xv) (hy : VR ρ y yv) (hr : eqV (E.desc t) op x y = some r) :
  ∃ v, (do eqGuard op t ox oy xv yv; binOp op t xv yv : Sem Value).run E.P w = .ok v w ∧ VR ρ r v := by
 unfold eqV at hr;split at hr
 ·rename_i hd;split at hr
  ·rename_i a b h1 h2;rw [(EU hx).1 _ h1, (EU hy).1 _ h2];cases hq : CP op (a == b) with
   | none => rw [hq] at hr; cases hr
   | some q => rw [hq] at hr; cases hr; exact ⟨_, GM hE hd a b q hq, .bool q⟩
  ·rename_i p e b h1 h2;rw [(EU hx).2 _ _ h1, (EU hy).1 _ h2];cases hq : CP op (p == b) with
   | none => rw [hq] at hr; cases hr
   | some q =>
    rw [hq] at hr; cases hr;refine ⟨_, GM hE hd _ _ (Ad U.V e == q) ?_, .sb q e⟩;have := JQ hq (Ad U.V e);rw [← this]; congr 1;cases Ad U.V e <;> cases p <;> cases b <;> rfl
  ·rename_i b p e h1 h2;rw [(EU hx).1 _ h1, (EU hy).2 _ _ h2];cases hq : CP op (p == b) with
   | none => rw [hq] at hr; cases hr
   | some q =>
    rw [hq] at hr; cases hr;refine ⟨_, GM hE hd _ _ (Ad U.V e == q) ?_, .sb q e⟩;have := JQ hq (Ad U.V e);rw [← this]; congr 1;cases Ad U.V e <;> cases p <;> cases b <;> rfl
  ·cases hr
 ·rename_i e hd
  have one : ∀ {s : SE} {a : Option Addr}, Ad U.V s = a.isNone → (CP op true).map (fun q => mkB q s) = some r → ∃ q, CP op a.isNone = some q ∧ VR ρ r (.bool q) := by
   intro s a hs hm;cases hq : CP op true with
   | none => rw [hq] at hm; cases hm
   | some q =>
    rw [hq] at hm; cases hm;have := JQ hq a.isNone;refine ⟨a.isNone == q, ?_, hs ▸ Hg ρ q s⟩;rw [← this]; congr 1; cases a.isNone <;> rfl
  split at hr
  ·split at hr
   ·rename_i s hs;cases hx;obtain ⟨a, n, c, rfl, h0, hb⟩ := RU hy hs;obtain ⟨q, q1, q2⟩ := one hb hr;exact ⟨_, (HB hE hd a n c q q1 h0).2, q2⟩
   ·cases hr
  ·split at hr
   ·rename_i s hs;cases hy;obtain ⟨a, n, c, rfl, h0, hb⟩ := RU hx hs;obtain ⟨q, q1, q2⟩ := one hb hr;exact ⟨_, (HB hE hd a n c q q1 h0).1, q2⟩
   ·cases hr
  ·cases hr
 ·cases hr
omit hE in
theorem KC (P : Program) (k : IntKind) : ∀ {l : List AV} {l' : List Value} {x : SE} {a : AV}, VL ρ l l' → Mz k x l = some a → ∃ v, (l'.foldlM Builtin.max2 (.int k (Ac U.V x))).run P w = .ok v w ∧ VR ρ a v
 | [], l', x, a, hl, h => by
  rw [hl.nil_inv];simp only [Mz, Option.some.injEq] at h;subst h;exact ⟨_, by simp, CE ρ k x⟩
 | y :: r, l', x, a, hl, h => by
  obtain ⟨v, r', rfl, hv, hr⟩ := hl.cons_inv;simp only [Mz] at h;split at h
  ·rename_i k' b hb;have ev := Cy hv hb;subst ev;split at h
   ·rename_i hd;have := Az U.ok hd;rw [Ay, decide_eq_true_eq] at this;obtain ⟨u, q1, q2⟩ := KC P k hr h;refine ⟨u, ?_, q2⟩;simp only [List.foldlM_cons, Builtin.max2, Sem.run_bind, Sem.run_pure, Result.andThen_ok];rw [if_pos (by omega)]; exact q1
   ·rename_i hd;have := Az U.ok hd;rw [Ay, decide_eq_false_iff_not] at this;obtain ⟨u, q1, q2⟩ := KC P k hr h;refine ⟨u, ?_, q2⟩;simp only [List.foldlM_cons, Builtin.max2, Sem.run_bind, Sem.run_pure, Result.andThen_ok];rw [if_neg (by omega)]; exact q1
   ·cases h
  ·cases h
omit hE in
theorem Li (P : Program) (k : IntKind) : ∀ {l : List AV} {l' : List Value} {x : SE} {a : AV}, VL ρ l l' → MF k x l = some a → ∃ v, (l'.foldlM Builtin.min2 (.int k (Ac U.V x))).run P w = .ok v w ∧ VR ρ a v
 | [], l', x, a, hl, h => by
  rw [hl.nil_inv];simp only [MF, Option.some.injEq] at h;subst h;exact ⟨_, by simp, CE ρ k x⟩
 | y :: r, l', x, a, hl, h => by
  obtain ⟨v, r', rfl, hv, hr⟩ := hl.cons_inv;simp only [MF] at h;split at h
  ·rename_i k' b hb;have ev := Cy hv hb;subst ev;split at h
   ·rename_i hd;have := Az U.ok hd;rw [Ay, decide_eq_true_eq] at this;obtain ⟨u, q1, q2⟩ := Li P k hr h;refine ⟨u, ?_, q2⟩;simp only [List.foldlM_cons, Builtin.min2, Sem.run_bind, Sem.run_pure, Result.andThen_ok];rw [if_pos (by omega)]; exact q1
   ·rename_i hd;have := Az U.ok hd;rw [Ay, decide_eq_false_iff_not] at this;obtain ⟨u, q1, q2⟩ := Li P k hr h;refine ⟨u, ?_, q2⟩;simp only [List.foldlM_cons, Builtin.min2, Sem.run_bind, Sem.run_pure, Result.andThen_ok];rw [if_neg (by omega)]; exact q1
   ·cases h
  ·cases h
omit hE in
theorem T3 {ats : Array TypeId} {ty : TypeId} {args : List AV} {args' : List Value} {a : AV} (ha : VL ρ args args') (hq : Vm args = some a) : ∃ v, (Builtin.max_ ats ty args'.toArray).run E.P w = .ok v w ∧ VR ρ a v := by
 cases args with
 | nil => cases hq
 | cons x r =>
  obtain ⟨v, r', rfl, hv, hl⟩ := ha.cons_inv;simp only [Vm] at hq;split at hq
  ·rename_i k e he;have ev := Cy hv he;subst ev;obtain ⟨u, q1, q2⟩ := KC (w := w) E.P k hl hq;exact ⟨u, by simpa [Builtin.max_] using q1, q2⟩
  ·cases hq
omit hE in
theorem Vw {ats : Array TypeId} {ty : TypeId} {args : List AV} {args' : List Value} {a : AV} (ha : VL ρ args args') (hq : TC args = some a) : ∃ v, (Builtin.min_ ats ty args'.toArray).run E.P w = .ok v w ∧ VR ρ a v := by
 cases args with
 | nil => cases hq
 | cons x r =>
  obtain ⟨v, r', rfl, hv, hl⟩ := ha.cons_inv;simp only [TC] at hq;split at hq
  ·rename_i k e he;have ev := Cy hv he;subst ev;obtain ⟨u, q1, q2⟩ := Li (w := w) E.P k hl hq;exact ⟨u, by simpa [Builtin.min_] using q1, q2⟩
  ·cases hq
omit hE in
theorem YP {op : UnOp} {x r : AV} {xv : Value} (hx : VR ρ x xv) (hr : unB op x = some r) : ∃ v, (Op.unary op xv).run E.P w = .ok v w ∧ VR ρ r v := by
 unfold unB at hr;split at hr
 ·rename_i k e;cases hr;cases hx;refine ⟨_, by simp only [Op.unary, Op.intArith, Sem.run_pure]; rfl, ?_⟩
  have := CE ρ k (.arith .sub k (.c 0) e);rw [FL] at this;simpa [CW, BD] using this
 ·exact ZW hx hr
omit hE in
theorem Re {ks : List Kd} {z : List AV} {r : SE} (hrow : F7 ks z = some r) : ∀ (n : Nat) (vs : List Value), VL ρ (Bs z n) vs → Bj U.K ρ.imm ks vs (List.replicate n (Ab U.V r))
 | 0, vs, h => by
  have := h.nil_inv;subst this;exact .nil
 | n + 1, vs, h => by
  have hzl : z.length = ks.length := by
   have : ∀ (ks : List Kd) (l : List AV) (r : SE), F7 ks l = some r → l.length = ks.length := by
    intro ks
    induction ks with
    | nil => intro l r h; cases l with | nil => rfl | cons => cases h
    | cons k ks ih =>
     intro l r h;cases l with
     | nil => cases h
     | cons a l =>
      simp only [F7] at h;split at h
      ·rename_i x y hx hy;simp [ih l y hy]
      ·cases h
   exact this ks z r hrow
  have h1 := h.take z.length;have h2 := h.drop z.length;have e1 : (Bs z (n + 1)).take z.length = z := by simp [Bs]
  have e2 : (Bs z (n + 1)).drop z.length = Bs z n := by simp [Bs]
  rw [e1] at h1;rw [e2] at h2;obtain ⟨q1, q2, q3⟩ := Ex ks z _ r hrow h1;have := (Bj.one (ρ := ρ) q1 q2 q3).append (Re hrow n _ h2);rw [List.take_append_drop] at this;simpa [List.replicate_succ] using this
theorem Lw {h h' : Aa} (hr : HR ρ h.blk.get w) {t : TypeId} {l c a : AV} {lv cv : Value} (hl : VR ρ l lv) (hcv : VR ρ c cv) (hb : G8 E t l c h = some (a, h')) (hf : Bh ρ h.nx h'.nx) :
  A3 E ρ h h' w (Instr.makeSlice t lv cv) a := by
 unfold G8 at hb;split at hb
 ·rename_i k ie;split at hb
  ·rename_i k2 im;split at hb
   ·rename_i e hc0 hd;split at hb
    ·rename_i inf ks z hi hk hz;split at hb
     ·rename_i r hc hrow;cases hb;obtain ⟨hk0, hsame⟩ := Av hc0;have hk1 : k = .i64 := by simpa using hk0
      have hsm := SE.same_ok hsame;subst hk1; subst hsm;obtain ⟨hc, c5⟩ := Av hc;obtain ⟨hc, c4⟩ := Av hc;obtain ⟨hc, c3⟩ := Av hc;obtain ⟨c1, c2⟩ := Av hc;have e1 := AA c1;have e2 := AA c2;have e3 := C7 c3;have b4 := H9 c4;have b5 := HS c5;rw [Ay, decide_eq_false_iff_not, BD] at b4;rw [Ay, decide_eq_true_eq, BD] at b5;cases hl;cases hcv;generalize hN : Ac U.V ie = N at *;obtain ⟨n, rfl⟩ : ∃ n : Nat, N = n := ⟨N.toNat, by omega⟩
      obtain ⟨zv, z1, z2⟩ := hE.run_zero ρ hz w;have zc := (A5 ρ z2).cells (Bp z2);have hfree : ρ h.nx = none := hf h.nx (Nat.le_refl _) (by simp [Aa.new])
      have h0 : n * z.cells.length = 0 ∨ (if n * inf.size = 0 then #[] else zv.cells) = zv.cells := by
       rw [e2];by_cases e0 : n * inf.size = 0
       ·exact .inl e0
       ·exact .inr (by rw [if_neg e0])
      have hcells := DZ zc n (if n * inf.size = 0 then #[] else zv.cells) h0
      have hvr := Re (ρ := ρ) hrow n _ hcells;rw [e2] at hcells hvr;have hk2 : U.K e = some ks := by rw [hE.kd, ← hE.ke]; exact hk
      generalize hX : (Array.range (n * inf.size)).map ((if n * inf.size = 0 then #[] else zv.cells)[· % (if n * inf.size = 0 then #[] else zv.cells).size]!) = X at *
      have hXs : X.size = n * inf.size := by rw [← hX]; simp
      have er : (Ab U.V (.rep ie r)).rows = List.replicate n (Ab U.V r) := by
       show List.replicate (Ab U.V ie).toInt.toNat _ = _;have : (Ab U.V ie).toInt = (n : Int) := hN;rw [this]; rfl
      have hrows : Bl U.K ρ.imm ks X 0 (Ab U.V (.rep ie r)).rows := by
       rw [er];exact hvr.at (by simp) (fun q hq => by rw [Nat.zero_add, Array.getElem?_toList])
      obtain ⟨p1, p2⟩ := hr.new hfree (.arr e (.rep ie r)) (.cells X e) X.size ⟨ks, _, e, _, hk2, rfl, rfl, .inl rfl, hrows⟩ { w with heap := w.heap.push (.cells X e) } rfl rfl rfl rfl
      have hwrap := Fa n (by omega)
      refine ⟨_, .slice (some ⟨w.heap.size, 0, none⟩) n n, _, ?_, ?_, p1, p2⟩
      ·have hby : inf.bytes * n ≤ 1024 * 1048577 := Nat.mul_le_mul e3 (by omega)
       simp only [Instr.makeSlice, Sem.run_bind, hE.run_und hd, Result.andThen_ok, asInt, asIntOf, Sem.run_pure, hE.run_info hi, hwrap]
       have hbn : ¬ ((inf.bytes : Int) * (n : Int) > 2 ^ 48) := by
        have : ((inf.bytes * n : Nat) : Int) ≤ 1024 * 1048577 := by omega
        rw [Int.natCast_mul] at this;omega
       have hcond : (decide ((n : Int) < 0) || decide ((inf.bytes : Int) * (n : Int) > 2 ^ 48) || decide ((n : Int) < 0) || decide ((n : Int) > (n : Int))) = false := by
        rw [decide_eq_false hbn, decide_eq_false (show ¬ ((n : Int) < 0) by omega), decide_eq_false (show ¬ ((n : Int) > (n : Int)) by omega)]
        rfl
       rw [if_neg (by rw [hcond]; exact Bool.false_ne_true)]
       simp only [Sem.run_bind, run_askRoom, Result.andThen_ok, Int.toNat_natCast, hE.run_sz hi];by_cases e0 : n * inf.size = 0
       ·rw [if_pos e0] at hX;rw [if_pos e0];simp only [Sem.run_bind, Sem.run_pure, Result.andThen_ok, newRow, run_newObj, hX]
       ·rw [if_neg e0] at hX;rw [if_neg e0];simp only [Sem.run_bind, z1, Sem.run_pure, Result.andThen_ok, newRow, run_newObj, hX]
      ·have hlen : Ac U.V (.lenL (.rep ie r)) = (n : Int) := by rw [Ak, er]; simp
       have := VR.asl (ρ := ρ.upd h.nx ⟨w.heap.size, 0, X.size⟩) h.nx inf.size (.lenL (.rep ie r)) (.bc false) n ⟨w.heap.size, 0, X.size⟩ (Ren.upd_same _ _ _) (by rw [hlen]; exact Int.natCast_nonneg _) (by rw [hlen]; simp) (by show 0 + n * inf.size ≤ X.size; rw [hXs]; omega) rfl
       rw [hlen] at this;simpa using this
     ·cases hb
    ·cases hb
   ·cases hb
  ·cases hb
 ·exact Lp hE hr hl hcv hb hf
end
end Go.AE
namespace Go.AE
variable [U : Unk]
section
variable {E : Env} {w : World} (hE : OK E)
include hE
theorem HR.freeze {ρ : Ren} {h : Aa} (hr : HR ρ h.blk.get w) {b : Nat} {base : C3} (hb : ρ b = some base) (hl : h.blk.get b ≠ none) {cur : Array Value} {e : TypeId} {fz : Nat × Nat} (hw : w.heap[base.cb]? = some (.cells cur e fz)) :
  ∃ σ : Ren, ρ.le σ ∧ σ.imm base.cb = some cur ∧ HR σ (h.strike b).blk.get w ∧ Ext ρ σ h (h.strike b) w w := by
 let σ : Ren := ⟨ρ.m, fun k => if k = base.cb then some cur else ρ.imm k⟩
 have hle : ρ.le σ := ⟨fun _ _ h => h, fun k a hk => by
  show (if k = base.cb then some cur else ρ.imm k) = some a
  rw [if_neg (fun e => hr.off k a b base hk hb hl e.symm)]
  exact hk⟩
 have hstr : ∀ c, (h.strike b).blk.get c ≠ none → c ≠ b ∧ h.blk.get c ≠ none := by
  intro c hc;simp only [Aa.strike, T.get_del] at hc;by_cases e : b = c
  ·rw [if_pos e] at hc; exact absurd rfl hc
  ·rw [if_neg e] at hc; exact ⟨fun e' => e e'.symm, hc⟩
 have hget : ∀ c, c ≠ b → (h.strike b).blk.get c = h.blk.get c := by
  intro c hc;simp only [Aa.strike, T.get_del];rw [if_neg (fun e => hc e.symm)]
 obtain ⟨p1, p2⟩ := hr.strike b;refine ⟨σ, hle, ?_, ⟨hr.lt, ?_, ?_, ?_, ?_⟩, ⟨hle, p2.nx, fun c bs hc => .inl hc, p2.calm, fun _ _ _ => rfl, p2.log, p2.live, ?_⟩⟩
 ·show (if base.cb = base.cb then some cur else _) = _
  rw [if_pos rfl]
 ·intro c bs x hc hx;have hc2 := hstr c (by rw [hx]; exact Option.some_ne_none _)
  rw [hget c hc2.1] at hx;exact (hr.blk c bs x hc hx).mono hle
 ·intro c c' bs bs' hne hc hc' h1 h2;exact hr.apart c c' bs bs' hne hc hc' (hstr c h1).2 (hstr c' h2).2
 ·intro k arr hk;have hk' : (if k = base.cb then some cur else ρ.imm k) = some arr := hk
  by_cases c : k = base.cb
  ·rw [if_pos c] at hk';cases hk';subst c;exact ⟨e, fz, hw⟩
  ·rw [if_neg c] at hk';exact hr.imm k arr hk'
 ·intro k arr c bs hk hc hlc;have hc2 := hstr c hlc;have hk' : (if k = base.cb then some cur else ρ.imm k) = some arr := hk
  by_cases d : k = base.cb
  ·subst d;exact hr.apart c b bs base hc2.1 hc hb hc2.2 hl
  ·rw [if_neg d] at hk';exact hr.off k arr c bs hk' hc hc2.2
 ·intro k arr hk;have hk' : (if k = base.cb then some cur else ρ.imm k) = some arr := hk
  by_cases d : k = base.cb
  ·exact .inr (.inr ⟨b, base, hb, hl, d.symm⟩)
  ·rw [if_neg d] at hk';exact .inl hk'
theorem Jz {ρ : Ren} {h h' : Aa} {kd : Kd} {a a' : AV} {v : Value} (hr : HR ρ h.blk.get w) (ha : VR ρ a v) (hx : Ji E kd a h = (a', h')) :
  ∃ σ : Ren, VR σ a' v ∧ HR σ h'.blk.get w ∧ Ext ρ σ h h' w w := by
 have same : (a, h) = (a', h') → ∃ σ : Ren, VR σ a' v ∧ HR σ h'.blk.get w ∧ Ext ρ σ h h' w w := by
  intro e; cases e;exact ⟨ρ, ha, hr, Ext.refl _ _ _⟩
 unfold Ji at hx;split at hx
 ·rename_i e;split at hx
  ·rename_i b es n nl;split at hx
   ·rename_i e' x ks hg hk;split at hx
    ·rename_i hc;cases hx;obtain ⟨hc, c3⟩ := Av hc;obtain ⟨c1, c2⟩ := Av hc;have e1 := AA c1;subst e1;have e2 := AA c2;have ha := Iu c3 ha;have hk2 : U.K e = some ks := by rw [hE.kd, ← hE.ke]; exact hk
     have hnil : (Ab U.V (.nilIs x nl)).isNil = Ad U.V nl := rfl;have hrw : (Ab U.V (.nilIs x nl)).rows = (Ab U.V x).rows := rfl;cases ha with
     | asl _ _ _ _ cap base hb h0 hcap hz hnl =>
      obtain ⟨ks', cur, et, fz, b1, b2, b3, b4, b5⟩ := hr.blk b base _ hb hg;rw [hk2] at b1; cases b1;obtain ⟨σ, q1, q2, q3, q4⟩ := HR.freeze hE hr hb (by rw [hg]; exact Option.some_ne_none _) b2
      have hlen : (Ac U.V (.lenL x)).toNat = (Ab U.V x).rows.length := by rw [Ak]; simp
      refine ⟨σ, .dat e _ _ _ _ ?_, q3, q4⟩;have b6 := b5.mono q1.imm;exact .slc e base.cb base.co _ cap _ ks cur hk2 q2 (by rw [hrw, hlen]) hcap (by rw [hnil, hnl]) (by rw [hlen]; exact b6.1) (fun i hi => b6.2.1 i (by rw [hlen] at hi; exact hi)) (fun i j kd hi hj => b6.2.2 i j kd (by rw [hlen] at hi; exact hi) hj)
     | aslEnd _ _ _ _ ad h0 hn0 =>
      obtain ⟨p1, p2⟩ := hr.strike b
      have hl0 : (Ab U.V x).rows = [] := by
       rw [Ak] at h0;exact List.eq_nil_of_length_eq_zero (by omega)
      refine ⟨ρ, .dat e _ _ _ _ ?_, p1, p2⟩;cases ad with
      | none => exact .nil e _ (by rw [hnil, ← hn0]; rfl) (by rw [hrw]; exact hl0)
      | some ad => exact .empty e ad 0 _ (by rw [hnil, ← hn0]; rfl) (by rw [hrw]; exact hl0)
    ·exact same hx
   ·exact same hx
  ·rename_i nl;cases hx;cases ha with
   | eslc _ ad hn0 =>
    have hnil : (Ab U.V (.nilIs .nilL nl)).isNil = Ad U.V nl := rfl;refine ⟨ρ, .dat e _ _ _ _ ?_, hr, Ext.refl _ _ _⟩;cases ad with
    | none => exact .nil e _ (by rw [hnil, ← hn0]; rfl) rfl
    | some ad => exact .empty e ad 0 _ (by rw [hnil, ← hn0]; rfl) rfl
  ·rename_i b off n es;split at hx
   ·rename_i ks hk;split at hx
    ·rename_i l hes hl;split at hx
     ·rename_i y hy;cases hx;have hes := AA hes;have hk2 : U.K e = some ks := by rw [hE.kd, ← hE.ke]; exact hk
      obtain ⟨vs, v1, v2, v3⟩ := Ij hE (e := e) (ks := ks) hr ha hl;obtain ⟨rs, r1, r2, r3⟩ := ED (ρ := ρ) n .emptyL y l vs hy v1;have er : (Ab U.V y).rows = rs := by rw [r2]; rfl
      have hnil : (Ab U.V y).isNil = false := by
       have : ∀ (n : Nat) (y0 y : SE) (l : List AV), DE ks n y0 l = some y → (Ab U.V y0).isNil = false → (Ab U.V y).isNil = false := by
        intro n
        induction n with
        | zero => intro y0 y l h h0; cases l with
         | nil => simp only [DE, Option.some.injEq] at h; subst h; exact h0
         | cons => cases h
        | succ n ih =>
         intro y0 y l h h0;simp only [DE] at h;split at h
         ·exact ih _ _ _ h rfl
         ·cases h
       exact this n .emptyL y l hy rfl
      rcases v3 with ⟨h0, ad, rfl⟩ | ⟨base, cur, et, fz, cap, sz, c, hb, hg, rfl, hcap, hz, hw, hcs, hfz, hv⟩
      ·obtain ⟨p1, p2⟩ := hr.strike b;exact ⟨ρ, .dat e _ _ _ _ (.empty e ad 0 _ hnil (by rw [er]; exact List.eq_nil_of_length_eq_zero (by rw [r1, h0]))), p1, p2⟩
      ·obtain ⟨σ, q1, q2, q3, q4⟩ := HR.freeze hE hr hb (by rw [hg]; exact Option.some_ne_none _) hw
       have hmul : n * es ≤ cap * es := Nat.mul_le_mul_right _ hcap;have hrows : Bl U.K ρ.imm ks cur (base.co + off) rs := r3.at (by rw [v2, hcs]; omega) hv
       have b6 := hrows.mono q1.imm;rw [← er] at b6;have hln : (Ab U.V y).rows.length = n := by rw [er, r1]
       refine ⟨σ, .dat e _ _ _ _ (.slc e base.cb (base.co + off) n cap _ ks cur hk2 q2 hln hcap hnil ?_ (fun i hi => b6.2.1 i (by rw [hln]; exact hi)) (fun i j kd hi hj => b6.2.2 i j kd (by rw [hln]; exact hi) hj)), q3, q4⟩
       have := b6.1;rw [hln] at this;exact this
     ·exact same hx
    ·exact same hx
   ·exact same hx
  ·exact same hx
 ·exact same hx
omit hE in
theorem Ng {kd : Kd} {a a' : AV} {h h' : Aa} (hx : Ji E kd a h = (a', h')) : h'.nx = h.nx := by
 unfold Ji at hx
 repeat' split at hx
 all_goals (cases hx; rfl)
theorem Jv : ∀ {ks : List Kd} {l l' : List AV} {vs : List Value} {ρ : Ren} {h h' : Aa}, HR ρ h.blk.get w → VL ρ l vs → Hw E ks l h = (l', h') →
  h'.nx = h.nx ∧ ∃ σ : Ren, VL σ l' vs ∧ HR σ h'.blk.get w ∧ Ext ρ σ h h' w w
 | [], l, l', vs, ρ, h, h', hr, hv, hx => by
  cases l <;> (simp only [Hw] at hx; cases hx; exact ⟨rfl, ρ, hv, hr, Ext.refl _ _ _⟩)
 | k :: ks, [], l', vs, ρ, h, h', hr, hv, hx => by
  simp only [Hw] at hx; cases hx; exact ⟨rfl, ρ, hv, hr, Ext.refl _ _ _⟩
 | k :: ks, a :: l, l', vs, ρ, h, h', hr, hv, hx => by
  obtain ⟨v, r, rfl, h1, h2⟩ := hv.cons_inv;simp only [Hw] at hx;generalize hf1 : Ji E k a h = p1 at hx;obtain ⟨a1, h3⟩ := p1;simp only at hx;generalize hf2 : Hw E ks l h3 = p2 at hx;obtain ⟨l1, h4⟩ := p2;simp only at hx;cases hx;have hn1 := Ng hf1;obtain ⟨σ, q1, q2, q3⟩ := Jz hE hr h1 hf1;obtain ⟨hn2, τ, r1, r2, r3⟩ := Jv q2 (h2.mono q3.le) hf2;refine ⟨by omega, τ, VL.cons (q1.mono r3.le) r1, r2, q3.trans r3 (fun b hb hb2 => by omega)⟩
omit hE in
theorem UA {kd : Kd} {a a' : AV} {h h' : Aa} (hx : Ji E kd a h = (a', h')) : h' = h ∨ ∃ b, h' = h.strike b := by
 unfold Ji at hx
 repeat' split at hx
 all_goals (cases hx; first | exact .inl rfl | exact .inr ⟨_, rfl⟩)
omit hE in
theorem NG : ∀ {ks : List Kd} {l l' : List AV} {h h' : Aa}, Hw E ks l h = (l', h') → h'.nx = h.nx ∧ (∃ m, h'.log = m ++ h.log ∧ ∀ c, c ∉ m → h'.blk.get c = h.blk.get c) ∧ ∀ c, h'.blk.get c = none ∨ h'.blk.get c = h.blk.get c
 | [], l, l', h, h', hx => by
  cases l <;> (simp only [Hw] at hx; cases hx; exact ⟨rfl, ⟨[], rfl, fun _ _ => rfl⟩, fun _ => .inr rfl⟩)
 | k :: ks, [], l', h, h', hx => by
  simp only [Hw] at hx; cases hx; exact ⟨rfl, ⟨[], rfl, fun _ _ => rfl⟩, fun _ => .inr rfl⟩
 | k :: ks, a :: l, l', h, h', hx => by
  simp only [Hw] at hx;generalize hf1 : Ji E k a h = p1 at hx;obtain ⟨a1, h3⟩ := p1;simp only at hx;generalize hf2 : Hw E ks l h3 = p2 at hx;obtain ⟨l1, h4⟩ := p2;simp only at hx;cases hx;obtain ⟨q1, ⟨m, q2, q3⟩, q4⟩ := NG hf2;rcases UA hf1 with rfl | ⟨b, rfl⟩
  ·exact ⟨q1, ⟨m, q2, q3⟩, q4⟩
  ·have hget : ∀ c, (h.strike b).blk.get c = if b = c then none else h.blk.get c := fun c => by simp only [Aa.strike, T.get_del]
   refine ⟨q1, ⟨m ++ [b], by rw [q2]; simp [Aa.strike], fun c hc => ?_⟩, fun c => ?_⟩
   ·simp only [List.mem_append, List.mem_singleton, not_or] at hc;rw [q3 c hc.1, hget, if_neg (fun e => hc.2 e.symm)]
   ·rcases q4 c with r | r
    ·exact .inl r
    ·rw [r, hget];by_cases e : b = c
     ·rw [if_pos e]; exact .inl rfl
     ·rw [if_neg e]; exact .inr rfl
theorem I2 {ρ : Ren} {h : Aa} {ks : List Kd} {b : Nat} (hr : HR ρ h.blk.get w) : (D2 E ks b h).nx = h.nx ∧ ∃ σ : Ren, HR σ (D2 E ks b h).blk.get w ∧ Ext ρ σ h (D2 E ks b h) w w := by
 have same : h.nx = h.nx ∧ ∃ σ : Ren, HR σ h.blk.get w ∧ Ext ρ σ h h w w := ⟨rfl, ρ, hr, Ext.refl _ _ _⟩
 unfold D2;split
 ·rename_i n c hg;split
  ·rename_i l hl;split;rename_i l' h' hf;split
   ·rename_i m c' hg';split
    ·rename_i hc;obtain ⟨c1, c2⟩ := Av hc;have e1 := AA c1;have e2 := AA c2;subst e1;cases hb : ρ b with
     | none =>
      obtain ⟨s1, ⟨mm, s2, s3⟩, s4⟩ := NG hf;have hr' : HR ρ h'.blk.get w := hr.restrict (fun c => s4 c)
      have hget : ∀ c, c ≠ b → (h'.put b (.cells m (.ofList l'))).blk.get c = h'.blk.get c := fun c hc => by
       simp only [Aa.put, T.get_set]; rw [if_neg (fun e => hc e.symm)]
      have ne : ∀ {c : Nat} {bs : C3}, ρ c = some bs → c ≠ b := fun hc e => by subst e; rw [hb] at hc; cases hc
      refine ⟨s1, ρ, ⟨hr'.lt, fun c bs x hc hx => ?_, fun c c' bs bs' hne hc hc' h1 h2 => ?_, hr'.imm, fun k arr c bs hk hc hl => ?_⟩, ⟨Ren.le_refl ρ, by show h.nx ≤ h'.nx; omega, fun _ _ e => .inl e, Ha.refl w, fun _ _ _ => rfl, ⟨b :: mm, by simp [Aa.put, s2], fun c hc _ => ?_⟩, fun c hc => ?_, fun _ _ e => .inl e⟩⟩
      ·rw [hget c (ne hc)] at hx;exact hr'.blk c bs x hc hx
      ·rw [hget c (ne hc)] at h1;rw [hget c' (ne hc')] at h2;exact hr'.apart c c' bs bs' hne hc hc' h1 h2
      ·rw [hget c (ne hc)] at hl;exact hr'.off k arr c bs hk hc hl
      ·simp only [List.mem_cons, not_or] at hc;rw [hget c hc.1];exact s3 c hc.2
      ·by_cases e : c = b
       ·subst e; exact .inl (by rw [hg]; exact Option.some_ne_none _)
       ·rw [hget c e] at hc;rcases s4 c with r | r
        ·rw [r] at hc; exact absurd rfl hc
        ·rw [r] at hc; exact .inl hc
     | some base =>
      obtain ⟨cur, et, fz, b1, b2, b3, b4, b5⟩ := hr.blk b base _ hb hg;obtain ⟨l1, l2⟩ := T.range_spec c _ _ _ hl
      have hvl : VL ρ l ((cur.toList.drop base.co).take m) := by
       refine ⟨by simp [l1]; omega, fun i a v ha hv => ?_⟩
       have hi : i < m := by have := (List.getElem?_eq_some_iff.1 ha).1; omega
       have := l2 i hi;rw [Nat.zero_add, ha] at this;obtain ⟨v', v1, v2⟩ := b5 i a hi this;rw [List.getElem?_take, if_pos hi, List.getElem?_drop, Array.getElem?_toList, v1] at hv;cases hv;exact v2
      obtain ⟨hn, σ, q1, q2, q3⟩ := Jv hE hr hvl hf;have hσ : σ b = some base := q3.le.m b base hb
      obtain ⟨r1, r2⟩ := q2.put hσ (by rw [hg']; exact Option.some_ne_none _) (.cells m (.ofList l')) w ⟨cur, et, fz, b1, b2, b3, b4, fun i a hi ha => by
       rw [T.get_ofList] at ha
       have hv : ((cur.toList.drop base.co).take m)[i]? = cur[base.co + i]? := by
        rw [List.getElem?_take, if_pos hi, List.getElem?_drop, Array.getElem?_toList]
       have hlt : base.co + i < cur.size := by omega
       have hc : cur[base.co + i]? = some cur[base.co + i] := by simp [hlt]
       exact ⟨_, hc, q1.2 i a _ ha (by rw [hv, hc])⟩⟩ rfl (fun _ _ => rfl) rfl rfl rfl
      exact ⟨hn, σ, r1, q3.trans r2 (fun c h1 h2 => by simp only [Aa.put] at h2; omega)⟩
    ·exact same
   ·exact same
  ·exact same
 ·exact same
theorem Mu {ρ : Ren} {h : Aa} {e : TypeId} {b : Nat} (hr : HR ρ h.blk.get w) : (GT E e b h).nx = h.nx ∧ ∃ σ : Ren, HR σ (GT E e b h).blk.get w ∧ Ext ρ σ h (GT E e b h) w w := by
 unfold GT;split
 ·exact I2 hE hr
 ·exact ⟨rfl, ρ, hr, Ext.refl _ _ _⟩
omit hE in
theorem SF {t : TypeId} {x a : AV} {h h' : Aa} (hx : DC E t x a h = some h') : h'.nx = h.nx := by
 unfold DC Nx storeN at hx
 repeat' split at hx
 all_goals first | (cases hx; done) | (cases hx; rfl)
theorem NP {ρ : Ren} {h h' : Aa} (hr : HR ρ h.blk.get w) {t : TypeId} {x a : AV} {xv v : Value} (hx : VR ρ x xv) (ha : VR ρ a v) (hl : J8 E t x a h = some h') :
  ∃ σ w', (Instr.storeAt t xv v).run E.P w = .ok () w' ∧ HR σ h'.blk.get w' ∧ Ext ρ σ h h' w w' := by
 have plain : DC E t x a h = some h' → ∃ σ w', (Instr.storeAt t xv v).run E.P w = .ok () w' ∧ HR σ h'.blk.get w' ∧ Ext ρ σ h h' w w' := by
  intro hs;obtain ⟨w', q1, q2, q3⟩ := IB hE hr hx ha hs;exact ⟨ρ, w', q1, q2, q3⟩
 have snx : ∀ {t : TypeId} {x a : AV} {h h' : Aa}, DC E t x a h = some h' → h'.nx = h.nx := SF
 unfold J8 at hl;split at hl
 ·split at hl
  ·split at hl
   ·split at hl
    ·split at hl
     ·rename_i l;split at hl;rename_i l1 h1 hf;cases ha with
      | agg _ l' e1 e2 =>
       obtain ⟨hn, σ, q1, q2, q3⟩ := Jv hE hr ⟨e1, e2⟩ hf;obtain ⟨w', r1, r2, r3⟩ := IB hE q2 (hx.mono q3.le) (.agg l1 l' q1.1 q1.2) hl;have := snx hl;exact ⟨σ, w', r1, r2, q3.trans r3 (fun b hb hb2 => by omega)⟩
     ·split at hl;rename_i v1 h1 hf;obtain ⟨σ, q1, q2, q3⟩ := Jz hE hr ha hf;obtain ⟨w', r1, r2, r3⟩ := IB hE q2 (hx.mono q3.le) q1 hl;have := snx hl;have := Ng hf;exact ⟨σ, w', r1, r2, q3.trans r3 (fun b hb hb2 => by omega)⟩
    ·exact plain hl
   ·exact plain hl
  ·exact plain hl
 ·exact plain hl
theorem OF {ρ : Ren} {h : Aa} {e : TypeId} {a : AV} (hr : HR ρ h.blk.get w) : (Fq E e a h).nx = h.nx ∧ ∃ σ : Ren, HR σ (Fq E e a h).blk.get w ∧ Ext ρ σ h (Fq E e a h) w w := by
 have same : h.nx = h.nx ∧ ∃ σ : Ren, HR σ h.blk.get w ∧ Ext ρ σ h h w w := ⟨rfl, ρ, hr, Ext.refl _ _ _⟩
 unfold Fq;split
 ·split
  ·split
   ·exact Mu hE hr
   ·exact same
  ·exact same
 ·exact same
theorem Nu {ρ : Ren} {h h' : Aa} (hr : HR ρ h.blk.get w) {t t' ty : TypeId} {s x a : AV} {sv xv : Value} (hs : VR ρ s sv) (hx : VR ρ x xv) (ha : Ix E t t' s x h = some (a, h')) (hf : Bh ρ h.nx h'.nx)
  (hA : ∀ a h', Hx E t t' s x h = some (a, h') → Bh ρ h.nx h'.nx → A3 E ρ h h' w (Builtin.append_ #[t, t'] ty #[sv, xv]) a) :
  A3 E ρ h h' w (Builtin.append_ #[t, t'] ty #[sv, xv]) a := by
 unfold Ix at ha;split at ha
 ·rename_i hsy;split at ha
  ·rename_i e hd;obtain ⟨n1, σ, q1, q2⟩ := OF (e := e) (a := s) hE hr;obtain ⟨n2, τ, r1, r2⟩ := OF (e := e) (a := x) hE q1;have hle := q2.le.trans r2.le;have hfr : Bh τ (Fq E e x (Fq E e s h)).nx h'.nx := Ext.free r2 (Ext.free q2 hf);obtain ⟨υ, v, w', s1, s2, s3, s4⟩ := GQ hE r1 (hs.mono hle) (hx.mono hle) ha hfr (fun a h'' hq hf2 => Kg hE r1 (hs.mono hle) (hx.mono hle) hq hf2)
   exact ⟨υ, v, w', s1, s2, s3, q2.trans (r2.trans s4 (Ext.free q2 hf)) hf⟩
  ·exact GQ hE hr hs hx ha hf hA
 ·exact GQ hE hr hs hx ha hf hA
end
end Go.AE
namespace Go.AE
variable [U : Unk]
theorem Nl {d : Option TypeDesc} (h : U7 d = true) : d = some (.int .u8) := by
 unfold U7 at h;split at h
 ·rfl
 ·cases h
theorem LH {d : Option TypeDesc} (h : M5 d = true) : d = some .string := by
 unfold M5 at h;split at h
 ·rfl
 ·cases h
theorem In {d : Option (List Kd)} (h : JR d = true) : d = some [.int .u8] := by
 unfold JR at h;split at h
 ·rfl
 ·cases h
theorem VY {s : ByteArray} {n : Nat} (h : n < s.data.toList.length) : s[n]? = some s.data.toList[n] := by
 have hsz : n < s.size := by simpa using h
 rw [getElem?_pos s n hsz]; rfl
theorem Tj {l : List UInt8} {i : Nat} (hi : i < l.length) : ((l.map fun b => D.row [.int b.toNat]).getD i default) = .row [.int l[i].toNat] := by
 rw [List.getD_eq_getElem?_getD, List.getElem?_map, List.getElem?_eq_getElem hi]; rfl
theorem Wo {t : ByteArray} {m i : Nat} (hi : i < t.data.toList.length) : (t.data.map (fun (b : UInt8) => Value.int .u8 b.toNat) ++ Array.replicate m (Value.int .u8 0)).getD i Go.undef = .int .u8 (t.data.toList[i].toNat : Nat) := by
 have hi2 : i < t.data.size := by rw [← Array.length_toList]; exact hi
 have : (t.data.map (fun (b : UInt8) => Value.int .u8 b.toNat) ++ Array.replicate m (Value.int .u8 0))[i]? = some (.int .u8 (t.data.toList[i].toNat : Nat)) := by
  rw [Array.getElem?_append_left (by simpa using hi2), Array.getElem?_map, Array.getElem?_eq_getElem hi2]
  simp
 rw [Array.getD_eq_getD_getElem?, this];rfl
theorem W6 {K : TypeId → Option (List Kd)} {M : Nat → Option (Array Value)} {cur : Array Value} {o : Nat} {rows : List D} (h1 : o + rows.length ≤ cur.size)
  (h : ∀ i, i < rows.length → DV K M (.int .u8) (cur.getD (o + i) Go.undef) ((rows.getD i default).cells.getD 0 default)) :
  ((cur.toList.drop o).take rows.length) = (rows.map fun r => (r.cells.getD 0 default).toInt).map (Value.int .u8) := by
 apply List.ext_getElem
 ·simp; omega
 ·intro i a b;have hi : i < rows.length := by simpa using b
  simp only [List.getElem_take, List.getElem_drop, List.getElem_map, Array.getElem_toList];have := h i hi;have e : cur.getD (o + i) Go.undef = cur[o + i]'(by omega) := by simp [Array.getD_eq_getD_getElem?, show o + i < cur.size by omega]
  rw [e] at this;have e2 : rows.getD i default = rows[i] := by simp [List.getD_eq_getElem?_getD, hi]
  rw [e2] at this;generalize cur[o + i]'(by omega) = v at this ⊢
  cases this with
  | int _ n _ _ q => rw [q]
theorem QD {x : SE} : (AP U.V (.ofBytes x)).data.toList = ((Ab U.V x).rows.map fun r => (r.cells.getD 0 default).toInt).map fun n => UInt8.ofNat n.toNat := by
 show (((Ab U.V x).rows.map fun r => UInt8.ofNat (r.cells.getD 0 default).toInt.toNat).toArray).toList = _
 simp
theorem OY (ns : List Int) {s : ByteArray} (h : s.data.toList = ns.map fun n => UInt8.ofNat n.toNat) : ns.foldl (fun r n => r.push (UInt8.ofNat n.toNat)) ByteArray.empty = s := by
 have := P5 ns ByteArray.empty;have e : (ns.foldl (fun r n => r.push (UInt8.ofNat n.toNat)) ByteArray.empty).data.toList = s.data.toList := by rw [this, h]; simp
 cases s with
 | mk d =>
  generalize ns.foldl (fun r n => r.push (UInt8.ofNat n.toNat)) ByteArray.empty = t at e
  cases t with
  | mk d' => simp only [ByteArray.mk.injEq]; exact Array.toList_inj.1 e
theorem Fy {x : SE} (h : (Ab U.V x).rows = []) : AP U.V (.ofBytes x) = ByteArray.empty := by
 show ByteArray.mk (((Ab U.V x).rows.map fun r => UInt8.ofNat (r.cells.getD 0 default).toInt.toNat).toArray) = _
 rw [h];rfl
theorem LM {P : Program} {w : World} {M : Nat → Option (Array Value)} {b o cap : Nat} {cur : Array Value} {e : TypeId} {fz : Nat × Nat} {y : SE} (hb : w.heap[b]? = some (.cells cur e fz)) (h1 : o + (Ab U.V y).rows.length ≤ cur.size)
  (h : ∀ i, i < (Ab U.V y).rows.length → DV U.K M (.int .u8) (cur.getD (o + i) Go.undef) (((Ab U.V y).rows.getD i default).cells.getD 0 default)) :
  (Conv.bytesToString (.slice (some ⟨b, o, none⟩) (Ab U.V y).rows.length cap)).run P w = .ok (.string (AP U.V (.ofBytes y))) w := by
 have q := AH P w b o (Ab U.V y).rows.length cur e fz hb h1;rw [W6 h1 h] at q;have r := run_bytesToString w ⟨b, o, none⟩ (Ab U.V y).rows.length cap ((Ab U.V y).rows.map fun r => (r.cells.getD 0 default).toInt) q
 rw [OY _ QD] at r;exact r
section
variable {E : Env} (hE : OK E) {ρ : Ren} {h : Aa} {w : World}
include hE
theorem R0 {t : TypeId} {x i a : AV} {xv iv : Value} (hx : VR ρ x xv) (hi : VR ρ i iv) (hl : O9 E t x i = some a) :
  ∃ v, (Instr.index t xv iv).run E.P w = .ok v w ∧ VR ρ a v := by
 unfold O9 at hl;split at hl
 ·rename_i y;split at hl
  ·rename_i k ie hd hti;split at hl
   ·rename_i hc;cases hl;obtain ⟨r0, r1⟩ := KG hc;have hiv := Cy hi hti;subst hiv;rw [Dq] at r1;cases hx with
    | ss _ =>
     obtain ⟨n, hn⟩ : ∃ n : Nat, Ac U.V ie = n := ⟨(Ac U.V ie).toNat, by omega⟩
     rw [hn] at r0 r1 ⊢;have hlt : n < (AP U.V y).data.toList.length := by omega
     refine ⟨.int .u8 ((AP U.V y).data.toList[n].toNat : Nat), ?_, ?_⟩
     ·simp only [Instr.index, asIntOf, Sem.run_bind, Sem.run_pure, Result.andThen_ok, hE.run_und hd];rw [if_pos (by omega), Int.toNat_natCast, VY hlt]
      rfl
     ·have := CE ρ .u8 (.strAt y ie)
      have e : Ac U.V (.strAt y ie) = ((AP U.V y).data.toList[n].toNat : Nat) := by
       show ((((Ab U.V y).toStr.data.toList[(Ab U.V ie).toInt.toNat]?).getD 0).toNat : Int) = _
       have e1 : (Ab U.V ie).toInt.toNat = n := by
        have : (Ab U.V ie).toInt = n := hn;omega
       have hlt' : n < (Ab U.V y).toStr.data.toList.length := hlt;rw [e1, List.getElem?_eq_getElem hlt'];rfl
      rw [e] at this;exact this
   ·cases hl
  ·cases hl
 ·exact SL hE hx (Hv hi) hl
theorem Vo (hr : HR ρ h.blk.get w) {s d : TypeId} {x a : AV} {xv : Value} {h' : Aa} (hx : VR ρ x xv) (ha : TM E s d x h = some (a, h')) (hf : Bh ρ h.nx h'.nx) :
  A3 E ρ h h' w (convert s d xv) a := by
 unfold TM at ha;split at ha
 ·rename_i y;split at ha
  ·rename_i e hd;split at ha
   ·rename_i hc;cases ha;obtain ⟨hc, c3⟩ := Av hc;obtain ⟨c1, c2⟩ := Av hc;have he := Nl c1;have hk := In c2;obtain ⟨sd, hs⟩ := Option.isSome_iff_exists.1 c3;have us := hE.run_und hs w;have ud := hE.run_und hd w;have ue := hE.run_und he w;cases hx with
    | ss _ =>
     generalize ht : AP U.V y = t;have hfree : ρ h.nx = none := hf h.nx (Nat.le_refl _) (by simp [Aa.new])
     generalize hcap : grownCap w t.size 0 e = cap;have hge : t.size ≤ cap := by rw [← hcap]; exact grownCap_ge w _ _ _
     generalize harr : (t.data.map (fun b => Value.int .u8 b.toNat) ++ Array.replicate (cap - t.size) (.int .u8 0)) = arr
     have hasz : arr.size = cap := by rw [← harr]; simp; omega
     have hr1 : HR ρ h.blk.get { w with drawn := w.drawn + 1 } := hr.same rfl
     have hk2 : U.K e = some [.int .u8] := by rw [hE.kd, ← hE.ke]; exact hk
     have er : (Ab U.V (.bytes y)).rows = t.data.toList.map fun b => .row [.int b.toNat] := by
      show ((Ab U.V y).toStr.data.toList.map _) = _;have : (Ab U.V y).toStr = t := ht;rw [this]
     have hsz : t.size = t.data.toList.length := by simp
     have hrows : Bl U.K ρ.imm [.int .u8] arr 0 (Ab U.V (.bytes y)).rows := by
      rw [er];refine ⟨by simp only [List.length_map, List.length_singleton]; omega, fun i hi => ?_, fun i j kd hi hj => ?_⟩
      ·have hi' : i < t.data.toList.length := by simpa using hi
       rw [Tj hi'];rfl
      ·have hi' : i < t.data.toList.length := by simpa using hi
       have hj0 : j = 0 := by
        cases j with
        | zero => rfl
        | succ j => simp at hj
       subst hj0;simp only [List.getElem?_cons_zero, Option.some.injEq] at hj;subst hj;rw [Tj hi'];show DV U.K ρ.imm (.int .u8) (arr.getD (0 + i * 1 + 0) Go.undef) (.int (t.data.toList[i].toNat : Nat));rw [show 0 + i * 1 + 0 = i by omega, ← harr, Wo hi']
       have hb := t.data.toList[i].toNat_lt;exact .int .u8 _ _ (.inr ⟨by show (0 : Int) ≤ _; omega, by show _ ≤ (255 : Int); omega⟩) rfl
     obtain ⟨p1, p2⟩ := hr1.new hfree (.arr e (.bytes y)) (.cells arr e (arr.size, arr.size + 1)) arr.size ⟨_, _, e, _, hk2, rfl, rfl, .inr (Nat.le_refl _), hrows⟩ { w with drawn := w.drawn + 1, heap := w.heap.push (.cells arr e (arr.size, arr.size + 1)) } rfl rfl rfl rfl
     refine ⟨_, .slice (some ⟨w.heap.size, 0, none⟩) t.size cap, _, ?_, ?_, p1, p2.drawn rfl rfl rfl rfl⟩
     ·have hch : (choose (.appendCap t.size 0 e)).run E.P w = .ok cap { w with drawn := w.drawn + 1 } := by rw [← hcap]; simp [Question.forced, grownCap]
      have hconv : (convert s d (.string t)).run E.P w = (Conv.stringToBytes e t).run E.P w := by
       cases sd <;> simp [convert, us, ud, ue]
      rw [hconv];simp only [Conv.stringToBytes, Sem.run_bind, hch, Result.andThen_ok, newRow, run_newObj, Sem.run_pure, harr];simp only [markStringish, Sem.run_bind, run_shape, Result.andThen_ok];have hsh : ({ w with drawn := w.drawn + 1, heap := w.heap.push (.cells arr e) } : World).shape? w.heap.size = some (e, arr.size) := by simp [World.shape?]
      rw [hsh];simp only [run_freeze, Result.andThen_ok]
      have hfz : ({ w with drawn := w.drawn + 1, heap := w.heap.push (.cells arr e) } : World).freeze ⟨w.heap.size, arr.size, none⟩ 1 = { w with drawn := w.drawn + 1, heap := w.heap.push (.cells arr e (arr.size, arr.size + 1)) } := by
       simp [World.freeze, IP]
      rw [hfz]
     ·have hlen : Ac U.V (.lenL (.bytes y)) = (t.size : Nat) := by rw [Ak, er, hsz]; simp
      have := VR.asl (ρ := ρ.upd h.nx ⟨w.heap.size, 0, arr.size⟩) h.nx 1 (.lenL (.bytes y)) (.bc false) cap ⟨w.heap.size, 0, arr.size⟩ (Ren.upd_same _ _ _) (by rw [hlen]; exact Int.natCast_nonneg _) (by rw [hlen]; simpa using hge) (by show 0 + cap * 1 ≤ arr.size; rw [hasz]; omega) rfl
      rw [hlen] at this;simpa using this
   ·cases ha
  ·exact NO hE hr hx ha hf
 ·rename_i e' y;split at ha
  ·rename_i e hs;split at ha
   ·rename_i hc;cases ha;obtain ⟨hc, c4⟩ := Av hc;obtain ⟨hc, c3⟩ := Av hc;obtain ⟨c1, c2⟩ := Av hc;have h0 := AA c1;subst h0;have he := Nl c2;have hk := In c3;have hd := LH c4;have hk2 : U.K e = some [.int .u8] := by rw [hE.kd, ← hE.ke]; exact hk
    cases hx with
    | dat _ _ ad n cap hdv =>
     refine AM hr ⟨_, ?_, .ss (.ofBytes y)⟩;have us := hE.run_und hs w;have ud := hE.run_und hd w;have ue := hE.run_und he w;cases hdv with
     | nil _ _ g1 g2 =>
      rw [Fy g2];simp [convert, us, ud, ue, Conv.bytesToString]
     | empty _ a1 _ _ g1 g2 =>
      rw [run_convert_bytes_string w s d e _ _ _ (hE.und hs) (hE.und he) (hE.und hd), Fy g2];exact run_bytesToString (P := E.P) w a1 0 cap [] (by simp [Go.loadCells, loadCellsFrom])
     | slc _ b o _ _ _ ks arr hk' ha' hn hc' g1 hin hrow hv =>
      rw [hk2] at hk';cases hk';obtain ⟨e1, fz, hb⟩ := hr.imm b arr ha';rw [run_convert_bytes_string w s d e _ _ _ (hE.und hs) (hE.und he) (hE.und hd), ← hn];refine LM (M := ρ.imm) hb (by rw [hn]; simpa using hin) (fun i hi => ?_)
      have := hv i 0 _ (by omega) rfl
      simpa using this
   ·cases ha
  ·cases ha
 ·rename_i b es n nl;split at ha
  ·rename_i e e' y hs hg;split at ha
   ·rename_i hc;cases ha;obtain ⟨hc, c5⟩ := Av hc;obtain ⟨hc, c4⟩ := Av hc;obtain ⟨hc, c3⟩ := Av hc;obtain ⟨c1, c2⟩ := Av hc;have h0 := AA c1;subst h0;have he := Nl c2;have hk := In c3;have hd := LH c4;have hlen := EV c5;have hk2 : U.K e = some [.int .u8] := by rw [hE.kd, ← hE.ke]; exact hk
    have us := hE.run_und hs w;have ud := hE.run_und hd w;have ue := hE.run_und he w;cases hx with
    | asl _ _ _ _ cap base hb q0 qc qz qn =>
     refine AM hr ⟨_, ?_, .ss (.ofBytes y)⟩;obtain ⟨ks, cur, et, fz, r1, r2, r3, r4, r5⟩ := hr.blk b base _ hb hg;rw [hk2] at r1;cases r1;rw [run_convert_bytes_string w s d e _ _ _ (hE.und hs) (hE.und he) (hE.und hd), hlen, Ak, Int.toNat_natCast];refine LM (M := ρ.imm) r2 (by simpa using r5.1) (fun i hi => ?_)
     have := r5.2.2 i 0 _ hi rfl;simpa using this
    | aslEnd _ _ _ _ ad q0 qn =>
     refine AM hr ⟨_, ?_, .ss (.ofBytes y)⟩;rw [hlen, Ak] at q0;have g2 : (Ab U.V y).rows = [] := List.eq_nil_of_length_eq_zero (by omega)
     rw [Fy g2];cases ad with
     | none => simp [convert, us, ud, ue, Conv.bytesToString]
     | some a1 =>
      rw [run_convert_bytes_string w s d e _ _ _ (hE.und hs) (hE.und he) (hE.und hd)];exact run_bytesToString (P := E.P) w a1 0 0 [] (by simp [Go.loadCells, loadCellsFrom])
   ·cases ha
  ·cases ha
 ·exact NO hE hr hx ha hf
end
end Go.AE
namespace Go.AE
variable [U : Unk]
theorem It {l u n : SE} (h : inB l u n = true) : 0 ≤ Ac U.V l ∧ Ac U.V l ≤ Ac U.V u ∧ Ac U.V u ≤ Ac U.V n := by
 unfold inB at h;obtain ⟨h12, h3⟩ := Av h;obtain ⟨h1, h2⟩ := Av h12;have a := H9 h1;have b := H9 h2;have c := H9 h3;rw [Ay, decide_eq_false_iff_not] at a b c;have z : Ac U.V (.c 0) = 0 := rfl;rw [z] at a;omega
theorem Ei {ρ : Ren} {d e : SE} {o : Option AV} {o' : Option Value} (h1 : ∀ a, o = some a → ∃ v, o' = some v ∧ VR ρ a v) (h0 : o = none → o' = none) (h : GA d o = some e) :
  (o' = none ∧ e = d) ∨ ∃ k, o' = some (.int k (Ac U.V e)) := by
 cases o with
 | none => cases h; exact .inl ⟨h0 rfl, rfl⟩
 | some a =>
  obtain ⟨v, hv, hr⟩ := h1 a rfl;simp only [GA] at h;split at h
  ·rename_i k e' ht;cases h;exact .inr ⟨k, by rw [hv, Cy hr ht]⟩
  ·cases h
theorem Zz {ρ : Ren} {o : Option AV} {o' : Option Value} (h1 : ∀ a, o = some a → ∃ v, o' = some v ∧ VR ρ a v) : ∀ a, o.map KP = some a → ∃ v, o' = some v ∧ VR ρ a v := by
 intro a ha;cases o with
 | none => cases ha
 | some b =>
  simp only [Option.map_some, Option.some.injEq] at ha;subst ha;obtain ⟨v, q1, q2⟩ := h1 b rfl;exact ⟨v, q1, Hv q2⟩
omit U in
theorem UM [Facts] {o : Option AV} {o' : Option Value} (h0 : o = none → o' = none) : o.map KP = none → o' = none := by
 intro h;cases o with
 | none => exact h0 rfl
 | some b => cases h
theorem Im {P : Program} {w : World} {kd : IntKind} {x : Int} {y : Nat} {code : BoundsCode} (h0 : 0 ≤ x) (h1 : x ≤ y) : (Instr.sliceBound (.int kd x) y code).run P w = .ok x.toNat w := by
 simp [Instr.sliceBound, asIntOf, h0, h1]
theorem Gi {P : Program} {w : World} {b : Bool} {len cap : Nat} {l u dl du : SE} {lo' hi' : Option Value} (hl : (lo' = none ∧ l = dl) ∨ ∃ k, lo' = some (.int k (Ac U.V l))) (hu : (hi' = none ∧ u = du) ∨ ∃ k, hi' = some (.int k (Ac U.V u)))
  (hdl : Ac U.V dl = 0) (hdu : Ac U.V du = len) (h0 : 0 ≤ Ac U.V l) (h1 : Ac U.V l ≤ Ac U.V u) (h2 : Ac U.V u ≤ len) (hc : len ≤ cap) :
  (Instr.sliceBounds b len cap lo' hi' none).run P w = .ok ((Ac U.V l).toNat, (Ac U.V u).toNat, cap) w := by
 rcases hu with ⟨a, c⟩ | ⟨k, a⟩
 ·subst a; subst c;rcases hl with ⟨d, e⟩ | ⟨k, d⟩
  ·subst d; subst e;simp [Instr.sliceBounds, hdl, hdu]
  ·subst d;have := Im (P := P) (w := w) (kd := k) (code := .sliceB) h0 (show Ac U.V l ≤ (len : Int) by omega)
   simp [Instr.sliceBounds, hdu, this]
 ·subst a;have hs : ∀ code, (Instr.sliceBound (.int k (Ac U.V u)) cap code).run P w = .ok (Ac U.V u).toNat w := fun code => Im (by omega) (by omega)
  rcases hl with ⟨d, e⟩ | ⟨k', d⟩
  ·subst d; subst e;simp [Instr.sliceBounds, hdl, hs]
  ·subst d;have := Im (P := P) (w := w) (kd := k') (code := .sliceB) h0 (show Ac U.V l ≤ ((Ac U.V u).toNat : Int) by omega)
   simp [Instr.sliceBounds, hs, this]
theorem D3 {y l u : SE} : (Ab U.V (.sub y l u)).rows = ((Ab U.V y).rows.drop (Ac U.V l).toNat).take ((Ac U.V u).toNat - (Ac U.V l).toNat) := rfl
theorem KY {rows : List D} {l n i : Nat} (hi : i < n) : ((rows.drop l).take n).getD i default = rows.getD (l + i) default := by
 rw [List.getD_eq_getElem?_getD, List.getD_eq_getElem?_getD, List.getElem?_take_of_lt hi, List.getElem?_drop]
theorem HR.swap {ρ : Ren} {h : Aa} {w : World} (hr : HR ρ h.blk.get w) {r : Nat} (hl : h.blk.get r ≠ none) (x : Aj) (hx : ∀ base, ρ r = some base → BR ρ x base w.heap[base.cb]?) :
  HR ρ (h.put r x).blk.get w ∧ Ext ρ ρ h (h.put r x) w w := by
 have live : ∀ b, (h.put r x).blk.get b ≠ none → h.blk.get b ≠ none := by
  intro b h1;simp only [Aa.put, T.get_set] at h1;by_cases e : r = b
  ·subst e; exact hl
  ·rw [if_neg e] at h1; exact h1
 refine ⟨⟨hr.lt, ?_, fun b b' c c' hne hc hc' h1 h2 => hr.apart b b' c c' hne hc hc' (live b h1) (live b' h2), hr.imm, fun k arr b c hk hc h1 => hr.off k arr b c hk hc (live b h1)⟩,
  ⟨Ren.le_refl ρ, Nat.le_refl _, fun _ _ e => .inl e, Ha.refl w, fun _ _ _ => rfl, ⟨[r], rfl, ?_⟩, fun b h1 => .inl (live b h1), fun _ _ e => .inl e⟩⟩
 ·intro b c y hc hy;simp only [Aa.put, T.get_set] at hy;by_cases e : r = b
  ·subst e;rw [if_pos rfl] at hy;cases hy;exact hx c hc
  ·rw [if_neg e] at hy;exact hr.blk b c y hc hy
 ·intro b hbn _;simp only [Aa.put, T.get_set];rw [if_neg (fun e => hbn (by simp [e]))]
section
variable {E : Env} (hE : OK E) {ρ : Ren} {h : Aa} {w : World}
include hE
theorem L5 (hr : HR ρ h.blk.get w) {t : TypeId} {x a : AV} {xv : Value} {lo hi : Option AV} {lo' hi' : Option Value} {h' : Aa} (hx : VR ρ x xv)
  (hlo : ∀ a, lo = some a → ∃ v, lo' = some v ∧ VR ρ a v) (hlo0 : lo = none → lo' = none)
  (hhi : ∀ a, hi = some a → ∃ v, hi' = some v ∧ VR ρ a v) (hhi0 : hi = none → hi' = none)
  (hl : NB E t x lo hi h = some (a, h')) : h' = h ∧ ∃ v, (Instr.sliceAt t xv lo' hi' none).run E.P w = .ok v w ∧ VR ρ a v := by
 unfold NB at hl;split at hl
 ·rename_i e' y;split at hl
  ·rename_i e l u hd ho1 ho2;split at hl
   ·rename_i ks hk;split at hl
    ·rename_i hc;cases hl;refine ⟨rfl, ?_⟩;obtain ⟨c12, c3⟩ := Av hc;obtain ⟨c1, c2⟩ := Av c12;have h0 := AA c1;subst h0;obtain ⟨b0, b1, b2⟩ := It c3;have hk2 : U.K e = some ks := by rw [hE.kd, ← hE.ke]; exact hk
     have p1 := Ei hlo hlo0 ho1;have p2 := Ei hhi hhi0 ho2;rw [Ak] at b2;cases hx with
     | dat _ _ ad n cap hdv =>
      have hn : (Ab U.V y).rows.length = n ∧ n ≤ cap := by
       cases hdv with
       | nil _ _ g1 g2 => rw [g2]; exact ⟨rfl, Nat.le_refl _⟩
       | empty _ _ _ _ g1 g2 => rw [g2]; exact ⟨rfl, Nat.zero_le _⟩
       | slc _ _ _ _ _ _ _ _ _ _ q1 q2 => exact ⟨q1, q2⟩
      obtain ⟨hn, hc⟩ := hn;have q := Gi (P := E.P) (w := w) (b := true) (cap := cap) p1 p2 rfl (by rw [Ak, hn]) b0 b1 (by rw [← hn]; exact b2) hc
      have hrun : (Instr.sliceAt t (.slice ad n cap) lo' hi' none).run E.P w = .ok (.slice (if cap = (Ac U.V l).toNat then ad else ad.map (·.add ((Ac U.V l).toNat * ks.length))) ((Ac U.V u).toNat - (Ac U.V l).toNat) (cap - (Ac U.V l).toNat)) w := by
       simp [Instr.sliceAt, Instr.slice, hE.run_und hd, q, hE.run_szIs c2]
      refine ⟨_, hrun, ?_⟩;refine .dat _ _ _ _ _ ?_;generalize hL : (Ac U.V l).toNat = L at *;generalize hH : (Ac U.V u).toNat = H at *;have hLH : L ≤ H := by omega
      have hHn : H ≤ n := by omega
      have hrl : (Ab U.V (.sub y l u)).rows.length = H - L := by
       rw [D3, hL, hH]; simp; omega
      cases hdv with
      | nil _ _ g1 g2 =>
       have z : L = 0 ∧ H = 0 := by omega
       obtain ⟨rfl, rfl⟩ := z;simp only [Nat.sub_self, if_true];exact .nil _ _ g1 (List.eq_nil_of_length_eq_zero hrl)
      | empty _ a1 _ _ g1 g2 =>
       have z : L = 0 ∧ H = 0 := by omega
       obtain ⟨rfl, rfl⟩ := z;have hnil := List.eq_nil_of_length_eq_zero hrl;split
       ·exact .empty _ _ _ _ g1 hnil
       ·exact .empty _ _ _ _ g1 hnil
      | slc _ b o _ _ _ ks' arr hk' ha' hn' hc' g1 hin hrow hv =>
       rw [hk2] at hk';cases hk';by_cases hcl : cap = L
       ·rw [if_pos hcl];have z : H - L = 0 := by omega
        rw [z] at hrl ⊢;exact .empty _ _ _ _ g1 (List.eq_nil_of_length_eq_zero hrl)
       ·rw [if_neg hcl];simp only [Option.map_some, BY]
        have key : ∀ i, i < H - L → (Ab U.V (.sub y l u)).rows.getD i default = (Ab U.V y).rows.getD (L + i) default := by
         intro i hi;rw [D3, hL, hH, KY hi]
        refine .slc _ _ _ _ _ _ ks arr hk2 ha' hrl (by omega) g1 ?_ ?_ ?_
        ·have e1 : L * ks.length + (H - L) * ks.length = H * ks.length := by rw [← Nat.add_mul]; congr 1; omega
         have e2 : H * ks.length ≤ n * ks.length := Nat.mul_le_mul_right _ hHn;omega
        ·intro i hi;rw [key i hi];exact hrow _ (by omega)
        ·intro i j kd hi hj;rw [key i hi];have := hv (L + i) j kd (by omega) hj
         rw [show o + L * ks.length + i * ks.length + j = o + (L + i) * ks.length + j by rw [Nat.add_mul]; omega]
         exact this
    ·cases hl
   ·cases hl
  ·cases hl
 ·cases hl
theorem LU (hr : HR ρ h.blk.get w) {t e : TypeId} {b es : Nat} {n nl y l u du : SE} {xv : Value} {lo' hi' : Option Value} (hd : E.desc t = some (.slice e)) (c2 : E.szIs e es = true) (hb : h.blk.get b = some (.arr e y)) (hx : VR ρ (.asl b es n nl) xv)
  (p1 : (lo' = none ∧ l = .c 0) ∨ ∃ k, lo' = some (.int k (Ac U.V l))) (p2 : (hi' = none ∧ u = du) ∨ ∃ k, hi' = some (.int k (Ac U.V u))) (hdu : Ac U.V du = Ac U.V n) (hl0 : Ac U.V l = 0) (b1 : 0 ≤ Ac U.V u) (bn : Ac U.V u ≤ Ac U.V n) (b2 : Ac U.V u ≤ Ac U.V (.lenL y)) :
  A3 E ρ h (h.put b (.arr e (.sub y (.c 0) u))) w (Instr.sliceAt t xv lo' hi' none) (.asl b es (.lenL (.sub y (.c 0) u)) nl) := by
 have hu : Ac U.V (.lenL (.sub y (.c 0) u)) = Ac U.V u := by
  rw [Ak, D3];rw [Ak] at b2;have : Ac U.V (.c 0) = 0 := rfl;rw [this];simp;omega
 have hblk : ∀ base, ρ b = some base → BR ρ (.arr e (.sub y (.c 0) u)) base w.heap[base.cb]? := by
  intro base hρ;obtain ⟨ks', cur, et, fz, b1', b2', b3', b4', b5'⟩ := hr.blk b base _ hρ hb;refine ⟨ks', cur, et, fz, b1', b2', b3', b4', ?_⟩
  have hlen : (Ab U.V (.sub y (.c 0) u)).rows.length ≤ (Ab U.V y).rows.length := by
   rw [D3]; simp; omega
  have key : ∀ i, i < (Ab U.V (.sub y (.c 0) u)).rows.length → (Ab U.V (.sub y (.c 0) u)).rows.getD i default = (Ab U.V y).rows.getD i default := by
   intro i hi;rw [D3] at hi ⊢;have : Ac U.V (.c 0) = 0 := rfl;rw [this] at hi ⊢;rw [KY (by simp at hi; omega)]
   congr 1
   simp
  refine ⟨?_, ?_, ?_⟩
  ·have := b5'.1;have := Nat.mul_le_mul_right ks'.length hlen;omega
  ·intro i hi;rw [key i hi];exact b5'.2.1 i (by omega)
  ·intro i j kd hi hj;rw [key i hi];exact b5'.2.2 i j kd (by omega) hj
 obtain ⟨r1, r2⟩ := hr.swap (show h.blk.get b ≠ none by rw [hb]; exact Option.some_ne_none _) _ hblk
 cases hx with
 | asl _ _ _ _ cap base hρ q0 qc qz qn =>
  have q := Gi (P := E.P) (w := w) (b := true) (len := (Ac U.V n).toNat) (cap := cap) p1 p2 rfl (by omega) (by omega) (by omega) (by omega) qc
  rw [hl0] at q
  have hrun : (Instr.sliceAt t (.slice (some ⟨base.cb, base.co, none⟩) (Ac U.V n).toNat cap) lo' hi' none).run E.P w = .ok (.slice (some ⟨base.cb, base.co, none⟩) (Ac U.V u).toNat cap) w := by
   simp [Instr.sliceAt, Instr.slice, hE.run_und hd, q, hE.run_szIs c2, BY]
  refine ⟨ρ, _, w, hrun, ?_, r1, r2⟩;have := VR.asl (ρ := ρ) b es (.lenL (.sub y (.c 0) u)) nl cap base hρ (by rw [hu]; exact b1) (by rw [hu]; omega) qz qn
  rw [hu] at this;exact this
 | aslEnd _ _ _ _ ad q0 qn =>
  have hu0 : Ac U.V u = 0 := by omega
  have q := Gi (P := E.P) (w := w) (b := true) (len := 0) (cap := 0) p1 p2 rfl (by rw [hdu, q0]; rfl) (by omega) (by omega) (by rw [hu0]; exact Int.le_refl _) (Nat.le_refl _)
  rw [hl0, hu0] at q
  have hrun : (Instr.sliceAt t (.slice ad 0 0) lo' hi' none).run E.P w = .ok (.slice ad 0 0) w := by
   simp [Instr.sliceAt, Instr.slice, hE.run_und hd, q, hE.run_szIs c2]
  exact ⟨ρ, _, w, hrun, .aslEnd _ _ _ _ _ (by rw [hu]; exact hu0) qn, r1, r2⟩
theorem Sb (hr : HR ρ h.blk.get w) {t : TypeId} {x a : AV} {xv : Value} {lo hi mx : Option AV} {lo' hi' mx' : Option Value} {h' : Aa} (hx : VR ρ x xv)
  (hlo : ∀ a, lo = some a → ∃ v, lo' = some v ∧ VR ρ a v) (hlo0 : lo = none → lo' = none)
  (hhi : ∀ a, hi = some a → ∃ v, hi' = some v ∧ VR ρ a v) (hhi0 : hi = none → hi' = none)
  (hmx : ∀ a, mx = some a → ∃ v, mx' = some v ∧ VR ρ a v) (hmx0 : mx = none → mx' = none)
  (hmh : mx ≠ none → hi ≠ none)
  (hl : sliceB E t x lo hi mx h = some (a, h')) : A3 E ρ h h' w (Instr.sliceAt t xv lo' hi' mx') a := by
 unfold sliceB at hl;split at hl
 ·have e0 := hmx0 rfl;subst e0;obtain ⟨rfl, q⟩ := L5 hE hr hx hlo hlo0 hhi hhi0 hl;exact AM hr q
 ·rename_i y;have e0 := hmx0 rfl;subst e0;split at hl
  ·rename_i l u hd ho1 ho2;split at hl
   ·rename_i hc;cases hl;obtain ⟨b0, b1, b2⟩ := It hc;have p1 := Ei hlo hlo0 ho1;have p2 := Ei hhi hhi0 ho2;cases hx with
    | ss _ =>
     refine AM hr ⟨_, ?_, .ss (.strSub y l u)⟩;rw [Dq] at b2;have hsz : (AP U.V y).size = (AP U.V y).data.toList.length := by simp
     have q := Gi (P := E.P) (w := w) (b := false) (len := (AP U.V y).size) (cap := (AP U.V y).size) p1 p2 rfl (by rw [Dq, hsz]) b0 b1 (by rw [hsz]; exact b2) (Nat.le_refl _)
     have e : AP U.V (.strSub y l u) = (AP U.V y).extract (Ac U.V l).toNat (Ac U.V u).toNat := rfl;rw [e];simp [Instr.sliceAt, Instr.slice, hE.run_und hd, q]
   ·cases hl
  ·cases hl
 ·rename_i b es n nl;have e0 := hmx0 rfl;subst e0;split at hl
  ·rename_i e e' y hd hb;split at hl
   ·rename_i hc;obtain ⟨c12, c3⟩ := Av hc;obtain ⟨c1, c2⟩ := Av c12;have h0 := AA c1;subst h0;have hfl := EV c3;split at hl
    ·rename_i l u ho1 ho2;split at hl
     ·rename_i hz;split at hl
      ·rename_i hi2;cases hl;obtain ⟨b0, b1, b2⟩ := It hi2;rw [BD] at b0 b1
       have hl0 : Ac U.V l = 0 := by
        cases l <;> simp only [Wj] at hz <;> first | cases hz | skip
        simpa [BD] using hz
       exact LU hE hr hd c2 hb hx (Ei hlo hlo0 ho1) (Ei hhi hhi0 ho2) hfl.symm hl0 b1 (by rw [hfl]; exact b2) b2
      ·cases hl
     ·split at hl;rename_i x' h1 hf;obtain ⟨σ, g1, g2, g3⟩ := Jz hE hr hx hf;obtain ⟨rfl, v, q1, q2⟩ := L5 hE g2 g1 (fun a ha => let ⟨v, p, q⟩ := hlo a ha; ⟨v, p, q.mono g3.le⟩) hlo0 (fun a ha => let ⟨v, p, q⟩ := hhi a ha; ⟨v, p, q.mono g3.le⟩) hhi0 hl
      exact ⟨σ, v, w, q1, q2, g2, g3⟩
    ·cases hl
   ·split at hl
    ·rename_i l hv u ho1 ho2;split at hl
     ·rename_i hc;cases hl;obtain ⟨c1, hc⟩ := Av hc;obtain ⟨c2, hc⟩ := Av hc;obtain ⟨hz, hc⟩ := Av hc;obtain ⟨c3, c4⟩ := Av hc;have h0 := AA c1;subst h0;obtain ⟨b0, b1, b2⟩ := It c3;obtain ⟨_, _, b3⟩ := It c4;rw [BD] at b0 b1
      have hl0 : Ac U.V l = 0 := by
       cases l <;> simp only [Wj] at hz <;> first | cases hz | skip
       simpa [BD] using hz
      exact LU hE hr hd c2 hb hx (Ei hlo hlo0 ho1) (Ei hhi hhi0 ho2) rfl hl0 b1 b2 b3
     ·cases hl
    ·cases hl
  ·cases hl
 ·split at hl
  ·rename_i a' hs;cases hl
   exact AM hr (R8 hE hr hx (Zz hlo) (UM hlo0) (Zz hhi) (UM hhi0) (Zz hmx) (UM hmx0) (fun q => by cases hi with
    | none => exact absurd rfl (hmh (fun e => q (by rw [e]; rfl)))
    | some a => simp) hs)
  ·cases hl
end
end Go.AE
namespace Go.AE
variable [U : Unk]
theorem Gx {ρ : Ren} {x : AV} {xv : Value} {e : SE} (hx : VR ρ x xv) (h : On x = some e) : xv = .string (AP U.V e) := by
 cases hx <;> simp only [On] at h <;> first | (cases h; done) | skip
 ·rename_i s;cases h
  have e1 : AP U.V (.strc s.data.toList.length (AC s.data.toList)) = s := by
   show (⟨(CZ _ _).toArray⟩ : ByteArray) = s;rw [DM (U := U)]
  rw [e1]
 ·cases h; rfl
theorem HF {ρ : Ren} {x : AV} {xv : Value} {e : SE} (hx : VR ρ x xv) (h : KT x = some e) : xv = .bool (Ad U.V e) := by
 cases hx
 case bool b => simp only [KT, Option.some.injEq] at h; subst h; rfl
 case sb p e' =>
  cases p with
  | true =>
   simp only [KT, Option.some.injEq] at h;subst h;have : Ad U.V (.and e' (.bc true)) = (Ad U.V e' && true) := rfl;rw [this];cases Ad U.V e' <;> rfl
  | false =>
   simp only [KT, Option.some.injEq] at h;subst h;have : Ad U.V (.neg e') = (!Ad U.V e') := rfl;rw [this];cases Ad U.V e' <;> rfl
 all_goals (simp only [KT] at h; cases h)
theorem Rf (a b : SE) : Ad U.V (WT a b) = (Ad U.V a && Ad U.V b) := by
 unfold WT;split
 ·show Ad U.V a = (Ad U.V a && true);rw [Bool.and_true]
 ·rfl
theorem RD (a b : SE) : Ad U.V (Zu a b) = (Ac U.V a == Ac U.V b) := by
 unfold Zu;split <;> rfl
theorem Rp (a b : SE) : Ad U.V (YQ a b) = (Ad U.V a == Ad U.V b) := by
 show (!((!(Ad U.V a && Ad U.V b)) && (!((!Ad U.V a) && (!Ad U.V b))))) = _;cases Ad U.V a <;> cases Ad U.V b <;> rfl
section
variable {E : Env} (hE : OK E) {ρ : Ren} {w : World}
include hE
theorem HV {d : Nat} (ih : ∀ (t : TypeId) (x y : AV) (r : SE) (xv yv : Value), Hc E d t x y = some r → VR ρ x xv → VR ρ y yv → (Op.equalIn d t xv yv).run E.P w = .ok (Ad U.V r) w)
  {xs ys : List AV} {xs' ys' : List Value} (hx : VL ρ xs xs') (hy : VL ρ ys ys') : ∀ {fs : List Field} {r : SE}, EC E (Hc E d) xs ys fs = some r →
  (Op.eqFields d xs'.toArray ys'.toArray fs).run E.P w = .ok (Ad U.V r) w
 | [], r, h => by simp only [EC, Option.some.injEq] at h; subst h; simp only [Op.eqFields, Sem.run_pure]; rfl
 | f :: fs, r, h => by
  simp only [EC] at h;split at h
  ·cases h
  ·rename_i hn;have hne : f.name ≠ "_" := by simpa using hn
   split at h
   ·rename_i a b h1 h2;split at h
    ·rename_i e e' h3 h4;cases h;obtain ⟨av, q1, q2⟩ := hE.run_part h1 hx w;obtain ⟨bv, q3, q4⟩ := hE.run_part h2 hy w;have q5 := ih _ _ _ _ _ _ h3 q2 q4;have q6 := HV ih hx hy h4;simp only [Op.eqFields, ne_eq, hne, not_false_eq_true, if_true, Sem.run_bind, q1, q3, q5, Result.andThen_ok, Rf];cases Ad U.V e with
     | true => simp only [Bool.not_true, Bool.false_eq_true, if_false, Bool.true_and]; exact q6
     | false => simp
    ·cases h
   ·cases h
theorem IT {d : Nat} (ih : ∀ (t : TypeId) (x y : AV) (r : SE) (xv yv : Value), Hc E d t x y = some r → VR ρ x xv → VR ρ y yv → (Op.equalIn d t xv yv).run E.P w = .ok (Ad U.V r) w)
  {xs ys : List AV} {xs' ys' : List Value} (hx : VL ρ xs xs') (hy : VL ρ ys ys') {e : TypeId} {n : Nat} : ∀ {k i : Nat} {r : SE}, FV E (Hc E d) e n xs ys k i = some r →
  (Op.eqItems d e n xs'.toArray ys'.toArray (List.range' i k)).run E.P w = .ok (Ad U.V r) w
 | 0, i, r, h => by simp only [FV, Option.some.injEq] at h; subst h; simp only [List.range'_zero, Op.eqItems, Sem.run_pure]; rfl
 | k + 1, i, r, h => by
  simp only [FV] at h;split at h
  ·rename_i a b h1 h2;split at h
   ·rename_i x y h3 h4;cases h;obtain ⟨av, q1, q2⟩ := hE.run_part h1 hx w;obtain ⟨bv, q3, q4⟩ := hE.run_part h2 hy w;have q5 := ih _ _ _ _ _ _ h3 q2 q4;have q6 := IT ih hx hy h4;simp only [List.range'_succ, Op.eqItems, Sem.run_bind, q1, q3, q5, Result.andThen_ok, Rf];cases Ad U.V x with
    | true => simp only [Bool.not_true, Bool.false_eq_true, if_false, Bool.true_and]; exact q6
    | false => simp
   ·cases h
  ·cases h
theorem MT : ∀ (d : Nat) (t : TypeId) (x y : AV) (r : SE) (xv yv : Value), Hc E d t x y = some r → VR ρ x xv → VR ρ y yv → (Op.equalIn d t xv yv).run E.P w = .ok (Ad U.V r) w := by
 intro d
 induction d with
 | zero => intro t x y r xv yv h; simp [Hc] at h
 | succ d ih =>
  intro t x y r xv yv h hx hy;simp only [Hc] at h;split at h
  ·rename_i hd;have hu := hE.run_und hd w;split at h
   ·rename_i a b ha hb;cases h;rw [HF hx ha, HF hy hb, Rp];simp [Op.equalIn, hu]
   ·cases h
  ·rename_i k0 hd;have hu := hE.run_und hd w;split at h
   ·rename_i k a k' b ha hb;split at h
    ·rename_i hk;cases h;have hk : k = k' := by simpa using hk
     subst hk;rw [Cy hx ha, Cy hy hb, RD];simp [Op.equalIn, hu]
    ·cases h
   ·cases h
  ·rename_i hd;have hu := hE.run_und hd w;split at h
   ·rename_i a b ha hb;cases h;rw [Gx hx ha, Gx hy hb]
    have e : Ad U.V (.eqSS a b) = ((AP U.V a).toList == (AP U.V b).toList) := by
     rw [KJ, B7]
    rw [e];simp only [Op.equalIn, Sem.run_bind, hu, Result.andThen_ok, Sem.run_pure];rw [beq_toListBytes]
   ·cases h
  ·rename_i fs hd;split at h
   ·rename_i xs ys;split at h
    ·cases h
    ·rename_i hs;cases hx with
     | agg _ xs' a1 a2 =>
      cases hy with
      | agg _ ys' b1 b2 =>
       have hund := hE.und hd;have hfo : E.P.fieldsOf t = fs := by simp [Program.fieldsOf, hund]
       rw [run_equalIn_struct w d t xs'.toArray ys'.toArray (by rw [hfo]; exact hund) hs, hfo]
       exact HV hE ih ⟨a1, a2⟩ ⟨b1, b2⟩ h
   ·cases h
  ·rename_i len e hd;split at h
   ·rename_i xs ys;split at h
    ·rename_i hh;cases hx with
     | agg _ xs' a1 a2 =>
      cases hy with
      | agg _ ys' b1 b2 =>
       unfold Env.has at hh;cases hi : E.ty.get e with
       | none => simp [hi] at hh
       | some inf =>
        have hcs : E.P.cellsOf e = E.size e := by simp [Program.cellsOf, hE.ty e inf hi, Env.size, hi]
        rw [run_equalIn_array w d xs'.toArray ys'.toArray (hE.und hd) (hE.ty e inf hi), hcs, List.range_eq_range'];exact IT hE ih ⟨a1, a2⟩ ⟨b1, b2⟩ h
    ·cases h
   ·cases h
  ·cases h
theorem UD {op : BinOp} {t : TypeId} {ox oy : Operand} {x y r : AV} {xv yv : Value} (hx : VR ρ x xv) (hy : VR ρ y yv) (hr : UX E op t x y = some r) :
  ∃ v, (do eqGuard op t ox oy xv yv; binOp op t xv yv : Sem Value).run E.P w = .ok v w ∧ VR ρ r v := by
 unfold UX at hr;split at hr
 ·rename_i xs ys;split at hr
  ·cases hr
  ·rename_i hg0;split at hr
   ·rename_i e he;have hrun := MT (w := w) hE 10000 t _ _ e xv yv he hx hy;cases hx with
    | agg _ xs' a1 a2 =>
     cases hy with
     | agg _ ys' b1 b2 =>
      have hg : (eqGuard op t ox oy (.agg xs'.toArray) (.agg ys'.toArray)).run E.P w = .ok () w := CA (by simp) (fun _ _ => hg0)
      obtain ⟨q1, q2⟩ := Gr t (.agg xs'.toArray) (.agg ys'.toArray) (by simp) (by simp) (by simp) (by simp)
      split at hr
      ·rename_i q hq;cases hr;have hm := Hg ρ q e;cases op <;> simp only [CP, Option.some.injEq] at hq <;> first | (cases hq; done) | skip
       ·subst hq;refine ⟨.bool (Ad U.V e), ?_, ?_⟩
        ·simp only [Sem.run_bind, hg, Result.andThen_ok, q1, Op.equal, Op.maxDepth, hrun, Sem.run_pure]
        ·rwa [show (Ad U.V e == true) = Ad U.V e by cases Ad U.V e <;> rfl] at hm
       ·subst hq;refine ⟨.bool (!Ad U.V e), ?_, ?_⟩
        ·simp only [Sem.run_bind, hg, Result.andThen_ok, q2, Op.equal, Op.maxDepth, hrun, Sem.run_pure]
        ·rwa [show (Ad U.V e == !true) = !Ad U.V e by cases Ad U.V e <;> rfl] at hm
      ·cases hr
   ·cases hr
 ·cases hr
theorem YS {t : TypeId} {k key : AV} {kv keyv : Value} {b : Bool} (h : eqK E t k key = some b) (hk : VR ρ k kv) (hy : VR ρ key keyv) : (Op.equal t kv keyv).run E.P w = .ok b w := by
 unfold eqK at h;split at h
 ·rename_i c hc;cases h;exact O6 (w := w) hE 10000 t k key b kv keyv hc hk hy
 ·split at h
  ·rename_i e he;have := MT (w := w) hE 10000 t k key e kv keyv he hk hy;rw [Az U.ok h] at this;exact this
  ·cases h
theorem IV {t : TypeId} {k : AV} {kv : Value} (hk : VR ρ k kv) : ∀ {es : List AO} {es' : List MapEntry} {i : Nat} {r : Option (Nat × AV)}, ER ρ es es' → Et E t k es i = some r →
  ∃ r', FR ρ r r' ∧ (Instr.findAsking t kv es' i).run E.P w = .ok r' w
 | [], [], i, r, _, h => by
  simp only [Et, Option.some.injEq] at h;subst h;exact ⟨none, trivial, by simp [Instr.findAsking]⟩
 | e :: es, e' :: es', i, r, ⟨h1, h2, h3, h4⟩, h => by
  simp only [Et] at h;cases ha : eqK E t k e.key with
  | none => simp [ha] at h
  | some b =>
   have hask : (Op.equal t kv e'.key).run E.P w = .ok b w := YS hE ha hk h1;cases b with
   | true =>
    simp only [ha, Option.some.injEq] at h;subst h;exact ⟨some (i, e'.val), ⟨rfl, h2⟩, by simp [Instr.findAsking, hask]⟩
   | false =>
    simp only [ha] at h;obtain ⟨r', q1, q2⟩ := IV hk h4 h;exact ⟨r', q1, by simp [Instr.findAsking, hask, q2]⟩
omit hE in
theorem HN {d : Nat} {t : TypeId} {ds : TypeDesc} (hd : E.desc t = some ds) {x y : AV} {e : SE} {b : Bool} {xv yv : Value} (he : Hc E (d + 1) t x y = some e) (hb : Ad U.V e = b) (hx : VR ρ x xv) (hy : VR ρ y yv) :
  Instr.sameNow ds xv yv = some b ∨ ∀ u v, Instr.sameNow ds u v = none := by
 simp only [Hc, hd] at he;cases ds with
 | int q =>
  simp only at he;split at he
  ·rename_i k a k' c h1 h2;split at he
   ·rename_i hk;cases he;have hk : k = k' := by simpa using hk
    subst hk;rw [Cy hx h1, Cy hy h2];rw [RD] at hb;exact .inl (by simp [Instr.sameNow, hb])
   ·cases he
  ·cases he
 | string =>
  simp only at he;split at he
  ·rename_i a c h1 h2;cases he;rw [Gx hx h1, Gx hy h2];rw [KJ, B7] at hb;exact .inl (by simp only [Instr.sameNow]; rw [beq_toListBytes, hb])
  ·cases he
 | bool =>
  simp only at he;split at he
  ·rename_i a c h1 h2;cases he;rw [HF hx h1, HF hy h2];rw [Rp] at hb;exact .inl (by simp [Instr.sameNow, hb])
  ·cases he
 | _ => exact .inr (fun u v => by cases u <;> cases v <;> rfl)
omit hE in
theorem Ob {t : TypeId} {ds : TypeDesc} (hd : E.desc t = some ds) {x y : AV} {b : Bool} {xv yv : Value} (ha : eqK E t x y = some b) (hx : VR ρ x xv) (hy : VR ρ y yv) :
  Instr.sameNow ds xv yv = some b ∨ ∀ u v, Instr.sameNow ds u v = none := by
 unfold eqK at ha;split at ha
 ·rename_i c hc;cases ha;exact K1 (d := 9999) hd hc hx hy
 ·split at ha
  ·rename_i e he;have hb := Az U.ok ha;exact HN (d := 9999) hd he hb hx hy
  ·cases ha
omit hE in
theorem IH {t : TypeId} {ds : TypeDesc} (hd : E.desc t = some ds) {k : AV} {kv : Value} (hk : VR ρ k kv) (hq : ¬ ∀ u v, Instr.sameNow ds u v = none) : ∀ {es : List AO} {es' : List MapEntry} {i : Nat} {r : Option (Nat × AV)}, ER ρ es es' → Et E t k es i = some r →
  ∃ r', FR ρ r r' ∧ Instr.findNow ds kv es' i = some r'
 | [], [], i, r, _, h => by
  simp only [Et, Option.some.injEq] at h;subst h;exact ⟨none, trivial, rfl⟩
 | e :: es, e' :: es', i, r, ⟨h1, h2, h3, h4⟩, h => by
  simp only [Et] at h;cases ha : eqK E t k e.key with
  | none => simp [ha] at h
  | some b =>
   have hs : Instr.sameNow ds kv e'.key = some b := (Ob hd ha hk h1).resolve_right hq;cases b with
   | true =>
    simp only [ha, Option.some.injEq] at h;subst h;exact ⟨some (i, e'.val), ⟨rfl, h2⟩, by simp [Instr.findNow, hs]⟩
   | false =>
    simp only [ha] at h;obtain ⟨r', q1, q2⟩ := IH hd hk hq h4 h;exact ⟨r', q1, by simp [Instr.findNow, hs, q2]⟩
theorem IS {t : TypeId} {ds : TypeDesc} (hd : E.desc t = some ds) {k : AV} {kv : Value} (hk : VR ρ k kv) {es : List AO} {es' : List MapEntry} {r : Option (Nat × AV)} (he : ER ρ es es') (h : Et E t k es 0 = some r) :
  ∃ r', FR ρ r r' ∧ (Instr.findKey t kv es').run E.P w = .ok r' w := by
 by_cases hq : ∀ u v, Instr.sameNow ds u v = none
 ·cases es' with
  | nil =>
   cases es with
   | nil =>
    simp only [Et, Option.some.injEq] at h;subst h;exact ⟨none, trivial, by simp [Instr.findKey, hE.run_und hd, Instr.findNow]⟩
   | cons e es => cases he
  | cons e' es' =>
   obtain ⟨r', q1, q2⟩ := IV (w := w) hE hk he h;exact ⟨r', q1, by simp [Instr.findKey, hE.run_und hd, Instr.findNow, hq, q2]⟩
 ·obtain ⟨r', q1, q2⟩ := IH hd hk hq he h;exact ⟨r', q1, by simp [Instr.findKey, hE.run_und hd, q2]⟩
end
end Go.AE
namespace Go.AE
section
variable [U : Unk]
theorem Us (V : Val) : ∀ e : SE, Ad V e = (JT e).all (Ad V) := by
 intro e
 induction e with
 | and a b iha ihb =>
  show (Ad V a && Ad V b) = (JT a ++ JT b).all (Ad V);rw [List.all_append, ← iha, ← ihb]
 | bc b =>
  cases b with
  | true => rfl
  | false => rfl
 | _ => simp [JT]
theorem JX : ∀ {l m : List SE}, Jw l m = true → l = m
 | [], [], _ => rfl
 | a :: l, b :: m, h => by
  simp only [Jw] at h;obtain ⟨h1, h2⟩ := Av h;rw [SE.same_eq h1, JX h2]
 | [], _ :: _, h => by cases h
 | _ :: _, [], h => by cases h
theorem Mg (l b l' b' : Nat) : strEq l b l' b' = strEq l' b' l b := by
 simp only [strEq];rw [Bool.eq_iff_iff];simp only [Bool.and_eq_true, Nat.beq_eq];constructor <;> (rintro ⟨rfl, rfl⟩; exact ⟨rfl, rfl⟩)
theorem CJ {α : Type} {a : α} {l : List α} {d : α} (q : Nat) : (a :: l).getD (q + 1) d = l.getD q d := by
 simp [List.getD_eq_getElem?_getD]
theorem Me {α : Type} {a : α} {l : List α} {d : α} : (a :: l).getD 0 d = a := rfl
theorem Oz (V : Val) : ∀ (ks : List Kd) (i j : Nat) (c1 c2 : List D), Ii ks = true → ks.length ≤ c1.length → ks.length ≤ c2.length → (∀ q, q < ks.length → V.d (j + q) = c1.getD q default) → (∀ q, q < ks.length → V.d (i + q) = c2.getD q default) →
  (Q1 i j ks).all (Ad V) = BX ks c1 c2
 | [], i, j, c1, c2, _, _, _, _, _ => by cases c1 <;> cases c2 <;> rfl
 | k :: ks, i, j, [], c2, _, h, _, _, _ => by simp at h
 | k :: ks, i, j, _ :: _, [], _, _, h, _, _ => by simp at h
 | k :: ks, i, j, a :: c1, b :: c2, hs, h1, h2, g1, g2 => by
  have ea : V.d j = a := by have := g1 0 (by simp); simpa using this
  have eb : V.d i = b := by have := g2 0 (by simp); simpa using this
  have rc := fun hs' => Oz V ks (i + 1) (j + 1) c1 c2 hs' (by simpa using h1) (by simpa using h2)
   (fun q hq => by have := g1 (q + 1) (by simp; omega); rw [CJ] at this; rw [← this]; congr 1; omega)
   (fun q hq => by have := g2 (q + 1) (by simp; omega); rw [CJ] at this; rw [← this]; congr 1; omega)
  simp only [Q1, List.all_cons];cases k with
  | int k =>
   rw [rc hs];show (((V.d i).toInt == (V.d j).toInt) && _) = ((a.toInt == b.toInt) && _);rw [ea, eb, Bool.beq_comm]
  | bool =>
   rw [rc hs]
   have : Ad V (Y7 i j .bool) = (a.toBool == b.toBool) := by
    show (!((!(((V.d i).toBool && true) && ((V.d j).toBool && true))) && (!((!((V.d i).toBool && true)) && (!((V.d j).toBool && true)))))) = _;rw [ea, eb];cases a.toBool <;> cases b.toBool <;> rfl
   rw [this];rfl
  | str =>
   rw [rc hs]
   have : Ad V (Y7 i j .str) = D.strEq a b := by
    show strEq (V.d i).toStr.data.toList.length (AC (V.d i).toStr.data.toList) (V.d j).toStr.data.toList.length (AC (V.d j).toStr.data.toList) = _;rw [ea, eb, Mg];rfl
   rw [this];rfl
  | slice e => simp [Ii] at hs
theorem W0 {ρ : Ren} {j : Nat} {kd : Kd} {v : Value} {K : TypeId → Option (List Kd)} {M : Nat → Option (Array Value)} (h : DV K M kd v (U.V.d j)) : VR ρ (gm j kd) v := by
 cases h with
 | int k n _ hr e =>
  have : Ac U.V (.var j) = n := e;rw [← this];exact .si k (.var j)
 | bool b _ e =>
  have : Ad U.V (.var j) = b := e;have q := VR.sb (ρ := ρ) true (.var j);rw [this, show (b == true) = b by cases b <;> rfl] at q
  exact q
 | str s _ e =>
  have : AP U.V (.var j) = s := e;rw [← this];exact .ss (.var j)
 | _ => exact .top _
theorem JM {ρ : Ren} {K : TypeId → Option (List Kd)} {M : Nat → Option (Array Value)} : ∀ (ks : List Kd) (j : Nat) (l : List Value), l.length = ks.length → (∀ q kd, ks[q]? = some kd → DV K M kd (l.getD q Go.undef) (U.V.d (j + q))) → VL ρ (L0 j ks) l
 | [], j, [], _, _ => VL.nil ρ
 | k :: ks, j, v :: l, h, g => by
  refine VL.cons (W0 (g 0 k rfl)) (JM (K := K) (M := M) ks (j + 1) l (by simpa using h) fun q kd hq => ?_)
  have := g (q + 1) kd (by simpa using hq)
  rw [CJ] at this
  rwa [show j + (q + 1) = j + 1 + q by omega] at this
theorem MV {ρ : Ren} {l : List AV} {vs : List Value} (h : VL ρ l vs) : VR ρ (MD l) (Q4 vs) := by
 cases l with
 | nil =>
  have := h.nil_inv;subst this;exact .agg [] [] h.1 h.2
 | cons a l =>
  obtain ⟨v, r, rfl, h1, h2⟩ := h.cons_inv;cases l with
  | nil =>
   have := h2.nil_inv;subst this;exact h1
  | cons b l =>
   obtain ⟨v', r', rfl, _, _⟩ := h2.cons_inv;exact .agg _ _ h.1 h.2
theorem RE {K : TypeId → Option (List Kd)} {M : Nat → Option (Array Value)} : ∀ (ks : List Kd) (l1 l2 : List Value) (c1 c2 : List D), Ii ks = true → l1.length = ks.length → l2.length = ks.length → (∀ (j : Nat) kd, ks[j]? = some kd → DV K M kd (l1.getD j Go.undef) (c1.getD j default)) → (∀ (j : Nat) kd, ks[j]? = some kd → DV K M kd (l2.getD j Go.undef) (c2.getD j default)) →
  BX ks c1 c2 = true → l1 = l2
 | [], [], [], _, _, _, _, _, _, _, _ => rfl
 | k :: ks, v :: l1, u :: l2, [], c2, hs, h1, h2, g1, g2, h => by cases k <;> simp [BX] at h
 | k :: ks, v :: l1, u :: l2, _ :: _, [], hs, h1, h2, g1, g2, h => by cases k <;> simp [BX] at h
 | k :: ks, v :: l1, u :: l2, a :: c1, b :: c2, hs, h1, h2, g1, g2, h => by
  have rc := fun hs' hk => RE ks l1 l2 c1 c2 hs' (by simpa using h1) (by simpa using h2)
   (fun q kd hq => by have := g1 (q + 1) kd (by simpa using hq); rwa [CJ, CJ] at this)
   (fun q kd hq => by have := g2 (q + 1) kd (by simpa using hq); rwa [CJ, CJ] at this) hk
  have d1 := g1 0 k rfl;have d2 := g2 0 k rfl;simp only [Me] at d1 d2;cases k with
  | slice e => simp [Ii] at hs
  | int k =>
   simp only [BX] at h;obtain ⟨e1, e2⟩ := Av h;rw [rc hs e2];cases d1 with
   | int _ n1 _ _ q1 =>
    cases d2 with
    | int _ n2 _ _ q2 =>
     have : a.toInt = b.toInt := by simpa using e1
     rw [q1, q2] at this;rw [this]
  | bool =>
   simp only [BX] at h;obtain ⟨e1, e2⟩ := Av h;rw [rc hs e2];cases d1 with
   | bool n1 _ q1 =>
    cases d2 with
    | bool n2 _ q2 =>
     have : a.toBool = b.toBool := by simpa using e1
     rw [q1, q2] at this;rw [this]
  | str =>
   simp only [BX] at h;obtain ⟨e1, e2⟩ := Av h;rw [rc hs e2];cases d1 with
   | str n1 _ q1 =>
    cases d2 with
    | str n2 _ q2 =>
     have : a.toStr.toList = b.toStr.toList := by
      have e1' : strEq a.toStr.data.toList.length (AC a.toStr.data.toList) b.toStr.data.toList.length (AC b.toStr.data.toList) = true := e1;rw [B7] at e1';simpa using e1'
     have h2 : a.toStr = b.toStr := by
      rw [ByteArray.toList_eq, ByteArray.toList_eq] at this;exact ByteArray.ext (Array.toList_inj.1 this)
     rw [q1, q2] at h2;rw [h2]
theorem YD {E : Env} (hE : OK E) {ρ : Ren} {w : World} {kt : TypeId} {ks : List Kd} (ht : Gu E kt ks = true) {v1 v2 : Value} {c1 c2 : List D} {K : TypeId → Option (List Kd)} {M : Nat → Option (Array Value)} (h1 : KV K M ks v1 c1) (h2 : KV K M ks v2 c2)
  (n1 : ks.length ≤ c1.length) (n2 : ks.length ≤ c2.length) (hd1 : ∀ q, q < ks.length → U.V.d (0 + q) = c1.getD q default) (hd2 : ∀ q, q < ks.length → U.V.d (ks.length + q) = c2.getD q default) :
  (Op.equal kt v2 v1).run E.P w = .ok (BX ks c1 c2) w ∧ (∀ ds, E.desc kt = some ds → Instr.sameNow ds v2 v1 = some (BX ks c1 c2) ∨ ∀ u v, Instr.sameNow ds u v = none) ∧ (BX ks c1 c2 = true → v1 = v2) := by
 unfold Gu at ht;split at ht
 ·rename_i e he;obtain ⟨s1, s2⟩ := Av ht
  have hev : Ad U.V e = BX ks c1 c2 := by
   rw [Us, JX s2];exact Oz U.V ks ks.length 0 c1 c2 s1 n1 n2 hd1 hd2
  obtain ⟨l1, a1, a2, a3, a4⟩ := h1;obtain ⟨l2, b1, b2, b3, b4⟩ := h2;have lt : ∀ {q : Nat} {kd : Kd}, ks[q]? = some kd → q < ks.length := fun h => (List.getElem?_eq_some_iff.1 h).1
  have r1 : VR ρ (MD (L0 0 ks)) v1 := by
   rw [a1];exact MV (JM (K := K) (M := M) ks 0 l1 a2 fun q kd hq => by rw [hd1 q (lt hq)]; exact a4 q kd hq)
  have r2 : VR ρ (MD (L0 ks.length ks)) v2 := by
   rw [b1];exact MV (JM (K := K) (M := M) ks ks.length l2 b2 fun q kd hq => by rw [hd2 q (lt hq)]; exact b4 q kd hq)
  refine ⟨?_, ?_, ?_⟩
  ·have := MT (w := w) hE 10000 kt _ _ e v2 v1 he r2 r1;rw [hev] at this;exact this
  ·intro ds hd;exact HN (d := 9999) hd he hev r2 r1
  ·intro hk;rw [a1, b1, RE ks l1 l2 c1 c2 s1 a2 b2 a4 b4 hk]
 ·cases ht
@[reducible] def fy (U : Unk) (n : Nat) (c1 c2 : List D) : Unk where
 facts := []
 V := { d := fun i => if i < n then c1.getD i default else c2.getD (i - n) default, fn := U.V.fn }
 K := U.K
 R := U.R
 hR := U.hR
 ok := by intro e b h; cases h
theorem Vl {E : Env} (hE : OK E) {w : World} {kt : TypeId} {ks : List Kd} (ht : Gu E kt ks = true) {v1 v2 : Value} {c1 c2 : List D} {K : TypeId → Option (List Kd)} {M : Nat → Option (Array Value)} (h1 : KV K M ks v1 c1) (h2 : KV K M ks v2 c2)
  (n1 : ks.length ≤ c1.length) (n2 : ks.length ≤ c2.length) :
  (Op.equal kt v2 v1).run E.P w = .ok (BX ks c1 c2) w ∧ (∀ ds, E.desc kt = some ds → Instr.sameNow ds v2 v1 = some (BX ks c1 c2) ∨ ∀ u v, Instr.sameNow ds u v = none) ∧ (BX ks c1 c2 = true → v1 = v2) := by
 refine @YD (fy U ks.length c1 c2) E (@OK.mk (fy U ks.length c1 c2) E hE.ty hE.fn hE.num hE.clone hE.ixb hE.mixed hE.kd hE.ke) { m := fun _ => none, imm := fun _ => none } w kt ks ht v1 v2 c1 c2 K M h1 h2 n1 n2 ?_ ?_
 ·intro q hq;show (if 0 + q < ks.length then c1.getD (0 + q) default else _) = _
  rw [if_pos (by omega), Nat.zero_add]
 ·intro q hq;show (if ks.length + q < ks.length then _ else c2.getD (ks.length + q - ks.length) default) = _
  rw [if_neg (by omega), Nat.add_sub_cancel_left]
def Jo (ks : List Kd) (k : List D) : List MapEntry → List D → Nat → Option (Nat × Value)
 | e :: es, r :: rs, i => match BX ks r.cells k with
  | true => some (i, e.val)
  | false => Jo ks k es rs (i + 1)
 | _, _, _ => none
section
variable {E : Env} (hE : OK E) {w : World} {kt : TypeId} {ks vks : List Kd} (ht : Gu E kt ks = true) {K : TypeId → Option (List Kd)} {M : Nat → Option (Array Value)} {kv : Value} {k : List D} (hk : KV K M ks kv k) (hkl : ks.length ≤ k.length)
include hE ht hk hkl w
theorem Ja : ∀ {es : List MapEntry} {rs : List D} {i : Nat}, Bu K M ks vks es rs → (Instr.findAsking kt kv es i).run E.P w = .ok (Jo ks k es rs i) w
 | [], [], i, _ => by simp [Instr.findAsking, Jo]
 | e :: es, r :: rs, i, ⟨h1, h2, h3, h4⟩ => by
  obtain ⟨q, _, _⟩ := Vl (w := w) hE ht h2 hk (by omega) hkl
  have rc := Ja (i := i + 1) h4;simp only [Instr.findAsking, Jo, Sem.run_bind, q, Result.andThen_ok];cases BX ks r.cells k with
  | true => simp
  | false => simpa using rc
 | [], _ :: _, _, h => h.elim
 | _ :: _, [], _, h => h.elim
theorem IU {ds : TypeDesc} (hd : E.desc kt = some ds) (hq : ¬ ∀ u v, Instr.sameNow ds u v = none) : ∀ {es : List MapEntry} {rs : List D} {i : Nat}, Bu K M ks vks es rs → Instr.findNow ds kv es i = some (Jo ks k es rs i)
 | [], [], i, _ => rfl
 | e :: es, r :: rs, i, ⟨h1, h2, h3, h4⟩ => by
  obtain ⟨_, q, _⟩ := Vl (w := w) hE ht h2 hk (by omega) hkl
  have s := (q ds hd).resolve_right hq;have rc := IU hd hq (i := i + 1) h4;simp only [Instr.findNow, Jo, s];cases BX ks r.cells k with
  | true => rfl
  | false => exact rc
 | [], _ :: _, _, h => h.elim
 | _ :: _, [], _, h => h.elim
theorem Jb {ds : TypeDesc} (hd : E.desc kt = some ds) {es : List MapEntry} {rs : List D} (h : Bu K M ks vks es rs) : (Instr.findKey kt kv es).run E.P w = .ok (Jo ks k es rs 0) w := by
 by_cases hq : ∀ u v, Instr.sameNow ds u v = none
 ·cases es with
  | nil => cases rs with
   | nil => simp [Instr.findKey, hE.run_und hd, Instr.findNow, Jo]
   | cons _ _ => exact h.elim
  | cons e es => simp [Instr.findKey, hE.run_und hd, Instr.findNow, hq, Ja (w := w) hE ht hk hkl h]
 ·simp [Instr.findKey, hE.run_und hd, IU (w := w) hE ht hk hkl hd hq h]
end
omit U in
theorem Ie {ks vks : List Kd} {K : TypeId → Option (List Kd)} {M : Nat → Option (Array Value)} {k : List D} : ∀ {es : List MapEntry} {rs : List D} (i : Nat), Bu K M ks vks es rs →
  (Jo ks k es rs i = none ∧ D1 ks k rs i = -1) ∨ ∃ n e r, Jo ks k es rs i = some (i + n, e.val) ∧ D1 ks k rs i = ((i + n : Nat) : Int) ∧ es[n]? = some e ∧ rs[n]? = some r ∧ BX ks r.cells k = true
 | [], [], i, _ => .inl ⟨rfl, rfl⟩
 | e :: es, r :: rs, i, ⟨h1, h2, h3, h4⟩ => by
  simp only [Jo, D1];cases hk : BX ks r.cells k with
  | true => exact .inr ⟨0, e, r, by simp, by simp, rfl, rfl, hk⟩
  | false =>
   rcases Ie (k := k) (i + 1) h4 with ⟨a, b⟩ | ⟨n, e', r', a, b, c, d, f⟩
   ·exact .inl ⟨a, b⟩
   ·exact .inr ⟨n + 1, e', r', by show Jo ks k es rs (i + 1) = _; rw [a, show i + 1 + n = i + (n + 1) by omega], by show D1 ks k rs (i + 1) = _; rw [b, show i + 1 + n = i + (n + 1) by omega], by simpa using c, by simpa using d, f⟩
 | [], _ :: _, _, h => h.elim
 | _ :: _, [], _, h => h.elim
omit U in
theorem Bu.get {ks vks : List Kd} {K : TypeId → Option (List Kd)} {M : Nat → Option (Array Value)} : ∀ {es : List MapEntry} {rs : List D} {n : Nat} {e : MapEntry} {r : D}, Bu K M ks vks es rs → es[n]? = some e → rs[n]? = some r →
  r.cells.length = ks.length + vks.length ∧ KV K M ks e.key r.cells ∧ KV K M vks e.val (r.cells.drop ks.length)
 | e :: es, r :: rs, 0, e', r', ⟨h1, h2, h3, h4⟩, g1, g2 => by
  simp only [List.getElem?_cons_zero, Option.some.injEq] at g1 g2;subst g1; subst g2;exact ⟨h1, h2, h3⟩
 | e :: es, r :: rs, n + 1, e', r', ⟨h1, h2, h3, h4⟩, g1, g2 => h4.get (by simpa using g1) (by simpa using g2)
 | [], [], n, _, _, _, g1, _ => by simp at g1
 | [], _ :: _, _, _, _, h, _, _ => h.elim
 | _ :: _, [], _, _, _, h, _, _ => h.elim
omit U in
theorem Bu.push {ks vks : List Kd} {K : TypeId → Option (List Kd)} {M : Nat → Option (Array Value)} {x : MapEntry} {y : D} (h1 : y.cells.length = ks.length + vks.length) (h2 : KV K M ks x.key y.cells) (h3 : KV K M vks x.val (y.cells.drop ks.length)) : ∀ {es : List MapEntry} {rs : List D}, Bu K M ks vks es rs → Bu K M ks vks (es ++ [x]) (rs ++ [y])
 | [], [], _ => ⟨h1, h2, h3, trivial⟩
 | e :: es, r :: rs, ⟨g1, g2, g3, g4⟩ => ⟨g1, g2, g3, Bu.push h1 h2 h3 g4⟩
 | [], _ :: _, h => h.elim
 | _ :: _, [], h => h.elim
omit U in
theorem Bu.change {ks vks : List Kd} {K : TypeId → Option (List Kd)} {M : Nat → Option (Array Value)} {x : MapEntry} {y : D} (h1 : y.cells.length = ks.length + vks.length) (h2 : KV K M ks x.key y.cells) (h3 : KV K M vks x.val (y.cells.drop ks.length)) : ∀ {es es' : List MapEntry} {rs rs' : List D} (n : Nat), Bu K M ks vks es rs → es'.length = es.length → rs'.length = rs.length →
  (∀ q, q ≠ n → es'[q]? = es[q]?) → (∀ q, q ≠ n → rs'[q]? = rs[q]?) → (n < es.length → es'[n]? = some x) → (n < rs.length → rs'[n]? = some y) → Bu K M ks vks es' rs'
 | [], [], [], [], n, _, _, _, _, _, _, _ => trivial
 | e :: es, e' :: es', r :: rs, r' :: rs', 0, ⟨g1, g2, g3, g4⟩, l1, l2, a1, a2, a3, a4 => by
  have b1 := a3 (by simp)
  have b2 := a4 (by simp)
  simp only [List.getElem?_cons_zero, Option.some.injEq] at b1 b2;subst b1; subst b2;have c1 : es' = es := List.ext_getElem? fun q => by have := a1 (q + 1) (by omega); simpa using this
  have c2 : rs' = rs := List.ext_getElem? fun q => by have := a2 (q + 1) (by omega); simpa using this
  rw [c1, c2];exact ⟨h1, h2, h3, g4⟩
 | e :: es, e' :: es', r :: rs, r' :: rs', n + 1, ⟨g1, g2, g3, g4⟩, l1, l2, a1, a2, a3, a4 => by
  have b1 := a1 0 (by omega)
  have b2 := a2 0 (by omega)
  simp only [List.getElem?_cons_zero, Option.some.injEq] at b1 b2;subst b1; subst b2
  exact ⟨g1, g2, g3, Bu.change h1 h2 h3 n g4 (by simpa using l1) (by simpa using l2) (fun q hq => by have := a1 (q + 1) (by omega); simpa using this) (fun q hq => by have := a2 (q + 1) (by omega); simpa using this)
   (fun hn => by have := a3 (by simp; omega); simpa using this) (fun hn => by have := a4 (by simp; omega); simpa using this)⟩
 | [], _ :: _, _, _, _, _, l1, _, _, _, _, _ => by simp at l1
 | _ :: _, [], _, _, _, _, l1, _, _, _, _, _ => by simp at l1
 | [], [], _ :: _, _, _, h, _, _, _, _, _, _ => h.elim
 | [], [], [], _ :: _, _, _, _, l2, _, _, _, _ => by simp at l2
 | _ :: _, _ :: _, [], _, _, h, _, _, _, _, _, _ => h.elim
 | _ :: _, _ :: _, _ :: _, [], _, _, _, l2, _, _, _, _ => by simp at l2
end
variable [U : Unk]
theorem Ic {α : Type} {l : List α} {n j : Nat} {d : α} : (l.drop n).getD j d = l.getD (n + j) d := by
 rw [List.getD_eq_getElem?_getD, List.getD_eq_getElem?_getD, List.getElem?_drop]
theorem Mb {α : Type} {l : List α} {n q : Nat} {f : α → α} (h : q ≠ n) : (l.modify n f)[q]? = l[q]? := by
 rw [List.getElem?_modify];cases l[q]? <;> simp [Ne.symm h]
theorem EZ {ρ : Ren} {ks : List Kd} {a : AV} {v : Value} (h : Hj ks a = true) (hv : VR ρ a v) (hl : v.cells.toList.length = ks.length) :
  v = Q4 v.cells.toList ∧ ∀ u, v.cells.toList = [u] → ∀ x, u ≠ .agg x := by
 have key : ∀ (l' : List Value), l'.length ≠ 1 → Q4 l' = .agg l'.toArray := by
  intro l' hl';rcases l' with _ | ⟨x, _ | ⟨y, l'⟩⟩
  ·rfl
  ·exact absurd rfl hl'
  ·rfl
 rcases ks with _ | ⟨k, _ | ⟨k2, ks⟩⟩
 ·cases hv <;> simp only [Hj, Bool.false_eq_true] at h
  rename_i l l' h1 h2;have hl0 : l'.length = 0 := hl;exact ⟨(key l' (by omega)).symm, fun u hu => by have : l' = [u] := hu; rw [this] at hl0; simp at hl0⟩
 ·cases hv <;> simp only [Hj, Bool.false_eq_true] at h <;> exact ⟨rfl, fun u hu x hx => by
   subst hx;simp only [Value.cells] at hu;cases hu⟩
 ·cases hv <;> simp only [Hj, Bool.false_eq_true] at h
  rename_i l l' h1 h2;have hl0 : l'.length = ks.length + 2 := hl;exact ⟨(key l' (by omega)).symm, fun u hu => by have : l' = [u] := hu; rw [this] at hl0; simp at hl0⟩
theorem DP {ks : List Kd} {a : AV} (h : Hj ks a = true) : a ≠ .top := by
 rintro rfl
 rcases ks with _ | ⟨k, _ | ⟨k2, ks⟩⟩ <;> simp [Hj] at h
theorem Q8 {ρ : Ren} {kks : List Kd} {k : AV} {kr : SE} {kv : Value} (h : Ve kks k = some kr) (hk : VR ρ k kv) : (Ab U.V kr).cells.length = kks.length ∧ KV U.K ρ.imm kks kv (Ab U.V kr).cells := by
 unfold Ve at h;split at h
 ·rename_i ha;obtain ⟨r1, r2, r3⟩ := Ex _ _ _ _ h (hk.cells (DP ha));obtain ⟨w1, w2⟩ := EZ ha hk r2;exact ⟨r1, _, w1, r2, w2, r3⟩
 ·cases h
theorem Rh {ρ : Ren} {kks vks : List Kd} {k v : AV} {r : SE} {kv vv : Value} (h : U2 kks vks k v = some r) (hk : VR ρ k kv) (hv : VR ρ v vv) :
  (Ab U.V r).cells.length = kks.length + vks.length ∧ KV U.K ρ.imm kks kv (Ab U.V r).cells ∧ KV U.K ρ.imm vks vv ((Ab U.V r).cells.drop kks.length) := by
 unfold U2 at h;split at h
 ·rename_i hc;obtain ⟨hc, c3⟩ := Av hc;obtain ⟨c1, c2⟩ := Av hc;have c3 := AA c3;have k1 := hk.cells (DP c1);have v1 := hv.cells (DP c2);obtain ⟨r1, r2, r3⟩ := Ex _ _ _ _ h (k1.append v1);have kl : kv.cells.toList.length = kks.length := by have := k1.1; omega
  have vl : vv.cells.toList.length = vks.length := by simp only [List.length_append] at r2; omega
  obtain ⟨w1, w2⟩ := EZ c1 hk kl;obtain ⟨w3, w4⟩ := EZ c2 hv vl;refine ⟨by rw [r1]; simp, ⟨_, w1, kl, w2, fun j kd hj => ?_⟩, ⟨_, w3, vl, w4, fun j kd hj => ?_⟩⟩
  ·have hlt := (List.getElem?_eq_some_iff.1 hj).1;have := r3 j kd (by rw [List.getElem?_append_left hlt]; exact hj)
   rwa [List.getD_eq_getElem?_getD, List.getElem?_append_left (by omega), ← List.getD_eq_getElem?_getD] at this
  ·have hlt := (List.getElem?_eq_some_iff.1 hj).1;have := r3 (kks.length + j) kd (by rw [List.getElem?_append_right (by omega), Nat.add_sub_cancel_left]; exact hj)
   rw [List.getD_eq_getElem?_getD, List.getElem?_append_right (by omega), kl, Nat.add_sub_cancel_left, ← List.getD_eq_getElem?_getD] at this
   rw [Ic];exact this
 ·cases h
theorem Mi {a r : SE} : (Ab U.V (.snoc a r)).rows = (Ab U.V a).rows ++ [Ab U.V r] := rfl
theorem Ki {ρ : Ren} {kks vks : List Kd} : ∀ {es : List AO} {es' : List MapEntry} {y z : SE} {es0 : List MapEntry}, J2 kks vks y es = some z → ER ρ es es' → Bu U.K ρ.imm kks vks es0 (Ab U.V y).rows → Bu U.K ρ.imm kks vks (es0 ++ es') (Ab U.V z).rows
 | [], [], y, z, es0, h, _, hm => by
  simp only [J2, Option.some.injEq] at h;subst h;simpa using hm
 | e :: es, e' :: es', y, z, es0, h, ⟨h1, h2, h3, h4⟩, hm => by
  simp only [J2] at h;split at h
  ·rename_i x hx;obtain ⟨q1, q2, q3⟩ := Rh hx h1 h2;have := Ki (es0 := es0 ++ [e']) h h4 (by rw [Mi]; exact Bu.push q1 q2 q3 hm)
   simpa using this
  ·cases h
 | [], _ :: _, _, _, _, _, h, _ => h.elim
 | _ :: _, [], _, _, _, _, h, _ => h.elim
theorem Xx {ρ : Ren} {kt vt : TypeId} {kks vks : List Kd} {b : Option Aj} {x : SE} {base : C3} {o : Option Obj} (h : V6 kt vt kks vks b = some x) (hb : ∀ y, b = some y → BR ρ y base o) (hk : U.K kt = some kks) (hv : U.K vt = some vks) :
  ∃ es' : List MapEntry, ∃ clock, o = some (.map es'.toArray clock) ∧ Bu U.K ρ.imm kks vks es' (Ab U.V x).rows := by
 unfold V6 at h;split at h
 ·rename_i kt' vt' x';split at h
  ·rename_i hc;cases h;obtain ⟨c1, c2⟩ := Av hc;have c1 := AA c1;have c2 := AA c2;subst c1; subst c2;obtain ⟨k1, v1, es', clock, e1, e2, e3, e4⟩ := hb _ rfl;rw [hk] at e1; rw [hv] at e2;cases e1; cases e2;exact ⟨es', clock, e3, e4⟩
  ·cases h
 ·rename_i es clock;obtain ⟨es', e1, e2⟩ := hb _ rfl;have := Ki (es0 := []) h e2 trivial;exact ⟨es', clock, e1, by simpa using this⟩
 ·cases h
theorem J1 {a i : SE} {j : Nat} {x : SE} : (Ab U.V (.upd a i j x)).rows = (Ab U.V a).rows.modify (Ac U.V i).toNat fun r => .row (r.cells.set j (Ab U.V x)) := rfl
theorem IX {ρ : Ren} {ks : List Kd} {i : SE} : ∀ (l : List AV) (vs : List Value) (j : Nat) (y y' : SE) (r : D), Dm i ks y j l = some y' → VL ρ l vs → (Ab U.V y).rows[(Ac U.V i).toNat]? = some r → j + l.length ≤ r.cells.length →
  (Ab U.V y').rows.length = (Ab U.V y).rows.length ∧ (∀ q, q ≠ (Ac U.V i).toNat → (Ab U.V y').rows[q]? = (Ab U.V y).rows[q]?) ∧
  ∃ r', (Ab U.V y').rows[(Ac U.V i).toNat]? = some r' ∧ r'.cells.length = r.cells.length ∧ (∀ p, p < j ∨ j + l.length ≤ p → r'.cells.getD p default = r.cells.getD p default) ∧
   ∀ (q : Nat) kd, q < l.length → ks[j + q]? = some kd → DV U.K ρ.imm kd (vs.getD q Go.undef) (r'.cells.getD (j + q) default)
 | [], vs, j, y, y', r, h, hv, hr, hj => by
  simp only [Dm, Option.some.injEq] at h;subst h;exact ⟨rfl, fun _ _ => rfl, r, hr, rfl, fun _ _ => rfl, fun q kd hq => absurd hq (Nat.not_lt_zero q)⟩
 | a :: l, vs, j, y, y', r, h, hv, hr, hj => by
  obtain ⟨v, vr, rfl, h1, h2⟩ := hv.cons_inv;simp only [Dm] at h;split at h
  ·rename_i k hk;split at h
   ·rename_i x hx;have dv := Jq h1 hx
    have hset : (Ab U.V (.upd y i j x)).rows[(Ac U.V i).toNat]? = some (.row (r.cells.set j (Ab U.V x))) := by
     rw [J1, List.getElem?_modify_eq, hr]; rfl
    simp only [List.length_cons] at hj;obtain ⟨a1, a2, r', a3, a4, a5, a6⟩ := IX l vr (j + 1) _ y' _ h h2 hset (by show j + 1 + l.length ≤ (r.cells.set j (Ab U.V x)).length; simp; omega)
    have hcells : (D.row (r.cells.set j (Ab U.V x))).cells = r.cells.set j (Ab U.V x) := rfl;rw [hcells] at a4 a5;refine ⟨by rw [a1, J1]; simp, fun q hq => by rw [a2 q hq, J1, Mb hq], r', a3, by rw [a4]; simp, fun p hp => ?_, fun q kd hq hkd => ?_⟩
    ·simp only [List.length_cons] at hp;rw [a5 p (by omega), List.getD_eq_getElem?_getD, List.getD_eq_getElem?_getD, List.getElem?_set_ne (by omega)]
    ·cases q with
     | zero =>
      rw [Nat.add_zero] at hkd ⊢;rw [hk] at hkd;cases hkd;rw [a5 j (by omega), Me, List.getD_eq_getElem?_getD, List.getElem?_set_self (by omega)]
      exact dv
     | succ q =>
      rw [CJ, show j + (q + 1) = j + 1 + q by omega]
      exact a6 q kd (by simpa using hq) (by rw [← hkd]; congr 1; omega)
   ·cases h
  ·cases h
theorem Om {E : Env} (hE : OK E) {t kt vt : TypeId} {kks vks : List Kd} (h : N1 E t = some (kt, vt, kks, vks)) : E.desc t = some (.map kt vt) ∧ U.K kt = some kks ∧ U.K vt = some vks ∧ Gu E kt kks = true := by
 unfold N1 at h;split at h
 ·rename_i kt' vt' hd;split at h
  ·rename_i a b h1 h2;split at h
   ·rename_i hk;cases h;exact ⟨hd, by rw [hE.kd, ← hE.ke]; exact h1, by rw [hE.kd, ← hE.ke]; exact h2, hk⟩
   ·cases h
  ·cases h
 ·cases h
theorem JS {E : Env} {kt : TypeId} {k : AV} (hkk : CY E 20 kt k = true) : ∃ ds, E.desc kt = some ds := by
 simp only [CY] at hkk;cases hq : E.desc kt with
 | none => simp [hq] at hkk
 | some ds => exact ⟨ds, rfl⟩
section
variable {E : Env} (hE : OK E) {ρ : Ren} {h : Aa} {w : World}
include hE
theorem PM (hr : HR ρ h.blk.get w) {t : TypeId} {m k a : AV} {mv kv : Value} {ok : Bool} (hm : VR ρ m mv) (hk : VR ρ k kv) (ha : NA E t m k ok h = some a) :
  ∃ v, (Instr.lookup t mv kv ok).run E.P w = .ok v w ∧ VR ρ a v := by
 unfold NA at ha;split at ha
 ·rename_i kt vt kks vks r ht;obtain ⟨hd, hkk, hvk, htest⟩ := Om hE ht;split at ha
  ·rename_i kt' vt' x hg;split at ha
   ·rename_i z kr hc hz hkr;obtain ⟨hc, c3⟩ := Av hc;obtain ⟨c1, c2⟩ := Av hc;have c1 := AA c1;have c2 := AA c2;subst c1; subst c2;obtain ⟨zv, z1, z2⟩ := hE.run_zero ρ hz w;have hzr := A5 ρ z2;have hck : ∀ em, (Instr.checkKey em 10000 kt kv).run E.P w = .ok () w := fun em => Ft (w := w) hE em 9980 20 kt k kv c3 hk
    obtain ⟨ds, hkd⟩ := JS c3;obtain ⟨kl, kkv⟩ := Q8 hkr hk
    have fin : ∀ (v : AV) (b : Bool) (vv : Value), VR ρ v vv → VR ρ (LE ok v b) (if ok then .tuple #[vv, .bool b] else vv) := by
     intro v b vv hv;cases ok with
     | true =>
      have := VL.cons hv (VL.cons (VR.bool (ρ := ρ) b) (VL.nil ρ));exact .tuple _ [vv, .bool b] this.1 this.2
     | false => exact hv
    cases hm with
    | map _ base hb =>
     obtain ⟨k1, v1, es', clock, e1, e2, e3, e4⟩ := hr.blk r base _ hb hg;rw [hkk] at e1; rw [hvk] at e2;cases e1; cases e2;have hget : (getObj base.cb).run E.P w = .ok (.map es'.toArray clock) w := by simp [getObj, Sem.run, e3]
     have hfind := Jb (w := w) hE htest kkv (by omega) hkd e4
     have spec := Ie (k := (Ab U.V kr).cells) 0 e4;have hidx : Ac U.V (.mIdx kks x kr) = D1 kks (Ab U.V kr).cells (Ab U.V x).rows 0 := rfl;split at ha
     ·rename_i hdec;cases ha;have hlt := Az U.ok hdec;rw [Ay, decide_eq_true_eq] at hlt;have z0 : Ac U.V (.c 0) = 0 := rfl;rw [z0, hidx] at hlt;rcases spec with ⟨a1, a2⟩ | ⟨n, e, r', a1, a2, a3⟩
      ·rw [a1] at hfind;refine ⟨_, ?_, fin z false zv hzr⟩;simp [Instr.lookup, hE.run_und hd, hget, hck, hfind, z1]
      ·omega
     ·rename_i hdec;split at ha
      ·rename_i l hcl;cases ha;have hlt := Az U.ok hdec;rw [Ay, decide_eq_false_iff_not] at hlt;have z0 : Ac U.V (.c 0) = 0 := rfl;rw [z0, hidx] at hlt;rcases spec with ⟨a1, a2⟩ | ⟨n, e, r', a1, a2, a3, a4, a5⟩
       ·omega
       ·rw [a1] at hfind;obtain ⟨q1, ⟨lk, k1, k2, k3, k4⟩, ⟨lv, v1, v2, v3, v4⟩⟩ := e4.get a3 a4;have hn : (Ac U.V (.mIdx kks x kr)).toNat = n := by rw [hidx, a2]; simp
        have hrow : (Ab U.V x).rows.getD n default = r' := by rw [List.getD_eq_getElem?_getD, a4]; rfl
        have hcell : ∀ j, Ab U.V (.cell x (.mIdx kks x kr) j) = r'.cells.getD j default := by
         intro j;show ((Ab U.V x).rows.getD (Ac U.V (.mIdx kks x kr)).toNat default).cells.getD j default = _;rw [hn, hrow]
        have harr : ∀ p, ((lk ++ lv).toArray).getD p Go.undef = (lk ++ lv).getD p Go.undef := by intro p; simp [Array.getD_eq_getD_getElem?, List.getD_eq_getElem?_getD]
        have hv : ∀ j kd, (kks ++ vks)[j]? = some kd → DV U.K ρ.imm kd ((lk ++ lv).toArray.getD (0 + j) Go.undef) (Ab U.V (.cell x (.mIdx kks x kr) j)) := by
         intro j kd hj;rw [hcell, harr, Nat.zero_add, List.getD_eq_getElem?_getD];by_cases hjl : j < kks.length
         ·rw [List.getElem?_append_left hjl] at hj;rw [List.getElem?_append_left (by omega), ← List.getD_eq_getElem?_getD]
          exact k4 j kd hj
         ·rw [List.getElem?_append_right (by omega)] at hj
          rw [List.getElem?_append_right (by omega), ← List.getD_eq_getElem?_getD, k2]
          have := v4 (j - kks.length) kd hj;rw [Ic, show kks.length + (j - kks.length) = j by omega] at this
          exact this
        obtain ⟨p1, p2, p3⟩ := Hf hv vks.length kks.length l hcl
        have hvl : VL ρ l lv := by
         refine ⟨by omega, fun q a v hqa hqv => ?_⟩
         have := p3 q a hqa;rw [harr, Nat.zero_add, List.getD_eq_getElem?_getD, List.getElem?_append_right (by omega), k2, Nat.add_sub_cancel_left, hqv] at this
         exact this
        have hres := MV hvl;rw [← v1] at hres;refine ⟨_, ?_, fin _ true e.val hres⟩;simp [Instr.lookup, hE.run_und hd, hget, hck, hfind]
      ·cases ha
     ·cases ha
   ·cases ha
  ·cases ha
 ·cases ha
theorem Pi (hr : HR ρ h.blk.get w) {t : TypeId} {m k v : AV} {mv kv vv : Value} {h' : Aa} (hm : VR ρ m mv) (hk : VR ρ k kv) (hv : VR ρ v vv) (ha : NF E t m k v h = some h') :
  ∃ w', (Instr.mapUpdate t mv kv vv).run E.P w = .ok () w' ∧ HR ρ h'.blk.get w' ∧ Ext ρ ρ h h' w w' := by
 unfold NF at ha;split at ha
 ·rename_i kt vt kks vks r ht;obtain ⟨hd, hkk, hvk, htest⟩ := Om hE ht;split at ha
  ·rename_i x kr c3 hdm hkr;have hck : ∀ em, (Instr.checkKey em 10000 kt kv).run E.P w = .ok () w := fun em => Ft (w := w) hE em 9980 20 kt k kv c3 hk
   obtain ⟨ds, hkd⟩ := JS c3;obtain ⟨kl, kkv⟩ := Q8 hkr hk;cases hm with
   | map _ base hb =>
    have hlive : h.blk.get r ≠ none := by
     intro e;rw [e] at hdm;cases hdm
    obtain ⟨es', clock, e3, e4⟩ := Xx hdm (fun y hy => hr.blk r base y hb hy) hkk hvk
    have hget := A6 (w := w) E.P e3 (by simp)
    have hfind := Jb (w := w) hE htest kkv (by omega) hkd e4
    have spec := Ie (k := (Ab U.V kr).cells) 0 e4;have hidx : Ac U.V (.mIdx kks x kr) = D1 kks (Ab U.V kr).cells (Ab U.V x).rows 0 := rfl;split at ha
    ·rename_i row hrow hdec;cases ha;have hlt := Az U.ok hdec;rw [Ay, decide_eq_true_eq] at hlt;have z0 : Ac U.V (.c 0) = 0 := rfl;rw [z0, hidx] at hlt;rcases spec with ⟨a1, a2⟩ | ⟨n, e, r', a1, a2, a3⟩
     ·rw [a1] at hfind;obtain ⟨q1, q2, q3⟩ := Rh hrow hk hv;obtain ⟨p1, p2⟩ := hr.setObj hb hlive (.dmap kt vt (.snoc x row)) (.map (es'.toArray.push { key := kv, val := vv, born := clock }) (clock + 1))
       ⟨kks, vks, es' ++ [{ key := kv, val := vv, born := clock }], clock + 1, hkk, hvk, by simp, by rw [Mi]; exact Bu.push q1 q2 q3 e4⟩
      refine ⟨_, ?_, p1, p2⟩;simp [Instr.mapUpdate, hE.run_und hd, hget, hck, hfind, Bq (w := w) E.P e3 (by simp)]
     ·omega
    ·rename_i row hrow hdec;split at ha
     ·rename_i y hy;cases ha;have hlt := Az U.ok hdec;rw [Ay, decide_eq_false_iff_not] at hlt;have z0 : Ac U.V (.c 0) = 0 := rfl;rw [z0, hidx] at hlt;rcases spec with ⟨a1, a2⟩ | ⟨n, e, r', a1, a2, a3, a4, a5⟩
      ·omega
      ·rw [a1] at hfind;have hn : (Ac U.V (.mIdx kks x kr)).toNat = n := by rw [hidx, a2]; simp
       obtain ⟨q1, q2, q3⟩ := e4.get a3 a4;obtain ⟨_, _, hkeq⟩ := Vl (w := w) hE htest q2 kkv (by omega) (by omega)
       have hke : e.key = kv := hkeq a5;unfold U2 at hrow;split at hrow
       ·rename_i hc;obtain ⟨hc, c6⟩ := Av hc;obtain ⟨c4, c5⟩ := Av hc;have vcs := hv.cells (DP c5);have hrl := Ex _ _ _ _ hrow ((hk.cells (DP c4)).append vcs);have c6 := AA c6;have kcl := (hk.cells (DP c4)).1;have vl : vv.cells.toList.length = vks.length := by have := hrl.2.1; simp only [List.length_append] at this; omega
        have vl2 : v.cells.length = vks.length := by have := vcs.1; omega
        obtain ⟨u1, u2, r2, u3, u4, u5, u6⟩ := IX _ _ _ _ _ r' hy vcs (by rw [hn]; exact a4) (by omega)
        rw [hn] at u2 u3;obtain ⟨w3, w4⟩ := EZ c5 hv vl;obtain ⟨nk, w1, s1, s2, s3, s4, s5, s6⟩ := Fp (w := w) E.P e.key kv;have hnk : nk = e.key := by rcases s2 with rfl | rfl; exact hke.symm; rfl
        subst hnk;have hr1 : HR ρ h.blk.get w1 := hr.same s3
        have kv2 : KV U.K ρ.imm kks e.key r2.cells := by
         obtain ⟨lk, k1, k2, k3, k4⟩ := q2;refine ⟨lk, k1, k2, k3, fun j kd hj => ?_⟩
         have hlt := (List.getElem?_eq_some_iff.1 hj).1;rw [u5 j (.inl hlt)];exact k4 j kd hj
        have vv2 : KV U.K ρ.imm vks vv (r2.cells.drop kks.length) := by
         refine ⟨_, w3, vl, w4, fun j kd hj => ?_⟩
         have hlt := (List.getElem?_eq_some_iff.1 hj).1;rw [Ic];exact u6 j kd (by omega) (by rw [List.getElem?_append_right (by omega), Nat.add_sub_cancel_left]; exact hj)
        have hnl : n < es'.length := (List.getElem?_eq_some_iff.1 a3).1
        have hmap : Bu U.K ρ.imm kks vks (es'.modify n fun e0 => { e0 with key := e.key, val := vv }) (Ab U.V y).rows := by
         refine Bu.change (x := { key := e.key, val := vv, born := e.born }) (y := r2) (by rw [u4]; exact q1) kv2 vv2 n e4 (by simp) u1 (fun q hq => Mb hq) (fun q hq => u2 q hq) (fun _ => by rw [List.getElem?_modify_eq, a3]; rfl) (fun _ => u3)
        obtain ⟨p1, p2⟩ := hr1.setObj hb hlive (.dmap kt vt y) (.map (es'.toArray.modify n fun e0 => { e0 with key := e.key, val := vv }) clock)
         ⟨kks, vks, _, clock, hkk, hvk, by simp [List.modify_toArray], hmap⟩
        refine ⟨_, ?_, p1, p2.drawn s3 s4 s5 s6⟩;have e1' : w1.heap[base.cb]? = some (.map es'.toArray clock) := by rw [s3]; exact e3
        simp only [Nat.zero_add] at hfind;simp only [Instr.mapUpdate, Sem.run_bind, hE.run_und hd, Result.andThen_ok, hget, hck, hfind, List.getElem?_toArray, a3, Option.map_some, Option.getD_some, s1];rw [Bq (w := w1) E.P e1' (by simp)]
       ·cases hrow
     ·cases ha
    ·cases ha
  ·cases ha
 ·cases ha
theorem PB (hr : HR ρ h.blk.get w) {t : TypeId} {m k v : AV} {mv kv vv : Value} {h' : Aa} (hm : VR ρ m mv) (hk : VR ρ k kv) (hv : VR ρ v vv) (ha : Nk E t m k v h = some h') :
  ∃ w', (Instr.mapUpdate t mv kv vv).run E.P w = .ok () w' ∧ HR ρ h'.blk.get w' ∧ Ext ρ ρ h h' w w' := by
 unfold Nk at ha;split at ha
 ·split at ha
  ·rename_i q;cases ha;exact Pi hE hr hm hk hv q
  ·exact Hh hE hr hm hk hv ha
 ·exact Hh hE hr hm hk hv ha
theorem Qk (hr : HR ρ h.blk.get w) {t ty : TypeId} {m k : AV} {mv kv : Value} {h' : Aa} (hm : VR ρ m mv) (hk : VR ρ k kv) (ha : Nz E t m k h = some h') (ats : Array TypeId) (hat : ats[0]? = some t) :
  ∃ w', (Builtin.delete_ ats ty #[mv, kv]).run E.P w = .ok (.tuple #[]) w' ∧ HR ρ h'.blk.get w' ∧ Ext ρ ρ h h' w w' := by unfold Nz at ha; cases ha
theorem PE (hr : HR ρ h.blk.get w) {t ty : TypeId} {m k : AV} {mv kv : Value} {h' : Aa} (hm : VR ρ m mv) (hk : VR ρ k kv) (ha : MG E t m k h = some h') (ats : Array TypeId) (hat : ats[0]? = some t) :
  ∃ w', (Builtin.delete_ ats ty #[mv, kv]).run E.P w = .ok (.tuple #[]) w' ∧ HR ρ h'.blk.get w' ∧ Ext ρ ρ h h' w w' := by
 unfold MG at ha;split at ha
 ·rename_i q;cases ha;exact P3 hE hr hm hk q ats hat
 ·exact Qk hE hr hm hk ha ats hat
theorem QH {h : Aa} (hr : HR ρ h.blk.get w) {t : TypeId} {m k a : AV} {mv kv : Value} {ok : Bool} (hm : VR ρ m mv) (hk : VR ρ k kv) (ha : Nc E t m k ok h = some a) :
  ∃ v, (Instr.lookup t mv kv ok).run E.P w = .ok v w ∧ VR ρ a v := by
 unfold Nc at ha;split at ha
 ·rename_i r hl;cases ha;exact Qd hE hr hm hk hl
 ·split at ha
  ·rename_i r hl;cases ha;exact PM hE hr hm hk hl
  split at ha
  ·rename_i kt et r hd _ _;split at ha
   ·rename_i z es clock hkk hz hg;obtain ⟨zv, z1, z2⟩ := hE.run_zero ρ hz w;have hzr := A5 ρ z2;have hck : ∀ em, (Instr.checkKey em 10000 kt kv).run E.P w = .ok () w := fun em => Ft (w := w) hE em 9980 20 kt k kv hkk hk
    have hkd : ∃ ds, E.desc kt = some ds := by
     simp only [CY] at hkk;cases hq : E.desc kt with
     | none => simp [hq] at hkk
     | some ds => exact ⟨ds, rfl⟩
    obtain ⟨ds, hkd⟩ := hkd
    have fin : ∀ (v : AV) (b : Bool) (vv : Value), VR ρ v vv → VR ρ (LE ok v b) (if ok then .tuple #[vv, .bool b] else vv) := by
     intro v b vv hv;cases ok with
     | true =>
      have := VL.cons hv (VL.cons (VR.bool (ρ := ρ) b) (VL.nil ρ));exact .tuple _ [vv, .bool b] this.1 this.2
     | false => exact hv
    cases hm with
    | map _ base hb =>
     obtain ⟨es', e1, e2⟩ := hr.blk r base _ hb hg;have hget : (getObj base.cb).run E.P w = .ok (.map es'.toArray clock) w := by simp [getObj, Sem.run, e1]
     split at ha
     ·rename_i i v hf;cases ha;obtain ⟨r', q1, q2⟩ := IS (w := w) hE hkd hk e2 hf;cases r' with
      | none => cases q1
      | some p' =>
       obtain ⟨j, vv⟩ := p';refine ⟨_, ?_, fin v true vv q1.2⟩;simp [Instr.lookup, hE.run_und hd, hget, hck, q2]
     ·rename_i hf;cases ha;obtain ⟨r', q1, q2⟩ := IS (w := w) hE hkd hk e2 hf;cases r' with
      | some p => cases q1
      | none =>
       refine ⟨_, ?_, fin z false zv hzr⟩;simp [Instr.lookup, hE.run_und hd, hget, hck, q2, z1]
     ·cases ha
   ·cases ha
  ·cases ha
end
end Go.AE
namespace Go.AE
variable [U : Unk]
omit U in
theorem FZ : ∀ (l b : Nat), (CZ l b).length = l
 | 0, _ => rfl
 | l + 1, b => by simp [CZ, FZ l]
theorem Mf {e : SE} (h : M0 e = true) : (AP U.V e).data.toList.length < 4611686018427387904 := by
 unfold M0 at h;split at h
 ·rename_i l b;have := C7 h
  have e : (AP U.V (.strc l b)).data.toList.length = l := by
   show ((CZ l b).toArray).toList.length = l;simp [FZ]
  omega
 ·have := HS h;rw [Ay, decide_eq_true_eq, Dq] at this;have z : Ac U.V (.c 4611686018427387904) = 4611686018427387904 := rfl;rw [z] at this;omega
section
variable {E : Env} (hE : OK E) {ρ : Ren} {h : Aa} {w : World}
omit U in
theorem ZP [U : Unk] {t : TypeId} {s s' : ByteArray} (h1 : s.data.toList.length < 4611686018427387904) (h2 : s'.data.toList.length < 4611686018427387904) : (binOp .add t (.string s) (.string s')).run E.P w = .ok (.string (s ++ s')) w := by
 have hsz : s.size = s.data.toList.length := by simp
 have hsz' : s'.size = s'.data.toList.length := by simp
 have hmax : ¬ (((s.size + s'.size : Nat) : Int) > IntKind.i64.max) := by
  simp only [IntKind.max, IntKind.signed, IntKind.bits]; omega
 simp only [binOp, Op.stringOp];rw [if_neg hmax];rfl
theorem XF {op : BinOp} {t : TypeId} {ox oy : Operand} {x y r : AV} {xv yv : Value} (hx : VR ρ x xv) (hy : VR ρ y yv) (hr : Y6 op x y = some r) :
  ∃ v, (do eqGuard op t ox oy xv yv; binOp op t xv yv : Sem Value).run E.P w = .ok v w ∧ VR ρ r v := by
 unfold Y6 at hr;split at hr
 ·split at hr
  ·rename_i a b ha hb;split at hr
   ·rename_i hc;cases hr;obtain ⟨c1, c2⟩ := Av hc;rw [Gx hx ha, Gx hy hb];have hg : (eqGuard .add t ox oy (.string (AP U.V a)) (.string (AP U.V b))).run E.P w = .ok () w := CA (by simp) (fun h _ => by obtain ⟨xs, h⟩ := h; cases h)
    refine ⟨.string (AP U.V a ++ AP U.V b), ?_, .ss (.strCat a b)⟩;simp only [Sem.run_bind, hg, Result.andThen_ok];exact ZP (Mf c1) (Mf c2)
   ·cases hr
  ·cases hr
 ·cases hr
theorem WM {L : SE} {n k : Nat} (h : YJ L n = some k) (h0 : 0 ≤ Ac U.V L) : k = min (Ac U.V L).toNat n := by
 unfold YJ at h;split at h
 ·rename_i hd;cases h;have := Az U.ok hd;rw [Ay, decide_eq_false_iff_not] at this;have z : Ac U.V (.c (n : Int)) = n := rfl;rw [z] at this;omega
 ·rename_i hd;have := Az U.ok hd;rw [Ay, decide_eq_true_eq] at this;have z : Ac U.V (.c (n : Int)) = n := rfl;rw [z] at this;split at h
  ·rename_i l hh hb;split at h
   ·rename_i hc;cases h;obtain ⟨c1, c2⟩ := Av hc;have c1 : l = hh := by simpa using c1
    have c2 : 0 ≤ l := by simpa using c2
    subst c1;obtain ⟨b1, b2⟩ := FqQ U.ok L;rw [hb] at b1 b2;have e1 := b1 l rfl;have e2 := b2 l rfl;omega
   ·cases h
  ·cases h
 ·cases h
theorem Er {y : SE} {kd : Kd} : ∀ (n i : Nat), (E3 y kd i n).length = n
 | 0, _ => rfl
 | n + 1, i => by simp [E3, Er n]
theorem KW {y : SE} {kd : Kd} : ∀ (n i q : Nat), q < n → (E3 y kd i n)[q]? = some (Ik y (.c (i + q : Nat)) 0 kd)
 | 0, _, q, h => absurd h (Nat.not_lt_zero q)
 | n + 1, i, 0, h => rfl
 | n + 1, i, q + 1, h => by
  simp only [E3, List.getElem?_cons_succ];rw [KW n (i + 1) q (by omega), show i + 1 + q = i + (q + 1) by omega]
theorem Of {kd : Kd} {y : SE} {cur : Array Value} {o k : Nat} (hr : Bl U.K ρ.imm [kd] cur o (Ab U.V y).rows) (hk : k ≤ (Ab U.V y).rows.length) : VL ρ (E3 y kd 0 k) ((cur.toList.drop o).take k) := by
 have h1 := hr.1;simp only [List.length_singleton, Nat.mul_one] at h1;refine ⟨by rw [Er]; simp; omega, fun q a v ha hv => ?_⟩
 have hq : q < k := by have := (List.getElem?_eq_some_iff.1 ha).1; rwa [Er] at this
 rw [KW k 0 q hq, Nat.zero_add] at ha;cases ha;have hd := hr.2.2 q 0 kd (by omega) rfl
 rw [List.getElem?_take, if_pos hq, List.getElem?_drop, Array.getElem?_toList] at hv;simp only [List.length_singleton, Nat.mul_one, Nat.add_zero] at hd;rw [Array.getD_eq_getD_getElem?, hv] at hd;exact Is hd
include hE
theorem Tq (hr : HR ρ h.blk.get w) {t t' ty : TypeId} {d x a : AV} {dv xv : Value} {h' : Aa} (hdv : VR ρ d dv) (hx : VR ρ x xv) (ha : TQ E t d x h = some (a, h')) (ats : Array TypeId) (hat : ats[0]? = some t) :
  A3 E ρ h h' w (Builtin.copy_ ats ty #[dv, xv]) a := by
 unfold TQ at ha;split at ha
 ·rename_i r hq;cases ha;exact Vb hE hr (t' := t) hdv hx hq ats hat
 ·split at ha
  ·rename_i e hd;split at ha
   ·rename_i kd b off n es y hk hsz hs _;split at ha
    ·rename_i k hes hfix;split at ha
     ·rename_i h2 hst;cases ha;have hes := AA hes;subst hes
      have hk2 : U.K e = some [kd] := by
       rw [hE.kd, ← hE.ke];revert hk;cases E.kinds e with
       | none => intro hk; cases hk
       | some l => cases l with
        | nil => intro hk; cases hk
        | cons p l => cases l with
         | nil => intro hk; cases hk; rfl
         | cons _ _ => intro hk; cases hk
      have hfx := WM hfix (by rw [Ak]; exact Int.natCast_nonneg _)
      rw [Ak, Int.toNat_natCast] at hfx
      obtain ⟨vs, s1, s2, s3⟩ : ∃ vs : List Value, VL ρ (E3 y kd 0 k) vs ∧ (Builtin.lenOf xv).run E.P w = .ok (Ab U.V y).rows.length w ∧ (Builtin.firstCells 1 k xv).run E.P w = .ok vs.toArray w := by
       unfold Qh at hs;split at hs
       ·rename_i e' y';split at hs
        ·rename_i he;cases hs;have he := AA he;subst he;cases hx with
         | dat _ _ ad n' cap hdv2 =>
          cases hdv2 with
          | nil _ _ g1 g2 =>
           rw [g2] at hfx;have : k = 0 := by simpa using hfx
           subst this;exact ⟨[], VL.nil ρ, by rw [g2]; simp [Builtin.lenOf], by simp [Builtin.firstCells]⟩
          | empty _ a1 _ _ g1 g2 =>
           rw [g2] at hfx;have : k = 0 := by simpa using hfx
           subst this;exact ⟨[], VL.nil ρ, by rw [g2]; simp [Builtin.lenOf], by simp [Builtin.firstCells, Go.loadCells, loadCellsFrom]⟩
          | slc _ b' o _ _ _ ks arr hk' ha' hn hc' g1 hin hrow hv =>
           rw [hk2] at hk';cases hk';obtain ⟨e1, fz, hb⟩ := hr.imm b' arr ha';have hrows : Bl U.K ρ.imm [kd] arr o (Ab U.V y).rows := ⟨by rw [hn]; exact hin, fun i hi => hrow i (by omega), fun i j kd' hi hj => hv i j kd' (by omega) hj⟩
           have hkle : k ≤ (Ab U.V y).rows.length := by rw [hfx]; exact Nat.min_le_left _ _
           refine ⟨_, Of hrows hkle, by rw [hn]; simp [Builtin.lenOf], ?_⟩
           simp only [Builtin.firstCells, Nat.mul_one];simp only [List.length_singleton, Nat.mul_one] at hin;exact AH E.P w b' o k arr e1 fz hb (by omega)
        ·cases hs
       ·rename_i b' es' n' nl _;split at hs
        ·rename_i e' y' hb;split at hs
         ·rename_i hc;cases hs;obtain ⟨c12, c3⟩ := Av hc;obtain ⟨c1, c2⟩ := Av c12;have c1 := AA c1;have c2 := AA c2;subst c1; subst c2;have hfl := EV c3;rw [Ak] at hfl;have hkle : k ≤ (Ab U.V y).rows.length := by rw [hfx]; exact Nat.min_le_left _ _
          cases hx with
          | asl _ _ _ _ cap base hρ q0 qc qz qn =>
           obtain ⟨ks', cur, et, fz, b1, b2, b3, b4, b5⟩ := hr.blk b' base _ hρ hb;rw [hk2] at b1;cases b1;refine ⟨_, Of b5 hkle, by rw [hfl]; simp [Builtin.lenOf], ?_⟩
           simp only [Builtin.firstCells, Nat.mul_one];have := b5.1;simp only [List.length_singleton, Nat.mul_one] at this;exact AH E.P w base.cb base.co k cur et fz b2 (by omega)
          | aslEnd _ _ _ _ ad q0 qn =>
           have hz : (Ab U.V y).rows.length = 0 := by rw [q0] at hfl; omega
           have : k = 0 := by omega
           subst this;refine ⟨[], VL.nil ρ, by rw [hz]; simp [Builtin.lenOf], ?_⟩
           cases ad with
           | none => simp [Builtin.firstCells]
           | some ad => simp [Builtin.firstCells, Go.loadCells, loadCellsFrom]
         ·cases hs
        ·cases hs
       ·cases hs
      cases hdv with
      | slice _ _ _ _ cap base hb hcap hz =>
       obtain ⟨w', q1, q2, q3⟩ := hr.storeN E.P hb s1 hst;refine ⟨ρ, goInt (k : Nat), w', ?_, .int _ _, q2, q3⟩;unfold Builtin.copy_;have hm : Nat.min (Ab U.V y).rows.length n = k := hfx.symm;simp only [hat, List.getElem?_toArray, List.getElem?_cons_zero, List.getElem?_cons_succ, Sem.run_bind, hE.run_und hd, Result.andThen_ok, s2, hE.run_szIs hsz, hm, s3, q1];simp
      | sliceEnd _ _ _ ad =>
       have hk0 : k = 0 := by rw [hfx]; simp
       subst hk0;have := s1.nil_inv;subst this;have hm : Nat.min (Ab U.V y).rows.length 0 = 0 := Nat.min_zero _
       obtain ⟨q2, q3⟩ : HR ρ h'.blk.get w ∧ Ext ρ ρ h h' w w := by
        unfold storeN at hst;simp only [E3] at hst;split at hst
        ·rename_i sz c hg;split at hst
         ·cases hst;refine hr.swap (by rw [hg]; exact Option.some_ne_none _) _ (fun base hρ => ?_)
          exact hr.blk b base _ hρ hg
         ·cases hst
        ·cases hst
       refine ⟨ρ, goInt (0 : Nat), w, ?_, .int _ _, q2, q3⟩;unfold Builtin.copy_;simp only [hat, List.getElem?_toArray, List.getElem?_cons_zero, List.getElem?_cons_succ, Sem.run_bind, hE.run_und hd, Result.andThen_ok, s2, hE.run_szIs hsz, hm, s3];simp [storeCells]
     ·cases ha
    ·cases ha
   ·cases ha
  ·cases ha
end
end Go.AE
namespace Go.AE
variable [U : Unk]
section
variable {E : Env} (hE : OK E) {ρ : Ren} {h : Aa} {w : World}
theorem PR {s : Sem Unit} {why : String} {o : Option Aa} (ho : ∀ h', o = some h' → ∃ σ w', s.run E.P w = .ok () w' ∧ HR σ h'.blk.get w' ∧ Ext ρ σ h h' w w') :
  ET E ρ h w (do s; pure .skip) (E8 why o) := by
 cases o with
 | none => trivial
 | some h' =>
  intro hf;obtain ⟨σ, w', q1, q2, q3⟩ := ho h' rfl;exact ⟨σ, Go.undef, w', .inr ⟨by simp [q1], rfl⟩, VR.undef σ, q2, q3⟩
theorem Ln {s : Sem Value} {why : String} {o : Option Aa} (ho : ∀ h', o = some h' → ∃ w', s.run E.P w = .ok (.tuple #[]) w' ∧ HR ρ h'.blk.get w' ∧ Ext ρ ρ h h' w w') :
  ET E ρ h w (do pure (.value (← s))) (E8 why o) := by
 cases o with
 | none => trivial
 | some h' =>
  intro hf;obtain ⟨w', q1, q2, q3⟩ := ho h' rfl;exact ⟨ρ, Go.undef, w', .inl (by simp [q1, Go.undef]), VR.undef ρ, q2, q3⟩
theorem Wx {ats : Array TypeId} {ty : TypeId} {args : List AV} {args' : List Value} {a : AV} (ha : VL ρ args args') (hq : fi args = some a) : ∃ v, (Builtin.max_ ats ty args'.toArray).run E.P w = .ok v w ∧ VR ρ a v := by
 cases args with
 | nil => cases hq
 | cons x r =>
  obtain ⟨v, r', rfl, hv, hl⟩ := ha.cons_inv;cases hv <;> first | (cases hq; done) | skip
  obtain ⟨u, q1, q2⟩ := Qz E.P w _ hl hq;exact ⟨u, by simpa [Builtin.max_] using q1, q2⟩
theorem WU {ats : Array TypeId} {ty : TypeId} {args : List AV} {args' : List Value} {a : AV} (ha : VL ρ args args') (hq : dB args = some a) : ∃ v, (Builtin.min_ ats ty args'.toArray).run E.P w = .ok v w ∧ VR ρ a v := by
 cases args with
 | nil => cases hq
 | cons x r =>
  obtain ⟨v, r', rfl, hv, hl⟩ := ha.cons_inv;cases hv <;> first | (cases hq; done) | skip
  obtain ⟨u, q1, q2⟩ := PN E.P w _ hl hq;exact ⟨u, by simpa [Builtin.min_] using q1, q2⟩
include hE
theorem Sf (hr : HR ρ h.blk.get w) {t ty : TypeId} {x : AV} {xv : Value} {h' : Aa} (hx : VR ρ x xv) (ha : Pm E t x h = some h') (ats : Array TypeId) (hat : ats[0]? = some t) :
  ∃ w', (Builtin.clear_ ats ty #[xv]).run E.P w = .ok (.tuple #[]) w' ∧ HR ρ h'.blk.get w' ∧ Ext ρ ρ h h' w w' := by
 unfold Pm at ha;cases hd : E.desc t with
 | none => rw [hd] at ha; cases ha
 | some d =>
  rw [hd] at ha;have hu := hE.run_und hd w;simp only [] at ha;cases hx <;> first | (cases ha; done) | skip
  ·simp only [Option.some.injEq] at ha;subst ha;exact ⟨w, by cases d <;> simp [Builtin.clear_, hat, hu], hr, Ext.refl ρ h w⟩
  ·rename_i b off n es cap base hb hcap hz;cases n with
   | zero =>
    simp only [Option.some.injEq] at ha;subst ha;exact ⟨w, by cases d <;> simp [Builtin.clear_, hat, hu], hr, Ext.refl ρ h w⟩
   | succ n =>
    cases d <;> first | (cases ha; done) | skip
    rename_i e;simp only [] at ha;cases hzz : E.zero e with
    | none => rw [hzz] at ha; cases ha
    | some z =>
     rw [hzz] at ha;simp only [] at ha;cases hzl : Nat.beq z.cells.length es with
     | false => rw [hzl] at ha; cases ha
     | true =>
      rw [hzl] at ha;simp only [] at ha;have hzl' := AA hzl;obtain ⟨zv, z1, z2⟩ := hE.run_zero ρ hzz w;have zc := (A5 ρ z2).cells (Bp z2);have hv := DZ zc (n + 1) zv.cells (.inr rfl);obtain ⟨w', q1, q2, q3⟩ := hr.storeN E.P hb hv ha;refine ⟨w', ?_, q2, q3⟩;have hzs : zv.cells.size = z.cells.length := by have := zc.1; simp at this; omega
      have e0 : (Builtin.zeroCells zv.cells (n + 1)).toList = ((Array.range ((n + 1) * z.cells.length)).map (zv.cells[· % zv.cells.size]!)).toList := by
       rw [Builtin.zeroCells, hzs]
      simp only [Builtin.clear_, hat, List.getElem?_toArray, List.getElem?_cons_zero, Sem.run_bind, hu, Result.andThen_ok, z1, e0, q1, Sem.run_pure]
  ·rename_i b off es ad;simp only [Option.some.injEq] at ha;subst ha;exact ⟨w, by cases d <;> simp [Builtin.clear_, hat, hu], hr, Ext.refl ρ h w⟩
  ·rename_i b base hb;simp only [] at ha;cases hg : h.blk.get b with
   | none => rw [hg] at ha; cases ha
   | some y =>
    rw [hg] at ha;cases y <;> first | (cases ha; done) | skip
    ·rename_i es clock;simp only [Option.some.injEq] at ha;subst ha;obtain ⟨es', e1, e2⟩ := hr.blk b base _ hb hg;have hget := A6 (w := w) E.P e1 (by simp)
     obtain ⟨p1, p2⟩ := hr.setObj hb (by rw [hg]; simp) (.map [] clock) (.map #[] clock) ⟨[], rfl, trivial⟩
     refine ⟨_, ?_, p1, p2⟩;cases d <;> simp [Builtin.clear_, hat, hu, hget, Bq (w := w) E.P e1 (by simp)]
    ·rename_i kt vt x;simp only [Option.some.injEq] at ha;subst ha;obtain ⟨kks, vks, es', clock, k1, k2, e1, e2⟩ := hr.blk b base _ hb hg;have hget := A6 (w := w) E.P e1 (by simp)
     obtain ⟨p1, p2⟩ := hr.setObj hb (by rw [hg]; simp) (.dmap kt vt .emptyL) (.map #[] clock) ⟨kks, vks, [], clock, k1, k2, rfl, trivial⟩
     refine ⟨_, ?_, p1, p2⟩;cases d <;> simp [Builtin.clear_, hat, hu, hget, Bq (w := w) E.P e1 (by simp)]
theorem Ou (hr : HR ρ h.blk.get w) {b : Builtin} {ats : Array TypeId} {ty : TypeId} {consts : Array Bool} {args : List AV} {args' : List Value} (ha : VL ρ args args') :
  ET E ρ h w (builtin b ats ty consts args'.toArray) (KH E b ats.toList args h) := by
 unfold KH;split
 ·rename_i t ts x xs hts;obtain ⟨v, r, rfl, hv, hl⟩ := ha.cons_inv;have hat : ats[0]? = some t := by rw [← Array.getElem?_toList, hts]; rfl
  exact Ba hr fun a hq => Xr hE hr hv hq ats hat _ (by simp)
 ·rename_i t t' s x hts;obtain ⟨v, r, rfl, hv, hl⟩ := ha.cons_inv;obtain ⟨v2, r2, rfl, hv2, hl2⟩ := hl.cons_inv;have := hl2.nil_inv;subst this;have hats : ats = #[t, t'] := by cases ats; simp_all
  subst hats;exact By fun a h' hq hf => Nu hE hr hv hv2 hq hf (fun a h' hq hf => Kg hE hr hv hv2 hq hf)
 ·rename_i t ts d x hts;obtain ⟨v, r, rfl, hv, hl⟩ := ha.cons_inv;obtain ⟨v2, r2, rfl, hv2, hl2⟩ := hl.cons_inv;have := hl2.nil_inv;subst this;have hat : ats[0]? = some t := by rw [← Array.getElem?_toList, hts]; rfl
  exact By fun a h' hq hf => Tq hE hr (t' := t) hv hv2 hq ats hat
 ·rename_i t ts m k hts;obtain ⟨v, r, rfl, hv, hl⟩ := ha.cons_inv;obtain ⟨v2, r2, rfl, hv2, hl2⟩ := hl.cons_inv;have := hl2.nil_inv;subst this;have hat : ats[0]? = some t := by rw [← Array.getElem?_toList, hts]; rfl
  exact Ln fun h' hq => PE hE hr hv hv2 hq ats hat
 ·exact Ba hr fun a hq => by
   unfold orA at hq;split at hq
   ·rename_i hm; cases hq; exact Wx ha hm
   ·exact T3 ha hq
 ·exact Ba hr fun a hq => by
   unfold orA at hq;split at hq
   ·rename_i hm; cases hq; exact WU ha hm
   ·exact Vw ha hq
 ·exact ⟨rfl, by simp [builtin]⟩
 ·obtain ⟨v, r, rfl, hv, hl⟩ := ha.cons_inv;have := hl.nil_inv;subst this;have hv' := hv;cases hv;exact ⟨rfl, _, hv', by simp [builtin, Instr.panic]⟩
 ·rename_i t x hts;obtain ⟨v, r, rfl, hv, hl⟩ := ha.cons_inv;have := hl.nil_inv;subst this;have hat : ats[0]? = some t := by rw [← Array.getElem?_toList, hts]; rfl
  exact Ln fun h' hq => Sf hE hr hv hq ats hat
 ·trivial
theorem St (hr : HR ρ h.blk.get w) {tmps : T AV} {ev : Operand → Value} (hev : EvR ρ tmps ev) (c : Call) (ty : TypeId) :
  ET E ρ h w (do let d ← resolve ev c ty; invoke d.target d.args) (Pw E tmps c h) := by
 have hargs := hev.list c.args.toList;have hmap : (c.args.map ev) = (c.args.toList.map ev).toArray := by apply Array.ext'; simp
 unfold Pw;cases hc : c.callee with
 | builtin b =>
  have e : ∃ cs, (do let d ← resolve ev c ty; invoke d.target d.args) = builtin b c.argTypes ty cs (c.args.toList.map ev).toArray :=
   ⟨_, by simp only [resolve, hc, pure_bind, invoke, hmap]; rfl⟩
  obtain ⟨cs, e⟩ := e;rw [e];exact Ou (w := w) hE hr (b := b) (ats := c.argTypes) (ty := ty) (consts := cs) hargs
 | invoke r name =>
  have := D6 (w := w) hE hr (fn := .method name) (fn' := .method name) (captured := []) (captured' := []) rfl (VL.nil ρ) (VL.cons (hev r) hargs)
  have e : (do let d ← resolve ev c ty; invoke d.target d.args) = invoke (.fn (.method name) #[]) (ev r :: c.args.toList.map ev).toArray := by
   simp only [resolve, hc, pure_bind, hmap]
   congr 1
   simp
  rw [e];exact this
 | value f =>
  simp only [];have hf := hev f;cases hv : Ah tmps f with
  | func fn first captured =>
   rw [hv] at hf;cases hvf : ev f with
   | func fn' first' captured' =>
    rw [hvf] at hf;cases hf with
    | func _ _ _ _ f' c' q1 q2 q3 q4 q5 =>
     have := D6 (w := w) hE hr q1 (captured := captured) (captured' := c') ⟨q4, q5⟩ (VL.append (l := first) (l' := f') ⟨q2, q3⟩ hargs)
     have e : (do let d ← resolve ev c ty; invoke d.target d.args) = invoke (.fn fn' c'.toArray) (f' ++ c.args.toList.map ev).toArray := by
      simp only [resolve, hc, hvf, Deferred.ofValue, pure_bind, hmap]
      congr 1
      simp
     rw [e];exact this
   | _ => rw [hvf] at hf; cases hf
  | _ => trivial
omit hE in
theorem PQ {tmps : T AV} {ev : Operand → Value} (hev : EvR ρ tmps ev) (c : Call) (ty : TypeId) :
  ET E ρ h w (do pure (.defer (← resolve ev c ty))) (Gp tmps c h) := by
 have hargs := hev.list c.args.toList;have hmap : (c.args.map ev) = (c.args.toList.map ev).toArray := by apply Array.ext'; simp
 unfold Gp;cases hc : c.callee with
 | value f =>
  simp only [];have hf := hev f;cases hv : Ah tmps f with
  | func fn first captured =>
   rw [hv] at hf;cases hvf : ev f with
   | func fn' first' captured' =>
    rw [hvf] at hf;cases hf with
    | func _ _ _ _ f' c' q1 q2 q3 q4 q5 =>
     refine ⟨rfl, { target := .fn fn' c'.toArray, args := (f' ++ c.args.toList.map ev).toArray }, ?_, ?_⟩
     ·exact ⟨fn', c', f' ++ c.args.toList.map ev, q1, ⟨q4, q5⟩, VL.append (l := first) (l' := f') ⟨q2, q3⟩ hargs, rfl⟩
     ·simp [resolve, hc, hvf, Deferred.ofValue, hmap]
   | _ => rw [hvf] at hf; cases hf
  | _ => trivial
 | _ => trivial
end
end Go.AE

