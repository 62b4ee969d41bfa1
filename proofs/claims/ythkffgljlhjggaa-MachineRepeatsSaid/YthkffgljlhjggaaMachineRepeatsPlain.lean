/- What is proved: what the plain functions over data say, whose trees the text before writes out: the law MachineRepeats answers true. Conditions: those that each theorem states. -/
import Derived.Test.YthkffgljlhjggaaMachineRepeatsPlainA
set_option linter.unusedVariables false
set_option linter.unusedSectionVars false
set_option linter.unusedSimpArgs false
namespace Mr
open Go Go.AE
section
variable [Ao]
variable {S C T N A : D} {n : Nat} {m : MS} {r : RS}
def YA (T : D) : Prop := ∀ i : Nat, i < len T → (∃ n, cl T i 2 = .int n) ∧ (∃ n, cl T i 6 = .int n) ∧ (∃ n, cl T i 7 = .int n) ∧ (∃ n, cl T i 8 = .int n)
theorem S9 (N S C T : D) : (Tl N S C T = .row [.int 1, .bool true]) ∨ (Tl N S C T = .row [.int 1, .bool false] ∧ len C ≤ 6 ∧ len S ≤ 8 ∧ len T ≤ 14 ∧ ∀ i : Nat, i < len T → A1 (cl T i 3) ≤ 60 ∧ A1 (cl T i 4) ≤ 60) := by
 rw [dI];by_cases a1 : 6 < (len C : Int)
 ·rw [ifT a1]; exact .inl rfl
 rw [ifF a1];by_cases a2 : 8 < (len S : Int)
 ·rw [ifT a2]; exact .inl rfl
 rw [ifF a2];by_cases a3 : 14 < (len T : Int)
 ·rw [ifT a3]; exact .inl rfl
 rw [ifF a3];by_cases a4 : 60 < (A1 N : Int)
 ·rw [ifT a4]; exact .inl rfl
 rw [ifF a4]
 have L3 : ∀ k i, i + k = len T → (Ss (.int (i : Nat)) N S C T = .row [.int 1, .bool true]) ∨ (Ss (.int (i : Nat)) N S C T = .row [.int 1, .bool false] ∧ ∀ j : Nat, i ≤ j → j < len T → A1 (cl T j 3) ≤ 60 ∧ A1 (cl T j 4) ≤ 60) := by
  intro k
  induction k with
  | zero =>
   intro i hi;rw [Zq, ifF (by omega)]
   exact .inr ⟨rfl, fun j h1 h2 => by omega⟩
  | succ k ih =>
   intro i hi;rw [Zq, ifT (by omega), ifF (by omega), CZ (i := i) (by omega)]
   by_cases b0 : 60 < (A1 (cl T i 0) : Int)
   ·rw [ifT b0]; exact .inl rfl
   rw [ifF b0];by_cases b1 : 60 < (A1 (cl T i 1) : Int)
   ·rw [ifT b1]; exact .inl rfl
   rw [ifF b1];by_cases b2 : 60 < (A1 (cl T i 3) : Int)
   ·rw [ifT b2]; exact .inl rfl
   rw [ifF b2];by_cases b3 : 60 < (A1 (cl T i 4) : Int)
   ·rw [ifT b3]; exact .inl rfl
   rw [ifF b3];by_cases b4 : 60 < (A1 (cl T i 5) : Int)
   ·rw [ifT b4]; exact .inl rfl
   rw [ifF b4];rcases ih (i + 1) (by omega) with q | ⟨q, p⟩
   ·exact .inl q
   ·refine .inr ⟨q, fun j h1 h2 => ?_⟩
    by_cases z : j = i
    ·subst z; exact ⟨by omega, by omega⟩
    ·exact p j (by omega) h2
 have L2 : ∀ k i, i + k = len S → (R9 (.int (i : Nat)) N S C T = .row [.int 1, .bool true]) ∨ R9 (.int (i : Nat)) N S C T = Ss (.int (0 : Nat)) N S C T := by
  intro k
  induction k with
  | zero =>
   intro i hi;rw [Zt, ifF (by omega)]
   exact .inr rfl
  | succ k ih =>
   intro i hi;rw [Zt, ifT (by omega), ifF (by omega), CZ (i := i) (by omega)]
   by_cases b0 : 60 < (A1 (cl S i 0) : Int)
   ·rw [ifT b0]; exact .inl rfl
   rw [ifF b0];exact ih (i + 1) (by omega)
 have L1 : ∀ k i, i + k = len C → (T7 (.int (i : Nat)) N S C T = .row [.int 1, .bool true]) ∨ T7 (.int (i : Nat)) N S C T = R9 (.int (0 : Nat)) N S C T := by
  intro k
  induction k with
  | zero =>
   intro i hi;rw [ba, ifF (by omega)]
   exact .inr rfl
  | succ k ih =>
   intro i hi;rw [ba, ifT (by omega), ifF (by omega), CZ (i := i) (by omega)]
   by_cases b0 : 60 < (A1 (cl C i 0) : Int)
   ·rw [ifT b0]; exact .inl rfl
   rw [ifF b0];exact ih (i + 1) (by omega)
 rcases L1 (len C) 0 (by omega) with q | q
 ·exact .inl q
 rcases L2 (len S) 0 (by omega) with q2 | q2
 ·exact .inl (q.trans q2)
 rcases L3 (len T) 0 (by omega) with q3 | ⟨q3, p⟩
 ·exact .inl ((q.trans q2).trans q3)
 ·exact .inr ⟨(q.trans q2).trans q3, by omega, by omega, by omega, fun i hi => p i (by omega) hi⟩
theorem JM : Jd = .row [.int 1] := dP
structure Nw (S C T : D) (r0 : RS) (g : Nat → RS) (r : RS) : Prop where
 g0 : g 0 = r0
 st : ∀ j : Nat, j < len r.evs → ∃ (i : Nat) (t : Int), cl r.evs j 0 = .int i ∧ cl r.evs j 1 = .int t ∧ good S C T (g j) t i ∧ g (j + 1) = perf C T (g j) t i
 at0 : (g (len r.evs)).at' = r.at'
 ent : (g (len r.evs)).ent = r.ent
 vals : (g (len r.evs)).vals = r.vals
 tm : (g (len r.evs)).time ≤ r.time
theorem Nw.later {r0 : RS} {g : Nat → RS} (h : Nw S C T r0 g r) {t : Int} (ht : r.time ≤ t) : Nw S C T r0 g { r with time := t } :=
 ⟨h.g0, h.st, h.at0, h.ent, h.vals, by have := h.tm; show _ ≤ t; exact Int.le_trans this ht⟩
theorem Nw.perf {r0 : RS} {g : Nat → RS} (h : Nw S C T r0 g r) {t : Int} {i : Nat} (hg : good S C T r t i) : ∃ g', Nw S C T r0 g' (perf C T r t i) := by
 have GL : good S C T (g (len r.evs)) t i := by
  unfold good at hg ⊢;rw [h.at0, h.ent, h.vals];have := h.tm;exact ⟨hg.1, by omega, hg.2.2.1, hg.2.2.2⟩
 have L : len (Mr.perf C T r t i).evs = len r.evs + 1 := BD;refine ⟨fun j => if j ≤ len r.evs then g j else Mr.perf C T (g (len r.evs)) t i, ?_, fun j hj => ?_, ?_, ?_, ?_, ?_⟩
 ·show (if 0 ≤ len r.evs then g 0 else _) = r0
  rw [if_pos (Nat.zero_le _)]; exact h.g0
 ·rw [L] at hj;show ∃ (i' : Nat) (t' : Int), cl (ad r.evs (.row [.int i, .int t])) j 0 = .int i' ∧ cl (ad r.evs (.row [.int i, .int t])) j 1 = .int t' ∧ good S C T (if j ≤ len r.evs then g j else _) t' i' ∧ (if j + 1 ≤ len r.evs then g (j + 1) else _) = Mr.perf C T (if j ≤ len r.evs then g j else _) t' i'
  rw [if_pos (show j ≤ len r.evs by omega), BW (by omega), BW (by omega)]
  by_cases z : j = len r.evs
  ·subst z;rw [if_pos rfl, if_pos rfl, if_neg (by omega)]
   exact ⟨i, t, rfl, rfl, GL, rfl⟩
  ·rw [if_neg (by omega), if_neg (by omega), if_pos (by omega)]
   exact h.st j (by omega)
 ·rw [L]; show (if len r.evs + 1 ≤ len r.evs then _ else Mr.perf C T (g (len r.evs)) t i).at' = _
  rw [if_neg (by omega)]; rfl
 ·rw [L]; show (if len r.evs + 1 ≤ len r.evs then _ else Mr.perf C T (g (len r.evs)) t i).ent = _
  rw [if_neg (by omega)]; rfl
 ·rw [L]; show (if len r.evs + 1 ≤ len r.evs then _ else Mr.perf C T (g (len r.evs)) t i).vals = _
  rw [if_neg (by omega)]
  show N1 C T (g (len r.evs)).vals i = N1 C T r.vals i;rw [h.vals]
 ·rw [L]; show (if len r.evs + 1 ≤ len r.evs then _ else Mr.perf C T (g (len r.evs)) t i).time ≤ t
  rw [if_neg (by omega)]; exact Int.le_refl _
theorem K3 (h : Inv S C T n m r) {j : Nat} (hj : j < len C) : ∃ x : Int, Fr m.b (.bool m.bn) m.nm m.st (.bool m.stn) m.ct (.bool m.ctn) m.sp (.bool m.spn) m.an (.bool m.af) (.int m.aw) (.int m.now) m.due m.dn m.hp (.bool m.hn) (.bool m.ov) m.ev (.bool m.en) (cl C j 0) = .row [.int 1, .int x, .int 0] ∧ cl r.vals j 0 = .int x ∧ 0 ≤ x ∧ x ≤ (cl C j 1).toInt := by
 have c1 := h.rk.c1;have lb := h.bk.lb;have e := Nf h.bk.lb h.bk.nm (cl C j 0);have e2 := h.rk.cid j hj;obtain ⟨x, v1, v2, v3, v4⟩ := h.bk.vl j hj;refine ⟨x, ?_, v2, v3, v4⟩;rw [ZU, Uq (by omega) (by omega), e, e2, v1]
 rfl
theorem Xm {r0 : RS} {g : Nat → RS} (hH : Nw S C T r0 g r) (hl : len r.evs < 100) {l : D} {lb v3 : Bool} (ll : len l = len r.evs) (lc : ∀ j : Nat, j < len r.evs → cl l j 0 = cl r.evs j 0 ∧ cl l j 1 = cl r.evs j 1) :
  ∀ (k j : Nat) (m : MS) (st : D) (sb : Bool), j + k = len r.evs → Inv S C T (j + 1) m (g j) → len (g j).evs = j → len st = j → (∀ i : Nat, i < j → cl st i 0 = cl l i 0 ∧ cl st i 1 = cl l i 1) → (∀ i : Nat, i < j → cl (g j).evs i 0 = cl l i 0 ∧ cl (g j).evs i 1 = cl l i 1) →
   ∃ (m2 : MS) (r2 : RS) (st2 : D) (sb2 : Bool), QO l (.bool lb) (.int (j : Nat)) (.bool v3) m.nm m.st (.bool m.stn) m.ct (.bool m.ctn) m.sp (.bool m.spn) m.an (.bool m.af) (.int m.aw) (.bool m.ov) m.ev (.bool m.en) m.b (.bool m.bn) (.int (g j).time) st (.bool sb) m.due m.hp (.int m.now) m.dn (.bool m.hn) = .row [.int 2, m2.an, .bool m2.af, .int m2.aw, .bool m2.ov, m2.ev, .bool m2.en, m2.b, .bool m2.bn, .int r2.time, st2, .bool sb2, .int m2.now, m2.dn, m2.hp, .bool m2.hn, m2.due] ∧
    m2.nm = m.nm ∧ m2.st = m.st ∧ m2.stn = m.stn ∧ m2.ct = m.ct ∧ m2.ctn = m.ctn ∧ m2.sp = m.sp ∧ m2.spn = m.spn ∧ r2 = g (len r.evs) ∧ Inv S C T (len r.evs + 1) m2 r2 ∧ len r2.evs = len r.evs ∧ len st2 = len l ∧ (∀ i : Nat, i < len l → cl st2 i 0 = cl l i 0 ∧ cl st2 i 1 = cl l i 1) ∧ (∀ i : Nat, i < len l → cl r2.evs i 0 = cl l i 0 ∧ cl r2.evs i 1 = cl l i 1) := by
 intro k
 induction k with
 | zero =>
  intro j m st sb hj h hg hs hc hd;have : j = len r.evs := by omega
  subst this;exact ⟨m, g (len r.evs), st, sb, by rw [WE, ifF (by omega)], rfl, rfl, rfl, rfl, rfl, rfl, rfl, rfl, h, hg, by omega, fun i hi => hc i (by omega), fun i hi => hd i (by omega)⟩
 | succ k ih =>
  intro j m st sb hj h hg hs hc hd;obtain ⟨i, t, c0, c1, gd, gn⟩ := hH.st j (by omega)
  obtain ⟨lc0, lc1⟩ := lc j (by omega)
  obtain ⟨an', af', aw', ov', ev', en', b', now', dn', hp', due', hn', r', e, q1, q2, q3⟩ := TT h (by omega) t (i : Int)
  have X : e = 0 ∧ r' = g (j + 1) := by
   rcases q3 with ⟨e0, i', hi', _, hr'⟩ | ⟨_, _, ng⟩
   ·have : i' = i := by omega
    subst this;exact ⟨e0, by rw [hr', gn]⟩
   ·exact absurd gd (ng i rfl)
  obtain ⟨e0, hr'⟩ := X;subst e0;subst hr';have tm := gd.2.1;have tn : (g (j + 1)).time = t := by rw [gn]; rfl
  have en : (g (j + 1)).evs = ad (g j).evs (.row [.int i, .int t]) := by rw [gn]; rfl
  rw [WE, ifT (by omega), ifF (by omega), lc0, lc1, c0, c1, ifF (by exact Int.not_lt.2 tm), q1, ifT (p := (len st : Int) < 1073741824) (by omega)]
  simp only [EO, EG, tI, decide_true, cond_true];rw [CZ (i := j) (by omega), ← tn]
  have I := ih (j + 1) { m with an := an', af := af', aw := aw', ov := ov', ev := ev', en := en', b := b', now := now', dn := dn', hp := hp', due := due', hn := hn' } (ad st (.row [.int i, .int t])) false (by omega) q2 (by rw [en, BD, hg]) (by rw [BD, hs])
   (fun x hx => by
    rw [BW (by omega), BW (by omega)]
    by_cases z : x = j
    ·subst z;rw [if_pos (by omega), if_pos (by omega), lc0, lc1, c0, c1]
     exact ⟨rfl, rfl⟩
    ·rw [if_neg (by omega), if_neg (by omega)]
     exact hc x (by omega))
   (fun x hx => by
    rw [en, BW (by omega), BW (by omega)]
    by_cases z : x = j
    ·subst z;rw [if_pos (by omega), if_pos (by omega), lc0, lc1, c0, c1]
     exact ⟨rfl, rfl⟩
    ·rw [if_neg (by omega), if_neg (by omega)]
     exact hd x (by omega))
  rw [tn] at I ⊢;exact I
theorem Qf (h : Inv S C T n m r) (hn : n < 1000) : ∃ (l : D) (lb : Bool), GG m.ev (.bool m.en) = .row [.int 1, l, .bool lb] ∧ len l = len r.evs ∧ ∀ j : Nat, j < len r.evs → cl l j 0 = cl r.evs j 0 ∧ cl l j 1 = cl r.evs j 1 := by
 have el := h.el;have el' := h.el';rw [cE];cases hen : m.en with
 | true =>
  have z := h.en hen;exact ⟨AN, true, rfl, by rw [CO]; omega, fun j hj => by omega⟩
 | false =>
  rw [cF rfl, ifT (by omega)]
  exact ⟨ct AZ m.ev, false, rfl, h.el, h.ee⟩
theorem X1 {st l : D} {sb lb v0 : Bool} (hl : len l = len st) (hn : len l < 1000) (hc : ∀ i : Nat, i < len l → cl st i 0 = cl l i 0 ∧ cl st i 1 = cl l i 1) : Oj (.bool v0) st (.bool sb) (.int 0) l (.bool lb) = .row [.int 2, .int (len l : Nat)] := by
 have E : ∀ k j, j + k = len l → Qt l (.bool lb) (.int (j : Nat)) (.bool v0) st (.bool sb) (.int (j : Nat)) = .row [.int 2, .int (len l : Nat)] := by
  intro k
  induction k with
  | zero =>
   intro j hj;have : j = len l := by omega
   subst this;rw [Wp, ifF (by omega)]
  | succ k ih =>
   intro j hj;obtain ⟨a, b⟩ := hc j (by omega)
   rw [Wp, ifT (by omega), ifF (by omega), ifT (by omega), a, b, CZ (i := j) (by omega)]
   simp only [decide_true, Bool.and_self, cond_true];exact ih (j + 1) (by omega)
 exact (Y3 ..).trans (E (len l) 0 (by omega))
theorem S8 {k : MS} {rk : RS} {n2 : Nat} (h : Inv S C T n m r) (hk : Inv S C T n2 k rk) (ea : rk.at' = r.at') (ev : rk.vals = r.vals) {st : D} {sb : Bool} {x : Int} (hx : x = len st) (N : D) :
  Og (.int (0 : Nat)) N S C T st (.bool sb) (.int x) m.nm m.st (.bool m.stn) m.ct (.bool m.ctn) m.sp (.bool m.spn) m.an (.bool m.af) (.int m.aw) (.bool m.ov) m.ev (.bool m.en) m.b (.bool m.bn) (.int m.now) m.dn m.hp (.bool m.hn) k.nm k.st (.bool k.stn) k.ct (.bool k.ctn) k.sp (.bool k.spn) k.an (.bool k.af) (.int k.aw) (.bool k.ov) k.ev (.bool k.en) m.due k.b (.bool k.bn) (.int k.now) k.dn k.hp (.bool k.hn) k.due = .row [.int 1, .bool true] := by
 have c1 := h.rk.c1
 have E : ∀ q j, j + q = len C → Og (.int (j : Nat)) N S C T st (.bool sb) (.int x) m.nm m.st (.bool m.stn) m.ct (.bool m.ctn) m.sp (.bool m.spn) m.an (.bool m.af) (.int m.aw) (.bool m.ov) m.ev (.bool m.en) m.b (.bool m.bn) (.int m.now) m.dn m.hp (.bool m.hn) k.nm k.st (.bool k.stn) k.ct (.bool k.ctn) k.sp (.bool k.spn) k.an (.bool k.af) (.int k.aw) (.bool k.ov) k.ev (.bool k.en) m.due k.b (.bool k.bn) (.int k.now) k.dn k.hp (.bool k.hn) k.due = .row [.int 1, .bool true] := by
  intro q
  induction q with
  | zero =>
   intro j hj
   have an : D.strEq m.an k.an = true := by
    have a1 := h.an;have a2 := hk.an;rw [ea] at a2;rw [Bn] at a2;exact MF a1 a2
   have af : m.af = k.af := by
    have a1 := h.af;have a2 := hk.af;rw [ea, a1] at a2;injection a2
   have K : cond (decide ((sl (Jd) 0).toInt = 1)) (D.row [.int 1, (.bool true)]) (.row []) = .row [.int 1, (.bool true)] := by rw [JM]; rfl
   rw [Wf, ifF (by omega), ifT hx, cT an, af]
   cases k.af <;> exact K
  | succ q ih =>
   intro j hj;obtain ⟨a, a1, a2, _⟩ := K3 h (j := j) (by omega)
   obtain ⟨b, b1, b2, _⟩ := K3 hk (j := j) (by omega)
   have : a = b := by
    rw [ev, a2] at b2;injection b2
   subst this;rw [Wf, ifT (by omega), ifF (by omega), a1, b1]
   simp only [EO, EG, tI, decide_true, cond_true];rw [CZ (i := j) (by omega)]
   have w0 : IntKind.wrap .i64 (0 + 0) = 0 := rfl;rw [w0];simp only [decide_true, cond_true];exact ih (j + 1) (by omega)
 exact E (len C) 0 (by omega)
theorem Hy (h : Inv S C T n m r) (k0 : MS) (N A : D) {i : Nat} (hi : i < 1000) : CV A (.int (i : Nat)) (.int (0 : Nat)) N S C T m.nm m.st (.bool m.stn) m.ct (.bool m.ctn) m.sp (.bool m.spn) m.an (.bool m.af) (.int m.aw) (.bool m.ov) m.ev (.bool m.en) m.b (.bool m.bn) (.int m.now) m.dn m.hp (.bool m.hn) k0.nm k0.st (.bool k0.stn) k0.ct (.bool k0.ctn) k0.sp (.bool k0.spn) k0.an (.bool k0.af) (.int k0.aw) k0.ev m.due k0.b (.bool k0.bn) k0.dn k0.hp (.bool k0.hn) k0.due = L8 A (.int (i + 1 : Nat)) N S C T m.nm m.st (.bool m.stn) m.ct (.bool m.ctn) m.sp (.bool m.spn) m.an (.bool m.af) (.int m.aw) (.bool m.ov) m.ev (.bool m.en) m.b (.bool m.bn) (.int m.now) m.dn m.hp (.bool m.hn) k0.nm k0.st (.bool k0.stn) k0.ct (.bool k0.ctn) k0.sp (.bool k0.spn) k0.an (.bool k0.af) (.int k0.aw) k0.ev m.due k0.b (.bool k0.bn) k0.dn k0.hp (.bool k0.hn) k0.due := by
 have c1 := h.rk.c1
 have E : ∀ q j, j + q = len C → CV A (.int (i : Nat)) (.int (j : Nat)) N S C T m.nm m.st (.bool m.stn) m.ct (.bool m.ctn) m.sp (.bool m.spn) m.an (.bool m.af) (.int m.aw) (.bool m.ov) m.ev (.bool m.en) m.b (.bool m.bn) (.int m.now) m.dn m.hp (.bool m.hn) k0.nm k0.st (.bool k0.stn) k0.ct (.bool k0.ctn) k0.sp (.bool k0.spn) k0.an (.bool k0.af) (.int k0.aw) k0.ev m.due k0.b (.bool k0.bn) k0.dn k0.hp (.bool k0.hn) k0.due = L8 A (.int (i + 1 : Nat)) N S C T m.nm m.st (.bool m.stn) m.ct (.bool m.ctn) m.sp (.bool m.spn) m.an (.bool m.af) (.int m.aw) (.bool m.ov) m.ev (.bool m.en) m.b (.bool m.bn) (.int m.now) m.dn m.hp (.bool m.hn) k0.nm k0.st (.bool k0.stn) k0.ct (.bool k0.ctn) k0.sp (.bool k0.spn) k0.an (.bool k0.af) (.int k0.aw) k0.ev m.due k0.b (.bool k0.bn) k0.dn k0.hp (.bool k0.hn) k0.due := by
  intro q
  induction q with
  | zero =>
   intro j hj;rw [WL, ifF (by omega), CZ (i := i) (by omega)]
  | succ q ih =>
   intro j hj;obtain ⟨x, a1, a2, a3, a4⟩ := K3 h (j := j) (by omega)
   rw [WL, ifT (by omega), ifF (by omega), a1]
   simp only [EO, EG, tI, decide_true, cond_true];rw [iF (by omega), iF (by omega), CZ (i := j) (by omega)]
   exact ih (j + 1) (by omega)
 exact E (len C) 0 (by omega)
theorem Mu {k0 : MS} {r0 : RS} (h0 : Inv S C T 1 k0 r0) (x1 : k0.now = 0) (x2 : k0.ov = false) (x3 : k0.ev = AN) (x4 : k0.en = true) (x5 : r0.time = 0) (x6 : r0.evs = AN)
  (hA : ∀ i : Nat, i < len A → (∃ x, cl A i 0 = .int x) ∧ (∃ x, cl A i 1 = .int x) ∧ (∃ x, cl A i 2 = .int x)) (hl : len A ≤ 60) (N : D) : ∀ (k i : Nat) (m : MS) (r : RS) (g : Nat → RS), i + k = len A → Inv S C T (i + 1) m r → Nw S C T r0 g r →
  L8 A (.int (i : Nat)) N S C T m.nm m.st (.bool m.stn) m.ct (.bool m.ctn) m.sp (.bool m.spn) m.an (.bool m.af) (.int m.aw) (.bool m.ov) m.ev (.bool m.en) m.b (.bool m.bn) (.int m.now) m.dn m.hp (.bool m.hn) k0.nm k0.st (.bool k0.stn) k0.ct (.bool k0.ctn) k0.sp (.bool k0.spn) k0.an (.bool k0.af) (.int k0.aw) k0.ev m.due k0.b (.bool k0.bn) k0.dn k0.hp (.bool k0.hn) k0.due = .row [.int 1, .bool true] := by
 have K : cond (decide ((sl (Jd) 0).toInt = 1)) (D.row [.int 1, (.bool true)]) (.row []) = .row [.int 1, (.bool true)] := by rw [JM]; rfl
 intro k
 induction k with
 | zero =>
  intro i m r g hi h hH;have el' := h.el';obtain ⟨l, lb, c1, c2, c3⟩ := Qf h (by omega)
  have g0 := hH.g0;have R := Xm (v3 := false) (lb := lb) hH (by omega) c2 c3 (len r.evs) 0 k0 AN true (by omega) (by rw [g0]; exact h0) (by rw [g0, x6]; rfl) rfl (fun i hi => by omega) (fun i hi => by omega)
  rw [g0, x1, x2, x3, x4, x5] at R;obtain ⟨m2, r2, st2, sb2, R1, y1, y2, y3, y4, y5, y6, y7, R2, R3, R4, R5, R6, R7⟩ := R;have R1' := (bu ..).trans R1;obtain ⟨l2, b2, d1, d2, d3⟩ := Qf R3 (by omega)
  have Q := X1 (st := st2) (l := l2) (sb := sb2) (lb := b2) (v0 := false) (by omega) (by omega) (fun i hi => by
   obtain ⟨p1, p2⟩ := R6 i (by omega)
   obtain ⟨p3, p4⟩ := R7 i (by omega)
   obtain ⟨p5, p6⟩ := d3 i (by omega)
   rw [p1, p2, p5, p6, p3, p4];exact ⟨rfl, rfl⟩)
  have Z := S8 h R3 (by rw [R2]; exact hH.at0) (by rw [R2]; exact hH.vals) (st := st2) (sb := sb2) (x := (len l2 : Nat)) (by omega) N
  rw [y1, y2, y3, y4, y5, y6, y7] at Z;rw [x3];rw [WK (h0 := rfl) (h1 := rfl) (h2 := rfl) (h3 := rfl) (h4 := rfl) (h5 := c1) (h6 := R1'), ifF (by omega)]
  simp only [EO, EG, tI, decide_true, cond_true];rw [iF (by omega), d1]
  simp only [EO, EG, tI, decide_true, cond_true, Q];rw [iF (by omega)]
  exact Z
 | succ k ih =>
  intro i m r g hi h hH;obtain ⟨⟨z0, y0⟩, ⟨z1, y1⟩, ⟨z2, y2⟩⟩ := hA i (by omega)
  obtain ⟨ov4, now4, dn4, hp4, due4, hn4, time4, l4, b4, e4, q4, I4, t4⟩ := Yg h (by omega) z1
  obtain ⟨an0, af0, aw0, ov0, ev0, en0, b0, now0, dn0, hp0, due0, hn0, r0', e0, q0, I0, s0⟩ := TT h (by omega) z1 z2
  obtain ⟨an1, af1, aw1, ov1, ev1, en1, b1, now1, dn1, hp1, due1, hn1, r1, w1, e1, q1, I1, s1⟩ := OR h (by omega) z1 (cl A i 3) (cl A i 4)
  obtain ⟨na, ne, q2⟩ := UP h;obtain ⟨an3, af3, aw3, ov3, ev3, en3, b3, now3, dn3, hp3, due3, hn3, r3, e3, q3, I3, s3⟩ := TT h (by omega) na z2
  rw [← y1, ← y2] at q0;rw [← y1] at q1 q4;rw [← y2] at q3;rw [WK (h0 := q0) (h1 := q1) (h2 := q2) (h3 := q3) (h4 := q4) (h5 := rfl) (h6 := rfl), ifT (by omega), ifF (by omega)]
  by_cases a1 : 60 < (A1 (cl A i 3) : Int)
  ·rw [ifT a1]; exact K
  rw [ifF a1];by_cases a2 : 60 < (A1 (cl A i 4) : Int)
  ·rw [ifT a2]; exact K
  rw [ifF a2];simp only [EO, EG, tI, decide_true, cond_true];have CAN : CV A (.int (i : Nat)) (.int 0) N S C T m.nm m.st (.bool m.stn) m.ct (.bool m.ctn) m.sp (.bool m.spn) m.an (.bool m.af) (.int m.aw) (.bool ov4) m.ev (.bool m.en) m.b (.bool m.bn) (.int now4) dn4 hp4 (.bool hn4) k0.nm k0.st (.bool k0.stn) k0.ct (.bool k0.ctn) k0.sp (.bool k0.spn) k0.an (.bool k0.af) (.int k0.aw) k0.ev due4 k0.b (.bool k0.bn) k0.dn k0.hp (.bool k0.hn) k0.due = .row [.int 1, .bool true] :=
   (Hy (m := { m with ov := ov4, now := now4, dn := dn4, hp := hp4, due := due4, hn := hn4 }) I4 k0 N A (i := i) (by omega)).trans (ih (i + 1) _ _ g (by omega) (I4.mono (by omega)) (hH.later t4))
  have DO : CV A (.int (i : Nat)) (.int 0) N S C T m.nm m.st (.bool m.stn) m.ct (.bool m.ctn) m.sp (.bool m.spn) an0 (.bool af0) (.int aw0) (.bool ov0) ev0 (.bool en0) b0 (.bool m.bn) (.int now0) dn0 hp0 (.bool hn0) k0.nm k0.st (.bool k0.stn) k0.ct (.bool k0.ctn) k0.sp (.bool k0.spn) k0.an (.bool k0.af) (.int k0.aw) k0.ev due0 k0.b (.bool k0.bn) k0.dn k0.hp (.bool k0.hn) k0.due = .row [.int 1, .bool true] := by
   refine (Hy I0 k0 N A (i := i) (by omega)).trans ?_
   rcases s0 with ⟨_, i', _, gd, hr⟩ | ⟨_, hr, _⟩
   ·obtain ⟨g', hg⟩ := hH.perf gd;rw [← hr] at hg;exact ih (i + 1) _ _ g' (by omega) I0 hg
   ·subst hr;exact ih (i + 1) _ _ g (by omega) I0 hH
  have RCV : CV A (.int (i : Nat)) (.int 0) N S C T m.nm m.st (.bool m.stn) m.ct (.bool m.ctn) m.sp (.bool m.spn) an1 (.bool af1) (.int aw1) (.bool ov1) ev1 (.bool en1) b1 (.bool m.bn) (.int now1) dn1 hp1 (.bool hn1) k0.nm k0.st (.bool k0.stn) k0.ct (.bool k0.ctn) k0.sp (.bool k0.spn) k0.an (.bool k0.af) (.int k0.aw) k0.ev due1 k0.b (.bool k0.bn) k0.dn k0.hp (.bool k0.hn) k0.due = .row [.int 1, .bool true] := by
   refine (Hy I1 k0 N A (i := i) (by omega)).trans ?_
   rcases s1 with hr | ⟨i', gd, hr⟩
   ·subst hr;exact ih (i + 1) _ _ g (by omega) I1 hH
   ·obtain ⟨g', hg⟩ := hH.perf gd;rw [← hr] at hg;exact ih (i + 1) _ _ g' (by omega) I1 hg
  have NXT : CV A (.int (i : Nat)) (.int 0) N S C T m.nm m.st (.bool m.stn) m.ct (.bool m.ctn) m.sp (.bool m.spn) an3 (.bool af3) (.int aw3) (.bool ov3) ev3 (.bool en3) b3 (.bool m.bn) (.int now3) dn3 hp3 (.bool hn3) k0.nm k0.st (.bool k0.stn) k0.ct (.bool k0.ctn) k0.sp (.bool k0.spn) k0.an (.bool k0.af) (.int k0.aw) k0.ev due3 k0.b (.bool k0.bn) k0.dn k0.hp (.bool k0.hn) k0.due = .row [.int 1, .bool true] := by
   refine (Hy I3 k0 N A (i := i) (by omega)).trans ?_
   rcases s3 with ⟨_, i', _, gd, hr⟩ | ⟨_, hr, _⟩
   ·obtain ⟨g', hg⟩ := hH.perf gd;rw [← hr] at hg;exact ih (i + 1) _ _ g' (by omega) I3 hg
   ·subst hr;exact ih (i + 1) _ _ g (by omega) I3 hH
  have STAY : CV A (.int (i : Nat)) (.int 0) N S C T m.nm m.st (.bool m.stn) m.ct (.bool m.ctn) m.sp (.bool m.spn) m.an (.bool m.af) (.int m.aw) (.bool m.ov) m.ev (.bool m.en) m.b (.bool m.bn) (.int m.now) m.dn m.hp (.bool m.hn) k0.nm k0.st (.bool k0.stn) k0.ct (.bool k0.ctn) k0.sp (.bool k0.spn) k0.an (.bool k0.af) (.int k0.aw) k0.ev m.due k0.b (.bool k0.bn) k0.dn k0.hp (.bool k0.hn) k0.due = .row [.int 1, .bool true] :=
   (Hy h k0 N A (i := i) (by omega)).trans (ih (i + 1) m r g (by omega) (h.mono (by omega)) hH)
  rw [CAN, DO, RCV, NXT, STAY];cases decide ((cl A i 0).toInt = 0);rotate_left
  ·rfl
  cases decide ((cl A i 0).toInt = 1);rotate_left
  ·rfl
  cases decide ((cl A i 0).toInt = 2);rotate_left
  ·rfl
  cases decide ((cl A i 0).toInt = 3);rotate_left
  ·rfl
  cases decide ((cl A i 0).toInt = 4);rotate_left
  ·rfl
  cases decide ((cl A i 0).toInt = 7);rotate_left
  ·rfl
  cases decide ((cl A i 0).toInt = 5);rotate_left
  ·rfl
  cases decide ((cl A i 0).toInt = 6);rotate_left
  ·rfl
  simp only [cond_false];cases decide (ne = 0) <;> rfl
theorem law (hT : YA T) (so : VF S) (hC : ∀ i : Nat, i < len C → ∃ x, cl C i 1 = .int x) (hA : ∀ i : Nat, i < len A → (∃ x, cl A i 0 = .int x) ∧ (∃ x, cl A i 1 = .int x) ∧ (∃ x, cl A i 2 = .int x)) (n1 : Gx S) (n2 : Gx C) (n3 : Gx T) : WJ N S C T A = .row [.int 1, .bool true] := by
 have K : cond (decide ((sl (Jd) 0).toInt = 1)) (D.row [.int 1, (.bool true)]) (.row []) = .row [.int 1, (.bool true)] := by rw [JM]; rfl
 rw [ZH];rcases S9 N S C T with q | ⟨q, l1, l2, l3, l4⟩
 ·rw [q];exact K
 rw [q, ifT (by rfl), cF (by rfl)]
 by_cases a1 : 60 < (len A : Int)
 ·rw [ifT a1];exact K
 rw [ifF a1];have tI' : G3 T := fun i hi => ⟨(hT i hi).1, (hT i hi).2.1, (hT i hi).2.2.1, (hT i hi).2.2.2, by have := (l4 i hi).1; omega, by have := (l4 i hi).2; omega⟩
 by_cases e : JY N S C T = 0
 ·have rk : Rk S C T := Yk (by rw [← UF]; exact decide_eq_true e) hC tI' l2 (by omega)
  obtain ⟨m, r, p1, h, x1, x2, x3, x4, x5, x6, x7, x8, x9, x10⟩ := WY rk so n1 n2 n3 e;have P := Mu h x2 x3 x4 x5 x7 x8 hA (by omega) N (len A) 0 m r (fun _ => r) (by omega) h ⟨rfl, fun j hj => by rw [x8, CO] at hj; omega, rfl, rfl, rfl, Int.le_refl _⟩
  rw [x1, x2, x3, x4, x5] at P;rw [p1];exact P
 ·obtain ⟨i9, q9⟩ := Ws (v1 := S) (v2 := C) tI' (by omega) (by omega) (by omega) N
  have p1 : AX N S C T = .row [.int 2, .int (JY N S C T)] := by
   rw [WH, q9, ifT (by rfl), ifF (by exact e)]
   rfl
  rw [p1, ifF (W3 (by decide)), ifT (by rfl), ifF (by exact e)]
  exact K
end
end Mr

