/- What is proved: what the plain functions over data say, whose trees the text before writes out: the law MachineBegins answers true. Conditions: those that each theorem states. -/
import Derived.Test.YthkffgljlhjggaaGreatMachineBeginsPlainA
set_option linter.unusedVariables false
set_option linter.unusedSectionVars false
set_option linter.unusedSimpArgs false
namespace Mb
open Go Go.AE
def Dm (due dn : D) : Option Int → Prop
 | none => due.rows = []
 | some d => due.rows = [.row [.int 0, .int d]] ∧ dn.toBool = false
structure CK (due dn hp : D) (b : Bool) (o : Option Int) : Prop where
 dm : Dm due dn o
 wd : Wd hp 2
 al : EE hp
 nl : b = true → len hp = 0
 inn : ∀ d, o = some d → In2 hp d 0
theorem Ig {a k : D} (h : a.rows = []) : mIx [.int .i64] a k = -1 := by unfold mIx; rw [h]; rfl
theorem PC {a k : D} {d : Int} (h : a.rows = [.row [.int 0, .int d]]) : mIx [.int .i64] a (.row [k]) = if k.toInt = 0 then 0 else -1 := by
 unfold mIx;rw [h]
 show (match ((0 : Int) == k.toInt) && true with
  | true => ((0 : Nat) : Int)
  | false => -1) = _
 by_cases q : k.toInt = 0
 ·rw [if_pos q, q]; rfl
 ·rw [if_neg q]
  have : ((0 : Int) == k.toInt) = false := by
   cases e : ((0 : Int) == k.toInt) with
   | false => rfl
   | true => exact absurd (eq_of_beq e).symm q
  rw [this]; rfl
theorem Im {a : D} {d : Int} (h : a.rows = [.row [.int 0, .int d]]) : mIx [.int .i64] a (.row [.int 0]) = 0 := (PC h).trans (if_pos rfl)
theorem WN {a : D} {d t : Int} (h : a.rows = [.row [.int 0, .int d]]) (ht : t ≠ 0) : mIx [.int .i64] a (.row [.int t]) = -1 := (PC h).trans (if_neg ht)
theorem NE {a : D} {d : Int} (h : a.rows = [.row [.int 0, .int d]]) : cl a 0 1 = .int d := by
 unfold cl; rw [h]; rfl
theorem Lr {a : D} {d : Int} (h : a.rows = [.row [.int 0, .int d]]) : (J9 a 0).rows = [] := by
 show a.rows.eraseIdx 0 = [];rw [h]; rfl
section
variable [An]
variable {due dn : D}
theorem Ln {v0 : Int} (hd : due.rows = []) : ∀ (k : Nat) (hp : D) (b : Bool), len hp = k → k < 100000 → Wd hp 2 → EE hp → (b = true → len hp = 0) → ∃ hp', J4 (.int v0) dn hp (.bool b) due = .row [.int 1, .int 0, .int 0, .bool false, hp', .bool b] ∧ Wd hp' 2 ∧ EE hp' ∧ (b = true → len hp' = 0) ∧ len hp' ≤ k := by
 intro k
 induction k with
 | zero =>
  intro hp b hl hk w a n;rw [Va, ifF (by omega)]
  exact ⟨hp, rfl, w, a, n, by omega⟩
 | succ k ih =>
  intro hp b hl hk w a n;obtain ⟨h', q1, q2, q3, q4, _⟩ := UH (v0 := v0) (v1 := due) (v2 := dn) (b := b) w (by omega) (by omega)
  have hb : b = false := by
   cases b with
   | false => rfl
   | true => have := n rfl; omega
  obtain ⟨h2, r1, r2, r3, r4, r5⟩ := ih h' b (by omega) (by omega) q2 (q4 a) (fun c => by rw [hb] at c; cases c)
  rw [Va, ifT (by omega)]
  simp only [q1, Ig hd, AZ, AY, Ax, AK, decide_true, cond_true, r1];refine ⟨h2, ?_, r2, r3, r4, by omega⟩
  cases dn.toBool <;> rfl
theorem RA {v0 d : Int} (hd : due.rows = [.row [.int 0, .int d]]) (hn : dn.toBool = false) : ∀ (k : Nat) (hp : D) (b : Bool), len hp = k → k < 100000 → Wd hp 2 → EE hp → (b = true → len hp = 0) → In2 hp d 0 → ∃ hp', J4 (.int v0) dn hp (.bool b) due = .row [.int 1, .int d, .int 0, .bool true, hp', .bool b] ∧ Wd hp' 2 ∧ EE hp' ∧ (b = true → len hp' = 0) ∧ len hp' ≤ k ∧ In2 hp' d 0 := by
 intro k
 induction k with
 | zero =>
  intro hp b hl hk w a n i;obtain ⟨j, j1, _⟩ := i;omega
 | succ k ih =>
  intro hp b hl hk w a n i;obtain ⟨h', q1, q2, q3, q4, q5⟩ := UH (v0 := v0) (v1 := due) (v2 := dn) (b := b) w (by omega) (by omega)
  have hb : b = false := by
   cases b with
   | false => rfl
   | true => have := n rfl; omega
  obtain ⟨x, t, ex, et⟩ := a 0 (by omega)
  have ex : cl hp 0 0 = .int x := ex;have et : cl hp 0 1 = .int t := et
  have step : ¬ (x = d ∧ t = 0) → ∃ hp', J4 (.int v0) dn h' (.bool b) due = .row [.int 1, .int d, .int 0, .bool true, hp', .bool b] ∧ Wd hp' 2 ∧ EE hp' ∧ (b = true → len hp' = 0) ∧ len hp' ≤ k + 1 ∧ In2 hp' d 0 := fun hne => by
   obtain ⟨h2, r1, r2, r3, r4, r5, r6⟩ := ih h' b (by omega) (by omega) q2 (q4 a) (fun c => by rw [hb] at c; cases c) (q5 d 0 i (fun c => by
    rw [ex, et] at c;exact hne c))
   exact ⟨h2, r1, r2, r3, r4, by omega, r6⟩
  rw [Va, ifT (by omega), hn]
  simp only [q1, et, ex, AZ, AY, Ax, AK, decide_true, cond_true, cond_false];by_cases c : t = 0
  ·subst c;rw [Im hd, ifF (by omega), NE hd]
   simp only [Ax];by_cases e : d = x
   ·subst e;simp only [eq_self, decide_true, cond_true];exact ⟨hp, rfl, w, a, n, by omega, i⟩
   ·simp only [e, decide_false, cond_false];exact step (fun c => e c.1.symm)
  ·rw [WN hd c, ifT (by omega)]
   exact step (fun e => c e.2)
theorem CK.none_of {hp : D} {b : Bool} {o : Option Int} (h : CK due dn hp b o) {due' : D} (hd : due'.rows = []) (dn' : D) : CK due' dn' hp b none := ⟨hd, h.wd, h.al, h.nl, fun d c => by cases c⟩
theorem Vo {hp : D} {b : Bool} {o : Option Int} {now t : Int} (h : CK due dn hp b o) (hl : len hp < 100000) (h0 : now ≤ t) (h1 : t ≤ 1099511627776) :
  ∃ (out : D) (on : Bool) (hp' due' : D), JY (.int now) due dn hp (.bool b) (.int t) = .row [.int 1, out, .bool on, .int 0, .int t, hp', .bool b, due'] ∧ len hp' ≤ len hp ∧
   ((∃ d, o = some d ∧ d ≤ t ∧ decide (0 < (len out : Int)) = true ∧ CK due' dn hp' b none) ∨ ((∀ d, o = some d → t < d) ∧ decide (0 < (len out : Int)) = false ∧ CK due' dn hp' b o)) := by
 have F : ∀ {x : D}, (∃ r, By (.int t) due dn hp (.bool b) = r ∧ cond (decide ((sl r 0).toInt = 1)) (LV Ar (.bool true) (sl r 3) (.int t) dn (sl r 4) (sl r 5) due (sl r 1) (sl r 2)) (.row []) = x) → JY (.int now) due dn hp (.bool b) (.int t) = x := by
  intro x hx;obtain ⟨r, r1, r2⟩ := hx;rw [bO, ifF (by omega)]
  by_cases c : now < t
  ·rw [ifT c, r1]; exact r2
  ·have : now = t := by omega
   subst this;rw [ifF c, r1]; exact r2
 cases o with
 | none =>
  obtain ⟨h2, r1, r2, r3, r4, r5⟩ := Ln (dn := dn) (v0 := t) h.dm (len hp) hp b rfl hl h.wd h.al h.nl;refine ⟨Ar, true, h2, due, F ⟨_, (S5 ..).trans r1, ?_⟩, r5, .inr ⟨(fun d c => by cases c), rfl, h.dm, r2, r3, r4, (fun d c => by cases c)⟩⟩
  simp only [AZ, AY, Ax, decide_true, cond_true];rw [Sw]; rfl
 | some d =>
  obtain ⟨h2, r1, r2, r3, r4, r5, r6⟩ := RA (v0 := t) h.dm.1 h.dm.2 (len hp) hp b rfl hl h.wd h.al h.nl (h.inn d rfl);by_cases c : t < d
  ·refine ⟨Ar, true, h2, due, F ⟨_, (S5 ..).trans r1, ?_⟩, r5, .inr ⟨(fun d' c' => (by cases c'; exact c)), rfl, h.dm, r2, r3, r4, (fun d' c' => (by cases c'; exact r6))⟩⟩
   simp only [AZ, AY, Ax, decide_true, cond_true];rw [Sw, cT rfl, ifT c]
  ·obtain ⟨h3, s1, s2, s3, s4, s5⟩ := Ln (due := J9 due 0) (dn := dn) (v0 := t) (Lr h.dm.1) (len h2) h2 b rfl (by omega) r2 r3 r4
   refine ⟨ad Ar (.row [.int 0]), false, h3, J9 due 0, F ⟨_, (S5 ..).trans r1, ?_⟩, by omega, .inl ⟨d, rfl, by omega, by rw [B7]; exact decide_eq_true (by omega), Lr h.dm.1, s2, s3, s4, (fun d' c' => by cases c')⟩⟩
   simp only [AZ, AY, Ax, decide_true, cond_true];rw [Sw, cT rfl, ifF c, ifT (by rw [BI]; omega), h.dm.2]
   simp only [Im h.dm.1, cond_false];rw [ifF (by omega), S5, s1]
   simp only [AZ, AY, Ax, decide_true, cond_true];rw [Sw]; rfl
theorem Yk {hp : D} {b : Bool} {o : Option Int} {now : Int} (h : CK due dn hp b o) : ∃ (e : Int) (due' : D), Iz (.int now) due dn hp (.bool b) (.int 0) = .row [.int 1, .int e, due'] ∧ CK due' dn hp b none := by
 cases o with
 | none =>
  have hz : due.rows = [] := h.dm
  have g : Hg (.int now) due dn hp (.bool b) (.int 0) = .row [.int 1, .int 0, .int 9] := by
   rw [VM, ifF (by omega), ifT (by omega), Ig hz]
   cases dn.toBool
   ·rw [cF rfl, ifT (by omega)]
   ·rfl
  refine ⟨9, due, ?_, h.none_of hz dn⟩;rw [YA, g];rfl
 | some d =>
  have hd := h.dm.1
  have g : Hg (.int now) due dn hp (.bool b) (.int 0) = .row [.int 1, .int (IntKind.wrap .i64 (d - now)), .int 0] := by
   rw [VM, ifF (by omega), ifT (by omega), h.dm.2, cF rfl]
   simp only [Im hd];rw [NE hd]; rfl
  refine ⟨0, J9 due 0, ?_, h.none_of (Lr hd) dn⟩;rw [YA, g, h.dm.2, Im hd];rfl
theorem UG {hp : D} {b : Bool} {now w : Int} (h : CK due dn hp b none) (hl : len hp < 1000) (n0 : 0 ≤ now) (n1 : now ≤ 1099511627776) (w0 : 0 ≤ w) (w1 : w ≤ 1048576) :
  ∃ (e : Int) (dn' hp' due' : D) (b' : Bool), Mi (.int now) due dn hp (.bool b) (.int 0) (.int w) = .row [.int 1, .int e, dn', hp', .bool b', due'] ∧ len hp' ≤ len hp + 1 ∧
   CK due' dn' hp' b' (if now + w ≤ 1099511627776 then some (now + w) else none) := by
 rw [k7, ifF (by omega), ifT (by omega), ifF (by omega), AJ (by omega) (by omega)]
 by_cases c : 1099511627776 - now < w
 ·rw [ifT c, if_neg (by omega)]
  exact ⟨3, dn, hp, due, b, rfl, by omega, h⟩
 rw [ifF c, if_pos (by omega), AJ (by omega) (by omega), Ig (show due.rows = [] from h.dm)]
 have R : ∀ (due0 dn0 dn1 : D), due0.rows = [] → dn1.toBool = false → ∃ (e : Int) (dn' hp' due' : D) (b' : Bool), cond (decide ((sl (ET (.int now) (ad due0 (.row [.int 0, .int (now + w)])) dn0 hp (.bool b) (.int (now + w)) (.int 0)) 0).toInt = 1))
   (D.row [.int 1, .int 0, dn1, sl (ET (.int now) (ad due0 (.row [.int 0, .int (now + w)])) dn0 hp (.bool b) (.int (now + w)) (.int 0)) 1, sl (ET (.int now) (ad due0 (.row [.int 0, .int (now + w)])) dn0 hp (.bool b) (.int (now + w)) (.int 0)) 2, ad due0 (D.row [.int 0, .int (now + w)])]) (D.row []) = D.row [.int 1, .int e, dn', hp', .bool b', due'] ∧ len hp' ≤ len hp + 1 ∧ CK due' dn' hp' b' (some (now + w)) := by
  intro due0 dn0 dn1 h0 h1;obtain ⟨h', r1, r2, r3, r4, r5, r6⟩ := ZR (t := now) (x := now + w) (y := 0) (v1 := ad due0 (.row [.int 0, .int (now + w)])) (v2 := dn0) (b := b) h.wd hl;simp only [r1, AZ, AY, Ax, decide_true, cond_true];refine ⟨0, dn1, h', _, false, rfl, by omega, ⟨?_, h1⟩, r2, r4 h.al, fun c => (by cases c), fun d c => by cases c; exact r6⟩
  show due0.rows ++ [_] = _;rw [h0]; rfl
 cases hd : dn.toBool
 ·rw [cF rfl, ifT (by omega)]
  exact R due dn dn h.dm hd
 ·rw [cT rfl];exact R Ac (.bool false) (.bool false) rfl rfl
theorem RX {hp : D} {b : Bool} {o : Option Int} {now : Int} (h : CK due dn hp b o) (hl : len hp < 1000) :
  ∃ (dn' hp' due' : D) (b' : Bool), Gi (.int now) due dn hp (.bool b) = .row [.int 1, .int now, dn', hp', .bool b', due'] ∧ len hp' = len hp ∧ CK due' dn' hp' b' o := by
 have g : ∃ (hp' : D) (b' : Bool), JS hp (.bool b) = .row [.int 1, hp', .bool b'] ∧ len hp' = len hp ∧ Wd hp' 2 ∧ EE hp' ∧ (b' = true → len hp' = 0) ∧ ∀ x y, In2 hp x y → In2 hp' x y := by
  rw [il];cases b with
  | true =>
   have n := h.nl rfl;exact ⟨Ar, true, rfl, by rw [n]; rfl, H5, fun j hj => by rw [BI] at hj; omega, fun _ => rfl, fun x y ⟨j, hj, _⟩ => by omega⟩
  | false =>
   rw [cF rfl, ifT (by omega)]
   exact ⟨ct Ac hp, false, rfl, rfl, h.wd, h.al, (fun c => by cases c), fun x y q => q⟩
 obtain ⟨hp', b', g1, g2, g3, g4, g5, g6⟩ := g;rw [gd];simp only [g1, AZ, AY, Ax, decide_true, cond_true];cases hd : dn.toBool
 ·exact ⟨.bool false, hp', due, b', rfl, g2, by
   cases o with
   | none => exact h.dm
   | some d => exact ⟨h.dm.1, rfl⟩, g3, g4, g5, fun d c => g6 _ _ (h.inn d c)⟩
 ·refine ⟨.bool true, hp', Ac, b', rfl, g2, ?_, g3, g4, g5, fun d c => g6 _ _ (h.inn d c)⟩
  cases o with
  | none => rfl
  | some d => have := h.dm.2; rw [hd] at this; cases this
end
end Mb
namespace Mb
open Go Go.AE
structure MS where
 b : D
 bn : Bool
 nm : D
 st : D
 stn : Bool
 ct : D
 ctn : Bool
 sp : D
 spn : Bool
 an : D
 af : Bool
 aw : Int
 now : Int
 due : D
 dn : D
 hp : D
 hn : Bool
 ov : Bool
 ev : D
 en : Bool
structure RS where
 at' : D
 ent : Int
 defs : D
 vals : D
 time : Int
 evs : D
structure Bk (b C V : D) : Prop where
 lb : len b = len C
 lv : len V = len C
 wb : Wd b 3
 wv : Wd V 1
 nm : ∀ j : Nat, j < len C → cl b j 0 = cl C j 0
 lm : ∀ j : Nat, j < len C → cl b j 1 = cl C j 1
 vl : ∀ j : Nat, j < len C → ∃ n, cl b j 2 = .int n ∧ cl V j 0 = .int n ∧ 0 ≤ n ∧ n ≤ (cl C j 1).toInt
structure Df (d C : D) : Prop where
 ld : len d = len C
 nm : ∀ j : Nat, j < len C → cl d j 0 = cl C j 0
 lm : ∀ j : Nat, j < len C → cl d j 1 = cl C j 1
theorem Ib {a c : D} (hl : len a = len c) (h : ∀ j : Nat, j < len c → cl a j 0 = cl c j 0) (key : D) : fd a key = fd c key := by
 unfold fd;rw [hl];exact IV fun j _ hj => by rw [h j (by omega)]
theorem Ue {a x y : D} (h : D.strEq x y = true) : fd a x = fd a y := by
 unfold fd
 exact IV fun j _ _ => by
  rw [BE (a := cl a j 0) (b := x), BE (a := cl a j 0) (b := y)];exact IB h
theorem Jo {a key : D} (h : 0 ≤ fd a key) : (((fd a key).toNat : Nat) : Int) = fd a key ∧ (fd a key).toNat < len a := by
 have := H7 (l := a) (key := key);omega
def alw (C V T : D) (k : Nat) : Bool := eqC (cl T k 5) 0 0 || (!decide ((cl V (fd C (cl T k 5)) 0).toInt < (cl T k 6).toInt) && !decide ((cl T k 7).toInt < (cl V (fd C (cl T k 5)) 0).toInt))
def Dz (C V T an : D) (late : Bool) (k : Nat) : Bool := D.strEq (cl T k 0) an && (alw C V T k && (!decide ((cl T k 2).toInt = 3) || late))
section
variable [An]
variable {S C T V b d : D} {bn : Bool}
theorem NZ (hn : len b < 1000) (key : D) : DS b (.bool bn) key = .row [.int 1, .int (fd b key)] := (gE ..).trans (Dr (F := fun i => SN b (.bool bn) (.int i) key) (by omega) fun i => dp ..)
theorem Wm (hn : len d < 1000) (V key : D) : D5 d V key = .row [.int 1, .int (fd d key)] := (lD ..).trans (Dr (F := fun i => R5 key (.int i) d V) (by omega) fun i => gP ..)
theorem U7 (hn : len b < 1000) {key : D} (h : 0 ≤ fd b key) : Gg b (.bool bn) key = .row [.int 1, cl b (fd b key) 2, .int 0] := by
 have := H7 (l := b) (key := key);rw [lB];simp only [NZ hn, AZ, AY, Ax, decide_true, cond_true];rw [ifF (by omega), ifT this]
theorem OB (hn : len S < 1000) (N C T : D) {key : D} (h : 0 ≤ fd S key) : Fv N S C T key = .row [.int 1, cl S (fd S key) 0, cl S (fd S key) 1, cl S (fd S key) 2] := by
 rw [YX]
 have L := Ki (F := fun j => Hk key (.int (j : Nat)) N S C T) (n := len S) (bad := fun j => D.strEq (cl S j 0) key) (B := fun j => .row [.int 1, cl S j 0, cl S j 1, cl S j 2]) fun j hj => by
  show Hk key (.int (j : Nat)) N S C T = cond _ _ (Hk key (.int (j + 1 : Nat)) N S C T);rw [UW, ifT (by omega), ifF (by omega), Bp (by omega)]
 have h' : ¬ fdG (fun j => D.strEq (cl S j 0) key) (len S) 0 < 0 := by unfold fd at h; omega
 rw [ifF h'] at L;have e : (((fdG (fun j => D.strEq (cl S j 0) key) (len S) 0).toNat : Nat) : Int) = fd S key := by unfold fd; omega
 rw [e] at L;exact L
theorem NX (rk : Rk S C T) (hb : Bk b C V) {k : Nat} (hk : k < len T) : Gh b (.bool bn) (cl T k 0) (cl T k 1) (cl T k 2) (cl T k 3) (cl T k 4) (cl T k 5) (cl T k 6) (cl T k 7) (cl T k 8) = .row [.int 1, .bool (alw C V T k), .int 0] := by
 obtain ⟨⟨n2, h2⟩, ⟨n6, h6⟩, ⟨n7, h7⟩, ⟨n8, h8⟩, _⟩ := rk.tI k hk;have c1 := rk.c1;have lb := hb.lb;have ef := Ib hb.lb hb.nm (cl T k 5);unfold alw;rw [h2, h6, h7, h8, j5];rcases rk.ctr k hk with ⟨q, _⟩ | ⟨q, q0, q1, q2, q3, q4, q5, q6, q7⟩
 ·rw [cT q, q]; rfl
 rw [cF q, q];rw [h6, h7, h8] at *;simp only [Ax] at *;obtain ⟨g1, g2⟩ := Jo q0;obtain ⟨n, v1, v2, v3, v4⟩ := hb.vl _ g2;have lim := rk.lim _ g2;have lm := hb.lm _ g2;rw [g1] at v1 v2 v4 lim lm;simp only [U7 (b := b) (by omega) (by omega : 0 ≤ fd b (cl T k 5)), NZ (b := b) (by omega), ef, v1, v2, lm, AZ, AY, Ax, AK, decide_true, cond_true, Bool.false_or]
 rw [ifF (by omega), ifT (by omega)]
 by_cases a1 : n < n6
 ·rw [ifT a1, decide_eq_true a1]; rfl
 rw [ifF a1, decide_eq_false a1];by_cases a2 : n7 < n
 ·rw [ifT a2, decide_eq_true a2]; rfl
 rw [ifF a2, decide_eq_false a2, AJ (by omega) (by omega), ifF (by omega), AJ (by omega) (by omega), decide_eq_false (by omega)]
 rfl
theorem Us (rk : Rk S C T) (hb : Bk b C V) (hd : Df d C) {k : Nat} (hk : k < len T) : JJ d V (cl T k 0) (cl T k 1) (cl T k 2) (cl T k 3) (cl T k 4) (cl T k 5) (cl T k 6) (cl T k 7) (cl T k 8) = .row [.int 1, .bool (alw C V T k), .int 0] := by
 obtain ⟨⟨n2, h2⟩, ⟨n6, h6⟩, ⟨n7, h7⟩, ⟨n8, h8⟩, _⟩ := rk.tI k hk;have c1 := rk.c1;have ld := hd.ld;have lv := hb.lv;have ef := Ib hd.ld hd.nm (cl T k 5);unfold alw;rw [h2, h6, h7, h8, gA];rcases rk.ctr k hk with ⟨q, _⟩ | ⟨q, q0, q1, q2, q3, q4, q5, q6, q7⟩
 ·rw [cT q, q]; rfl
 rw [cF q, q];rw [h6, h7, h8] at *;simp only [Ax] at *;obtain ⟨g1, g2⟩ := Jo q0;obtain ⟨n, v1, v2, v3, v4⟩ := hb.vl _ g2;have lim := rk.lim _ g2;have lm := hd.lm _ g2;rw [g1] at v1 v2 v4 lim lm;simp only [Wm (d := d) (by omega), ef, v2, lm, AZ, AY, Ax, AK, decide_true, cond_true, Bool.false_or]
 rw [ifF (by omega), ifT (by omega), ifT (by omega)]
 by_cases a1 : n < n6
 ·rw [ifT a1, decide_eq_true a1]; rfl
 rw [ifF a1, decide_eq_false a1];by_cases a2 : n7 < n
 ·rw [ifT a2, decide_eq_true a2]; rfl
 rw [ifF a2, decide_eq_false a2, ifF (by omega), ifF (by omega), AJ (by omega) (by omega), ifF (by omega), ifF (by omega)]
 rfl
theorem ZU (rk : Rk S C T) (hb : Bk b C V) {k : Nat} (hk : k < len T) (nm st ct sp an due dn hp ev : D) (stn ctn spn af hn ov en late : Bool) (aw now : Int) : Sj b (.bool bn) nm st (.bool stn) ct (.bool ctn) sp (.bool spn) an (.bool af) (.int aw) (.int now) due dn hp (.bool hn) (.bool ov) ev (.bool en) (.bool late) (cl T k 0) (cl T k 1) (cl T k 2) (cl T k 3) (cl T k 4) (cl T k 5) (cl T k 6) (cl T k 7) (cl T k 8) = .row [.int 1, .bool (Dz C V T an late k)] := by
 obtain ⟨⟨n2, h2⟩, ⟨n6, h6⟩, ⟨n7, h7⟩, ⟨n8, h8⟩, _⟩ := rk.tI k hk;have A := NX (bn := bn) rk hb hk;unfold Dz;rw [h2, h6, h7, h8] at *;rw [hI, RV, ifT (by omega), ifT rfl]
 cases D.strEq (cl T k 0) an
 ·rfl
 rw [cT rfl, w1, RV, ifT (by omega), ifF (by omega), ifT rfl, A]
 simp only [AZ, AY, Ax, AK, decide_true, cond_true, Bool.true_and];cases alw C V T k
 ·rfl
 rw [cT rfl, w2, RV, ifT (by omega), ifF (by omega), ifF (by omega), ifT rfl]
 have fin : ∀ x : Int, x = 3 → Lm (.int x) nm st (.bool stn) ct (.bool ctn) sp (.bool spn) an (.bool af) (.int aw) (.bool ov) ev (.bool en) b (.bool bn) (.int now) dn hp (.bool hn) due (cl T k 0) (cl T k 1) (.int n2) (cl T k 3) (cl T k 4) (cl T k 5) (.int n6) (.int n7) (.int n8) (.bool late) = .row [.int 1, .bool true] := fun x hx => by subst hx; rw [RV, ifF (by omega)]
 by_cases q : n2 = 3
 ·subst q;rw [ifT rfl];cases late
  ·rfl
  ·rw [cT rfl]; exact fin _ rfl
 ·rw [ifF q];simp only [q, decide_false, Bool.not_false, Bool.true_or, Bool.and_true];exact fin _ rfl
theorem ZZ (rk : Rk S C T) (hb : Bk b C V) {k : Nat} (hk : k < len T) (nm st ct sp an due dn hp ev : D) (stn ctn spn af hn ov en late : Bool) (aw now : Int) : Sx b (.bool bn) nm st (.bool stn) ct (.bool ctn) sp (.bool spn) an (.bool af) (.int aw) (.int now) due dn hp (.bool hn) (.bool ov) ev (.bool en) (.bool late) (cl T k 0) (cl T k 1) (cl T k 2) (cl T k 3) (cl T k 4) (cl T k 5) (cl T k 6) (cl T k 7) (cl T k 8) = .row [.int 1, .bool (Dz C V T an late k)] := by
 obtain ⟨⟨n2, h2⟩, ⟨n6, h6⟩, ⟨n7, h7⟩, ⟨n8, h8⟩, _⟩ := rk.tI k hk;have A := NX (bn := bn) rk hb hk;unfold Dz;rw [h2, h6, h7, h8] at *;rw [cw, Sl, ifT (by omega), ifT rfl]
 cases D.strEq (cl T k 0) an
 ·rfl
 rw [cT rfl, w1, Sl, ifT (by omega), ifF (by omega), ifT rfl, A]
 simp only [AZ, AY, Ax, AK, decide_true, cond_true, Bool.true_and];cases alw C V T k
 ·rfl
 rw [cT rfl, w2, Sl, ifT (by omega), ifF (by omega), ifF (by omega), ifT rfl]
 have fin : ∀ x : Int, x = 3 → LO (.int x) nm st (.bool stn) ct (.bool ctn) sp (.bool spn) an (.bool af) (.int aw) (.bool ov) ev (.bool en) b (.bool bn) (.int now) dn hp (.bool hn) due (cl T k 0) (cl T k 1) (.int n2) (cl T k 3) (cl T k 4) (cl T k 5) (.int n6) (.int n7) (.int n8) (.bool late) = .row [.int 1, .bool true] := fun x hx => by subst hx; rw [Sl, ifF (by omega)]
 by_cases q : n2 = 3
 ·subst q;rw [ifT rfl];cases late
  ·rfl
  ·rw [cT rfl]; exact fin _ rfl
 ·rw [ifF q];simp only [q, decide_false, Bool.not_false, Bool.true_or, Bool.and_true];exact fin _ rfl
theorem U8 (rk : Rk S C T) (hb : Bk b C V) {k : Nat} (hk : k < len T) (nm st ct sp an due dn hp ev due2 dn2 hp2 : D) (stn ctn spn af hn ov en hn2 late : Bool) (aw now now2 : Int) : Md b (.bool bn) nm st (.bool stn) ct (.bool ctn) sp (.bool spn) an (.bool af) (.int aw) (.int now) due dn hp (.bool hn) (.bool ov) ev (.bool en) (.int now2) due2 dn2 hp2 (.bool hn2) (.bool late) (cl T k 0) (cl T k 1) (cl T k 2) (cl T k 3) (cl T k 4) (cl T k 5) (cl T k 6) (cl T k 7) (cl T k 8) = .row [.int 1, .bool (Dz C V T an late k)] := by
 obtain ⟨⟨n2, h2⟩, ⟨n6, h6⟩, ⟨n7, h7⟩, ⟨n8, h8⟩, _⟩ := rk.tI k hk;have A := NX (bn := bn) rk hb hk;unfold Dz;rw [h2, h6, h7, h8] at *;rw [g7, R8, ifT (by omega), ifT rfl]
 cases D.strEq (cl T k 0) an
 ·rfl
 rw [cT rfl, w1, R8, ifT (by omega), ifF (by omega), ifT rfl, A]
 simp only [AZ, AY, Ax, AK, decide_true, cond_true, Bool.true_and];cases alw C V T k
 ·rfl
 rw [cT rfl, w2, R8, ifT (by omega), ifF (by omega), ifF (by omega), ifT rfl]
 have fin : ∀ x : Int, x = 3 → Mc (.int x) nm st (.bool stn) ct (.bool ctn) sp (.bool spn) an (.bool af) (.int aw) (.bool ov) ev (.bool en) b (.bool bn) (.int now) dn hp (.bool hn) due (.int now2) dn2 hp2 (.bool hn2) due2 (cl T k 0) (cl T k 1) (.int n2) (cl T k 3) (cl T k 4) (cl T k 5) (.int n6) (.int n7) (.int n8) (.bool late) = .row [.int 1, .bool true] := fun x hx => by subst hx; rw [R8, ifF (by omega)]
 by_cases q : n2 = 3
 ·subst q;rw [ifT rfl];cases late
  ·rfl
  ·rw [cT rfl]; exact fin _ rfl
 ·rw [ifF q];simp only [q, decide_false, Bool.not_false, Bool.true_or, Bool.and_true];exact fin _ rfl
end
end Mb
namespace Mb
open Go Go.AE
structure TI (ov : Bool) (o : Option Int) (ent w time : Int) : Prop where
 w0 : 0 ≤ w
 w1 : w ≤ 1048576
 e0 : 0 ≤ ent
 e1 : ent ≤ time
 t1 : time ≤ 1099511627776
 on : ov = true → 0 < w ∧ ent + w ≤ time ∧ o = none
 off : ov = false → 0 < w → (ent + w ≤ 1099511627776 ∧ o = some (ent + w) ∧ time < ent + w) ∨ (1099511627776 < ent + w ∧ o = none)
 z : w = 0 → ov = false ∧ o = none
def WK (S : D) : Prop := ∀ i : Nat, i < len S → ∃ b w, cl S i 1 = .bool b ∧ cl S i 2 = .int w
structure Inv (S C T : D) (n : Nat) (m : MS) (r : RS) : Prop where
 rk : Rk S C T
 so : WK S
 st : m.st.rows = S.rows
 ct : m.ct.rows = C.rows
 sp : m.sp.rows = T.rows
 spn : m.spn = true → T.rows = []
 bk : Bk m.b C r.vals
 bn : m.bn = true → len C = 0
 df : Df r.defs C
 at0 : 0 ≤ fd S r.at'
 an : D.strEq m.an r.at' = true
 af : cl S (fd S r.at') 1 = .bool m.af
 aw : cl S (fd S r.at') 2 = .int m.aw
 nt : m.now = r.time
 o : ∃ o, CK m.due m.dn m.hp m.hn o ∧ TI m.ov o r.ent m.aw r.time
 hl : len m.hp ≤ n
 el : len m.ev = len r.evs
 ee : ∀ j : Nat, j < len r.evs → (cl m.ev j 0).toInt = (cl r.evs j 0).toInt ∧ (cl m.ev j 1).toInt = (cl r.evs j 1).toInt
 en : m.en = true → len m.ev = 0
 el' : len r.evs ≤ n
theorem BX {x : D} {l : List D} : sl (.row (x :: l)) 0 = x := by cases l <;> exact AZ
theorem BY {x : D} {l : List D} {n : Nat} : sl (.row (x :: l)) (n + 1) = sl (.row l) n := by cases l <;> exact AY
theorem tI {n : Int} : (D.int n).toInt = n := by cases n <;> exact Ax
theorem tB {b : Bool} : (D.bool b).toBool = b := by cases b <;> exact AK
theorem iT {α : Type} {p : Prop} {i : Decidable p} {a b : α} (h : p) : cond (@decide p i) a b = a := by rw [decide_eq_true h]; rfl
theorem iF {α : Type} {p : Prop} {i : Decidable p} {a b : α} (h : ¬ p) : cond (@decide p i) a b = b := by rw [decide_eq_false h]; rfl
theorem Ba {a b : D} (h : a.rows = b.rows) : len a = len b := congrArg List.length h
theorem FI {a b : D} (h : a.rows = b.rows) (i : Int) (j : Nat) : cl a i j = cl b i j := by unfold cl; rw [h]
section
variable [An]
variable {S C T N : D} {n : Nat} {m : MS} {r : RS}
theorem KE (h : Inv S C T n m r) (N : D) (tm : Int) (ev : D) {now : Int} (n0 : 0 ≤ now) (n1 : now ≤ 1099511627776) {k : Nat} (hk : k < len T) : Hp N S C T r.at' (.int r.ent) r.defs r.vals (.int tm) ev (.int now) (.int k) = .row [.int 1, .bool (Dz C r.vals T r.at' (!decide (now - r.ent < m.aw)) k)] := by
 obtain ⟨o, ck, ti⟩ := h.o;have := ti.e0;have := ti.e1;have := ti.t1;have A := Us h.rk h.bk h.df hk;have B := OB (by have := h.rk.s1; omega) N C T h.at0
 unfold Dz;rw [fu, ifF (by omega), ifT (by omega), A, B, h.aw, AJ (by omega) (by omega)]
 simp only [BX, BY, tI, tB, decide_true, cond_true];cases D.strEq (cl T k 0) r.at'
 ·rfl
 cases alw C r.vals T k
 ·rfl
 cases decide ((cl T k 2).toInt = 3) <;> rfl
theorem K5 (h : Inv S C T n m r) {late : Bool} {t : Int} (hl : 0 < m.aw → late = !decide (t - r.ent < m.aw)) {k : Nat} (hk : k < len T) : Dz C r.vals T m.an late k = Dz C r.vals T r.at' (!decide (t - r.ent < m.aw)) k := by
 unfold Dz
 have e : D.strEq (cl T k 0) m.an = D.strEq (cl T k 0) r.at' := by
  rw [BE (a := cl T k 0) (b := m.an), BE (a := cl T k 0) (b := r.at')];exact IB h.an
 rw [e];cases q : D.strEq (cl T k 0) r.at'
 ·rfl
 by_cases c : (cl T k 2).toInt = 3
 ·have w := h.rk.tmo k hk c;rw [Ue q, h.aw] at w;rw [hl w]
 ·simp only [c, decide_false, Bool.not_false, Bool.true_or]
def Gj (C V T an : D) (k : Nat) : Bool := decide ((cl T k 2).toInt = 3) && Dz C V T an true k
theorem Vm (h : Inv S C T n m r) : ∀ (k j : Nat) (out : D) (ob : Bool), j + k = len T → len out ≤ j → ∃ out' ob', Nb out (.bool ob) m.sp (.bool m.spn) (.int j) (.bool true) m.nm m.st (.bool m.stn) m.ct (.bool m.ctn) (.bool m.spn) m.an (.bool m.af) (.int m.aw) (.bool m.ov) m.ev (.bool m.en) m.b (.bool m.bn) (.int m.now) m.dn m.hp (.bool m.hn) m.due = .row [.int 1, out', .bool ob'] ∧ (len out' = 0 ↔ len out = 0 ∧ fdG (Gj C r.vals T m.an) k j < 0) := by
 intro k
 induction k with
 | zero =>
  intro j out ob hj hl;rw [YN, ifF (by rw [Ba h.sp]; omega)]
  refine ⟨out, ob, rfl, ?_⟩;have : fdG (Gj C r.vals T m.an) 0 j < 0 := by unfold fdG; omega
  exact ⟨fun q => ⟨q, this⟩, fun q => q.1⟩
 | succ k ih =>
  intro j out ob hj hl;have tl := h.rk.t1;have A := ZU (bn := m.bn) h.rk h.bk (k := j) (by omega) m.nm m.st m.ct m.sp m.an m.due m.dn m.hp m.ev m.stn m.ctn m.spn m.af m.hn m.ov m.en true m.aw m.now
  have F : fdG (Gj C r.vals T m.an) (k + 1) j = cond (Gj C r.vals T m.an j) (j : Int) (fdG (Gj C r.vals T m.an) k (j + 1)) := rfl;rw [YN, ifT (by rw [Ba h.sp]; omega), ifF (by omega)]
  simp only [FI h.sp];rw [A, F, Bp (by omega)]
  simp only [BX, BY, tI, tB, decide_true, cond_true];unfold Gj;have N := ih (j + 1) out ob (by omega) (by omega)
  by_cases c : (cl T j 2).toInt = 3
  ·rw [ifT c, decide_eq_true c];simp only [Bool.true_and];cases Dz C r.vals T m.an true j
   ·exact N
   ·rw [cT rfl, cT rfl, ifT (by omega)]
    obtain ⟨o2, b2, q1, q2⟩ := ih (j + 1) (ad out (.row [cl T j 0, cl T j 1, cl T j 2, cl T j 3, cl T j 4, cl T j 5, cl T j 6, cl T j 7, cl T j 8])) false (by omega) (by rw [B7]; omega)
    refine ⟨o2, b2, q1, ⟨fun z => ?_, fun z => ?_⟩⟩
    ·have := (q2.1 z).1;rw [B7] at this;omega
    ·exact absurd z.2 (by omega)
  ·rw [ifF c, decide_eq_false c];exact N
theorem SS (h : Inv S C T n m r) (N : D) : ∃ a e : Int, Pa m.b (.bool m.bn) m.nm m.st (.bool m.stn) m.ct (.bool m.ctn) m.sp (.bool m.spn) m.an (.bool m.af) (.int m.aw) (.int m.now) m.due m.dn m.hp (.bool m.hn) (.bool m.ov) m.ev (.bool m.en) = .row [.int 1, .int a, .int e] ∧ KO N S C T r.at' (.int r.ent) r.defs r.vals (.int r.time) r.evs = .row [.int 1, .int a, .int e] ∧ (e = 0 → r.time ≤ a ∧ a ≤ 1099511627776) := by
 obtain ⟨o, ck, ti⟩ := h.o;have t0 := ti.e0;have t1 := ti.e1;have t2 := ti.t1;have t3 := ti.w0;have t4 := ti.w1;have nt := h.nt;have tl := h.rk.t1;obtain ⟨out, ob, g1, g2⟩ := Vm h (len T) 0 Ar true (by omega) (Nat.le_refl _)
 have g3 : RO m.sp (.bool m.spn) m.b (.bool m.bn) m.nm m.st (.bool m.stn) m.ct (.bool m.ctn) (.bool m.spn) m.an (.bool m.af) (.int m.aw) (.int m.now) m.due m.dn m.hp (.bool m.hn) (.bool m.ov) m.ev (.bool m.en) (.bool true) = .row [.int 1, out, .bool ob] := (kN ..).trans g1;have g4 : len out = 0 ↔ fdG (Gj C r.vals T m.an) (len T) 0 < 0 := ⟨fun z => (g2.1 z).2, fun z => g2.2 ⟨rfl, z⟩⟩
 have L : ∃ a e : Int, Hg (.int m.now) m.due m.dn m.hp (.bool m.hn) (.int 0) = .row [.int 1, .int a, .int e] ∧ ((o = none ∧ e = 9) ∨ (∃ d, o = some d ∧ e = 0 ∧ a = IntKind.wrap .i64 (d - m.now))) := by
  rw [VM, ifF (by omega), ifT (by omega)]
  cases o with
  | none =>
   rw [Ig (show m.due.rows = [] from ck.dm)]
   refine ⟨0, 9, ?_, .inl ⟨rfl, rfl⟩⟩;cases m.dn.toBool
   ·rw [cF rfl, ifT (by omega)]
   ·rfl
  | some d =>
   rw [ck.dm.2, cF rfl, Im ck.dm.1, ifF (by omega), NE ck.dm.1]
   exact ⟨_, 0, rfl, .inr ⟨d, rfl, rfl, rfl⟩⟩
 obtain ⟨la, le, l1, l2⟩ := L
 let at0 : Int := if r.ent + m.aw < r.time then r.time else r.ent + m.aw
 have hat : at0 = if r.ent + m.aw < r.time then r.time else r.ent + m.aw := rfl
 have D1 : KO N S C T r.at' (.int r.ent) r.defs r.vals (.int r.time) r.evs = H3 (.int at0) (.int (0 : Nat)) N S C T r.at' (.int r.ent) r.defs r.vals (.int r.time) r.evs := by
  have B := OB (by have := h.rk.s1; omega) N C T h.at0
  rw [jG, B, h.aw];simp only [BX, BY, tI, decide_true, cond_true];have W : IntKind.wrap .i64 (r.ent + m.aw) = r.ent + m.aw := AJ (by omega) (by omega)
  by_cases c : r.ent + m.aw < r.time
  ·rw [iT (by rw [W]; exact c), hat, if_pos c]; rfl
  ·rw [iF (by rw [W]; exact c), W, hat, if_neg c]; rfl
 have ge : r.ent + m.aw ≤ at0 := by rw [hat]; split <;> omega
 have ge2 : r.time ≤ at0 := by rw [hat]; split <;> omega
 have lt2 : at0 < 2199023255552 := by rw [hat]; split <;> omega
 have canE : ∀ j, j < len T → Dz C r.vals T r.at' (!decide (at0 - r.ent < m.aw)) j = Dz C r.vals T m.an true j := fun j hj => (K5 h (late := true) (t := at0) (fun _ => by rw [decide_eq_false (by omega)]; rfl) hj).symm
 have D2 : H3 (.int at0) (.int (0 : Nat)) N S C T r.at' (.int r.ent) r.defs r.vals (.int r.time) r.evs = if fdG (Gj C r.vals T m.an) (len T) 0 < 0 ∨ 1099511627776 < at0 then .row [.int 1, .int 0, .int 9] else .row [.int 1, .int at0, .int 0] := by
  have E : ∀ k j, j + k = len T → H3 (.int at0) (.int (j : Nat)) N S C T r.at' (.int r.ent) r.defs r.vals (.int r.time) r.evs = if fdG (Gj C r.vals T m.an) k j < 0 ∨ 1099511627776 < at0 then .row [.int 1, .int 0, .int 9] else .row [.int 1, .int at0, .int 0] := by
   intro k
   induction k with
   | zero =>
    intro j hj;rw [YI, ifF (by omega), if_pos (.inl (by unfold fdG; omega))]
   | succ k ih =>
    intro j hj;have F : fdG (Gj C r.vals T m.an) (k + 1) j = cond (Gj C r.vals T m.an j) (j : Int) (fdG (Gj C r.vals T m.an) k (j + 1)) := rfl;rw [YI, ifT (by omega), ifF (by omega), Bp (by omega), ih (j + 1) (by omega), F]
    unfold Gj;by_cases c : (cl T j 2).toInt = 3
    ·rw [ifT c, decide_eq_true c];simp only [Bool.true_and];by_cases d : 1099511627776 < at0
     ·rw [ifT d, if_pos (.inr d), if_pos (.inr d)]
     ·rw [ifF d, KE h N _ _ (by omega) (by omega) (by omega), canE j (by omega)]
      simp only [BX, BY, tI, tB, decide_true, cond_true];cases Dz C r.vals T m.an true j
      ·rfl
      ·rw [cT rfl, cT rfl, if_neg (by omega)]
    ·rw [ifF c, decide_eq_false c];rfl
  exact E (len T) 0 (by omega)
 rw [D1, D2, bS, l1, g3];simp only [BX, BY, tI, decide_true, cond_true];by_cases c : len out = 0
 ·rw [iT (by omega), if_pos (.inl (g4.1 c))]
  exact ⟨0, 9, rfl, rfl, fun q => by omega⟩
 rw [iF (by omega)]
 have nz : ¬ fdG (Gj C r.vals T m.an) (len T) 0 < 0 := fun z => c (g4.2 z)
 have wp : 0 < m.aw := by
  have i1 := Ok (p := Gj C r.vals T m.an) (k := len T) (i := 0) (by omega)
  have i2 := KR (p := Gj C r.vals T m.an) (k := len T) (i := 0);generalize hq : (fdG (Gj C r.vals T m.an) (len T) 0).toNat = q at i1;have qt : q < len T := by omega
  unfold Gj Dz at i1;simp only [Bool.and_eq_true] at i1;have g := h.rk.tmo q qt (dT i1.1);rw [Ue (Oc i1.2.1 h.an), h.aw] at g;exact g
 cases hov : m.ov with
 | true =>
  obtain ⟨_, o2, o3⟩ := ti.on hov;have : at0 = r.time := by rw [hat]; split <;> omega
  rw [cT rfl, if_neg (by omega), this, nt]
  exact ⟨_, 0, rfl, rfl, fun _ => ⟨by omega, by omega⟩⟩
 | false =>
  rw [cF rfl];rcases ti.off hov wp with ⟨o2, o3, o4⟩ | ⟨o2, o3⟩
  ·rcases l2 with ⟨q, _⟩ | ⟨d, q1, q2, q3⟩
   ·rw [q] at o3; cases o3
   rw [q1] at o3;cases o3;have : at0 = r.ent + m.aw := by rw [hat]; split <;> omega
   rw [q2, q3, if_neg (by omega), this, AJ (a := r.ent + m.aw - m.now) (by omega) (by omega), AJ (by omega) (by omega)]
   refine ⟨r.ent + m.aw, 0, ?_, rfl, fun _ => ⟨by omega, by omega⟩⟩
   rw [show m.now + (r.ent + m.aw - m.now) = r.ent + m.aw by omega]
   rfl
  ·rcases l2 with ⟨q1, q2⟩ | ⟨d, q, _⟩
   ·have : at0 = r.ent + m.aw := by rw [hat]; split <;> omega
    rw [q2, if_pos (.inr (by omega))]
    exact ⟨0, 9, rfl, rfl, fun q => by omega⟩
   ·rw [q] at o3; cases o3
end
end Mb
namespace Mb
open Go Go.AE
section
variable [An]
variable {S C T N : D} {n : Nat} {m : MS} {r : RS}
theorem ZF {l : D} {lb : Bool} (h : Inv S C T n m r) (hn : n < 1000) (N : D) (hl : len l = len r.evs) (he : ∀ j : Nat, j < len r.evs → (cl l j 0).toInt = (cl r.evs j 0).toInt ∧ (cl l j 1).toInt = (cl r.evs j 1).toInt) :
  P0 N S C T r.at' (.int r.ent) r.defs r.vals (.int r.time) r.evs (.bool false) (.int 0) l (.bool lb) = .row [.int 2, .int (len r.evs)] := by
 have E : ∀ k j, j + k = len r.evs → SU l (.bool lb) (.int (j : Nat)) N S C T r.at' (.int r.ent) r.defs r.vals (.int r.time) r.evs (.bool false) (.int (j : Nat)) = .row [.int 2, .int (len r.evs)] := by
  intro k
  induction k with
  | zero =>
   intro j hj;rw [Y3, ifF (by omega)]
   have : j = len r.evs := by omega
   rw [this]
  | succ k ih =>
   intro j hj;obtain ⟨e0, e1⟩ := he j (by omega)
   have := h.el';rw [Y3, ifT (by omega), ifF (by omega), ifT rfl, ifT (by omega), ifF (by omega), e0, e1, ifT rfl, ifT rfl, Bp (i := j) (by omega)]
   exact ih (j + 1) (by omega)
 exact (hQ ..).trans (E (len r.evs) 0 (by omega))
theorem Fz (h : Inv S C T n m r) (hn : n < 1000) (N : D) : Ex m.b (.bool m.bn) m.nm m.st (.bool m.stn) m.ct (.bool m.ctn) m.sp (.bool m.spn) m.an (.bool m.af) (.int m.aw) (.int m.now) m.due m.dn m.hp (.bool m.hn) (.bool m.ov) m.ev (.bool m.en) N S C T r.at' (.int r.ent) r.defs r.vals (.int r.time) r.evs = .row [.int 1, .bool true] := by
 have B := OB (by have := h.rk.s1; omega) N C T h.at0
 have c1 := h.rk.c1;have ld := h.df.ld;have lv := h.bk.lv
 have E : Np (.int (0 : Nat)) m.nm m.st (.bool m.stn) m.ct (.bool m.ctn) m.sp (.bool m.spn) m.an (.bool m.af) (.int m.aw) (.bool m.ov) m.ev (.bool m.en) m.b (.bool m.bn) (.int m.now) m.dn m.hp (.bool m.hn) m.due N S C T r.at' (.int r.ent) r.defs r.vals (.int r.time) r.evs = .row [.int 1, .bool true] := by
  have E : ∀ k j, j + k = len C → Np (.int (j : Nat)) m.nm m.st (.bool m.stn) m.ct (.bool m.ctn) m.sp (.bool m.spn) m.an (.bool m.af) (.int m.aw) (.bool m.ov) m.ev (.bool m.en) m.b (.bool m.bn) (.int m.now) m.dn m.hp (.bool m.hn) m.due N S C T r.at' (.int r.ent) r.defs r.vals (.int r.time) r.evs = .row [.int 1, .bool true] := by
   intro k
   induction k with
   | zero =>
    intro j hj;obtain ⟨a, e, g1, g2, _⟩ := SS h N
    have L : ∃ (l : D) (lb : Bool), Ft m.ev (.bool m.en) = .row [.int 1, l, .bool lb] ∧ len l = len r.evs ∧ ∀ j : Nat, j < len r.evs → (cl l j 0).toInt = (cl r.evs j 0).toInt ∧ (cl l j 1).toInt = (cl r.evs j 1).toInt := by
     rw [YZ];cases hen : m.en with
     | true =>
      have z := h.en hen;have el := h.el;exact ⟨Ar, true, rfl, by rw [BI]; omega, fun j hj => by omega⟩
     | false =>
      have := h.el;have := h.el';rw [cF rfl, ifT (by omega)]
      exact ⟨ct Ac m.ev, false, rfl, h.el, h.ee⟩
    obtain ⟨l, lb, l1, l2, l3⟩ := L;rw [Yr, ifF (by omega), g1, g2, l1]
    simp only [BX, BY, tI, tB, decide_true, cond_true, ZF h hn N l2 l3];rfl
   | succ k ih =>
    intro j hj;obtain ⟨x, v1, v2, _⟩ := h.bk.vl j (by omega)
    have ef : fd m.b (cl r.defs j 0) = (j : Int) := by
     rw [Ib h.bk.lb h.bk.nm, h.df.nm j (by omega), h.rk.cid j (by omega)]
    have lb := h.bk.lb;have G := U7 (b := m.b) (bn := m.bn) (key := cl r.defs j 0) (by omega) (by omega)
    rw [ef, v1] at G;rw [Yr, ifT (by omega), ifF (by omega), G, v2]
    simp only [BX, BY, tI, decide_true, cond_true];rw [iT (by omega), Bp (i := j) (by omega)]
    exact ih (j + 1) (by omega)
  exact E (len C) 0 (by omega)
 rw [iO, cT h.an, B, h.af];simp only [BX, BY, tI, tB, decide_true, cond_true];rw [ifT h.nt];have E' := E;cases haf : m.af
 ·rw [haf] at E'; exact E'
 ·rw [haf] at E'; exact E'
theorem Ow (h : Inv S C T n m r) (hn : n < 900) {t : Int} (h0 : r.time ≤ t) (h1 : t ≤ 1099511627776) :
  ∃ (dn1 hp1 due1 out hp2 due2 : D) (b1 on : Bool), Gi (.int m.now) m.due m.dn m.hp (.bool m.hn) = .row [.int 1, .int m.now, dn1, hp1, .bool b1, due1] ∧
   JY (.int m.now) due1 dn1 hp1 (.bool b1) (.int t) = .row [.int 1, out, .bool on, .int 0, .int t, hp2, .bool b1, due2] ∧ len hp2 ≤ n ∧
   (∃ o', CK due2 dn1 hp2 b1 o' ∧ TI (m.ov || decide (0 < (len out : Int))) o' r.ent m.aw t) ∧ (0 < m.aw → (m.ov || decide (0 < (len out : Int))) = !decide (t - r.ent < m.aw)) := by
 obtain ⟨o, ck, ti⟩ := h.o;have hl := h.hl;have nt := h.nt;obtain ⟨dn1, hp1, due1, b1, c1, c2, c3⟩ := RX (now := m.now) ck (by omega)
 obtain ⟨out, on, hp2, due2, a1, a2, a3⟩ := Vo (now := m.now) (t := t) c3 (by omega) (by omega) h1
 refine ⟨dn1, hp1, due1, out, hp2, due2, b1, on, c1, a1, by omega, ?_, ?_⟩
 ·rcases a3 with ⟨d, e1, e2, e3, e4⟩ | ⟨e1, e2, e3⟩
  ·rw [e3, Bool.or_true]
   have wp : 0 < m.aw := by
    rcases Int.lt_or_le 0 m.aw with q | q
    ·exact q
    ·have := ti.z (by have := ti.w0; omega)
     rw [this.2] at e1; cases e1
   have eov : m.ov = false := by
    cases hov : m.ov with
    | false => rfl
    | true => have := (ti.on hov).2.2; rw [this] at e1; cases e1
   refine ⟨none, e4, ti.w0, ti.w1, ti.e0, by have := ti.e1; omega, h1, fun _ => ⟨wp, ?_, rfl⟩, (fun c => by cases c), fun z => by omega⟩
   rcases ti.off eov wp with ⟨q1, q2, q3⟩ | ⟨q1, q2⟩
   ·rw [q2] at e1; cases e1; omega
   ·rw [q2] at e1; cases e1
  ·rw [e2, Bool.or_false];refine ⟨o, e3, ti.w0, ti.w1, ti.e0, by have := ti.e1; omega, h1, fun c => ?_, fun c wp => ?_, ti.z⟩
   ·obtain ⟨q1, q2, q3⟩ := ti.on c;exact ⟨q1, by omega, q3⟩
   ·rcases ti.off c wp with ⟨q1, q2, q3⟩ | ⟨q1, q2⟩
    ·exact .inl ⟨q1, q2, e1 _ q2⟩
    ·exact .inr ⟨q1, q2⟩
 ·intro wp;rcases a3 with ⟨d, e1, e2, e3, e4⟩ | ⟨e1, e2, e3⟩
  ·rw [e3, Bool.or_true]
   have eov : m.ov = false := by
    cases hov : m.ov with
    | false => rfl
    | true => have := (ti.on hov).2.2; rw [this] at e1; cases e1
   rcases ti.off eov wp with ⟨q1, q2, q3⟩ | ⟨q1, q2⟩
   ·rw [q2] at e1; cases e1;rw [decide_eq_false (by omega)]; rfl
   ·rw [q2] at e1; cases e1
  ·rw [e2, Bool.or_false];cases hov : m.ov with
   | true =>
    obtain ⟨q1, q2, q3⟩ := ti.on hov;rw [decide_eq_false (by omega)]; rfl
   | false =>
    rcases ti.off hov wp with ⟨q1, q2, q3⟩ | ⟨q1, q2⟩
    ·have := e1 _ q2;rw [decide_eq_true (by omega)]; rfl
    ·rw [decide_eq_true (by omega)]; rfl
theorem Wk (h : Inv S C T n m r) (N : D) {t : Int} (t0 : 0 ≤ t) (t1 : t ≤ 1099511627776) {late : Bool} (hl : 0 < m.aw → late = !decide (t - r.ent < m.aw)) {sp' : D} {sb : Bool} (hs : sp'.rows = T.rows) (ov : Bool) (now : Int) (dn hp due : D) (hn : Bool) :
  ∀ (k j : Nat) (out out2 : D) (ob ob2 : Bool), j + k = len T → out.rows = out2.rows → len out ≤ j → ∃ (l1 l2 : D) (b1 b2 : Bool),
   ME sp' (.bool sb) (.int j) out (.bool ob) (.bool late) m.nm m.st (.bool m.stn) m.ct (.bool m.ctn) m.sp (.bool m.spn) m.an (.bool m.af) (.int m.aw) (.bool ov) m.ev (.bool m.en) m.b (.bool m.bn) (.int now) dn hp (.bool hn) due m.an = .row [.int 1, l1, .bool b1] ∧
   P7 (.int t) out2 (.bool ob2) (.int j) N S C T r.at' (.int r.ent) r.defs r.vals r.evs = .row [.int 1, N, S, C, T, r.at', .int r.ent, r.defs, r.vals, .int t, r.evs, l2, .bool b2, .int 0] ∧ l1.rows = l2.rows ∧ len l1 ≤ len T := by
 intro k
 induction k with
 | zero =>
  intro j out out2 ob ob2 hj he hlen;rw [Zo, ifF (by rw [Ba hs]; omega), Y6, ifF (by omega)]
  exact ⟨out, out2, ob, ob2, rfl, rfl, he, by omega⟩
 | succ k ih =>
  intro j out out2 ob ob2 hj he hlen;have tl := h.rk.t1;have A := ZZ (bn := m.bn) h.rk h.bk (k := j) (by omega) m.nm m.st m.ct m.sp m.an due dn hp m.ev m.stn m.ctn m.spn m.af hn ov m.en late m.aw now
  have Q := KE h N t r.evs t0 t1 (k := j) (by omega)
  rw [← K5 h hl (by omega)] at Q
  have le2 : len out2 = len out := congrArg List.length he.symm;rw [Zo, ifT (by rw [Ba hs]; omega), ifF (by omega), Y6, ifT (p := (j : Int) < (len T : Int)) (by omega)]
  simp only [FI hs];rw [A, Q, Bp (i := j) (by omega)]
  simp only [BX, BY, tI, tB, decide_true, cond_true];have Nn := ih (j + 1) out out2 ob ob2 (by omega) he (by omega)
  have Y := ih (j + 1) (ad out (.row [.int j])) (ad out2 (.row [.int j])) false false (by omega) (by show out.rows ++ _ = out2.rows ++ _; rw [he]) (by rw [B7]; omega)
  unfold Dz;cases D.strEq (cl T j 0) m.an
  ·exact Nn
  ·rw [cT rfl, Bool.true_and];cases alw C r.vals T j && (!decide ((cl T j 2).toInt = 3) || late)
   ·exact Nn
   ·rw [cT rfl, cT rfl, ifT (by omega), ifT (by omega)]
    exact Y
theorem MZ (h : Inv S C T n m r) : ∃ (l : D) (b : Bool), DU m.sp (.bool m.spn) = .row [.int 1, l, .bool b] ∧ l.rows = T.rows := by
 rw [iD];cases hs : m.spn with
 | true => exact ⟨Ar, true, rfl, (h.spn hs).symm⟩
 | false =>
  have := Ba h.sp;have := h.rk.t1;rw [cF rfl, ifT (by omega)]
  exact ⟨ct Ac m.sp, false, rfl, h.sp⟩
theorem Ui (h : Inv S C T n m r) (hn : n < 900) (N : D) (t : Int) : ∃ (ov' : Bool) (now' : Int) (dn' hp' due' : D) (hn' : Bool) (time' : Int) (l1 l2 : D) (b1 b2 : Bool) (e : Int),
  P3 m.b (.bool m.bn) m.nm m.st (.bool m.stn) m.ct (.bool m.ctn) m.sp (.bool m.spn) m.an (.bool m.af) (.int m.aw) (.int m.now) m.due m.dn m.hp (.bool m.hn) (.bool m.ov) m.ev (.bool m.en) (.int t) = .row [.int 1, l1, .bool b1, .int e, .bool ov', .int now', dn', hp', .bool hn', due'] ∧
  R7 N S C T r.at' (.int r.ent) r.defs r.vals (.int r.time) r.evs (.int t) = .row [.int 1, N, S, C, T, r.at', .int r.ent, r.defs, r.vals, .int time', r.evs, l2, .bool b2, .int e] ∧ l1.rows = l2.rows ∧ len l1 ≤ len T ∧
  Inv S C T n { m with ov := ov', now := now', dn := dn', hp := hp', due := due', hn := hn' } { r with time := time' } ∧ (e ≠ 0 → ov' = m.ov ∧ now' = m.now ∧ dn' = m.dn ∧ hp' = m.hp ∧ due' = m.due ∧ hn' = m.hn ∧ time' = r.time) := by
 have nt := h.nt;have tm0 : 0 ≤ r.time := by obtain ⟨o, _, ti⟩ := h.o; have := ti.e0; have := ti.e1; omega
 by_cases c0 : t < r.time
 ·rw [UQ (h0 := rfl) (h1 := rfl), ifT (by omega), UM, ifT c0]
  exact ⟨m.ov, m.now, m.dn, m.hp, m.due, m.hn, r.time, Ar, Ar, true, true, 3, rfl, rfl, rfl, by rw [BI]; omega, h, fun _ => ⟨rfl, rfl, rfl, rfl, rfl, rfl, rfl⟩⟩
 by_cases c1 : 1099511627776 < t
 ·rw [UQ (h0 := rfl) (h1 := rfl), ifF (by omega), ifT c1, UM, ifF c0, ifT c1]
  exact ⟨m.ov, m.now, m.dn, m.hp, m.due, m.hn, r.time, Ar, Ar, true, true, 3, rfl, rfl, rfl, by rw [BI]; omega, h, fun _ => ⟨rfl, rfl, rfl, rfl, rfl, rfl, rfl⟩⟩
 obtain ⟨dn1, hp1, due1, out, hp2, due2, b1, on, w1, w2, w3, w4, w5⟩ := Ow h hn (t := t) (by omega) (by omega)
 obtain ⟨sp', sb, s1, s2⟩ := MZ h;obtain ⟨l1, l2, x1, x2, p1, p2, p3, p4⟩ := Wk h N (t := t) (by omega) (by omega) w5 (sp' := sp') (sb := sb) s2 (m.ov || decide (0 < (len out : Int))) t dn1 hp2 due2 b1 (len T) 0 Ar Ar true true (by omega) rfl (Nat.le_refl _)
 refine ⟨m.ov || decide (0 < (len out : Int)), t, dn1, hp2, due2, b1, t, l1, l2, x1, x2, 0, ?_, ?_, p3, p4, ⟨h.rk, h.so, h.st, h.ct, h.sp, h.spn, h.bk, h.bn, h.df, h.at0, h.an, h.af, h.aw, rfl, w4, w3, h.el, h.ee, h.en, h.el'⟩, fun z => absurd rfl z⟩
 ·rw [UQ (h0 := w1) (h1 := w2), ifF (by omega), ifF c1, s1]
  have p1' := (jz ..).trans p1;simp only [BX, BY, tI, tB, decide_true, cond_true];cases hov : m.ov with
  | true =>
   rw [hov, Bool.true_or] at p1';rw [cT rfl, Bool.true_or, p1'];rfl
  | false =>
   rw [hov, Bool.false_or] at p1';rw [cF rfl, Bool.false_or, p1'];rfl
 ·rw [UM, ifF c0, ifF c1];exact p2
end
end Mb
namespace Mb
open Go Go.AE
section
variable [An]
variable {S C T N : D} {n : Nat} {m : MS} {r : RS}
theorem X4 {st : D} {stn : Bool} (hst : st.rows = S.rows) (hs : len S < 1000) {key : D} (hk : 0 ≤ fd S key) : ∃ (out : D) (b : Bool), D6 st (.bool stn) key = .row [.int 1, out, .bool b] ∧ 0 < len out ∧ ∀ c, c < 3 → cl out 0 c = cl S (fd S key) c := by
 have E : ∀ (k j : Nat) (out : D) (b : Bool), j + k = len S → len out ≤ j → ((len out = 0 ∧ fdG (fun i => D.strEq (cl S i 0) key) k j = fd S key) ∨ (0 < len out ∧ ∀ c, c < 3 → cl out 0 c = cl S (fd S key) c)) →
   ∃ (out' : D) (b' : Bool), PG out (.bool b) st (.bool stn) (.int j) key = .row [.int 1, out', .bool b'] ∧ 0 < len out' ∧ ∀ c, c < 3 → cl out' 0 c = cl S (fd S key) c := by
  intro k
  induction k with
  | zero =>
   intro j out b hj hl hc;rw [YR, ifF (by rw [Ba hst]; omega)]
   rcases hc with ⟨_, q⟩ | q
   ·have : fdG (fun i => D.strEq (cl S i 0) key) 0 j = -1 := rfl
    omega
   ·exact ⟨out, b, rfl, q⟩
  | succ k ih =>
   intro j out b hj hl hc;have F : fdG (fun i => D.strEq (cl S i 0) key) (k + 1) j = cond (D.strEq (cl S j 0) key) (j : Int) (fdG (fun i => D.strEq (cl S i 0) key) k (j + 1)) := rfl
   rw [YR, ifT (by rw [Ba hst]; omega), ifF (by omega)]
   simp only [FI hst];rw [Bp (i := j) (by omega)]
   cases q : D.strEq (cl S j 0) key
   ·rw [q] at F;refine ih (j + 1) out b (by omega) (by omega) ?_
    rcases hc with ⟨z, p⟩ | p
    ·exact .inl ⟨z, F.symm.trans p⟩
    ·exact .inr p
   ·rw [q] at F;rw [cT rfl, ifT (by omega)]
    refine ih (j + 1) _ false (by omega) (by rw [B7]; omega) (.inr ⟨by rw [B7]; omega, fun c hc' => ?_⟩)
    rcases hc with ⟨z, p⟩ | ⟨p0, p⟩
    ·have p' : (j : Int) = fd S key := F.symm.trans p;rw [Dg (by omega), if_pos (by omega), p']
     match c, hc' with
     | 0, _ => rfl
     | 1, _ => rfl
     | 2, _ => rfl
    ·rw [Dg (by omega), if_neg (by omega)]
     exact p c hc'
 obtain ⟨out, b, q1, q2⟩ := E (len S) 0 Ar true (by omega) (Nat.le_refl _) (.inl ⟨rfl, rfl⟩)
 exact ⟨out, b, (kF ..).trans q1, q2⟩
theorem Mj (so : WK S) (hs : len S < 1000) (wt : ∀ i : Nat, i < len S → 0 ≤ (cl S i 2).toInt ∧ (cl S i 2).toInt ≤ 1048576) {st : D} {stn : Bool} (hst : st.rows = S.rows) {due dn hp : D} {hn : Bool} {o : Option Int} (ck : CK due dn hp hn o) {now : Int} (hl : len hp < 1000) (n0 : 0 ≤ now) (n1 : now ≤ 1099511627776) {key : D} (hk : 0 ≤ fd S key)
  (b nm ct sp an ev : D) (bn ctn spn af ov en : Bool) (aw : Int) : ∃ (af' : Bool) (aw' : Int) (dn' hp' due' : D) (hn' : Bool), cl S (fd S key) 1 = .bool af' ∧ cl S (fd S key) 2 = .int aw' ∧
   De b (.bool bn) nm st (.bool stn) ct (.bool ctn) sp (.bool spn) an (.bool af) (.int aw) (.int now) due dn hp (.bool hn) (.bool ov) ev (.bool en) key = .row [.int 1, cl S (fd S key) 0, .bool af', .int aw', dn', hp', .bool hn', due'] ∧
   len hp' ≤ len hp + 1 ∧ ∃ o', CK due' dn' hp' hn' o' ∧ TI false o' now aw' now := by
 obtain ⟨g1, g2⟩ := Jo hk;obtain ⟨af', aw', a1, a2⟩ := so _ g2;have w := wt _ g2;rw [g1] at a1 a2 w;rw [a2] at w;obtain ⟨out, ob, k1, k2, k3⟩ := X4 (stn := stn) hst hs hk;obtain ⟨e, due1, s1, s2⟩ := Yk (now := now) ck;have c0 := k3 0 (by omega)
 have c1 := k3 1 (by omega)
 have c2 := k3 2 (by omega)
 rw [a1] at c1;rw [a2] at c2;have w : 0 ≤ aw' ∧ aw' ≤ 1048576 := w;by_cases q : 0 < aw'
 ·obtain ⟨e2, dn', hp', due', hn', p1, p2, p3⟩ := UG (now := now) (w := aw') s2 hl n0 n1 w.1 w.2;refine ⟨af', aw', dn', hp', due', hn', a1, a2, ?_, p2, _, p3, w.1, w.2, n0, Int.le_refl _, n1, (fun c => by cases c), fun _ _ => ?_, fun z => by omega⟩
  ·rw [Ze, k1, s1];simp only [BX, BY, tI, tB, decide_true, cond_true, c0, c1, c2, p1];rw [iT (by omega), iT q]
  ·by_cases z : now + aw' ≤ 1099511627776
   ·rw [if_pos z]; exact .inl ⟨z, rfl, by omega⟩
   ·rw [if_neg z]; exact .inr ⟨by omega, rfl⟩
 ·have z : aw' = 0 := by omega
  subst z;refine ⟨af', 0, dn, hp, due1, hn, a1, a2, ?_, by omega, none, s2, w.1, w.2, n0, Int.le_refl _, n1, (fun c => by cases c), fun _ c => absurd c (Int.lt_irrefl 0), fun _ => ⟨rfl, rfl⟩⟩
  ·rw [Ze, k1, s1];simp only [BX, BY, tI, tB, decide_true, cond_true, c0, c1, c2];rw [iT (by omega), iF (by omega)]
theorem VZ {V b d : D} {bn : Bool} (rk : Rk S C T) (hb : Bk b C V) (hd : Df d C) {k : Nat} (hk : k < len T) (ha : alw C V T k = true) : ∃ b' V', Ff b (.bool bn) (cl T k 0) (cl T k 1) (cl T k 2) (cl T k 3) (cl T k 4) (cl T k 5) (cl T k 6) (cl T k 7) (cl T k 8) = .row [.int 1, .int 0, b'] ∧ OW d V (cl T k 0) (cl T k 1) (cl T k 2) (cl T k 3) (cl T k 4) (cl T k 5) (cl T k 6) (cl T k 7) (cl T k 8) = .row [.int 1, d, V', .int 0] ∧ Bk b' C V' := by
 have A := NX (bn := bn) rk hb hk;have A2 := Us rk hb hd hk;obtain ⟨⟨n2, h2⟩, ⟨n6, h6⟩, ⟨n7, h7⟩, ⟨n8, h8⟩, _⟩ := rk.tI k hk;have c1 := rk.c1;have lb := hb.lb;have lv := hb.lv;have ef := Ib hb.lb hb.nm (cl T k 5);have ef2 := Ib hd.ld hd.nm (cl T k 5);have ld := hd.ld;rw [ha] at A A2;have ha' := ha;unfold alw at ha';rw [h2, h6, h7, h8] at A A2 ⊢;rcases rk.ctr k hk with ⟨q, _⟩ | ⟨q, q0, q1, q2, q3, q4, q5, q6, q7⟩
 ·refine ⟨b, V, ?_, ?_, hb⟩
  ·rw [YQ, A];simp only [BX, BY, tI, tB, decide_true, cond_true, q]
  ·rw [Yw, A2];simp only [BX, BY, tI, tB, decide_true, cond_true, q]
 rw [q, h6, h7] at ha';rw [h6, h7, h8] at *;simp only [Ax] at *;obtain ⟨g1, g2⟩ := Jo q0;obtain ⟨x, v1, v2, v3, v4⟩ := hb.vl _ g2;have lim := rk.lim _ g2;rw [g1] at v1 v2 v4 lim;rw [v2] at ha';simp only [Ax, Bool.false_or, Bool.and_eq_true, Bool.not_eq_true'] at ha';have i1 := dF ha'.1;have i2 := dF ha'.2;generalize hi : (fd C (cl T k 5)).toNat = i at g1 g2;have F10 := NZ (b := b) (bn := bn) (by omega) (cl T k 5)
 have F45 := Wm (d := d) (by omega) V (cl T k 5)
 rw [ef, ← g1] at F10;rw [ef2, ← g1] at F45;rw [← g1] at v1 v2 v4 lim q3 q7;have wc : Wd (ct Ac V) 1 := hb.wv;have lc : len (ct Ac V) = len V := rfl;have vc : cl (ct Ac V) i 0 = cl V i 0 := rfl;refine ⟨upd b i 2 (.int (x + n8)), ni (upd (ct Ac V) i 0 (.int (x + n8))) false, ?_, ?_, ?_⟩
 ·rw [YQ, A, F10];simp only [BX, BY, tI, tB, decide_true, cond_true, q, cond_false, v1];rw [iF (by omega), iT (by omega), AJ (by omega) (by omega)]
 ·rw [Yw, A2, F45, ifT (p := (len V : Int) < 1048576) (by omega)]
  simp only [BX, BY, tI, tB, decide_true, cond_true, q, cond_false, vc, v2];rw [iF (by omega), iT (by omega), AJ (by omega) (by omega)]
 ·refine ⟨by rw [CS]; exact lb, by rw [Ox, CS]; exact lv, D3 hb.wb, D3 wc, fun j hj => ?_, fun j hj => ?_, fun j hj => ?_⟩
  ·rw [Eu hb.wb (by omega) (by omega) (by omega) (by omega), if_neg (by omega)]
   exact hb.nm j hj
  ·rw [Eu hb.wb (by omega) (by omega) (by omega) (by omega), if_neg (by omega)]
   exact hb.lm j hj
  ·rw [Eu hb.wb (by omega) (by omega) (by omega) (by omega), SL, Eu wc (by omega) (by omega) (by omega) (by omega)]
   by_cases z : (j : Int) = i
   ·rw [if_pos ⟨z, rfl⟩, if_pos ⟨z, rfl⟩];have : j = i := by omega
    subst this;exact ⟨_, rfl, rfl, by omega, by omega⟩
   ·rw [if_neg (fun c => z c.1), if_neg (fun c => z c.1)]
    exact hb.vl j hj
end
end Mb
namespace Mb
open Go Go.AE
theorem Ch {V : D} {i : Int} {c : Nat} : cl (ct Ac V) i c = cl V i c := by unfold cl; rfl
section
variable [An]
variable {S C T N : D} {n : Nat} {m : MS} {r : RS}
theorem Er (h : Inv S C T n m r) (hn : n < 900) (N : D) {t : Int} (t0 : r.time ≤ t) (t1 : t ≤ 1099511627776) {late : Bool} (hl : 0 < m.aw → late = !decide (t - r.ent < m.aw)) {due2 dn1 hp2 : D} {b1 : Bool} (w3 : len hp2 ≤ n) (w4 : ∃ o', CK due2 dn1 hp2 b1 o' ∧ TI late o' r.ent m.aw t) {k : Nat} (hk : k < len T) (hc : Dz C r.vals T m.an late k = true) (ov : Bool) :
  ∃ (an' : D) (af' : Bool) (aw' : Int) (b' dn' hp' due' : D) (hn' : Bool) (r' : RS),
   Ns m.b (.bool m.bn) m.nm m.st (.bool m.stn) m.ct (.bool m.ctn) m.sp (.bool m.spn) m.an (.bool m.af) (.int m.aw) (.int m.now) m.due m.dn m.hp (.bool m.hn) (.bool ov) m.ev (.bool m.en) (.int t) due2 dn1 hp2 (.bool b1) (.bool late) (.int t) (.int k)
    = .row [.int 1, an', .bool af', .int aw', ad m.ev (.row [.int k, .int t]), .bool false, b', .bool m.bn, .int m.now, m.dn, m.hp, .bool m.hn, m.due, .int t, dn', hp', .bool hn', due'] ∧
   Cw N S C T r.at' (.int r.ent) r.defs r.vals (.int r.time) r.evs (.int t) (.int k) = .row [.int 1, N, S, C, T, r'.at', .int r'.ent, r'.defs, r'.vals, .int r'.time, r'.evs, .int 0] ∧
   Inv S C T (n + 1) { m with an := an', af := af', aw := aw', ov := false, ev := ad m.ev (.row [.int k, .int t]), en := false, b := b', now := t, dn := dn', hp := hp', due := due', hn := hn' } r' := by
 obtain ⟨o', ck, ti⟩ := w4;have e0 := ti.e0;have e1 := ti.e1;have tl := h.rk.t1;have hc' := hc;unfold Dz at hc';simp only [Bool.and_eq_true] at hc';obtain ⟨b', V', p1, p2, p3⟩ := VZ (bn := m.bn) h.rk h.bk h.df hk hc'.2.1;have to := h.rk.to k hk;have E := Mj h.so h.rk.s1 h.rk.wt (stn := m.stn) h.st ck (now := t) (by omega) (by omega) t1 to b' m.nm m.ct m.sp m.an m.ev m.bn m.ctn m.spn m.af late m.en m.aw
 obtain ⟨af', aw', dn', hp', due', hn', a1, a2, q1, q3, q4⟩ := E;have Q := KE h N r.time r.evs (now := t) (by omega) t1 hk
 rw [← K5 h hl hk, hc] at Q;have el := h.el;have el' := h.el';have le : len (ct Ac r.evs) = len r.evs := by unfold len; rfl
 refine ⟨cl S (fd S (cl T k 1)) 0, af', aw', b', dn', hp', due', hn', ⟨cl T k 1, t, r.defs, V', t, ni (ad (ct Ac r.evs) (.row [.int k, .int t])) false⟩, ?_, ?_, ?_⟩
 ·have L1 : len b' = len m.b := by rw [p3.lb, h.bk.lb]
  rw [dQ, ifT (by omega), ifF (by omega), ifT (by rw [Ba h.sp]; omega)]
  simp only [FI h.sp];rw [p1];simp only [BX, BY, tI, decide_true, cond_true, L1];rw [q1];rfl
 ·rw [Nm, ifF (by omega), ifT (by omega), ifF (by omega), ifF (by omega), Q, p2, ifT (p := (len r.evs : Int) < 1048576) (by omega), ifT (p := (len (ct Ac r.evs) : Int) < 1073741824) (by omega)]
  rfl
 ·obtain ⟨g1, g2⟩ := Jo to;refine ⟨h.rk, h.so, h.st, h.ct, h.sp, h.spn, p3, h.bn, h.df, to, Vc to, a1, a2, rfl, q4, by show len hp' ≤ n + 1; omega, ?_, fun j hj => ?_, (fun c => by cases c), ?_⟩
  ·show len (ad m.ev _) = len (ni (ad (ct Ac r.evs) _) false);rw [Ox, B7, B7, le, el]
  ·have hj : j < len (ni (ad (ct Ac r.evs) (.row [.int k, .int t])) false) := hj;rw [Ox, B7, le] at hj;show (cl (ad m.ev _) j 0).toInt = (cl (ni (ad (ct Ac r.evs) _) false) j 0).toInt ∧ (cl (ad m.ev _) j 1).toInt = (cl (ni (ad (ct Ac r.evs) _) false) j 1).toInt;rw [SL, SL, Dg (by omega), Dg (by omega), Dg (by omega), Dg (by omega), le, el, Ch, Ch]
   by_cases z : (j : Int) = len r.evs
   ·refine ⟨?_, ?_⟩ <;> simp only [if_pos z]
   ·simp only [if_neg z]; exact h.ee j (by omega)
  ·show len (ni (ad (ct Ac r.evs) _) false) ≤ n + 1;rw [Ox, B7, le];omega
theorem Inv.mono (h : Inv S C T n m r) {n' : Nat} (hn : n ≤ n') : Inv S C T n' m r := { h with hl := Nat.le_trans h.hl hn, el' := Nat.le_trans h.el' hn }
theorem Zi (h : Inv S C T n m r) (hn : n < 900) (N : D) (t k : Int) : ∃ (an' : D) (af' : Bool) (aw' : Int) (ov' : Bool) (ev' : D) (en' : Bool) (b' : D) (now' : Int) (dn' hp' due' : D) (hn' : Bool) (r' : RS) (e : Int),
  CJ m.b (.bool m.bn) m.nm m.st (.bool m.stn) m.ct (.bool m.ctn) m.sp (.bool m.spn) m.an (.bool m.af) (.int m.aw) (.int m.now) m.due m.dn m.hp (.bool m.hn) (.bool m.ov) m.ev (.bool m.en) (.int t) (.int k) = .row [.int 1, .int e, an', .bool af', .int aw', .bool ov', ev', .bool en', b', .bool m.bn, .int now', dn', hp', .bool hn', due'] ∧
  Cw N S C T r.at' (.int r.ent) r.defs r.vals (.int r.time) r.evs (.int t) (.int k) = .row [.int 1, N, S, C, T, r'.at', .int r'.ent, r'.defs, r'.vals, .int r'.time, r'.evs, .int e] ∧
  Inv S C T (n + 1) { m with an := an', af := af', aw := aw', ov := ov', ev := ev', en := en', b := b', now := now', dn := dn', hp := hp', due := due', hn := hn' } r' := by
 have nt := h.nt;have tm0 : 0 ≤ r.time := by obtain ⟨o, _, ti⟩ := h.o; have := ti.e0; have := ti.e1; omega
 have same : ∀ e : Int, CJ m.b (.bool m.bn) m.nm m.st (.bool m.stn) m.ct (.bool m.ctn) m.sp (.bool m.spn) m.an (.bool m.af) (.int m.aw) (.int m.now) m.due m.dn m.hp (.bool m.hn) (.bool m.ov) m.ev (.bool m.en) (.int t) (.int k) = .row [.int 1, .int e, m.an, .bool m.af, .int m.aw, .bool m.ov, m.ev, .bool m.en, m.b, .bool m.bn, .int m.now, m.dn, m.hp, .bool m.hn, m.due] → Cw N S C T r.at' (.int r.ent) r.defs r.vals (.int r.time) r.evs (.int t) (.int k) = .row [.int 1, N, S, C, T, r.at', .int r.ent, r.defs, r.vals, .int r.time, r.evs, .int e] →
  ∃ (an' : D) (af' : Bool) (aw' : Int) (ov' : Bool) (ev' : D) (en' : Bool) (b' : D) (now' : Int) (dn' hp' due' : D) (hn' : Bool) (r' : RS) (e : Int),
  CJ m.b (.bool m.bn) m.nm m.st (.bool m.stn) m.ct (.bool m.ctn) m.sp (.bool m.spn) m.an (.bool m.af) (.int m.aw) (.int m.now) m.due m.dn m.hp (.bool m.hn) (.bool m.ov) m.ev (.bool m.en) (.int t) (.int k) = .row [.int 1, .int e, an', .bool af', .int aw', .bool ov', ev', .bool en', b', .bool m.bn, .int now', dn', hp', .bool hn', due'] ∧
  Cw N S C T r.at' (.int r.ent) r.defs r.vals (.int r.time) r.evs (.int t) (.int k) = .row [.int 1, N, S, C, T, r'.at', .int r'.ent, r'.defs, r'.vals, .int r'.time, r'.evs, .int e] ∧
  Inv S C T (n + 1) { m with an := an', af := af', aw := aw', ov := ov', ev := ev', en := en', b := b', now := now', dn := dn', hp := hp', due := due', hn := hn' } r' :=
  fun e h1 h2 => ⟨m.an, m.af, m.aw, m.ov, m.ev, m.en, m.b, m.now, m.dn, m.hp, m.due, m.hn, r, e, h1, h2, h.mono (by omega)⟩
 by_cases k0 : k < 0
 ·exact same 2 (by rw [J1 (h0 := rfl) (h1 := rfl) (h2 := rfl) (h3 := rfl) (h4 := rfl) (h5 := rfl), ifT k0]) (by rw [Nm, ifT k0])
 by_cases k1 : k < len T;rotate_left
 ·exact same 2 (by rw [J1 (h0 := rfl) (h1 := rfl) (h2 := rfl) (h3 := rfl) (h4 := rfl) (h5 := rfl), ifF k0, ifF (by rw [Ba h.sp]; exact k1)]) (by rw [Nm, ifF k0, ifF k1])
 by_cases c0 : t < r.time
 ·exact same 3 (by rw [J1 (h0 := rfl) (h1 := rfl) (h2 := rfl) (h3 := rfl) (h4 := rfl) (h5 := rfl), ifF k0, ifT (by rw [Ba h.sp]; exact k1), ifT (by omega)]) (by rw [Nm, ifF k0, ifT k1, ifT c0])
 by_cases c1 : 1099511627776 < t
 ·exact same 3 (by rw [J1 (h0 := rfl) (h1 := rfl) (h2 := rfl) (h3 := rfl) (h4 := rfl) (h5 := rfl), ifF k0, ifT (by rw [Ba h.sp]; exact k1), ifF (by omega), ifT c1]) (by rw [Nm, ifF k0, ifT k1, ifF c0, ifT c1])
 obtain ⟨dn1, hp1, due1, out, hp2, due2, b1, on, w1, w2, w3, w4, w5⟩ := Ow h hn (t := t) (by omega) (by omega)
 obtain ⟨i, rfl⟩ : ∃ i : Nat, k = i := ⟨k.toNat, by omega⟩
 have it : i < len T := by omega
 have X : ∀ late ov, Md m.b (.bool m.bn) m.nm m.st (.bool m.stn) m.ct (.bool m.ctn) m.sp (.bool m.spn) m.an (.bool m.af) (.int m.aw) (.int m.now) m.due m.dn m.hp (.bool m.hn) (.bool ov) m.ev (.bool m.en) (.int t) due2 dn1 hp2 (.bool b1) (.bool late) (cl m.sp i 0) (cl m.sp i 1) (cl m.sp i 2) (cl m.sp i 3) (cl m.sp i 4) (cl m.sp i 5) (cl m.sp i 6) (cl m.sp i 7) (cl m.sp i 8) = .row [.int 1, .bool (Dz C r.vals T m.an late i)] := fun late ov => by
  simp only [FI h.sp];exact U8 (bn := m.bn) h.rk h.bk it m.nm m.st m.ct m.sp m.an m.due m.dn m.hp m.ev due2 dn1 hp2 m.stn m.ctn m.spn m.af m.hn ov m.en b1 late m.aw m.now t
 have Q := KE h N r.time r.evs (now := t) (by omega) (by omega) it
 rw [← K5 h w5 it] at Q;cases hc : Dz C r.vals T m.an (m.ov || decide (0 < (len out : Int))) i with
 | false =>
  rw [hc] at Q;refine same 8 ?_ (by rw [Nm, ifF k0, ifT k1, ifF c0, ifF c1, Q]; rfl)
  cases hov : m.ov with
  | true =>
   rw [hov, Bool.true_or] at hc;rw [J1 (h0 := w1) (h1 := w2) (h2 := rfl) (h3 := rfl) (h4 := rfl) (h5 := X true true), ifF k0, ifT (by rw [Ba h.sp]; exact k1), ifF (by omega), ifF c1, hc]
   rfl
  | false =>
   rw [hov, Bool.false_or] at hc;rw [J1 (h0 := w1) (h1 := w2) (h2 := rfl) (h3 := rfl) (h4 := X (decide (0 < (len out : Int))) false) (h5 := rfl), ifF k0, ifT (by rw [Ba h.sp]; exact k1), ifF (by omega), ifF c1, hc]
   rfl
 | true =>
  cases hov : m.ov with
  | true =>
   rw [hov, Bool.true_or] at hc w4 w5;obtain ⟨an', af', aw', b', dn', hp', due', hn', r', p1, p2, p3⟩ := Er h hn N (t := t) (by omega) (by omega) w5 w3 w4 it hc true
   refine ⟨an', af', aw', false, ad m.ev (.row [.int i, .int t]), false, b', t, dn', hp', due', hn', r', 0, ?_, p2, p3⟩;rw [J1 (h0 := w1) (h1 := w2) (h2 := rfl) (h3 := p1) (h4 := rfl) (h5 := X true true), ifF k0, ifT (by rw [Ba h.sp]; exact k1), ifF (by omega), ifF c1, hc]
   rfl
  | false =>
   rw [hov, Bool.false_or] at hc w4 w5;obtain ⟨an', af', aw', b', dn', hp', due', hn', r', p1, p2, p3⟩ := Er h hn N (t := t) (by omega) (by omega) w5 w3 w4 it hc false
   refine ⟨an', af', aw', false, ad m.ev (.row [.int i, .int t]), false, b', t, dn', hp', due', hn', r', 0, ?_, p2, p3⟩;rw [J1 (h0 := w1) (h1 := w2) (h2 := p1) (h3 := rfl) (h4 := X (decide (0 < (len out : Int))) false) (h5 := rfl), ifF k0, ifT (by rw [Ba h.sp]; exact k1), ifF (by omega), ifF c1, hc]
   rfl
end
end Mb
namespace Mb
open Go Go.AE
section
variable [An]
variable {S C T N : D} {n : Nat} {m : MS} {r : RS}
theorem TQ (h : Inv S C T n m r) (N : D) {t : Int} (t0 : 0 ≤ t) (t1 : t ≤ 1099511627776) {late : Bool} (hl : 0 < m.aw → late = !decide (t - r.ent < m.aw)) {sp' : D} {sb : Bool} (hs : sp'.rows = T.rows) (ov : Bool) (dn1 hp2 due2 msg peer : D) (b1 : Bool)
  (P : ∀ i : Nat, i < len T → Dz C r.vals T m.an late i = true → ∃ r' : RS, Cw N S C T r.at' (.int r.ent) r.defs r.vals (.int r.time) r.evs (.int t) (.int i) = .row [.int 1, N, S, C, T, r'.at', .int r'.ent, r'.defs, r'.vals, .int r'.time, r'.evs, .int 0]) :
  ∀ (k j : Nat), j + k = len T →
   (∃ i : Nat, i < len T ∧ Dz C r.vals T m.an late i = true ∧ Ir sp' (.bool sb) (.int j) msg peer (.int (-1)) (.bool late) m.nm m.st (.bool m.stn) m.ct (.bool m.ctn) m.sp (.bool m.spn) m.an (.bool m.af) (.int m.aw) (.bool ov) m.ev (.bool m.en) m.b (.bool m.bn) (.int m.now) m.dn m.hp (.bool m.hn) m.due (.int t) dn1 hp2 (.bool b1) due2 m.an = .row [.int 1, .int i] ∧ ∀ r' : RS, Cw N S C T r.at' (.int r.ent) r.defs r.vals (.int r.time) r.evs (.int t) (.int i) = .row [.int 1, N, S, C, T, r'.at', .int r'.ent, r'.defs, r'.vals, .int r'.time, r'.evs, .int 0] → JQ (.int t) msg peer (.int j) N S C T r.at' (.int r.ent) r.defs r.vals (.int r.time) r.evs = .row [.int 1, N, S, C, T, r'.at', .int r'.ent, r'.defs, r'.vals, .int r'.time, r'.evs, .int i, .int 0]) ∨
   (Ir sp' (.bool sb) (.int j) msg peer (.int (-1)) (.bool late) m.nm m.st (.bool m.stn) m.ct (.bool m.ctn) m.sp (.bool m.spn) m.an (.bool m.af) (.int m.aw) (.bool ov) m.ev (.bool m.en) m.b (.bool m.bn) (.int m.now) m.dn m.hp (.bool m.hn) m.due (.int t) dn1 hp2 (.bool b1) due2 m.an = .row [.int 2] ∧ JQ (.int t) msg peer (.int j) N S C T r.at' (.int r.ent) r.defs r.vals (.int r.time) r.evs = .row [.int 1, N, S, C, T, r.at', .int r.ent, r.defs, r.vals, .int r.time, r.evs, .int 0, .int 9]) := by
 intro k
 induction k with
 | zero =>
  intro j hj;right;rw [Zl, ifF (by rw [Ba hs]; omega), Yt, ifF (by omega)]
  exact ⟨rfl, rfl⟩
 | succ k ih =>
  intro j hj;have tl := h.rk.t1;have A := U8 (bn := m.bn) h.rk h.bk (k := j) (by omega) m.nm m.st m.ct m.sp m.an m.due m.dn m.hp m.ev due2 dn1 hp2 m.stn m.ctn m.spn m.af m.hn ov m.en b1 late m.aw m.now t
  have Q := KE h N r.time r.evs t0 t1 (k := j) (by omega)
  rw [← K5 h hl (by omega)] at Q
  have Nn := ih (j + 1) (by omega)
  rw [Zl, ifT (by rw [Ba hs]; omega), ifF (by omega), Yt, ifT (p := (j : Int) < (len T : Int)) (by omega), ifF (p := (j : Int) < 0) (by omega)]
  simp only [FI hs];rw [A, Q, Bp (i := j) (by omega)]
  simp only [BX, BY, tI, tB, decide_true, cond_true];cases hc : Dz C r.vals T m.an late j with
  | false =>
   simp only [cond_false];cases D.strEq (cl T j 0) m.an <;> cases decide ((cl T j 2).toInt = 2) <;> cases D.strEq (cl T j 3) msg <;> cases D.strEq (cl T j 4) peer <;> exact Nn
  | true =>
   have hc' := hc;unfold Dz at hc';simp only [Bool.and_eq_true] at hc';rw [hc'.1];simp only [cond_true];cases decide ((cl T j 2).toInt = 2)
   ·exact Nn
   cases D.strEq (cl T j 3) msg
   ·exact Nn
   cases D.strEq (cl T j 4) peer
   ·exact Nn
   refine .inl ⟨j, by omega, hc, rfl, fun r' hr => ?_⟩
   rw [hr];rfl
theorem Q3 (h : Inv S C T n m r) (hn : n < 900) (N : D) (t : Int) (msg peer : D) : ∃ (an' : D) (af' : Bool) (aw' : Int) (ov' : Bool) (ev' : D) (en' : Bool) (b' : D) (now' : Int) (dn' hp' due' : D) (hn' : Bool) (r' : RS) (w e : Int),
  MX m.b (.bool m.bn) m.nm m.st (.bool m.stn) m.ct (.bool m.ctn) m.sp (.bool m.spn) m.an (.bool m.af) (.int m.aw) (.int m.now) m.due m.dn m.hp (.bool m.hn) (.bool m.ov) m.ev (.bool m.en) (.int t) msg peer = .row [.int 1, .int w, .int e, an', .bool af', .int aw', .bool ov', ev', .bool en', b', .bool m.bn, .int now', dn', hp', .bool hn', due'] ∧
  MN N S C T r.at' (.int r.ent) r.defs r.vals (.int r.time) r.evs (.int t) msg peer = .row [.int 1, N, S, C, T, r'.at', .int r'.ent, r'.defs, r'.vals, .int r'.time, r'.evs, .int w, .int e] ∧
  Inv S C T (n + 1) { m with an := an', af := af', aw := aw', ov := ov', ev := ev', en := en', b := b', now := now', dn := dn', hp := hp', due := due', hn := hn' } r' := by
 have nt := h.nt;have tm0 : 0 ≤ r.time := by obtain ⟨o, _, ti⟩ := h.o; have := ti.e0; have := ti.e1; omega
 have same : ∀ e : Int, MX m.b (.bool m.bn) m.nm m.st (.bool m.stn) m.ct (.bool m.ctn) m.sp (.bool m.spn) m.an (.bool m.af) (.int m.aw) (.int m.now) m.due m.dn m.hp (.bool m.hn) (.bool m.ov) m.ev (.bool m.en) (.int t) msg peer = .row [.int 1, .int 0, .int e, m.an, .bool m.af, .int m.aw, .bool m.ov, m.ev, .bool m.en, m.b, .bool m.bn, .int m.now, m.dn, m.hp, .bool m.hn, m.due] → MN N S C T r.at' (.int r.ent) r.defs r.vals (.int r.time) r.evs (.int t) msg peer = .row [.int 1, N, S, C, T, r.at', .int r.ent, r.defs, r.vals, .int r.time, r.evs, .int 0, .int e] →
  ∃ (an' : D) (af' : Bool) (aw' : Int) (ov' : Bool) (ev' : D) (en' : Bool) (b' : D) (now' : Int) (dn' hp' due' : D) (hn' : Bool) (r' : RS) (w e : Int),
  MX m.b (.bool m.bn) m.nm m.st (.bool m.stn) m.ct (.bool m.ctn) m.sp (.bool m.spn) m.an (.bool m.af) (.int m.aw) (.int m.now) m.due m.dn m.hp (.bool m.hn) (.bool m.ov) m.ev (.bool m.en) (.int t) msg peer = .row [.int 1, .int w, .int e, an', .bool af', .int aw', .bool ov', ev', .bool en', b', .bool m.bn, .int now', dn', hp', .bool hn', due'] ∧
  MN N S C T r.at' (.int r.ent) r.defs r.vals (.int r.time) r.evs (.int t) msg peer = .row [.int 1, N, S, C, T, r'.at', .int r'.ent, r'.defs, r'.vals, .int r'.time, r'.evs, .int w, .int e] ∧
  Inv S C T (n + 1) { m with an := an', af := af', aw := aw', ov := ov', ev := ev', en := en', b := b', now := now', dn := dn', hp := hp', due := due', hn := hn' } r' :=
  fun e h1 h2 => ⟨m.an, m.af, m.aw, m.ov, m.ev, m.en, m.b, m.now, m.dn, m.hp, m.due, m.hn, r, 0, e, h1, h2, h.mono (by omega)⟩
 by_cases c0 : t < r.time
 ·exact same 3 (by rw [M8 (h0 := rfl) (h1 := rfl) (h2 := rfl) (h3 := rfl) (h4 := rfl) (h5 := rfl) (h6 := rfl), ifT (by omega)]) (by rw [Pe, ifT c0])
 by_cases c1 : 1099511627776 < t
 ·exact same 3 (by rw [M8 (h0 := rfl) (h1 := rfl) (h2 := rfl) (h3 := rfl) (h4 := rfl) (h5 := rfl) (h6 := rfl), ifF (by omega), ifT c1]) (by rw [Pe, ifF c0, ifT c1])
 obtain ⟨dn1, hp1, due1, out, hp2, due2, b1, on, w1, w2, w3, w4, w5⟩ := Ow h hn (t := t) (by omega) (by omega)
 obtain ⟨sp', sb, s1, s2⟩ := MZ h
 have P : ∀ i : Nat, i < len T → Dz C r.vals T m.an (m.ov || decide (0 < (len out : Int))) i = true → ∃ r' : RS, Cw N S C T r.at' (.int r.ent) r.defs r.vals (.int r.time) r.evs (.int t) (.int i) = .row [.int 1, N, S, C, T, r'.at', .int r'.ent, r'.defs, r'.vals, .int r'.time, r'.evs, .int 0] := fun i hi hc => by
  obtain ⟨_, _, _, _, _, _, _, _, r', _, p2, _⟩ := Er h hn N (t := t) (by omega) (by omega) w5 w3 w4 hi hc true
  exact ⟨r', p2⟩
 have Z := TQ h N (t := t) (by omega) (by omega) w5 (sp' := sp') (sb := sb) s2 m.ov dn1 hp2 due2 msg peer b1 P (len T) 0 (by omega)
 rcases Z with ⟨i, hi, hc, z1, z2⟩ | ⟨z1, z2⟩
 ·cases hov : m.ov with
  | true =>
   rw [hov, Bool.true_or] at hc w4 w5 z1;obtain ⟨an', af', aw', b', dn', hp', due', hn', r', p1, p2, p3⟩ := Er h hn N (t := t) (by omega) (by omega) w5 w3 w4 hi hc true
   refine ⟨an', af', aw', false, ad m.ev (.row [.int i, .int t]), false, b', t, dn', hp', due', hn', r', i, 0, ?_, ?_, p3⟩
   ·have z3 : K7 msg peer (.int (-1)) m.b (.bool m.bn) m.nm m.st (.bool m.stn) m.ct (.bool m.ctn) m.sp (.bool m.spn) m.an (.bool m.af) (.int m.aw) (.int m.now) m.due m.dn m.hp (.bool m.hn) (.bool true) m.ev (.bool m.en) (.int t) due2 dn1 hp2 (.bool b1) (.bool true) sp' (.bool sb) m.an = .row [.int 1, .int i] := (Sr ..).trans z1;rw [M8 (h0 := w1) (h1 := w2) (h2 := s1) (h3 := rfl) (h4 := z3) (h5 := rfl) (h6 := p1), ifF (by omega), ifF c1]
    simp only [BX, BY, tI, tB, decide_true, cond_true];rw [iF (by omega)]
   ·rw [Pe, ifF c0, ifF c1];exact z2 r' p2
  | false =>
   rw [hov, Bool.false_or] at hc w4 w5 z1;obtain ⟨an', af', aw', b', dn', hp', due', hn', r', p1, p2, p3⟩ := Er h hn N (t := t) (by omega) (by omega) w5 w3 w4 hi hc false
   refine ⟨an', af', aw', false, ad m.ev (.row [.int i, .int t]), false, b', t, dn', hp', due', hn', r', i, 0, ?_, ?_, p3⟩
   ·have z3 : K7 msg peer (.int (-1)) m.b (.bool m.bn) m.nm m.st (.bool m.stn) m.ct (.bool m.ctn) m.sp (.bool m.spn) m.an (.bool m.af) (.int m.aw) (.int m.now) m.due m.dn m.hp (.bool m.hn) (.bool false) m.ev (.bool m.en) (.int t) due2 dn1 hp2 (.bool b1) (.bool (decide (0 < (len out : Int)))) sp' (.bool sb) m.an = .row [.int 1, .int i] := (Sr ..).trans z1;rw [M8 (h0 := w1) (h1 := w2) (h2 := s1) (h3 := z3) (h4 := rfl) (h5 := p1) (h6 := rfl), ifF (by omega), ifF c1]
    simp only [BX, BY, tI, tB, decide_true, cond_true, cond_false];rw [iF (by omega)]
   ·rw [Pe, ifF c0, ifF c1];exact z2 r' p2
 ·refine same 9 ?_ (by rw [Pe, ifF c0, ifF c1]; exact z2)
  cases hov : m.ov with
  | true =>
   rw [hov, Bool.true_or] at z1;have z3 : K7 msg peer (.int (-1)) m.b (.bool m.bn) m.nm m.st (.bool m.stn) m.ct (.bool m.ctn) m.sp (.bool m.spn) m.an (.bool m.af) (.int m.aw) (.int m.now) m.due m.dn m.hp (.bool m.hn) (.bool true) m.ev (.bool m.en) (.int t) due2 dn1 hp2 (.bool b1) (.bool true) sp' (.bool sb) m.an = .row [.int 2] := (Sr ..).trans z1;rw [M8 (h0 := w1) (h1 := w2) (h2 := s1) (h3 := rfl) (h4 := z3) (h5 := rfl) (h6 := rfl), ifF (by omega), ifF c1]
   rfl
  | false =>
   rw [hov, Bool.false_or] at z1;have z3 : K7 msg peer (.int (-1)) m.b (.bool m.bn) m.nm m.st (.bool m.stn) m.ct (.bool m.ctn) m.sp (.bool m.spn) m.an (.bool m.af) (.int m.aw) (.int m.now) m.due m.dn m.hp (.bool m.hn) (.bool false) m.ev (.bool m.en) (.int t) due2 dn1 hp2 (.bool b1) (.bool (decide (0 < (len out : Int)))) sp' (.bool sb) m.an = .row [.int 2] := (Sr ..).trans z1;rw [M8 (h0 := w1) (h1 := w2) (h2 := s1) (h3 := z3) (h4 := rfl) (h5 := rfl) (h6 := rfl), ifF (by omega), ifF c1]
   rfl
theorem Vh (h : Inv S C T n m r) (hn : n < 900) : ∃ (ev' : D) (en' : Bool) (b' : D) (bn' : Bool) (dn' hp' due' : D) (hn' : Bool),
  Vf m.b (.bool m.bn) m.nm m.st (.bool m.stn) m.ct (.bool m.ctn) m.sp (.bool m.spn) m.an (.bool m.af) (.int m.aw) (.int m.now) m.due m.dn m.hp (.bool m.hn) (.bool m.ov) m.ev (.bool m.en) = .row [.int 1, m.st, m.ct, m.sp, m.nm, .bool m.stn, .bool m.ctn, .bool m.spn, m.an, .bool m.af, .int m.aw, .bool m.ov, ev', .bool en', b', .bool bn', .int m.now, dn', hp', .bool hn', due'] ∧
  Inv S C T n { m with ev := ev', en := en', b := b', bn := bn', dn := dn', hp := hp', due := due', hn := hn' } r := by
 obtain ⟨o, ck, ti⟩ := h.o;have hl := h.hl;have el := h.el;have el' := h.el';have lb := h.bk.lb;have c1 := h.rk.c1;obtain ⟨dn1, hp1, due1, b1, q1, q2, q3⟩ := RX (now := m.now) ck (by omega)
 have B : ∃ (b' : D) (bn' : Bool), O6 m.b (.bool m.bn) = .row [.int 1, b', .bool bn'] ∧ Bk b' C r.vals ∧ (bn' = true → len C = 0) := by
  have X : ∃ (b' : D) (bn' : Bool), Fd m.b (.bool m.bn) = .row [.int 1, b', .bool bn'] ∧ Bk b' C r.vals ∧ (bn' = true → len C = 0) := by
   rw [YL];cases hb : m.bn with
   | true =>
    have z := h.bn hb;exact ⟨Ar, true, rfl, ⟨by rw [BI]; omega, h.bk.lv, H5, h.bk.wv, fun j hj => by omega, fun j hj => by omega, fun j hj => by omega⟩, fun _ => z⟩
   | false =>
    rw [cF rfl, ifT (by omega)]
    exact ⟨ct Ac m.b, false, rfl, ⟨h.bk.lb, h.bk.lv, h.bk.wb, h.bk.wv, h.bk.nm, h.bk.lm, h.bk.vl⟩, (fun c => by cases c)⟩
  obtain ⟨b', bn', x1, x2, x3⟩ := X;refine ⟨b', bn', ?_, x2, x3⟩;rw [eM, x1];rfl
 obtain ⟨b', bn', x1, x2, x3⟩ := B
 have V : ∃ (ev' : D) (en' : Bool), Ft m.ev (.bool m.en) = .row [.int 1, ev', .bool en'] ∧ len ev' = len r.evs ∧ (∀ j : Nat, j < len r.evs → (cl ev' j 0).toInt = (cl r.evs j 0).toInt ∧ (cl ev' j 1).toInt = (cl r.evs j 1).toInt) ∧ (en' = true → len ev' = 0) := by
  rw [YZ];cases hen : m.en with
  | true =>
   have z := h.en hen;exact ⟨Ar, true, rfl, by rw [BI]; omega, fun j hj => by omega, fun _ => rfl⟩
  | false =>
   rw [cF rfl, ifT (by omega)]
   exact ⟨ct Ac m.ev, false, rfl, h.el, h.ee, (fun c => by cases c)⟩
 obtain ⟨ev', en', y1, y2, y3, y4⟩ := V;refine ⟨ev', en', b', bn', dn1, hp1, due1, b1, ?_, ⟨h.rk, h.so, h.st, h.ct, h.sp, h.spn, x2, x3, h.df, h.at0, h.an, h.af, h.aw, h.nt, ⟨o, q3, ti⟩, by show len hp1 ≤ n; omega, y2, y3, y4, el'⟩⟩
 rw [j8, x1, q1, y1];rfl
end
end Mb
namespace Mb
open Go Go.AE
section
variable [An]
variable {S C T N : D} {n : Nat} {m : MS} {r : RS}
theorem aS {a b : D} {x y : Bool} (h : a.rows = b.rows) (hl : len a < 1000) : JL a (.bool x) b (.bool y) = .row [.int 1, .bool true] := by
 have e := Ba h
 have E : ∀ k j, j + k = len a → Sy a (.bool x) b (.bool y) (.int (j : Nat)) = .row [.int 1, .bool true] := by
  intro k
  induction k with
  | zero =>
   intro j hj;rw [YU, ifF (by omega)]
  | succ k ih =>
   intro j hj;rw [YU, ifT (by omega), ifF (by omega), ifT (by omega), ifT (by rw [FI h]), Bp (i := j) (by omega)]
   exact ih (j + 1) (by omega)
 rw [je, ifT (by omega)]
 exact E (len a) 0 (by omega)
theorem Ws {c : MS} (hc : Inv S C T n c r) (hn : n < 800) (N : D) : ∀ (k j : Nat) (o : MS) (ro : RS), j + k = len T → Inv S C T (n + j) o ro → o.st = c.st → o.ct = c.ct → o.sp = c.sp →
  RT (.int (j : Nat)) o.nm c.st (.bool o.stn) c.ct (.bool o.ctn) c.sp (.bool o.spn) o.an (.bool o.af) (.int o.aw) (.bool o.ov) o.ev (.bool o.en) o.b (.bool o.bn) N S C T r.at' (.int r.ent) r.defs r.vals (.int r.time) r.evs c.nm (.bool c.stn) (.bool c.ctn) (.bool c.spn) c.an (.bool c.af) (.int c.aw) (.bool c.ov) c.ev (.bool c.en) c.b (.bool c.bn) (.int c.now) c.dn c.hp (.bool c.hn) c.due (.int o.now) o.dn o.hp (.bool o.hn) o.due = .row [.int 1, N, S, C, T, r.at', .int r.ent, r.defs, r.vals, .int r.time, r.evs, .bool true, c.st, c.ct, c.sp, .int c.now, c.dn, c.hp, .bool c.hn, c.due, c.ev, c.nm, .bool c.stn, .bool c.ctn, .bool c.spn, c.an, .bool c.af, .int c.aw, .bool c.ov, .bool c.en, c.b, .bool c.bn] := by
 intro k
 induction k with
 | zero =>
  intro j o ro hj ho e1 e2 e3;have A := Fz hc (by omega) N
  rw [YM, ifF (by omega), A]
  rfl
 | succ k ih =>
  intro j o ro hj ho e1 e2 e3;have tl := hc.rk.t1;obtain ⟨an', af', aw', ov', ev', en', b', now', dn', hp', due', hn', r', e, q1, _, q3⟩ := Zi ho (by omega) N 1099511627776 (j : Int)
  rw [e1, e2, e3] at q1;rw [YM, ifT (by omega), q1]
  simp only [BX, BY, tI, tB, decide_true, cond_true];rw [Bp (i := j) (by omega)]
  exact ih (j + 1) { o with an := an', af := af', aw := aw', ov := ov', ev := ev', en := en', b := b', now := now', dn := dn', hp := hp', due := due', hn := hn' } r' (by omega) (by rw [show n + (j + 1) = n + j + 1 by omega]; exact q3) e1 e2 e3
theorem Z3 (h : Inv S C T n m r) (hn : n < 800) (N : D) (what t k : Int) (msg peer : D) : ∃ (m' : MS) (r' : RS), Wj m.b (.bool m.bn) m.nm m.st (.bool m.stn) m.ct (.bool m.ctn) m.sp (.bool m.spn) m.an (.bool m.af) (.int m.aw) (.int m.now) m.due m.dn m.hp (.bool m.hn) (.bool m.ov) m.ev (.bool m.en) N S C T r.at' (.int r.ent) r.defs r.vals (.int r.time) r.evs (.int what) (.int t) (.int k) msg peer = .row [.int 1, N, S, C, T, r'.at', .int r'.ent, r'.defs, r'.vals, .int r'.time, r'.evs, .bool true, m'.st, m'.ct, m'.sp, .int m'.now, m'.dn, m'.hp, .bool m'.hn, m'.due, m'.ev, m'.nm, .bool m'.stn, .bool m'.ctn, .bool m'.spn, m'.an, .bool m'.af, .int m'.aw, .bool m'.ov, .bool m'.en, m'.b, .bool m'.bn] ∧ Inv S C T (n + 1) m' r' := by
 have tl := h.rk.t1
 have CAN : ∃ (F2 F5 F13 : D) (m' : MS) (r' : RS), P3 m.b (.bool m.bn) m.nm m.st (.bool m.stn) m.ct (.bool m.ctn) m.sp (.bool m.spn) m.an (.bool m.af) (.int m.aw) (.int m.now) m.due m.dn m.hp (.bool m.hn) (.bool m.ov) m.ev (.bool m.en) (.int t) = F2 ∧ R7 N S C T r.at' (.int r.ent) r.defs r.vals (.int r.time) r.evs (.int t) = F5 ∧ Ex m.b (.bool m.bn) m.nm m.st (.bool m.stn) m.ct (.bool m.ctn) m.sp (.bool m.spn) m.an (.bool m.af) (.int m.aw) (sl F2 5) (sl F2 9) (sl F2 6) (sl F2 7) (sl F2 8) (sl F2 4) m.ev (.bool m.en) (sl F5 1) (sl F5 2) (sl F5 3) (sl F5 4) (sl F5 5) (sl F5 6) (sl F5 7) (sl F5 8) (sl F5 9) (sl F5 10) = F13 ∧
   cond (decide ((sl F2 0).toInt = 1)) (cond (decide ((sl F5 0).toInt = 1)) (cond (decide ((sl (JL (sl F2 1) (sl F2 2) (sl F5 11) (sl F5 12)) 0).toInt = 1)) (cond ((sl (JL (sl F2 1) (sl F2 2) (sl F5 11) (sl F5 12)) 1).toBool) (cond (decide ((sl F2 3).toInt = (sl F5 13).toInt)) (cond (decide ((sl F13 0).toInt = 1))
    (D.row [.int 1, (sl F5 1), (sl F5 2), (sl F5 3), (sl F5 4), (sl F5 5), (sl F5 6), (sl F5 7), (sl F5 8), (sl F5 9), (sl F5 10), (sl F13 1), m.st, m.ct, m.sp, (sl F2 5), (sl F2 6), (sl F2 7), (sl F2 8), (sl F2 9), m.ev, m.nm, (.bool m.stn), (.bool m.ctn), (.bool m.spn), m.an, (.bool m.af), (.int m.aw), (sl F2 4), (.bool m.en), m.b, (.bool m.bn)])
    (D.row [])) (D.row [.int 1, (sl F5 1), (sl F5 2), (sl F5 3), (sl F5 4), (sl F5 5), (sl F5 6), (sl F5 7), (sl F5 8), (sl F5 9), (sl F5 10), (.bool false), m.st, m.ct, m.sp, (sl F2 5), (sl F2 6), (sl F2 7), (sl F2 8), (sl F2 9), m.ev, m.nm, (.bool m.stn), (.bool m.ctn), (.bool m.spn), m.an, (.bool m.af), (.int m.aw), (sl F2 4), (.bool m.en), m.b, (.bool m.bn)])) (D.row [.int 1, (sl F5 1), (sl F5 2), (sl F5 3), (sl F5 4), (sl F5 5), (sl F5 6), (sl F5 7), (sl F5 8), (sl F5 9), (sl F5 10), (.bool false), m.st, m.ct, m.sp, (sl F2 5), (sl F2 6), (sl F2 7), (sl F2 8), (sl F2 9), m.ev, m.nm, (.bool m.stn), (.bool m.ctn), (.bool m.spn), m.an, (.bool m.af), (.int m.aw), (sl F2 4), (.bool m.en), m.b, (.bool m.bn)])) (D.row [])) (D.row [])) (D.row []) = .row [.int 1, N, S, C, T, r'.at', .int r'.ent, r'.defs, r'.vals, .int r'.time, r'.evs, .bool true, m'.st, m'.ct, m'.sp, .int m'.now, m'.dn, m'.hp, .bool m'.hn, m'.due, m'.ev, m'.nm, .bool m'.stn, .bool m'.ctn, .bool m'.spn, m'.an, .bool m'.af, .int m'.aw, .bool m'.ov, .bool m'.en, m'.b, .bool m'.bn] ∧ Inv S C T (n + 1) m' r' := by
  obtain ⟨ov', now', dn', hp', due', hn', time', l1, l2, b1, b2, e, q1, q2, q3, q4, q5, _⟩ := Ui h (by omega) N t
  have A := Fz q5 (by omega) N
  refine ⟨_, _, _, _, _, q1, q2, A, ?_, q5.mono (by omega)⟩
  simp only [BX, BY, tI, tB, decide_true, cond_true, aS q3 (by omega)]
 have DO : ∀ t : Int, ∃ (F0 F3 F10 : D) (m' : MS) (r' : RS), CJ m.b (.bool m.bn) m.nm m.st (.bool m.stn) m.ct (.bool m.ctn) m.sp (.bool m.spn) m.an (.bool m.af) (.int m.aw) (.int m.now) m.due m.dn m.hp (.bool m.hn) (.bool m.ov) m.ev (.bool m.en) (.int t) (.int k) = F0 ∧ Cw N S C T r.at' (.int r.ent) r.defs r.vals (.int r.time) r.evs (.int t) (.int k) = F3 ∧ Ex (sl F0 8) (sl F0 9) m.nm m.st (.bool m.stn) m.ct (.bool m.ctn) m.sp (.bool m.spn) (sl F0 2) (sl F0 3) (sl F0 4) (sl F0 10) (sl F0 14) (sl F0 11) (sl F0 12) (sl F0 13) (sl F0 5) (sl F0 6) (sl F0 7) (sl F3 1) (sl F3 2) (sl F3 3) (sl F3 4) (sl F3 5) (sl F3 6) (sl F3 7) (sl F3 8) (sl F3 9) (sl F3 10) = F10 ∧
   cond (decide ((sl F0 0).toInt = 1)) (cond (decide ((sl F3 0).toInt = 1)) (cond (decide ((sl F0 1).toInt = (sl F3 11).toInt)) (cond (decide ((sl F10 0).toInt = 1)) (D.row [.int 1, (sl F3 1), (sl F3 2), (sl F3 3), (sl F3 4), (sl F3 5), (sl F3 6), (sl F3 7), (sl F3 8), (sl F3 9), (sl F3 10), (sl F10 1), m.st, m.ct, m.sp, (sl F0 10), (sl F0 11), (sl F0 12), (sl F0 13), (sl F0 14), (sl F0 6), m.nm, (.bool m.stn), (.bool m.ctn), (.bool m.spn), (sl F0 2), (sl F0 3), (sl F0 4), (sl F0 5), (sl F0 7), (sl F0 8), (sl F0 9)]) (D.row [])) (D.row [.int 1, (sl F3 1), (sl F3 2), (sl F3 3), (sl F3 4), (sl F3 5), (sl F3 6), (sl F3 7), (sl F3 8), (sl F3 9), (sl F3 10), .bool false, m.st, m.ct, m.sp, (sl F0 10), (sl F0 11), (sl F0 12), (sl F0 13), (sl F0 14), (sl F0 6), m.nm, (.bool m.stn), (.bool m.ctn), (.bool m.spn), (sl F0 2), (sl F0 3), (sl F0 4), (sl F0 5), (sl F0 7), (sl F0 8), (sl F0 9)])) (D.row [])) (D.row []) = .row [.int 1, N, S, C, T, r'.at', .int r'.ent, r'.defs, r'.vals, .int r'.time, r'.evs, .bool true, m'.st, m'.ct, m'.sp, .int m'.now, m'.dn, m'.hp, .bool m'.hn, m'.due, m'.ev, m'.nm, .bool m'.stn, .bool m'.ctn, .bool m'.spn, m'.an, .bool m'.af, .int m'.aw, .bool m'.ov, .bool m'.en, m'.b, .bool m'.bn] ∧ Inv S C T (n + 1) m' r' := by
  intro t;obtain ⟨an', af', aw', ov', ev', en', b', now', dn', hp', due', hn', r', e, q1, q2, q3⟩ := Zi h (by omega) N t k
  have A := Fz q3 (by omega) N
  refine ⟨_, _, _, _, r', q1, q2, A, ?_, q3⟩;simp only [BX, BY, tI, tB, decide_true, cond_true]
 have RCV : ∃ (F1 F4 F12 : D) (m' : MS) (r' : RS), MX m.b (.bool m.bn) m.nm m.st (.bool m.stn) m.ct (.bool m.ctn) m.sp (.bool m.spn) m.an (.bool m.af) (.int m.aw) (.int m.now) m.due m.dn m.hp (.bool m.hn) (.bool m.ov) m.ev (.bool m.en) (.int t) msg peer = F1 ∧ MN N S C T r.at' (.int r.ent) r.defs r.vals (.int r.time) r.evs (.int t) msg peer = F4 ∧ Ex (sl F1 9) (sl F1 10) m.nm m.st (.bool m.stn) m.ct (.bool m.ctn) m.sp (.bool m.spn) (sl F1 3) (sl F1 4) (sl F1 5) (sl F1 11) (sl F1 15) (sl F1 12) (sl F1 13) (sl F1 14) (sl F1 6) (sl F1 7) (sl F1 8) (sl F4 1) (sl F4 2) (sl F4 3) (sl F4 4) (sl F4 5) (sl F4 6) (sl F4 7) (sl F4 8) (sl F4 9) (sl F4 10) = F12 ∧
   cond (decide ((sl F1 0).toInt = 1)) (cond (decide ((sl F4 0).toInt = 1)) (cond (decide ((sl F1 1).toInt = (sl F4 11).toInt)) (cond (decide ((sl F1 2).toInt = (sl F4 12).toInt)) (cond (decide ((sl F12 0).toInt = 1)) (D.row [.int 1, (sl F4 1), (sl F4 2), (sl F4 3), (sl F4 4), (sl F4 5), (sl F4 6), (sl F4 7), (sl F4 8), (sl F4 9), (sl F4 10), (sl F12 1), m.st, m.ct, m.sp, (sl F1 11), (sl F1 12), (sl F1 13), (sl F1 14), (sl F1 15), (sl F1 7), m.nm, (.bool m.stn), (.bool m.ctn), (.bool m.spn), (sl F1 3), (sl F1 4), (sl F1 5), (sl F1 6), (sl F1 8), (sl F1 9), (sl F1 10)]) (D.row [])) (D.row [.int 1, (sl F4 1), (sl F4 2), (sl F4 3), (sl F4 4), (sl F4 5), (sl F4 6), (sl F4 7), (sl F4 8), (sl F4 9), (sl F4 10), .bool false, m.st, m.ct, m.sp, (sl F1 11), (sl F1 12), (sl F1 13), (sl F1 14), (sl F1 15), (sl F1 7), m.nm, (.bool m.stn), (.bool m.ctn), (.bool m.spn), (sl F1 3), (sl F1 4), (sl F1 5), (sl F1 6), (sl F1 8), (sl F1 9), (sl F1 10)])) (D.row [.int 1, (sl F4 1), (sl F4 2), (sl F4 3), (sl F4 4), (sl F4 5), (sl F4 6), (sl F4 7), (sl F4 8), (sl F4 9), (sl F4 10), .bool false, m.st, m.ct, m.sp, (sl F1 11), (sl F1 12), (sl F1 13), (sl F1 14), (sl F1 15), (sl F1 7), m.nm, (.bool m.stn), (.bool m.ctn), (.bool m.spn), (sl F1 3), (sl F1 4), (sl F1 5), (sl F1 6), (sl F1 8), (sl F1 9), (sl F1 10)])) (D.row [])) (D.row []) = .row [.int 1, N, S, C, T, r'.at', .int r'.ent, r'.defs, r'.vals, .int r'.time, r'.evs, .bool true, m'.st, m'.ct, m'.sp, .int m'.now, m'.dn, m'.hp, .bool m'.hn, m'.due, m'.ev, m'.nm, .bool m'.stn, .bool m'.ctn, .bool m'.spn, m'.an, .bool m'.af, .int m'.aw, .bool m'.ov, .bool m'.en, m'.b, .bool m'.bn] ∧ Inv S C T (n + 1) m' r' := by
  obtain ⟨an', af', aw', ov', ev', en', b', now', dn', hp', due', hn', r', w, e, q1, q2, q3⟩ := Q3 h (by omega) N t msg peer
  have A := Fz q3 (by omega) N
  refine ⟨_, _, _, _, r', q1, q2, A, ?_, q3⟩;simp only [BX, BY, tI, tB, decide_true, cond_true]
 by_cases x0 : what = 0
 ·obtain ⟨F2, F5, F13, m', r', a, b, c, d, i⟩ := CAN;exact ⟨m', r', by rw [IN (h0 := rfl) (h1 := rfl) (h2 := a) (h3 := rfl) (h4 := rfl) (h5 := b) (h6 := rfl) (h7 := rfl) (h8 := rfl) (h9 := rfl) (h10 := rfl) (h11 := rfl) (h12 := rfl) (h13 := c) (h14 := rfl), ifT x0]; exact d, i⟩
 by_cases x1 : what = 1
 ·obtain ⟨F2, F5, F13, m', r', a, b, c, d, i⟩ := CAN;exact ⟨m', r', by rw [IN (h0 := rfl) (h1 := rfl) (h2 := a) (h3 := rfl) (h4 := rfl) (h5 := b) (h6 := rfl) (h7 := rfl) (h8 := rfl) (h9 := rfl) (h10 := rfl) (h11 := rfl) (h12 := rfl) (h13 := c) (h14 := rfl), ifF x0, ifT x1]; exact d, i⟩
 by_cases x2 : what = 2
 ·obtain ⟨F0, F3, F10, m', r', a, b, c, d, i⟩ := DO t;exact ⟨m', r', by rw [IN (h0 := a) (h1 := rfl) (h2 := rfl) (h3 := b) (h4 := rfl) (h5 := rfl) (h6 := rfl) (h7 := rfl) (h8 := rfl) (h9 := rfl) (h10 := c) (h11 := rfl) (h12 := rfl) (h13 := rfl) (h14 := rfl), ifF x0, ifF x1, ifT x2]; exact d, i⟩
 by_cases x3 : what = 3
 ·obtain ⟨F0, F3, F10, m', r', a, b, c, d, i⟩ := DO t;exact ⟨m', r', by rw [IN (h0 := a) (h1 := rfl) (h2 := rfl) (h3 := b) (h4 := rfl) (h5 := rfl) (h6 := rfl) (h7 := rfl) (h8 := rfl) (h9 := rfl) (h10 := c) (h11 := rfl) (h12 := rfl) (h13 := rfl) (h14 := rfl), ifF x0, ifF x1, ifF x2, ifT x3]; exact d, i⟩
 by_cases x4 : what = 4
 ·obtain ⟨F0, F3, F10, m', r', a, b, c, d, i⟩ := DO t;exact ⟨m', r', by rw [IN (h0 := a) (h1 := rfl) (h2 := rfl) (h3 := b) (h4 := rfl) (h5 := rfl) (h6 := rfl) (h7 := rfl) (h8 := rfl) (h9 := rfl) (h10 := c) (h11 := rfl) (h12 := rfl) (h13 := rfl) (h14 := rfl), ifF x0, ifF x1, ifF x2, ifF x3, ifT x4]; exact d, i⟩
 by_cases x5 : what = 5
 ·obtain ⟨F1, F4, F12, m', r', a, b, c, d, i⟩ := RCV;exact ⟨m', r', by rw [IN (h0 := rfl) (h1 := a) (h2 := rfl) (h3 := rfl) (h4 := b) (h5 := rfl) (h6 := rfl) (h7 := rfl) (h8 := rfl) (h9 := rfl) (h10 := rfl) (h11 := rfl) (h12 := c) (h13 := rfl) (h14 := rfl), ifF x0, ifF x1, ifF x2, ifF x3, ifF x4, ifT x5]; exact d, i⟩
 by_cases x6 : what = 6
 ·obtain ⟨F1, F4, F12, m', r', a, b, c, d, i⟩ := RCV;exact ⟨m', r', by rw [IN (h0 := rfl) (h1 := a) (h2 := rfl) (h3 := rfl) (h4 := b) (h5 := rfl) (h6 := rfl) (h7 := rfl) (h8 := rfl) (h9 := rfl) (h10 := rfl) (h11 := rfl) (h12 := c) (h13 := rfl) (h14 := rfl), ifF x0, ifF x1, ifF x2, ifF x3, ifF x4, ifF x5, ifT x6]; exact d, i⟩
 by_cases x7 : what = 7
 ·obtain ⟨ev', en', b', bn', dn', hp', due', hn', q1, q2⟩ := Vh h (by omega)
  obtain ⟨ov2, now2, dn2, hp2, due2, hn2, time2, l1, l2, b1, b2, e, p1, p2, p3, p4, p5, _⟩ := Ui h (by omega) N 1099511627776
  have L := Ws q2 hn N (len T) 0 _ _ (by omega) p5 rfl rfl rfl
  refine ⟨_, r, ?_, q2.mono (by omega)⟩
  rotate_left;rw [IN (h0 := rfl) (h1 := rfl) (h2 := rfl) (h3 := rfl) (h4 := rfl) (h5 := rfl) (h6 := q1) (h7 := rfl) (h8 := rfl) (h9 := rfl) (h10 := rfl) (h11 := p1) (h12 := rfl) (h13 := rfl) (h14 := rfl), ifF x0, ifF x1, ifF x2, ifF x3, ifF x4, ifF x5, ifF x6, ifT x7];simp only [BX, BY, tI, tB, decide_true, cond_true];exact L
 ·obtain ⟨a, e, n1, n2, _⟩ := SS h N;obtain ⟨F0, F3, F10, m', r', u, v, c, d, i⟩ := DO a;exact ⟨m', r', by rw [IN (h0 := rfl) (h1 := rfl) (h2 := rfl) (h3 := rfl) (h4 := rfl) (h5 := rfl) (h6 := rfl) (h7 := n2) (h8 := u) (h9 := v) (h10 := rfl) (h11 := rfl) (h12 := rfl) (h13 := rfl) (h14 := c), ifF x0, ifF x1, ifF x2, ifF x3, ifF x4, ifF x5, ifF x6, ifF x7]; exact d, i⟩
end
end Mb
namespace Mb
open Go Go.AE
section
variable [An]
variable {S C T N : D}
def bL (C : D) : Nat → D
 | 0 => Ar
 | i + 1 => ad (bL C i) (.row [cl C i 0, cl C i 1, .int 0])
def dL (C : D) : Nat → D
 | 0 => Ar
 | i + 1 => ad (dL C i) (.row [cl C i 0, cl C i 1])
def zL : Nat → D
 | 0 => Ar
 | i + 1 => ad (zL i) (.row [.int 0])
theorem NO : ∀ i, len (bL C i) = i
 | 0 => rfl
 | i + 1 => by rw [bL, B7, NO]
theorem Oa : ∀ i, len (dL C i) = i
 | 0 => rfl
 | i + 1 => by rw [dL, B7, Oa]
theorem NR : ∀ i, len (zL i) = i
 | 0 => rfl
 | i + 1 => by rw [zL, B7, NR]
theorem Y8 : ∀ i, Wd (bL C i) 3
 | 0 => H5
 | i + 1 => VX (Y8 i) rfl
theorem YS : ∀ i, Wd (zL i) 1
 | 0 => H5
 | i + 1 => VX (YS i) rfl
theorem O9 : ∀ i j : Nat, j < i → cl (bL C i) j 0 = cl C j 0 ∧ cl (bL C i) j 1 = cl C j 1 ∧ cl (bL C i) j 2 = .int 0
 | 0, j, h => by omega
 | i + 1, j, h => by
  rw [bL, Dg (by omega), Dg (by omega), Dg (by omega), NO]
  by_cases q : (j : Int) = i
  ·rw [if_pos q, if_pos q, if_pos q, q]; exact ⟨rfl, rfl, rfl⟩
  ·rw [if_neg q, if_neg q, if_neg q]; exact O9 i j (by omega)
theorem V4 : ∀ i j : Nat, j < i → cl (dL C i) j 0 = cl C j 0 ∧ cl (dL C i) j 1 = cl C j 1
 | 0, j, h => by omega
 | i + 1, j, h => by
  rw [dL, Dg (by omega), Dg (by omega), Oa]
  by_cases q : (j : Int) = i
  ·rw [if_pos q, if_pos q, q]; exact ⟨rfl, rfl⟩
  ·rw [if_neg q, if_neg q]; exact V4 i j (by omega)
theorem YD : ∀ i j : Nat, j < i → cl (zL i) j 0 = .int 0
 | 0, j, h => by omega
 | i + 1, j, h => by
  rw [zL, Dg (by omega), NR]
  by_cases q : (j : Int) = i
  ·rw [if_pos q]; rfl
  ·rw [if_neg q]; exact YD i j (by omega)
theorem Un (rk : Rk S C T) {i j : Nat} (hi : i < len C) (hj : j < i) : D.strEq (cl C j 0) (cl C i 0) = false := by
 have e := rk.cid i hi;unfold fd at e;exact OJ (p := fun j => D.strEq (cl C j 0) (cl C i 0)) (k := len C) (i := 0) (j := j) (Nat.zero_le _) (.inl (by rw [e]; omega))
theorem bB (rk : Rk S C T) : CB C = .row [.int 1, bL C (len C), .bool (decide (len C = 0))] := by
 have c1 := rk.c1
 have E : ∀ k i, i + k = len C → Sf C (.int (i : Nat)) (bL C i) (.bool (decide (i = 0))) = .row [.int 1, bL C (len C), .bool (decide (len C = 0))] := by
  intro k
  induction k with
  | zero =>
   intro i hi;have : i = len C := by omega
   subst this;rw [YC, ifF (by omega)]
  | succ k ih =>
   intro i hi;have l := rk.lim i (by omega)
   have b := NO (C := C) i
   have z : fd (bL C i) (cl C i 0) = -1 := by
    unfold fd;rw [b];exact X9 fun j _ hj => by rw [(O9 i j (by omega)).1]; exact Un rk (by omega) (by omega)
   have F := NZ (b := bL C i) (bn := decide (i = 0)) (by omega) (cl C i 0)
   rw [z] at F;have nx := ih (i + 1) (by omega)
   rw [decide_eq_false (show ¬ i + 1 = 0 by omega)] at nx
   rw [YC, ifT (by omega), ifF (by omega), cF (rk.cne i (by omega)), ifF (by omega), ifF (by omega), F, ifT (p := (len (bL C i) : Int) < 1073741824) (by omega)]
   simp only [BX, BY, tI, decide_true, cond_true];rw [iT (by omega), Bp (i := i) (by omega)]
   exact nx
 rw [jr, ifF (by omega)]
 exact E (len C) 0 (by omega)
theorem aR (rk : Rk S C T) : Pf C = .row [.int 1, ni (dL C (len C)) (decide (len C = 0)), ni (zL (len C)) (decide (len C = 0)), .int 0] := by
 have c1 := rk.c1
 have E2 : ∀ (i : Nat) (a b : D) (x y : Bool), i < len C → len a = i → len b = i → ∀ k j, j + k = i → Sd C (.int (i : Nat)) (.int (j : Nat)) a (.bool x) b (.bool y) = P6 C (.int (i + 1 : Nat)) (ad a (.row [cl C i 0, cl C i 1])) (.bool false) (ad b (.row [.int 0])) (.bool false) := by
  intro i a b x y hi ha hb k
  induction k with
  | zero =>
   intro j hj;rw [Zh, ifF (by omega), ifF (by omega), ifT (by omega), ifT (by omega), ifT (by omega), Bp (i := i) (by omega)]
  | succ k ih =>
   intro j hj;rw [Zh, ifT (by omega), ifF (by omega), ifT (by omega), ifF (by omega), ifT (by omega), cF (Un rk hi (by omega)), Bp (i := j) (by omega)]
   exact ih (j + 1) (by omega)
 have E : ∀ k i, i + k = len C → P6 C (.int (i : Nat)) (dL C i) (.bool (decide (i = 0))) (zL i) (.bool (decide (i = 0))) = .row [.int 1, ni (dL C (len C)) (decide (len C = 0)), ni (zL (len C)) (decide (len C = 0)), .int 0] := by
  intro k
  induction k with
  | zero =>
   intro i hi;have : i = len C := by omega
   subst this;rw [Y0, ifF (by omega)]
  | succ k ih =>
   intro i hi;have l := rk.lim i (by omega)
   have nx := ih (i + 1) (by omega)
   rw [decide_eq_false (show ¬ i + 1 = 0 by omega)] at nx
   rw [Y0, ifT (by omega), ifF (by omega), cF (rk.cne i (by omega)), ifF (by omega), ifF (by omega)]
   exact (E2 i _ _ _ _ (by omega) (Oa i) (NR i) i 0 (by omega)).trans nx
 rw [ja, ifF (by omega)]
 exact E (len C) 0 (by omega)
def FC (a : D) : Prop := a.isNil = true → a.rows = []
theorem XJ (h : FC S) (hs : len S < 1000) : ∃ (l : D) (b : Bool), CM S = .row [.int 1, l, .bool b] ∧ l.rows = S.rows ∧ (b = true → S.rows = []) := by
 rw [gU];cases q : S.isNil
 ·rw [cF rfl, ifT (by omega)]; exact ⟨ct Ac S, false, rfl, rfl, (fun c => by cases c)⟩
 ·exact ⟨Ar, true, rfl, (h q).symm, fun _ => h q⟩
theorem Yf (h : FC S) (hs : len S < 1000) : ∃ (l : D) (b : Bool), CH S = .row [.int 1, l, .bool b] ∧ l.rows = S.rows ∧ (b = true → S.rows = []) := by
 rw [ig];cases q : S.isNil
 ·rw [cF rfl, ifT (by omega)]; exact ⟨ct Ac S, false, rfl, rfl, (fun c => by cases c)⟩
 ·exact ⟨Ar, true, rfl, (h q).symm, fun _ => h q⟩
theorem Xz (h : FC S) (hs : len S < 1000) : ∃ (l : D) (b : Bool), CE S = .row [.int 1, l, .bool b] ∧ l.rows = S.rows ∧ (b = true → S.rows = []) := by
 rw [j3];cases q : S.isNil
 ·rw [cF rfl, ifT (by omega)]; exact ⟨ct Ac S, false, rfl, rfl, (fun c => by cases c)⟩
 ·exact ⟨Ar, true, rfl, (h q).symm, fun _ => h q⟩
theorem ZO (rk : Rk S C T) (so : WK S) (n1 : FC S) (n2 : FC C) (n3 : FC T) (hs : GD N S C T = 0) : ∃ (m : MS) (r : RS),
  SP N S C T = .row [.int 1, N, m.st, .bool m.stn, m.ct, .bool m.ctn, m.sp, .bool m.spn, m.an, .bool m.af, .int m.aw, Ar, m.b, .bool m.bn, m.dn, m.hp, .bool m.hn, m.due] ∧
  DP N S C T = .row [.int 1, N, S, C, T, r.at', r.defs, r.vals, .int 0] ∧ Inv S C T 1 m r ∧
  m.nm = N ∧ m.now = 0 ∧ m.ov = false ∧ m.ev = Ar ∧ m.en = true ∧ r.ent = 0 ∧ r.time = 0 ∧ r.evs = Ar ∧ (m.stn = true → S.rows = []) ∧ (m.ctn = true → C.rows = []) := by
 have s0 := rk.s0;have s1 := rk.s1;have c1 := rk.c1;have t1 := rk.t1;obtain ⟨i9, q9⟩ := Zj (v1 := S) (v2 := C) rk.tI (by omega) s1 (by omega) N
 obtain ⟨i28, q28⟩ := PI (v1 := S) (v2 := C) rk.tI (by omega) s1 (by omega) N
 rw [hs] at q9 q28;obtain ⟨a12, b12, q12, r12, z12⟩ := XJ n1 (by omega)
 obtain ⟨a13, b13, q13, r13, z13⟩ := Yf n2 (by omega)
 obtain ⟨a14, b14, q14, r14, z14⟩ := Xz n3 (by omega)
 have q11 := bB rk;have q29 := aR rk;have k0 : fd S (cl S (0 : Nat) 0) = (0 : Nat) := rk.sid 0 s0;have k0 : fd S (cl S 0 0) = 0 := k0;have ck : CK Ac (.bool true) Ar true none := ⟨rfl, H5, fun j hj => by rw [BI] at hj; omega, fun _ => rfl, fun d c => by cases c⟩
 obtain ⟨af', aw', dn', hp', due', hn', e1, e2, e3, e4, e5⟩ := Mj so s1 rk.wt (st := a12) (stn := b12) r12 ck (now := 0) (by rw [BI]; omega) (by omega) (by omega) (key := cl S 0 0) (by omega) (bL C (len C)) N a13 a14 (CG 0 0) Ar (decide (len C = 0)) b13 b14 false false true 0
 rw [k0] at e1 e2 e3;rw [BI] at e4;have bk : Bk (bL C (len C)) C (ni (zL (len C)) (decide (len C = 0))) := ⟨NO _, NR _, Y8 _, YS _, fun j hj => (O9 _ j hj).1, fun j hj => (O9 _ j hj).2.1, fun j hj => ⟨0, (O9 _ j hj).2.2, YD _ j hj, by omega, by have := rk.lim j hj; omega⟩⟩
 have df : Df (ni (dL C (len C)) (decide (len C = 0))) C := ⟨Oa _, fun j hj => (V4 _ j hj).1, fun j hj => (V4 _ j hj).2⟩
 refine ⟨⟨bL C (len C), decide (len C = 0), N, a12, b12, a13, b13, a14, b14, cl S 0 0, af', aw', 0, due', dn', hp', hn', false, Ar, true⟩, ⟨cl S 0 0, 0, ni (dL C (len C)) (decide (len C = 0)), ni (zL (len C)) (decide (len C = 0)), 0, Ar⟩, ?_, ?_, ?_, rfl, rfl, rfl, rfl, rfl, rfl, rfl, rfl, z12, z13⟩
 ·rw [YW, q9, q11, q12, q13, q14];simp only [BX, BY, tI, tB, decide_true, cond_true];rw [iT (by omega)]
  rw [e3];rfl
 ·rw [YH, q28, q29];simp only [BX, BY, tI, tB, decide_true, cond_true];rw [iT (by omega)]
 ·exact ⟨rk, so, r12, r13, r14, z14, bk, fun c => dT c, df, by show 0 ≤ fd S (cl S 0 0); omega, JN, by show cl S (fd S (cl S 0 0)) 1 = _; rw [k0]; exact e1, by show cl S (fd S (cl S 0 0)) 2 = _; rw [k0]; exact e2, rfl, e5, by show len hp' ≤ 1; omega, rfl, fun j hj => (by have hj : j < len Ar := hj; rw [BI] at hj; omega), fun _ => rfl, by show len Ar ≤ 1; rw [BI]; omega⟩
end
end Mb
namespace Mb
open Go Go.AE
section
variable [An]
variable {S C T N A X V b d : D} {bn : Bool} {n : Nat} {m : MS} {r : RS}
def Vals (X : D) : Prop := Wd X 1 ∧ ∀ i : Nat, i < len X → ∃ x, cl X i 0 = .int x
theorem O0 (hs : len S < 1000) (key X : D) (xb : Bool) : Ny S key X (.bool xb) = .row [.int 1, .bool (!decide (fd S key < 0))] := by
 have e : RW S key X (.bool xb) = .row [.int 1, .int (fd S key)] := (lM ..).trans (Dr (F := fun i => SC S (.int i) key X (.bool xb)) (by omega) fun i => l7 ..)
 rw [lX, e];rfl
theorem Bu {V : D} : len (ct Ac V) = len V := rfl
theorem bw (rk : Rk S C T) (hb : Bk b C V) (hd : Df d C) (hX : Vals X) :
  (∃ e e' : Int, e ≠ 0 ∧ e' ≠ 0 ∧ St b (.bool bn) (ct Ac X) (.bool false) = .row [.int 1, .int e, b] ∧ Lo d V X = .row [.int 1, d, V, .int e']) ∨
  (∃ b' : D, St b (.bool bn) (ct Ac X) (.bool false) = .row [.int 1, .int 0, b'] ∧ Lo d V X = .row [.int 1, d, ni (ct Ac X) false, .int 0] ∧ len b' = len b ∧ Bk b' C (ni (ct Ac X) false)) := by
 have c1 := rk.c1;have lb := hb.lb;have lv := hb.lv;have ld := hd.ld;by_cases q : len X = len C;rotate_left
 ·left;refine ⟨2, 2, by omega, by omega, ?_, ?_⟩
  ·rw [Yv, ifF (by rw [Bu]; omega)]
  ·rw [Zf, ifF (by omega)]
 have W : ∀ k j (b' : D), j + k = len X → len b' = len C → Wd b' 3 → (∀ i : Nat, i < len C → cl b' i 0 = cl C i 0 ∧ cl b' i 1 = cl C i 1) → (∀ i : Nat, i < j → cl b' i 2 = cl X i 0) →
   ∃ b2, Ps (ct Ac X) (.bool false) (.int (len X : Int)) (.int (j : Nat)) b' (.bool bn) = .row [.int 1, .int 0, b2] ∧ len b2 = len C ∧ Wd b2 3 ∧ (∀ i : Nat, i < len C → cl b2 i 0 = cl C i 0 ∧ cl b2 i 1 = cl C i 1) ∧ (∀ i : Nat, i < len X → cl b2 i 2 = cl X i 0) := by
  intro k
  induction k with
  | zero =>
   intro j b' hj h1 h2 h3 h4;exact ⟨b', by rw [YV, ifF (by omega)], h1, h2, h3, fun i hi => h4 i (by omega)⟩
  | succ k ih =>
   intro j b' hj h1 h2 h3 h4;have CU : ∀ (i : Nat) (c : Nat), cl (upd b' j 2 (cl X j 0)) i c = if (i : Int) = j ∧ c = 2 then cl X j 0 else cl b' i c := fun i c => Eu h2 (by omega) (by omega) (by omega) (by omega)
   rw [YV, ifT (by omega), ifF (by omega), ifT (by rw [Bu]; omega), ifT (by omega), Bp (i := j) (by omega), Ch]
   refine ih (j + 1) _ (by omega) (by rw [CS]; exact h1) (D3 h2) (fun i hi => ?_) (fun i hi => ?_)
   ·rw [CU i 0, CU i 1, if_neg (by omega), if_neg (by omega)]
    exact h3 i hi
   ·rw [CU i 2];by_cases z : i = j
    ·subst z; rw [if_pos ⟨rfl, rfl⟩]
    ·rw [if_neg (by omega)]; exact h4 i (by omega)
 have L : ∀ k j, j + k = len X → (∀ i : Nat, i < j → 0 ≤ (cl X i 0).toInt ∧ (cl X i 0).toInt ≤ (cl C i 1).toInt) →
   (PU (ct Ac X) (.bool false) (.int (j : Nat)) b (.bool bn) = .row [.int 1, .int 3, b] ∧ Pw X (.int (j : Nat)) d V = .row [.int 1, d, V, .int 3]) ∨
   ((∀ i : Nat, i < len X → 0 ≤ (cl X i 0).toInt ∧ (cl X i 0).toInt ≤ (cl C i 1).toInt) ∧ PU (ct Ac X) (.bool false) (.int (j : Nat)) b (.bool bn) = Ps (ct Ac X) (.bool false) (.int (len X : Int)) (.int (0 : Nat)) b (.bool bn) ∧ Pw X (.int (j : Nat)) d V = .row [.int 1, d, ni (ct Ac X) false, .int 0]) := by
  intro k
  induction k with
  | zero =>
   intro j hj hf;right;refine ⟨fun i hi => hf i (by omega), ?_, ?_⟩
   ·rw [Yo, ifF (by rw [Bu]; omega), Bu]; rfl
   ·rw [Yu, ifF (by omega), ifT (p := (len X : Int) < 1048576) (by omega)]
  | succ k ih =>
   intro j hj hf;have E1 := Yo (ct Ac X) false (j : Nat) b bn;have E2 := Yu X (j : Nat) d V;rw [ifT (by rw [Bu]; omega), ifF (by omega), Ch] at E1
   rw [ifT (by omega), ifF (by omega)] at E2
   by_cases a1 : (cl X j 0).toInt < 0
   ·rw [ifT a1] at E1 E2; rw [E1, E2]; exact .inl ⟨rfl, rfl⟩
   rw [ifF a1] at E1 E2;rw [ifT (by omega), hb.lm j (by omega)] at E1
   rw [ifT (by omega), hd.lm j (by omega)] at E2
   by_cases a2 : (cl C j 1).toInt < (cl X j 0).toInt
   ·rw [ifT a2] at E1 E2; rw [E1, E2]; exact .inl ⟨rfl, rfl⟩
   rw [ifF a2, Bp (i := j) (by omega)] at E1 E2
   rw [E1, E2];refine ih (j + 1) (by omega) fun i hi => ?_
   by_cases z : i = j
   ·subst z; omega
   ·exact hf i (by omega)
 rw [Yv, ifT (by rw [Bu]; omega), Zf, ifT (by omega)]
 rcases L (len X) 0 (by omega) (fun i hi => by omega) with ⟨q1, q2⟩ | ⟨g, q1, q2⟩
 ·exact .inl ⟨3, 3, by omega, by omega, q1, q2⟩
 ·obtain ⟨b2, w1, w2, w3, w4, w5⟩ := W (len X) 0 b (by omega) lb hb.wb (fun i hi => ⟨hb.nm i hi, hb.lm i hi⟩) (fun i hi => by omega)
  refine .inr ⟨b2, q1.trans w1, q2, by omega, w2, q, w3, hX.1, fun j hj => (w4 j hj).1, fun j hj => (w4 j hj).2, fun j hj => ?_⟩
  obtain ⟨x, hx⟩ := hX.2 j (by omega)
  have gj := g j (by omega)
  rw [hx, tI] at gj;exact ⟨x, by rw [w5 j (by omega)]; exact hx, by rw [SL, Ch]; exact hx, gj.1, gj.2⟩
theorem aB (hX : len X < 1000) : Ez (ct Ac X) (.bool false) X = .row [.int 1, .bool true] := by
 have E : ∀ k j, j + k = len X → Pp (ct Ac X) (.bool false) X (.int (j : Nat)) = .row [.int 1, .bool true] := by
  intro k
  induction k with
  | zero =>
   intro j hj;rw [Sg, ifF (by rw [Bu]; omega)]
  | succ k ih =>
   intro j hj;rw [Sg, ifT (by rw [Bu]; omega), ifF (by omega), ifT (by omega), ifT (by rw [Ch]), Bp (i := j) (by omega)]
   exact ih (j + 1) (by omega)
 rw [Y9, ifT (by rw [Bu])]
 exact E (len X) 0 (by omega)
theorem M0 (h : Inv S C T n m r) : ∃ (l : D) (lb : Bool), Su m.b (.bool m.bn) m.nm m.st (.bool m.stn) m.ct (.bool m.ctn) m.sp (.bool m.spn) m.an (.bool m.af) (.int m.aw) (.int m.now) m.due m.dn m.hp (.bool m.hn) (.bool m.ov) m.ev (.bool m.en) = .row [.int 1, m.an, l, .bool lb] ∧ len l < 1000 ∧ Ez l (.bool lb) r.vals = .row [.int 1, .bool true] := by
 have c1 := h.rk.c1;have lb := h.bk.lb;have lv := h.bk.lv
 have cn : ∃ (a : D) (ab : Bool), Fd m.b (.bool m.bn) = .row [.int 1, a, .bool ab] ∧ len a = len C ∧ ∀ j : Nat, j < len C → cl a j 2 = cl m.b j 2 := by
  rw [YL];cases hb : m.bn
  ·exact ⟨ct Ac m.b, false, by rw [cF rfl, ifT (by omega)], lb, fun j hj => Ch⟩
  ·have z := h.bn hb;exact ⟨Ar, true, rfl, by rw [z]; rfl, fun j hj => by omega⟩
 obtain ⟨a, ab, a1, a2, a3⟩ := cn
 have L : ∀ k j (l : D) (lb : Bool), j + k = len C → len l = j → (∀ i : Nat, i < j → cl l i 0 = cl r.vals i 0) → ∃ (l2 : D) (b2 : Bool), SX a (.bool ab) (.int (j : Nat)) l (.bool lb) = .row [.int 1, l2, .bool b2] ∧ len l2 = len C ∧ ∀ i : Nat, i < len C → cl l2 i 0 = cl r.vals i 0 := by
  intro k
  induction k with
  | zero =>
   intro j l lb hj hl hc;exact ⟨l, lb, by rw [Za, ifF (by omega)], by omega, fun i hi => hc i (by omega)⟩
  | succ k ih =>
   intro j l lb hj hl hc;obtain ⟨x, v1, v2, _⟩ := h.bk.vl j (by omega)
   rw [Za, ifT (by omega), ifF (by omega), ifT (p := (len l : Int) < 1073741824) (by omega), Bp (i := j) (by omega), a3 j (by omega)]
   refine ih (j + 1) _ false (by omega) (by rw [B7]; omega) fun i hi => ?_
   rw [Dg (by omega)]
   by_cases z : (i : Int) = len l
   ·rw [if_pos z, v1];have : i = j := by omega
    subst this;exact v2.symm
   ·rw [if_neg z]; exact hc i (by omega)
 obtain ⟨l, lb', l1, l2, l3⟩ := L (len C) 0 Ar true (by omega) rfl (fun i hi => by omega)
 have q : Qg m.b (.bool m.bn) = .row [.int 1, l, .bool lb'] := by
  have q2 : OT Ar (.bool true) a (.bool ab) = .row [.int 1, l, .bool lb'] := (l8 ..).trans l1;rw [kH, a1];simp only [BX, BY, tI, decide_true, cond_true, q2]
 refine ⟨l, lb', ?_, by omega, ?_⟩
 ·rw [jt, q];rfl
 ·have E : ∀ k j, j + k = len l → Pp l (.bool lb') r.vals (.int (j : Nat)) = .row [.int 1, .bool true] := by
   intro k
   induction k with
   | zero =>
    intro j hj;rw [Sg, ifF (by omega)]
   | succ k ih =>
    intro j hj;rw [Sg, ifT (by omega), ifF (by omega), ifT (by omega), ifT (by rw [l3 j (by omega)]), Bp (i := j) (by omega)]
    exact ih (j + 1) (by omega)
  rw [Y9, ifT (by omega)]
  exact E (len l) 0 (by omega)
theorem Ug (rk : Rk S C T) (so : WK S) (n1 : FC S) (n2 : FC C) (n3 : FC T) (hs : GD N S C T = 0) (key : D) (hX : Vals X) (now : Int) :
  (Ap N S C T key (ct Ac X) (.bool false) (.int now) = .row [.int 1] ∧ Az N S C T key X (.int now) = .row [.int 1, (CG 0 0), Ar, Ar, Ar, (CG 0 0), (.int 0), Ar, Ar, (.int 0), (.int 2)]) ∨
  ∃ (m : MS) (r : RS), Ap N S C T key (ct Ac X) (.bool false) (.int now) = .row [.int 2, m.nm, m.st, .bool m.stn, m.ct, .bool m.ctn, m.sp, .bool m.spn, m.an, .bool m.af, .int m.aw, Ar, m.b, .bool m.bn, .int m.now, m.dn, m.hp, .bool m.hn, m.due] ∧
   Az N S C T key X (.int now) = .row [.int 1, N, S, C, T, r.at', .int r.ent, r.defs, r.vals, .int r.time, .int 0] ∧ Inv S C T 2 m r ∧ m.ov = false ∧ m.ev = Ar ∧ m.en = true ∧ r.evs = Ar := by
 have s1 := rk.s1;obtain ⟨m, r, p1, p2, h, x1, x2, x3, x4, x5, x6, x7, x8, x9, x10⟩ := ZO rk so n1 n2 n3 hs;have P := bw (bn := m.bn) rk h.bk h.df hX;have NM := O0 (S := S) s1 key (ct Ac X) false;rw [YY (h0 := p1) (h1 := rfl) (h2 := rfl) (h3 := rfl), Ys, p2, NM];simp only [BX, BY, tI, tB, decide_true, cond_true];by_cases nd : fd S key < 0
 ·left;refine ⟨?_, ?_⟩
  ·rw [decide_eq_true nd]; rfl
  ·have F : Fv N S C T key = .row [.int 1, CG 0 0, .bool false, .int 0] := by
    have L := Ki (F := fun j => Hk key (.int (j : Nat)) N S C T) (n := len S) (bad := fun j => D.strEq (cl S j 0) key) (B := fun j => .row [.int 1, cl S j 0, cl S j 1, cl S j 2]) fun j hj => by
     show Hk key (.int (j : Nat)) N S C T = cond _ _ (Hk key (.int (j + 1 : Nat)) N S C T);rw [UW, ifT (by omega), ifF (by omega), Bp (by omega)]
    have h' : fdG (fun j => D.strEq (cl S j 0) key) (len S) 0 < 0 := nd
    rw [ifT h'] at L;rw [YX];refine L.trans ?_;show Hk key (.int (len S : Nat)) N S C T = _;rw [UW, ifF (by omega)]
   rw [F];simp only [BX, BY, tI, tB, iT (p := (0 : Int) = 0) rfl, decide_true, cond_true];cases z : D.strEq (CG 0 0) key
   ·rfl
   ·rw [cT rfl]
    have e : eqC key 0 0 = true := by
     rw [Dk];unfold A5;rw [← CT.1 z];rfl
    rw [cT e]
 have F := OB (S := S) s1 N C T (key := key) (by omega)
 have sk := Vc (l := S) (key := key) (by omega)
 have nz : eqC key 0 0 = false := by
  have g := Jo (a := S) (key := key) (by omega)
  have q := rk.sne _ g.2;rw [g.1] at q;rw [Dk] at q ⊢;unfold A5 at q ⊢;rw [← CT.1 sk];exact q
 rw [F];simp only [BX, BY, tI, tB, decide_true, cond_true, decide_eq_false nd, Bool.not_false];rw [cT sk, cF nz];by_cases t0 : now < 0
 ·left;rw [ifT t0, ifT t0];refine ⟨?_, rfl⟩;rcases P with ⟨e, e', z1, z2, y1, y2⟩ | ⟨b', y1, y2, y3⟩
  ·rw [y1];simp only [BX, BY, tI, decide_true, cond_true];rw [iF z1]
  ·rw [y1];rfl
 rw [ifF t0, ifF t0];by_cases t1 : 1099511627776 < now
 ·left;rw [ifT t1, ifT t1];refine ⟨?_, rfl⟩;rcases P with ⟨e, e', z1, z2, y1, y2⟩ | ⟨b', y1, y2, y3⟩
  ·rw [y1];simp only [BX, BY, tI, decide_true, cond_true];rw [iF z1]
  ·rw [y1];rfl
 rw [ifF t1, ifF t1];rcases P with ⟨e, e', z1, z2, y1, y2⟩ | ⟨b', y1, y2, y3, y4⟩
 ·left;rw [y1, y2];simp only [BX, BY, tI, decide_true, cond_true];rw [iF z1, iF z2];exact ⟨rfl, rfl⟩
 right;obtain ⟨o, ck, ti⟩ := h.o;have hl := h.hl;rw [x2] at *;obtain ⟨out, on, hp', due', A1, A2, A3⟩ := Vo (now := 0) (t := now) ck (by omega) (by omega) (by omega)
 have A4 : ∃ o', CK due' m.dn hp' m.hn o' := by
  rcases A3 with ⟨_, _, _, _, q⟩ | ⟨_, _, q⟩
  ·exact ⟨_, q⟩
  ·exact ⟨_, q⟩
 obtain ⟨o', ck'⟩ := A4;obtain ⟨af', aw', dn2, hp2, due2, hn2, E1, E2, E3, E4, E5⟩ := Mj so s1 rk.wt (st := m.st) (stn := m.stn) h.st ck' (now := now) (by omega) (by omega) (by omega) (key := key) (by omega) b' N m.ct m.sp m.an Ar m.bn m.ctn m.spn m.af false true m.aw
 refine ⟨{ m with nm := N, an := cl S (fd S key) 0, af := af', aw := aw', b := b', now := now, dn := dn2, hp := hp2, due := due2, hn := hn2, ov := false, ev := Ar, en := true }, ⟨key, now, r.defs, ni (ct Ac X) false, now, Ar⟩, ?_, ?_, ?_, rfl, rfl, rfl, rfl⟩
 ·rw [A1, y1];simp only [BX, BY, tI, decide_true, cond_true];rw [iT (by omega), E3]
  rfl
 ·rw [y2];rfl
 ·exact ⟨rk, so, h.st, h.ct, h.sp, h.spn, y4, h.bn, h.df, by show 0 ≤ fd S key; omega, sk, E1, E2, rfl, E5, by show len hp2 ≤ 2; omega, rfl, fun j hj => (by have hj : j < len Ar := hj; rw [BI] at hj; omega), fun _ => rfl, by show len Ar ≤ 2; rw [BI]; omega⟩
end
end Mb
namespace Mb
open Go Go.AE
section
variable [An]
variable {S C T N A X : D} {n : Nat} {m : MS} {r : RS}
def kk (T : D) : Prop := ∀ i : Nat, i < len T → (∃ n, cl T i 2 = .int n) ∧ (∃ n, cl T i 6 = .int n) ∧ (∃ n, cl T i 7 = .int n) ∧ (∃ n, cl T i 8 = .int n)
theorem WG (N S C T : D) : (UE N S C T = .row [.int 1, .bool true]) ∨ (UE N S C T = .row [.int 1, .bool false] ∧ len C ≤ 6 ∧ len S ≤ 8 ∧ len T ≤ 14 ∧ ∀ i : Nat, i < len T → A5 (cl T i 3) ≤ 60 ∧ A5 (cl T i 4) ≤ 60) := by
 rw [mL];by_cases a1 : 6 < (len C : Int)
 ·rw [ifT a1]; exact .inl rfl
 rw [ifF a1];by_cases a2 : 8 < (len S : Int)
 ·rw [ifT a2]; exact .inl rfl
 rw [ifF a2];by_cases a3 : 14 < (len T : Int)
 ·rw [ifT a3]; exact .inl rfl
 rw [ifF a3];by_cases a4 : 60 < (A5 N : Int)
 ·rw [ifT a4]; exact .inl rfl
 rw [ifF a4]
 have L3 : ∀ k i, i + k = len T → (TB (.int (i : Nat)) N S C T = .row [.int 1, .bool true]) ∨ (TB (.int (i : Nat)) N S C T = .row [.int 1, .bool false] ∧ ∀ j : Nat, i ≤ j → j < len T → A5 (cl T j 3) ≤ 60 ∧ A5 (cl T j 4) ≤ 60) := by
  intro k
  induction k with
  | zero =>
   intro i hi;rw [cu, ifF (by omega)]
   exact .inr ⟨rfl, fun j h1 h2 => by omega⟩
  | succ k ih =>
   intro i hi;rw [cu, ifT (by omega), ifF (by omega), Bp (i := i) (by omega)]
   by_cases b0 : 60 < (A5 (cl T i 0) : Int)
   ·rw [ifT b0]; exact .inl rfl
   rw [ifF b0];by_cases b1 : 60 < (A5 (cl T i 1) : Int)
   ·rw [ifT b1]; exact .inl rfl
   rw [ifF b1];by_cases b2 : 60 < (A5 (cl T i 3) : Int)
   ·rw [ifT b2]; exact .inl rfl
   rw [ifF b2];by_cases b3 : 60 < (A5 (cl T i 4) : Int)
   ·rw [ifT b3]; exact .inl rfl
   rw [ifF b3];by_cases b4 : 60 < (A5 (cl T i 5) : Int)
   ·rw [ifT b4]; exact .inl rfl
   rw [ifF b4];rcases ih (i + 1) (by omega) with q | ⟨q, p⟩
   ·exact .inl q
   ·refine .inr ⟨q, fun j h1 h2 => ?_⟩
    by_cases z : j = i
    ·subst z; exact ⟨by omega, by omega⟩
    ·exact p j (by omega) h2
 have L2 : ∀ k i, i + k = len S → (TV (.int (i : Nat)) N S C T = .row [.int 1, .bool true]) ∨ TV (.int (i : Nat)) N S C T = TB (.int (0 : Nat)) N S C T := by
  intro k
  induction k with
  | zero =>
   intro i hi;rw [iX, ifF (by omega)]
   exact .inr rfl
  | succ k ih =>
   intro i hi;rw [iX, ifT (by omega), ifF (by omega), Bp (i := i) (by omega)]
   by_cases b0 : 60 < (A5 (cl S i 0) : Int)
   ·rw [ifT b0]; exact .inl rfl
   rw [ifF b0];exact ih (i + 1) (by omega)
 have L1 : ∀ k i, i + k = len C → (WE (.int (i : Nat)) N S C T = .row [.int 1, .bool true]) ∨ WE (.int (i : Nat)) N S C T = TV (.int (0 : Nat)) N S C T := by
  intro k
  induction k with
  | zero =>
   intro i hi;rw [kZ, ifF (by omega)]
   exact .inr rfl
  | succ k ih =>
   intro i hi;rw [kZ, ifT (by omega), ifF (by omega), Bp (i := i) (by omega)]
   by_cases b0 : 60 < (A5 (cl C i 0) : Int)
   ·rw [ifT b0]; exact .inl rfl
   rw [ifF b0];exact ih (i + 1) (by omega)
 rcases L1 (len C) 0 (by omega) with q | q
 ·exact .inl q
 rcases L2 (len S) 0 (by omega) with q2 | q2
 ·exact .inl (q.trans q2)
 rcases L3 (len T) 0 (by omega) with q3 | ⟨q3, p⟩
 ·exact .inl ((q.trans q2).trans q3)
 ·exact .inr ⟨(q.trans q2).trans q3, by omega, by omega, by omega, fun i hi => p i (by omega) hi⟩
theorem Pn : I2 = .row [.int 1] := mZ
theorem Vy {i : Nat} (hi : i < 1000) (cs : D) (lb : Bool) : ∀ (k j : Nat) (l : D), j + k = len l → len l < 1000 →
  My A (.bool true) (.int (i : Nat)) (.int (j : Nat)) N S C T r.at' (.int r.ent) r.defs r.vals (.int r.time) r.evs cs l (.bool lb) m.nm m.st (.bool m.stn) m.ct (.bool m.ctn) m.sp (.bool m.spn) m.an (.bool m.af) (.int m.aw) (.bool m.ov) m.ev (.bool m.en) m.b (.bool m.bn) (.int m.now) m.dn m.hp (.bool m.hn) m.due = MK A (.bool true) (.int (i + 1 : Nat)) N S C T r.at' (.int r.ent) r.defs r.vals (.int r.time) r.evs m.nm m.st (.bool m.stn) m.ct (.bool m.ctn) m.sp (.bool m.spn) m.an (.bool m.af) (.int m.aw) (.bool m.ov) m.ev (.bool m.en) m.b (.bool m.bn) (.int m.now) m.dn m.hp (.bool m.hn) m.due := by
 intro k
 induction k with
 | zero =>
  intro j l hj hl;rw [YG, ifF (by omega), Bp (i := i) (by omega)]
 | succ k ih =>
  intro j l hj hl;rw [YG, ifT (by omega), ifF (by omega), Bp (i := j) (by omega)]
  exact ih (j + 1) _ (by rw [CS]; omega) (by rw [CS]; omega)
theorem P4 (hA : ∀ i : Nat, i < len A → (∃ x, cl A i 0 = .int x) ∧ (∃ x, cl A i 1 = .int x) ∧ (∃ x, cl A i 2 = .int x)) (hl : len A ≤ 60) (N : D) : ∀ (k i : Nat) (m : MS) (r : RS), i + k = len A → Inv S C T (i + 2) m r →
  MK A (.bool true) (.int (i : Nat)) N S C T r.at' (.int r.ent) r.defs r.vals (.int r.time) r.evs m.nm m.st (.bool m.stn) m.ct (.bool m.ctn) m.sp (.bool m.spn) m.an (.bool m.af) (.int m.aw) (.bool m.ov) m.ev (.bool m.en) m.b (.bool m.bn) (.int m.now) m.dn m.hp (.bool m.hn) m.due = .row [.int 1, .bool true] := by
 have K : cond (decide ((sl (I2) 0).toInt = 1)) (D.row [.int 1, (.bool true)]) (.row []) = .row [.int 1, (.bool true)] := by rw [Pn]; rfl
 intro k
 induction k with
 | zero =>
  intro i m r hi h;obtain ⟨l, lb, q, _, q2⟩ := M0 h;rw [Zm (h0 := rfl) (h1 := rfl) (h2 := q), ifF (by omega), cT rfl]
  simp only [BX, BY, tI, decide_true, cond_true, q2, tB];exact K
 | succ k ih =>
  intro i m r hi h;obtain ⟨⟨x0, y0⟩, ⟨x1, y1⟩, ⟨x2, y2⟩⟩ := hA i (by omega)
  obtain ⟨m', r', q, h'⟩ := Z3 h (by omega) N x0 x1 x2 (cl A i 3) (cl A i 4)
  rw [← y0, ← y1, ← y2] at q;obtain ⟨l, lb, c1, c2, c3⟩ := M0 h';rw [Zm (h0 := q) (h1 := c1) (h2 := rfl), ifT (by omega), cT rfl, ifF (by omega)]
  by_cases b1 : 60 < (A5 (cl A i 3) : Int)
  ·rw [ifT b1]; exact K
  rw [ifF b1];by_cases b2 : 60 < (A5 (cl A i 4) : Int)
  ·rw [ifT b2]; exact K
  rw [ifF b2];have an := h'.an;simp only [BX, BY, tI, decide_true, cond_true, tB];rw [gy, cT rfl, cT an, c3];simp only [BX, BY, tI, decide_true, cond_true];refine (Vy (A := A) (S := S) (C := C) (T := T) (N := N) (m := m') (r := r') (i := i) (by omega) m'.an lb (len l) 0 l (by omega) c2).trans ?_
  exact ih (i + 1) m' r' (by omega) h'
theorem law (hT : kk T) (so : WK S) (hC : ∀ i : Nat, i < len C → ∃ x, cl C i 1 = .int x) (hA : ∀ i : Nat, i < len A → (∃ x, cl A i 0 = .int x) ∧ (∃ x, cl A i 1 = .int x) ∧ (∃ x, cl A i 2 = .int x)) (n1 : FC S) (n2 : FC C) (n3 : FC T) (hX : Vals X) (key : D) (now : Int) : Zd N S C T key X (.int now) A = .row [.int 1, .bool true] := by
  have K : cond (decide ((sl (I2) 0).toInt = 1)) (D.row [.int 1, (.bool true)]) (.row []) = .row [.int 1, (.bool true)] := by rw [Pn]; rfl
  rw [cK];simp only [Bool.false_and];rcases WG N S C T with q | ⟨q, l1, l2, l3, l4⟩
  · rw [q]
    exact K
  rw [q, ifT (by rfl), cF (by rfl)]
  by_cases a1 : 60 < (len A : Int)
  · rw [ifT a1]
    exact K
  rw [ifF a1];by_cases a2 : 10 < (len X : Int)
  · rw [ifT a2]
    exact K
  rw [ifF a2];by_cases a3 : 60 < (A5 key : Int)
  · rw [ifT a3]
    exact K
  rw [ifF a3];have ow := aB (X := X) (by omega)
  have tI' : Em T := fun i hi => ⟨(hT i hi).1, (hT i hi).2.1, (hT i hi).2.2.1, (hT i hi).2.2.2, by have := (l4 i hi).1; omega, by have := (l4 i hi).2; omega⟩
  have BAD : Ap N S C T key (ct Ac X) (.bool false) (.int now) = .row [.int 1] → Az N S C T key X (.int now) = .row [.int 1, (CG 0 0), Ar, Ar, Ar, (CG 0 0), (.int 0), Ar, Ar, (.int 0), (.int 2)] →
      (cond (decide ((sl (Ap N S C T key (ct Ac X) (.bool false) (.int now)) 0).toInt = 1)) (
 cond (decide ((sl (Az N S C T key X (.int now)) 0).toInt = 1)) (
 cond (decide (2 = (sl (Az N S C T key X (.int now)) 10).toInt)) (
 cond (decide ((sl (Az N S C T key X (.int now)) 10).toInt = 0)) (
 .row [.int 1, (.bool false)]) (
 cond (decide ((sl (Ez (ct Ac X) (.bool false) X) 0).toInt = 1)) (
 cond ((sl (Ez (ct Ac X) (.bool false) X) 1).toBool) (
 cond (decide ((sl (I2) 0).toInt = 1)) (
 .row [.int 1, (.bool true)]) (
 .row [])) (
 .row [.int 1, (.bool false)])) (
 .row []))) (
 .row [.int 1, (.bool false)])) (
 .row [])) (
 cond (decide ((sl (Ap N S C T key (ct Ac X) (.bool false) (.int now)) 0).toInt = 2)) (
 cond (decide ((sl (Az N S C T key X (.int now)) 0).toInt = 1)) (
 cond (decide (0 = (sl (Az N S C T key X (.int now)) 10).toInt)) (
 cond (decide ((sl (Az N S C T key X (.int now)) 10).toInt = 0)) (
 cond (decide ((sl (Ez (ct Ac X) (.bool false) X) 0).toInt = 1)) (
 cond ((sl (Ez (ct Ac X) (.bool false) X) 1).toBool) (
 cond ((sl (Ex (sl (Ap N S C T key (ct Ac X) (.bool false) (.int now)) 12) (sl (Ap N S C T key (ct Ac X) (.bool false) (.int now)) 13) (sl (Ap N S C T key (ct Ac X) (.bool false) (.int now)) 1) (sl (Ap N S C T key (ct Ac X) (.bool false) (.int now)) 2) (sl (Ap N S C T key (ct Ac X) (.bool false) (.int now)) 3) (sl (Ap N S C T key (ct Ac X) (.bool false) (.int now)) 4) (sl (Ap N S C T key (ct Ac X) (.bool false) (.int now)) 5) (sl (Ap N S C T key (ct Ac X) (.bool false) (.int now)) 6) (sl (Ap N S C T key (ct Ac X) (.bool false) (.int now)) 7) (sl (Ap N S C T key (ct Ac X) (.bool false) (.int now)) 8) (sl (Ap N S C T key (ct Ac X) (.bool false) (.int now)) 9) (sl (Ap N S C T key (ct Ac X) (.bool false) (.int now)) 10) (sl (Ap N S C T key (ct Ac X) (.bool false) (.int now)) 14) (sl (Ap N S C T key (ct Ac X) (.bool false) (.int now)) 18) (sl (Ap N S C T key (ct Ac X) (.bool false) (.int now)) 15) (sl (Ap N S C T key (ct Ac X) (.bool false) (.int now)) 16) (sl (Ap N S C T key (ct Ac X) (.bool false) (.int now)) 17) (.bool false) (sl (Ap N S C T key (ct Ac X) (.bool false) (.int now)) 11) (.bool true) (sl (Az N S C T key X (.int now)) 1) (sl (Az N S C T key X (.int now)) 2) (sl (Az N S C T key X (.int now)) 3) (sl (Az N S C T key X (.int now)) 4) (sl (Az N S C T key X (.int now)) 5) (sl (Az N S C T key X (.int now)) 6) (sl (Az N S C T key X (.int now)) 7) (sl (Az N S C T key X (.int now)) 8) (sl (Az N S C T key X (.int now)) 9) Ar) 0).toInt = 1) (
 MK A (sl (Ex (sl (Ap N S C T key (ct Ac X) (.bool false) (.int now)) 12) (sl (Ap N S C T key (ct Ac X) (.bool false) (.int now)) 13) (sl (Ap N S C T key (ct Ac X) (.bool false) (.int now)) 1) (sl (Ap N S C T key (ct Ac X) (.bool false) (.int now)) 2) (sl (Ap N S C T key (ct Ac X) (.bool false) (.int now)) 3) (sl (Ap N S C T key (ct Ac X) (.bool false) (.int now)) 4) (sl (Ap N S C T key (ct Ac X) (.bool false) (.int now)) 5) (sl (Ap N S C T key (ct Ac X) (.bool false) (.int now)) 6) (sl (Ap N S C T key (ct Ac X) (.bool false) (.int now)) 7) (sl (Ap N S C T key (ct Ac X) (.bool false) (.int now)) 8) (sl (Ap N S C T key (ct Ac X) (.bool false) (.int now)) 9) (sl (Ap N S C T key (ct Ac X) (.bool false) (.int now)) 10) (sl (Ap N S C T key (ct Ac X) (.bool false) (.int now)) 14) (sl (Ap N S C T key (ct Ac X) (.bool false) (.int now)) 18) (sl (Ap N S C T key (ct Ac X) (.bool false) (.int now)) 15) (sl (Ap N S C T key (ct Ac X) (.bool false) (.int now)) 16) (sl (Ap N S C T key (ct Ac X) (.bool false) (.int now)) 17) (.bool false) (sl (Ap N S C T key (ct Ac X) (.bool false) (.int now)) 11) (.bool true) (sl (Az N S C T key X (.int now)) 1) (sl (Az N S C T key X (.int now)) 2) (sl (Az N S C T key X (.int now)) 3) (sl (Az N S C T key X (.int now)) 4) (sl (Az N S C T key X (.int now)) 5) (sl (Az N S C T key X (.int now)) 6) (sl (Az N S C T key X (.int now)) 7) (sl (Az N S C T key X (.int now)) 8) (sl (Az N S C T key X (.int now)) 9) Ar) 1) (.int 0) (sl (Az N S C T key X (.int now)) 1) (sl (Az N S C T key X (.int now)) 2) (sl (Az N S C T key X (.int now)) 3) (sl (Az N S C T key X (.int now)) 4) (sl (Az N S C T key X (.int now)) 5) (sl (Az N S C T key X (.int now)) 6) (sl (Az N S C T key X (.int now)) 7) (sl (Az N S C T key X (.int now)) 8) (sl (Az N S C T key X (.int now)) 9) Ar (sl (Ap N S C T key (ct Ac X) (.bool false) (.int now)) 1) (sl (Ap N S C T key (ct Ac X) (.bool false) (.int now)) 2) (sl (Ap N S C T key (ct Ac X) (.bool false) (.int now)) 3) (sl (Ap N S C T key (ct Ac X) (.bool false) (.int now)) 4) (sl (Ap N S C T key (ct Ac X) (.bool false) (.int now)) 5) (sl (Ap N S C T key (ct Ac X) (.bool false) (.int now)) 6) (sl (Ap N S C T key (ct Ac X) (.bool false) (.int now)) 7) (sl (Ap N S C T key (ct Ac X) (.bool false) (.int now)) 8) (sl (Ap N S C T key (ct Ac X) (.bool false) (.int now)) 9) (sl (Ap N S C T key (ct Ac X) (.bool false) (.int now)) 10) (.bool false) (sl (Ap N S C T key (ct Ac X) (.bool false) (.int now)) 11) (.bool true) (sl (Ap N S C T key (ct Ac X) (.bool false) (.int now)) 12) (sl (Ap N S C T key (ct Ac X) (.bool false) (.int now)) 13) (sl (Ap N S C T key (ct Ac X) (.bool false) (.int now)) 14) (sl (Ap N S C T key (ct Ac X) (.bool false) (.int now)) 15) (sl (Ap N S C T key (ct Ac X) (.bool false) (.int now)) 16) (sl (Ap N S C T key (ct Ac X) (.bool false) (.int now)) 17) (sl (Ap N S C T key (ct Ac X) (.bool false) (.int now)) 18)) (
 .row [])) (
 .row [.int 1, (.bool false)])) (
 .row [])) (
 .row [.int 1, (.bool false)])) (
 .row [.int 1, (.bool false)])) (
 .row [])) (
 .row []))) = .row [.int 1, .bool true] := by
    intro h1 h2;rw [h1, h2, ow];exact K
  by_cases e : GD N S C T = 0
  · have rk : Rk S C T := ao (by rw [← Ve]; exact decide_eq_true e) hC tI' l2 (by omega)
    rcases Ug rk so n1 n2 n3 e key hX now with ⟨h1, h2⟩ | ⟨m, r, h1, h2, h, x1, x2, x3, x4⟩
    · exact BAD h1 h2
    · have ag := Fz h (by omega) N
      rw [x1, x2, x3, x4] at ag;have P := P4 hA (by omega) N (len A) 0 m r (by omega) h
      rw [x1, x2, x3, x4] at P;rw [h1, h2, ow];simp only [BX, BY, tI, tB];rw [iF (by omega), iT trivial, iT trivial, iT trivial, iT trivial, iT trivial, cT rfl, ag]
      exact P
  · refine BAD ?_ ?_
    · obtain ⟨i9, q9⟩ := Zj (v1 := S) (v2 := C) tI' (by omega) (by omega) (by omega) N
      have p1 : SP N S C T = .row [.int 2, .int (GD N S C T)] := by
        rw [YW, q9, ifT (by rfl), ifF (by exact e)]
        rfl
      have NM := O0 (S := S) (by omega) key (ct Ac X) false
      rw [YY (h0 := p1) (h1 := rfl) (h2 := rfl) (h3 := rfl), NM, ifF (bH (by decide)), ifT (by rfl), ifT (by rfl), ifF (by exact e)]
    · obtain ⟨i28, q28⟩ := PI (v1 := S) (v2 := C) tI' (by omega) (by omega) (by omega) N
      have p2 : DP N S C T = .row [.int 1, CG 0 0, Ar, Ar, Ar, CG 0 0, Ar, Ar, .int (GD N S C T)] := by
        rw [YH, q28, ifT (by rfl), ifF (by exact e)]
        rfl
      rw [Ys, p2, ifT (by rfl), ifF (by exact e)]
end
end Mb

