/- What is proved: what the plain functions over data say, whose trees the text before writes out: the law StreamNone answers true. Conditions: those that each theorem states. -/
import Derived.Test.YtdnicaeefjefdaaGreatDoorStreamNoneTree
set_option linter.unusedVariables false
set_option linter.unusedSectionVars false
set_option linter.unusedSimpArgs false
namespace Go.AE
section
variable [A8]
def atV (Ts : List (List (Tr Plf))) (xs : List D) : Val := F6 (CY Ts) xs
def fin (Ts : List (List (Tr Plf))) (k : Nat) (V : Val) : Plf → D
 | .stuck => .row []
 | .done s cs => .row (.int (s + 1 : Nat) :: cs.map (Ab V))
 | .next j θ => CY Ts k (.row (.int j :: θ.map (Ab V)))
def Me (Ts : List (List (Tr Plf))) (k : Nat) (V : Val) (t : Tr Plf) : D := fin Ts k V (t.get V)
theorem R6 {Ts : List (List (Tr Plf))} (h : CJ 0 Ts = true) {k p : Nat} {T : List (Tr Plf)} {t : Tr Plf} {xs : List D} (hk : Ts[k]? = some T) (hp : T[p]? = some t) :
  CY Ts k (.row (.int (p : Nat) :: xs)) = Me Ts k (atV Ts xs) t := by
 have hd : A9 T (CY Ts) (.row (.int (p : Nat) :: xs)) = BC (atV Ts xs) (t.get (atV Ts xs)) := by
  show (match T[p]? with | some t => BC _ (t.get _) | none => none) = _
  rw [hp];rfl
 unfold Me fin;split
 ·rename_i e;rw [e] at hd;rw [Ej h hk];rcases C0 (A9 T (CY Ts)) (.row (.int (p : Nat) :: xs)) with q | ⟨n, q⟩
  ·exact q
  ·cases n with
   | zero => cases q
   | succ n =>
    simp only [DN, hd] at q;cases q
 ·rename_i e;rw [e] at hd;rw [Ej h hk];exact Lx hd
 ·rename_i e;rw [e] at hd;rw [Ej h hk, K2 hd, ← Ej h hk]
theorem Mj {Ts : List (List (Tr Plf))} {k : Nat} {V : Val} {e : SB} {a b : Tr Plf} : Me Ts k V (.split e a b) = if Ad V e = true then Me Ts k V a else Me Ts k V b := by
 unfold Me;rw [show (Tr.split e a b).get V = match Ad V e with | true => a.get V | false => b.get V from rfl]
 cases Ad V e <;> rfl
end
def len (d : D) : Nat := d.rows.length
def RC (d : D) : Nat := d.toStr.data.toList.length
def cl (a : D) (i : Int) (j : Nat) : D := (a.rows.getD i.toNat default).cells.getD j default
def sl (a : D) (j : Nat) : D := a.cells.getD j default
def ad (a r : D) : D := .slc false (a.rows ++ [r])
def upd (a : D) (i : Int) (j : Nat) (x : D) : D := .slc a.isNil (a.rows.modify i.toNat fun r => .row (r.cells.set j x))
def sb (a : D) (lo hi : Int) : D := .slc a.isNil ((a.rows.drop lo.toNat).take (hi.toNat - lo.toNat))
theorem ifT {α : Type} {p : Prop} [Decidable p] {a b : α} (h : p) : cond (decide p) a b = a := by rw [decide_eq_true h]; rfl
theorem ifF {α : Type} {p : Prop} [Decidable p] {a b : α} (h : ¬ p) : cond (decide p) a b = b := by rw [decide_eq_false h]; rfl
section
variable [A8]
def CN (Ts : List (List (Tr Plf))) (k : Nat) (V : Val) : Tr Plf → D
 | .leaf l => fin Ts k V l
 | .split e a b => cond (Ad V e) (CN Ts k V a) (CN Ts k V b)
theorem G1 {Ts : List (List (Tr Plf))} {k : Nat} {V : Val} : ∀ t : Tr Plf, Me Ts k V t = CN Ts k V t
 | .leaf l => rfl
 | .split e a b => by
  rw [Mj, G1 a, G1 b, CN];cases Ad V e <;> rfl
theorem Q2 {Ts : List (List (Tr Plf))} (h : CJ 0 Ts = true) {k p : Nat} {T : List (Tr Plf)} {t : Tr Plf} {xs : List D} (hk : Ts[k]? = some T) (hp : T[p]? = some t) :
  CY Ts k (.row (.int (p : Nat) :: xs)) = CN Ts k (atV Ts xs) t := (R6 h hk hp).trans (G1 t)
theorem cg {Ts : List (List (Tr Plf))} {k : Nat} {V : Val} {e : SB} {a b : Tr Plf} {c : Bool} {x y : D} (h : Ad V e = c) (ha : CN Ts k V a = x) (hb : CN Ts k V b = y) : CN Ts k V (.split e a b) = cond c x y := by
 rw [CN, h, ha, hb]
end
theorem lE {V : Val} {a b : SE} {x y : Int} (h : (Ab V a).toInt = x) (h' : (Ab V b).toInt = y) : Ad V (.lss a b) = decide (x < y) := by rw [← h, ← h']; rfl
theorem qE {V : Val} {a b : SE} {x y : Int} (h : (Ab V a).toInt = x) (h' : (Ab V b).toInt = y) : Ad V (.eql a b) = decide (x = y) := by rw [← h, ← h']; rfl
section
variable [A8]
theorem cL {Ts : List (List (Tr Plf))} {k : Nat} {V : Val} {e f : SE} {a b : Tr Plf} {m n : Int} {x y : D} (ha : CN Ts k V a = x) (hb : CN Ts k V b = y) (h : (Ab V e).toInt = m := by rfl) (h' : (Ab V f).toInt = n := by rfl) : CN Ts k V (.split (.lss e f) a b) = cond (decide (m < n)) x y := cg (lE h h') ha hb
theorem cQ {Ts : List (List (Tr Plf))} {k : Nat} {V : Val} {e f : SE} {a b : Tr Plf} {m n : Int} {x y : D} (ha : CN Ts k V a = x) (hb : CN Ts k V b = y) (h : (Ab V e).toInt = m := by rfl) (h' : (Ab V f).toInt = n := by rfl) : CN Ts k V (.split (.eql e f) a b) = cond (decide (m = n)) x y := cg (qE h h') ha hb
end
theorem OG {P : Program} {ts : List TypeId} {xs : List D} {ks : List Kd} (h : F5 P ts xs) (hk : Au (Env.of P) ts = some ks) : ks.length = xs.length ∧ Ip (Env.of P).kinds 9 ks xs := by
 obtain ⟨ks', cs, M, e, hd, _, hc⟩ := h;rw [hk] at e;cases e;exact ⟨hd.len.2, hc⟩
theorem Gq.cell {K : TypeId → Option (List Kd)} {m j : Nat} {e : TypeId} {ks : List Kd} {kd : Kd} {d : D} {i : Int} (h : Gq K (m + 1) (.slice e) d) (hk : K e = some ks) (h0 : 0 ≤ i) (hi : i < len d) (hj : ks[j]? = some kd) : Gq K m kd (cl d i j) := by
 obtain ⟨nl, rows, rfl, _, q⟩ := h;have hi' : i.toNat < rows.length := by have : len (.slc nl rows) = rows.length := rfl; omega
 obtain ⟨cs, e1, _, e3⟩ := q ks hk _ (List.getElem_mem hi');show Gq K m kd ((rows[i.toNat]?.getD default).cells.getD j default);rw [List.getElem?_eq_getElem hi', Option.getD_some, e1];exact e3 j kd hj
theorem Gq.toI {K : TypeId → Option (List Kd)} {m : Nat} {k : IntKind} {d : D} (h : Gq K m (.int k) d) : ∃ n, d = .int n := by cases m <;> exact h
theorem Gq.toB {K : TypeId → Option (List Kd)} {m : Nat} {d : D} (h : Gq K m .bool d) : ∃ b, d = .bool b := by cases m <;> exact h
def fdG (p : Nat → Bool) : Nat → Nat → Int
 | 0, _ => -1
 | k + 1, i => cond (p i) (i : Int) (fdG p k (i + 1))
theorem Px {p : Nat → Bool} : ∀ {k i : Nat}, fdG p k i = -1 ∨ (i : Int) ≤ fdG p k i
 | 0, i => .inl rfl
 | k + 1, i => by
  rw [fdG];cases p i
  ·show fdG p k (i + 1) = _ ∨ _ ≤ fdG p k (i + 1);rcases Px (p := p) (k := k) (i := i + 1) with h | h
   ·exact .inl h
   ·exact .inr (by omega)
  ·exact .inr (Int.le_refl _)
theorem Q0 {F : Nat → D} {bad : Nat → Bool} {B : Nat → D} {n : Nat} : ∀ {k i : Nat}, i + k = n → (∀ j, i ≤ j → j < n → F j = cond (bad j) (B j) (F (j + 1))) → F i = cond (decide (fdG bad k i < 0)) (F n) (B (fdG bad k i).toNat)
 | 0, i => fun h _ => by
  have : i = n := by omega
  subst this;rfl
 | k + 1, i => fun h hs => by
  rw [hs i (Nat.le_refl _) (by omega), fdG]
  cases bad i
  ·exact Q0 (by omega) fun j a b => hs j (by omega) b
  ·show B i = cond (decide ((i : Int) < 0)) _ (B (i : Int).toNat);rw [ifF (by omega)]
   rfl
theorem NQ {F : Nat → D} {bad : Nat → Bool} {B : Nat → D} {n : Nat} (hs : ∀ j, j < n → F j = cond (bad j) (B j) (F (j + 1))) : F 0 = cond (decide (fdG bad n 0 < 0)) (F n) (B (fdG bad n 0).toNat) := Q0 (by omega) fun j _ b => hs j b
theorem find {F : Nat → D} {bad : Nat → Bool} {n : Nat} (hs : ∀ j, j < n → F j = cond (bad j) (.row [.int 1, .int (j : Nat)]) (F (j + 1))) (hr : F n = .row [.int 1, .int (-1)]) : F 0 = .row [.int 1, .int (fdG bad n 0)] := by
 rw [NQ hs, hr];have h := Px (p := bad) (k := n) (i := 0);by_cases q : fdG bad n 0 < 0
 ·rw [ifT q];rcases h with h | h
  ·rw [h]
  ·omega
 ·rw [ifF q];have : ((fdG bad n 0).toNat : Int) = fdG bad n 0 := by omega
  rw [this]
theorem ShK.cell {K : TypeId → Option (List Kd)} {o : Option Nat} {m j : Nat} {e : TypeId} {ks : List Kd} {kd : Kd} {d : D} {i : Nat} (h : ShK K o (m + 1) (.slice e) d) (hk : K e = some ks) (hi : i < len d) (hj : ks[j]? = some kd) : ShK K o m kd (cl d i j) := h.2 ks hk i hi j kd hj
theorem ShK.rows {K : TypeId → Option (List Kd)} {b m : Nat} {e : TypeId} {d : D} (h : ShK K (some b) (m + 1) (.slice e) d) : len d ≤ b := h.1 b rfl
theorem ShK.text {K : TypeId → Option (List Kd)} {b m : Nat} {d : D} (h : ShK K (some b) m .str d) : RC d ≤ b := by
 have : leB (some b) (RC d) := by cases m <;> exact h
 exact this b rfl
end Go.AE
set_option maxRecDepth 100000
namespace Sn
open Go Go.AE
theorem lt : CJ 0 ts = true := by decide
theorem gw [A8] {k p : Nat} {T : List (Tr Plf)} {t : Tr Plf} {xs : List D} {x : D} (hk : ts[k]? = some T) (hp : T[p]? = some t) (h : CN ts k (atV ts xs) t = x) : CY ts k (.row (.int (p : Nat) :: xs)) = x := (Q2 lt hk hp).trans h
section
variable [A8]
def Pl : D := CY ts 0 (.row [.int (0 : Nat)])
def R3 (v0 v1 : D) : D := CY ts 1 (.row [.int (0 : Nat), v0, v1])
theorem Sb : Pl =
 .row [.int 1] := gw rfl rfl rfl
theorem Sa (v0 : D) (v1 : Bool) : R3 v0 (.bool v1) =
  cond (100 < (len v0 : Int)) (
 cond ((sl (Pl) 0).toInt = 1) (
 .row [.int 1, (.bool true)]) (
 .row [])) (
 cond (v1) (
 cond ((sl (Pl) 0).toInt = 1) (
 .row [.int 1, (.bool true)]) (
 .row [])) (
 cond ((sl (Pl) 0).toInt = 1) (
 .row [.int 1, (.bool true)]) (
 .row []))) := gw rfl rfl (cL (cQ rfl rfl) (cg rfl (cQ rfl rfl) (cQ rfl rfl)))
end
end Sn
namespace Sn
open Go Go.AE
section
variable [A8]
theorem knT : cond (decide ((sl (Pl) 0).toInt = 1)) (D.row [.int 1, (.bool true)]) (.row []) = .row [.int 1, (.bool true)] := by rw [Sb]; rfl
theorem law (v0 : D) (v1 : Bool) : R3 v0 (.bool v1) = .row [.int 1, .bool true] := by
 rw [Sa, knT];cases v1
 ·rw [cond_false];by_cases c : 100 < (len v0 : Int)
  ·rw [ifT c]
  ·rw [ifF c]
 ·rw [cond_true];by_cases c : 100 < (len v0 : Int)
  ·rw [ifT c]
  ·rw [ifF c]
end
end Sn

