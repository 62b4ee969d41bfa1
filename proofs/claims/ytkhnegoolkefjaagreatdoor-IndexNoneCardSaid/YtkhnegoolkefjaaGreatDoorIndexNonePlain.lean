/- What is proved: what the plain functions over data say, whose trees the text before writes out: the law IndexNone answers true. Conditions: those that each theorem states. -/
import Derived.Test.YtkhnegoolkefjaaGreatDoorIndexNoneTree
set_option linter.unusedVariables false
set_option linter.unusedSectionVars false
set_option linter.unusedSimpArgs false
namespace Go.AE
section
variable [BA]
def atV (Ts : List (List (Tr Plf))) (xs : List D) : Val := Hx (De Ts) xs
def fin (Ts : List (List (Tr Plf))) (k : Nat) (V : Val) : Plf → D
 | .stuck => .row []
 | .done s cs => .row (.int (s + 1 : Nat) :: cs.map (Ab V))
 | .next j θ => De Ts k (.row (.int j :: θ.map (Ab V)))
def My (Ts : List (List (Tr Plf))) (k : Nat) (V : Val) (t : Tr Plf) : D := fin Ts k V (t.get V)
theorem Tt {Ts : List (List (Tr Plf))} (h : FC 0 Ts = true) {k p : Nat} {T : List (Tr Plf)} {t : Tr Plf} {xs : List D} (hk : Ts[k]? = some T) (hp : T[p]? = some t) :
  De Ts k (.row (.int (p : Nat) :: xs)) = My Ts k (atV Ts xs) t := by
 have hd : B2 T (De Ts) (.row (.int (p : Nat) :: xs)) = Cp (atV Ts xs) (t.get (atV Ts xs)) := by
  show (match T[p]? with | some t => Cp _ (t.get _) | none => none) = _
  rw [hp];rfl
 unfold My fin;split
 ·rename_i e;rw [e] at hd;rw [EU h hk];rcases DE (B2 T (De Ts)) (.row (.int (p : Nat) :: xs)) with q | ⟨n, q⟩
  ·exact q
  ·cases n with
   | zero => cases q
   | succ n =>
    simp only [DO, hd] at q;cases q
 ·rename_i e;rw [e] at hd;rw [EU h hk];exact KX hd
 ·rename_i e;rw [e] at hd;rw [EU h hk, Lt hd, ← EU h hk]
theorem Mj {Ts : List (List (Tr Plf))} {k : Nat} {V : Val} {e : SB} {a b : Tr Plf} : My Ts k V (.split e a b) = if Ad V e = true then My Ts k V a else My Ts k V b := by
 unfold My;rw [show (Tr.split e a b).get V = match Ad V e with | true => a.get V | false => b.get V from rfl]
 cases Ad V e <;> rfl
end
def len (d : D) : Nat := d.rows.length
def On (d : D) : Nat := d.toStr.data.toList.length
def cl (a : D) (i : Int) (j : Nat) : D := (a.rows.getD i.toNat default).cells.getD j default
def sl (a : D) (j : Nat) : D := a.cells.getD j default
def MQ : D := .slc true []
def ad (a r : D) : D := .slc false (a.rows ++ [r])
def upd (a : D) (i : Int) (j : Nat) (x : D) : D := .slc a.isNil (a.rows.modify i.toNat fun r => .row (r.cells.set j x))
def sb (a : D) (lo hi : Int) : D := .slc a.isNil ((a.rows.drop lo.toNat).take (hi.toNat - lo.toNat))
theorem ifT {α : Type} {p : Prop} [Decidable p] {a b : α} (h : p) : cond (decide p) a b = a := by rw [decide_eq_true h]; rfl
theorem ifF {α : Type} {p : Prop} [Decidable p] {a b : α} (h : ¬ p) : cond (decide p) a b = b := by rw [decide_eq_false h]; rfl
section
variable [BA]
def DC (Ts : List (List (Tr Plf))) (k : Nat) (V : Val) : Tr Plf → D
 | .leaf l => fin Ts k V l
 | .split e a b => cond (Ad V e) (DC Ts k V a) (DC Ts k V b)
theorem G2 {Ts : List (List (Tr Plf))} {k : Nat} {V : Val} : ∀ t : Tr Plf, My Ts k V t = DC Ts k V t
 | .leaf l => rfl
 | .split e a b => by
  rw [Mj, G2 a, G2 b, DC];cases Ad V e <;> rfl
theorem RQ {Ts : List (List (Tr Plf))} (h : FC 0 Ts = true) {k p : Nat} {T : List (Tr Plf)} {t : Tr Plf} {xs : List D} (hk : Ts[k]? = some T) (hp : T[p]? = some t) :
  De Ts k (.row (.int (p : Nat) :: xs)) = DC Ts k (atV Ts xs) t := (Tt h hk hp).trans (G2 t)
theorem cg {Ts : List (List (Tr Plf))} {k : Nat} {V : Val} {e : SB} {a b : Tr Plf} {c : Bool} {x y : D} (h : Ad V e = c) (ha : DC Ts k V a = x) (hb : DC Ts k V b = y) : DC Ts k V (.split e a b) = cond c x y := by
 rw [DC, h, ha, hb]
end
theorem qE {V : Val} {a b : SE} {x y : Int} (h : (Ab V a).toInt = x) (h' : (Ab V b).toInt = y) : Ad V (.eql a b) = decide (x = y) := by rw [← h, ← h']; rfl
section
variable [BA]
theorem cQ {Ts : List (List (Tr Plf))} {k : Nat} {V : Val} {e f : SE} {a b : Tr Plf} {m n : Int} {x y : D} (ha : DC Ts k V a = x) (hb : DC Ts k V b = y) (h : (Ab V e).toInt = m := by rfl) (h' : (Ab V f).toInt = n := by rfl) : DC Ts k V (.split (.eql e f) a b) = cond (decide (m = n)) x y := cg (qE h h') ha hb
end
theorem Qg {P : Program} {ts : List TypeId} {xs : List D} {ks : List Kd} (h : KS P ts xs) (hk : A3 (Env.of P) ts = some ks) : ks.length = xs.length ∧ Kc (Env.of P).kinds 9 ks xs := by
 obtain ⟨ks', cs, M, e, hd, _, hc⟩ := h;rw [hk] at e;cases e;exact ⟨hd.len.2, hc⟩
theorem D5.cell {K : TypeId → Option (List Kd)} {m j : Nat} {e : TypeId} {ks : List Kd} {kd : Kd} {d : D} {i : Int} (h : D5 K (m + 1) (.slice e) d) (hk : K e = some ks) (h0 : 0 ≤ i) (hi : i < len d) (hj : ks[j]? = some kd) : D5 K m kd (cl d i j) := by
 obtain ⟨nl, rows, rfl, _, q⟩ := h;have hi' : i.toNat < rows.length := by have : len (.slc nl rows) = rows.length := rfl; omega
 obtain ⟨cs, e1, _, e3⟩ := q ks hk _ (List.getElem_mem hi');show D5 K m kd ((rows[i.toNat]?.getD default).cells.getD j default);rw [List.getElem?_eq_getElem hi', Option.getD_some, e1];exact e3 j kd hj
theorem D5.toI {K : TypeId → Option (List Kd)} {m : Nat} {k : IntKind} {d : D} (h : D5 K m (.int k) d) : ∃ n, d = .int n := by cases m <;> exact h
theorem D5.toB {K : TypeId → Option (List Kd)} {m : Nat} {d : D} (h : D5 K m .bool d) : ∃ b, d = .bool b := by cases m <;> exact h
def fdG (p : Nat → Bool) : Nat → Nat → Int
 | 0, _ => -1
 | k + 1, i => cond (p i) (i : Int) (fdG p k (i + 1))
theorem PX {p : Nat → Bool} : ∀ {k i : Nat}, fdG p k i = -1 ∨ (i : Int) ≤ fdG p k i
 | 0, i => .inl rfl
 | k + 1, i => by
  rw [fdG];cases p i
  ·show fdG p k (i + 1) = _ ∨ _ ≤ fdG p k (i + 1);rcases PX (p := p) (k := k) (i := i + 1) with h | h
   ·exact .inl h
   ·exact .inr (by omega)
  ·exact .inr (Int.le_refl _)
theorem RE {F : Nat → D} {bad : Nat → Bool} {B : Nat → D} {n : Nat} : ∀ {k i : Nat}, i + k = n → (∀ j, i ≤ j → j < n → F j = cond (bad j) (B j) (F (j + 1))) → F i = cond (decide (fdG bad k i < 0)) (F n) (B (fdG bad k i).toNat)
 | 0, i => fun h _ => by
  have : i = n := by omega
  subst this;rfl
 | k + 1, i => fun h hs => by
  rw [hs i (Nat.le_refl _) (by omega), fdG]
  cases bad i
  ·exact RE (by omega) fun j a b => hs j (by omega) b
  ·show B i = cond (decide ((i : Int) < 0)) _ (B (i : Int).toNat);rw [ifF (by omega)]
   rfl
theorem OE {F : Nat → D} {bad : Nat → Bool} {B : Nat → D} {n : Nat} (hs : ∀ j, j < n → F j = cond (bad j) (B j) (F (j + 1))) : F 0 = cond (decide (fdG bad n 0 < 0)) (F n) (B (fdG bad n 0).toNat) := RE (by omega) fun j _ b => hs j b
theorem find {F : Nat → D} {bad : Nat → Bool} {n : Nat} (hs : ∀ j, j < n → F j = cond (bad j) (.row [.int 1, .int (j : Nat)]) (F (j + 1))) (hr : F n = .row [.int 1, .int (-1)]) : F 0 = .row [.int 1, .int (fdG bad n 0)] := by
 rw [OE hs, hr];have h := PX (p := bad) (k := n) (i := 0);by_cases q : fdG bad n 0 < 0
 ·rw [ifT q];rcases h with h | h
  ·rw [h]
  ·omega
 ·rw [ifF q];have : ((fdG bad n 0).toNat : Int) = fdG bad n 0 := by omega
  rw [this]
theorem ShK.cell {K : TypeId → Option (List Kd)} {o : Option Nat} {m j : Nat} {e : TypeId} {ks : List Kd} {kd : Kd} {d : D} {i : Nat} (h : ShK K o (m + 1) (.slice e) d) (hk : K e = some ks) (hi : i < len d) (hj : ks[j]? = some kd) : ShK K o m kd (cl d i j) := h.2 ks hk i hi j kd hj
theorem ShK.rows {K : TypeId → Option (List Kd)} {b m : Nat} {e : TypeId} {d : D} (h : ShK K (some b) (m + 1) (.slice e) d) : len d ≤ b := h.1 b rfl
theorem ShK.text {K : TypeId → Option (List Kd)} {b m : Nat} {d : D} (h : ShK K (some b) m .str d) : On d ≤ b := by
 have : leB (some b) (On d) := by cases m <;> exact h
 exact this b rfl
end Go.AE
set_option maxRecDepth 100000
namespace Ix
open Go Go.AE
theorem lt : FC 0 ts = true := by decide
theorem gw [BA] {k p : Nat} {T : List (Tr Plf)} {t : Tr Plf} {xs : List D} {x : D} (hk : ts[k]? = some T) (hp : T[p]? = some t) (h : DC ts k (atV ts xs) t = x) : De ts k (.row (.int (p : Nat) :: xs)) = x := (RQ lt hk hp).trans h
section
variable [BA]
def LM (v0 v1 v2 : D) : D := De ts 0 (.row [.int (0 : Nat), v0, v1, v2])
def SM (v0 v1 v2 : D) : D := De ts 0 (.row [.int (1 : Nat), v0, v1, v2])
def SN (v0 v1 v2 v3 v4 v5 v6 v7 v8 : D) : D := De ts 1 (.row [.int (0 : Nat), v0, v1, v2, v3, v4, v5, v6, v7, v8])
def RM (v0 v1 v2 v3 v4 v5 v6 v7 v8 : D) : D := De ts 1 (.row [.int (1 : Nat), v0, v1, v2, v3, v4, v5, v6, v7, v8])
def Ss (v0 v1 v2 v3 v4 v5 v6 v7 v8 : D) : D := De ts 1 (.row [.int (2 : Nat), v0, v1, v2, v3, v4, v5, v6, v7, v8])
def SL (v0 v1 v2 v3 v4 v5 v6 v7 v8 : D) : D := De ts 1 (.row [.int (3 : Nat), v0, v1, v2, v3, v4, v5, v6, v7, v8])
theorem Tp (v0 : Bool) (v1 : D) (v2 : Bool) : LM (.bool v0) v1 (.bool v2) =
 SM v1 (.bool v2) (.bool v0) := gw rfl rfl rfl
theorem Te (v0 : D) (v1 v2 : Bool) : SM v0 (.bool v1) (.bool v2) =
  cond (0 < (len v0 : Int)) (
 .row [.int 1]) (
 .row [.int 2]) := gw rfl rfl rfl
theorem Tg (v0 v1 v2 : Int) (v3 v4 v5 : D) (v6 v7 : Int) (v8 : Bool) : SN (.int v0) (.int v1) (.int v2) v3 v4 v5 (.int v6) (.int v7) (.bool v8) =
  cond (10 < (len v3 : Int)) (
 .row [.int 1, (.bool true)]) (
 cond (100 < (On v4 : Int)) (
 .row [.int 1, (.bool true)]) (
 cond (100 < (On v5 : Int)) (
 .row [.int 1, (.bool true)]) (
 RM (.int v0) (.int v1) (.int v2) v3 v4 v5 (.int v6) (.int v7) (.bool v8)))) := gw rfl rfl rfl
theorem Tf (v0 v1 v2 : Int) (v3 v4 v5 : D) (v6 v7 : Int) (v8 : Bool) : RM (.int v0) (.int v1) (.int v2) v3 v4 v5 (.int v6) (.int v7) (.bool v8) =
  cond ((sl (LM (.bool false) MQ (.bool true)) 0).toInt = 1) (
 .row [.int 1, (.bool false)]) (
 cond ((sl (LM (.bool false) MQ (.bool true)) 0).toInt = 2) (
 Ss (.int v0) (.int v1) (.int v2) v3 v4 v5 (.int v6) (.int v7) (.bool v8)) (
 .row [])) := gw rfl rfl (cQ rfl (cQ rfl rfl))
theorem Tj (v0 v1 v2 : Int) (v3 v4 v5 : D) (v6 v7 : Int) (v8 : Bool) : Ss (.int v0) (.int v1) (.int v2) v3 v4 v5 (.int v6) (.int v7) (.bool v8) =
  cond ((sl (LM (.bool false) MQ (.bool true)) 0).toInt = 1) (
 .row [.int 1, (.bool false)]) (
 cond ((sl (LM (.bool false) MQ (.bool true)) 0).toInt = 2) (
 SL (.int v0) (.int v1) (.int v2) v3 v4 v5 (.int v6) (.int v7) (.bool v8)) (
 .row [])) := gw rfl rfl (cQ rfl (cQ rfl rfl))
theorem Tu (v0 v1 v2 : Int) (v3 v4 v5 : D) (v6 v7 : Int) (v8 : Bool) : SL (.int v0) (.int v1) (.int v2) v3 v4 v5 (.int v6) (.int v7) (.bool v8) =
 .row [.int 1, (.bool true)] := gw rfl rfl rfl
end
end Ix
namespace Ix
open Go Go.AE
section
variable [BA]
theorem val : LM (.bool false) MQ (.bool true) = .row [.int 2] := by
 rw [Tp, Te, ifF (by show ¬ (0 : Int) < 0; decide)]
theorem hv : (sl (LM (.bool false) MQ (.bool true)) 0).toInt = 2 := by rw [val]; rfl
theorem law (v0 v1 v2 : Int) (v3 v4 v5 : D) (v6 v7 : Int) (v8 : Bool) : SN (.int v0) (.int v1) (.int v2) v3 v4 v5 (.int v6) (.int v7) (.bool v8) = .row [.int 1, .bool true] := by
 rw [Tg];have n1 : ¬ (sl (LM (.bool false) MQ (.bool true)) 0).toInt = 1 := by rw [hv]; decide
 have h1 : RM (.int v0) (.int v1) (.int v2) v3 v4 v5 (.int v6) (.int v7) (.bool v8) = .row [.int 1, .bool true] := by
  rw [Tf, ifF n1, ifT hv, Tj, ifF n1, ifT hv, Tu]
 rw [h1];by_cases c1 : 10 < (len v3 : Int)
 ·rw [ifT c1]
 ·rw [ifF c1];by_cases c2 : 100 < (On v4 : Int)
  ·rw [ifT c2]
  ·rw [ifF c2];by_cases c3 : 100 < (On v5 : Int)
   ·rw [ifT c3]
   ·rw [ifF c3]
end
end Ix

