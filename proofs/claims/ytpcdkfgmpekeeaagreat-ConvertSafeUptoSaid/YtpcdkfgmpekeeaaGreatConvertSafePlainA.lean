/- What is proved: what the plain functions over data say, whose trees the text before writes out: the law ConvertSafe answers true. Conditions: those that each theorem states. -/
import Derived.Test.YtpcdkfgmpekeeaaGreatConvertSafeTree
set_option linter.unusedVariables false
set_option linter.unusedSectionVars false
set_option linter.unusedSimpArgs false
namespace Go.AE
section
variable [Ar]
def atV (Ts : List (List (Tr Plf))) (xs : List D) : Val := J4 (Ak Ts) xs
def fin (Ts : List (List (Tr Plf))) (k : Nat) (V : Val) : Plf → D
 | .stuck => .row []
 | .done s cs => .row (.int (s + 1 : Nat) :: cs.map (Ab V))
 | .next j θ => Ak Ts k (.row (.int j :: θ.map (Ab V)))
def QI (Ts : List (List (Tr Plf))) (k : Nat) (V : Val) (t : Tr Plf) : D := fin Ts k V (t.get V)
theorem qN {Ts : List (List (Tr Plf))} (h : HK 0 Ts = true) {k p : Nat} {T : List (Tr Plf)} {t : Tr Plf} {xs : List D} (hk : Ts[k]? = some T) (hp : T[p]? = some t) :
  Ak Ts k (.row (.int (p : Nat) :: xs)) = QI Ts k (atV Ts xs) t := by
 have hd : CS T (Ak Ts) (.row (.int (p : Nat) :: xs)) = Ds (atV Ts xs) (t.get (atV Ts xs)) := by
  show (match T[p]? with | some t => Ds _ (t.get _) | none => none) = _
  rw [hp];rfl
 unfold QI fin;split
 ·rename_i e;rw [e] at hd;rw [Aq h hk];rcases EW (CS T (Ak Ts)) (.row (.int (p : Nat) :: xs)) with q | ⟨n, q⟩
  ·exact q
  ·cases n with
   | zero => cases q
   | succ n =>
    simp only [Fa, hd] at q;cases q
 ·rename_i e;rw [e] at hd;rw [Aq h hk];exact PX hd
 ·rename_i e;rw [e] at hd;rw [Aq h hk, PG hd, ← Aq h hk]
theorem QT {Ts : List (List (Tr Plf))} {k : Nat} {V : Val} {e : SB} {a b : Tr Plf} : QI Ts k V (.split e a b) = if Ah V e = true then QI Ts k V a else QI Ts k V b := by
 unfold QI;rw [show (Tr.split e a b).get V = match Ah V e with | true => a.get V | false => b.get V from rfl]
 cases Ah V e <;> rfl
end
theorem BI {a : Int} (h : -9223372036854775808 ≤ a) (h' : a < 9223372036854775808) : IntKind.wrap .i64 a = a := by
 show (if (true && decide (a % (2 ^ 64 : Int) ≥ 2 ^ 63)) = true then a % (2 ^ 64 : Int) - 2 ^ 64 else a % (2 ^ 64 : Int)) = a
 split
 ·rename_i q;simp only [Bool.true_and, decide_eq_true_eq] at q;omega
 ·rename_i q;simp only [Bool.true_and, decide_eq_true_eq] at q;omega
def len (d : D) : Nat := d.rows.length
def Co (d : D) : Nat := d.toStr.data.toList.length
def cl (a : D) (i : Int) (j : Nat) : D := (a.rows.getD i.toNat default).cells.getD j default
def sl (a : D) (j : Nat) : D := a.cells.getD j default
def AB : D := .slc true []
def Aw : D := .slc false []
def ad (a r : D) : D := .slc false (a.rows ++ [r])
def upd (a : D) (i : Int) (j : Nat) (x : D) : D := .slc a.isNil (a.rows.modify i.toNat fun r => .row (r.cells.set j x))
def rp (n : Int) (r : D) : D := .slc false (List.replicate n.toNat r)
def ct (a b : D) : D := .slc (a.isNil && b.rows.isEmpty) (a.rows ++ b.rows)
def sb (a : D) (lo hi : Int) : D := .slc a.isNil ((a.rows.drop lo.toNat).take (hi.toNat - lo.toNat))
def ni (a : D) (b : Bool) : D := .slc b a.rows
def Bs (l b : Nat) : D := .str ⟨(C8 l b).toArray⟩
def Yq (a b : D) : D := .str (a.toStr ++ b.toStr)
def OZ (a : D) : D := .slc false (a.toStr.data.toList.map fun b => .row [.int b.toNat])
def mIx (ks : List Kd) (a k : D) : Int := D7 ks k.cells a.rows 0
def sAt (a : D) (i : Int) : Int := ((a.toStr.data.toList[i.toNat]?).getD 0).toNat
def eqC (a : D) (l b : Nat) : Bool := strEq a.toStr.data.toList.length (AH a.toStr.data.toList) l b
theorem ifT {α : Type} {p : Prop} [Decidable p] {a b : α} (h : p) : cond (decide p) a b = a := by rw [decide_eq_true h]; rfl
theorem ifF {α : Type} {p : Prop} [Decidable p] {a b : α} (h : ¬ p) : cond (decide p) a b = b := by rw [decide_eq_false h]; rfl
theorem cT {α : Type} {c : Bool} {a b : α} (h : c = true) : cond c a b = a := by rw [h]; rfl
theorem cF {α : Type} {c : Bool} {a b : α} (h : c = false) : cond c a b = b := by rw [h]; rfl
section
variable [Ar]
def DP (Ts : List (List (Tr Plf))) (k : Nat) (V : Val) : Tr Plf → D
 | .leaf l => fin Ts k V l
 | .split e a b => cond (Ah V e) (DP Ts k V a) (DP Ts k V b)
theorem IZ {Ts : List (List (Tr Plf))} {k : Nat} {V : Val} : ∀ t : Tr Plf, QI Ts k V t = DP Ts k V t
 | .leaf l => rfl
 | .split e a b => by
  rw [QT, IZ a, IZ b, DP];cases Ah V e <;> rfl
theorem dD {Ts : List (List (Tr Plf))} (h : HK 0 Ts = true) {k p : Nat} {T : List (Tr Plf)} {t : Tr Plf} {xs : List D} (hk : Ts[k]? = some T) (hp : T[p]? = some t) :
  Ak Ts k (.row (.int (p : Nat) :: xs)) = DP Ts k (atV Ts xs) t := (qN h hk hp).trans (IZ t)
theorem cg {Ts : List (List (Tr Plf))} {k : Nat} {V : Val} {e : SB} {a b : Tr Plf} {c : Bool} {x y : D} (h : Ah V e = c) (ha : DP Ts k V a = x) (hb : DP Ts k V b = y) : DP Ts k V (.split e a b) = cond c x y := by
 rw [DP, h, ha, hb]
end
theorem lE {V : Val} {a b : SE} {x y : Int} (h : (Ab V a).toInt = x) (h' : (Ab V b).toInt = y) : Ah V (.lss a b) = decide (x < y) := by rw [← h, ← h']; rfl
theorem qE {V : Val} {a b : SE} {x y : Int} (h : (Ab V a).toInt = x) (h' : (Ab V b).toInt = y) : Ah V (.eql a b) = decide (x = y) := by rw [← h, ← h']; rfl
section
variable [Ar]
theorem cL {Ts : List (List (Tr Plf))} {k : Nat} {V : Val} {e f : SE} {a b : Tr Plf} {m n : Int} {x y : D} (ha : DP Ts k V a = x) (hb : DP Ts k V b = y) (h : (Ab V e).toInt = m := by rfl) (h' : (Ab V f).toInt = n := by rfl) : DP Ts k V (.split (.lss e f) a b) = cond (decide (m < n)) x y := cg (lE h h') ha hb
theorem cQ {Ts : List (List (Tr Plf))} {k : Nat} {V : Val} {e f : SE} {a b : Tr Plf} {m n : Int} {x y : D} (ha : DP Ts k V a = x) (hb : DP Ts k V b = y) (h : (Ab V e).toInt = m := by rfl) (h' : (Ab V f).toInt = n := by rfl) : DP Ts k V (.split (.eql e f) a b) = cond (decide (m = n)) x y := cg (qE h h') ha hb
end
theorem aE {V : Val} {a b : SE} {x y : Bool} (h : Ah V a = x) (h' : Ah V b = y) : Ah V (.and a b) = (x && y) := by rw [← h, ← h']; rfl
def Wd (a : D) (n : Nat) : Prop := ∀ r ∈ a.rows, ∃ cs, r = .row cs ∧ cs.length = n
theorem Sx {a x : D} {i : Int} {j : Nat} : len (upd a i j x) = len a := by
 show (a.rows.modify _ _).length = _;simp [len]
theorem Bp {a r : D} : len (ad a r) = len a + 1 := by
 show (a.rows ++ [r]).length = _;simp [len]
theorem cZ {n : Int} {r : D} : len (rp n r) = n.toNat := by
 show (List.replicate _ _).length = _;simp
theorem BA : len Aw = 0 := rfl
theorem cC {a : D} {b : Bool} : len (ni a b) = len a := rfl
theorem Q8 {a : D} {lo hi : Int} (h : lo.toNat ≤ hi.toNat) (h' : hi.toNat ≤ len a) : len (sb a lo hi) = hi.toNat - lo.toNat := by
 show ((a.rows.drop _).take _).length = _;have : hi.toNat ≤ a.rows.length := h';simp;omega
theorem Am {x : D} {l : List D} : sl (.row (x :: l)) 0 = x := rfl
theorem Al {x : D} {l : List D} {n : Nat} : sl (.row (x :: l)) (n + 1) = sl (.row l) n := rfl
theorem Ac {n : Int} : (D.int n).toInt = n := rfl
theorem Af {b : Bool} : (D.bool b).toBool = b := rfl
theorem Yw {n : Nat} : Wd AB n := fun r hr => (by cases hr)
theorem EN {n : Nat} : Wd Aw n := fun r hr => (by cases hr)
theorem G3 {a : D} {cs : List D} {n : Nat} (h : Wd a n) (hc : cs.length = n) : Wd (ad a (.row cs)) n := by
 intro r hr;have hr : r ∈ a.rows ++ [.row cs] := hr;rcases List.mem_append.1 hr with q | q
 ·exact h r q
 ·exact ⟨cs, List.mem_singleton.1 q, hc⟩
theorem dX {m : Int} {cs : List D} {n : Nat} (hc : cs.length = n) : Wd (rp m (.row cs)) n := fun r hr => ⟨cs, List.eq_of_mem_replicate hr, hc⟩
theorem Wr {a x : D} {i : Int} {j n : Nat} (h : Wd a n) : Wd (upd a i j x) n := by
 intro r hr;have hr' : r ∈ a.rows.modify i.toNat fun r => .row (r.cells.set j x) := hr
 obtain ⟨k, hk, e⟩ := List.getElem_of_mem hr';rw [List.getElem_modify] at e;have hk' : k < a.rows.length := by simpa using hk
 obtain ⟨cs, hc, hn⟩ := h _ (List.getElem_mem hk');split at e
 ·rw [hc] at e;exact ⟨_, e.symm, by simp [D.cells, hn]⟩
 ·exact ⟨cs, by rw [← e]; exact hc, hn⟩
theorem ZX {a : D} {b : Bool} {n : Nat} (h : Wd a n) : Wd (ni a b) n := h
theorem f6 {a b : D} {n : Nat} (h : Wd a n) (h' : Wd b n) : Wd (ct a b) n := fun r hr => (List.mem_append.1 hr).elim (h r) (h' r)
theorem QX {a x : D} {i k : Int} {j j' n : Nat} (h : Wd a n) (hj : j < n) (hi : 0 ≤ i) (hi' : i < len a) (hk : 0 ≤ k) : cl (upd a i j x) k j' = if k = i ∧ j' = j then x else cl a k j' := by
 have hi2 : i.toNat < a.rows.length := by have : len a = a.rows.length := rfl; omega
 show ((a.rows.modify i.toNat fun r => D.row (r.cells.set j x))[k.toNat]?.getD default).cells.getD j' default = _
 rw [List.getElem?_modify];by_cases q : k = i
 ·subst q;obtain ⟨cs, hc, hn⟩ := h _ (List.getElem_mem hi2);rw [List.getElem?_eq_getElem hi2];show ((if k.toNat = k.toNat then D.row ((a.rows[k.toNat]).cells.set j x) else a.rows[k.toNat]).cells[j']?).getD default = _
  rw [if_pos rfl, hc];show ((cs.set j x)[j']?).getD default = _;rw [List.getElem?_set];by_cases q' : j = j'
  ·subst q';rw [if_pos rfl, if_pos (by omega), if_pos ⟨rfl, rfl⟩]
   rfl
  ·rw [if_neg q', if_neg (fun c => q' c.2.symm)]
   show _ = (a.rows[k.toNat]?.getD default).cells.getD j' default;rw [List.getElem?_eq_getElem hi2, Option.getD_some, hc];rfl
 ·have q2 : ¬ i.toNat = k.toNat := by omega
  rw [if_neg (fun c => q c.1)]
  simp [q2, cl]
theorem MK {a r : D} {k : Int} {j : Nat} (hk : 0 ≤ k) : cl (ad a r) k j = if k = len a then sl r j else cl a k j := by
 have hl : len a = a.rows.length := rfl;show ((a.rows ++ [r])[k.toNat]?.getD default).cells.getD j default = _;by_cases q : k.toNat < a.rows.length
 ·rw [List.getElem?_append_left q, if_neg (by omega)]
  rfl
 ·by_cases q' : k = len a
  ·subst q';rw [if_pos rfl];have : ((len a : Int)).toNat = a.rows.length := by omega
   rw [this];simp [sl]
  ·rw [if_neg q', List.getElem?_eq_none (by simp; omega)]
   show _ = (a.rows[k.toNat]?.getD default).cells.getD j default;rw [List.getElem?_eq_none (by omega)]
theorem fV {n k : Int} {r : D} {j : Nat} (hk : 0 ≤ k) (hk' : k < n) : cl (rp n r) k j = sl r j := by
 show ((List.replicate n.toNat r)[k.toNat]?.getD default).cells.getD j default = _;rw [List.getElem?_replicate, if_pos (by omega)]
 rfl
theorem fe {a : D} {b : Bool} {k : Int} {j : Nat} : cl (ni a b) k j = cl a k j := rfl
theorem G0.cell {K : TypeId → Option (List Kd)} {m j : Nat} {e : TypeId} {ks : List Kd} {kd : Kd} {d : D} {i : Int} (h : G0 K (m + 1) (.slice e) d) (hk : K e = some ks) (h0 : 0 ≤ i) (hi : i < len d) (hj : ks[j]? = some kd) : G0 K m kd (cl d i j) := by
 obtain ⟨nl, rows, rfl, _, q⟩ := h;have hi' : i.toNat < rows.length := by have : len (.slc nl rows) = rows.length := rfl; omega
 obtain ⟨cs, e1, _, e3⟩ := q ks hk _ (List.getElem_mem hi');show G0 K m kd ((rows[i.toNat]?.getD default).cells.getD j default);rw [List.getElem?_eq_getElem hi', Option.getD_some, e1];exact e3 j kd hj
theorem G0.toI {K : TypeId → Option (List Kd)} {m : Nat} {k : IntKind} {d : D} (h : G0 K m (.int k) d) : ∃ n, d = .int n := by cases m <;> exact h
theorem G0.toB {K : TypeId → Option (List Kd)} {m : Nat} {d : D} (h : G0 K m .bool d) : ∃ b, d = .bool b := by cases m <;> exact h
def fdG (p : Nat → Bool) : Nat → Nat → Int
 | 0, _ => -1
 | k + 1, i => cond (p i) (i : Int) (fdG p k (i + 1))
theorem D6 {p : Nat → Bool} : ∀ {k i : Nat}, fdG p k i < i + k
 | 0, i => by show (-1 : Int) < _; omega
 | k + 1, i => by
  rw [fdG];have := D6 (p := p) (k := k) (i := i + 1);cases p i
  ·show fdG p k (i + 1) < _; omega
  ·show (i : Int) < _; omega
theorem LF {p : Nat → Bool} : ∀ {k i : Nat}, fdG p k i = -1 ∨ (i : Int) ≤ fdG p k i
 | 0, i => .inl rfl
 | k + 1, i => by
  rw [fdG];cases p i
  ·show fdG p k (i + 1) = _ ∨ _ ≤ fdG p k (i + 1);rcases LF (p := p) (k := k) (i := i + 1) with h | h
   ·exact .inl h
   ·exact .inr (by omega)
  ·exact .inr (Int.le_refl _)
theorem Hk {p : Nat → Bool} : ∀ {k i : Nat}, 0 ≤ fdG p k i → p (fdG p k i).toNat = true
 | 0, i => fun h => by simp [fdG] at h
 | k + 1, i => by
  rw [fdG];cases q : p i
  ·exact Hk (k := k)
  ·intro _;show p i = true;exact q
theorem Hi {p : Nat → Bool} : ∀ {k i j : Nat}, i ≤ j → j < i + k → p j = true → 0 ≤ fdG p k i ∧ fdG p k i ≤ j
 | 0, i, j => fun h h' => by omega
 | k + 1, i, j => by
  intro h h' hp;rw [fdG];cases q : p i
  ·have : i ≠ j := fun c => by rw [c, hp] at q; cases q
   exact Hi (k := k) (by omega) (by omega) hp
  ·show 0 ≤ (i : Int) ∧ (i : Int) ≤ j; omega
theorem Cx {p : Nat → Bool} {k i j : Nat} (h : i ≤ j) (h' : (j : Int) < fdG p k i ∨ (fdG p k i < 0 ∧ j < i + k)) : p j = false := by
 cases q : p j
 ·rfl
 ·have := D6 (p := p) (k := k) (i := i);have := Hi (p := p) (k := k) h (by omega) q
  omega
theorem Cu {p : Nat → Bool} {k i : Nat} (h : ∀ j, i ≤ j → j < i + k → p j = false) : fdG p k i = -1 := by
 rcases LF (p := p) (k := k) (i := i) with q | q
 ·exact q
 ·have a := Hk (p := p) (k := k) (i := i) (by omega)
  rw [h _ (by omega) (by have := D6 (p := p) (k := k) (i := i); omega)] at a
  cases a
theorem CW {p q : Nat → Bool} : ∀ {k i : Nat}, (∀ j, i ≤ j → j < i + k → p j = q j) → fdG p k i = fdG q k i
 | 0, i, h => rfl
 | k + 1, i, h => by
  rw [fdG, fdG, h i (Nat.le_refl _) (by omega), CW fun j a b => h j (by omega) (by omega)]
theorem ZO {F : Nat → D} {bad : Nat → Bool} {B : Nat → D} {n : Nat} : ∀ {k i : Nat}, i + k = n → (∀ j, i ≤ j → j < n → F j = cond (bad j) (B j) (F (j + 1))) → F i = cond (decide (fdG bad k i < 0)) (F n) (B (fdG bad k i).toNat)
 | 0, i => fun h _ => by
  have : i = n := by omega
  subst this;rfl
 | k + 1, i => fun h hs => by
  rw [hs i (Nat.le_refl _) (by omega), fdG]
  cases bad i
  ·exact ZO (by omega) fun j a b => hs j (by omega) b
  ·show B i = cond (decide ((i : Int) < 0)) _ (B (i : Int).toNat);rw [ifF (by omega)]
   rfl
theorem DH {F : Nat → D} {bad : Nat → Bool} {B : Nat → D} {n : Nat} (hs : ∀ j, j < n → F j = cond (bad j) (B j) (F (j + 1))) : F 0 = cond (decide (fdG bad n 0 < 0)) (F n) (B (fdG bad n 0).toNat) := ZO (by omega) fun j _ b => hs j b
theorem find {F : Nat → D} {bad : Nat → Bool} {n : Nat} (hs : ∀ j, j < n → F j = cond (bad j) (.row [.int 1, .int (j : Nat)]) (F (j + 1))) (hr : F n = .row [.int 1, .int (-1)]) : F 0 = .row [.int 1, .int (fdG bad n 0)] := by
 rw [DH hs, hr];have h := LF (p := bad) (k := n) (i := 0);by_cases q : fdG bad n 0 < 0
 ·rw [ifT q];rcases h with h | h
  ·rw [h]
  ·omega
 ·rw [ifF q];have : ((fdG bad n 0).toNat : Int) = fdG bad n 0 := by omega
  rw [this]
theorem AG {i : Nat} (h : i < 4611686018427387904) : IntKind.wrap .i64 ((i : Int) + 1) = ((i + 1 : Nat) : Int) := by rw [BI (by omega) (by omega)]; omega
theorem LQ {α : Type} {c : Bool} {a b x : α} (h1 : c = true → a = x) (h2 : c = false → b = x) : cond c a b = x := by
 cases c
 ·exact h2 rfl
 ·exact h1 rfl
theorem dT {p : Prop} [Decidable p] (h : decide p = true) : p := of_decide_eq_true h
theorem dF {p : Prop} [Decidable p] (h : decide p = false) : ¬ p := of_decide_eq_false h
theorem O2 {x y : Int} : decide (x = y) = decide (y = x) := decide_eq_decide.2 eq_comm
theorem BO {a : D} : D.strEq a a = true := by
 show (Nat.beq _ _ && Nat.beq _ _) = true;simp
theorem AJ {a b : D} : D.strEq a b = D.strEq b a := MI (U := BE) _ _ _ _
theorem E5 {a : D} : eqC a 0 0 = decide (Co a = 0) := by
 show (Nat.beq _ 0 && Nat.beq _ 0) = _;show _ = decide (a.toStr.data.toList.length = 0);cases a.toStr.data.toList <;> simp [AH]
theorem UI {a b : D} : Co (Yq a b) = Co a + Co b := by
 show (a.toStr ++ b.toStr).data.toList.length = _;simp [Co]
theorem RA {a b : D} : eqC (Yq a b) 0 0 = (eqC a 0 0 && eqC b 0 0) := by
 rw [E5, E5, E5, UI, Bool.eq_iff_iff];simp
theorem Ei {a b : D} : D.strEq a b = true ↔ a.toStr = b.toStr := by
 show AE.strEq _ _ _ _ = true ↔ _;rw [Ch (U := BE)];constructor
 ·intro h;rw [ByteArray.toList_eq, ByteArray.toList_eq] at h;have : a.toStr.data.toList = b.toStr.data.toList := by simpa only [beq_iff_eq] using h
  exact ByteArray.ext (Array.toList_inj.1 this)
 ·intro h;rw [h];simp
theorem Fp {a b c : D} (h : D.strEq a b = true) (h' : D.strEq b c = true) : D.strEq a c = true := Ei.2 ((Ei.1 h).trans (Ei.1 h'))
theorem Cq {a b c : D} (h : D.strEq a b = true) : D.strEq a c = D.strEq b c := by
 show AE.strEq _ _ _ _ = AE.strEq _ _ _ _;rw [Ei.1 h]
theorem W4 {a : D} {i : Nat} {j c : Nat} (hi : i ≤ len a) (hj : j < i) : cl (sb a 0 i) j c = cl a j c := by
 have hi' : i ≤ a.rows.length := hi;show (((a.rows.drop 0).take (i - 0)).getD j default).cells.getD c default = (a.rows.getD j default).cells.getD c default;rw [List.getD_eq_getElem?_getD, List.getD_eq_getElem?_getD, List.getElem?_take];simp [hj]
theorem Y2 {a k : D} (hw : ∀ r ∈ a.rows, ∃ x l, r = .row (x :: l)) : mIx [.str] a (.row [k]) = fdG (fun i => D.strEq (cl a i 0) k) (len a) 0 := by
 have gen : ∀ (rs l : List D) (nl : Bool), (∀ r ∈ rs, ∃ x l, r = .row (x :: l)) → D7 [.str] [k] rs l.length = fdG (fun i => D.strEq (cl (.slc nl (l ++ rs)) i 0) k) rs.length l.length := by
  intro rs
  induction rs with
  | nil => intro l nl _; rfl
  | cons r rs ih =>
   intro l nl hr;rw [D7, List.length_cons, fdG]
   have e : cl (.slc nl (l ++ r :: rs)) (l.length : Nat) 0 = r.cells.getD 0 default := by
    show ((l ++ r :: rs).getD l.length default).cells.getD 0 default = _;simp
   have i2 := ih (l ++ [r]) nl fun x hx => hr x (List.mem_cons_of_mem _ hx)
   rw [List.length_append, List.append_assoc] at i2;have i2 : D7 [.str] [k] rs (l.length + 1) = fdG (fun i => D.strEq (cl (.slc nl (l ++ r :: rs)) i 0) k) rs.length (l.length + 1) := i2
   rw [e, i2]
   have h : B6 [.str] r.cells [k] = D.strEq (r.cells.getD 0 default) k := by
    obtain ⟨x, t, e⟩ := hr r (List.mem_cons_self ..);subst e;show (D.strEq x k && true) = D.strEq x k;rw [Bool.and_true]
   rw [h];cases D.strEq (r.cells.getD 0 default) k <;> rfl
 have h := gen a.rows [] a.isNil hw;exact h
theorem Ro {G : Bool → Nat → D} {p : Nat → Bool} {n : Nat} : ∀ {k i : Nat} {b : Bool}, i + k = n → (∀ (b : Bool) (j : Nat), j < n → G b j = cond b (G true (j + 1)) (G (p j) (j + 1))) → G b i = G (b || !decide (fdG p k i < 0)) n
 | 0, i, b => fun h _ => by
  have : i = n := by omega
  subst this;show G b i = G (b || !decide ((-1 : Int) < 0)) i;cases b <;> rfl
 | k + 1, i, b => fun h hs => by
  rw [hs b i (by omega), fdG]
  cases b
  ·rw [cond_false, Ro (k := k) (i := i + 1) (by omega) hs]
   cases q : p i
   ·rfl
   ·show _ = G (false || !decide ((i : Int) < 0)) n;rw [decide_eq_false (show ¬ (i : Int) < 0 by omega)]
    rfl
  ·rw [cond_true, Ro (k := k) (i := i + 1) (by omega) hs]
   rfl
theorem Tc {G : Bool → Nat → D} {p : Nat → Bool} {n : Nat} {b : Bool} (hs : ∀ (b : Bool) (j : Nat), j < n → G b j = cond b (G true (j + 1)) (G (p j) (j + 1))) : G b 0 = G (b || !decide (fdG p n 0 < 0)) n := Ro (by omega) hs
def CZ (f : Nat → D) (i : Nat) : D := .slc false ((List.range i).map fun j => .row [f j, .bool true])
theorem LN {f : Nat → D} {i : Nat} : ad (CZ f i) (.row [f i, .bool true]) = CZ f (i + 1) := by
 unfold CZ ad;rw [List.range_succ, List.map_append];rfl
theorem PT {f : Nat → D} {i : Nat} {k : D} : mIx [.str] (CZ f i) (.row [k]) = fdG (fun j => D.strEq (f j) k) i 0 := by
 rw [Y2 (by
  intro r hr;obtain ⟨j, _, e⟩ := List.mem_map.1 hr;exact ⟨_, _, e.symm⟩)]
 have hl : len (CZ f i) = i := by unfold len CZ; simp [D.rows]
 rw [hl];refine CW fun j _ hj => ?_
 have : cl (CZ f i) j 0 = f j := by
  show ((((List.range i).map fun j => D.row [f j, .bool true])[j]?).getD default).cells.getD 0 default = f j
  rw [List.getElem?_map, List.getElem?_range (by omega)]
  rfl
 rw [this]
theorem Ks {f : Nat → D} {i : Nat} {j : Int} (h0 : 0 ≤ j) (h : j < i) : cl (CZ f i) j 1 = .bool true := by
 show ((((List.range i).map fun j => D.row [f j, .bool true])[j.toNat]?).getD default).cells.getD 1 default = _
 rw [List.getElem?_map, List.getElem?_range (by omega)]
 rfl
theorem bJ {P : Program} {ts : List TypeId} {xs : List D} {ks : List Kd} {o : Option Nat} (h : GM o P ts xs) (hk : Bt (Env.of P) ts = some ks) : ks.length = xs.length ∧ OT (Env.of P).kinds 9 ks xs ∧ ShL (Env.of P).kinds o 9 ks xs := by
 obtain ⟨ks', cs, M, e, hd, hc, hs⟩ := h;rw [hk] at e;cases e;exact ⟨hd.len.2, hc.2, hs⟩
theorem ShK.cell {K : TypeId → Option (List Kd)} {o : Option Nat} {m j : Nat} {e : TypeId} {ks : List Kd} {kd : Kd} {d : D} {i : Nat} (h : ShK K o (m + 1) (.slice e) d) (hk : K e = some ks) (hi : i < len d) (hj : ks[j]? = some kd) : ShK K o m kd (cl d i j) := h.2 ks hk i hi j kd hj
theorem ShK.rows {K : TypeId → Option (List Kd)} {b m : Nat} {e : TypeId} {d : D} (h : ShK K (some b) (m + 1) (.slice e) d) : len d ≤ b := h.1 b rfl
theorem ShK.text {K : TypeId → Option (List Kd)} {b m : Nat} {d : D} (h : ShK K (some b) m .str d) : Co d ≤ b := by
 have : leB (some b) (Co d) := by cases m <;> exact h
 exact this b rfl
end Go.AE
set_option maxRecDepth 100000
namespace Cs
open Go Go.AE
theorem lt : HK 0 ts = true := by decide
theorem gw [Ar] {k p : Nat} {T : List (Tr Plf)} {t : Tr Plf} {xs : List D} {x : D} (hk : ts[k]? = some T) (hp : T[p]? = some t) (h : DP ts k (atV ts xs) t = x) : Ak ts k (.row (.int (p : Nat) :: xs)) = x := (dD lt hk hp).trans h
section
variable [Ar]
def Fw : D := Ak ts 0 (.row [.int (0 : Nat)])
def FC (v0 : D) : D := Ak ts 1 (.row [.int (0 : Nat), v0])
def Rl (v0 v1 v2 : D) : D := Ak ts 1 (.row [.int (1 : Nat), v0, v1, v2])
def Xa (v0 v1 : D) : D := Ak ts 2 (.row [.int (0 : Nat), v0, v1])
def XA (v0 v1 v2 : D) : D := Ak ts 2 (.row [.int (1 : Nat), v0, v1, v2])
def Uh (v0 v1 v2 v3 v4 v5 v6 : D) : D := Ak ts 3 (.row [.int (0 : Nat), v0, v1, v2, v3, v4, v5, v6])
def TE (v0 v1 v2 v3 v4 v5 : D) : D := Ak ts 3 (.row [.int (1 : Nat), v0, v1, v2, v3, v4, v5])
def IqQ (v0 v1 : D) : D := Ak ts 4 (.row [.int (0 : Nat), v0, v1])
def XY (v0 v1 v2 : D) : D := Ak ts 4 (.row [.int (1 : Nat), v0, v1, v2])
def Uv (v0 v1 v2 v3 v4 v5 v6 : D) : D := Ak ts 5 (.row [.int (0 : Nat), v0, v1, v2, v3, v4, v5, v6])
def TI (v0 v1 v2 v3 v4 v5 : D) : D := Ak ts 5 (.row [.int (1 : Nat), v0, v1, v2, v3, v4, v5])
def ca (v0 v1 v2 v3 v4 v5 v6 v7 v8 v9 : D) : D := Ak ts 6 (.row [.int (0 : Nat), v0, v1, v2, v3, v4, v5, v6, v7, v8, v9])
def T3 (v0 v1 v2 v3 v4 v5 v6 v7 v8 v9 v10 : D) : D := Ak ts 6 (.row [.int (1 : Nat), v0, v1, v2, v3, v4, v5, v6, v7, v8, v9, v10])
def Uq (v0 v1 v2 v3 v4 v5 v6 : D) : D := Ak ts 7 (.row [.int (0 : Nat), v0, v1, v2, v3, v4, v5, v6])
def Hu (v0 v1 v2 v3 v4 v5 : D) : D := Ak ts 7 (.row [.int (1 : Nat), v0, v1, v2, v3, v4, v5])
def FqQ (v0 v1 : D) : D := Ak ts 8 (.row [.int (0 : Nat), v0, v1])
def XI (v0 v1 v2 : D) : D := Ak ts 8 (.row [.int (1 : Nat), v0, v1, v2])
def Ja (v0 v1 : D) : D := Ak ts 9 (.row [.int (0 : Nat), v0, v1])
def Zi (v0 v1 v2 : D) : D := Ak ts 9 (.row [.int (1 : Nat), v0, v1, v2])
def NC (v0 v1 v2 v3 v4 v5 v6 v7 v8 v9 : D) : D := Ak ts 10 (.row [.int (0 : Nat), v0, v1, v2, v3, v4, v5, v6, v7, v8, v9])
def Gn (v0 v1 v2 v3 v4 v5 v6 v7 v8 v9 v10 v11 v12 : D) : D := Ak ts 10 (.row [.int (1 : Nat), v0, v1, v2, v3, v4, v5, v6, v7, v8, v9, v10, v11, v12])
def Eh (v0 v1 v2 v3 v4 v5 v6 v7 v8 v9 v10 v11 v12 v13 v14 v15 : D) : D := Ak ts 10 (.row [.int (2 : Nat), v0, v1, v2, v3, v4, v5, v6, v7, v8, v9, v10, v11, v12, v13, v14, v15])
def D8 (v0 v1 v2 v3 v4 v5 v6 v7 : D) : D := Ak ts 11 (.row [.int (0 : Nat), v0, v1, v2, v3, v4, v5, v6, v7])
def DC (v0 v1 v2 : D) : D := Ak ts 12 (.row [.int (0 : Nat), v0, v1, v2])
def RY (v0 v1 v2 v3 : D) : D := Ak ts 12 (.row [.int (1 : Nat), v0, v1, v2, v3])
def Vf (v0 : D) : D := Ak ts 13 (.row [.int (0 : Nat), v0])
def Jt (v0 v1 v2 v3 : D) : D := Ak ts 13 (.row [.int (1 : Nat), v0, v1, v2, v3])
def PA (v0 : D) : D := Ak ts 14 (.row [.int (0 : Nat), v0])
def FE (v0 v1 v2 v3 : D) : D := Ak ts 15 (.row [.int (0 : Nat), v0, v1, v2, v3])
def Jk (v0 v1 v2 v3 v4 : D) : D := Ak ts 15 (.row [.int (1 : Nat), v0, v1, v2, v3, v4])
def Jl (v0 v1 v2 v3 v4 v5 : D) : D := Ak ts 15 (.row [.int (2 : Nat), v0, v1, v2, v3, v4, v5])
def JE (v0 v1 v2 v3 v4 v5 v6 v7 v8 : D) : D := Ak ts 16 (.row [.int (0 : Nat), v0, v1, v2, v3, v4, v5, v6, v7, v8])
def HO (v0 v1 v2 v3 : D) : D := Ak ts 18 (.row [.int (0 : Nat), v0, v1, v2, v3])
def LM (v0 v1 v2 v3 v4 v5 v6 v7 v8 v9 v10 v11 : D) : D := Ak ts 19 (.row [.int (0 : Nat), v0, v1, v2, v3, v4, v5, v6, v7, v8, v9, v10, v11])
def JV (v0 v1 v2 v3 v4 v5 v6 v7 v8 : D) : D := Ak ts 20 (.row [.int (0 : Nat), v0, v1, v2, v3, v4, v5, v6, v7, v8])
def oB (v0 v1 v2 v3 v4 v5 v6 v7 v8 v9 : D) : D := Ak ts 20 (.row [.int (1 : Nat), v0, v1, v2, v3, v4, v5, v6, v7, v8, v9])
def Gt (v0 v1 v2 v3 v4 v5 v6 v7 v8 v9 v10 v11 v12 v13 v14 : D) : D := Ak ts 20 (.row [.int (2 : Nat), v0, v1, v2, v3, v4, v5, v6, v7, v8, v9, v10, v11, v12, v13, v14])
def mr (v0 v1 v2 v3 v4 v5 v6 v7 v8 : D) : D := Ak ts 21 (.row [.int (0 : Nat), v0, v1, v2, v3, v4, v5, v6, v7, v8])
def Vd (v0 v1 v2 v3 v4 v5 v6 v7 v8 v9 v10 v11 : D) : D := Ak ts 22 (.row [.int (0 : Nat), v0, v1, v2, v3, v4, v5, v6, v7, v8, v9, v10, v11])
def H8 (v0 v1 v2 v3 : D) : D := Ak ts 23 (.row [.int (0 : Nat), v0, v1, v2, v3])
def JN (v0 v1 v2 v3 v4 : D) : D := Ak ts 23 (.row [.int (1 : Nat), v0, v1, v2, v3, v4])
def G9 (v0 v1 v2 v3 v4 v5 v6 v7 v8 v9 : D) : D := Ak ts 24 (.row [.int (0 : Nat), v0, v1, v2, v3, v4, v5, v6, v7, v8, v9])
def G5 (v0 v1 v2 v3 v4 v5 v6 v7 v8 v9 v10 v11 : D) : D := Ak ts 25 (.row [.int (0 : Nat), v0, v1, v2, v3, v4, v5, v6, v7, v8, v9, v10, v11])
def Jx (v0 v1 v2 v3 v4 v5 v6 v7 v8 v9 v10 v11 v12 v13 v14 v15 : D) : D := Ak ts 25 (.row [.int (1 : Nat), v0, v1, v2, v3, v4, v5, v6, v7, v8, v9, v10, v11, v12, v13, v14, v15])
def Vo (v0 v1 v2 v3 v4 v5 v6 : D) : D := Ak ts 26 (.row [.int (0 : Nat), v0, v1, v2, v3, v4, v5, v6])
def Sk (v0 v1 v2 v3 v4 v5 v6 v7 v8 v9 v10 : D) : D := Ak ts 26 (.row [.int (1 : Nat), v0, v1, v2, v3, v4, v5, v6, v7, v8, v9, v10])
def O5 (v0 v1 v2 v3 v4 v5 v6 v7 v8 v9 : D) : D := Ak ts 26 (.row [.int (2 : Nat), v0, v1, v2, v3, v4, v5, v6, v7, v8, v9])
def KN (v0 v1 v2 v3 v4 v5 v6 v7 v8 v9 : D) : D := Ak ts 27 (.row [.int (0 : Nat), v0, v1, v2, v3, v4, v5, v6, v7, v8, v9])
def MN (v0 v1 v2 v3 v4 v5 v6 v7 v8 v9 v10 : D) : D := Ak ts 27 (.row [.int (1 : Nat), v0, v1, v2, v3, v4, v5, v6, v7, v8, v9, v10])
def OY (v0 v1 v2 v3 v4 v5 v6 v7 v8 v9 v10 v11 v12 v13 v14 : D) : D := Ak ts 28 (.row [.int (0 : Nat), v0, v1, v2, v3, v4, v5, v6, v7, v8, v9, v10, v11, v12, v13, v14])
def Bo (v0 v1 v2 v3 v4 v5 v6 v7 v8 v9 v10 v11 v12 v13 v14 v15 v16 v17 v18 v19 : D) : D := Ak ts 28 (.row [.int (1 : Nat), v0, v1, v2, v3, v4, v5, v6, v7, v8, v9, v10, v11, v12, v13, v14, v15, v16, v17, v18, v19])
def H3 (v0 v1 v2 v3 v4 v5 v6 v7 v8 v9 v10 v11 v12 : D) : D := Ak ts 29 (.row [.int (0 : Nat), v0, v1, v2, v3, v4, v5, v6, v7, v8, v9, v10, v11, v12])
def MJ (v0 v1 v2 v3 v4 v5 v6 : D) : D := Ak ts 30 (.row [.int (0 : Nat), v0, v1, v2, v3, v4, v5, v6])
def KR (v0 v1 v2 v3 v4 v5 v6 v7 : D) : D := Ak ts 30 (.row [.int (1 : Nat), v0, v1, v2, v3, v4, v5, v6, v7])
def JT (v0 v1 v2 v3 v4 v5 v6 : D) : D := Ak ts 31 (.row [.int (0 : Nat), v0, v1, v2, v3, v4, v5, v6])
def HL (v0 v1 v2 v3 v4 v5 v6 v7 v8 : D) : D := Ak ts 31 (.row [.int (1 : Nat), v0, v1, v2, v3, v4, v5, v6, v7, v8])
def MO (v0 v1 v2 v3 v4 v5 v6 v7 v8 v9 v10 v11 v12 v13 v14 v15 v16 v17 v18 v19 v20 v21 v22 v23 v24 v25 v26 : D) : D := Ak ts 32 (.row [.int (0 : Nat), v0, v1, v2, v3, v4, v5, v6, v7, v8, v9, v10, v11, v12, v13, v14, v15, v16, v17, v18, v19, v20, v21, v22, v23, v24, v25, v26])
def SP (v0 v1 v2 v3 v4 v5 v6 v7 v8 v9 v10 : D) : D := Ak ts 34 (.row [.int (0 : Nat), v0, v1, v2, v3, v4, v5, v6, v7, v8, v9, v10])
def MS (v0 v1 v2 v3 v4 v5 v6 v7 v8 v9 v10 v11 : D) : D := Ak ts 34 (.row [.int (1 : Nat), v0, v1, v2, v3, v4, v5, v6, v7, v8, v9, v10, v11])
def Js (v0 v1 v2 v3 v4 v5 v6 v7 v8 v9 v10 v11 : D) : D := Ak ts 35 (.row [.int (0 : Nat), v0, v1, v2, v3, v4, v5, v6, v7, v8, v9, v10, v11])
def Sb (v0 v1 v2 v3 v4 v5 v6 v7 v8 v9 v10 v11 v12 : D) : D := Ak ts 35 (.row [.int (1 : Nat), v0, v1, v2, v3, v4, v5, v6, v7, v8, v9, v10, v11, v12])
def WV (v0 v1 v2 v3 v4 v5 v6 v7 v8 v9 v10 v11 v12 v13 v14 v15 v16 v17 v18 v19 v20 v21 v22 v23 v24 v25 : D) : D := Ak ts 36 (.row [.int (0 : Nat), v0, v1, v2, v3, v4, v5, v6, v7, v8, v9, v10, v11, v12, v13, v14, v15, v16, v17, v18, v19, v20, v21, v22, v23, v24, v25])
def JP (v0 v1 v2 v3 v4 v5 v6 v7 v8 : D) : D := Ak ts 37 (.row [.int (0 : Nat), v0, v1, v2, v3, v4, v5, v6, v7, v8])
def MF (v0 v1 v2 v3 v4 v5 v6 v7 v8 v9 v10 v11 v12 v13 v14 v15 v16 v17 v18 v19 v20 v21 v22 v23 v24 v25 v26 v27 v28 : D) : D := Ak ts 38 (.row [.int (0 : Nat), v0, v1, v2, v3, v4, v5, v6, v7, v8, v9, v10, v11, v12, v13, v14, v15, v16, v17, v18, v19, v20, v21, v22, v23, v24, v25, v26, v27, v28])
def Nf (v0 v1 v2 v3 v4 v5 v6 v7 v8 v9 v10 v11 v12 v13 v14 v15 v16 v17 v18 v19 v20 v21 v22 v23 v24 v25 v26 v27 v28 v29 v30 v31 v32 v33 v34 : D) : D := Ak ts 38 (.row [.int (1 : Nat), v0, v1, v2, v3, v4, v5, v6, v7, v8, v9, v10, v11, v12, v13, v14, v15, v16, v17, v18, v19, v20, v21, v22, v23, v24, v25, v26, v27, v28, v29, v30, v31, v32, v33, v34])
def OR (v0 v1 v2 v3 v4 v5 v6 v7 v8 v9 v10 v11 v12 v13 v14 v15 v16 v17 v18 v19 v20 v21 v22 v23 v24 v25 v26 v27 v28 v29 v30 v31 v32 v33 v34 v35 v36 : D) : D := Ak ts 38 (.row [.int (2 : Nat), v0, v1, v2, v3, v4, v5, v6, v7, v8, v9, v10, v11, v12, v13, v14, v15, v16, v17, v18, v19, v20, v21, v22, v23, v24, v25, v26, v27, v28, v29, v30, v31, v32, v33, v34, v35, v36])
def PH (v0 v1 v2 v3 v4 v5 v6 v7 v8 v9 v10 v11 v12 v13 v14 v15 v16 v17 v18 v19 v20 v21 v22 v23 v24 v25 v26 v27 v28 v29 v30 v31 v32 v33 v34 : D) : D := Ak ts 38 (.row [.int (3 : Nat), v0, v1, v2, v3, v4, v5, v6, v7, v8, v9, v10, v11, v12, v13, v14, v15, v16, v17, v18, v19, v20, v21, v22, v23, v24, v25, v26, v27, v28, v29, v30, v31, v32, v33, v34])
def O1 (v0 v1 v2 v3 v4 v5 v6 v7 v8 v9 v10 v11 v12 v13 v14 v15 v16 v17 v18 v19 v20 v21 v22 v23 v24 v25 v26 v27 v28 v29 v30 v31 v32 v33 v34 v35 v36 : D) : D := Ak ts 38 (.row [.int (4 : Nat), v0, v1, v2, v3, v4, v5, v6, v7, v8, v9, v10, v11, v12, v13, v14, v15, v16, v17, v18, v19, v20, v21, v22, v23, v24, v25, v26, v27, v28, v29, v30, v31, v32, v33, v34, v35, v36])
def Wv (v0 v1 v2 v3 v4 v5 v6 v7 v8 v9 v10 v11 v12 v13 v14 v15 v16 v17 v18 : D) : D := Ak ts 39 (.row [.int (0 : Nat), v0, v1, v2, v3, v4, v5, v6, v7, v8, v9, v10, v11, v12, v13, v14, v15, v16, v17, v18])
def Pj (v0 v1 v2 v3 v4 v5 v6 v7 v8 v9 v10 v11 v12 v13 v14 v15 v16 v17 v18 v19 v20 v21 v22 : D) : D := Ak ts 39 (.row [.int (1 : Nat), v0, v1, v2, v3, v4, v5, v6, v7, v8, v9, v10, v11, v12, v13, v14, v15, v16, v17, v18, v19, v20, v21, v22])
def O8 (v0 v1 v2 v3 v4 v5 v6 v7 v8 v9 v10 v11 v12 v13 v14 v15 v16 v17 v18 v19 v20 v21 : D) : D := Ak ts 39 (.row [.int (2 : Nat), v0, v1, v2, v3, v4, v5, v6, v7, v8, v9, v10, v11, v12, v13, v14, v15, v16, v17, v18, v19, v20, v21])
def Nx (v0 v1 v2 v3 v4 v5 v6 v7 v8 v9 : D) : D := Ak ts 40 (.row [.int (0 : Nat), v0, v1, v2, v3, v4, v5, v6, v7, v8, v9])
def KM (v0 v1 v2 v3 v4 v5 v6 v7 v8 v9 v10 v11 v12 v13 v14 v15 : D) : D := Ak ts 40 (.row [.int (1 : Nat), v0, v1, v2, v3, v4, v5, v6, v7, v8, v9, v10, v11, v12, v13, v14, v15])
def Dl (v0 : D) : D := Ak ts 41 (.row [.int (0 : Nat), v0])
def JR (v0 v1 : D) : D := Ak ts 41 (.row [.int (1 : Nat), v0, v1])
def HU (v0 v1 v2 v3 v4 : D) : D := Ak ts 42 (.row [.int (0 : Nat), v0, v1, v2, v3, v4])
def SO (v0 v1 v2 v3 v4 v5 : D) : D := Ak ts 42 (.row [.int (1 : Nat), v0, v1, v2, v3, v4, v5])
def G8 (v0 v1 v2 v3 v4 : D) : D := Ak ts 43 (.row [.int (0 : Nat), v0, v1, v2, v3, v4])
def Sp (v0 v1 v2 v3 v4 v5 : D) : D := Ak ts 43 (.row [.int (1 : Nat), v0, v1, v2, v3, v4, v5])
def Sz (v0 v1 v2 v3 v4 : D) : D := Ak ts 44 (.row [.int (0 : Nat), v0, v1, v2, v3, v4])
def FH (v0 v1 v2 v3 v4 v5 v6 v7 v8 v9 v10 v11 v12 v13 v14 v15 : D) : D := Ak ts 44 (.row [.int (1 : Nat), v0, v1, v2, v3, v4, v5, v6, v7, v8, v9, v10, v11, v12, v13, v14, v15])
def MA (v0 v1 v2 v3 : D) : D := Ak ts 45 (.row [.int (0 : Nat), v0, v1, v2, v3])
def Jp (v0 v1 v2 v3 v4 : D) : D := Ak ts 45 (.row [.int (1 : Nat), v0, v1, v2, v3, v4])
def Jg (v0 v1 v2 v3 v4 : D) : D := Ak ts 45 (.row [.int (2 : Nat), v0, v1, v2, v3, v4])
def JL (v0 v1 v2 v3 v4 : D) : D := Ak ts 45 (.row [.int (3 : Nat), v0, v1, v2, v3, v4])
def BM (v0 v1 v2 v3 v4 : D) : D := Ak ts 46 (.row [.int (0 : Nat), v0, v1, v2, v3, v4])
def Td (v0 v1 v2 v3 v4 v5 : D) : D := Ak ts 46 (.row [.int (1 : Nat), v0, v1, v2, v3, v4, v5])
def BC (v0 v1 v2 v3 v4 : D) : D := Ak ts 47 (.row [.int (0 : Nat), v0, v1, v2, v3, v4])
def R8 (v0 v1 v2 v3 v4 v5 : D) : D := Ak ts 47 (.row [.int (1 : Nat), v0, v1, v2, v3, v4, v5])
def Nu (v0 v1 v2 v3 v4 v5 v6 v7 v8 v9 : D) : D := Ak ts 48 (.row [.int (0 : Nat), v0, v1, v2, v3, v4, v5, v6, v7, v8, v9])
def HP (v0 v1 v2 v3 v4 v5 v6 v7 v8 v9 v10 : D) : D := Ak ts 48 (.row [.int (1 : Nat), v0, v1, v2, v3, v4, v5, v6, v7, v8, v9, v10])
def Gb (v0 v1 v2 v3 v4 v5 v6 v7 v8 v9 v10 v11 v12 : D) : D := Ak ts 48 (.row [.int (2 : Nat), v0, v1, v2, v3, v4, v5, v6, v7, v8, v9, v10, v11, v12])
def G4 (v0 v1 v2 v3 v4 v5 v6 v7 v8 v9 v10 : D) : D := Ak ts 48 (.row [.int (3 : Nat), v0, v1, v2, v3, v4, v5, v6, v7, v8, v9, v10])
def DN (v0 v1 v2 v3 v4 v5 v6 v7 v8 v9 v10 v11 v12 v13 v14 v15 : D) : D := Ak ts 48 (.row [.int (4 : Nat), v0, v1, v2, v3, v4, v5, v6, v7, v8, v9, v10, v11, v12, v13, v14, v15])
def Se (v0 v1 v2 v3 v4 : D) : D := Ak ts 51 (.row [.int (0 : Nat), v0, v1, v2, v3, v4])
def JC (v0 v1 v2 v3 v4 v5 : D) : D := Ak ts 51 (.row [.int (1 : Nat), v0, v1, v2, v3, v4, v5])
def S6 (v0 v1 v2 v3 v4 : D) : D := Ak ts 52 (.row [.int (0 : Nat), v0, v1, v2, v3, v4])
def JS (v0 v1 v2 v3 v4 v5 : D) : D := Ak ts 52 (.row [.int (1 : Nat), v0, v1, v2, v3, v4, v5])
def C4 (v0 v1 v2 v3 v4 v5 v6 : D) : D := Ak ts 53 (.row [.int (0 : Nat), v0, v1, v2, v3, v4, v5, v6])
def BV (v0 v1 v2 v3 v4 v5 : D) : D := Ak ts 54 (.row [.int (0 : Nat), v0, v1, v2, v3, v4, v5])
def EJ (v0 v1 v2 v3 v4 v5 v6 v7 v8 : D) : D := Ak ts 54 (.row [.int (1 : Nat), v0, v1, v2, v3, v4, v5, v6, v7, v8])
def KW (v0 v1 v2 v3 : D) : D := Ak ts 55 (.row [.int (0 : Nat), v0, v1, v2, v3])
def L0 (v0 v1 v2 v3 v4 v5 v6 v7 : D) : D := Ak ts 55 (.row [.int (1 : Nat), v0, v1, v2, v3, v4, v5, v6, v7])
def LS (v0 v1 v2 v3 v4 v5 v6 v7 v8 v9 v10 : D) : D := Ak ts 55 (.row [.int (2 : Nat), v0, v1, v2, v3, v4, v5, v6, v7, v8, v9, v10])
def Sl (v0 v1 v2 v3 v4 v5 v6 : D) : D := Ak ts 56 (.row [.int (0 : Nat), v0, v1, v2, v3, v4, v5, v6])
def Is (v0 v1 v2 v3 v4 v5 v6 v7 : D) : D := Ak ts 56 (.row [.int (1 : Nat), v0, v1, v2, v3, v4, v5, v6, v7])
def M1 (v0 v1 v2 v3 v4 v5 v6 v7 v8 v9 v10 v11 : D) : D := Ak ts 57 (.row [.int (0 : Nat), v0, v1, v2, v3, v4, v5, v6, v7, v8, v9, v10, v11])
def Gx (v0 v1 v2 v3 v4 v5 v6 v7 v8 v9 v10 v11 v12 v13 v14 v15 : D) : D := Ak ts 57 (.row [.int (1 : Nat), v0, v1, v2, v3, v4, v5, v6, v7, v8, v9, v10, v11, v12, v13, v14, v15])
def Ga (v0 v1 v2 v3 v4 v5 v6 v7 v8 v9 v10 v11 v12 v13 v14 : D) : D := Ak ts 57 (.row [.int (2 : Nat), v0, v1, v2, v3, v4, v5, v6, v7, v8, v9, v10, v11, v12, v13, v14])
def FQ (v0 v1 v2 v3 : D) : D := Ak ts 58 (.row [.int (0 : Nat), v0, v1, v2, v3])
def JB (v0 v1 v2 v3 v4 : D) : D := Ak ts 58 (.row [.int (1 : Nat), v0, v1, v2, v3, v4])
def M0 (v0 v1 v2 v3 : D) : D := Ak ts 59 (.row [.int (0 : Nat), v0, v1, v2, v3])
def MU (v0 v1 v2 v3 v4 : D) : D := Ak ts 59 (.row [.int (1 : Nat), v0, v1, v2, v3, v4])
def FD (v0 v1 v2 v3 v4 v5 v6 : D) : D := Ak ts 59 (.row [.int (2 : Nat), v0, v1, v2, v3, v4, v5, v6])
def Dk (v0 v1 v2 v3 v4 v5 v6 : D) : D := Ak ts 60 (.row [.int (0 : Nat), v0, v1, v2, v3, v4, v5, v6])
def If (v0 v1 v2 v3 v4 v5 v6 v7 v8 v9 : D) : D := Ak ts 60 (.row [.int (1 : Nat), v0, v1, v2, v3, v4, v5, v6, v7, v8, v9])
def Jj (v0 v1 v2 v3 v4 v5 v6 v7 v8 v9 v10 v11 : D) : D := Ak ts 61 (.row [.int (0 : Nat), v0, v1, v2, v3, v4, v5, v6, v7, v8, v9, v10, v11])
def OQ (v0 v1 v2 v3 v4 v5 v6 v7 v8 v9 v10 v11 v12 : D) : D := Ak ts 61 (.row [.int (1 : Nat), v0, v1, v2, v3, v4, v5, v6, v7, v8, v9, v10, v11, v12])
def Et (v0 v1 v2 v3 v4 v5 v6 v7 v8 v9 v10 v11 v12 v13 v14 : D) : D := Ak ts 61 (.row [.int (2 : Nat), v0, v1, v2, v3, v4, v5, v6, v7, v8, v9, v10, v11, v12, v13, v14])
def Xi (v0 v1 v2 v3 v4 v5 v6 v7 v8 v9 v10 v11 : D) : D := Ak ts 62 (.row [.int (0 : Nat), v0, v1, v2, v3, v4, v5, v6, v7, v8, v9, v10, v11])
def UJ (v0 v1 v2 v3 v4 v5 v6 v7 v8 v9 v10 v11 : D) : D := Ak ts 63 (.row [.int (0 : Nat), v0, v1, v2, v3, v4, v5, v6, v7, v8, v9, v10, v11])
def LT (v0 v1 v2 v3 v4 v5 v6 v7 v8 v9 v10 v11 v12 v13 v14 v15 v16 v17 v18 v19 v20 v21 v22 : D) : D := Ak ts 63 (.row [.int (1 : Nat), v0, v1, v2, v3, v4, v5, v6, v7, v8, v9, v10, v11, v12, v13, v14, v15, v16, v17, v18, v19, v20, v21, v22])
def JW (v0 v1 v2 v3 v4 v5 v6 v7 v8 v9 v10 v11 v12 v13 v14 v15 v16 v17 v18 v19 v20 v21 v22 v23 : D) : D := Ak ts 63 (.row [.int (2 : Nat), v0, v1, v2, v3, v4, v5, v6, v7, v8, v9, v10, v11, v12, v13, v14, v15, v16, v17, v18, v19, v20, v21, v22, v23])
def MX (v0 v1 v2 v3 v4 v5 v6 v7 v8 v9 v10 v11 v12 v13 v14 v15 v16 v17 v18 : D) : D := Ak ts 63 (.row [.int (3 : Nat), v0, v1, v2, v3, v4, v5, v6, v7, v8, v9, v10, v11, v12, v13, v14, v15, v16, v17, v18])
def Jh (v0 v1 v2 v3 v4 v5 v6 v7 v8 v9 v10 v11 v12 v13 v14 v15 v16 v17 v18 v19 : D) : D := Ak ts 63 (.row [.int (4 : Nat), v0, v1, v2, v3, v4, v5, v6, v7, v8, v9, v10, v11, v12, v13, v14, v15, v16, v17, v18, v19])
def SH (v0 v1 v2 v3 v4 v5 v6 v7 v8 v9 : D) : D := Ak ts 64 (.row [.int (0 : Nat), v0, v1, v2, v3, v4, v5, v6, v7, v8, v9])
def Mw (v0 v1 v2 v3 v4 v5 v6 v7 v8 v9 v10 v11 v12 v13 v14 : D) : D := Ak ts 64 (.row [.int (1 : Nat), v0, v1, v2, v3, v4, v5, v6, v7, v8, v9, v10, v11, v12, v13, v14])
def Pd (v0 v1 v2 v3 v4 v5 v6 v7 v8 v9 v10 : D) : D := Ak ts 64 (.row [.int (2 : Nat), v0, v1, v2, v3, v4, v5, v6, v7, v8, v9, v10])
def kV (v0 v1 v2 v3 v4 v5 v6 v7 v8 v9 v10 v11 v12 v13 v14 v15 : D) : D := Ak ts 65 (.row [.int (0 : Nat), v0, v1, v2, v3, v4, v5, v6, v7, v8, v9, v10, v11, v12, v13, v14, v15])
def ML (v0 v1 v2 v3 v4 v5 v6 v7 v8 v9 v10 v11 v12 v13 : D) : D := Ak ts 66 (.row [.int (0 : Nat), v0, v1, v2, v3, v4, v5, v6, v7, v8, v9, v10, v11, v12, v13])
def Z7 (v0 v1 v2 v3 v4 v5 v6 v7 v8 v9 : D) : D := Ak ts 67 (.row [.int (0 : Nat), v0, v1, v2, v3, v4, v5, v6, v7, v8, v9])
def Ly (v0 v1 v2 v3 v4 v5 v6 v7 v8 v9 v10 : D) : D := Ak ts 67 (.row [.int (1 : Nat), v0, v1, v2, v3, v4, v5, v6, v7, v8, v9, v10])
def JJ (v0 v1 v2 v3 v4 v5 v6 v7 v8 v9 v10 v11 v12 v13 v14 v15 v16 : D) : D := Ak ts 67 (.row [.int (2 : Nat), v0, v1, v2, v3, v4, v5, v6, v7, v8, v9, v10, v11, v12, v13, v14, v15, v16])
theorem pO : Fw =
 .row [.int 1] := gw rfl rfl rfl
theorem qd (v0 : D) : FC v0 =
  cond ((Co v0 : Int) < 1) (
 .row [.int 1, (.bool false)]) (
 cond (32 < (Co v0 : Int)) (
 .row [.int 1, (.bool false)]) (
 Rl (OZ v0) (.int (len (OZ v0) : Int)) (.int 0))) := gw rfl rfl rfl
theorem bf (v0 : D) (v1 v2 : Int) : Rl v0 (.int v1) (.int v2) =
  cond (v2 < v1) (
 cond (v2 < 0) (
 .row []) (
 cond (v2 < len v0) (
 cond ((IntKind.wrap .u8 (cl v0 v2 0).toInt) < 97) (
 cond ((IntKind.wrap .u8 (cl v0 v2 0).toInt) < 65) (
 cond (v2 = 0) (
 .row [.int 1, (.bool false)]) (
 cond ((IntKind.wrap .u8 (cl v0 v2 0).toInt) < 48) (
 .row [.int 1, (.bool false)]) (
 cond (57 < (IntKind.wrap .u8 (cl v0 v2 0).toInt)) (
 .row [.int 1, (.bool false)]) (
 Rl v0 (.int v1) (.int (IntKind.wrap .i64 (v2 + 1))))))) (
 cond (90 < (IntKind.wrap .u8 (cl v0 v2 0).toInt)) (
 cond (v2 = 0) (
 .row [.int 1, (.bool false)]) (
 cond ((IntKind.wrap .u8 (cl v0 v2 0).toInt) = 95) (
 Rl v0 (.int v1) (.int (IntKind.wrap .i64 (v2 + 1)))) (
 .row [.int 1, (.bool false)]))) (
 Rl v0 (.int v1) (.int (IntKind.wrap .i64 (v2 + 1)))))) (
 cond (122 < (IntKind.wrap .u8 (cl v0 v2 0).toInt)) (
 cond (v2 = 0) (
 .row [.int 1, (.bool false)]) (
 .row [.int 1, (.bool false)])) (
 Rl v0 (.int v1) (.int (IntKind.wrap .i64 (v2 + 1)))))) (
 .row []))) (
 .row [.int 1, (.bool true)]) := gw rfl rfl (cL (cL rfl (cL (cL (cL (cQ rfl rfl) (cL (cQ rfl (cQ rfl rfl)) rfl)) (cL (cQ rfl rfl) rfl)) rfl)) rfl)
theorem qZ (v0 v1 : D) : Xa v0 v1 =
 XA v0 (.int 0) v1 := gw rfl rfl rfl
theorem qQ (v0 : D) (v1 : Int) (v2 : D) : XA v0 (.int v1) v2 =
  cond (v1 < len v0) (
 cond (v1 < 0) (
 .row []) (
 cond (D.strEq (cl v0 v1 0) v2) (
 .row [.int 1, (.int v1)]) (
 XA v0 (.int (IntKind.wrap .i64 (v1 + 1))) v2))) (
 .row [.int 1, (.int (-1))]) := gw rfl rfl rfl
theorem qX (v0 v1 v2 : Int) (v3 v4 v5 v6 : D) : Uh (.int v0) (.int v1) (.int v2) v3 v4 v5 v6 =
  cond (v0 < v1) (
 .row [.int 1, (.int 0)]) (
 cond (v2 < v0) (
 .row [.int 1, (.int v2)]) (
 TE (.int v0) (.int 0) v3 v4 v5 v6)) := gw rfl rfl rfl
theorem iQ (v0 v1 : Int) (v2 v3 v4 v5 : D) : TE (.int v0) (.int v1) v2 v3 v4 v5 =
  cond (v1 < v0) (
 cond (v1 < 0) (
 .row []) (
 cond (v1 < len v4) (
 cond ((sl (FC (cl v4 v1 0)) 0).toInt = 1) (
 cond ((sl (FC (cl v4 v1 0)) 1).toBool) (
 cond ((sl (Xa v4 (cl v4 v1 0)) 0).toInt = 1) (
 cond ((sl (Xa v4 (cl v4 v1 0)) 1).toInt < v1) (
 .row [.int 1, (.int v1)]) (
 cond ((cl v4 v1 1).toInt < 1) (
 .row [.int 1, (.int v1)]) (
 cond (1000 < (cl v4 v1 1).toInt) (
 .row [.int 1, (.int v1)]) (
 TE (.int v0) (.int (IntKind.wrap .i64 (v1 + 1))) v2 v3 v4 v5)))) (
 .row [])) (
 .row [.int 1, (.int v1)])) (
 .row [])) (
 .row []))) (
 .row [.int 1, (.int (-1))]) := gw rfl rfl (cL (cL rfl (cL (cQ (cg rfl (cQ (cL rfl (cL rfl (cL rfl rfl))) rfl) rfl) rfl) rfl)) rfl)
theorem ql (v0 v1 : D) : IqQ v0 v1 =
 XY v0 (.int 0) v1 := gw rfl rfl rfl
theorem qe (v0 : D) (v1 : Int) (v2 : D) : XY v0 (.int v1) v2 =
  cond (v1 < len v0) (
 cond (v1 < 0) (
 .row []) (
 cond (D.strEq (cl v0 v1 0) v2) (
 .row [.int 1, (.int v1)]) (
 XY v0 (.int (IntKind.wrap .i64 (v1 + 1))) v2))) (
 .row [.int 1, (.int (-1))]) := gw rfl rfl rfl
theorem pI (v0 v1 v2 : Int) (v3 v4 v5 v6 : D) : Uv (.int v0) (.int v1) (.int v2) v3 v4 v5 v6 =
  cond (v0 < v1) (
 .row [.int 1, (.int 0)]) (
 cond (v2 < v0) (
 .row [.int 1, (.int v2)]) (
 TI (.int v0) (.int 0) v3 v4 v5 v6)) := gw rfl rfl rfl
theorem iO (v0 v1 : Int) (v2 v3 v4 v5 : D) : TI (.int v0) (.int v1) v2 v3 v4 v5 =
  cond (v1 < v0) (
 cond (v1 < 0) (
 .row []) (
 cond (v1 < len v3) (
 cond ((sl (FC (cl v3 v1 0)) 0).toInt = 1) (
 cond ((sl (FC (cl v3 v1 0)) 1).toBool) (
 cond ((sl (IqQ v3 (cl v3 v1 0)) 0).toInt = 1) (
 cond ((sl (IqQ v3 (cl v3 v1 0)) 1).toInt < v1) (
 .row [.int 1, (.int v1)]) (
 cond ((cl v3 v1 2).toInt < 0) (
 .row [.int 1, (.int v1)]) (
 cond (1048576 < (cl v3 v1 2).toInt) (
 .row [.int 1, (.int v1)]) (
 TI (.int v0) (.int (IntKind.wrap .i64 (v1 + 1))) v2 v3 v4 v5)))) (
 .row [])) (
 .row [.int 1, (.int v1)])) (
 .row [])) (
 .row []))) (
 .row [.int 1, (.int (-1))]) := gw rfl rfl (cL (cL rfl (cL (cQ (cg rfl (cQ (cL rfl (cL rfl (cL rfl rfl))) rfl) rfl) rfl) rfl)) rfl)
theorem qx (v0 v1 v2 : D) (v3 : Int) (v4 v5 v6 : D) (v7 v8 v9 : Int) : ca v0 v1 v2 (.int v3) v4 v5 v6 (.int v7) (.int v8) (.int v9) =
 T3 v0 (.int 0) v1 v2 (.int v3) v4 v5 v6 (.int v7) (.int v8) (.int v9) := gw rfl rfl rfl
theorem lg (v0 : D) (v1 : Int) (v2 v3 : D) (v4 : Int) (v5 v6 v7 : D) (v8 v9 v10 : Int) : T3 v0 (.int v1) v2 v3 (.int v4) v5 v6 v7 (.int v8) (.int v9) (.int v10) =
  cond (v1 < len v0) (
 cond (v1 < 0) (
 .row []) (
 cond ((D.strEq v2 (cl v0 v1 0) && (D.strEq v3 (cl v0 v1 1) && (decide (v4 = (cl v0 v1 2).toInt) && (D.strEq v5 (cl v0 v1 3) && (D.strEq v6 (cl v0 v1 4) && (D.strEq v7 (cl v0 v1 5) && (decide (v8 = (cl v0 v1 6).toInt) && (decide (v9 = (cl v0 v1 7).toInt) && decide (v10 = (cl v0 v1 8).toInt)))))))))) (
 .row [.int 1, (.int v1)]) (
 T3 v0 (.int (IntKind.wrap .i64 (v1 + 1))) v2 v3 (.int v4) v5 v6 v7 (.int v8) (.int v9) (.int v10)))) (
 .row [.int 1, (.int (-1))]) := gw rfl rfl (cL (cL rfl (cg (aE rfl (aE rfl (aE (qE rfl rfl) (aE rfl (aE rfl (aE rfl (aE (qE rfl rfl) (aE (qE rfl rfl) (qE rfl rfl))))))))) rfl rfl)) rfl)
theorem qS (v0 v1 v2 : Int) (v3 v4 v5 v6 : D) : Uq (.int v0) (.int v1) (.int v2) v3 v4 v5 v6 =
  cond (v0 < v1) (
 .row [.int 1, (.int 0)]) (
 cond (v2 < v0) (
 .row [.int 1, (.int v2)]) (
 Hu (.int v0) (.int 0) v3 v4 v5 v6)) := gw rfl rfl rfl
theorem kX (v0 v1 : Int) (v2 v3 v4 v5 : D) {F0 F1 F2 : D} (h0 : ca (sb v5 0 v1) (cl v5 v1 0) (cl v5 v1 1) (cl v5 v1 2) (cl v5 v1 3) (cl v5 v1 4) (cl v5 v1 5) (cl v5 v1 6) (cl v5 v1 7) (cl v5 v1 8) = F0) (h1 : Xa v4 (cl v5 v1 5) = F1) (h2 : IqQ v3 (cl v5 v1 0) = F2) : Hu (.int v0) (.int v1) v2 v3 v4 v5 =
  cond (v1 < v0) (
 cond (v1 < 0) (
 .row []) (
 cond (v1 < len v5) (
 cond ((cl v5 v1 2).toInt = 1) (
 cond ((sl F2 0).toInt = 1) (
 cond ((sl F1 0).toInt = 1) (
 cond ((sl F2 1).toInt < 0) (
 .row [.int 1, (.int v1)]) (
 cond ((sl (IqQ v3 (cl v5 v1 1)) 0).toInt = 1) (
 cond ((sl (IqQ v3 (cl v5 v1 1)) 1).toInt < 0) (
 .row [.int 1, (.int v1)]) (
 cond (len v5 < v1) (
 .row []) (
 cond ((sl F0 0).toInt = 1) (
 cond ((sl F0 1).toInt < 0) (
 cond ((sl F2 1).toInt < len v3) (
 cond ((sl (FC (cl v5 v1 3)) 0).toInt = 1) (
 cond ((sl (FC (cl v5 v1 3)) 1).toBool) (
 cond ((sl (FC (cl v5 v1 4)) 0).toInt = 1) (
 cond ((sl (FC (cl v5 v1 4)) 1).toBool) (
 cond (D.strEq (cl v5 v1 4) v2) (
 .row [.int 1, (.int v1)]) (
 cond (eqC (cl v5 v1 5) 0 0) (
 cond ((cl v5 v1 6).toInt = 0) (
 cond ((cl v5 v1 7).toInt = 0) (
 cond ((cl v5 v1 8).toInt = 0) (
 Hu (.int v0) (.int (IntKind.wrap .i64 (v1 + 1))) v2 v3 v4 v5) (
 .row [.int 1, (.int v1)])) (
 .row [.int 1, (.int v1)])) (
 .row [.int 1, (.int v1)])) (
 cond ((sl F1 1).toInt < 0) (
 .row [.int 1, (.int v1)]) (
 cond ((cl v5 v1 6).toInt < 0) (
 .row [.int 1, (.int v1)]) (
 cond ((cl v5 v1 7).toInt < (cl v5 v1 6).toInt) (
 .row [.int 1, (.int v1)]) (
 cond ((cl v5 v1 8).toInt < (-1000)) (
 .row [.int 1, (.int v1)]) (
 cond (1000 < (cl v5 v1 8).toInt) (
 .row [.int 1, (.int v1)]) (
 cond ((sl F1 1).toInt < len v4) (
 cond ((cl v4 (sl F1 1).toInt 1).toInt < (cl v5 v1 7).toInt) (
 .row [.int 1, (.int v1)]) (
 cond ((IntKind.wrap .i64 ((cl v5 v1 6).toInt + (cl v5 v1 8).toInt)) < 0) (
 .row [.int 1, (.int v1)]) (
 cond ((cl v4 (sl F1 1).toInt 1).toInt < (IntKind.wrap .i64 ((cl v5 v1 7).toInt + (cl v5 v1 8).toInt))) (
 .row [.int 1, (.int v1)]) (
 Hu (.int v0) (.int (IntKind.wrap .i64 (v1 + 1))) v2 v3 v4 v5)))) (
 .row []))))))))) (
 .row [.int 1, (.int v1)])) (
 .row [])) (
 .row [.int 1, (.int v1)])) (
 .row [])) (
 .row [])) (
 .row [.int 1, (.int v1)])) (
 .row [])))) (
 .row []))) (
 .row [])) (
 .row [])) (
 cond ((cl v5 v1 2).toInt = 2) (
 cond ((sl F2 0).toInt = 1) (
 cond ((sl F1 0).toInt = 1) (
 cond ((sl F2 1).toInt < 0) (
 .row [.int 1, (.int v1)]) (
 cond ((sl (IqQ v3 (cl v5 v1 1)) 0).toInt = 1) (
 cond ((sl (IqQ v3 (cl v5 v1 1)) 1).toInt < 0) (
 .row [.int 1, (.int v1)]) (
 cond (len v5 < v1) (
 .row []) (
 cond ((sl F0 0).toInt = 1) (
 cond ((sl F0 1).toInt < 0) (
 cond ((sl F2 1).toInt < len v3) (
 cond ((sl (FC (cl v5 v1 3)) 0).toInt = 1) (
 cond ((sl (FC (cl v5 v1 3)) 1).toBool) (
 cond ((sl (FC (cl v5 v1 4)) 0).toInt = 1) (
 cond ((sl (FC (cl v5 v1 4)) 1).toBool) (
 cond (D.strEq (cl v5 v1 4) v2) (
 .row [.int 1, (.int v1)]) (
 cond (eqC (cl v5 v1 5) 0 0) (
 cond ((cl v5 v1 6).toInt = 0) (
 cond ((cl v5 v1 7).toInt = 0) (
 cond ((cl v5 v1 8).toInt = 0) (
 Hu (.int v0) (.int (IntKind.wrap .i64 (v1 + 1))) v2 v3 v4 v5) (
 .row [.int 1, (.int v1)])) (
 .row [.int 1, (.int v1)])) (
 .row [.int 1, (.int v1)])) (
 cond ((sl F1 1).toInt < 0) (
 .row [.int 1, (.int v1)]) (
 cond ((cl v5 v1 6).toInt < 0) (
 .row [.int 1, (.int v1)]) (
 cond ((cl v5 v1 7).toInt < (cl v5 v1 6).toInt) (
 .row [.int 1, (.int v1)]) (
 cond ((cl v5 v1 8).toInt < (-1000)) (
 .row [.int 1, (.int v1)]) (
 cond (1000 < (cl v5 v1 8).toInt) (
 .row [.int 1, (.int v1)]) (
 cond ((sl F1 1).toInt < len v4) (
 cond ((cl v4 (sl F1 1).toInt 1).toInt < (cl v5 v1 7).toInt) (
 .row [.int 1, (.int v1)]) (
 cond ((IntKind.wrap .i64 ((cl v5 v1 6).toInt + (cl v5 v1 8).toInt)) < 0) (
 .row [.int 1, (.int v1)]) (
 cond ((cl v4 (sl F1 1).toInt 1).toInt < (IntKind.wrap .i64 ((cl v5 v1 7).toInt + (cl v5 v1 8).toInt))) (
 .row [.int 1, (.int v1)]) (
 Hu (.int v0) (.int (IntKind.wrap .i64 (v1 + 1))) v2 v3 v4 v5)))) (
 .row []))))))))) (
 .row [.int 1, (.int v1)])) (
 .row [])) (
 .row [.int 1, (.int v1)])) (
 .row [])) (
 .row [])) (
 .row [.int 1, (.int v1)])) (
 .row [])))) (
 .row []))) (
 .row [])) (
 .row [])) (
 cond ((cl v5 v1 2).toInt = 3) (
 cond ((sl F2 0).toInt = 1) (
 cond ((sl F1 0).toInt = 1) (
 cond ((sl F2 1).toInt < 0) (
 .row [.int 1, (.int v1)]) (
 cond ((sl (IqQ v3 (cl v5 v1 1)) 0).toInt = 1) (
 cond ((sl (IqQ v3 (cl v5 v1 1)) 1).toInt < 0) (
 .row [.int 1, (.int v1)]) (
 cond (len v5 < v1) (
 .row []) (
 cond ((sl F0 0).toInt = 1) (
 cond ((sl F0 1).toInt < 0) (
 cond ((sl F2 1).toInt < len v3) (
 cond (0 < (cl v3 (sl F2 1).toInt 2).toInt) (
 cond ((Co (cl v5 v1 3) : Int) < 4611686018427387904) (
 cond ((Co (cl v5 v1 4) : Int) < 4611686018427387904) (
 cond (eqC (Yq (cl v5 v1 3) (cl v5 v1 4)) 0 0) (
 cond (eqC (cl v5 v1 5) 0 0) (
 cond ((cl v5 v1 6).toInt = 0) (
 cond ((cl v5 v1 7).toInt = 0) (
 cond ((cl v5 v1 8).toInt = 0) (
 Hu (.int v0) (.int (IntKind.wrap .i64 (v1 + 1))) v2 v3 v4 v5) (
 .row [.int 1, (.int v1)])) (
 .row [.int 1, (.int v1)])) (
 .row [.int 1, (.int v1)])) (
 cond ((sl F1 1).toInt < 0) (
 .row [.int 1, (.int v1)]) (
 cond ((cl v5 v1 6).toInt < 0) (
 .row [.int 1, (.int v1)]) (
 cond ((cl v5 v1 7).toInt < (cl v5 v1 6).toInt) (
 .row [.int 1, (.int v1)]) (
 cond ((cl v5 v1 8).toInt < (-1000)) (
 .row [.int 1, (.int v1)]) (
 cond (1000 < (cl v5 v1 8).toInt) (
 .row [.int 1, (.int v1)]) (
 cond ((sl F1 1).toInt < len v4) (
 cond ((cl v4 (sl F1 1).toInt 1).toInt < (cl v5 v1 7).toInt) (
 .row [.int 1, (.int v1)]) (
 cond ((IntKind.wrap .i64 ((cl v5 v1 6).toInt + (cl v5 v1 8).toInt)) < 0) (
 .row [.int 1, (.int v1)]) (
 cond ((cl v4 (sl F1 1).toInt 1).toInt < (IntKind.wrap .i64 ((cl v5 v1 7).toInt + (cl v5 v1 8).toInt))) (
 .row [.int 1, (.int v1)]) (
 Hu (.int v0) (.int (IntKind.wrap .i64 (v1 + 1))) v2 v3 v4 v5)))) (
 .row [])))))))) (
 .row [.int 1, (.int v1)])) (
 .row [])) (
 .row [])) (
 .row [.int 1, (.int v1)])) (
 .row [])) (
 .row [.int 1, (.int v1)])) (
 .row [])))) (
 .row []))) (
 .row [])) (
 .row [])) (
 cond ((cl v5 v1 2).toInt = 4) (
 cond ((sl F2 0).toInt = 1) (
 cond ((sl F1 0).toInt = 1) (
 cond ((sl F2 1).toInt < 0) (
 .row [.int 1, (.int v1)]) (
 cond ((sl (IqQ v3 (cl v5 v1 1)) 0).toInt = 1) (
 cond ((sl (IqQ v3 (cl v5 v1 1)) 1).toInt < 0) (
 .row [.int 1, (.int v1)]) (
 cond (len v5 < v1) (
 .row []) (
 cond ((sl F0 0).toInt = 1) (
 cond ((sl F0 1).toInt < 0) (
 cond ((sl F2 1).toInt < len v3) (
 cond ((Co (cl v5 v1 3) : Int) < 4611686018427387904) (
 cond ((Co (cl v5 v1 4) : Int) < 4611686018427387904) (
 cond (eqC (Yq (cl v5 v1 3) (cl v5 v1 4)) 0 0) (
 cond (eqC (cl v5 v1 5) 0 0) (
 cond ((cl v5 v1 6).toInt = 0) (
 cond ((cl v5 v1 7).toInt = 0) (
 cond ((cl v5 v1 8).toInt = 0) (
 Hu (.int v0) (.int (IntKind.wrap .i64 (v1 + 1))) v2 v3 v4 v5) (
 .row [.int 1, (.int v1)])) (
 .row [.int 1, (.int v1)])) (
 .row [.int 1, (.int v1)])) (
 cond ((sl F1 1).toInt < 0) (
 .row [.int 1, (.int v1)]) (
 cond ((cl v5 v1 6).toInt < 0) (
 .row [.int 1, (.int v1)]) (
 cond ((cl v5 v1 7).toInt < (cl v5 v1 6).toInt) (
 .row [.int 1, (.int v1)]) (
 cond ((cl v5 v1 8).toInt < (-1000)) (
 .row [.int 1, (.int v1)]) (
 cond (1000 < (cl v5 v1 8).toInt) (
 .row [.int 1, (.int v1)]) (
 cond ((sl F1 1).toInt < len v4) (
 cond ((cl v4 (sl F1 1).toInt 1).toInt < (cl v5 v1 7).toInt) (
 .row [.int 1, (.int v1)]) (
 cond ((IntKind.wrap .i64 ((cl v5 v1 6).toInt + (cl v5 v1 8).toInt)) < 0) (
 .row [.int 1, (.int v1)]) (
 cond ((cl v4 (sl F1 1).toInt 1).toInt < (IntKind.wrap .i64 ((cl v5 v1 7).toInt + (cl v5 v1 8).toInt))) (
 .row [.int 1, (.int v1)]) (
 Hu (.int v0) (.int (IntKind.wrap .i64 (v1 + 1))) v2 v3 v4 v5)))) (
 .row [])))))))) (
 .row [.int 1, (.int v1)])) (
 .row [])) (
 .row [])) (
 .row [])) (
 .row [.int 1, (.int v1)])) (
 .row [])))) (
 .row []))) (
 .row [])) (
 .row [])) (
 cond ((sl F2 0).toInt = 1) (
 cond ((sl F1 0).toInt = 1) (
 .row [.int 1, (.int v1)]) (
 .row [])) (
 .row [])))))) (
 .row []))) (
 .row [.int 1, (.int (-1))]) := by
  subst h0; subst h1; subst h2; exact gw rfl rfl (cL (cL rfl (cL (cQ (cQ (cQ (cL rfl (cQ (cL rfl (cL rfl (cQ (cL (cL (cQ (cg rfl (cQ (cg rfl (cg rfl rfl (cg rfl (cQ (cQ (cQ rfl rfl) rfl) rfl) (cL rfl (cL rfl (cL rfl (cL rfl (cL rfl rfl))))))) rfl) rfl) rfl) rfl) rfl) rfl) rfl))) rfl)) rfl) rfl) (cQ (cQ (cQ (cL rfl (cQ (cL rfl (cL rfl (cQ (cL (cL (cQ (cg rfl (cQ (cg rfl (cg rfl rfl (cg rfl (cQ (cQ (cQ rfl rfl) rfl) rfl) (cL rfl (cL rfl (cL rfl (cL rfl (cL rfl rfl))))))) rfl) rfl) rfl) rfl) rfl) rfl) rfl))) rfl)) rfl) rfl) (cQ (cQ (cQ (cL rfl (cQ (cL rfl (cL rfl (cQ (cL (cL (cL (cL (cL (cg rfl (cg rfl (cQ (cQ (cQ rfl rfl) rfl) rfl) (cL rfl (cL rfl (cL rfl (cL rfl (cL rfl rfl)))))) rfl) rfl) rfl) rfl) rfl) rfl) rfl))) rfl)) rfl) rfl) (cQ (cQ (cQ (cL rfl (cQ (cL rfl (cL rfl (cQ (cL (cL (cL (cL (cg rfl (cg rfl (cQ (cQ (cQ rfl rfl) rfl) rfl) (cL rfl (cL rfl (cL rfl (cL rfl (cL rfl rfl)))))) rfl) rfl) rfl) rfl) rfl) rfl))) rfl)) rfl) rfl) (cQ (cQ rfl rfl) rfl))))) rfl)) rfl)
theorem qG (v0 v1 : D) : FqQ v0 v1 =
 XI v0 (.int 0) v1 := gw rfl rfl rfl
theorem qA (v0 : D) (v1 : Int) (v2 : D) : XI v0 (.int v1) v2 =
  cond (v1 < len v0) (
 cond (v1 < 0) (
 .row []) (
 cond (D.strEq (cl v0 v1 0) v2) (
 .row [.int 1, (.int v1)]) (
 XI v0 (.int (IntKind.wrap .i64 (v1 + 1))) v2))) (
 .row [.int 1, (.int (-1))]) := gw rfl rfl rfl
theorem pY (v0 v1 : D) : Ja v0 v1 =
 Zi v0 (.int 0) v1 := gw rfl rfl rfl
theorem pP (v0 : D) (v1 : Int) (v2 : D) : Zi v0 (.int v1) v2 =
  cond (v1 < len v0) (
 cond (v1 < 0) (
 .row []) (
 cond (D.strEq (cl v0 v1 0) v2) (
 .row [.int 1, (.int v1)]) (
 Zi v0 (.int (IntKind.wrap .i64 (v1 + 1))) v2))) (
 .row [.int 1, (.int (-1))]) := gw rfl rfl rfl
theorem oD (v0 v1 v2 v3 v4 v5 v6 v7 v8 v9 : D) : NC v0 v1 v2 v3 v4 v5 v6 v7 v8 v9 =
  cond ((sl (FC v0) 0).toInt = 1) (
 cond ((sl (FC v0) 1).toBool) (
 cond ((sl (Uh (.int (len v2 : Int)) (.int 0) (.int 4) v0 v1 v2 v3) 0).toInt = 1) (
 cond ((sl (Uh (.int (len v2 : Int)) (.int 0) (.int 4) v0 v1 v2 v3) 1).toInt < 0) (
 cond ((sl (Uv (.int (len v1 : Int)) (.int 1) (.int 24) v0 v1 v2 v3) 0).toInt = 1) (
 cond ((sl (Uv (.int (len v1 : Int)) (.int 1) (.int 24) v0 v1 v2 v3) 1).toInt < 0) (
 cond ((sl (Uq (.int (len v3 : Int)) (.int 0) (.int 80) v0 v1 v2 v3) 0).toInt = 1) (
 cond ((sl (Uq (.int (len v3 : Int)) (.int 0) (.int 80) v0 v1 v2 v3) 1).toInt < 0) (
 cond ((sl (FC v4) 0).toInt = 1) (
 cond ((sl (FC v4) 1).toBool) (
 cond ((sl (Uh (.int (len v6 : Int)) (.int 0) (.int 4) v4 v5 v6 v7) 0).toInt = 1) (
 cond ((sl (Uh (.int (len v6 : Int)) (.int 0) (.int 4) v4 v5 v6 v7) 1).toInt < 0) (
 cond ((sl (Uv (.int (len v5 : Int)) (.int 1) (.int 24) v4 v5 v6 v7) 0).toInt = 1) (
 cond ((sl (Uv (.int (len v5 : Int)) (.int 1) (.int 24) v4 v5 v6 v7) 1).toInt < 0) (
 cond ((sl (Uq (.int (len v7 : Int)) (.int 0) (.int 80) v4 v5 v6 v7) 0).toInt = 1) (
 cond ((sl (Uq (.int (len v7 : Int)) (.int 0) (.int 80) v4 v5 v6 v7) 1).toInt < 0) (
 cond (24 < (len v8 : Int)) (
 .row [.int 1, (.int 24), (.int 490)]) (
 Gn v0 v1 v2 v3 v4 v5 v6 v7 v8 v9 (.bool (decide (24 < (len v8 : Int)))) (.int 0) Aw)) (
 .row [.int 1, (.int 0), (.int 2)])) (
 .row [])) (
 .row [.int 1, (.int 0), (.int 2)])) (
 .row [])) (
 .row [.int 1, (.int 0), (.int 2)])) (
 .row [])) (
 .row [.int 1, (.int 0), (.int 2)])) (
 .row [])) (
 .row [.int 1, (.int 0), (.int 2)])) (
 .row [])) (
 .row [.int 1, (.int 0), (.int 2)])) (
 .row [])) (
 .row [.int 1, (.int 0), (.int 2)])) (
 .row [])) (
 .row [.int 1, (.int 0), (.int 2)])) (
 .row []) := gw rfl rfl (cQ (cg rfl (cQ (cL (cQ (cL (cQ (cL (cQ (cg rfl (cQ (cL (cQ (cL (cQ rfl rfl) rfl) rfl) rfl) rfl) rfl) rfl) rfl) rfl) rfl) rfl) rfl) rfl) rfl) rfl)
theorem ZL (v0 v1 v2 v3 v4 v5 v6 v7 v8 v9 : D) (v10 : Bool) (v11 : Int) (v12 : D) : Gn v0 v1 v2 v3 v4 v5 v6 v7 v8 v9 (.bool v10) (.int v11) v12 =
  cond (v11 < len v8) (
 cond (v11 < 0) (
 .row []) (
 cond ((sl (FqQ v1 (cl v8 v11 0)) 0).toInt = 1) (
 cond ((sl (FqQ v1 (cl v8 v11 0)) 1).toInt < 0) (
 .row [.int 1, (.int v11), (.int 490)]) (
 cond ((sl (FqQ v5 (cl v8 v11 1)) 0).toInt = 1) (
 cond ((sl (FqQ v5 (cl v8 v11 1)) 1).toInt < 0) (
 .row [.int 1, (.int v11), (.int 490)]) (
 cond ((mIx [.str] v12 (.row [(cl v8 v11 0)])) < 0) (
 Gn v0 v1 v2 v3 v4 v5 v6 v7 v8 v9 (.bool v10) (.int (IntKind.wrap .i64 (v11 + 1))) (ad v12 (.row [(cl v8 v11 0), (.bool true)]))) (
 cond ((cl v12 (mIx [.str] v12 (.row [(cl v8 v11 0)])) 1).toBool) (
 .row [.int 1, (.int v11), (.int 490)]) (
 Gn v0 v1 v2 v3 v4 v5 v6 v7 v8 v9 (.bool v10) (.int (IntKind.wrap .i64 (v11 + 1))) (upd v12 (mIx [.str] v12 (.row [(cl v8 v11 0)])) 1 (.bool true)))))) (
 .row []))) (
 .row []))) (
 cond (4 < (len v9 : Int)) (
 .row [.int 1, (.int 4), (.int 491)]) (
 Eh v0 v1 v2 v3 v4 v5 v6 v7 v8 v9 (.bool v10) (.int v11) (.bool (decide (v11 < (len v8 : Int)))) (.bool (decide (4 < (len v9 : Int)))) (.int 0) Aw)) := gw rfl rfl (cL (cL rfl (cQ (cL rfl (cQ rfl rfl)) rfl)) rfl)
theorem Z9 (v0 v1 v2 v3 v4 v5 v6 v7 v8 v9 : D) (v10 : Bool) (v11 : Int) (v12 v13 : Bool) (v14 : Int) (v15 : D) : Eh v0 v1 v2 v3 v4 v5 v6 v7 v8 v9 (.bool v10) (.int v11) (.bool v12) (.bool v13) (.int v14) v15 =
  cond (v14 < len v9) (
 cond (v14 < 0) (
 .row []) (
 cond ((sl (Ja v6 (cl v9 v14 0)) 0).toInt = 1) (
 cond ((sl (Ja v6 (cl v9 v14 0)) 1).toInt < 0) (
 .row [.int 1, (.int v14), (.int 491)]) (
 cond (eqC (cl v9 v14 1) 0 0) (
 cond ((mIx [.str] v15 (.row [(cl v9 v14 0)])) < 0) (
 cond ((cl v9 v14 2).toInt < (IntKind.wrap .i64 (0 - (cl v9 v14 2).toInt))) (
 cond (1000 < (IntKind.wrap .i64 (0 - (cl v9 v14 2).toInt))) (
 .row [.int 1, (.int v14), (.int 491)]) (
 cond ((cl v9 v14 2).toInt < (-1000)) (
 .row [.int 1, (.int v14), (.int 491)]) (
 Eh v0 v1 v2 v3 v4 v5 v6 v7 v8 v9 (.bool v10) (.int v11) (.bool v12) (.bool v13) (.int (IntKind.wrap .i64 (v14 + 1))) (ad v15 (.row [(cl v9 v14 0), (.bool true)]))))) (
 cond (1000 < (cl v9 v14 2).toInt) (
 .row [.int 1, (.int v14), (.int 491)]) (
 cond ((cl v9 v14 2).toInt < (-1000)) (
 .row [.int 1, (.int v14), (.int 491)]) (
 Eh v0 v1 v2 v3 v4 v5 v6 v7 v8 v9 (.bool v10) (.int v11) (.bool v12) (.bool v13) (.int (IntKind.wrap .i64 (v14 + 1))) (ad v15 (.row [(cl v9 v14 0), (.bool true)])))))) (
 cond ((cl v15 (mIx [.str] v15 (.row [(cl v9 v14 0)])) 1).toBool) (
 .row [.int 1, (.int v14), (.int 491)]) (
 cond ((cl v9 v14 2).toInt < (IntKind.wrap .i64 (0 - (cl v9 v14 2).toInt))) (
 cond (1000 < (IntKind.wrap .i64 (0 - (cl v9 v14 2).toInt))) (
 .row [.int 1, (.int v14), (.int 491)]) (
 cond ((cl v9 v14 2).toInt < (-1000)) (
 .row [.int 1, (.int v14), (.int 491)]) (
 Eh v0 v1 v2 v3 v4 v5 v6 v7 v8 v9 (.bool v10) (.int v11) (.bool v12) (.bool v13) (.int (IntKind.wrap .i64 (v14 + 1))) (upd v15 (mIx [.str] v15 (.row [(cl v9 v14 0)])) 1 (.bool true))))) (
 cond (1000 < (cl v9 v14 2).toInt) (
 .row [.int 1, (.int v14), (.int 491)]) (
 cond ((cl v9 v14 2).toInt < (-1000)) (
 .row [.int 1, (.int v14), (.int 491)]) (
 Eh v0 v1 v2 v3 v4 v5 v6 v7 v8 v9 (.bool v10) (.int v11) (.bool v12) (.bool v13) (.int (IntKind.wrap .i64 (v14 + 1))) (upd v15 (mIx [.str] v15 (.row [(cl v9 v14 0)])) 1 (.bool true)))))))) (
 cond ((sl (Ja v2 (cl v9 v14 1)) 0).toInt = 1) (
 cond ((sl (Ja v2 (cl v9 v14 1)) 1).toInt < 0) (
 .row [.int 1, (.int v14), (.int 491)]) (
 cond ((mIx [.str] v15 (.row [(cl v9 v14 0)])) < 0) (
 cond ((cl v9 v14 2).toInt < (IntKind.wrap .i64 (0 - (cl v9 v14 2).toInt))) (
 cond (1000 < (IntKind.wrap .i64 (0 - (cl v9 v14 2).toInt))) (
 .row [.int 1, (.int v14), (.int 491)]) (
 cond ((cl v9 v14 2).toInt < (-1000)) (
 .row [.int 1, (.int v14), (.int 491)]) (
 Eh v0 v1 v2 v3 v4 v5 v6 v7 v8 v9 (.bool v10) (.int v11) (.bool v12) (.bool v13) (.int (IntKind.wrap .i64 (v14 + 1))) (ad v15 (.row [(cl v9 v14 0), (.bool true)]))))) (
 cond (1000 < (cl v9 v14 2).toInt) (
 .row [.int 1, (.int v14), (.int 491)]) (
 cond ((cl v9 v14 2).toInt < (-1000)) (
 .row [.int 1, (.int v14), (.int 491)]) (
 Eh v0 v1 v2 v3 v4 v5 v6 v7 v8 v9 (.bool v10) (.int v11) (.bool v12) (.bool v13) (.int (IntKind.wrap .i64 (v14 + 1))) (ad v15 (.row [(cl v9 v14 0), (.bool true)])))))) (
 cond ((cl v15 (mIx [.str] v15 (.row [(cl v9 v14 0)])) 1).toBool) (
 .row [.int 1, (.int v14), (.int 491)]) (
 cond ((cl v9 v14 2).toInt < (IntKind.wrap .i64 (0 - (cl v9 v14 2).toInt))) (
 cond (1000 < (IntKind.wrap .i64 (0 - (cl v9 v14 2).toInt))) (
 .row [.int 1, (.int v14), (.int 491)]) (
 cond ((cl v9 v14 2).toInt < (-1000)) (
 .row [.int 1, (.int v14), (.int 491)]) (
 Eh v0 v1 v2 v3 v4 v5 v6 v7 v8 v9 (.bool v10) (.int v11) (.bool v12) (.bool v13) (.int (IntKind.wrap .i64 (v14 + 1))) (upd v15 (mIx [.str] v15 (.row [(cl v9 v14 0)])) 1 (.bool true))))) (
 cond (1000 < (cl v9 v14 2).toInt) (
 .row [.int 1, (.int v14), (.int 491)]) (
 cond ((cl v9 v14 2).toInt < (-1000)) (
 .row [.int 1, (.int v14), (.int 491)]) (
 Eh v0 v1 v2 v3 v4 v5 v6 v7 v8 v9 (.bool v10) (.int v11) (.bool v12) (.bool v13) (.int (IntKind.wrap .i64 (v14 + 1))) (upd v15 (mIx [.str] v15 (.row [(cl v9 v14 0)])) 1 (.bool true))))))))) (
 .row [])))) (
 .row []))) (
 .row [.int 1, (.int 0), (.int 0)]) := gw rfl rfl (cL (cL rfl (cQ (cL rfl (cg rfl (cL (cL (cL rfl (cL rfl rfl)) (cL rfl (cL rfl rfl))) (cg rfl rfl (cL (cL rfl (cL rfl rfl)) (cL rfl (cL rfl rfl))))) (cQ (cL rfl (cL (cL (cL rfl (cL rfl rfl)) (cL rfl (cL rfl rfl))) (cg rfl rfl (cL (cL rfl (cL rfl rfl)) (cL rfl (cL rfl rfl)))))) rfl))) rfl)) rfl)
theorem iX (v0 : D) (v1 : Bool) (v2 : D) (v3 v4 v5 v6 v7 : Int) : D8 v0 (.bool v1) v2 (.int v3) (.int v4) (.int v5) (.int v6) (.int v7) =
  cond ((mIx [.int .i64, .int .i64, .int .i64, .int .i64, .int .i64] v2 (.row [(.int v3), (.int v4), (.int v5), (.int v6), (.int v7)])) < 0) (
 cond ((len v0 : Int) < 1073741824) (
 .row [.int 1, (ad v0 (.row [(.int v3), (.int v4), (.int v5), (.int v6), (.int v7)])), (.bool false), (ad v2 (.row [(.int v3), (.int v4), (.int v5), (.int v6), (.int v7), (.bool true)]))]) (
 .row [])) (
 cond ((cl v2 (mIx [.int .i64, .int .i64, .int .i64, .int .i64, .int .i64] v2 (.row [(.int v3), (.int v4), (.int v5), (.int v6), (.int v7)])) 5).toBool) (
 .row [.int 1, v0, (.bool v1), v2]) (
 cond ((len v0 : Int) < 1073741824) (
 .row [.int 1, (ad v0 (.row [(.int v3), (.int v4), (.int v5), (.int v6), (.int v7)])), (.bool false), (upd v2 (mIx [.int .i64, .int .i64, .int .i64, .int .i64, .int .i64] v2 (.row [(.int v3), (.int v4), (.int v5), (.int v6), (.int v7)])) 5 (.bool true))]) (
 .row []))) := gw rfl rfl (cL (cL rfl rfl) (cg rfl rfl (cL rfl rfl)))
theorem nM (v0 : D) (v1 : Bool) (v2 : D) : DC v0 (.bool v1) v2 =
 RY v0 (.bool v1) (.int 0) v2 := gw rfl rfl rfl
theorem mj (v0 : D) (v1 : Bool) (v2 : Int) (v3 : D) : RY v0 (.bool v1) (.int v2) v3 =
  cond (v2 < len v0) (
 cond (v2 < 0) (
 .row []) (
 cond (D.strEq (cl v0 v2 0) v3) (
 .row [.int 1, (.int v2)]) (
 RY v0 (.bool v1) (.int (IntKind.wrap .i64 (v2 + 1))) v3))) (
 .row [.int 1, (.int (-1))]) := gw rfl rfl rfl
theorem j4 (v0 : D) : Vf v0 =
  cond (4 < (len v0 : Int)) (
 .row [.int 1]) (
 Jt v0 (.int 0) AB (.bool true)) := gw rfl rfl rfl
theorem Z1 (v0 : D) (v1 : Int) (v2 : D) (v3 : Bool) : Jt v0 (.int v1) v2 (.bool v3) =
  cond (v1 < len v0) (
 cond (v1 < 0) (
 .row []) (
 cond (eqC (cl v0 v1 0) 0 0) (
 .row [.int 1]) (
 cond ((cl v0 v1 1).toInt < 1) (
 .row [.int 1]) (
 cond (1000 < (cl v0 v1 1).toInt) (
 .row [.int 1]) (
 cond ((sl (DC v2 (.bool v3) (cl v0 v1 0)) 0).toInt = 1) (
 cond ((sl (DC v2 (.bool v3) (cl v0 v1 0)) 1).toInt < 0) (
 cond ((len v2 : Int) < 1073741824) (
 Jt v0 (.int (IntKind.wrap .i64 (v1 + 1))) (ad v2 (.row [(cl v0 v1 0), (cl v0 v1 1), (.int 0)])) (.bool false)) (
 .row [])) (
 .row [.int 1])) (
 .row [])))))) (
 .row [.int 2, v2, (.bool v3)]) := gw rfl rfl (cL (cL rfl (cg rfl rfl (cL rfl (cL rfl (cQ (cL (cL rfl rfl) rfl) rfl))))) rfl)
theorem gd (v0 : Bool) (v1 : D) (v2 : Bool) (v3 : D) : FE (.bool v0) v1 (.bool v2) v3 =
  cond (v0) (
 cond ((len v3 : Int) = (len v1 : Int)) (
 Jk v3 (.int 0) (.bool v0) v1 (.bool v2)) (
 .row [.int 1, (.int 2), v1])) (
 .row [.int 1, (.int 1), v1]) := gw rfl rfl (cg rfl (cQ rfl rfl) rfl)
theorem ao (v0 : D) (v1 : Int) (v2 : Bool) (v3 : D) (v4 : Bool) : Jk v0 (.int v1) (.bool v2) v3 (.bool v4) =
  cond (v1 < len v0) (
 cond (v1 < 0) (
 .row []) (
 cond ((cl v0 v1 0).toInt < 0) (
 .row [.int 1, (.int 3), v3]) (
 cond (v1 < len v3) (
 cond ((cl v3 v1 1).toInt < (cl v0 v1 0).toInt) (
 .row [.int 1, (.int 3), v3]) (
 Jk v0 (.int (IntKind.wrap .i64 (v1 + 1))) (.bool v2) v3 (.bool v4))) (
 .row [])))) (
 Jl v0 (.int (len v0 : Int)) (.int 0) (.bool v2) v3 (.bool v4)) := gw rfl rfl rfl
theorem ZP (v0 : D) (v1 v2 : Int) (v3 : Bool) (v4 : D) (v5 : Bool) : Jl v0 (.int v1) (.int v2) (.bool v3) v4 (.bool v5) =
  cond (v2 < v1) (
 cond (v2 < 0) (
 .row []) (
 cond (v2 < len v0) (
 cond (v2 < len v4) (
 Jl v0 (.int v1) (.int (IntKind.wrap .i64 (v2 + 1))) (.bool v3) (upd v4 v2 2 (cl v0 v2 0)) (.bool v5)) (
 .row [])) (
 .row []))) (
 .row [.int 1, (.int 0), v4]) := gw rfl rfl rfl
theorem ft (v0 v1 v2 v3 v4 : Int) (v5 v6 v7 v8 : D) {F0 : D} (h0 : Vf v7 = F0) : JE (.int v0) (.int v1) (.int v2) (.int v3) (.int v4) v5 v6 v7 v8 =
  cond ((sl F0 0).toInt = 1) (
 cond ((len v7 : Int) = 0) (
 cond ((sl (PA Aw) 0).toInt = 1) (
 .row [.int 1]) (
 .row [])) (
 cond ((len v7 : Int) = 1) (
 cond ((sl (PA (ad Aw (.row [(.int v1)]))) 0).toInt = 1) (
 .row [.int 1]) (
 .row [])) (
 cond ((len v7 : Int) = 2) (
 cond ((sl (PA (ad (ad Aw (.row [(.int v1)])) (.row [(.int v2)]))) 0).toInt = 1) (
 .row [.int 1]) (
 .row [])) (
 cond ((len v7 : Int) = 3) (
 cond ((sl (PA (ad (ad (ad Aw (.row [(.int v1)])) (.row [(.int v2)])) (.row [(.int v3)]))) 0).toInt = 1) (
 .row [.int 1]) (
 .row [])) (
 cond ((len v7 : Int) = 4) (
 cond ((sl (PA (ad (ad (ad (ad Aw (.row [(.int v1)])) (.row [(.int v2)])) (.row [(.int v3)])) (.row [(.int v4)]))) 0).toInt = 1) (
 .row [.int 1]) (
 .row [])) (
 .row [])))))) (
 cond ((sl F0 0).toInt = 2) (
 cond ((len v7 : Int) = 0) (
 cond ((sl (FE (.bool true) (sl F0 1) (sl F0 2) Aw) 0).toInt = 1) (
 .row [.int 2, (.int (len (sl F0 1) : Int)), (sl F0 2), (sl (FE (.bool true) (sl F0 1) (sl F0 2) Aw) 2)]) (
 .row [])) (
 cond ((len v7 : Int) = 1) (
 cond ((sl (FE (.bool true) (sl F0 1) (sl F0 2) (ad Aw (.row [(.int v1)]))) 0).toInt = 1) (
 .row [.int 2, (.int (len (sl F0 1) : Int)), (sl F0 2), (sl (FE (.bool true) (sl F0 1) (sl F0 2) (ad Aw (.row [(.int v1)]))) 2)]) (
 .row [])) (
 cond ((len v7 : Int) = 2) (
 cond ((sl (FE (.bool true) (sl F0 1) (sl F0 2) (ad (ad Aw (.row [(.int v1)])) (.row [(.int v2)]))) 0).toInt = 1) (
 .row [.int 2, (.int (len (sl F0 1) : Int)), (sl F0 2), (sl (FE (.bool true) (sl F0 1) (sl F0 2) (ad (ad Aw (.row [(.int v1)])) (.row [(.int v2)]))) 2)]) (
 .row [])) (
 cond ((len v7 : Int) = 3) (
 cond ((sl (FE (.bool true) (sl F0 1) (sl F0 2) (ad (ad (ad Aw (.row [(.int v1)])) (.row [(.int v2)])) (.row [(.int v3)]))) 0).toInt = 1) (
 .row [.int 2, (.int (len (sl F0 1) : Int)), (sl F0 2), (sl (FE (.bool true) (sl F0 1) (sl F0 2) (ad (ad (ad Aw (.row [(.int v1)])) (.row [(.int v2)])) (.row [(.int v3)]))) 2)]) (
 .row [])) (
 cond ((len v7 : Int) = 4) (
 cond ((sl (FE (.bool true) (sl F0 1) (sl F0 2) (ad (ad (ad (ad Aw (.row [(.int v1)])) (.row [(.int v2)])) (.row [(.int v3)])) (.row [(.int v4)]))) 0).toInt = 1) (
 .row [.int 2, (.int (len (sl F0 1) : Int)), (sl F0 2), (sl (FE (.bool true) (sl F0 1) (sl F0 2) (ad (ad (ad (ad Aw (.row [(.int v1)])) (.row [(.int v2)])) (.row [(.int v3)])) (.row [(.int v4)]))) 2)]) (
 .row [])) (
 .row [])))))) (
 .row [])) := by
  subst h0; exact gw rfl rfl (cQ (cQ (cQ rfl rfl) (cQ (cQ rfl rfl) (cQ (cQ rfl rfl) (cQ (cQ rfl rfl) (cQ (cQ rfl rfl) rfl))))) (cQ (cQ (cQ rfl rfl) (cQ (cQ rfl rfl) (cQ (cQ rfl rfl) (cQ (cQ rfl rfl) (cQ (cQ rfl rfl) rfl))))) rfl))
theorem oZ (v0 : Bool) (v1 : D) (v2 : Bool) (v3 : D) : HO (.bool v0) v1 (.bool v2) v3 =
  cond (v0) (
 cond ((sl (DC v1 (.bool v2) v3) 0).toInt = 1) (
 cond ((sl (DC v1 (.bool v2) v3) 1).toInt < 0) (
 .row [.int 1, (.int 0), (.int 9)]) (
 cond ((sl (DC v1 (.bool v2) v3) 1).toInt < len v1) (
 .row [.int 1, (cl v1 (sl (DC v1 (.bool v2) v3) 1).toInt 2), (.int 0)]) (
 .row []))) (
 .row [])) (
 .row [.int 1, (.int 0), (.int 1)]) := gw rfl rfl (cg rfl (cQ rfl rfl) rfl)
theorem oi (v0 : Bool) (v1 : D) (v2 : Bool) (v3 v4 : D) (v5 : Int) (v6 v7 v8 : D) (v9 v10 v11 : Int) : LM (.bool v0) v1 (.bool v2) v3 v4 (.int v5) v6 v7 v8 (.int v9) (.int v10) (.int v11) =
  cond (v0) (
 cond (eqC v8 0 0) (
 .row [.int 1, (.bool true), (.int 0)]) (
 cond ((sl (HO (.bool v0) v1 (.bool v2) v8) 0).toInt = 1) (
 cond ((sl (HO (.bool v0) v1 (.bool v2) v8) 2).toInt = 0) (
 cond ((sl (DC v1 (.bool v2) v8) 0).toInt = 1) (
 cond ((sl (DC v1 (.bool v2) v8) 1).toInt < 0) (
 .row []) (
 cond ((sl (DC v1 (.bool v2) v8) 1).toInt < len v1) (
 cond ((sl (HO (.bool v0) v1 (.bool v2) v8) 1).toInt < v9) (
 .row [.int 1, (.bool false), (.int 0)]) (
 cond (v10 < (sl (HO (.bool v0) v1 (.bool v2) v8) 1).toInt) (
 .row [.int 1, (.bool false), (.int 0)]) (
 cond (v11 < (IntKind.wrap .i64 (0 - (sl (HO (.bool v0) v1 (.bool v2) v8) 1).toInt))) (
 .row [.int 1, (.bool false), (.int 0)]) (
 .row [.int 1, (.bool (!decide ((IntKind.wrap .i64 ((cl v1 (sl (DC v1 (.bool v2) v8) 1).toInt 1).toInt - (sl (HO (.bool v0) v1 (.bool v2) v8) 1).toInt)) < v11))), (.int 0)])))) (
 .row []))) (
 .row [])) (
 .row [.int 1, (.bool false), (sl (HO (.bool v0) v1 (.bool v2) v8) 2)])) (
 .row []))) (
 .row [.int 1, (.bool false), (.int 1)]) := gw rfl rfl (cg rfl (cg rfl rfl (cQ (cQ (cQ rfl rfl) rfl) rfl)) rfl)
theorem kD (v0 v1 v2 v3 v4 : Int) (v5 v6 v7 v8 : D) : JV (.int v0) (.int v1) (.int v2) (.int v3) (.int v4) v5 v6 v7 v8 =
  cond ((sl (JE (.int v0) (.int v1) (.int v2) (.int v3) (.int v4) v5 v6 v7 v8) 0).toInt = 1) (
 oB v8 (.int 0) (.int v0) (.int v1) (.int v2) (.int v3) (.int v4) v5 v6 v7) (
 cond ((sl (JE (.int v0) (.int v1) (.int v2) (.int v3) (.int v4) v5 v6 v7 v8) 0).toInt = 2) (
 Gt AB (.bool true) v8 (.int 0) (.int v0) (.int v1) (.int v2) (.int v3) (.int v4) v5 v6 v7 (sl (JE (.int v0) (.int v1) (.int v2) (.int v3) (.int v4) v5 v6 v7 v8) 1) (sl (JE (.int v0) (.int v1) (.int v2) (.int v3) (.int v4) v5 v6 v7 v8) 2) (sl (JE (.int v0) (.int v1) (.int v2) (.int v3) (.int v4) v5 v6 v7 v8) 3)) (
 .row [])) := gw rfl rfl (cQ rfl (cQ rfl rfl))
theorem Zu (v0 : D) (v1 : Bool) (v2 : D) (v3 v4 v5 v6 v7 v8 : Int) (v9 v10 v11 v12 : D) (v13 : Bool) (v14 : D) {F0 : D} (h0 : LM (.bool true) v14 (.bool v13) (cl v2 v3 0) (cl v2 v3 1) (cl v2 v3 2) (cl v2 v3 3) (cl v2 v3 4) (cl v2 v3 5) (cl v2 v3 6) (cl v2 v3 7) (cl v2 v3 8) = F0) : Gt v0 (.bool v1) v2 (.int v3) (.int v4) (.int v5) (.int v6) (.int v7) (.int v8) v9 v10 v11 v12 (.bool v13) v14 =
  cond (v3 < len v2) (
 cond (v3 < 0) (
 .row []) (
 cond (len v14 = v12.toInt) (
 cond ((sl F0 0).toInt = 1) (
 cond ((sl F0 1).toBool) (
 cond (v4 < 0) (
 .row []) (
 cond (v4 < len v10) (
 cond (D.strEq (cl v2 v3 0) (cl v10 v4 0)) (
 cond ((len v0 : Int) < 1073741824) (
 Gt (ad v0 (.row [(.int v3)])) (.bool false) v2 (.int (IntKind.wrap .i64 (v3 + 1))) (.int v4) (.int v5) (.int v6) (.int v7) (.int v8) v9 v10 v11 (.int (len v14 : Int)) (.bool v13) v14) (
 .row [])) (
 Gt v0 (.bool v1) v2 (.int (IntKind.wrap .i64 (v3 + 1))) (.int v4) (.int v5) (.int v6) (.int v7) (.int v8) v9 v10 v11 (.int (len v14 : Int)) (.bool v13) v14)) (
 .row []))) (
 Gt v0 (.bool v1) v2 (.int (IntKind.wrap .i64 (v3 + 1))) (.int v4) (.int v5) (.int v6) (.int v7) (.int v8) v9 v10 v11 (.int (len v14 : Int)) (.bool v13) v14)) (
 .row [])) (
 .row []))) (
 .row [.int 1, v0, (.bool v1)]) := by
  subst h0; exact gw rfl rfl (cL (cL rfl (cQ (cQ (cg rfl (cL rfl (cL (cg rfl (cL rfl rfl) rfl) rfl)) rfl) rfl) rfl)) rfl)
theorem iN (v0 : Bool) (v1 : D) (v2 : Bool) (v3 v4 : D) (v5 : Int) (v6 v7 v8 : D) (v9 v10 v11 : Int) : Vd (.bool v0) v1 (.bool v2) v3 v4 (.int v5) v6 v7 v8 (.int v9) (.int v10) (.int v11) =
  cond ((sl (LM (.bool v0) v1 (.bool v2) v3 v4 (.int v5) v6 v7 v8 (.int v9) (.int v10) (.int v11)) 0).toInt = 1) (
 cond ((sl (LM (.bool v0) v1 (.bool v2) v3 v4 (.int v5) v6 v7 v8 (.int v9) (.int v10) (.int v11)) 2).toInt = 0) (
 cond ((sl (LM (.bool v0) v1 (.bool v2) v3 v4 (.int v5) v6 v7 v8 (.int v9) (.int v10) (.int v11)) 1).toBool) (
 cond (eqC v8 0 0) (
 .row [.int 1, (.int 0), v1]) (
 cond ((sl (DC v1 (.bool v2) v8) 0).toInt = 1) (
 cond ((sl (DC v1 (.bool v2) v8) 1).toInt < 0) (
 .row []) (
 cond ((sl (DC v1 (.bool v2) v8) 1).toInt < len v1) (
 .row [.int 1, (.int 0), (upd v1 (sl (DC v1 (.bool v2) v8) 1).toInt 2 (.int (IntKind.wrap .i64 ((cl v1 (sl (DC v1 (.bool v2) v8) 1).toInt 2).toInt + v11))))]) (
 .row []))) (
 .row []))) (
 .row [.int 1, (.int 8), v1])) (
 .row [.int 1, (sl (LM (.bool v0) v1 (.bool v2) v3 v4 (.int v5) v6 v7 v8 (.int v9) (.int v10) (.int v11)) 2), v1])) (
 .row []) := gw rfl rfl (cQ (cQ (cg rfl (cg rfl rfl (cQ rfl rfl)) rfl) rfl) rfl)
theorem pw (v0 : D) (v1 : Bool) (v2 : D) (v3 : Bool) : H8 v0 (.bool v1) v2 (.bool v3) =
 JN v2 (.bool v3) (.int 0) v0 (.bool v1) := gw rfl rfl rfl
theorem Zy (v0 : D) (v1 : Bool) (v2 : Int) (v3 : D) (v4 : Bool) : JN v0 (.bool v1) (.int v2) v3 (.bool v4) =
  cond (v2 < len v0) (
 cond (v2 < 0) (
 .row []) (
 cond ((len v3 : Int) < 1073741824) (
 JN v0 (.bool v1) (.int (IntKind.wrap .i64 (v2 + 1))) (ad v3 (.row [(cl v0 v2 2)])) (.bool false)) (
 .row []))) (
 .row [.int 1, v3, (.bool v4)]) := gw rfl rfl (cL (cL rfl (cL rfl rfl)) rfl)
theorem iA (v0 v1 v2 v3 v4 : Int) (v5 v6 v7 v8 : D) (v9 : Int) {F0 F1 F2 : D} (h0 : JE (.int v0) (.int v1) (.int v2) (.int v3) (.int v4) v5 v6 v7 v8 = F0) (h1 : Vd (.bool true) (sl F0 3) (sl F0 2) (cl v8 v9 0) (cl v8 v9 1) (cl v8 v9 2) (cl v8 v9 3) (cl v8 v9 4) (cl v8 v9 5) (cl v8 v9 6) (cl v8 v9 7) (cl v8 v9 8) = F1) (h2 : H8 AB (.bool true) (ct Aw (sl F1 2)) (.bool false) = F2) : G9 (.int v0) (.int v1) (.int v2) (.int v3) (.int v4) v5 v6 v7 v8 (.int v9) =
  cond ((sl F0 0).toInt = 1) (
 cond (v9 < 0) (
 .row []) (
 cond (v9 < len v8) (
 cond ((sl (mr (cl v8 v9 0) (cl v8 v9 1) (cl v8 v9 2) (cl v8 v9 3) (cl v8 v9 4) (cl v8 v9 5) (cl v8 v9 6) (cl v8 v9 7) (cl v8 v9 8)) 0).toInt = 1) (
 cond ((sl (FqQ v6 (cl v8 v9 1)) 0).toInt = 1) (
 .row [.int 1, (sl (FqQ v6 (cl v8 v9 1)) 1), (.int 0), (.int 0), (.int 0), (.int 0)]) (
 .row [])) (
 .row [])) (
 .row []))) (
 cond ((sl F0 0).toInt = 2) (
 cond (v9 < 0) (
 .row []) (
 cond (v9 < len v8) (
 cond (len (sl F0 3) = (sl F0 1).toInt) (
 cond ((sl F1 0).toInt = 1) (
 cond ((sl (FqQ v6 (cl v8 v9 1)) 0).toInt = 1) (
 cond ((sl F0 2).toBool) (
 .row [.int 1, (sl (FqQ v6 (cl v8 v9 1)) 1), (.int 0), (.int 0), (.int 0), (.int 0)]) (
 cond ((len (sl F0 3) : Int) = (len (sl F1 2) : Int)) (
 cond ((len (sl F1 2) : Int) < 1048576) (
 cond ((sl (H8 AB (.bool true) (ct Aw (sl F1 2)) (.bool (false && decide ((len (sl F1 2) : Int) = 0)))) 0).toInt = 1) (
 cond ((len (sl (H8 AB (.bool true) (ct Aw (sl F1 2)) (.bool (false && decide ((len (sl F1 2) : Int) = 0)))) 1) : Int) < 4) (
 cond ((len (sl (H8 AB (.bool true) (ct Aw (sl F1 2)) (.bool (false && decide ((len (sl F1 2) : Int) = 0)))) 1) : Int) = 0) (
 .row [.int 1, (sl (FqQ v6 (cl v8 v9 1)) 1), (.int 0), (.int 0), (.int 0), (.int 0)]) (
 cond ((len (sl (H8 AB (.bool true) (ct Aw (sl F1 2)) (.bool (false && decide ((len (sl F1 2) : Int) = 0)))) 1) : Int) = 1) (
 .row [.int 1, (sl (FqQ v6 (cl v8 v9 1)) 1), (cl (sl F2 1) 0 0), (.int 0), (.int 0), (.int 0)]) (
 cond ((len (sl (H8 AB (.bool true) (ct Aw (sl F1 2)) (.bool (false && decide ((len (sl F1 2) : Int) = 0)))) 1) : Int) = 2) (
 .row [.int 1, (sl (FqQ v6 (cl v8 v9 1)) 1), (cl (sl F2 1) 0 0), (cl (sl F2 1) 1 0), (.int 0), (.int 0)]) (
 cond ((len (sl (H8 AB (.bool true) (ct Aw (sl F1 2)) (.bool (false && decide ((len (sl F1 2) : Int) = 0)))) 1) : Int) = 3) (
 .row [.int 1, (sl (FqQ v6 (cl v8 v9 1)) 1), (cl (sl F2 1) 0 0), (cl (sl F2 1) 1 0), (cl (sl F2 1) 2 0), (.int 0)]) (
 .row []))))) (
 .row [.int 1, (sl (FqQ v6 (cl v8 v9 1)) 1), (cl (sl F2 1) 0 0), (cl (sl F2 1) 1 0), (cl (sl F2 1) 2 0), (cl (sl F2 1) 3 0)])) (
 .row [])) (
 .row [])) (
 .row []))) (
 .row [])) (
 .row [])) (
 .row [])) (
 .row []))) (
 .row [])) := by
  subst h0; subst h1; subst h2; exact gw rfl rfl (cQ (cL rfl (cL (cQ (cQ rfl rfl) rfl) rfl)) (cQ (cL rfl (cL (cQ (cQ (cQ (cg rfl rfl (cQ (cL (cQ (cL (cQ rfl (cQ rfl (cQ rfl (cQ rfl rfl)))) rfl) rfl) rfl) rfl)) rfl) rfl) rfl) rfl)) rfl))
theorem oC (v0 v1 v2 v3 v4 : Int) (v5 : D) (v6 : Bool) (v7 v8 v9 v10 v11 : D) : G5 (.int v0) (.int v1) (.int v2) (.int v3) (.int v4) v5 (.bool v6) v7 v8 v9 v10 v11 =
  cond ((sl (JV (.int v0) (.int v1) (.int v2) (.int v3) (.int v4) v8 v9 v10 v11) 0).toInt = 1) (
 Jx (sl (JV (.int v0) (.int v1) (.int v2) (.int v3) (.int v4) v8 v9 v10 v11) 1) (sl (JV (.int v0) (.int v1) (.int v2) (.int v3) (.int v4) v8 v9 v10 v11) 2) (.int (len (sl (JV (.int v0) (.int v1) (.int v2) (.int v3) (.int v4) v8 v9 v10 v11) 1) : Int)) (.int 0) v5 (.bool v6) v7 v8 v9 v10 v11 (.int v0) (.int v1) (.int v2) (.int v3) (.int v4)) (
 .row []) := gw rfl rfl (cQ rfl rfl)
theorem aw (v0 : D) (v1 : Bool) (v2 v3 : Int) (v4 : D) (v5 : Bool) (v6 v7 v8 v9 v10 : D) (v11 v12 v13 v14 v15 : Int) {F0 : D} (h0 : G9 (.int v11) (.int v12) (.int v13) (.int v14) (.int v15) v7 v8 v9 v10 (cl v0 v3 0) = F0) : Jx v0 (.bool v1) (.int v2) (.int v3) v4 (.bool v5) v6 v7 v8 v9 v10 (.int v11) (.int v12) (.int v13) (.int v14) (.int v15) =
  cond (v3 < v2) (
 cond (v3 < 0) (
 .row []) (
 cond (v3 < len v0) (
 cond ((sl F0 0).toInt = 1) (
 cond ((sl (D8 v4 (.bool v5) v6 (sl F0 1) (sl F0 2) (sl F0 3) (sl F0 4) (sl F0 5)) 0).toInt = 1) (
 Jx v0 (.bool v1) (.int v2) (.int (IntKind.wrap .i64 (v3 + 1))) (sl (D8 v4 (.bool v5) v6 (sl F0 1) (sl F0 2) (sl F0 3) (sl F0 4) (sl F0 5)) 1) (sl (D8 v4 (.bool v5) v6 (sl F0 1) (sl F0 2) (sl F0 3) (sl F0 4) (sl F0 5)) 2) (sl (D8 v4 (.bool v5) v6 (sl F0 1) (sl F0 2) (sl F0 3) (sl F0 4) (sl F0 5)) 3) v7 v8 v9 v10 (.int v11) (.int v12) (.int v13) (.int v14) (.int v15)) (
 .row [])) (
 .row [])) (
 .row []))) (
 .row [.int 1, v4, (.bool v5), v6]) := by
  subst h0; exact gw rfl rfl (cL (cL rfl (cL (cQ (cQ rfl rfl) rfl) rfl)) rfl)
theorem gl (v0 : D) (v1 : Bool) (v2 : Int) (v3 v4 v5 v6 : D) : Vo v0 (.bool v1) (.int v2) v3 v4 v5 v6 =
 Sk (.int v2) v0 (.bool v1) (.int 0) v3 v4 v5 v6 AB (.bool true) Aw := gw rfl rfl rfl
theorem aA (v0 : Int) (v1 : D) (v2 : Bool) (v3 : Int) (v4 v5 v6 v7 v8 : D) (v9 : Bool) (v10 : D) : Sk (.int v0) v1 (.bool v2) (.int v3) v4 v5 v6 v7 v8 (.bool v9) v10 =
  cond (v3 < len v1) (
 cond (v3 < 0) (
 .row []) (
 cond ((sl (D8 v8 (.bool v9) v10 (cl v1 v3 0) (cl v1 v3 1) (cl v1 v3 2) (cl v1 v3 3) (cl v1 v3 4)) 0).toInt = 1) (
 Sk (.int v0) v1 (.bool v2) (.int (IntKind.wrap .i64 (v3 + 1))) v4 v5 v6 v7 (sl (D8 v8 (.bool v9) v10 (cl v1 v3 0) (cl v1 v3 1) (cl v1 v3 2) (cl v1 v3 3) (cl v1 v3 4)) 1) (sl (D8 v8 (.bool v9) v10 (cl v1 v3 0) (cl v1 v3 1) (cl v1 v3 2) (cl v1 v3 3) (cl v1 v3 4)) 2) (sl (D8 v8 (.bool v9) v10 (cl v1 v3 0) (cl v1 v3 1) (cl v1 v3 2) (cl v1 v3 3) (cl v1 v3 4)) 3)) (
 .row []))) (
 O5 (.int v0) (.int 0) v1 v4 v5 v6 v7 v8 (.bool v9) v10) := gw rfl rfl (cL (cL rfl (cQ rfl rfl)) rfl)
theorem ZZ (v0 v1 : Int) (v2 v3 v4 v5 v6 v7 : D) (v8 : Bool) (v9 : D) : O5 (.int v0) (.int v1) v2 v3 v4 v5 v6 v7 (.bool v8) v9 =
  cond (v1 < len v7) (
 cond (v1 < v0) (
 cond (v1 < 0) (
 .row []) (
 cond ((sl (G5 (cl v7 v1 0) (cl v7 v1 1) (cl v7 v1 2) (cl v7 v1 3) (cl v7 v1 4) v7 (.bool v8) v9 v3 v4 v5 v6) 0).toInt = 1) (
 O5 (.int v0) (.int (IntKind.wrap .i64 (v1 + 1))) v2 v3 v4 v5 v6 (sl (G5 (cl v7 v1 0) (cl v7 v1 1) (cl v7 v1 2) (cl v7 v1 3) (cl v7 v1 4) v7 (.bool v8) v9 v3 v4 v5 v6) 1) (sl (G5 (cl v7 v1 0) (cl v7 v1 1) (cl v7 v1 2) (cl v7 v1 3) (cl v7 v1 4) v7 (.bool v8) v9 v3 v4 v5 v6) 2) (sl (G5 (cl v7 v1 0) (cl v7 v1 1) (cl v7 v1 2) (cl v7 v1 3) (cl v7 v1 4) v7 (.bool v8) v9 v3 v4 v5 v6) 3)) (
 .row []))) (
 .row [.int 1, v7, (.bool v8), (.bool (decide (v0 < (len v7 : Int))))])) (
 .row [.int 1, v7, (.bool v8), (.bool (decide (v0 < (len v7 : Int))))]) := gw rfl rfl (cL (cL (cL rfl (cQ rfl rfl)) rfl) rfl)
theorem nU (v0 v1 v2 v3 v4 : D) (v5 v6 v7 v8 v9 : Int) : KN v0 v1 v2 v3 v4 (.int v5) (.int v6) (.int v7) (.int v8) (.int v9) =
 MN v0 (.int 0) v1 v2 v3 v4 (.int v5) (.int v6) (.int v7) (.int v8) (.int v9) := gw rfl rfl rfl
theorem aF (v0 : D) (v1 : Int) (v2 v3 v4 v5 : D) (v6 v7 v8 v9 v10 : Int) : MN v0 (.int v1) v2 v3 v4 v5 (.int v6) (.int v7) (.int v8) (.int v9) (.int v10) =
  cond (v1 < len v0) (
 cond (v1 < 0) (
 .row []) (
 cond (v6 < 0) (
 .row []) (
 cond (v6 < len v3) (
 cond (D.strEq (cl v0 v1 0) (cl v3 v6 0)) (
 .row [.int 1, (.int v1)]) (
 MN v0 (.int (IntKind.wrap .i64 (v1 + 1))) v2 v3 v4 v5 (.int v6) (.int v7) (.int v8) (.int v9) (.int v10))) (
 .row [])))) (
 .row [.int 1, (.int (-1))]) := gw rfl rfl rfl
theorem jK (v0 v1 v2 v3 v4 v5 v6 v7 v8 v9 : D) (v10 v11 v12 v13 v14 : Int) : OY v0 v1 v2 v3 v4 v5 v6 v7 v8 v9 (.int v10) (.int v11) (.int v12) (.int v13) (.int v14) =
  cond ((sl (KN v8 v0 v1 v2 v3 (.int v10) (.int v11) (.int v12) (.int v13) (.int v14)) 0).toInt = 1) (
 cond ((sl (KN v8 v0 v1 v2 v3 (.int v10) (.int v11) (.int v12) (.int v13) (.int v14)) 1).toInt < 0) (
 .row [.int 1, (.int 0), (.int 0), (.int 0), (.int 0), (.int 0), (.int 9)]) (
 cond ((sl (KN v8 v0 v1 v2 v3 (.int v10) (.int v11) (.int v12) (.int v13) (.int v14)) 1).toInt < len v8) (
 cond ((sl (FqQ v5 (cl v8 (sl (KN v8 v0 v1 v2 v3 (.int v10) (.int v11) (.int v12) (.int v13) (.int v14)) 1).toInt 1)) 0).toInt = 1) (
 Bo v9 (.int 0) v0 v1 v2 v3 v4 v5 v6 v7 (.int v10) (.int v11) (.int v12) (.int v13) (.int v14) (sl (FqQ v5 (cl v8 (sl (KN v8 v0 v1 v2 v3 (.int v10) (.int v11) (.int v12) (.int v13) (.int v14)) 1).toInt 1)) 1) (.int 0) (.int 0) (.int 0) (.int 0)) (
 .row [])) (
 .row []))) (
 .row []) := gw rfl rfl (cQ (cL rfl (cL (cQ rfl rfl) rfl)) rfl)
theorem ay (v0 : D) (v1 : Int) (v2 v3 v4 v5 v6 v7 v8 v9 : D) (v10 v11 v12 v13 v14 v15 v16 v17 v18 v19 : Int) {F0 : D} (h0 : Ja v8 (cl v0 v1 0) = F0) : Bo v0 (.int v1) v2 v3 v4 v5 v6 v7 v8 v9 (.int v10) (.int v11) (.int v12) (.int v13) (.int v14) (.int v15) (.int v16) (.int v17) (.int v18) (.int v19) =
  cond (v1 < len v0) (
 cond (v1 < 0) (
 .row []) (
 cond ((sl F0 0).toInt = 1) (
 cond ((sl (Ja v4 (cl v0 v1 1)) 0).toInt = 1) (
 cond ((sl (Ja v4 (cl v0 v1 1)) 1).toInt < 0) (
 cond ((cl v0 v1 2).toInt < 0) (
 .row [.int 1, (.int 0), (.int 0), (.int 0), (.int 0), (.int 0), (.int 3)]) (
 cond ((sl F0 1).toInt < 0) (
 .row []) (
 cond ((sl F0 1).toInt < len v8) (
 cond ((cl v8 (sl F0 1).toInt 1).toInt < (cl v0 v1 2).toInt) (
 .row [.int 1, (.int 0), (.int 0), (.int 0), (.int 0), (.int 0), (.int 3)]) (
 cond ((sl F0 1).toInt = 0) (
 Bo v0 (.int (IntKind.wrap .i64 (v1 + 1))) v2 v3 v4 v5 v6 v7 v8 v9 (.int v10) (.int v11) (.int v12) (.int v13) (.int v14) (.int v15) (cl v0 v1 2) (.int v17) (.int v18) (.int v19)) (
 cond ((sl F0 1).toInt = 1) (
 Bo v0 (.int (IntKind.wrap .i64 (v1 + 1))) v2 v3 v4 v5 v6 v7 v8 v9 (.int v10) (.int v11) (.int v12) (.int v13) (.int v14) (.int v15) (.int v16) (cl v0 v1 2) (.int v18) (.int v19)) (
 cond ((sl F0 1).toInt = 2) (
 Bo v0 (.int (IntKind.wrap .i64 (v1 + 1))) v2 v3 v4 v5 v6 v7 v8 v9 (.int v10) (.int v11) (.int v12) (.int v13) (.int v14) (.int v15) (.int v16) (.int v17) (cl v0 v1 2) (.int v19)) (
 cond ((sl F0 1).toInt = 3) (
 Bo v0 (.int (IntKind.wrap .i64 (v1 + 1))) v2 v3 v4 v5 v6 v7 v8 v9 (.int v10) (.int v11) (.int v12) (.int v13) (.int v14) (.int v15) (.int v16) (.int v17) (.int v18) (cl v0 v1 2)) (
 .row [])))))) (
 .row [])))) (
 cond ((sl (Ja v4 (cl v0 v1 1)) 1).toInt = 0) (
 cond ((IntKind.wrap .i64 ((cl v0 v1 2).toInt + v11)) < 0) (
 .row [.int 1, (.int 0), (.int 0), (.int 0), (.int 0), (.int 0), (.int 3)]) (
 cond ((sl F0 1).toInt < 0) (
 .row []) (
 cond ((sl F0 1).toInt < len v8) (
 cond ((cl v8 (sl F0 1).toInt 1).toInt < (IntKind.wrap .i64 ((cl v0 v1 2).toInt + v11))) (
 .row [.int 1, (.int 0), (.int 0), (.int 0), (.int 0), (.int 0), (.int 3)]) (
 cond ((sl F0 1).toInt = 0) (
 Bo v0 (.int (IntKind.wrap .i64 (v1 + 1))) v2 v3 v4 v5 v6 v7 v8 v9 (.int v10) (.int v11) (.int v12) (.int v13) (.int v14) (.int v15) (.int (IntKind.wrap .i64 ((cl v0 v1 2).toInt + v11))) (.int v17) (.int v18) (.int v19)) (
 cond ((sl F0 1).toInt = 1) (
 Bo v0 (.int (IntKind.wrap .i64 (v1 + 1))) v2 v3 v4 v5 v6 v7 v8 v9 (.int v10) (.int v11) (.int v12) (.int v13) (.int v14) (.int v15) (.int v16) (.int (IntKind.wrap .i64 ((cl v0 v1 2).toInt + v11))) (.int v18) (.int v19)) (
 cond ((sl F0 1).toInt = 2) (
 Bo v0 (.int (IntKind.wrap .i64 (v1 + 1))) v2 v3 v4 v5 v6 v7 v8 v9 (.int v10) (.int v11) (.int v12) (.int v13) (.int v14) (.int v15) (.int v16) (.int v17) (.int (IntKind.wrap .i64 ((cl v0 v1 2).toInt + v11))) (.int v19)) (
 cond ((sl F0 1).toInt = 3) (
 Bo v0 (.int (IntKind.wrap .i64 (v1 + 1))) v2 v3 v4 v5 v6 v7 v8 v9 (.int v10) (.int v11) (.int v12) (.int v13) (.int v14) (.int v15) (.int v16) (.int v17) (.int v18) (.int (IntKind.wrap .i64 ((cl v0 v1 2).toInt + v11)))) (
 .row [])))))) (
 .row [])))) (
 cond ((sl (Ja v4 (cl v0 v1 1)) 1).toInt = 1) (
 cond ((IntKind.wrap .i64 ((cl v0 v1 2).toInt + v12)) < 0) (
 .row [.int 1, (.int 0), (.int 0), (.int 0), (.int 0), (.int 0), (.int 3)]) (
 cond ((sl F0 1).toInt < 0) (
 .row []) (
 cond ((sl F0 1).toInt < len v8) (
 cond ((cl v8 (sl F0 1).toInt 1).toInt < (IntKind.wrap .i64 ((cl v0 v1 2).toInt + v12))) (
 .row [.int 1, (.int 0), (.int 0), (.int 0), (.int 0), (.int 0), (.int 3)]) (
 cond ((sl F0 1).toInt = 0) (
 Bo v0 (.int (IntKind.wrap .i64 (v1 + 1))) v2 v3 v4 v5 v6 v7 v8 v9 (.int v10) (.int v11) (.int v12) (.int v13) (.int v14) (.int v15) (.int (IntKind.wrap .i64 ((cl v0 v1 2).toInt + v12))) (.int v17) (.int v18) (.int v19)) (
 cond ((sl F0 1).toInt = 1) (
 Bo v0 (.int (IntKind.wrap .i64 (v1 + 1))) v2 v3 v4 v5 v6 v7 v8 v9 (.int v10) (.int v11) (.int v12) (.int v13) (.int v14) (.int v15) (.int v16) (.int (IntKind.wrap .i64 ((cl v0 v1 2).toInt + v12))) (.int v18) (.int v19)) (
 cond ((sl F0 1).toInt = 2) (
 Bo v0 (.int (IntKind.wrap .i64 (v1 + 1))) v2 v3 v4 v5 v6 v7 v8 v9 (.int v10) (.int v11) (.int v12) (.int v13) (.int v14) (.int v15) (.int v16) (.int v17) (.int (IntKind.wrap .i64 ((cl v0 v1 2).toInt + v12))) (.int v19)) (
 cond ((sl F0 1).toInt = 3) (
 Bo v0 (.int (IntKind.wrap .i64 (v1 + 1))) v2 v3 v4 v5 v6 v7 v8 v9 (.int v10) (.int v11) (.int v12) (.int v13) (.int v14) (.int v15) (.int v16) (.int v17) (.int v18) (.int (IntKind.wrap .i64 ((cl v0 v1 2).toInt + v12)))) (
 .row [])))))) (
 .row [])))) (
 cond ((sl (Ja v4 (cl v0 v1 1)) 1).toInt = 2) (
 cond ((IntKind.wrap .i64 ((cl v0 v1 2).toInt + v13)) < 0) (
 .row [.int 1, (.int 0), (.int 0), (.int 0), (.int 0), (.int 0), (.int 3)]) (
 cond ((sl F0 1).toInt < 0) (
 .row []) (
 cond ((sl F0 1).toInt < len v8) (
 cond ((cl v8 (sl F0 1).toInt 1).toInt < (IntKind.wrap .i64 ((cl v0 v1 2).toInt + v13))) (
 .row [.int 1, (.int 0), (.int 0), (.int 0), (.int 0), (.int 0), (.int 3)]) (
 cond ((sl F0 1).toInt = 0) (
 Bo v0 (.int (IntKind.wrap .i64 (v1 + 1))) v2 v3 v4 v5 v6 v7 v8 v9 (.int v10) (.int v11) (.int v12) (.int v13) (.int v14) (.int v15) (.int (IntKind.wrap .i64 ((cl v0 v1 2).toInt + v13))) (.int v17) (.int v18) (.int v19)) (
 cond ((sl F0 1).toInt = 1) (
 Bo v0 (.int (IntKind.wrap .i64 (v1 + 1))) v2 v3 v4 v5 v6 v7 v8 v9 (.int v10) (.int v11) (.int v12) (.int v13) (.int v14) (.int v15) (.int v16) (.int (IntKind.wrap .i64 ((cl v0 v1 2).toInt + v13))) (.int v18) (.int v19)) (
 cond ((sl F0 1).toInt = 2) (
 Bo v0 (.int (IntKind.wrap .i64 (v1 + 1))) v2 v3 v4 v5 v6 v7 v8 v9 (.int v10) (.int v11) (.int v12) (.int v13) (.int v14) (.int v15) (.int v16) (.int v17) (.int (IntKind.wrap .i64 ((cl v0 v1 2).toInt + v13))) (.int v19)) (
 cond ((sl F0 1).toInt = 3) (
 Bo v0 (.int (IntKind.wrap .i64 (v1 + 1))) v2 v3 v4 v5 v6 v7 v8 v9 (.int v10) (.int v11) (.int v12) (.int v13) (.int v14) (.int v15) (.int v16) (.int v17) (.int v18) (.int (IntKind.wrap .i64 ((cl v0 v1 2).toInt + v13)))) (
 .row [])))))) (
 .row [])))) (
 cond ((sl (Ja v4 (cl v0 v1 1)) 1).toInt = 3) (
 cond ((IntKind.wrap .i64 ((cl v0 v1 2).toInt + v14)) < 0) (
 .row [.int 1, (.int 0), (.int 0), (.int 0), (.int 0), (.int 0), (.int 3)]) (
 cond ((sl F0 1).toInt < 0) (
 .row []) (
 cond ((sl F0 1).toInt < len v8) (
 cond ((cl v8 (sl F0 1).toInt 1).toInt < (IntKind.wrap .i64 ((cl v0 v1 2).toInt + v14))) (
 .row [.int 1, (.int 0), (.int 0), (.int 0), (.int 0), (.int 0), (.int 3)]) (
 cond ((sl F0 1).toInt = 0) (
 Bo v0 (.int (IntKind.wrap .i64 (v1 + 1))) v2 v3 v4 v5 v6 v7 v8 v9 (.int v10) (.int v11) (.int v12) (.int v13) (.int v14) (.int v15) (.int (IntKind.wrap .i64 ((cl v0 v1 2).toInt + v14))) (.int v17) (.int v18) (.int v19)) (
 cond ((sl F0 1).toInt = 1) (
 Bo v0 (.int (IntKind.wrap .i64 (v1 + 1))) v2 v3 v4 v5 v6 v7 v8 v9 (.int v10) (.int v11) (.int v12) (.int v13) (.int v14) (.int v15) (.int v16) (.int (IntKind.wrap .i64 ((cl v0 v1 2).toInt + v14))) (.int v18) (.int v19)) (
 cond ((sl F0 1).toInt = 2) (
 Bo v0 (.int (IntKind.wrap .i64 (v1 + 1))) v2 v3 v4 v5 v6 v7 v8 v9 (.int v10) (.int v11) (.int v12) (.int v13) (.int v14) (.int v15) (.int v16) (.int v17) (.int (IntKind.wrap .i64 ((cl v0 v1 2).toInt + v14))) (.int v19)) (
 cond ((sl F0 1).toInt = 3) (
 Bo v0 (.int (IntKind.wrap .i64 (v1 + 1))) v2 v3 v4 v5 v6 v7 v8 v9 (.int v10) (.int v11) (.int v12) (.int v13) (.int v14) (.int v15) (.int v16) (.int v17) (.int v18) (.int (IntKind.wrap .i64 ((cl v0 v1 2).toInt + v14)))) (
 .row [])))))) (
 .row [])))) (
 .row [])))))) (
 .row [])) (
 .row []))) (
 .row [.int 1, (.int v15), (.int v16), (.int v17), (.int v18), (.int v19), (.int 0)]) := by
  subst h0; exact gw rfl rfl (cL (cL rfl (cQ (cQ (cL (cL rfl (cL rfl (cL (cL rfl (cQ rfl (cQ rfl (cQ rfl (cQ rfl rfl))))) rfl))) (cQ (cL rfl (cL rfl (cL (cL rfl (cQ rfl (cQ rfl (cQ rfl (cQ rfl rfl))))) rfl))) (cQ (cL rfl (cL rfl (cL (cL rfl (cQ rfl (cQ rfl (cQ rfl (cQ rfl rfl))))) rfl))) (cQ (cL rfl (cL rfl (cL (cL rfl (cQ rfl (cQ rfl (cQ rfl (cQ rfl rfl))))) rfl))) (cQ (cL rfl (cL rfl (cL (cL rfl (cQ rfl (cQ rfl (cQ rfl (cQ rfl rfl))))) rfl))) rfl))))) rfl) rfl)) rfl)
theorem iK (v0 : D) (v1 : Bool) (v2 : D) (v3 v4 v5 v6 v7 v8 v9 v10 v11 v12 : Int) : H3 v0 (.bool v1) v2 (.int v3) (.int v4) (.int v5) (.int v6) (.int v7) (.int v8) (.int v9) (.int v10) (.int v11) (.int v12) =
  cond ((mIx [.int .i64, .int .i64, .int .i64, .int .i64, .int .i64, .int .i64, .int .i64, .int .i64, .int .i64, .int .i64] v2 (.row [(.int v3), (.int v4), (.int v5), (.int v6), (.int v7), (.int v8), (.int v9), (.int v10), (.int v11), (.int v12)])) < 0) (
 cond ((len v0 : Int) < 1073741824) (
 .row [.int 1, (ad v0 (.row [(.int v3), (.int v4), (.int v5), (.int v6), (.int v7), (.int v8), (.int v9), (.int v10), (.int v11), (.int v12)])), (.bool false), (ad v2 (.row [(.int v3), (.int v4), (.int v5), (.int v6), (.int v7), (.int v8), (.int v9), (.int v10), (.int v11), (.int v12), (.bool true)]))]) (
 .row [])) (
 cond ((cl v2 (mIx [.int .i64, .int .i64, .int .i64, .int .i64, .int .i64, .int .i64, .int .i64, .int .i64, .int .i64, .int .i64] v2 (.row [(.int v3), (.int v4), (.int v5), (.int v6), (.int v7), (.int v8), (.int v9), (.int v10), (.int v11), (.int v12)])) 10).toBool) (
 .row [.int 1, v0, (.bool v1), v2]) (
 cond ((len v0 : Int) < 1073741824) (
 .row [.int 1, (ad v0 (.row [(.int v3), (.int v4), (.int v5), (.int v6), (.int v7), (.int v8), (.int v9), (.int v10), (.int v11), (.int v12)])), (.bool false), (upd v2 (mIx [.int .i64, .int .i64, .int .i64, .int .i64, .int .i64, .int .i64, .int .i64, .int .i64, .int .i64, .int .i64] v2 (.row [(.int v3), (.int v4), (.int v5), (.int v6), (.int v7), (.int v8), (.int v9), (.int v10), (.int v11), (.int v12)])) 10 (.bool true))]) (
 .row []))) := gw rfl rfl (cL (cL rfl rfl) (cg rfl rfl (cL rfl rfl)))
theorem eU (v0 : D) (v1 : Bool) (v2 v3 v4 v5 : D) (v6 : Bool) : MJ v0 (.bool v1) v2 v3 v4 v5 (.bool v6) =
 KR v0 (.bool v1) (.int 0) v2 v3 v4 v5 (.bool v6) := gw rfl rfl rfl
theorem Zq (v0 : D) (v1 : Bool) (v2 : Int) (v3 v4 v5 v6 : D) (v7 : Bool) : KR v0 (.bool v1) (.int v2) v3 v4 v5 v6 (.bool v7) =
  cond (v2 < len v0) (
 cond (v2 < 0) (
 .row []) (
 cond ((cl v0 v2 0).toInt < 0) (
 .row []) (
 cond ((cl v0 v2 0).toInt < len v6) (
 cond ((cl v6 (cl v0 v2 0).toInt 2).toInt = 2) (
 cond (v7) (
 KR v0 (.bool v1) (.int (IntKind.wrap .i64 (v2 + 1))) v3 v4 v5 v6 (.bool v7)) (
 .row [.int 1, (.int v2)])) (
 cond (v7) (
 .row [.int 1, (.int v2)]) (
 KR v0 (.bool v1) (.int (IntKind.wrap .i64 (v2 + 1))) v3 v4 v5 v6 (.bool v7)))) (
 .row [])))) (
 .row [.int 1, (.int (-1))]) := gw rfl rfl (cL (cL rfl (cL rfl (cL (cQ rfl rfl) rfl))) rfl)
theorem ib (v0 : D) (v1 : Bool) (v2 v3 v4 v5 : D) (v6 : Bool) : JT v0 (.bool v1) v2 v3 v4 v5 (.bool v6) =
  cond ((sl (MJ v0 (.bool v1) v2 v3 v4 v5 (.bool v6)) 0).toInt = 1) (
 cond ((sl (MJ v0 (.bool v1) v2 v3 v4 v5 (.bool v6)) 1).toInt = (-1)) (
 .row [.int 1, v0, (.bool v1)]) (
 HL v0 (.bool v1) (sl (MJ v0 (.bool v1) v2 v3 v4 v5 (.bool v6)) 1) (.int (IntKind.wrap .i64 ((sl (MJ v0 (.bool v1) v2 v3 v4 v5 (.bool v6)) 1).toInt + 1))) v2 v3 v4 v5 (.bool v6))) (
 .row []) := gw rfl rfl (cQ (cQ rfl rfl) rfl)
theorem aD (v0 : D) (v1 : Bool) (v2 v3 : Int) (v4 v5 v6 v7 : D) (v8 : Bool) : HL v0 (.bool v1) (.int v2) (.int v3) v4 v5 v6 v7 (.bool v8) =
  cond (v3 < len v0) (
 cond (v3 < 0) (
 .row []) (
 cond ((cl v0 v3 0).toInt < 0) (
 .row []) (
 cond ((cl v0 v3 0).toInt < len v7) (
 cond ((cl v7 (cl v0 v3 0).toInt 2).toInt = 2) (
 cond (v8) (
 cond (v2 < 0) (
 .row []) (
 cond (v2 < len v0) (
 HL (upd v0 v2 0 (cl v0 v3 0)) (.bool v1) (.int (IntKind.wrap .i64 (v2 + 1))) (.int (IntKind.wrap .i64 (v3 + 1))) v4 v5 v6 v7 (.bool v8)) (
 .row []))) (
 HL v0 (.bool v1) (.int v2) (.int (IntKind.wrap .i64 (v3 + 1))) v4 v5 v6 v7 (.bool v8))) (
 cond (v8) (
 HL v0 (.bool v1) (.int v2) (.int (IntKind.wrap .i64 (v3 + 1))) v4 v5 v6 v7 (.bool v8)) (
 cond (v2 < 0) (
 .row []) (
 cond (v2 < len v0) (
 HL (upd v0 v2 0 (cl v0 v3 0)) (.bool v1) (.int (IntKind.wrap .i64 (v2 + 1))) (.int (IntKind.wrap .i64 (v3 + 1))) v4 v5 v6 v7 (.bool v8)) (
 .row []))))) (
 .row [])))) (
 cond (v2 < 0) (
 .row []) (
 cond (len v0 < v2) (
 .row []) (
 cond ((len v0 : Int) < (len v0 : Int)) (
 .row []) (
 cond ((len v0 : Int) = (len (sb v0 0 v2) : Int)) (
 cond (len (sb v0 0 v2) < v2) (
 .row []) (
 .row [.int 1, (sb (sb v0 0 v2) 0 v2), (.bool v1)])) (
 cond (len (sb v0 0 v2) < v2) (
 .row []) (
 .row [.int 1, (sb (sb v0 0 v2) 0 v2), (.bool v1)])))))) := gw rfl rfl (cL (cL rfl (cL rfl (cL (cQ rfl rfl) rfl))) (cL rfl (cL rfl (cL rfl (cQ rfl rfl)))))
theorem j7 (v0 v1 v2 v3 v4 v5 v6 v7 v8 v9 : D) (v10 : Bool) (v11 v12 : D) (v13 : Bool) (v14 v15 v16 v17 v18 v19 v20 v21 v22 v23 v24 v25 : Int) (v26 : Bool) {F0 F1 : D} (h0 : JV (.int v21) (.int v22) (.int v23) (.int v24) (.int v25) v4 v5 v6 v7 = F0) (h1 : JV (.int v16) (.int v17) (.int v18) (.int v19) (.int v20) v0 v1 v2 v3 = F1) : MO v0 v1 v2 v3 v4 v5 v6 v7 v8 v9 (.bool v10) v11 v12 (.bool v13) (.int v14) (.int v15) (.int v16) (.int v17) (.int v18) (.int v19) (.int v20) (.int v21) (.int v22) (.int v23) (.int v24) (.int v25) (.bool v26) =
  cond ((sl F1 0).toInt = 1) (
 cond ((sl (JT (sl F1 1) (sl F1 2) v0 v1 v2 v3 (.bool v26)) 0).toInt = 1) (
 cond ((sl F0 0).toInt = 1) (
 cond ((sl (JT (sl F0 1) (sl F0 2) v4 v5 v6 v7 (.bool v26)) 0).toInt = 1) (
 .row [.int 1, (sl (JT (sl F1 1) (sl F1 2) v0 v1 v2 v3 (.bool v26)) 1), (sl (JT (sl F1 1) (sl F1 2) v0 v1 v2 v3 (.bool v26)) 2), (sl (JT (sl F0 1) (sl F0 2) v4 v5 v6 v7 (.bool v26)) 1), (sl (JT (sl F0 1) (sl F0 2) v4 v5 v6 v7 (.bool v26)) 2)]) (
 .row [])) (
 .row [])) (
 .row [])) (
 .row []) := by
  subst h0; subst h1; exact gw rfl rfl (cQ (cQ (cQ (cQ rfl rfl) rfl) rfl) rfl)
theorem io (v0 : D) (v1 : Bool) (v2 v3 v4 v5 v6 v7 v8 v9 : D) (v10 : Int) : SP v0 (.bool v1) v2 v3 v4 v5 v6 v7 v8 v9 (.int v10) =
 MS v0 (.bool v1) (.int 0) v2 v3 v4 v5 v6 v7 v8 v9 (.int v10) := gw rfl rfl rfl
theorem az (v0 : D) (v1 : Bool) (v2 : Int) (v3 v4 v5 v6 v7 v8 v9 v10 : D) (v11 : Int) : MS v0 (.bool v1) (.int v2) v3 v4 v5 v6 v7 v8 v9 v10 (.int v11) =
  cond (v2 < len v0) (
 cond (v2 < 0) (
 .row []) (
 cond ((cl v0 v2 0).toInt < 0) (
 .row []) (
 cond ((cl v0 v2 0).toInt < len v6) (
 cond (v11 < 0) (
 .row []) (
 cond (v11 < len v10) (
 cond ((decide ((cl v6 (cl v0 v2 0).toInt 2).toInt = (cl v10 v11 2).toInt) && (D.strEq (cl v6 (cl v0 v2 0).toInt 3) (cl v10 v11 3) && D.strEq (cl v6 (cl v0 v2 0).toInt 4) (cl v10 v11 4)))) (
 .row [.int 1, (.int v2)]) (
 MS v0 (.bool v1) (.int (IntKind.wrap .i64 (v2 + 1))) v3 v4 v5 v6 v7 v8 v9 v10 (.int v11))) (
 .row []))) (
 .row [])))) (
 .row [.int 1, (.int (-1))]) := gw rfl rfl (cL (cL rfl (cL rfl (cL (cL rfl (cL (cg (aE (qE rfl rfl) (aE rfl rfl)) rfl rfl) rfl)) rfl))) rfl)
theorem fP (v0 v1 v2 v3 v4 : D) (v5 : Bool) (v6 v7 v8 v9 v10 : D) (v11 : Bool) : Js v0 v1 v2 v3 v4 (.bool v5) v6 v7 v8 v9 v10 (.bool v11) =
 Sb v10 (.bool v11) v4 (.bool v5) (.int 0) v0 v1 v2 v3 v6 v7 v8 v9 := gw rfl rfl rfl
theorem ZH (v0 : D) (v1 : Bool) (v2 : D) (v3 : Bool) (v4 : Int) (v5 v6 v7 v8 v9 v10 v11 v12 : D) : Sb v0 (.bool v1) v2 (.bool v3) (.int v4) v5 v6 v7 v8 v9 v10 v11 v12 =
  cond (v4 < len v2) (
 cond (v4 < 0) (
 .row []) (
 cond ((sl (SP v0 (.bool v1) v9 v10 v11 v12 v5 v6 v7 v8 (cl v2 v4 0)) 0).toInt = 1) (
 cond ((sl (SP v0 (.bool v1) v9 v10 v11 v12 v5 v6 v7 v8 (cl v2 v4 0)) 1).toInt < 0) (
 .row [.int 1, (cl v2 v4 0), (.bool true)]) (
 Sb v0 (.bool v1) v2 (.bool v3) (.int (IntKind.wrap .i64 (v4 + 1))) v5 v6 v7 v8 v9 v10 v11 v12)) (
 .row []))) (
 .row [.int 1, (.int 0), (.bool false)]) := gw rfl rfl (cL (cL rfl (cQ rfl rfl)) rfl)
theorem iY (v0 v1 v2 v3 v4 v5 v6 v7 v8 v9 : D) (v10 : Bool) (v11 v12 : D) (v13 : Bool) (v14 v15 v16 v17 v18 v19 v20 v21 v22 v23 v24 v25 : Int) {F0 F1 : D} (h0 : MO v0 v1 v2 v3 v4 v5 v6 v7 v8 v9 (.bool v10) v11 v12 (.bool v13) (.int v14) (.int v15) (.int v16) (.int v17) (.int v18) (.int v19) (.int v20) (.int v21) (.int v22) (.int v23) (.int v24) (.int v25) (.bool false) = F0) (h1 : MO v0 v1 v2 v3 v4 v5 v6 v7 v8 v9 (.bool v10) v11 v12 (.bool v13) (.int v14) (.int v15) (.int v16) (.int v17) (.int v18) (.int v19) (.int v20) (.int v21) (.int v22) (.int v23) (.int v24) (.int v25) (.bool true) = F1) : WV v0 v1 v2 v3 v4 v5 v6 v7 v8 v9 (.bool v10) v11 v12 (.bool v13) (.int v14) (.int v15) (.int v16) (.int v17) (.int v18) (.int v19) (.int v20) (.int v21) (.int v22) (.int v23) (.int v24) (.int v25) =
  cond ((sl F1 0).toInt = 1) (
 cond ((sl (Js v0 v1 v2 v3 (sl F1 1) (sl F1 2) v4 v5 v6 v7 (sl F1 3) (sl F1 4)) 0).toInt = 1) (
 cond ((sl (Js v0 v1 v2 v3 (sl F1 1) (sl F1 2) v4 v5 v6 v7 (sl F1 3) (sl F1 4)) 2).toBool) (
 .row [.int 1, (.int 1), (sl (Js v0 v1 v2 v3 (sl F1 1) (sl F1 2) v4 v5 v6 v7 (sl F1 3) (sl F1 4)) 1)]) (
 cond ((sl F0 0).toInt = 1) (
 cond ((sl (Js v4 v5 v6 v7 (sl F0 3) (sl F0 4) v0 v1 v2 v3 (sl F0 1) (sl F0 2)) 0).toInt = 1) (
 cond ((sl (Js v4 v5 v6 v7 (sl F0 3) (sl F0 4) v0 v1 v2 v3 (sl F0 1) (sl F0 2)) 2).toBool) (
 .row [.int 1, (.int 2), (sl (Js v4 v5 v6 v7 (sl F0 3) (sl F0 4) v0 v1 v2 v3 (sl F0 1) (sl F0 2)) 1)]) (
 cond (0 < (len (sl F0 1) : Int)) (
 cond ((len (sl F0 3) : Int) = 0) (
 .row [.int 1, (.int 3), (.int 0)]) (
 cond (v16 < 0) (
 .row []) (
 cond (v16 < len v1) (
 cond (v21 < 0) (
 .row []) (
 cond (v21 < len v5) (
 cond ((cl v1 v16 1).toBool) (
 cond ((cl v5 v21 1).toBool) (
 .row [.int 1, (.int 0), (.int 0)]) (
 .row [.int 1, (.int 4), (.int 0)])) (
 cond ((cl v5 v21 1).toBool) (
 .row [.int 1, (.int 4), (.int 0)]) (
 .row [.int 1, (.int 0), (.int 0)]))) (
 .row []))) (
 .row [])))) (
 cond (v16 < 0) (
 .row []) (
 cond (v16 < len v1) (
 cond (v21 < 0) (
 .row []) (
 cond (v21 < len v5) (
 cond ((cl v1 v16 1).toBool) (
 cond ((cl v5 v21 1).toBool) (
 .row [.int 1, (.int 0), (.int 0)]) (
 .row [.int 1, (.int 4), (.int 0)])) (
 cond ((cl v5 v21 1).toBool) (
 .row [.int 1, (.int 4), (.int 0)]) (
 .row [.int 1, (.int 0), (.int 0)]))) (
 .row []))) (
 .row []))))) (
 .row [])) (
 .row []))) (
 .row [])) (
 .row []) := by
  subst h0; subst h1; exact gw rfl rfl (cQ (cQ (cg rfl rfl (cQ (cQ (cg rfl rfl (cL (cQ rfl rfl) rfl)) rfl) rfl)) rfl) rfl)
theorem g6 (v0 v1 v2 v3 v4 : Int) (v5 v6 v7 v8 : D) : JP (.int v0) (.int v1) (.int v2) (.int v3) (.int v4) v5 v6 v7 v8 =
  cond (v0 < 0) (
 .row []) (
 cond (v0 < len v6) (
 cond ((len v7 : Int) = 0) (
 .row [.int 1, (cl v6 v0 0), Aw]) (
 cond ((len v7 : Int) = 1) (
 .row [.int 1, (cl v6 v0 0), (ad Aw (.row [(.int v1)]))]) (
 cond ((len v7 : Int) = 2) (
 .row [.int 1, (cl v6 v0 0), (ad (ad Aw (.row [(.int v1)])) (.row [(.int v2)]))]) (
 cond ((len v7 : Int) = 3) (
 .row [.int 1, (cl v6 v0 0), (ad (ad (ad Aw (.row [(.int v1)])) (.row [(.int v2)])) (.row [(.int v3)]))]) (
 cond ((len v7 : Int) = 4) (
 .row [.int 1, (cl v6 v0 0), (ad (ad (ad (ad Aw (.row [(.int v1)])) (.row [(.int v2)])) (.row [(.int v3)])) (.row [(.int v4)]))]) (
 .row [])))))) (
 .row [])) := gw rfl rfl (cL rfl (cL (cQ rfl (cQ rfl (cQ rfl (cQ rfl (cQ rfl rfl))))) rfl))
theorem Z8 (v0 v1 v2 v3 v4 v5 v6 v7 v8 v9 : D) (v10 : Bool) (v11 v12 : D) (v13 : Bool) (v14 v15 v16 v17 v18 v19 v20 v21 v22 v23 v24 v25 : Int) (v26 : D) (v27 : Bool) (v28 : D) {F0 F1 : D} (h0 : MO v0 v1 v2 v3 v4 v5 v6 v7 v8 v9 (.bool v10) v11 v12 (.bool v13) (.int v14) (.int v15) (.int v16) (.int v17) (.int v18) (.int v19) (.int v20) (.int v21) (.int v22) (.int v23) (.int v24) (.int v25) (.bool true) = F0) (h1 : WV v0 v1 v2 v3 v4 v5 v6 v7 v8 v9 (.bool v10) v11 v12 (.bool v13) (.int v14) (.int v15) (.int v16) (.int v17) (.int v18) (.int v19) (.int v20) (.int v21) (.int v22) (.int v23) (.int v24) (.int v25) = F1) : MF v0 v1 v2 v3 v4 v5 v6 v7 v8 v9 (.bool v10) v11 v12 (.bool v13) (.int v14) (.int v15) (.int v16) (.int v17) (.int v18) (.int v19) (.int v20) (.int v21) (.int v22) (.int v23) (.int v24) (.int v25) v26 (.bool v27) v28 =
  cond ((sl F1 0).toInt = 1) (
 cond ((sl F1 1).toInt = 0) (
 cond ((sl F0 0).toInt = 1) (
 Nf (sl F0 3) (sl F0 4) (sl F0 1) (sl F0 2) (.int (len (sl F0 1) : Int)) (.int 0) v0 v1 v2 v3 v4 v5 v6 v7 v8 v9 (.bool v10) v11 v12 (.bool v13) (.int v14) (.int v15) v26 (.bool v27) v28 (.int v16) (.int v17) (.int v18) (.int v19) (.int v20) (.int v21) (.int v22) (.int v23) (.int v24) (.int v25)) (
 .row [])) (
 cond ((sl (JP (.int v16) (.int v17) (.int v18) (.int v19) (.int v20) v0 v1 v2 v3) 0).toInt = 1) (
 cond ((sl (JP (.int v21) (.int v22) (.int v23) (.int v24) (.int v25) v4 v5 v6 v7) 0).toInt = 1) (
 .row [.int 1, (.bool true), v0, v1, v2, v3, v4, v5, v6, v7, (sl (JP (.int v16) (.int v17) (.int v18) (.int v19) (.int v20) v0 v1 v2 v3) 1), (sl (JP (.int v16) (.int v17) (.int v18) (.int v19) (.int v20) v0 v1 v2 v3) 2), (.bool false), (sl (JP (.int v21) (.int v22) (.int v23) (.int v24) (.int v25) v4 v5 v6 v7) 1), (sl (JP (.int v21) (.int v22) (.int v23) (.int v24) (.int v25) v4 v5 v6 v7) 2), (.bool false), (sl F1 1), (sl F1 2), v26, (.bool v27), v28]) (
 .row [])) (
 .row []))) (
 .row []) := by
  subst h0; subst h1; exact gw rfl rfl (cQ (cQ (cQ rfl rfl) (cQ (cQ rfl rfl) rfl)) rfl)
theorem ac (v0 : D) (v1 : Bool) (v2 : D) (v3 : Bool) (v4 v5 : Int) (v6 v7 v8 v9 v10 v11 v12 v13 v14 v15 : D) (v16 : Bool) (v17 v18 : D) (v19 : Bool) (v20 v21 : Int) (v22 : D) (v23 : Bool) (v24 : D) (v25 v26 v27 v28 v29 v30 v31 v32 v33 v34 : Int) {F0 : D} (h0 : MO v6 v7 v8 v9 v10 v11 v12 v13 v14 v15 (.bool v16) v17 v18 (.bool v19) (.int v20) (.int v21) (.int v25) (.int v26) (.int v27) (.int v28) (.int v29) (.int v30) (.int v31) (.int v32) (.int v33) (.int v34) (.bool false) = F0) : Nf v0 (.bool v1) v2 (.bool v3) (.int v4) (.int v5) v6 v7 v8 v9 v10 v11 v12 v13 v14 v15 (.bool v16) v17 v18 (.bool v19) (.int v20) (.int v21) v22 (.bool v23) v24 (.int v25) (.int v26) (.int v27) (.int v28) (.int v29) (.int v30) (.int v31) (.int v32) (.int v33) (.int v34) =
  cond (v5 < v4) (
 cond (v5 < 0) (
 .row []) (
 cond (v5 < len v2) (
 OR v0 (.bool v1) (cl v2 v5 0) v2 (.bool v3) (.int v4) (.int v5) (.int 0) v6 v7 v8 v9 v10 v11 v12 v13 v14 v15 (.bool v16) v17 v18 (.bool v19) (.int v20) (.int v21) v22 (.bool v23) v24 (.int v25) (.int v26) (.int v27) (.int v28) (.int v29) (.int v30) (.int v31) (.int v32) (.int v33) (.int v34)) (
 .row []))) (
 cond ((sl F0 0).toInt = 1) (
 PH (sl F0 1) (sl F0 2) (sl F0 3) (sl F0 4) (.int (len (sl F0 3) : Int)) (.int 0) v6 v7 v8 v9 v10 v11 v12 v13 v14 v15 (.bool v16) v17 v18 (.bool v19) (.int v20) (.int v21) v22 (.bool v23) v24 (.int v25) (.int v26) (.int v27) (.int v28) (.int v29) (.int v30) (.int v31) (.int v32) (.int v33) (.int v34)) (
 .row [])) := by
  subst h0; exact gw rfl rfl (cL rfl (cQ rfl rfl))
theorem Zn (v0 : D) (v1 : Bool) (v2 : Int) (v3 : D) (v4 : Bool) (v5 v6 v7 : Int) (v8 v9 v10 v11 v12 v13 v14 v15 v16 v17 : D) (v18 : Bool) (v19 v20 : D) (v21 : Bool) (v22 v23 : Int) (v24 : D) (v25 : Bool) (v26 : D) (v27 v28 v29 v30 v31 v32 v33 v34 v35 v36 : Int) {F0 F1 F2 : D} (h0 : G9 (.int v32) (.int v33) (.int v34) (.int v35) (.int v36) v12 v13 v14 v15 (cl v0 v7 0) = F0) (h1 : G9 (.int v27) (.int v28) (.int v29) (.int v30) (.int v31) v8 v9 v10 v11 (.int v2) = F1) (h2 : H3 v24 (.bool v25) v26 (sl F1 1) (sl F1 2) (sl F1 3) (sl F1 4) (sl F1 5) (sl F0 1) (sl F0 2) (sl F0 3) (sl F0 4) (sl F0 5) = F2) : OR v0 (.bool v1) (.int v2) v3 (.bool v4) (.int v5) (.int v6) (.int v7) v8 v9 v10 v11 v12 v13 v14 v15 v16 v17 (.bool v18) v19 v20 (.bool v21) (.int v22) (.int v23) v24 (.bool v25) v26 (.int v27) (.int v28) (.int v29) (.int v30) (.int v31) (.int v32) (.int v33) (.int v34) (.int v35) (.int v36) =
  cond (v7 < len v0) (
 cond (v7 < 0) (
 .row []) (
 cond (v2 < 0) (
 .row []) (
 cond (v2 < len v11) (
 cond ((cl v0 v7 0).toInt < 0) (
 .row []) (
 cond ((cl v0 v7 0).toInt < len v15) (
 cond ((decide ((cl v11 v2 2).toInt = (cl v15 (cl v0 v7 0).toInt 2).toInt) && (D.strEq (cl v11 v2 3) (cl v15 (cl v0 v7 0).toInt 3) && D.strEq (cl v11 v2 4) (cl v15 (cl v0 v7 0).toInt 4)))) (
 cond ((sl F1 0).toInt = 1) (
 cond ((sl F0 0).toInt = 1) (
 cond ((sl F2 0).toInt = 1) (
 OR v0 (.bool v1) (.int v2) v3 (.bool v4) (.int v5) (.int v6) (.int (IntKind.wrap .i64 (v7 + 1))) v8 v9 v10 v11 v12 v13 v14 v15 v16 v17 (.bool v18) v19 v20 (.bool v21) (.int v22) (.int v23) (sl F2 1) (sl F2 2) (sl F2 3) (.int v27) (.int v28) (.int v29) (.int v30) (.int v31) (.int v32) (.int v33) (.int v34) (.int v35) (.int v36)) (
 .row [])) (
 .row [])) (
 .row [])) (
 OR v0 (.bool v1) (.int v2) v3 (.bool v4) (.int v5) (.int v6) (.int (IntKind.wrap .i64 (v7 + 1))) v8 v9 v10 v11 v12 v13 v14 v15 v16 v17 (.bool v18) v19 v20 (.bool v21) (.int v22) (.int v23) v24 (.bool v25) v26 (.int v27) (.int v28) (.int v29) (.int v30) (.int v31) (.int v32) (.int v33) (.int v34) (.int v35) (.int v36))) (
 .row []))) (
 .row [])))) (
 Nf v0 (.bool v1) v3 (.bool v4) (.int v5) (.int (IntKind.wrap .i64 (v6 + 1))) v8 v9 v10 v11 v12 v13 v14 v15 v16 v17 (.bool v18) v19 v20 (.bool v21) (.int v22) (.int v23) v24 (.bool v25) v26 (.int v27) (.int v28) (.int v29) (.int v30) (.int v31) (.int v32) (.int v33) (.int v34) (.int v35) (.int v36)) := by
  subst h0; subst h1; subst h2; exact gw rfl rfl (cL (cL rfl (cL rfl (cL (cL rfl (cL (cg (aE (qE rfl rfl) (aE rfl rfl)) (cQ (cQ (cQ rfl rfl) rfl) rfl) rfl) rfl)) rfl))) rfl)
theorem ZT (v0 : D) (v1 : Bool) (v2 : D) (v3 : Bool) (v4 v5 : Int) (v6 v7 v8 v9 v10 v11 v12 v13 v14 v15 : D) (v16 : Bool) (v17 v18 : D) (v19 : Bool) (v20 v21 : Int) (v22 : D) (v23 : Bool) (v24 : D) (v25 v26 v27 v28 v29 v30 v31 v32 v33 v34 : Int) : PH v0 (.bool v1) v2 (.bool v3) (.int v4) (.int v5) v6 v7 v8 v9 v10 v11 v12 v13 v14 v15 (.bool v16) v17 v18 (.bool v19) (.int v20) (.int v21) v22 (.bool v23) v24 (.int v25) (.int v26) (.int v27) (.int v28) (.int v29) (.int v30) (.int v31) (.int v32) (.int v33) (.int v34) =
  cond (v5 < v4) (
 cond (v5 < 0) (
 .row []) (
 cond (v5 < len v2) (
 O1 v0 (.bool v1) (cl v2 v5 0) v2 (.bool v3) (.int v4) (.int v5) (.int 0) v6 v7 v8 v9 v10 v11 v12 v13 v14 v15 (.bool v16) v17 v18 (.bool v19) (.int v20) (.int v21) v22 (.bool v23) v24 (.int v25) (.int v26) (.int v27) (.int v28) (.int v29) (.int v30) (.int v31) (.int v32) (.int v33) (.int v34)) (
 .row []))) (
 .row [.int 1, (.bool false), v6, v7, v8, v9, v10, v11, v12, v13, v14, v15, (.bool v16), v17, v18, (.bool v19), (.int v20), (.int v21), v22, (.bool v23), v24]) := gw rfl rfl rfl
theorem ah (v0 : D) (v1 : Bool) (v2 : Int) (v3 : D) (v4 : Bool) (v5 v6 v7 : Int) (v8 v9 v10 v11 v12 v13 v14 v15 v16 v17 : D) (v18 : Bool) (v19 v20 : D) (v21 : Bool) (v22 v23 : Int) (v24 : D) (v25 : Bool) (v26 : D) (v27 v28 v29 v30 v31 v32 v33 v34 v35 v36 : Int) {F0 F1 F2 : D} (h0 : G9 (.int v27) (.int v28) (.int v29) (.int v30) (.int v31) v8 v9 v10 v11 (cl v0 v7 0) = F0) (h1 : G9 (.int v32) (.int v33) (.int v34) (.int v35) (.int v36) v12 v13 v14 v15 (.int v2) = F1) (h2 : H3 v24 (.bool v25) v26 (sl F0 1) (sl F0 2) (sl F0 3) (sl F0 4) (sl F0 5) (sl F1 1) (sl F1 2) (sl F1 3) (sl F1 4) (sl F1 5) = F2) : O1 v0 (.bool v1) (.int v2) v3 (.bool v4) (.int v5) (.int v6) (.int v7) v8 v9 v10 v11 v12 v13 v14 v15 v16 v17 (.bool v18) v19 v20 (.bool v21) (.int v22) (.int v23) v24 (.bool v25) v26 (.int v27) (.int v28) (.int v29) (.int v30) (.int v31) (.int v32) (.int v33) (.int v34) (.int v35) (.int v36) =
  cond (v7 < len v0) (
 cond (v7 < 0) (
 .row []) (
 cond ((cl v0 v7 0).toInt < 0) (
 .row []) (
 cond ((cl v0 v7 0).toInt < len v11) (
 cond (v2 < 0) (
 .row []) (
 cond (v2 < len v15) (
 cond ((decide ((cl v11 (cl v0 v7 0).toInt 2).toInt = (cl v15 v2 2).toInt) && (D.strEq (cl v11 (cl v0 v7 0).toInt 3) (cl v15 v2 3) && D.strEq (cl v11 (cl v0 v7 0).toInt 4) (cl v15 v2 4)))) (
 cond ((sl F0 0).toInt = 1) (
 cond ((sl F1 0).toInt = 1) (
 cond ((sl F2 0).toInt = 1) (
 O1 v0 (.bool v1) (.int v2) v3 (.bool v4) (.int v5) (.int v6) (.int (IntKind.wrap .i64 (v7 + 1))) v8 v9 v10 v11 v12 v13 v14 v15 v16 v17 (.bool v18) v19 v20 (.bool v21) (.int v22) (.int v23) (sl F2 1) (sl F2 2) (sl F2 3) (.int v27) (.int v28) (.int v29) (.int v30) (.int v31) (.int v32) (.int v33) (.int v34) (.int v35) (.int v36)) (
 .row [])) (
 .row [])) (
 .row [])) (
 O1 v0 (.bool v1) (.int v2) v3 (.bool v4) (.int v5) (.int v6) (.int (IntKind.wrap .i64 (v7 + 1))) v8 v9 v10 v11 v12 v13 v14 v15 v16 v17 (.bool v18) v19 v20 (.bool v21) (.int v22) (.int v23) v24 (.bool v25) v26 (.int v27) (.int v28) (.int v29) (.int v30) (.int v31) (.int v32) (.int v33) (.int v34) (.int v35) (.int v36))) (
 .row []))) (
 .row [])))) (
 PH v0 (.bool v1) v3 (.bool v4) (.int v5) (.int (IntKind.wrap .i64 (v6 + 1))) v8 v9 v10 v11 v12 v13 v14 v15 v16 v17 (.bool v18) v19 v20 (.bool v21) (.int v22) (.int v23) v24 (.bool v25) v26 (.int v27) (.int v28) (.int v29) (.int v30) (.int v31) (.int v32) (.int v33) (.int v34) (.int v35) (.int v36)) := by
  subst h0; subst h1; subst h2; exact gw rfl rfl (cL (cL rfl (cL rfl (cL (cL rfl (cL (cg (aE (qE rfl rfl) (aE rfl rfl)) (cQ (cQ (cQ rfl rfl) rfl) rfl) rfl) rfl)) rfl))) rfl)
theorem iU (v0 : D) (v1 : Bool) (v2 : Int) (v3 v4 v5 v6 v7 v8 v9 v10 v11 v12 : D) (v13 : Bool) (v14 v15 : D) (v16 : Bool) (v17 v18 : Int) : Wv v0 (.bool v1) (.int v2) v3 v4 v5 v6 v7 v8 v9 v10 v11 v12 (.bool v13) v14 v15 (.bool v16) (.int v17) (.int v18) =
 Pj (.int v2) v0 (.bool v1) (.int 0) v3 v4 v5 v6 v7 v8 v9 v10 v11 v12 (.bool v13) v14 v15 (.bool v16) (.int v17) (.int v18) AB (.bool true) Aw := gw rfl rfl rfl
theorem ZN (v0 : Int) (v1 : D) (v2 : Bool) (v3 : Int) (v4 v5 v6 v7 v8 v9 v10 v11 v12 v13 : D) (v14 : Bool) (v15 v16 : D) (v17 : Bool) (v18 v19 : Int) (v20 : D) (v21 : Bool) (v22 : D) : Pj (.int v0) v1 (.bool v2) (.int v3) v4 v5 v6 v7 v8 v9 v10 v11 v12 v13 (.bool v14) v15 v16 (.bool v17) (.int v18) (.int v19) v20 (.bool v21) v22 =
  cond (v3 < len v1) (
 cond (v3 < 0) (
 .row []) (
 cond ((sl (H3 v20 (.bool v21) v22 (cl v1 v3 0) (cl v1 v3 1) (cl v1 v3 2) (cl v1 v3 3) (cl v1 v3 4) (cl v1 v3 5) (cl v1 v3 6) (cl v1 v3 7) (cl v1 v3 8) (cl v1 v3 9)) 0).toInt = 1) (
 Pj (.int v0) v1 (.bool v2) (.int (IntKind.wrap .i64 (v3 + 1))) v4 v5 v6 v7 v8 v9 v10 v11 v12 v13 (.bool v14) v15 v16 (.bool v17) (.int v18) (.int v19) (sl (H3 v20 (.bool v21) v22 (cl v1 v3 0) (cl v1 v3 1) (cl v1 v3 2) (cl v1 v3 3) (cl v1 v3 4) (cl v1 v3 5) (cl v1 v3 6) (cl v1 v3 7) (cl v1 v3 8) (cl v1 v3 9)) 1) (sl (H3 v20 (.bool v21) v22 (cl v1 v3 0) (cl v1 v3 1) (cl v1 v3 2) (cl v1 v3 3) (cl v1 v3 4) (cl v1 v3 5) (cl v1 v3 6) (cl v1 v3 7) (cl v1 v3 8) (cl v1 v3 9)) 2) (sl (H3 v20 (.bool v21) v22 (cl v1 v3 0) (cl v1 v3 1) (cl v1 v3 2) (cl v1 v3 3) (cl v1 v3 4) (cl v1 v3 5) (cl v1 v3 6) (cl v1 v3 7) (cl v1 v3 8) (cl v1 v3 9)) 3)) (
 .row []))) (
 O8 (.int v0) (.int 0) v1 v4 v5 v6 v7 v8 v9 v10 v11 v12 v13 (.bool v14) v15 v16 (.bool v17) (.int v18) (.int v19) v20 (.bool v21) v22) := gw rfl rfl (cL (cL rfl (cQ rfl rfl)) rfl)
theorem Sr (v0 v1 : Int) (v2 v3 v4 v5 v6 v7 v8 v9 v10 v11 v12 : D) (v13 : Bool) (v14 v15 : D) (v16 : Bool) (v17 v18 : Int) (v19 : D) (v20 : Bool) (v21 : D) {F0 : D} (h0 : MF v3 v4 v5 v6 v7 v8 v9 v10 v11 v12 (.bool v13) v14 v15 (.bool v16) (.int v17) (.int v18) (cl v19 v1 0) (cl v19 v1 1) (cl v19 v1 2) (cl v19 v1 3) (cl v19 v1 4) (cl v19 v1 5) (cl v19 v1 6) (cl v19 v1 7) (cl v19 v1 8) (cl v19 v1 9) v19 (.bool v20) v21 = F0) : O8 (.int v0) (.int v1) v2 v3 v4 v5 v6 v7 v8 v9 v10 v11 v12 (.bool v13) v14 v15 (.bool v16) (.int v17) (.int v18) v19 (.bool v20) v21 =
  cond (v1 < len v19) (
 cond (v1 < v0) (
 cond (v1 < 0) (
 .row []) (
 cond ((sl F0 0).toInt = 1) (
 cond ((sl F0 1).toBool) (
 .row [.int 1, (sl F0 18), (sl F0 19), (.bool false), (sl F0 2), (sl F0 3), (sl F0 4), (sl F0 5), (sl F0 6), (sl F0 7), (sl F0 8), (sl F0 9), (sl F0 10), (sl F0 11), (sl F0 12), (sl F0 13), (sl F0 14), (sl F0 15), (sl F0 16), (sl F0 17)]) (
 O8 (.int v0) (.int (IntKind.wrap .i64 (v1 + 1))) v2 (sl F0 2) (sl F0 3) (sl F0 4) (sl F0 5) (sl F0 6) (sl F0 7) (sl F0 8) (sl F0 9) (sl F0 10) (sl F0 11) (sl F0 12) (sl F0 13) (sl F0 14) (sl F0 15) (sl F0 16) (sl F0 17) (sl F0 18) (sl F0 19) (sl F0 20))) (
 .row []))) (
 .row [.int 1, v19, (.bool v20), (.bool (decide (v0 < (len v19 : Int)))), v3, v4, v5, v6, v7, v8, v9, v10, v11, v12, (.bool v13), v14, v15, (.bool v16), (.int v17), (.int v18)])) (
 .row [.int 1, v19, (.bool v20), (.bool (decide (v0 < (len v19 : Int)))), v3, v4, v5, v6, v7, v8, v9, v10, v11, v12, (.bool v13), v14, v15, (.bool v16), (.int v17), (.int v18)]) := by
  subst h0; exact gw rfl rfl (cL (cL (cL rfl (cQ rfl rfl)) rfl) rfl)
theorem ZU (v0 v1 v2 v3 v4 v5 v6 v7 v8 v9 : D) {F0 : D} (h0 : Vo (ad Aw (.row [(.int 0), (.int 0), (.int 0), (.int 0), (.int 0)])) (.bool false) (.int 2000) v0 v1 v2 v3 = F0) : Nx v0 v1 v2 v3 v4 v5 v6 v7 v8 v9 =
  cond ((sl (NC v0 v1 v2 v3 v4 v5 v6 v7 v8 v9) 0).toInt = 1) (
 cond ((sl (NC v0 v1 v2 v3 v4 v5 v6 v7 v8 v9) 2).toInt = 0) (
 cond ((sl F0 0).toInt = 1) (
 cond ((sl F0 3).toBool) (
 .row [.int 1, (Bs 0 0), AB, (.bool true), (Bs 0 0), AB, (.bool true), (.int 0), (.int 0), (.bool false), (.int 7)]) (
 KM AB (.bool true) (sl F0 1) (sl F0 2) (.int (len (sl F0 1) : Int)) (.int 0) v0 v1 v2 v3 v4 v5 v6 v7 v8 v9)) (
 .row [])) (
 .row [.int 1, (Bs 0 0), AB, (.bool true), (Bs 0 0), AB, (.bool true), (.int 0), (.int 0), (.bool false), (sl (NC v0 v1 v2 v3 v4 v5 v6 v7 v8 v9) 2)])) (
 .row []) := by
  subst h0; exact gw rfl rfl (cQ (cQ (cQ (cg rfl rfl rfl) rfl) rfl) rfl)
theorem WD (v0 : D) (v1 : Bool) (v2 : D) (v3 : Bool) (v4 v5 : Int) (v6 v7 v8 v9 v10 v11 v12 v13 v14 v15 : D) {F0 F1 : D} (h0 : Wv v0 (.bool v1) (.int 4000) v6 v7 v8 v9 v10 v11 v12 v13 (Bs 0 0) AB (.bool true) (Bs 0 0) AB (.bool true) (.int 0) (.int 0) = F0) (h1 : OY v6 v7 v8 v9 v10 v11 v12 v13 v14 v15 (cl v2 v5 0) (cl v2 v5 1) (cl v2 v5 2) (cl v2 v5 3) (cl v2 v5 4) = F1) : KM v0 (.bool v1) v2 (.bool v3) (.int v4) (.int v5) v6 v7 v8 v9 v10 v11 v12 v13 v14 v15 =
  cond (v5 < v4) (
 cond (v5 < 0) (
 .row []) (
 cond (v5 < len v2) (
 cond ((sl F1 0).toInt = 1) (
 cond ((sl F1 6).toInt = 0) (
 cond ((len v0 : Int) < 1073741824) (
 KM (ad v0 (.row [(cl v2 v5 0), (cl v2 v5 1), (cl v2 v5 2), (cl v2 v5 3), (cl v2 v5 4), (sl F1 1), (sl F1 2), (sl F1 3), (sl F1 4), (sl F1 5)])) (.bool false) v2 (.bool v3) (.int v4) (.int (IntKind.wrap .i64 (v5 + 1))) v6 v7 v8 v9 v10 v11 v12 v13 v14 v15) (
 .row [])) (
 KM v0 (.bool v1) v2 (.bool v3) (.int v4) (.int (IntKind.wrap .i64 (v5 + 1))) v6 v7 v8 v9 v10 v11 v12 v13 v14 v15)) (
 .row [])) (
 .row []))) (
 cond ((sl F0 0).toInt = 1) (
 cond ((sl F0 3).toBool) (
 .row [.int 1, (Bs 0 0), AB, (.bool true), (Bs 0 0), AB, (.bool true), (.int 0), (.int 0), (.bool false), (.int 7)]) (
 .row [.int 1, (sl F0 12), (sl F0 13), (sl F0 14), (sl F0 15), (sl F0 16), (sl F0 17), (sl F0 18), (sl F0 19), (.bool (decide ((sl F0 18).toInt = 0))), (.int 0)])) (
 .row [])) := by
  subst h0; subst h1; exact gw rfl rfl (cL (cL rfl (cL (cQ (cQ (cL rfl rfl) rfl) rfl) rfl)) (cQ (cg rfl rfl rfl) rfl))
theorem ZI (v0 : D) : Dl v0 =
  cond ((Co v0 : Int) < 1) (
 .row [.int 1, (.bool false)]) (
 cond (32 < (Co v0 : Int)) (
 .row [.int 1, (.bool false)]) (
 cond ((sAt v0 0) = 95) (
 .row [.int 1, (.bool false)]) (
 cond ((sAt v0 0) < 48) (
 JR v0 (.int 0)) (
 cond (57 < (sAt v0 0)) (
 JR v0 (.int 0)) (
 .row [.int 1, (.bool false)]))))) := gw rfl rfl (cL rfl (cL rfl (cQ rfl rfl)))
theorem UK (v0 : D) (v1 : Int) : JR v0 (.int v1) =
  cond (v1 < (Co v0 : Int)) (
 cond (v1 < 0) (
 .row []) (
 cond ((sAt v0 v1) < 97) (
 cond ((sAt v0 v1) < 65) (
 cond ((sAt v0 v1) < 48) (
 .row [.int 1, (.bool false)]) (
 cond (57 < (sAt v0 v1)) (
 .row [.int 1, (.bool false)]) (
 JR v0 (.int (IntKind.wrap .i64 (v1 + 1)))))) (
 cond (90 < (sAt v0 v1)) (
 cond ((sAt v0 v1) = 95) (
 JR v0 (.int (IntKind.wrap .i64 (v1 + 1)))) (
 .row [.int 1, (.bool false)])) (
 JR v0 (.int (IntKind.wrap .i64 (v1 + 1)))))) (
 cond (122 < (sAt v0 v1)) (
 .row [.int 1, (.bool false)]) (
 JR v0 (.int (IntKind.wrap .i64 (v1 + 1))))))) (
 .row [.int 1, (.bool true)]) := gw rfl rfl (cL (cL rfl (cL (cL rfl (cL (cQ rfl rfl) rfl)) rfl)) rfl)
theorem ig (v0 v1 v2 v3 v4 : D) : HU v0 v1 v2 v3 v4 =
 SO v4 (.int 0) v0 v1 v2 v3 := gw rfl rfl rfl
theorem gm (v0 : D) (v1 : Int) (v2 v3 v4 v5 : D) : SO v0 (.int v1) v2 v3 v4 v5 =
  cond (v1 < len v4) (
 cond (v1 < 0) (
 .row []) (
 cond (D.strEq (cl v4 v1 0) v0) (
 .row [.int 1, (.int v1)]) (
 SO v0 (.int (IntKind.wrap .i64 (v1 + 1))) v2 v3 v4 v5))) (
 .row [.int 1, (.int (-1))]) := gw rfl rfl rfl
theorem gW (v0 v1 v2 v3 v4 : D) : G8 v0 v1 v2 v3 v4 =
 Sp v4 (.int 0) v0 v1 v2 v3 := gw rfl rfl rfl
theorem fD (v0 : D) (v1 : Int) (v2 v3 v4 v5 : D) : Sp v0 (.int v1) v2 v3 v4 v5 =
  cond (v1 < len v3) (
 cond (v1 < 0) (
 .row []) (
 cond (D.strEq (cl v3 v1 0) v0) (
 .row [.int 1, (.int v1)]) (
 Sp v0 (.int (IntKind.wrap .i64 (v1 + 1))) v2 v3 v4 v5))) (
 .row [.int 1, (.int (-1))]) := gw rfl rfl rfl
theorem mE (v0 v1 v2 v3 : D) (v4 : Int) : Sz v0 v1 v2 v3 (.int v4) =
  cond (v4 < 0) (
 .row []) (
 cond (v4 < len v3) (
 cond ((sl (G8 v0 v1 v2 v3 (cl v3 v4 0)) 0).toInt = 1) (
 cond ((sl (G8 v0 v1 v2 v3 (cl v3 v4 0)) 1).toInt < 0) (
 .row [.int 1, (.bool false)]) (
 cond ((sl (G8 v0 v1 v2 v3 (cl v3 v4 1)) 0).toInt = 1) (
 cond ((sl (G8 v0 v1 v2 v3 (cl v3 v4 1)) 1).toInt < 0) (
 .row [.int 1, (.bool false)]) (
 cond (eqC (cl v3 v4 5) 0 0) (
 cond ((cl v3 v4 6).toInt = 0) (
 cond ((cl v3 v4 7).toInt = 0) (
 cond ((cl v3 v4 8).toInt = 0) (
 FH (.int v4) (sl (G8 v0 v1 v2 v3 (cl v3 v4 0)) 1) (.int 0) v0 v1 v2 v3 (cl v3 v4 0) (cl v3 v4 1) (cl v3 v4 2) (cl v3 v4 3) (cl v3 v4 4) (cl v3 v4 5) (cl v3 v4 6) (cl v3 v4 7) (cl v3 v4 8)) (
 .row [.int 1, (.bool false)])) (
 .row [.int 1, (.bool false)])) (
 .row [.int 1, (.bool false)])) (
 cond ((sl (HU v0 v1 v2 v3 (cl v3 v4 5)) 0).toInt = 1) (
 cond ((sl (HU v0 v1 v2 v3 (cl v3 v4 5)) 1).toInt < 0) (
 .row [.int 1, (.bool false)]) (
 cond ((cl v3 v4 6).toInt < 0) (
 .row [.int 1, (.bool false)]) (
 cond ((cl v3 v4 7).toInt < (cl v3 v4 6).toInt) (
 .row [.int 1, (.bool false)]) (
 cond ((sl (HU v0 v1 v2 v3 (cl v3 v4 5)) 1).toInt < len v2) (
 cond ((cl v2 (sl (HU v0 v1 v2 v3 (cl v3 v4 5)) 1).toInt 1).toInt < (cl v3 v4 7).toInt) (
 .row [.int 1, (.bool false)]) (
 cond ((cl v3 v4 8).toInt < (-1000)) (
 .row [.int 1, (.bool false)]) (
 cond (1000 < (cl v3 v4 8).toInt) (
 .row [.int 1, (.bool false)]) (
 cond ((IntKind.wrap .i64 ((cl v3 v4 6).toInt + (cl v3 v4 8).toInt)) < 0) (
 .row [.int 1, (.bool false)]) (
 cond ((cl v2 (sl (HU v0 v1 v2 v3 (cl v3 v4 5)) 1).toInt 1).toInt < (IntKind.wrap .i64 ((cl v3 v4 7).toInt + (cl v3 v4 8).toInt))) (
 .row [.int 1, (.bool false)]) (
 FH (.int v4) (sl (G8 v0 v1 v2 v3 (cl v3 v4 0)) 1) (.int 0) v0 v1 v2 v3 (cl v3 v4 0) (cl v3 v4 1) (cl v3 v4 2) (cl v3 v4 3) (cl v3 v4 4) (cl v3 v4 5) (cl v3 v4 6) (cl v3 v4 7) (cl v3 v4 8))))))) (
 .row []))))) (
 .row [])))) (
 .row []))) (
 .row [])) (
 .row [])) := gw rfl rfl (cL rfl (cL (cQ (cL rfl (cQ (cL rfl (cg rfl (cQ (cQ (cQ rfl rfl) rfl) rfl) (cQ (cL rfl (cL rfl (cL rfl (cL (cL rfl (cL rfl (cL rfl rfl))) rfl)))) rfl))) rfl)) rfl) rfl))
theorem ZD (v0 v1 v2 : Int) (v3 v4 v5 v6 v7 v8 : D) (v9 : Int) (v10 v11 v12 : D) (v13 v14 v15 : Int) : FH (.int v0) (.int v1) (.int v2) v3 v4 v5 v6 v7 v8 (.int v9) v10 v11 v12 (.int v13) (.int v14) (.int v15) =
  cond (v2 < v0) (
 cond (v2 < 0) (
 .row []) (
 cond (v2 < len v6) (
 cond ((D.strEq (cl v6 v2 0) v7 && (D.strEq (cl v6 v2 1) v8 && (decide ((cl v6 v2 2).toInt = v9) && (D.strEq (cl v6 v2 3) v10 && (D.strEq (cl v6 v2 4) v11 && (D.strEq (cl v6 v2 5) v12 && (decide ((cl v6 v2 6).toInt = v13) && (decide ((cl v6 v2 7).toInt = v14) && decide ((cl v6 v2 8).toInt = v15)))))))))) (
 .row [.int 1, (.bool false)]) (
 FH (.int v0) (.int v1) (.int (IntKind.wrap .i64 (v2 + 1))) v3 v4 v5 v6 v7 v8 (.int v9) v10 v11 v12 (.int v13) (.int v14) (.int v15))) (
 .row []))) (
 cond (v9 = 1) (
 cond ((sl (Dl v10) 0).toInt = 1) (
 cond ((sl (Dl v10) 1).toBool) (
 cond ((sl (Dl v11) 0).toInt = 1) (
 cond ((sl (Dl v11) 1).toBool) (
 .row [.int 1, (.bool (!D.strEq v11 v3))]) (
 .row [.int 1, (.bool false)])) (
 .row [])) (
 .row [.int 1, (.bool false)])) (
 .row [])) (
 cond (v9 = 2) (
 cond ((sl (Dl v10) 0).toInt = 1) (
 cond ((sl (Dl v10) 1).toBool) (
 cond ((sl (Dl v11) 0).toInt = 1) (
 cond ((sl (Dl v11) 1).toBool) (
 .row [.int 1, (.bool (!D.strEq v11 v3))]) (
 .row [.int 1, (.bool false)])) (
 .row [])) (
 .row [.int 1, (.bool false)])) (
 .row [])) (
 cond (v9 = 3) (
 cond (eqC v10 0 0) (
 cond (eqC v11 0 0) (
 cond (v1 < 0) (
 .row []) (
 cond (v1 < len v4) (
 .row [.int 1, (.bool (decide (0 < (cl v4 v1 2).toInt)))]) (
 .row []))) (
 .row [.int 1, (.bool false)])) (
 .row [.int 1, (.bool false)])) (
 cond (v9 = 4) (
 cond (eqC v10 0 0) (
 .row [.int 1, (.bool (eqC v11 0 0))]) (
 .row [.int 1, (.bool false)])) (
 .row [.int 1, (.bool false)]))))) := gw rfl rfl (cL (cL rfl (cL (cg (aE rfl (aE rfl (aE (qE rfl rfl) (aE rfl (aE rfl (aE rfl (aE (qE rfl rfl) (aE (qE rfl rfl) (qE rfl rfl))))))))) rfl rfl) rfl)) (cQ (cQ (cg rfl (cQ rfl rfl) rfl) rfl) (cQ (cQ (cg rfl (cQ rfl rfl) rfl) rfl) (cQ rfl (cQ rfl rfl)))))
theorem gH (v0 v1 v2 v3 : D) : MA v0 v1 v2 v3 =
  cond ((sl (Dl v0) 0).toInt = 1) (
 cond ((sl (Dl v0) 1).toBool) (
 cond (4 < (len v2 : Int)) (
 .row [.int 1, (.int 4), (.int 291)]) (
 Jp (.int 0) v0 v1 v2 v3)) (
 .row [.int 1, (.int 0), (.int 290)])) (
 .row []) := gw rfl rfl (cQ rfl rfl)
theorem Zo (v0 : Int) (v1 v2 v3 v4 : D) : Jp (.int v0) v1 v2 v3 v4 =
  cond (v0 < len v3) (
 cond (v0 < 0) (
 .row []) (
 cond ((sl (Dl (cl v3 v0 0)) 0).toInt = 1) (
 cond ((sl (Dl (cl v3 v0 0)) 1).toBool) (
 cond ((sl (HU v1 v2 v3 v4 (cl v3 v0 0)) 0).toInt = 1) (
 cond ((sl (HU v1 v2 v3 v4 (cl v3 v0 0)) 1).toInt = v0) (
 cond ((cl v3 v0 1).toInt < 1) (
 .row [.int 1, (.int v0), (.int 291)]) (
 cond (1000 < (cl v3 v0 1).toInt) (
 .row [.int 1, (.int v0), (.int 291)]) (
 Jp (.int (IntKind.wrap .i64 (v0 + 1))) v1 v2 v3 v4))) (
 .row [.int 1, (.int v0), (.int 291)])) (
 .row [])) (
 .row [.int 1, (.int v0), (.int 291)])) (
 .row []))) (
 cond ((len v2 : Int) = 0) (
 .row [.int 1, (.int 0), (.int 292)]) (
 cond (24 < (len v2 : Int)) (
 .row [.int 1, (.int 24), (.int 292)]) (
 Jg (.int 0) v1 v2 v3 v4))) := gw rfl rfl (cL (cL rfl (cQ (cg rfl (cQ (cQ (cL rfl (cL rfl rfl)) rfl) rfl) rfl) rfl)) (cQ rfl rfl))
theorem ZB (v0 : Int) (v1 v2 v3 v4 : D) : Jg (.int v0) v1 v2 v3 v4 =
  cond (v0 < len v2) (
 cond (v0 < 0) (
 .row []) (
 cond ((sl (Dl (cl v2 v0 0)) 0).toInt = 1) (
 cond ((sl (Dl (cl v2 v0 0)) 1).toBool) (
 cond ((sl (G8 v1 v2 v3 v4 (cl v2 v0 0)) 0).toInt = 1) (
 cond ((sl (G8 v1 v2 v3 v4 (cl v2 v0 0)) 1).toInt = v0) (
 cond ((cl v2 v0 2).toInt < 0) (
 .row [.int 1, (.int v0), (.int 292)]) (
 cond (1048576 < (cl v2 v0 2).toInt) (
 .row [.int 1, (.int v0), (.int 292)]) (
 Jg (.int (IntKind.wrap .i64 (v0 + 1))) v1 v2 v3 v4))) (
 .row [.int 1, (.int v0), (.int 292)])) (
 .row [])) (
 .row [.int 1, (.int v0), (.int 292)])) (
 .row []))) (
 cond (80 < (len v4 : Int)) (
 .row [.int 1, (.int 80), (.int 293)]) (
 JL (.int 0) v1 v2 v3 v4)) := gw rfl rfl (cL (cL rfl (cQ (cg rfl (cQ (cQ (cL rfl (cL rfl rfl)) rfl) rfl) rfl) rfl)) rfl)
theorem ax (v0 : Int) (v1 v2 v3 v4 : D) : JL (.int v0) v1 v2 v3 v4 =
  cond (v0 < len v4) (
 cond ((sl (Sz v1 v2 v3 v4 (.int v0)) 0).toInt = 1) (
 cond ((sl (Sz v1 v2 v3 v4 (.int v0)) 1).toBool) (
 JL (.int (IntKind.wrap .i64 (v0 + 1))) v1 v2 v3 v4) (
 .row [.int 1, (.int v0), (.int 293)])) (
 .row [])) (
 .row [.int 1, (.int 0), (.int 0)]) := gw rfl rfl (cL (cQ rfl rfl) rfl)
theorem iW (v0 v1 v2 v3 v4 : D) : BM v0 v1 v2 v3 v4 =
 Td v4 (.int 0) v0 v1 v2 v3 := gw rfl rfl rfl
theorem i6 (v0 : D) (v1 : Int) (v2 v3 v4 v5 : D) : Td v0 (.int v1) v2 v3 v4 v5 =
  cond (v1 < len v3) (
 cond (v1 < 0) (
 .row []) (
 cond (D.strEq (cl v3 v1 0) v0) (
 .row [.int 1, (.int v1)]) (
 Td v0 (.int (IntKind.wrap .i64 (v1 + 1))) v2 v3 v4 v5))) (
 .row [.int 1, (.int (-1))]) := gw rfl rfl rfl
theorem jD (v0 v1 v2 v3 v4 : D) : BC v0 v1 v2 v3 v4 =
 R8 v4 (.int 0) v0 v1 v2 v3 := gw rfl rfl rfl
theorem eS (v0 : D) (v1 : Int) (v2 v3 v4 v5 : D) : R8 v0 (.int v1) v2 v3 v4 v5 =
  cond (v1 < len v4) (
 cond (v1 < 0) (
 .row []) (
 cond (D.strEq (cl v4 v1 0) v0) (
 .row [.int 1, (.int v1)]) (
 R8 v0 (.int (IntKind.wrap .i64 (v1 + 1))) v2 v3 v4 v5))) (
 .row [.int 1, (.int (-1))]) := gw rfl rfl rfl
theorem gJ (v0 v1 v2 v3 v4 v5 v6 v7 v8 v9 : D) : Nu v0 v1 v2 v3 v4 v5 v6 v7 v8 v9 =
  cond ((sl (MA v0 v1 v2 v3) 0).toInt = 1) (
 cond ((sl (MA v0 v1 v2 v3) 2).toInt = 0) (
 cond ((sl (MA v4 v5 v6 v7) 0).toInt = 1) (
 cond ((sl (MA v4 v5 v6 v7) 2).toInt = 0) (
 cond (24 < (len v8 : Int)) (
 .row [.int 1, (.int 24), (.int 490)]) (
 HP (.int 0) v0 v1 v2 v3 v4 v5 v6 v7 v8 v9)) (
 .row [.int 1, (.int 0), (.int 2)])) (
 .row [])) (
 .row [.int 1, (.int 0), (.int 2)])) (
 .row []) := gw rfl rfl (cQ (cQ (cQ (cQ rfl rfl) rfl) rfl) rfl)
theorem Zt (v0 : Int) (v1 v2 v3 v4 v5 v6 v7 v8 v9 v10 : D) : HP (.int v0) v1 v2 v3 v4 v5 v6 v7 v8 v9 v10 =
  cond (v0 < len v9) (
 cond (v0 < 0) (
 .row []) (
 cond ((sl (BM v1 v2 v3 v4 (cl v9 v0 0)) 0).toInt = 1) (
 cond ((sl (BM v1 v2 v3 v4 (cl v9 v0 0)) 1).toInt < 0) (
 Gb (.int v0) (.bool true) (.int 0) v1 v2 v3 v4 v5 v6 v7 v8 v9 v10) (
 cond ((sl (BM v5 v6 v7 v8 (cl v9 v0 1)) 0).toInt = 1) (
 Gb (.int v0) (.bool (decide ((sl (BM v5 v6 v7 v8 (cl v9 v0 1)) 1).toInt < 0))) (.int 0) v1 v2 v3 v4 v5 v6 v7 v8 v9 v10) (
 .row []))) (
 .row []))) (
 cond (4 < (len v10 : Int)) (
 .row [.int 1, (.int 4), (.int 491)]) (
 G4 (.int 0) v1 v2 v3 v4 v5 v6 v7 v8 v9 v10)) := gw rfl rfl (cL (cL rfl (cQ (cL rfl (cQ rfl rfl)) rfl)) rfl)
theorem Zz (v0 : Int) (v1 : Bool) (v2 : Int) (v3 v4 v5 v6 v7 v8 v9 v10 v11 v12 : D) : Gb (.int v0) (.bool v1) (.int v2) v3 v4 v5 v6 v7 v8 v9 v10 v11 v12 =
  cond (v2 < v0) (
 cond (v1) (
 Gb (.int v0) (.bool true) (.int (IntKind.wrap .i64 (v2 + 1))) v3 v4 v5 v6 v7 v8 v9 v10 v11 v12) (
 cond (v2 < 0) (
 .row []) (
 cond (v2 < len v11) (
 cond (v0 < 0) (
 .row []) (
 cond (v0 < len v11) (
 Gb (.int v0) (.bool (D.strEq (cl v11 v2 0) (cl v11 v0 0))) (.int (IntKind.wrap .i64 (v2 + 1))) v3 v4 v5 v6 v7 v8 v9 v10 v11 v12) (
 .row []))) (
 .row [])))) (
 cond (v1) (
 .row [.int 1, (.int v0), (.int 490)]) (
 HP (.int (IntKind.wrap .i64 (v0 + 1))) v3 v4 v5 v6 v7 v8 v9 v10 v11 v12)) := gw rfl rfl rfl
theorem Z5 (v0 : Int) (v1 v2 v3 v4 v5 v6 v7 v8 v9 v10 : D) : G4 (.int v0) v1 v2 v3 v4 v5 v6 v7 v8 v9 v10 =
  cond (v0 < len v10) (
 cond (v0 < 0) (
 .row []) (
 cond ((sl (BC v5 v6 v7 v8 (cl v10 v0 0)) 0).toInt = 1) (
 cond ((sl (BC v5 v6 v7 v8 (cl v10 v0 0)) 1).toInt < 0) (
 DN (.int v0) (.bool true) (.int 0) v1 v2 v3 v4 v5 v6 v7 v8 v9 v10 (cl v10 v0 0) (cl v10 v0 1) (cl v10 v0 2)) (
 cond (eqC (cl v10 v0 1) 0 0) (
 cond (1000 < (cl v10 v0 2).toInt) (
 DN (.int v0) (.bool true) (.int 0) v1 v2 v3 v4 v5 v6 v7 v8 v9 v10 (cl v10 v0 0) (cl v10 v0 1) (cl v10 v0 2)) (
 DN (.int v0) (.bool (decide ((cl v10 v0 2).toInt < (-1000)))) (.int 0) v1 v2 v3 v4 v5 v6 v7 v8 v9 v10 (cl v10 v0 0) (cl v10 v0 1) (cl v10 v0 2))) (
 cond ((sl (BC v1 v2 v3 v4 (cl v10 v0 1)) 0).toInt = 1) (
 cond ((sl (BC v1 v2 v3 v4 (cl v10 v0 1)) 1).toInt < 0) (
 DN (.int v0) (.bool true) (.int 0) v1 v2 v3 v4 v5 v6 v7 v8 v9 v10 (cl v10 v0 0) (cl v10 v0 1) (cl v10 v0 2)) (
 cond (1000 < (cl v10 v0 2).toInt) (
 DN (.int v0) (.bool true) (.int 0) v1 v2 v3 v4 v5 v6 v7 v8 v9 v10 (cl v10 v0 0) (cl v10 v0 1) (cl v10 v0 2)) (
 DN (.int v0) (.bool (decide ((cl v10 v0 2).toInt < (-1000)))) (.int 0) v1 v2 v3 v4 v5 v6 v7 v8 v9 v10 (cl v10 v0 0) (cl v10 v0 1) (cl v10 v0 2)))) (
 .row [])))) (
 .row []))) (
 .row [.int 1, (.int 0), (.int 0)]) := gw rfl rfl (cL (cL rfl (cQ (cL rfl (cg rfl (cL rfl rfl) (cQ (cL rfl (cL rfl rfl)) rfl))) rfl)) rfl)
theorem aB (v0 : Int) (v1 : Bool) (v2 : Int) (v3 v4 v5 v6 v7 v8 v9 v10 v11 v12 v13 v14 : D) (v15 : Int) : DN (.int v0) (.bool v1) (.int v2) v3 v4 v5 v6 v7 v8 v9 v10 v11 v12 v13 v14 (.int v15) =
  cond (v2 < v0) (
 cond (v1) (
 DN (.int v0) (.bool true) (.int (IntKind.wrap .i64 (v2 + 1))) v3 v4 v5 v6 v7 v8 v9 v10 v11 v12 v13 v14 (.int v15)) (
 cond (v2 < 0) (
 .row []) (
 cond (v2 < len v12) (
 DN (.int v0) (.bool (D.strEq (cl v12 v2 0) v13)) (.int (IntKind.wrap .i64 (v2 + 1))) v3 v4 v5 v6 v7 v8 v9 v10 v11 v12 v13 v14 (.int v15)) (
 .row [])))) (
 cond (v1) (
 .row [.int 1, (.int v0), (.int 491)]) (
 G4 (.int (IntKind.wrap .i64 (v0 + 1))) v3 v4 v5 v6 v7 v8 v9 v10 v11 v12)) := gw rfl rfl rfl
theorem j9 (v0 v1 v2 v3 : D) (v4 : Bool) : Se v0 v1 v2 v3 (.bool v4) =
  cond (D.strEq v0 v2) (
 cond ((len v1 : Int) = (len v3 : Int)) (
 JC (.int 0) v3 v0 v1 v2 (.bool v4)) (
 .row [.int 1, (.bool false)])) (
 .row [.int 1, (.bool false)]) := gw rfl rfl (cg rfl (cQ rfl rfl) rfl)
theorem ZV (v0 : Int) (v1 v2 v3 v4 : D) (v5 : Bool) : JC (.int v0) v1 v2 v3 v4 (.bool v5) =
  cond (v0 < len v3) (
 cond (v0 < 0) (
 .row []) (
 cond (v0 < len v1) (
 cond ((cl v3 v0 0).toInt = (cl v1 v0 0).toInt) (
 JC (.int (IntKind.wrap .i64 (v0 + 1))) v1 v2 v3 v4 (.bool v5)) (
 .row [.int 1, (.bool false)])) (
 .row []))) (
 .row [.int 1, (.bool true)]) := gw rfl rfl (cL (cL rfl (cL (cQ rfl rfl) rfl)) rfl)
theorem kj (v0 : D) (v1 : Bool) (v2 v3 : D) (v4 : Bool) : S6 v0 (.bool v1) v2 v3 (.bool v4) =
 JS v0 (.bool v1) (.int 0) v3 v2 (.bool v4) := gw rfl rfl rfl
theorem ZJ (v0 : D) (v1 : Bool) (v2 : Int) (v3 v4 : D) (v5 : Bool) : JS v0 (.bool v1) (.int v2) v3 v4 (.bool v5) =
  cond (v2 < len v0) (
 cond (v2 < 0) (
 .row []) (
 cond ((sl (Se (cl v0 v2 0) (cl v0 v2 1) v4 v3 (.bool v5)) 0).toInt = 1) (
 cond ((sl (Se (cl v0 v2 0) (cl v0 v2 1) v4 v3 (.bool v5)) 1).toBool) (
 .row [.int 1, (.bool true)]) (
 JS v0 (.bool v1) (.int (IntKind.wrap .i64 (v2 + 1))) v3 v4 (.bool v5))) (
 .row []))) (
 .row [.int 1, (.bool false)]) := gw rfl rfl (cL (cL rfl (cQ rfl rfl)) rfl)
theorem pi (v0 v1 v2 v3 v4 v5 : D) (v6 : Int) : C4 v0 v1 v2 v3 v4 v5 (.int v6) =
  cond (v6 < 0) (
 .row []) (
 cond (v6 < len v3) (
 cond ((len v5 : Int) < 1048576) (
 cond ((sl (BC v0 v1 v2 v3 (cl v3 v6 5)) 0).toInt = 1) (
 cond ((sl (BC v0 v1 v2 v3 (cl v3 v6 5)) 1).toInt < 0) (
 .row [.int 1, (cl v3 v6 1), (ct AB v5), (.bool (decide ((len v5 : Int) = 0)))]) (
 cond ((sl (BC v0 v1 v2 v3 (cl v3 v6 5)) 1).toInt < len (ct AB v5)) (
 .row [.int 1, (cl v3 v6 1), (upd (ct AB v5) (sl (BC v0 v1 v2 v3 (cl v3 v6 5)) 1).toInt 0 (.int (IntKind.wrap .i64 ((cl (ct AB v5) (sl (BC v0 v1 v2 v3 (cl v3 v6 5)) 1).toInt 0).toInt + (cl v3 v6 8).toInt)))), (.bool (decide ((len v5 : Int) = 0)))]) (
 .row []))) (
 .row [])) (
 .row [])) (
 .row [])) := gw rfl rfl (cL rfl (cL (cL (cQ (cL rfl (cL rfl rfl)) rfl) rfl) rfl))
theorem jm (v0 v1 v2 v3 v4 v5 : D) : BV v0 v1 v2 v3 v4 v5 =
 EJ AB (.bool true) (.int 0) v0 v1 v2 v3 v4 v5 := gw rfl rfl rfl
theorem ZS (v0 : D) (v1 : Bool) (v2 : Int) (v3 v4 v5 v6 v7 v8 : D) : EJ v0 (.bool v1) (.int v2) v3 v4 v5 v6 v7 v8 =
  cond (v2 < len v6) (
 cond (v2 < 0) (
 .row []) (
 cond ((sl (BC v3 v4 v5 v6 (cl v6 v2 5)) 0).toInt = 1) (
 cond (D.strEq (cl v6 v2 0) v7) (
 cond ((sl (BC v3 v4 v5 v6 (cl v6 v2 5)) 1).toInt < 0) (
 cond ((len v0 : Int) < 1073741824) (
 EJ (ad v0 (.row [(.int v2)])) (.bool false) (.int (IntKind.wrap .i64 (v2 + 1))) v3 v4 v5 v6 v7 v8) (
 .row [])) (
 cond ((sl (BC v3 v4 v5 v6 (cl v6 v2 5)) 1).toInt < len v8) (
 cond ((cl v8 (sl (BC v3 v4 v5 v6 (cl v6 v2 5)) 1).toInt 0).toInt < (cl v6 v2 6).toInt) (
 EJ v0 (.bool v1) (.int (IntKind.wrap .i64 (v2 + 1))) v3 v4 v5 v6 v7 v8) (
 cond ((cl v6 v2 7).toInt < (cl v8 (sl (BC v3 v4 v5 v6 (cl v6 v2 5)) 1).toInt 0).toInt) (
 EJ v0 (.bool v1) (.int (IntKind.wrap .i64 (v2 + 1))) v3 v4 v5 v6 v7 v8) (
 cond ((len v0 : Int) < 1073741824) (
 EJ (ad v0 (.row [(.int v2)])) (.bool false) (.int (IntKind.wrap .i64 (v2 + 1))) v3 v4 v5 v6 v7 v8) (
 .row [])))) (
 .row []))) (
 EJ v0 (.bool v1) (.int (IntKind.wrap .i64 (v2 + 1))) v3 v4 v5 v6 v7 v8)) (
 .row []))) (
 .row [.int 1, v0, (.bool v1)]) := gw rfl rfl (cL (cL rfl (cQ (cg rfl (cL (cL rfl rfl) (cL (cL rfl (cL rfl (cL rfl rfl))) rfl)) rfl) rfl)) rfl)
theorem ix (v0 v1 v2 v3 : D) : KW v0 v1 v2 v3 =
  cond (0 < (len v1 : Int)) (
 cond ((len v2 : Int) < 1048577) (
 L0 (ad Aw (.row [(cl v1 0 0), (ni (rp (len v2 : Int) (.row [(.int 0)])) false)])) (.bool false) (.int 0) v0 v1 v2 v3 AB) (
 .row [])) (
 .row []) := gw rfl rfl (cL (cL rfl rfl) rfl)
theorem ab (v0 : D) (v1 : Bool) (v2 : Int) (v3 v4 v5 v6 v7 : D) : L0 v0 (.bool v1) (.int v2) v3 v4 v5 v6 v7 =
  cond (v2 < len v0) (
 cond (v2 < 0) (
 .row []) (
 cond ((sl (BV v3 v4 v5 v6 (cl v0 v2 0) (cl v0 v2 1)) 0).toInt = 1) (
 LS v0 (.bool v1) (.int v2) (sl (BV v3 v4 v5 v6 (cl v0 v2 0) (cl v0 v2 1)) 1) (sl (BV v3 v4 v5 v6 (cl v0 v2 0) (cl v0 v2 1)) 2) (.int 0) v3 v4 v5 v6 AB) (
 .row []))) (
 .row [.int 1, v0, (.bool v1), (.bool true)]) := gw rfl rfl (cL (cL rfl (cQ rfl rfl)) rfl)
theorem Zv (v0 : D) (v1 : Bool) (v2 : Int) (v3 : D) (v4 : Bool) (v5 : Int) (v6 v7 v8 v9 v10 : D) {F0 : D} (h0 : C4 v6 v7 v8 v9 (cl v0 v2 0) (cl v0 v2 1) (cl v3 v5 0) = F0) : LS v0 (.bool v1) (.int v2) v3 (.bool v4) (.int v5) v6 v7 v8 v9 v10 =
  cond (v5 < len v3) (
 cond (v2 < 0) (
 .row []) (
 cond (v2 < len v0) (
 cond (v5 < 0) (
 .row []) (
 cond ((sl F0 0).toInt = 1) (
 cond ((sl (S6 v0 (.bool v1) (sl F0 1) (sl F0 2) (sl F0 3)) 0).toInt = 1) (
 cond ((sl (S6 v0 (.bool v1) (sl F0 1) (sl F0 2) (sl F0 3)) 1).toBool) (
 cond (2000 < (len v0 : Int)) (
 .row [.int 1, AB, (.bool true), (.bool false)]) (
 LS v0 (.bool v1) (.int v2) v3 (.bool v4) (.int (IntKind.wrap .i64 (v5 + 1))) v6 v7 v8 v9 AB)) (
 cond ((len v0 : Int) < 1073741824) (
 cond (2000 < (len (ad v0 (.row [(sl F0 1), (ni (sl F0 2) ((sl F0 3).toBool))])) : Int)) (
 .row [.int 1, AB, (.bool true), (.bool false)]) (
 LS (ad v0 (.row [(sl F0 1), (ni (sl F0 2) ((sl F0 3).toBool))])) (.bool false) (.int v2) v3 (.bool v4) (.int (IntKind.wrap .i64 (v5 + 1))) v6 v7 v8 v9 AB)) (
 .row []))) (
 .row [])) (
 .row []))) (
 .row []))) (
 L0 v0 (.bool v1) (.int (IntKind.wrap .i64 (v2 + 1))) v6 v7 v8 v9 AB) := by
  subst h0; exact gw rfl rfl (cL (cL rfl (cL (cL rfl (cQ (cQ (cg rfl (cL rfl rfl) (cL (cL rfl rfl) rfl)) rfl) rfl)) rfl)) rfl)
theorem gh (v0 v1 v2 v3 v4 v5 : D) (v6 : Bool) : Sl v0 v1 v2 v3 v4 v5 (.bool v6) =
  cond ((sl (BM v0 v1 v2 v3 v4) 0).toInt = 1) (
 cond ((sl (BM v0 v1 v2 v3 v4) 1).toInt < 0) (
 .row [.int 1, (.bool false)]) (
 cond ((len v5 : Int) = (len v2 : Int)) (
 Is (.int 0) v5 v0 v1 v2 v3 v4 (.bool v6)) (
 .row [.int 1, (.bool false)]))) (
 .row []) := gw rfl rfl (cQ (cL rfl (cQ rfl rfl)) rfl)
theorem Z4 (v0 : Int) (v1 v2 v3 v4 v5 v6 : D) (v7 : Bool) : Is (.int v0) v1 v2 v3 v4 v5 v6 (.bool v7) =
  cond (v0 < len v1) (
 cond (v0 < 0) (
 .row []) (
 cond ((cl v1 v0 0).toInt < 0) (
 .row [.int 1, (.bool false)]) (
 cond (v0 < len v4) (
 cond ((cl v4 v0 1).toInt < (cl v1 v0 0).toInt) (
 .row [.int 1, (.bool false)]) (
 Is (.int (IntKind.wrap .i64 (v0 + 1))) v1 v2 v3 v4 v5 v6 (.bool v7))) (
 .row [])))) (
 .row [.int 1, (.bool true)]) := gw rfl rfl rfl
theorem ek (v0 v1 v2 v3 v4 v5 v6 v7 v8 v9 v10 v11 : D) : M1 v0 v1 v2 v3 v4 v5 v6 v7 v8 v9 v10 v11 =
  cond ((len v2 : Int) < 1048577) (
 Gx (.bool false) (.int 0) v0 v1 v2 v3 v4 v5 v6 v7 v8 v9 v10 v11 (Bs 0 0) (rp (len v2 : Int) (.row [(.int 0)]))) (
 .row []) := gw rfl rfl (cL rfl rfl)
theorem af (v0 : Bool) (v1 : Int) (v2 v3 v4 v5 v6 v7 v8 v9 v10 v11 v12 v13 v14 v15 : D) : Gx (.bool v0) (.int v1) v2 v3 v4 v5 v6 v7 v8 v9 v10 v11 v12 v13 v14 v15 =
  cond (v1 < len v10) (
 cond (v1 < 0) (
 .row []) (
 cond (D.strEq (cl v10 v1 0) v12) (
 Gx (.bool true) (.int (IntKind.wrap .i64 (v1 + 1))) v2 v3 v4 v5 v6 v7 v8 v9 v10 v11 v12 v13 (cl v10 v1 1) v15) (
 Gx (.bool v0) (.int (IntKind.wrap .i64 (v1 + 1))) v2 v3 v4 v5 v6 v7 v8 v9 v10 v11 v12 v13 v14 v15))) (
 cond (v0) (
 Ga (.int 0) v2 v3 v4 v5 v6 v7 v8 v9 v10 v11 v12 v13 v14 v15) (
 .row [.int 1, (Bs 0 0), AB, (.bool true), (.int 9)])) := gw rfl rfl rfl
theorem aq (v0 : Int) (v1 v2 v3 v4 v5 v6 v7 v8 v9 v10 v11 v12 v13 v14 : D) : Ga (.int v0) v1 v2 v3 v4 v5 v6 v7 v8 v9 v10 v11 v12 v13 v14 =
  cond (v0 < len v10) (
 cond (v0 < 0) (
 .row []) (
 cond ((sl (BC v5 v6 v7 v8 (cl v10 v0 1)) 0).toInt = 1) (
 cond ((sl (BC v5 v6 v7 v8 (cl v10 v0 1)) 1).toInt < 0) (
 cond ((sl (BC v1 v2 v3 v4 (cl v10 v0 0)) 0).toInt = 1) (
 cond ((sl (BC v1 v2 v3 v4 (cl v10 v0 0)) 1).toInt < 0) (
 .row []) (
 cond ((sl (BC v1 v2 v3 v4 (cl v10 v0 0)) 1).toInt < len v14) (
 Ga (.int (IntKind.wrap .i64 (v0 + 1))) v1 v2 v3 v4 v5 v6 v7 v8 v9 v10 v11 v12 v13 (upd v14 (sl (BC v1 v2 v3 v4 (cl v10 v0 0)) 1).toInt 0 (cl v10 v0 2))) (
 .row []))) (
 .row [])) (
 cond ((sl (BC v5 v6 v7 v8 (cl v10 v0 1)) 1).toInt < len v12) (
 cond ((sl (BC v1 v2 v3 v4 (cl v10 v0 0)) 0).toInt = 1) (
 cond ((sl (BC v1 v2 v3 v4 (cl v10 v0 0)) 1).toInt < 0) (
 .row []) (
 cond ((sl (BC v1 v2 v3 v4 (cl v10 v0 0)) 1).toInt < len v14) (
 Ga (.int (IntKind.wrap .i64 (v0 + 1))) v1 v2 v3 v4 v5 v6 v7 v8 v9 v10 v11 v12 v13 (upd v14 (sl (BC v1 v2 v3 v4 (cl v10 v0 0)) 1).toInt 0 (.int (IntKind.wrap .i64 ((cl v10 v0 2).toInt + (cl v12 (sl (BC v5 v6 v7 v8 (cl v10 v0 1)) 1).toInt 0).toInt))))) (
 .row []))) (
 .row [])) (
 .row []))) (
 .row []))) (
 cond ((sl (Sl v1 v2 v3 v4 v13 v14 (.bool false)) 0).toInt = 1) (
 cond ((sl (Sl v1 v2 v3 v4 v13 v14 (.bool false)) 1).toBool) (
 .row [.int 1, v13, v14, (.bool false), (.int 0)]) (
 .row [.int 1, (Bs 0 0), AB, (.bool true), (.int 3)])) (
 .row [])) := gw rfl rfl (cL (cL rfl (cQ (cL (cQ rfl rfl) (cL (cQ rfl rfl) rfl)) rfl)) (cQ rfl rfl))
theorem Zp (v0 v1 v2 v3 : D) : FQ v0 v1 v2 v3 =
  cond (D.strEq v0 v2) (
 cond ((len v1 : Int) = (len v3 : Int)) (
 JB (.int 0) v0 v1 v2 v3) (
 .row [.int 1, (.bool false)])) (
 .row [.int 1, (.bool false)]) := gw rfl rfl (cg rfl (cQ rfl rfl) rfl)
theorem WR (v0 : Int) (v1 v2 v3 v4 : D) : JB (.int v0) v1 v2 v3 v4 =
  cond (v0 < len v2) (
 cond (v0 < 0) (
 .row []) (
 cond (v0 < len v4) (
 cond ((cl v2 v0 0).toInt = (cl v4 v0 0).toInt) (
 JB (.int (IntKind.wrap .i64 (v0 + 1))) v1 v2 v3 v4) (
 .row [.int 1, (.bool false)])) (
 .row []))) (
 .row [.int 1, (.bool true)]) := gw rfl rfl (cL (cL rfl (cL (cQ rfl rfl) rfl)) rfl)
theorem ot (v0 : D) (v1 : Bool) (v2 : D) (v3 : Bool) : M0 v0 (.bool v1) v2 (.bool v3) =
 MU v0 (.bool v1) v2 (.bool v3) (.int 0) := gw rfl rfl rfl
theorem Z3 (v0 : D) (v1 : Bool) (v2 : D) (v3 : Bool) (v4 : Int) : MU v0 (.bool v1) v2 (.bool v3) (.int v4) =
  cond (v4 < len v2) (
 FD v0 (.bool v1) v2 (.bool v3) (.int v4) (.bool false) (.int 0)) (
 .row [.int 1, v0, (.bool v1)]) := gw rfl rfl rfl
theorem Z0 (v0 : D) (v1 : Bool) (v2 : D) (v3 : Bool) (v4 : Int) (v5 : Bool) (v6 : Int) : FD v0 (.bool v1) v2 (.bool v3) (.int v4) (.bool v5) (.int v6) =
  cond (v6 < len v0) (
 cond (v5) (
 FD v0 (.bool v1) v2 (.bool v3) (.int v4) (.bool true) (.int (IntKind.wrap .i64 (v6 + 1)))) (
 cond (v6 < 0) (
 .row []) (
 cond (v4 < 0) (
 .row []) (
 cond (v4 < len v2) (
 cond ((sl (FQ (cl v0 v6 0) (cl v0 v6 1) (cl v2 v4 0) (cl v2 v4 1)) 0).toInt = 1) (
 cond ((sl (FQ (cl v0 v6 0) (cl v0 v6 1) (cl v2 v4 0) (cl v2 v4 1)) 1).toBool) (
 cond ((sl (FQ (cl v0 v6 2) (cl v0 v6 3) (cl v2 v4 2) (cl v2 v4 3)) 0).toInt = 1) (
 FD v0 (.bool v1) v2 (.bool v3) (.int v4) (sl (FQ (cl v0 v6 2) (cl v0 v6 3) (cl v2 v4 2) (cl v2 v4 3)) 1) (.int (IntKind.wrap .i64 (v6 + 1)))) (
 .row [])) (
 FD v0 (.bool v1) v2 (.bool v3) (.int v4) (.bool false) (.int (IntKind.wrap .i64 (v6 + 1))))) (
 .row [])) (
 .row []))))) (
 cond (v5) (
 MU v0 (.bool v1) v2 (.bool v3) (.int (IntKind.wrap .i64 (v4 + 1)))) (
 cond (v4 < 0) (
 .row []) (
 cond (v4 < len v2) (
 cond ((len v0 : Int) < 1073741824) (
 MU (ad v0 (.row [(cl v2 v4 0), (cl v2 v4 1), (cl v2 v4 2), (cl v2 v4 3)])) (.bool false) v2 (.bool v3) (.int (IntKind.wrap .i64 (v4 + 1)))) (
 .row [])) (
 .row [])))) := gw rfl rfl (cL (cg rfl rfl (cL rfl (cL rfl (cL (cQ (cg rfl (cQ rfl rfl) rfl) rfl) rfl)))) (cg rfl rfl (cL rfl (cL (cL rfl rfl) rfl))))
theorem eI (v0 v1 v2 v3 v4 : D) (v5 v6 : Bool) : Dk v0 v1 v2 v3 v4 (.bool v5) (.bool v6) =
 If v4 (.bool v5) (.bool v6) AB (.bool true) (.int 0) v0 v1 v2 v3 := gw rfl rfl rfl
theorem ak (v0 : D) (v1 v2 : Bool) (v3 : D) (v4 : Bool) (v5 : Int) (v6 v7 v8 v9 : D) : If v0 (.bool v1) (.bool v2) v3 (.bool v4) (.int v5) v6 v7 v8 v9 =
  cond (v5 < len v0) (
 cond (v5 < 0) (
 .row []) (
 cond ((cl v0 v5 0).toInt < 0) (
 .row []) (
 cond ((cl v0 v5 0).toInt < len v9) (
 cond ((cl v9 (cl v0 v5 0).toInt 2).toInt = 2) (
 cond (v2) (
 cond ((len v3 : Int) < 1073741824) (
 If v0 (.bool v1) (.bool v2) (ad v3 (.row [(cl v0 v5 0)])) (.bool false) (.int (IntKind.wrap .i64 (v5 + 1))) v6 v7 v8 v9) (
 .row [])) (
 If v0 (.bool v1) (.bool v2) v3 (.bool v4) (.int (IntKind.wrap .i64 (v5 + 1))) v6 v7 v8 v9)) (
 cond (v2) (
 If v0 (.bool v1) (.bool v2) v3 (.bool v4) (.int (IntKind.wrap .i64 (v5 + 1))) v6 v7 v8 v9) (
 cond ((len v3 : Int) < 1073741824) (
 If v0 (.bool v1) (.bool v2) (ad v3 (.row [(cl v0 v5 0)])) (.bool false) (.int (IntKind.wrap .i64 (v5 + 1))) v6 v7 v8 v9) (
 .row [])))) (
 .row [])))) (
 .row [.int 1, v3, (.bool v4)]) := gw rfl rfl (cL (cL rfl (cL rfl (cL (cQ (cg rfl (cL rfl rfl) rfl) (cg rfl rfl (cL rfl rfl))) rfl))) rfl)
theorem gk (v0 v1 v2 v3 v4 : D) (v5 : Bool) (v6 v7 v8 v9 v10 : D) (v11 : Bool) : Jj v0 v1 v2 v3 v4 (.bool v5) v6 v7 v8 v9 v10 (.bool v11) =
 OQ v4 (.bool v5) v10 (.bool v11) (.int 0) v0 v1 v2 v3 v6 v7 v8 v9 := gw rfl rfl rfl
theorem au (v0 : D) (v1 : Bool) (v2 : D) (v3 : Bool) (v4 : Int) (v5 v6 v7 v8 v9 v10 v11 v12 : D) : OQ v0 (.bool v1) v2 (.bool v3) (.int v4) v5 v6 v7 v8 v9 v10 v11 v12 =
  cond (v4 < len v0) (
 Et v0 (.bool v1) v2 (.bool v3) (.int v4) (.bool false) (.int 0) v5 v6 v7 v8 v9 v10 v11 v12) (
 .row [.int 1, (.int (-1))]) := gw rfl rfl rfl
theorem Zr (v0 : D) (v1 : Bool) (v2 : D) (v3 : Bool) (v4 : Int) (v5 : Bool) (v6 : Int) (v7 v8 v9 v10 v11 v12 v13 v14 : D) : Et v0 (.bool v1) v2 (.bool v3) (.int v4) (.bool v5) (.int v6) v7 v8 v9 v10 v11 v12 v13 v14 =
  cond (v6 < len v2) (
 cond (v5) (
 Et v0 (.bool v1) v2 (.bool v3) (.int v4) (.bool true) (.int (IntKind.wrap .i64 (v6 + 1))) v7 v8 v9 v10 v11 v12 v13 v14) (
 cond (v4 < 0) (
 .row []) (
 cond (v4 < len v0) (
 cond ((cl v0 v4 0).toInt < 0) (
 .row []) (
 cond ((cl v0 v4 0).toInt < len v10) (
 cond (v6 < 0) (
 .row []) (
 cond ((cl v2 v6 0).toInt < 0) (
 .row []) (
 cond ((cl v2 v6 0).toInt < len v14) (
 cond ((cl v10 (cl v0 v4 0).toInt 2).toInt = (cl v14 (cl v2 v6 0).toInt 2).toInt) (
 cond (D.strEq (cl v10 (cl v0 v4 0).toInt 3) (cl v14 (cl v2 v6 0).toInt 3)) (
 Et v0 (.bool v1) v2 (.bool v3) (.int v4) (.bool (D.strEq (cl v10 (cl v0 v4 0).toInt 4) (cl v14 (cl v2 v6 0).toInt 4))) (.int (IntKind.wrap .i64 (v6 + 1))) v7 v8 v9 v10 v11 v12 v13 v14) (
 Et v0 (.bool v1) v2 (.bool v3) (.int v4) (.bool false) (.int (IntKind.wrap .i64 (v6 + 1))) v7 v8 v9 v10 v11 v12 v13 v14)) (
 Et v0 (.bool v1) v2 (.bool v3) (.int v4) (.bool false) (.int (IntKind.wrap .i64 (v6 + 1))) v7 v8 v9 v10 v11 v12 v13 v14)) (
 .row [])))) (
 .row []))) (
 .row [])))) (
 cond (v5) (
 OQ v0 (.bool v1) v2 (.bool v3) (.int (IntKind.wrap .i64 (v4 + 1))) v7 v8 v9 v10 v11 v12 v13 v14) (
 cond (v4 < 0) (
 .row []) (
 cond (v4 < len v0) (
 .row [.int 1, (cl v0 v4 0)]) (
 .row [])))) := gw rfl rfl (cL (cg rfl rfl (cL rfl (cL (cL rfl (cL (cL rfl (cL rfl (cL (cQ rfl rfl) rfl))) rfl)) rfl))) rfl)
theorem oo (v0 v1 v2 v3 v4 v5 v6 v7 v8 v9 v10 v11 : D) {F0 F1 F2 F3 F4 F5 : D} (h0 : BV v4 v5 v6 v7 v10 v11 = F0) (h1 : BV v0 v1 v2 v3 v8 v9 = F1) (h2 : Dk v4 v5 v6 v7 (sl F0 1) (sl F0 2) (.bool false) = F2) (h3 : Dk v0 v1 v2 v3 (sl F1 1) (sl F1 2) (.bool false) = F3) (h4 : Dk v4 v5 v6 v7 (sl F0 1) (sl F0 2) (.bool true) = F4) (h5 : Dk v0 v1 v2 v3 (sl F1 1) (sl F1 2) (.bool true) = F5) : Xi v0 v1 v2 v3 v4 v5 v6 v7 v8 v9 v10 v11 =
  cond ((sl F1 0).toInt = 1) (
 cond ((sl F0 0).toInt = 1) (
 cond ((sl F5 0).toInt = 1) (
 cond ((sl F4 0).toInt = 1) (
 cond ((sl (Jj v0 v1 v2 v3 (sl F5 1) (sl F5 2) v4 v5 v6 v7 (sl F4 1) (sl F4 2)) 0).toInt = 1) (
 cond ((sl (Jj v0 v1 v2 v3 (sl F5 1) (sl F5 2) v4 v5 v6 v7 (sl F4 1) (sl F4 2)) 1).toInt < 0) (
 cond ((sl F2 0).toInt = 1) (
 cond ((sl F3 0).toInt = 1) (
 cond ((sl (Jj v4 v5 v6 v7 (sl F2 1) (sl F2 2) v0 v1 v2 v3 (sl F3 1) (sl F3 2)) 0).toInt = 1) (
 cond ((sl (Jj v4 v5 v6 v7 (sl F2 1) (sl F2 2) v0 v1 v2 v3 (sl F3 1) (sl F3 2)) 1).toInt < 0) (
 cond (0 < (len (sl F3 1) : Int)) (
 cond ((len (sl F2 1) : Int) = 0) (
 .row [.int 1, (.int 3), (.int 0)]) (
 cond ((sl (BM v0 v1 v2 v3 v8) 0).toInt = 1) (
 cond ((sl (BM v0 v1 v2 v3 v8) 1).toInt < 0) (
 .row []) (
 cond ((sl (BM v0 v1 v2 v3 v8) 1).toInt < len v1) (
 cond ((sl (BM v4 v5 v6 v7 v10) 0).toInt = 1) (
 cond ((sl (BM v4 v5 v6 v7 v10) 1).toInt < 0) (
 .row []) (
 cond ((sl (BM v4 v5 v6 v7 v10) 1).toInt < len v5) (
 cond ((cl v1 (sl (BM v0 v1 v2 v3 v8) 1).toInt 1).toBool) (
 cond ((cl v5 (sl (BM v4 v5 v6 v7 v10) 1).toInt 1).toBool) (
 .row [.int 1, (.int 0), (.int 0)]) (
 .row [.int 1, (.int 4), (.int 0)])) (
 cond ((cl v5 (sl (BM v4 v5 v6 v7 v10) 1).toInt 1).toBool) (
 .row [.int 1, (.int 4), (.int 0)]) (
 .row [.int 1, (.int 0), (.int 0)]))) (
 .row []))) (
 .row [])) (
 .row []))) (
 .row []))) (
 cond ((sl (BM v0 v1 v2 v3 v8) 0).toInt = 1) (
 cond ((sl (BM v0 v1 v2 v3 v8) 1).toInt < 0) (
 .row []) (
 cond ((sl (BM v0 v1 v2 v3 v8) 1).toInt < len v1) (
 cond ((sl (BM v4 v5 v6 v7 v10) 0).toInt = 1) (
 cond ((sl (BM v4 v5 v6 v7 v10) 1).toInt < 0) (
 .row []) (
 cond ((sl (BM v4 v5 v6 v7 v10) 1).toInt < len v5) (
 cond ((cl v1 (sl (BM v0 v1 v2 v3 v8) 1).toInt 1).toBool) (
 cond ((cl v5 (sl (BM v4 v5 v6 v7 v10) 1).toInt 1).toBool) (
 .row [.int 1, (.int 0), (.int 0)]) (
 .row [.int 1, (.int 4), (.int 0)])) (
 cond ((cl v5 (sl (BM v4 v5 v6 v7 v10) 1).toInt 1).toBool) (
 .row [.int 1, (.int 4), (.int 0)]) (
 .row [.int 1, (.int 0), (.int 0)]))) (
 .row []))) (
 .row [])) (
 .row []))) (
 .row []))) (
 .row [.int 1, (.int 2), (sl (Jj v4 v5 v6 v7 (sl F2 1) (sl F2 2) v0 v1 v2 v3 (sl F3 1) (sl F3 2)) 1)])) (
 .row [])) (
 .row [])) (
 .row [])) (
 .row [.int 1, (.int 1), (sl (Jj v0 v1 v2 v3 (sl F5 1) (sl F5 2) v4 v5 v6 v7 (sl F4 1) (sl F4 2)) 1)])) (
 .row [])) (
 .row [])) (
 .row [])) (
 .row [])) (
 .row []) := by
  subst h0; subst h1; subst h2; subst h3; subst h4; subst h5; exact gw rfl rfl (cQ (cQ (cQ (cQ (cQ (cL (cQ (cQ (cQ (cL (cL (cQ rfl (cQ (cL rfl (cL (cQ rfl rfl) rfl)) rfl)) (cQ (cL rfl (cL (cQ rfl rfl) rfl)) rfl)) rfl) rfl) rfl) rfl) rfl) rfl) rfl) rfl) rfl) rfl)
theorem iP (v0 v1 v2 v3 v4 v5 v6 v7 v8 v9 v10 v11 : D) : UJ v0 v1 v2 v3 v4 v5 v6 v7 v8 v9 v10 v11 =
  cond ((sl (BV v0 v1 v2 v3 v8 v9) 0).toInt = 1) (
 cond ((sl (BV v4 v5 v6 v7 v10 v11) 0).toInt = 1) (
 cond ((sl (Dk v0 v1 v2 v3 (sl (BV v0 v1 v2 v3 v8 v9) 1) (sl (BV v0 v1 v2 v3 v8 v9) 2) (.bool true)) 0).toInt = 1) (
 cond ((sl (Dk v4 v5 v6 v7 (sl (BV v4 v5 v6 v7 v10 v11) 1) (sl (BV v4 v5 v6 v7 v10 v11) 2) (.bool true)) 0).toInt = 1) (
 LT AB (.bool true) (sl (BV v0 v1 v2 v3 v8 v9) 1) (sl (BV v0 v1 v2 v3 v8 v9) 2) (sl (BV v4 v5 v6 v7 v10 v11) 1) (sl (BV v4 v5 v6 v7 v10 v11) 2) (sl (Dk v0 v1 v2 v3 (sl (BV v0 v1 v2 v3 v8 v9) 1) (sl (BV v0 v1 v2 v3 v8 v9) 2) (.bool true)) 1) (sl (Dk v0 v1 v2 v3 (sl (BV v0 v1 v2 v3 v8 v9) 1) (sl (BV v0 v1 v2 v3 v8 v9) 2) (.bool true)) 2) (sl (Dk v4 v5 v6 v7 (sl (BV v4 v5 v6 v7 v10 v11) 1) (sl (BV v4 v5 v6 v7 v10 v11) 2) (.bool true)) 1) (sl (Dk v4 v5 v6 v7 (sl (BV v4 v5 v6 v7 v10 v11) 1) (sl (BV v4 v5 v6 v7 v10 v11) 2) (.bool true)) 2) (.int 0) v0 v1 v2 v3 v4 v5 v6 v7 v8 v9 v10 v11) (
 .row [])) (
 .row [])) (
 .row [])) (
 .row []) := gw rfl rfl (cQ (cQ (cQ (cQ rfl rfl) rfl) rfl) rfl)
theorem ZK (v0 : D) (v1 : Bool) (v2 : D) (v3 : Bool) (v4 : D) (v5 : Bool) (v6 : D) (v7 : Bool) (v8 : D) (v9 : Bool) (v10 : Int) (v11 v12 v13 v14 v15 v16 v17 v18 v19 v20 v21 v22 : D) : LT v0 (.bool v1) v2 (.bool v3) v4 (.bool v5) v6 (.bool v7) v8 (.bool v9) (.int v10) v11 v12 v13 v14 v15 v16 v17 v18 v19 v20 v21 v22 =
  cond (v10 < len v6) (
 JW v0 (.bool v1) v2 (.bool v3) v4 (.bool v5) v6 (.bool v7) v8 (.bool v9) (.int v10) (.int 0) v11 v12 v13 v14 v15 v16 v17 v18 v19 v20 v21 v22) (
 cond ((sl (Dk v11 v12 v13 v14 v2 (.bool v3) (.bool false)) 0).toInt = 1) (
 cond ((sl (Dk v15 v16 v17 v18 v4 (.bool v5) (.bool false)) 0).toInt = 1) (
 MX v0 (.bool v1) (sl (Dk v11 v12 v13 v14 v2 (.bool v3) (.bool false)) 1) (sl (Dk v11 v12 v13 v14 v2 (.bool v3) (.bool false)) 2) (sl (Dk v15 v16 v17 v18 v4 (.bool v5) (.bool false)) 1) (sl (Dk v15 v16 v17 v18 v4 (.bool v5) (.bool false)) 2) (.int 0) v11 v12 v13 v14 v15 v16 v17 v18 v19 v20 v21 v22) (
 .row [])) (
 .row [])) := gw rfl rfl (cL rfl (cQ (cQ rfl rfl) rfl))
theorem Z2 (v0 : D) (v1 : Bool) (v2 : D) (v3 : Bool) (v4 : D) (v5 : Bool) (v6 : D) (v7 : Bool) (v8 : D) (v9 : Bool) (v10 v11 : Int) (v12 v13 v14 v15 v16 v17 v18 v19 v20 v21 v22 v23 : D) : JW v0 (.bool v1) v2 (.bool v3) v4 (.bool v5) v6 (.bool v7) v8 (.bool v9) (.int v10) (.int v11) v12 v13 v14 v15 v16 v17 v18 v19 v20 v21 v22 v23 =
  cond (v11 < len v8) (
 cond (v10 < 0) (
 .row []) (
 cond (v10 < len v6) (
 cond ((cl v6 v10 0).toInt < 0) (
 .row []) (
 cond ((cl v6 v10 0).toInt < len v15) (
 cond (v11 < 0) (
 .row []) (
 cond ((cl v8 v11 0).toInt < 0) (
 .row []) (
 cond ((cl v8 v11 0).toInt < len v19) (
 cond ((cl v15 (cl v6 v10 0).toInt 2).toInt = (cl v19 (cl v8 v11 0).toInt 2).toInt) (
 cond (D.strEq (cl v15 (cl v6 v10 0).toInt 3) (cl v19 (cl v8 v11 0).toInt 3)) (
 cond (D.strEq (cl v15 (cl v6 v10 0).toInt 4) (cl v19 (cl v8 v11 0).toInt 4)) (
 cond ((sl (C4 v12 v13 v14 v15 v20 v21 (cl v6 v10 0)) 0).toInt = 1) (
 cond ((sl (C4 v16 v17 v18 v19 v22 v23 (cl v8 v11 0)) 0).toInt = 1) (
 cond ((len v0 : Int) < 1073741824) (
 JW (ad v0 (.row [(sl (C4 v12 v13 v14 v15 v20 v21 (cl v6 v10 0)) 1), (ni (sl (C4 v12 v13 v14 v15 v20 v21 (cl v6 v10 0)) 2) ((sl (C4 v12 v13 v14 v15 v20 v21 (cl v6 v10 0)) 3).toBool)), (sl (C4 v16 v17 v18 v19 v22 v23 (cl v8 v11 0)) 1), (ni (sl (C4 v16 v17 v18 v19 v22 v23 (cl v8 v11 0)) 2) ((sl (C4 v16 v17 v18 v19 v22 v23 (cl v8 v11 0)) 3).toBool))])) (.bool false) v2 (.bool v3) v4 (.bool v5) v6 (.bool v7) v8 (.bool v9) (.int v10) (.int (IntKind.wrap .i64 (v11 + 1))) v12 v13 v14 v15 v16 v17 v18 v19 v20 v21 v22 v23) (
 .row [])) (
 .row [])) (
 .row [])) (
 JW v0 (.bool v1) v2 (.bool v3) v4 (.bool v5) v6 (.bool v7) v8 (.bool v9) (.int v10) (.int (IntKind.wrap .i64 (v11 + 1))) v12 v13 v14 v15 v16 v17 v18 v19 v20 v21 v22 v23)) (
 JW v0 (.bool v1) v2 (.bool v3) v4 (.bool v5) v6 (.bool v7) v8 (.bool v9) (.int v10) (.int (IntKind.wrap .i64 (v11 + 1))) v12 v13 v14 v15 v16 v17 v18 v19 v20 v21 v22 v23)) (
 JW v0 (.bool v1) v2 (.bool v3) v4 (.bool v5) v6 (.bool v7) v8 (.bool v9) (.int v10) (.int (IntKind.wrap .i64 (v11 + 1))) v12 v13 v14 v15 v16 v17 v18 v19 v20 v21 v22 v23)) (
 .row [])))) (
 .row []))) (
 .row []))) (
 LT v0 (.bool v1) v2 (.bool v3) v4 (.bool v5) v6 (.bool v7) v8 (.bool v9) (.int (IntKind.wrap .i64 (v10 + 1))) v12 v13 v14 v15 v16 v17 v18 v19 v20 v21 v22 v23) := gw rfl rfl (cL (cL rfl (cL (cL rfl (cL (cL rfl (cL rfl (cL (cQ (cg rfl (cg rfl (cQ (cQ (cL rfl rfl) rfl) rfl) rfl) rfl) rfl) rfl))) rfl)) rfl)) rfl)
theorem ag (v0 : D) (v1 : Bool) (v2 : D) (v3 : Bool) (v4 : D) (v5 : Bool) (v6 : Int) (v7 v8 v9 v10 v11 v12 v13 v14 v15 v16 v17 v18 : D) : MX v0 (.bool v1) v2 (.bool v3) v4 (.bool v5) (.int v6) v7 v8 v9 v10 v11 v12 v13 v14 v15 v16 v17 v18 =
  cond (v6 < len v4) (
 Jh v0 (.bool v1) v2 (.bool v3) v4 (.bool v5) (.int v6) (.int 0) v7 v8 v9 v10 v11 v12 v13 v14 v15 v16 v17 v18) (
 .row [.int 1, v0, (.bool v1)]) := gw rfl rfl rfl
theorem ZY (v0 : D) (v1 : Bool) (v2 : D) (v3 : Bool) (v4 : D) (v5 : Bool) (v6 v7 : Int) (v8 v9 v10 v11 v12 v13 v14 v15 v16 v17 v18 v19 : D) : Jh v0 (.bool v1) v2 (.bool v3) v4 (.bool v5) (.int v6) (.int v7) v8 v9 v10 v11 v12 v13 v14 v15 v16 v17 v18 v19 =
  cond (v7 < len v2) (
 cond (v7 < 0) (
 .row []) (
 cond ((cl v2 v7 0).toInt < 0) (
 .row []) (
 cond ((cl v2 v7 0).toInt < len v11) (
 cond (v6 < 0) (
 .row []) (
 cond (v6 < len v4) (
 cond ((cl v4 v6 0).toInt < 0) (
 .row []) (
 cond ((cl v4 v6 0).toInt < len v15) (
 cond ((cl v11 (cl v2 v7 0).toInt 2).toInt = (cl v15 (cl v4 v6 0).toInt 2).toInt) (
 cond (D.strEq (cl v11 (cl v2 v7 0).toInt 3) (cl v15 (cl v4 v6 0).toInt 3)) (
 cond (D.strEq (cl v11 (cl v2 v7 0).toInt 4) (cl v15 (cl v4 v6 0).toInt 4)) (
 cond ((sl (C4 v8 v9 v10 v11 v16 v17 (cl v2 v7 0)) 0).toInt = 1) (
 cond ((sl (C4 v12 v13 v14 v15 v18 v19 (cl v4 v6 0)) 0).toInt = 1) (
 cond ((len v0 : Int) < 1073741824) (
 Jh (ad v0 (.row [(sl (C4 v8 v9 v10 v11 v16 v17 (cl v2 v7 0)) 1), (ni (sl (C4 v8 v9 v10 v11 v16 v17 (cl v2 v7 0)) 2) ((sl (C4 v8 v9 v10 v11 v16 v17 (cl v2 v7 0)) 3).toBool)), (sl (C4 v12 v13 v14 v15 v18 v19 (cl v4 v6 0)) 1), (ni (sl (C4 v12 v13 v14 v15 v18 v19 (cl v4 v6 0)) 2) ((sl (C4 v12 v13 v14 v15 v18 v19 (cl v4 v6 0)) 3).toBool))])) (.bool false) v2 (.bool v3) v4 (.bool v5) (.int v6) (.int (IntKind.wrap .i64 (v7 + 1))) v8 v9 v10 v11 v12 v13 v14 v15 v16 v17 v18 v19) (
 .row [])) (
 .row [])) (
 .row [])) (
 Jh v0 (.bool v1) v2 (.bool v3) v4 (.bool v5) (.int v6) (.int (IntKind.wrap .i64 (v7 + 1))) v8 v9 v10 v11 v12 v13 v14 v15 v16 v17 v18 v19)) (
 Jh v0 (.bool v1) v2 (.bool v3) v4 (.bool v5) (.int v6) (.int (IntKind.wrap .i64 (v7 + 1))) v8 v9 v10 v11 v12 v13 v14 v15 v16 v17 v18 v19)) (
 Jh v0 (.bool v1) v2 (.bool v3) v4 (.bool v5) (.int v6) (.int (IntKind.wrap .i64 (v7 + 1))) v8 v9 v10 v11 v12 v13 v14 v15 v16 v17 v18 v19)) (
 .row []))) (
 .row []))) (
 .row [])))) (
 MX v0 (.bool v1) v2 (.bool v3) v4 (.bool v5) (.int (IntKind.wrap .i64 (v6 + 1))) v8 v9 v10 v11 v12 v13 v14 v15 v16 v17 v18 v19) := gw rfl rfl (cL (cL rfl (cL rfl (cL (cL rfl (cL (cL rfl (cL (cQ (cg rfl (cg rfl (cQ (cQ (cL rfl rfl) rfl) rfl) rfl) rfl) rfl) rfl)) rfl)) rfl))) rfl)
theorem Zx (v0 v1 v2 v3 v4 v5 v6 v7 v8 v9 : D) : SH v0 v1 v2 v3 v4 v5 v6 v7 v8 v9 =
  cond ((sl (KW v0 v1 v2 v3) 0).toInt = 1) (
 cond ((sl (KW v0 v1 v2 v3) 3).toBool) (
 Mw (sl (KW v0 v1 v2 v3) 1) (sl (KW v0 v1 v2 v3) 2) AB (.bool true) (.int 0) v0 v1 v2 v3 v4 v5 v6 v7 v8 v9) (
 .row [.int 1, (.int 7)])) (
 .row []) := gw rfl rfl (cQ rfl rfl)
theorem WM (v0 : D) (v1 : Bool) (v2 : D) (v3 : Bool) (v4 : Int) (v5 v6 v7 v8 v9 v10 v11 v12 v13 v14 : D) {F0 F1 : D} (h0 : M1 v9 v10 v11 v12 v5 v6 v7 v8 v13 v14 (cl v0 v4 0) (cl v0 v4 1) = F0) (h1 : M0 v2 (.bool v3) (ad Aw (.row [(cl v0 v4 0), (cl v0 v4 1), (sl F0 1), (ni (sl F0 2) ((sl F0 3).toBool))])) (.bool false) = F1) : Mw v0 (.bool v1) v2 (.bool v3) (.int v4) v5 v6 v7 v8 v9 v10 v11 v12 v13 v14 =
  cond (v4 < len v0) (
 cond (v4 < 0) (
 .row []) (
 cond ((sl F0 0).toInt = 1) (
 cond ((sl F0 4).toInt = 0) (
 cond ((sl F1 0).toInt = 1) (
 Mw v0 (.bool v1) (sl F1 1) (sl F1 2) (.int (IntKind.wrap .i64 (v4 + 1))) v5 v6 v7 v8 v9 v10 v11 v12 v13 v14) (
 .row [])) (
 Mw v0 (.bool v1) v2 (.bool v3) (.int (IntKind.wrap .i64 (v4 + 1))) v5 v6 v7 v8 v9 v10 v11 v12 v13 v14)) (
 .row []))) (
 Pd v2 (.bool v3) (.int 0) v5 v6 v7 v8 v9 v10 v11 v12) := by
  subst h0; subst h1; exact gw rfl rfl (cL (cL rfl (cQ (cQ (cQ rfl rfl) rfl) rfl)) rfl)
theorem VY (v0 : D) (v1 : Bool) (v2 : Int) (v3 v4 v5 v6 v7 v8 v9 v10 : D) {F0 F1 : D} (h0 : UJ v3 v4 v5 v6 v7 v8 v9 v10 (cl v0 v2 0) (cl v0 v2 1) (cl v0 v2 2) (cl v0 v2 3) = F0) (h1 : Xi v3 v4 v5 v6 v7 v8 v9 v10 (cl v0 v2 0) (cl v0 v2 1) (cl v0 v2 2) (cl v0 v2 3) = F1) : Pd v0 (.bool v1) (.int v2) v3 v4 v5 v6 v7 v8 v9 v10 =
  cond (v2 < len v0) (
 cond (v2 < 4000) (
 cond (v2 < 0) (
 .row []) (
 cond ((sl F1 0).toInt = 1) (
 cond ((sl F1 1).toInt = 0) (
 cond ((sl F0 0).toInt = 1) (
 cond ((sl (M0 v0 (.bool v1) (sl F0 1) (sl F0 2)) 0).toInt = 1) (
 Pd (sl (M0 v0 (.bool v1) (sl F0 1) (sl F0 2)) 1) (sl (M0 v0 (.bool v1) (sl F0 1) (sl F0 2)) 2) (.int (IntKind.wrap .i64 (v2 + 1))) v3 v4 v5 v6 v7 v8 v9 v10) (
 .row [])) (
 .row [])) (
 .row [.int 2, (cl v0 v2 0), (cl v0 v2 1), (cl v0 v2 2), (cl v0 v2 3), (sl F1 1), (sl F1 2)])) (
 .row []))) (
 cond (4000 < (len v0 : Int)) (
 .row [.int 1, (.int 7)]) (
 .row [.int 1, (.int 0)]))) (
 cond (4000 < (len v0 : Int)) (
 .row [.int 1, (.int 7)]) (
 .row [.int 1, (.int 0)])) := by
  subst h0; subst h1; exact gw rfl rfl (cL (cL (cL rfl (cQ (cQ (cQ (cQ rfl rfl) rfl) rfl) rfl)) (cL rfl rfl)) (cL rfl rfl))
theorem Z6 (v0 v1 : D) (v2 : Bool) (v3 v4 : D) (v5 : Bool) (v6 v7 : Int) (v8 v9 v10 v11 : D) (v12 v13 : Int) : ML v0 v1 (.bool v2) v3 v4 (.bool v5) (.int v6) (.int v7) v8 v9 v10 v11 (.int v12) (.int v13) =
  cond ((sl (FQ v0 (ni v1 v2) v8 v9) 0).toInt = 1) (
 cond ((sl (FQ v0 (ni v1 v2) v8 v9) 1).toBool) (
 cond ((sl (FQ v3 (ni v4 v5) v10 v11) 0).toInt = 1) (
 cond ((sl (FQ v3 (ni v4 v5) v10 v11) 1).toBool) (
 cond (v6 = v12) (
 .row [.int 1, (.bool (decide (v7 = v13)))]) (
 .row [.int 1, (.bool false)])) (
 .row [.int 1, (.bool false)])) (
 .row [])) (
 .row [.int 1, (.bool false)])) (
 .row []) := gw rfl rfl (cQ (cg rfl (cQ (cg rfl (cQ rfl rfl) rfl) rfl) rfl) rfl)
theorem iq (v0 v1 v2 v3 v4 v5 v6 v7 v8 v9 : D) : Z7 v0 v1 v2 v3 v4 v5 v6 v7 v8 v9 =
  cond (8 < (len v1 : Int)) (
 cond ((sl (Fw) 0).toInt = 1) (
 .row [.int 1, (.bool true)]) (
 .row [])) (
 cond (20 < (len v3 : Int)) (
 cond ((sl (Fw) 0).toInt = 1) (
 .row [.int 1, (.bool true)]) (
 .row [])) (
 cond (5 < (len v2 : Int)) (
 cond ((sl (Fw) 0).toInt = 1) (
 .row [.int 1, (.bool true)]) (
 .row [])) (
 cond (8 < (len v5 : Int)) (
 cond ((sl (Fw) 0).toInt = 1) (
 .row [.int 1, (.bool true)]) (
 .row [])) (
 cond (20 < (len v7 : Int)) (
 cond ((sl (Fw) 0).toInt = 1) (
 .row [.int 1, (.bool true)]) (
 .row [])) (
 cond (5 < (len v6 : Int)) (
 cond ((sl (Fw) 0).toInt = 1) (
 .row [.int 1, (.bool true)]) (
 .row [])) (
 cond (30 < (len v8 : Int)) (
 cond ((sl (Fw) 0).toInt = 1) (
 .row [.int 1, (.bool true)]) (
 .row [])) (
 cond (8 < (len v9 : Int)) (
 cond ((sl (Fw) 0).toInt = 1) (
 .row [.int 1, (.bool true)]) (
 .row [])) (
 Ly (.int 0) v0 v1 v2 v3 v4 v5 v6 v7 v8 v9)))))))) := gw rfl rfl (cL (cQ rfl rfl) (cL (cQ rfl rfl) (cL (cQ rfl rfl) (cL (cQ rfl rfl) (cL (cQ rfl rfl) (cL (cQ rfl rfl) (cL (cQ rfl rfl) (cL (cQ rfl rfl) rfl))))))))
theorem Lo (v0 : Int) (v1 v2 v3 v4 v5 v6 v7 v8 v9 v10 : D) {F0 F1 F2 F3 : D} (h0 : Nx v1 v2 v3 v4 v5 v6 v7 v8 v9 v10 = F0) (h1 : SH v1 v2 v3 v4 v5 v6 v7 v8 v9 v10 = F1) (h2 : kV (sl F0 1) (sl F0 2) (sl F0 3) (sl F0 4) (sl F0 5) (sl F0 6) (sl F0 7) (sl F0 8) (Bs 0 0) AB (.bool true) (Bs 0 0) AB (.bool true) (.int 0) (.int 0) = F2) (h3 : ML (sl F0 1) (sl F0 2) (sl F0 3) (sl F0 4) (sl F0 5) (sl F0 6) (sl F0 7) (sl F0 8) (Bs 0 0) AB (Bs 0 0) AB (.int 0) (.int 0) = F3) : Ly (.int v0) v1 v2 v3 v4 v5 v6 v7 v8 v9 v10 =
  cond (v0 < 2) (
 cond (v0 = 0) (
 JJ (.int 0) (.int 0) (.int v0) v1 v2 v3 v4 v5 v6 v7 v8 v9 v10 v1 v2 v3 v4) (
 cond (v0 = 1) (
 JJ (.int 0) (.int 0) (.int v0) v1 v2 v3 v4 v5 v6 v7 v8 v9 v10 v5 v6 v7 v8) (
 .row []))) (
 cond ((sl F0 0).toInt = 1) (
 cond ((sl (Nu v1 v2 v3 v4 v5 v6 v7 v8 v9 v10) 0).toInt = 1) (
 cond ((sl (Nu v1 v2 v3 v4 v5 v6 v7 v8 v9 v10) 2).toInt = 0) (
 cond ((sl F1 0).toInt = 1) (
 cond ((sl F3 0).toInt = 1) (
 cond ((sl F3 1).toBool) (
 cond ((sl F1 1).toInt = 0) (
 cond ((sl F0 9).toBool) (
 cond ((sl F0 10).toInt = (sl F1 1).toInt) (
 cond ((sl (Fw) 0).toInt = 1) (
 .row [.int 1, (.bool true)]) (
 .row [])) (
 .row [.int 1, (.bool false)])) (
 .row [.int 1, (.bool false)])) (
 cond ((sl F0 9).toBool) (
 .row [.int 1, (.bool false)]) (
 cond ((sl F0 10).toInt = (sl F1 1).toInt) (
 cond ((sl (Fw) 0).toInt = 1) (
 .row [.int 1, (.bool true)]) (
 .row [])) (
 .row [.int 1, (.bool false)])))) (
 .row [.int 1, (.bool false)])) (
 cond ((sl F2 0).toInt = 1) (
 cond ((sl F2 1).toBool) (
 cond ((sl F1 1).toInt = 0) (
 cond ((sl F0 9).toBool) (
 cond ((sl F0 10).toInt = (sl F1 1).toInt) (
 cond ((sl (Fw) 0).toInt = 1) (
 .row [.int 1, (.bool true)]) (
 .row [])) (
 .row [.int 1, (.bool false)])) (
 .row [.int 1, (.bool false)])) (
 cond ((sl F0 9).toBool) (
 .row [.int 1, (.bool false)]) (
 cond ((sl F0 10).toInt = (sl F1 1).toInt) (
 cond ((sl (Fw) 0).toInt = 1) (
 .row [.int 1, (.bool true)]) (
 .row [])) (
 .row [.int 1, (.bool false)])))) (
 .row [.int 1, (.bool false)])) (
 .row []))) (
 cond ((sl F1 0).toInt = 2) (
 cond ((sl (ML (sl F0 1) (sl F0 2) (sl F0 3) (sl F0 4) (sl F0 5) (sl F0 6) (sl F0 7) (sl F0 8) (sl F1 1) (sl F1 2) (sl F1 3) (sl F1 4) (sl F1 5) (sl F1 6)) 0).toInt = 1) (
 cond ((sl (ML (sl F0 1) (sl F0 2) (sl F0 3) (sl F0 4) (sl F0 5) (sl F0 6) (sl F0 7) (sl F0 8) (sl F1 1) (sl F1 2) (sl F1 3) (sl F1 4) (sl F1 5) (sl F1 6)) 1).toBool) (
 cond ((sl F0 9).toBool) (
 cond ((sl F1 5).toInt = 0) (
 cond ((sl F0 10).toInt = 0) (
 cond ((sl (Fw) 0).toInt = 1) (
 .row [.int 1, (.bool true)]) (
 .row [])) (
 .row [.int 1, (.bool false)])) (
 .row [.int 1, (.bool false)])) (
 cond ((sl F1 5).toInt = 0) (
 .row [.int 1, (.bool false)]) (
 cond ((sl F0 10).toInt = 0) (
 cond ((sl (Fw) 0).toInt = 1) (
 .row [.int 1, (.bool true)]) (
 .row [])) (
 .row [.int 1, (.bool false)])))) (
 .row [.int 1, (.bool false)])) (
 .row [])) (
 .row []))) (
 cond ((sl F3 0).toInt = 1) (
 cond ((sl F3 1).toBool) (
 cond ((sl F0 9).toBool) (
 .row [.int 1, (.bool false)]) (
 cond ((sl F0 10).toInt = (sl (Nu v1 v2 v3 v4 v5 v6 v7 v8 v9 v10) 2).toInt) (
 cond ((sl (Fw) 0).toInt = 1) (
 .row [.int 1, (.bool true)]) (
 .row [])) (
 .row [.int 1, (.bool false)]))) (
 .row [.int 1, (.bool false)])) (
 cond ((sl F2 0).toInt = 1) (
 cond ((sl F2 1).toBool) (
 cond ((sl F0 9).toBool) (
 .row [.int 1, (.bool false)]) (
 cond ((sl F0 10).toInt = (sl (Nu v1 v2 v3 v4 v5 v6 v7 v8 v9 v10) 2).toInt) (
 cond ((sl (Fw) 0).toInt = 1) (
 .row [.int 1, (.bool true)]) (
 .row [])) (
 .row [.int 1, (.bool false)]))) (
 .row [.int 1, (.bool false)])) (
 .row [])))) (
 .row [])) (
 .row [])) := by
  subst h0; subst h1; subst h2; subst h3; exact gw rfl rfl (cL (cQ rfl (cQ rfl rfl)) (cQ (cQ (cQ (cQ (cQ (cg rfl (cQ (cg rfl (cQ (cQ rfl rfl) rfl) rfl) (cg rfl rfl (cQ (cQ rfl rfl) rfl))) rfl) (cQ (cg rfl (cQ (cg rfl (cQ (cQ rfl rfl) rfl) rfl) (cg rfl rfl (cQ (cQ rfl rfl) rfl))) rfl) rfl)) (cQ (cQ (cg rfl (cg rfl (cQ (cQ (cQ rfl rfl) rfl) rfl) (cQ rfl (cQ (cQ rfl rfl) rfl))) rfl) rfl) rfl)) (cQ (cg rfl (cg rfl rfl (cQ (cQ rfl rfl) rfl)) rfl) (cQ (cg rfl (cg rfl rfl (cQ (cQ rfl rfl) rfl)) rfl) rfl))) rfl) rfl))
theorem ZM (v0 v1 v2 : Int) (v3 v4 v5 v6 v7 v8 v9 v10 v11 v12 v13 v14 v15 v16 : D) : JJ (.int v0) (.int v1) (.int v2) v3 v4 v5 v6 v7 v8 v9 v10 v11 v12 v13 v14 v15 v16 =
  cond (v1 < len v15) (
 cond (v1 < 0) (
 .row []) (
 cond ((cl v15 v1 1).toInt < 0) (
 JJ (.int (IntKind.wrap .i64 (v0 + 0))) (.int (IntKind.wrap .i64 (v1 + 1))) (.int v2) v3 v4 v5 v6 v7 v8 v9 v10 v11 v12 v13 v14 v15 v16) (
 cond (3000 < (cl v15 v1 1).toInt) (
 JJ (.int (IntKind.wrap .i64 (v0 + 3000))) (.int (IntKind.wrap .i64 (v1 + 1))) (.int v2) v3 v4 v5 v6 v7 v8 v9 v10 v11 v12 v13 v14 v15 v16) (
 JJ (.int (IntKind.wrap .i64 (v0 + (cl v15 v1 1).toInt))) (.int (IntKind.wrap .i64 (v1 + 1))) (.int v2) v3 v4 v5 v6 v7 v8 v9 v10 v11 v12 v13 v14 v15 v16)))) (
 cond (40 < v0) (
 cond (2000 < v0) (
 Ly (.int (IntKind.wrap .i64 (v2 + 1))) v3 v4 v5 v6 v7 v8 v9 v10 v11 v12) (
 cond ((sl (Fw) 0).toInt = 1) (
 .row [.int 1, (.bool true)]) (
 .row []))) (
 Ly (.int (IntKind.wrap .i64 (v2 + 1))) v3 v4 v5 v6 v7 v8 v9 v10 v11 v12)) := gw rfl rfl (cL (cL rfl (cL rfl (cL rfl rfl))) (cL (cL rfl (cQ rfl rfl)) rfl))
end
end Cs
namespace Cs
open Go Go.AE
theorem MM (v : D) (i : Int) : 0 ≤ sAt v i ∧ sAt v i < 256 := by
 unfold sAt;have := ((v.toStr.data.toList[i.toNat]?).getD 0).toNat_lt;omega
theorem KZ {v : D} : len (OZ v) = Co v := by
 show (List.map _ _).length = _;simp [Co]
theorem S7 {v : D} {i : Nat} (h : i < Co v) : (cl (OZ v) i 0).toInt = sAt v i := by
 unfold cl sAt OZ;have h' : i < v.toStr.data.toList.length := h;simp [D.rows, List.getD_eq_getElem?_getD, List.getElem?_eq_getElem h', D.cells, D.toInt]
theorem RT {x : Int} (h0 : 0 ≤ x) (h1 : x < 256) : IntKind.wrap .u8 x = x := by
 simp only [IntKind.wrap, IntKind.bits, IntKind.signed];have := Int.emod_eq_of_lt h0 h1
 simp_all
section
variable [Ar]
theorem M6 {v : D} (hs : Co v ≤ 32) : ∀ (k i : Nat), i + k = Co v → 1 ≤ i → ∃ b, Rl (OZ v) (.int (Co v : Nat)) (.int i) = .row [.int 1, .bool b] ∧ JR v (.int i) = .row [.int 1, .bool b]
 | 0, i, hi, h1 => by
  refine ⟨true, ?_, ?_⟩
  ·rw [bf, ifF (by omega)]
  ·rw [UK, ifF (by omega)]
 | k + 1, i, hi, h1 => by
  obtain ⟨b, q1, q2⟩ := M6 hs k (i + 1) (by omega) (by omega)
  have hr := MM v i;have hc := S7 (v := v) (i := i) (by omega)
  have A := bf (OZ v) (Co v : Nat) (i : Int);have B := UK v (i : Int);rw [hc, RT hr.1 hr.2, KZ, BI (by omega) (by omega), show (i : Int) + 1 = ((i + 1 : Nat) : Int) by omega, q1, ifT (by omega), ifF (by omega), ifT (by omega)] at A
  rw [BI (by omega) (by omega), show (i : Int) + 1 = ((i + 1 : Nat) : Int) by omega, q2, ifT (by omega), ifF (by omega)] at B
  rw [A, B];have hi0 : decide ((i : Int) = 0) = false := decide_eq_false (by omega)
  rw [hi0];simp only [cond_false];generalize sAt v i = c;by_cases c1 : c < 97
  ·simp only [ifT c1];by_cases c2 : c < 65
   ·simp only [ifT c2];by_cases c3 : c < 48
    ·simp only [ifT c3]; exact ⟨_, rfl, rfl⟩
    ·simp only [ifF c3];by_cases c4 : 57 < c
     ·simp only [ifT c4]; exact ⟨_, rfl, rfl⟩
     ·simp only [ifF c4]; exact ⟨_, rfl, rfl⟩
   ·simp only [ifF c2];by_cases c3 : 90 < c
    ·simp only [ifT c3];by_cases c4 : c = 95
     ·simp only [ifT c4]; exact ⟨_, rfl, rfl⟩
     ·simp only [ifF c4]; exact ⟨_, rfl, rfl⟩
    ·simp only [ifF c3]; exact ⟨_, rfl, rfl⟩
  ·simp only [ifF c1];by_cases c2 : 122 < c
   ·simp only [ifT c2]; exact ⟨_, by cases decide ((i : Int) = 0) <;> rfl, rfl⟩
   ·simp only [ifF c2]; exact ⟨_, rfl, rfl⟩
theorem SU (v : D) : ∃ b, FC v = .row [.int 1, .bool b] ∧ Dl v = .row [.int 1, .bool b] := by
 rw [qd, ZI];by_cases c1 : (Co v : Int) < 1
 ·simp only [ifT c1]; exact ⟨_, rfl, rfl⟩
 simp only [ifF c1];by_cases c2 : 32 < (Co v : Int)
 ·simp only [ifT c2]; exact ⟨_, rfl, rfl⟩
 simp only [ifF c2];obtain ⟨b, q1, q2⟩ := M6 (v := v) (by omega) (Co v - 1) 1 (by omega) (Nat.le_refl _)
 have hr := MM v (0 : Nat);have hc := S7 (v := v) (i := 0) (by omega)
 have A := bf (OZ v) (Co v : Nat) ((0 : Nat) : Int);have B := UK v ((0 : Nat) : Int);rw [hc, RT hr.1 hr.2, KZ, BI (by omega) (by omega), show ((0 : Nat) : Int) + 1 = ((1 : Nat) : Int) by omega, q1, ifT (by omega), ifF (by omega), ifT (by omega)] at A
 rw [BI (by omega) (by omega), show ((0 : Nat) : Int) + 1 = ((1 : Nat) : Int) by omega, q2, ifT (by omega), ifF (by omega)] at B
 have z : ((0 : Nat) : Int) = 0 := rfl;rw [z] at A B hr;rw [KZ, A, B];generalize sAt v 0 = c;have hi0 : decide ((0 : Int) = 0) = true := rfl;rw [hi0];simp only [cond_true];by_cases c3 : c = 95
 ·subst c3;exact ⟨false, rfl, rfl⟩
 simp only [ifF c3];by_cases c4 : c < 97
 ·simp only [ifT c4];by_cases c5 : c < 65
  ·simp only [ifT c5];by_cases c6 : c < 48
   ·simp only [ifT c6]; exact ⟨_, rfl, rfl⟩
   ·simp only [ifF c6];by_cases c7 : 57 < c
    ·simp only [ifT c7]; exact ⟨_, rfl, rfl⟩
    ·simp only [ifF c7]; exact ⟨_, rfl, rfl⟩
  ·have c6 : ¬ c < 48 := by omega
   have c7 : 57 < c := by omega
   simp only [ifF c5, ifF c6, ifT c7];by_cases c8 : 90 < c
   ·simp only [ifT c8]; exact ⟨_, rfl, rfl⟩
   ·simp only [ifF c8]; exact ⟨_, rfl, rfl⟩
 ·have c6 : ¬ c < 48 := by omega
  have c7 : 57 < c := by omega
  simp only [ifF c4, ifF c6, ifT c7];by_cases c5 : 122 < c
  ·simp only [ifT c5]; exact ⟨_, rfl, rfl⟩
  ·simp only [ifF c5]; exact ⟨_, rfl, rfl⟩
end
end Cs
namespace Cs
open Go Go.AE
def fd (l key : D) : Int := fdG (fun j => D.strEq (cl l j 0) key) (len l) 0
theorem BL {l key : D} : fd l key < len l := by
 have := D6 (p := fun j => D.strEq (cl l j 0) key) (k := len l) (i := 0)
 unfold fd; omega
theorem SV {l key : D} : fd l key = -1 ∨ 0 ≤ fd l key := by
 have := LF (p := fun j => D.strEq (cl l j 0) key) (k := len l) (i := 0)
 unfold fd; omega
theorem Kn {l : D} {i : Nat} (h : i < len l) : 0 ≤ fd l (cl l i 0) ∧ fd l (cl l i 0) ≤ i := Hi (p := fun j => D.strEq (cl l j 0) (cl l i 0)) (Nat.zero_le _) (by omega) BO
theorem Ln {l key : D} (h : 0 ≤ fd l key) : D.strEq (cl l (fd l key) 0) key = true := by
 have := Hk (p := fun j => D.strEq (cl l j 0) key) (k := len l) (i := 0) h
 have e : ((fd l key).toNat : Int) = fd l key := by omega
 rw [← e];exact this
theorem Cl {F : Int → D} {l key : D} (hn : len l < 4611686018427387904) (h : ∀ i : Int, F i = cond (decide (i < (len l : Int))) (cond (decide (i < 0)) (.row []) (cond (D.strEq (cl l i 0) key) (.row [.int 1, .int i]) (F (IntKind.wrap .i64 (i + 1))))) (.row [.int 1, .int (-1)])) : F 0 = .row [.int 1, .int (fd l key)] := by
 refine find (F := fun i => F (i : Int)) (n := len l) (bad := fun j => D.strEq (cl l j 0) key) (fun j hj => ?_) ?_
 ·show F (j : Int) = _;rw [h, ifT (by omega), ifF (by omega), AG (by omega)]
 ·show F (len l : Int) = _;rw [h, ifF (by omega)]
section
variable [Ar]
variable {v0 v1 v2 v3 v4 v5 : D}
theorem ZF (hn : len v0 < 4611686018427387904) (k : D) : Xa v0 k = .row [.int 1, .int (fd v0 k)] := (qZ ..).trans (Cl (F := fun i => XA v0 (.int i) k) hn fun i => qQ ..)
theorem ZW (hn : len v0 < 4611686018427387904) (k : D) : IqQ v0 k = .row [.int 1, .int (fd v0 k)] := (ql ..).trans (Cl (F := fun i => XY v0 (.int i) k) hn fun i => qe ..)
theorem R5 (hn : len v0 < 4611686018427387904) (k : D) : FqQ v0 k = .row [.int 1, .int (fd v0 k)] := (qG ..).trans (Cl (F := fun i => XI v0 (.int i) k) hn fun i => qA ..)
theorem Ta (hn : len v0 < 4611686018427387904) (k : D) : Ja v0 k = .row [.int 1, .int (fd v0 k)] := (pY ..).trans (Cl (F := fun i => Zi v0 (.int i) k) hn fun i => pP ..)
theorem Xe (hn : len v2 < 4611686018427387904) (k : D) : HU v0 v1 v2 v3 k = .row [.int 1, .int (fd v2 k)] := (ig ..).trans (Cl (F := fun i => SO k (.int i) v0 v1 v2 v3) hn fun i => gm ..)
theorem UC (hn : len v1 < 4611686018427387904) (k : D) : G8 v0 v1 v2 v3 k = .row [.int 1, .int (fd v1 k)] := (gW ..).trans (Cl (F := fun i => Sp k (.int i) v0 v1 v2 v3) hn fun i => fD ..)
theorem LE (hn : len v1 < 4611686018427387904) (k : D) : BM v0 v1 v2 v3 k = .row [.int 1, .int (fd v1 k)] := (iW ..).trans (Cl (F := fun i => Td k (.int i) v0 v1 v2 v3) hn fun i => i6 ..)
theorem I4 (hn : len v2 < 4611686018427387904) (k : D) : BC v0 v1 v2 v3 k = .row [.int 1, .int (fd v2 k)] := (jD ..).trans (Cl (F := fun i => R8 k (.int i) v0 v1 v2 v3) hn fun i => eS ..)
def nm (v : D) : Bool := (sl (Dl v) 1).toBool
theorem Sv (v : D) : FC v = .row [.int 1, .bool (nm v)] := by
 obtain ⟨b, q1, q2⟩ := SU v;rw [q1];unfold nm;rw [q2];rfl
theorem NF (v : D) : Dl v = .row [.int 1, .bool (nm v)] := by
 obtain ⟨b, q1, q2⟩ := SU v;unfold nm;rw [q2];rfl
def IV (v2 : D) (i : Nat) : Bool := !nm (cl v2 i 0) || decide (fd v2 (cl v2 i 0) < i) || decide ((cl v2 i 1).toInt < 1) || decide (1000 < (cl v2 i 1).toInt)
def IS (v1 : D) (i : Nat) : Bool := !nm (cl v1 i 0) || decide (fd v1 (cl v1 i 0) < i) || decide ((cl v1 i 2).toInt < 0) || decide (1048576 < (cl v1 i 2).toInt)
theorem ZA (hn : len v2 < 1000) (v0 v1 v3 : D) : Uh (.int (len v2 : Nat)) (.int 0) (.int 4) v0 v1 v2 v3 = .row [.int 1, .int (cond (decide (4 < (len v2 : Int))) 4 (fdG (IV v2) (len v2) 0))] := by
 rw [qX, ifF (by omega)]
 by_cases c : 4 < (len v2 : Int)
 ·rw [ifT c, ifT c]
 rw [ifF c, ifF c];refine find (F := fun i => TE (.int (len v2 : Nat)) (.int (i : Nat)) v0 v1 v2 v3) (n := len v2) (bad := IV v2) (fun j hj => ?_) ?_
 ·show TE _ (.int (j : Nat)) _ _ _ _ = _;rw [iQ, ifT (by omega), ifF (by omega), ifT (by omega)]
  simp only [Sv, ZF (v0 := v2) (by omega), Am, Al, Ac, Af, decide_true, cond_true, AG (i := j) (by omega)]
  unfold IV;cases nm (cl v2 j 0) <;> cases decide (fd v2 (cl v2 j 0) < j) <;> cases decide ((cl v2 j 1).toInt < 1) <;> cases decide (1000 < (cl v2 j 1).toInt) <;> rfl
 ·show TE _ (.int (len v2 : Nat)) _ _ _ _ = _;rw [iQ, ifF (by omega)]
theorem ZG (hn : len v1 < 1000) (v0 v2 v3 : D) : Uv (.int (len v1 : Nat)) (.int 1) (.int 24) v0 v1 v2 v3 = .row [.int 1, .int (cond (decide ((len v1 : Int) < 1)) 0 (cond (decide (24 < (len v1 : Int))) 24 (fdG (IS v1) (len v1) 0)))] := by
 rw [pI];by_cases c : (len v1 : Int) < 1
 ·rw [ifT c, ifT c]
 rw [ifF c, ifF c];by_cases c : 24 < (len v1 : Int)
 ·rw [ifT c, ifT c]
 rw [ifF c, ifF c];refine find (F := fun i => TI (.int (len v1 : Nat)) (.int (i : Nat)) v0 v1 v2 v3) (n := len v1) (bad := IS v1) (fun j hj => ?_) ?_
 ·show TI _ (.int (j : Nat)) _ _ _ _ = _;rw [iO, ifT (by omega), ifF (by omega), ifT (by omega)]
  simp only [Sv, ZW (v0 := v1) (by omega), Am, Al, Ac, Af, decide_true, cond_true, AG (i := j) (by omega)]
  unfold IS;cases nm (cl v1 j 0) <;> cases decide (fd v1 (cl v1 j 0) < j) <;> cases decide ((cl v1 j 2).toInt < 0) <;> cases decide (1048576 < (cl v1 j 2).toInt) <;> rfl
 ·show TI _ (.int (len v1 : Nat)) _ _ _ _ = _;rw [iO, ifF (by omega)]
end
end Cs
namespace Cs
open Go Go.AE
def DU (v3 : D) (i j : Nat) : Bool := D.strEq (cl v3 j 0) (cl v3 i 0) && (D.strEq (cl v3 j 1) (cl v3 i 1) && (decide ((cl v3 j 2).toInt = (cl v3 i 2).toInt) && (D.strEq (cl v3 j 3) (cl v3 i 3) && (D.strEq (cl v3 j 4) (cl v3 i 4) && (D.strEq (cl v3 j 5) (cl v3 i 5) && (decide ((cl v3 j 6).toInt = (cl v3 i 6).toInt) && (decide ((cl v3 j 7).toInt = (cl v3 i 7).toInt) && decide ((cl v3 j 8).toInt = (cl v3 i 8).toInt))))))))
def dup (v3 : D) (i : Nat) : Bool := !decide (fdG (DU v3 i) i 0 < 0)
def Zj (v2 v3 : D) (i : Nat) : Bool := cond (eqC (cl v3 i 5) 0 0) (cond (decide ((cl v3 i 6).toInt = 0)) (cond (decide ((cl v3 i 7).toInt = 0)) (cond (decide ((cl v3 i 8).toInt = 0)) false true) true) true)
 (cond (decide (fd v2 (cl v3 i 5) < 0)) true (cond (decide ((cl v3 i 6).toInt < 0)) true (cond (decide ((cl v3 i 7).toInt < (cl v3 i 6).toInt)) true (cond (decide ((cl v3 i 8).toInt < (-1000))) true (cond (decide (1000 < (cl v3 i 8).toInt)) true
  (cond (decide ((cl v2 (fd v2 (cl v3 i 5)) 1).toInt < (cl v3 i 7).toInt)) true (cond (decide (IntKind.wrap .i64 ((cl v3 i 6).toInt + (cl v3 i 8).toInt) < 0)) true (cond (decide ((cl v2 (fd v2 (cl v3 i 5)) 1).toInt < IntKind.wrap .i64 ((cl v3 i 7).toInt + (cl v3 i 8).toInt))) true false))))))))
def B4 (v3 : D) : Prop := ∀ i : Nat, i < len v3 → (∃ n, cl v3 i 2 = .int n) ∧ (∃ n, cl v3 i 6 = .int n) ∧ (∃ n, cl v3 i 7 = .int n) ∧ (∃ n, cl v3 i 8 = .int n) ∧ Co (cl v3 i 3) < 4611686018427387904 ∧ Co (cl v3 i 4) < 4611686018427387904
section
variable [Ar]
def Qa (v0 v1 v3 : D) (i : Nat) : Bool := cond (decide ((cl v3 i 2).toInt = 1)) (cond (nm (cl v3 i 3)) (cond (nm (cl v3 i 4)) (D.strEq (cl v3 i 4) v0) true) true)
 (cond (decide ((cl v3 i 2).toInt = 2)) (cond (nm (cl v3 i 3)) (cond (nm (cl v3 i 4)) (D.strEq (cl v3 i 4) v0) true) true)
 (cond (decide ((cl v3 i 2).toInt = 3)) (cond (eqC (cl v3 i 3) 0 0) (cond (eqC (cl v3 i 4) 0 0) (!decide (0 < (cl v1 (fd v1 (cl v3 i 0)) 2).toInt)) true) true)
 (cond (decide ((cl v3 i 2).toInt = 4)) (cond (eqC (cl v3 i 3) 0 0) (cond (eqC (cl v3 i 4) 0 0) false true) true) true)))
def FL (v0 v1 v2 v3 : D) (i : Nat) : Bool := decide (fd v1 (cl v3 i 0) < 0) || (decide (fd v1 (cl v3 i 1) < 0) || (dup v3 i || (Qa v0 v1 v3 i || Zj v2 v3 i)))
variable {v0 v1 v2 v3 : D}
theorem lu (hs : B4 v3) (hn : len v3 < 1000) {i : Nat} (hi : i < len v3) : ∃ n : Int, ca (sb v3 0 i) (cl v3 i 0) (cl v3 i 1) (cl v3 i 2) (cl v3 i 3) (cl v3 i 4) (cl v3 i 5) (cl v3 i 6) (cl v3 i 7) (cl v3 i 8) = .row [.int 1, .int n] ∧ decide (n < 0) = !dup v3 i := by
 obtain ⟨⟨n2, h2⟩, ⟨n6, h6⟩, ⟨n7, h7⟩, ⟨n8, h8⟩, _⟩ := hs i hi;refine ⟨fdG (DU v3 i) i 0, ?_, by unfold dup; rw [Bool.not_not]⟩
 have hl : len (sb v3 0 i) = i := by
  have := Q8 (a := v3) (lo := 0) (hi := (i : Int)) (by omega) (by omega)
  omega
 rw [h2, h6, h7, h8, qx];refine find (F := fun j => T3 (sb v3 0 i) (.int (j : Nat)) (cl v3 i 0) (cl v3 i 1) (.int n2) (cl v3 i 3) (cl v3 i 4) (cl v3 i 5) (.int n6) (.int n7) (.int n8)) (n := i) (bad := DU v3 i) (fun j hj => ?_) ?_
 ·show T3 (sb v3 0 i) (.int (j : Nat)) (cl v3 i 0) (cl v3 i 1) (.int n2) (cl v3 i 3) (cl v3 i 4) (cl v3 i 5) (.int n6) (.int n7) (.int n8) = _;rw [lg, hl, ifT (by omega), ifF (by omega), AG (by omega)]
  simp only [W4 (a := v3) (i := i) (j := j) (by omega) hj]
  have e : (D.strEq (cl v3 i 0) (cl v3 j 0) && (D.strEq (cl v3 i 1) (cl v3 j 1) && (decide (n2 = (cl v3 j 2).toInt) && (D.strEq (cl v3 i 3) (cl v3 j 3) && (D.strEq (cl v3 i 4) (cl v3 j 4) && (D.strEq (cl v3 i 5) (cl v3 j 5) && (decide (n6 = (cl v3 j 6).toInt) && (decide (n7 = (cl v3 j 7).toInt) && decide (n8 = (cl v3 j 8).toInt))))))))) = DU v3 i j := by
   unfold DU;rw [h2, h6, h7, h8];simp only [Ac];rw [AJ (a := cl v3 i 0), AJ (a := cl v3 i 1), AJ (a := cl v3 i 3), AJ (a := cl v3 i 4), AJ (a := cl v3 i 5)];rw [O2 (x := n2), O2 (x := n6), O2 (x := n7), O2 (x := n8)];rfl
  rw [e]
 ·show T3 (sb v3 0 i) (.int (i : Nat)) (cl v3 i 0) (cl v3 i 1) (.int n2) (cl v3 i 3) (cl v3 i 4) (cl v3 i 5) (.int n6) (.int n7) (.int n8) = _;rw [lg, hl, ifF (by omega)]
theorem XG (hs : B4 v3) (hn : len v3 < 1000) (hn1 : len v1 < 1000) (hn2 : len v2 < 1000) {i : Nat} (hi : i < len v3) : Hu (.int (len v3 : Nat)) (.int (i : Nat)) v0 v1 v2 v3 = cond (FL v0 v1 v2 v3 i) (.row [.int 1, .int (i : Nat)]) (Hu (.int (len v3 : Nat)) (.int (i + 1 : Nat)) v0 v1 v2 v3) := by
 obtain ⟨n, h6, hd⟩ := lu hs hn hi;obtain ⟨_, _, _, _, h3, h4⟩ := hs i hi;rw [kX (h0 := rfl) (h1 := rfl) (h2 := rfl), ifT (by omega), ifF (by omega), ifT (by omega)]
 have a1 := BL (l := v1) (key := cl v3 i 0);have a2 := BL (l := v2) (key := cl v3 i 5);have d1 : decide ((Co (cl v3 i 3) : Int) < 4611686018427387904) = true := decide_eq_true (by omega)
 have d2 : decide ((Co (cl v3 i 4) : Int) < 4611686018427387904) = true := decide_eq_true (by omega)
 have d3 : decide ((len v3 : Int) < i) = false := decide_eq_false (by omega)
 simp only [h6, hd, Sv, ZF (v0 := v2) (by omega), ZW (v0 := v1) (by omega), Am, Al, Ac, Af, decide_true, cond_true, cond_false, AG (i := i) (by omega), decide_eq_true a1, decide_eq_true a2, d1, d2, d3, RA]
 unfold FL Qa;generalize Hu (.int (len v3 : Nat)) (.int (i + 1 : Nat)) v0 v1 v2 v3 = X;generalize hY : (D.row [.int 1, .int (i : Nat)]) = Y;cases decide (fd v1 (cl v3 i 0) < 0) <;> cases decide (fd v1 (cl v3 i 1) < 0) <;> cases dup v3 i <;> simp only [cond_true, cond_false, Bool.true_or, Bool.false_or, Bool.not_true, Bool.not_false, Bool.cond_self]
 unfold Zj;by_cases k1 : (cl v3 i 2).toInt = 1
 ·simp only [ifT k1];cases nm (cl v3 i 3) <;> cases nm (cl v3 i 4) <;> cases D.strEq (cl v3 i 4) v0 <;> simp only [cond_true, cond_false, Bool.true_or, Bool.false_or]
  repeat' (refine LQ (fun h => ?_) (fun h => ?_)) <;> simp only [*, cond_true, cond_false]
 simp only [ifF k1];by_cases k2 : (cl v3 i 2).toInt = 2
 ·simp only [ifT k2];cases nm (cl v3 i 3) <;> cases nm (cl v3 i 4) <;> cases D.strEq (cl v3 i 4) v0 <;> simp only [cond_true, cond_false, Bool.true_or, Bool.false_or]
  repeat' (refine LQ (fun h => ?_) (fun h => ?_)) <;> simp only [*, cond_true, cond_false]
 simp only [ifF k2];by_cases k3 : (cl v3 i 2).toInt = 3
 ·simp only [ifT k3];cases eqC (cl v3 i 3) 0 0 <;> cases eqC (cl v3 i 4) 0 0 <;> cases decide (0 < (cl v1 (fd v1 (cl v3 i 0)) 2).toInt) <;> simp only [cond_true, cond_false, Bool.true_or, Bool.false_or, Bool.and_true, Bool.true_and, Bool.and_false, Bool.false_and, Bool.not_true, Bool.not_false]
  repeat' (refine LQ (fun h => ?_) (fun h => ?_)) <;> simp only [*, cond_true, cond_false]
 simp only [ifF k3];by_cases k4 : (cl v3 i 2).toInt = 4
 ·simp only [ifT k4];cases eqC (cl v3 i 3) 0 0 <;> cases eqC (cl v3 i 4) 0 0 <;> simp only [cond_true, cond_false, Bool.true_or, Bool.false_or, Bool.and_true, Bool.true_and, Bool.and_false, Bool.false_and, Bool.not_true, Bool.not_false]
  repeat' (refine LQ (fun h => ?_) (fun h => ?_)) <;> simp only [*, cond_true, cond_false]
 simp only [ifF k4, cond_true, Bool.true_or]
theorem Zw (hs : B4 v3) (hn : len v3 < 1000) (hn1 : len v1 < 1000) (hn2 : len v2 < 1000) (v0 : D) : Uq (.int (len v3 : Nat)) (.int 0) (.int 80) v0 v1 v2 v3 = .row [.int 1, .int (cond (decide (80 < (len v3 : Int))) 80 (fdG (FL v0 v1 v2 v3) (len v3) 0))] := by
 rw [qS, ifF (by omega)]
 by_cases c : 80 < (len v3 : Int)
 ·rw [ifT c, ifT c]
 rw [ifF c, ifF c];refine find (F := fun i => Hu (.int (len v3 : Nat)) (.int (i : Nat)) v0 v1 v2 v3) (n := len v3) (bad := FL v0 v1 v2 v3) (fun j hj => XG hs hn hn1 hn2 hj) ?_
 show Hu _ (.int (len v3 : Nat)) _ _ _ _ = _;rw [kX (h0 := rfl) (h1 := rfl) (h2 := rfl), ifF (by omega)]
theorem UO (hs : B4 v3) (hn : len v3 < 1000) (hn1 : len v1 < 1000) (hn2 : len v2 < 1000) {i : Nat} (hi : i < len v3) (hf : 0 ≤ fd v1 (cl v3 i 0)) : FH (.int (i : Nat)) (.int (fd v1 (cl v3 i 0))) (.int 0) v0 v1 v2 v3 (cl v3 i 0) (cl v3 i 1) (cl v3 i 2) (cl v3 i 3) (cl v3 i 4) (cl v3 i 5) (cl v3 i 6) (cl v3 i 7) (cl v3 i 8) = .row [.int 1, .bool (!(dup v3 i || Qa v0 v1 v3 i))] := by
 obtain ⟨⟨n2, h2⟩, ⟨n6, h6⟩, ⟨n7, h7⟩, ⟨n8, h8⟩, h3, h4⟩ := hs i hi
 have L := DH (F := fun j => FH (.int (i : Nat)) (.int (fd v1 (cl v3 i 0))) (.int (j : Nat)) v0 v1 v2 v3 (cl v3 i 0) (cl v3 i 1) (cl v3 i 2) (cl v3 i 3) (cl v3 i 4) (cl v3 i 5) (cl v3 i 6) (cl v3 i 7) (cl v3 i 8)) (n := i) (bad := DU v3 i) (B := fun _ => .row [.int 1, .bool false]) (fun j hj => by
  show FH (.int (i : Nat)) (.int (fd v1 (cl v3 i 0))) (.int (j : Nat)) v0 v1 v2 v3 (cl v3 i 0) (cl v3 i 1) (cl v3 i 2) (cl v3 i 3) (cl v3 i 4) (cl v3 i 5) (cl v3 i 6) (cl v3 i 7) (cl v3 i 8) = cond _ _ (FH (.int (i : Nat)) (.int (fd v1 (cl v3 i 0))) (.int (j + 1 : Nat)) v0 v1 v2 v3 (cl v3 i 0) (cl v3 i 1) (cl v3 i 2) (cl v3 i 3) (cl v3 i 4) (cl v3 i 5) (cl v3 i 6) (cl v3 i 7) (cl v3 i 8))
  have e : (D.strEq (cl v3 j 0) (cl v3 i 0) && (D.strEq (cl v3 j 1) (cl v3 i 1) && (decide ((cl v3 j 2).toInt = n2) && (D.strEq (cl v3 j 3) (cl v3 i 3) && (D.strEq (cl v3 j 4) (cl v3 i 4) && (D.strEq (cl v3 j 5) (cl v3 i 5) && (decide ((cl v3 j 6).toInt = n6) && (decide ((cl v3 j 7).toInt = n7) && decide ((cl v3 j 8).toInt = n8))))))))) = DU v3 i j := by
   unfold DU;rw [h2, h6, h7, h8];rfl
  rw [← e, h2, h6, h7, h8, ZD, ifT (by omega), ifF (by omega), ifT (by omega), AG (by omega)])
 have L : FH (.int (i : Nat)) (.int (fd v1 (cl v3 i 0))) (.int 0) v0 v1 v2 v3 (cl v3 i 0) (cl v3 i 1) (cl v3 i 2) (cl v3 i 3) (cl v3 i 4) (cl v3 i 5) (cl v3 i 6) (cl v3 i 7) (cl v3 i 8) = cond (decide (fdG (DU v3 i) i 0 < 0)) (FH (.int (i : Nat)) (.int (fd v1 (cl v3 i 0))) (.int (i : Nat)) v0 v1 v2 v3 (cl v3 i 0) (cl v3 i 1) (cl v3 i 2) (cl v3 i 3) (cl v3 i 4) (cl v3 i 5) (cl v3 i 6) (cl v3 i 7) (cl v3 i 8)) (.row [.int 1, .bool false]) := L;rw [L];have e : decide (fdG (DU v3 i) i 0 < 0) = !dup v3 i := by unfold dup; rw [Bool.not_not]
 rw [e];cases dup v3 i
 ·show FH (.int (i : Nat)) (.int (fd v1 (cl v3 i 0))) (.int (i : Nat)) v0 v1 v2 v3 (cl v3 i 0) (cl v3 i 1) (cl v3 i 2) (cl v3 i 3) (cl v3 i 4) (cl v3 i 5) (cl v3 i 6) (cl v3 i 7) (cl v3 i 8) = .row [.int 1, .bool (!Qa v0 v1 v3 i)];have a1 := BL (l := v1) (key := cl v3 i 0);have t2 : (cl v3 i 2).toInt = n2 := by rw [h2]; rfl
  have R : FH (.int (i : Nat)) (.int (fd v1 (cl v3 i 0))) (.int (i : Nat)) v0 v1 v2 v3 (cl v3 i 0) (cl v3 i 1) (.int n2) (cl v3 i 3) (cl v3 i 4) (cl v3 i 5) (.int n6) (.int n7) (.int n8) = .row [.int 1, .bool (!Qa v0 v1 v3 i)] := by
   rw [ZD, ifF (by omega)]
   simp only [NF, Am, Al, Ac, Af, decide_true, cond_true, decide_eq_true a1, decide_eq_false (show ¬ fd v1 (cl v3 i 0) < 0 by omega), cond_false]
   unfold Qa;by_cases k1 : n2 = 1
   ·rw [ifT k1, ifT (t2.trans k1)];cases nm (cl v3 i 3) <;> cases nm (cl v3 i 4) <;> rfl
   rw [ifF k1, ifF (p := (cl v3 i 2).toInt = 1) (by omega)]
   by_cases k2 : n2 = 2
   ·rw [ifT k2, ifT (t2.trans k2)];cases nm (cl v3 i 3) <;> cases nm (cl v3 i 4) <;> rfl
   rw [ifF k2, ifF (p := (cl v3 i 2).toInt = 2) (by omega)]
   by_cases k3 : n2 = 3
   ·rw [ifT k3, ifT (t2.trans k3)];cases eqC (cl v3 i 3) 0 0 <;> cases eqC (cl v3 i 4) 0 0 <;> simp only [cond_true, cond_false, Bool.not_true, Bool.not_false, Bool.not_not]
   rw [ifF k3, ifF (p := (cl v3 i 2).toInt = 3) (by omega)]
   by_cases k4 : n2 = 4
   ·rw [ifT k4, ifT (t2.trans k4)];cases eqC (cl v3 i 3) 0 0 <;> cases eqC (cl v3 i 4) 0 0 <;> rfl
   rw [ifF k4, ifF (p := (cl v3 i 2).toInt = 4) (by omega)]
   rfl
  rw [h2, h6, h7, h8];exact R
 ·rfl
theorem bS (hs : B4 v3) (hn : len v3 < 1000) (hn1 : len v1 < 1000) (hn2 : len v2 < 1000) {i : Nat} (hi : i < len v3) : Sz v0 v1 v2 v3 (.int (i : Nat)) = .row [.int 1, .bool (!FL v0 v1 v2 v3 i)] := by
 rw [mE, ifF (by omega), ifT (by omega)]
 have a1 := BL (l := v1) (key := cl v3 i 0);have a2 := BL (l := v2) (key := cl v3 i 5);simp only [Xe (v0 := v0) (v1 := v1) (v2 := v2) (v3 := v3) (by omega), UC (v0 := v0) (v1 := v1) (v2 := v2) (v3 := v3) (by omega), Am, Al, Ac, Af, decide_true, cond_true, decide_eq_true a2]
 unfold FL;by_cases c : fd v1 (cl v3 i 0) < 0
 ·rw [ifT c, decide_eq_true c]; rfl
 rw [ifF c, decide_eq_false c, UO hs hn hn1 hn2 hi (by omega)]
 unfold Zj;cases decide (fd v1 (cl v3 i 1) < 0) <;> cases dup v3 i <;> cases Qa v0 v1 v3 i <;> simp only [cond_true, cond_false, Bool.true_or, Bool.false_or, Bool.not_true, Bool.not_false]
 all_goals (repeat' (refine LQ (fun h => ?_) (fun h => ?_))) <;> simp only [*, cond_true, cond_false, Bool.not_true, Bool.not_false, Bool.cond_self]
end
end Cs
namespace Cs
open Go Go.AE
section
variable [Ar]
variable {v0 v1 v2 v3 : D}
def Q4 (v2 : D) : Int := cond (decide (4 < (len v2 : Int))) 4 (fdG (IV v2) (len v2) 0)
def PU (v1 : D) : Int := cond (decide ((len v1 : Int) < 1)) 0 (cond (decide (24 < (len v1 : Int))) 24 (fdG (IS v1) (len v1) 0))
def TY (v0 v1 v2 v3 : D) : Int := cond (decide (80 < (len v3 : Int))) 80 (fdG (FL v0 v1 v2 v3) (len v3) 0)
def rok (v0 v1 v2 v3 : D) : Bool := nm v0 && (decide (Q4 v2 < 0) && (decide (PU v1 < 0) && decide (TY v0 v1 v2 v3 < 0)))
theorem qw (hn : len v2 < 1000) : Jp (.int 0) v0 v1 v2 v3 = cond (decide (fdG (IV v2) (len v2) 0 < 0)) (Jp (.int (len v2 : Nat)) v0 v1 v2 v3) (.row [.int 1, .int (fdG (IV v2) (len v2) 0).toNat, .int 291]) :=
 DH (F := fun j => Jp (.int (j : Nat)) v0 v1 v2 v3) (n := len v2) (bad := IV v2) (B := fun j => .row [.int 1, .int (j : Nat), .int 291]) fun j hj => by
  show Jp (.int (j : Nat)) v0 v1 v2 v3 = cond _ _ (Jp (.int (j + 1 : Nat)) v0 v1 v2 v3);have a := Kn hj;rw [Zo, ifT (by omega), ifF (by omega), AG (by omega)]
  simp only [NF, Xe (v0 := v0) (v1 := v1) (v2 := v2) (v3 := v3) (by omega), Am, Al, Ac, Af, decide_true, cond_true]
  unfold IV;by_cases q : fd v2 (cl v2 j 0) < j
  ·rw [ifF (by omega), decide_eq_true q]
   cases nm (cl v2 j 0) <;> rfl
  ·rw [ifT (by omega), decide_eq_false q]
   cases nm (cl v2 j 0) <;> cases decide ((cl v2 j 1).toInt < 1) <;> cases decide (1000 < (cl v2 j 1).toInt) <;> rfl
theorem qJ (hn : len v1 < 1000) : Jg (.int 0) v0 v1 v2 v3 = cond (decide (fdG (IS v1) (len v1) 0 < 0)) (Jg (.int (len v1 : Nat)) v0 v1 v2 v3) (.row [.int 1, .int (fdG (IS v1) (len v1) 0).toNat, .int 292]) :=
 DH (F := fun j => Jg (.int (j : Nat)) v0 v1 v2 v3) (n := len v1) (bad := IS v1) (B := fun j => .row [.int 1, .int (j : Nat), .int 292]) fun j hj => by
  show Jg (.int (j : Nat)) v0 v1 v2 v3 = cond _ _ (Jg (.int (j + 1 : Nat)) v0 v1 v2 v3);have a := Kn hj;rw [ZB, ifT (by omega), ifF (by omega), AG (by omega)]
  simp only [NF, UC (v0 := v0) (v1 := v1) (v2 := v2) (v3 := v3) (by omega), Am, Al, Ac, Af, decide_true, cond_true]
  unfold IS;by_cases q : fd v1 (cl v1 j 0) < j
  ·rw [ifF (by omega), decide_eq_true q]
   cases nm (cl v1 j 0) <;> rfl
  ·rw [ifT (by omega), decide_eq_false q]
   cases nm (cl v1 j 0) <;> cases decide ((cl v1 j 2).toInt < 0) <;> cases decide (1048576 < (cl v1 j 2).toInt) <;> rfl
theorem pF (hs : B4 v3) (hn : len v3 < 1000) (hn1 : len v1 < 1000) (hn2 : len v2 < 1000) : JL (.int 0) v0 v1 v2 v3 = cond (decide (fdG (FL v0 v1 v2 v3) (len v3) 0 < 0)) (JL (.int (len v3 : Nat)) v0 v1 v2 v3) (.row [.int 1, .int (fdG (FL v0 v1 v2 v3) (len v3) 0).toNat, .int 293]) :=
 DH (F := fun j => JL (.int (j : Nat)) v0 v1 v2 v3) (n := len v3) (bad := FL v0 v1 v2 v3) (B := fun j => .row [.int 1, .int (j : Nat), .int 293]) fun j hj => by
  show JL (.int (j : Nat)) v0 v1 v2 v3 = cond _ _ (JL (.int (j + 1 : Nat)) v0 v1 v2 v3);rw [ax, ifT (by omega), AG (by omega)]
  simp only [bS hs hn hn1 hn2 hj, Am, Al, Ac, Af, decide_true, cond_true];cases FL v0 v1 v2 v3 j <;> rfl
theorem WQ (hs : B4 v3) (hn : len v3 < 1000) (hn1 : len v1 < 1000) (hn2 : len v2 < 1000) (v0 : D) : ∃ a e, MA v0 v1 v2 v3 = .row [.int 1, .int a, .int e] ∧ decide (e = 0) = rok v0 v1 v2 v3 := by
 have E : ∀ a e : Int, e ≠ 0 → rok v0 v1 v2 v3 = false → ∃ a' e', D.row [.int 1, .int a, .int e] = .row [.int 1, .int a', .int e'] ∧ decide (e' = 0) = rok v0 v1 v2 v3 := fun a e h q => ⟨a, e, rfl, by rw [q]; exact decide_eq_false h⟩
 rw [gH];simp only [NF, Am, Al, Ac, Af, decide_true, cond_true];cases c0 : nm v0
 ·exact E _ _ (by omega) (by unfold rok; rw [c0]; rfl)
 by_cases c1 : 4 < (len v2 : Int)
 ·rw [ifT c1];exact E _ _ (by omega) (by unfold rok Q4; rw [c0, ifT c1]; rfl)
 rw [ifF c1, qw hn2];by_cases c2 : fdG (IV v2) (len v2) 0 < 0;rotate_left
 ·rw [ifF c2];exact E _ _ (by omega) (by unfold rok Q4; rw [c0, ifF c1, decide_eq_false c2]; rfl)
 rw [ifT c2, Zo, ifF (by omega)]
 have k1 : decide (Q4 v2 < 0) = true := by unfold Q4; rw [ifF c1]; exact decide_eq_true c2
 by_cases c3 : (len v1 : Int) = 0
 ·rw [ifT c3];exact E _ _ (by omega) (by unfold rok; rw [c0, k1]; unfold PU; rw [ifT (by omega)]; rfl)
 rw [ifF c3];by_cases c4 : 24 < (len v1 : Int)
 ·rw [ifT c4];exact E _ _ (by omega) (by unfold rok; rw [c0, k1]; unfold PU; rw [ifF (by omega), ifT c4]; rfl)
 rw [ifF c4, qJ hn1];by_cases c5 : fdG (IS v1) (len v1) 0 < 0;rotate_left
 ·rw [ifF c5];exact E _ _ (by omega) (by unfold rok; rw [c0, k1]; unfold PU; rw [ifF (by omega), ifF c4, decide_eq_false c5]; rfl)
 rw [ifT c5, ZB, ifF (by omega)]
 have k2 : decide (PU v1 < 0) = true := by unfold PU; rw [ifF (by omega), ifF c4]; exact decide_eq_true c5
 by_cases c6 : 80 < (len v3 : Int)
 ·rw [ifT c6];exact E _ _ (by omega) (by unfold rok; rw [c0, k1, k2]; unfold TY; rw [ifT c6]; rfl)
 rw [ifF c6, pF hs hn hn1 hn2];by_cases c7 : fdG (FL v0 v1 v2 v3) (len v3) 0 < 0;rotate_left
 ·rw [ifF c7];exact E _ _ (by omega) (by unfold rok; rw [c0, k1, k2]; unfold TY; rw [ifF c6, decide_eq_false c7]; rfl)
 rw [ifT c7, ax, ifF (by omega)]
 exact ⟨0, 0, rfl, by unfold rok; rw [c0, k1, k2]; unfold TY; rw [ifF c6, decide_eq_true c7]; rfl⟩
end
end Cs
namespace Cs
open Go Go.AE
def Di (l : D) (i : Nat) : Bool := !decide (fdG (fun j => D.strEq (cl l j 0) (cl l i 0)) i 0 < 0)
def GY (v1 v5 v8 : D) (i : Nat) : Bool := decide (fd v1 (cl v8 i 0) < 0) || (decide (fd v5 (cl v8 i 1) < 0) || Di v8 i)
def GX (v2 v6 v9 : D) (i : Nat) : Bool := decide (fd v6 (cl v9 i 0) < 0) || ((!eqC (cl v9 i 1) 0 0 && decide (fd v2 (cl v9 i 1) < 0)) || (Di v9 i || (decide (1000 < (cl v9 i 2).toInt) || decide ((cl v9 i 2).toInt < (-1000)))))
section
variable [Ar]
variable {v0 v1 v2 v3 v4 v5 v6 v7 v8 v9 : D}
def chk (v0 v1 v2 v3 v4 v5 v6 v7 v8 v9 : D) : D := cond (rok v0 v1 v2 v3) (cond (rok v4 v5 v6 v7) (cond (decide (24 < (len v8 : Int))) (.row [.int 1, .int 24, .int 490])
 (cond (decide (fdG (GY v1 v5 v8) (len v8) 0 < 0)) (cond (decide (4 < (len v9 : Int))) (.row [.int 1, .int 4, .int 491])
  (cond (decide (fdG (GX v2 v6 v9) (len v9) 0 < 0)) (.row [.int 1, .int 0, .int 0]) (.row [.int 1, .int (fdG (GX v2 v6 v9) (len v9) 0).toNat, .int 491])))
  (.row [.int 1, .int (fdG (GY v1 v5 v8) (len v8) 0).toNat, .int 490]))) (.row [.int 1, .int 0, .int 2])) (.row [.int 1, .int 0, .int 2])
theorem qu (hn1 : len v1 < 1000) (hn5 : len v5 < 1000) (hn : len v8 < 1000) {b : Bool} : Gn v0 v1 v2 v3 v4 v5 v6 v7 v8 v9 (.bool b) (.int 0) Aw = cond (decide (fdG (GY v1 v5 v8) (len v8) 0 < 0)) (Gn v0 v1 v2 v3 v4 v5 v6 v7 v8 v9 (.bool b) (.int (len v8 : Nat)) (CZ (fun j => cl v8 j 0) (len v8))) (.row [.int 1, .int (fdG (GY v1 v5 v8) (len v8) 0).toNat, .int 490]) :=
 DH (F := fun j => Gn v0 v1 v2 v3 v4 v5 v6 v7 v8 v9 (.bool b) (.int (j : Nat)) (CZ (fun j => cl v8 j 0) j)) (n := len v8) (bad := GY v1 v5 v8) (B := fun j => .row [.int 1, .int (j : Nat), .int 490]) fun i hi => by
  show Gn v0 v1 v2 v3 v4 v5 v6 v7 v8 v9 (.bool b) (.int (i : Nat)) (CZ (fun j => cl v8 j 0) i) = cond _ _ (Gn v0 v1 v2 v3 v4 v5 v6 v7 v8 v9 (.bool b) (.int (i + 1 : Nat)) (CZ (fun j => cl v8 j 0) (i + 1)))
  rw [ZL, ifT (by omega), ifF (by omega), AG (by omega)]
  simp only [R5 (v0 := v1) (by omega), R5 (v0 := v5) (by omega), Am, Al, Ac, Af, decide_true, cond_true, PT]
  unfold GY Di;cases decide (fd v1 (cl v8 i 0) < 0) <;> cases decide (fd v5 (cl v8 i 1) < 0) <;> simp only [cond_true, cond_false, Bool.true_or, Bool.false_or]
  by_cases q : fdG (fun j => D.strEq (cl v8 j 0) (cl v8 i 0)) i 0 < 0
  ·rw [ifT q, decide_eq_true q];show Gn v0 v1 v2 v3 v4 v5 v6 v7 v8 v9 (.bool b) (.int (i + 1 : Nat)) (ad (CZ (fun j => cl v8 j 0) i) (.row [(fun j : Nat => cl v8 j 0) i, .bool true])) = Gn v0 v1 v2 v3 v4 v5 v6 v7 v8 v9 (.bool b) (.int (i + 1 : Nat)) (CZ (fun j => cl v8 j 0) (i + 1))
   rw [LN]
  ·have a := D6 (p := fun j => D.strEq (cl v8 j 0) (cl v8 i 0)) (k := i) (i := 0)
   rw [ifF q, decide_eq_false q, Ks (by omega) (by omega)]
   rfl
theorem Xo {n : Int} {α : Type} {x y z : α} (hz : z = cond (decide (1000 < n) || decide (n < (-1000))) x y) : cond (decide (n < IntKind.wrap .i64 (0 - n))) (cond (decide (1000 < IntKind.wrap .i64 (0 - n))) x (cond (decide (n < (-1000))) x y)) (cond (decide (1000 < n)) x (cond (decide (n < (-1000))) x y)) = z := by
 subst hz;by_cases c : 1000 < n
 ·rw [decide_eq_true c, Bool.true_or, cond_true];by_cases q : n < IntKind.wrap .i64 (0 - n)
  ·rw [ifT q, ifT (by omega)]; rfl
  ·rw [ifF q]; rfl
 rw [decide_eq_false c, Bool.false_or, cond_false];by_cases d : n < -1000
 ·rw [ifT d, Bool.cond_self, Bool.cond_self]
 ·rw [ifF d, BI (by omega) (by omega), ifF (p := 1000 < 0 - n) (by omega), Bool.cond_self]
theorem qj (hn2 : len v2 < 1000) (hn6 : len v6 < 1000) (hn : len v9 < 1000) {b c d : Bool} {m : Int} : Eh v0 v1 v2 v3 v4 v5 v6 v7 v8 v9 (.bool b) (.int m) (.bool c) (.bool d) (.int 0) Aw = cond (decide (fdG (GX v2 v6 v9) (len v9) 0 < 0)) (Eh v0 v1 v2 v3 v4 v5 v6 v7 v8 v9 (.bool b) (.int m) (.bool c) (.bool d) (.int (len v9 : Nat)) (CZ (fun j => cl v9 j 0) (len v9))) (.row [.int 1, .int (fdG (GX v2 v6 v9) (len v9) 0).toNat, .int 491]) :=
 DH (F := fun j => Eh v0 v1 v2 v3 v4 v5 v6 v7 v8 v9 (.bool b) (.int m) (.bool c) (.bool d) (.int (j : Nat)) (CZ (fun j => cl v9 j 0) j)) (n := len v9) (bad := GX v2 v6 v9) (B := fun j => .row [.int 1, .int (j : Nat), .int 491]) fun i hi => by
  show Eh v0 v1 v2 v3 v4 v5 v6 v7 v8 v9 (.bool b) (.int m) (.bool c) (.bool d) (.int (i : Nat)) (CZ (fun j => cl v9 j 0) i) = cond _ _ (Eh v0 v1 v2 v3 v4 v5 v6 v7 v8 v9 (.bool b) (.int m) (.bool c) (.bool d) (.int (i + 1 : Nat)) (CZ (fun j => cl v9 j 0) (i + 1)))
  have hs : ad (CZ (fun j => cl v9 j 0) i) (.row [cl v9 i 0, .bool true]) = CZ (fun j => cl v9 j 0) (i + 1) := LN (f := fun j => cl v9 j 0)
  rw [Z9, ifT (by omega), ifF (by omega), AG (by omega)]
  simp only [Ta (v0 := v2) (by omega), Ta (v0 := v6) (by omega), Am, Al, Ac, Af, decide_true, cond_true, PT, hs]
  unfold GX Di;by_cases q : fdG (fun j => D.strEq (cl v9 j 0) (cl v9 i 0)) i 0 < 0
  ·simp only [ifT q, decide_eq_true q];cases decide (fd v6 (cl v9 i 0) < 0) <;> cases eqC (cl v9 i 1) 0 0 <;> cases decide (fd v2 (cl v9 i 1) < 0) <;> first | rfl | (simp only [cond_true, cond_false, Bool.true_or, Bool.false_or, Bool.not_true, Bool.not_false, Bool.true_and, Bool.false_and]; exact Xo rfl)
  ·have a := D6 (p := fun j => D.strEq (cl v9 j 0) (cl v9 i 0)) (k := i) (i := 0)
   simp only [ifF q, decide_eq_false q, Ks (f := fun j : Nat => cl v9 j 0) (i := i) (j := fdG (fun j => D.strEq (cl v9 j 0) (cl v9 i 0)) i 0) (by omega) (by omega)]
   cases decide (fd v6 (cl v9 i 0) < 0) <;> cases eqC (cl v9 i 1) 0 0 <;> cases decide (fd v2 (cl v9 i 1) < 0) <;> rfl
theorem cP (hs : B4 v3) (hs7 : B4 v7) (hn1 : len v1 < 1000) (hn2 : len v2 < 1000) (hn3 : len v3 < 1000) (hn5 : len v5 < 1000) (hn6 : len v6 < 1000) (hn7 : len v7 < 1000) (hn8 : len v8 < 1000) (hn9 : len v9 < 1000) : NC v0 v1 v2 v3 v4 v5 v6 v7 v8 v9 = chk v0 v1 v2 v3 v4 v5 v6 v7 v8 v9 := by
 rw [oD];simp only [Sv, ZA (v2 := v2) hn2, ZA (v2 := v6) hn6, ZG (v1 := v1) hn1, ZG (v1 := v5) hn5, Zw hs hn3 hn1 hn2, Zw hs7 hn7 hn5 hn6, Am, Al, Ac, Af, decide_true, cond_true, qu hn1 hn5 hn8];unfold chk rok Q4 PU TY;cases nm v0 <;> simp only [cond_true, cond_false, Bool.true_and, Bool.false_and]
 cases decide ((cond (decide (4 < (len v2 : Int))) 4 (fdG (IV v2) (len v2) 0)) < 0) <;> simp only [cond_true, cond_false, Bool.true_and, Bool.false_and]
 cases decide ((cond (decide ((len v1 : Int) < 1)) 0 (cond (decide (24 < (len v1 : Int))) 24 (fdG (IS v1) (len v1) 0))) < 0) <;> simp only [cond_true, cond_false, Bool.true_and, Bool.false_and]
 cases decide ((cond (decide (80 < (len v3 : Int))) 80 (fdG (FL v0 v1 v2 v3) (len v3) 0)) < 0) <;> simp only [cond_true, cond_false, Bool.true_and, Bool.false_and]
 cases nm v4 <;> simp only [cond_true, cond_false, Bool.true_and, Bool.false_and]
 cases decide ((cond (decide (4 < (len v6 : Int))) 4 (fdG (IV v6) (len v6) 0)) < 0) <;> simp only [cond_true, cond_false, Bool.true_and, Bool.false_and]
 cases decide ((cond (decide ((len v5 : Int) < 1)) 0 (cond (decide (24 < (len v5 : Int))) 24 (fdG (IS v5) (len v5) 0))) < 0) <;> simp only [cond_true, cond_false, Bool.true_and, Bool.false_and]
 cases decide ((cond (decide (80 < (len v7 : Int))) 80 (fdG (FL v4 v5 v6 v7) (len v7) 0)) < 0) <;> simp only [cond_true, cond_false, Bool.true_and, Bool.false_and]
 congr 2
 rw [ZL, ifF (by omega), qj hn2 hn6 hn9]
 congr 2
 rw [Z9, ifF (by omega)]
theorem qM {v0 v1 v2 v3 v4 v5 v6 v7 v8 v9 : D} (hn : len v8 < 1000) {i : Nat} (hi : i < len v8) {b : Bool} : Gb (.int (i : Nat)) (.bool b) (.int 0) v0 v1 v2 v3 v4 v5 v6 v7 v8 v9 = cond (b || Di v8 i) (.row [.int 1, .int (i : Nat), .int 490]) (HP (.int (i + 1 : Nat)) v0 v1 v2 v3 v4 v5 v6 v7 v8 v9) := by
 have A := Tc (G := fun b j => Gb (.int (i : Nat)) (.bool b) (.int (j : Nat)) v0 v1 v2 v3 v4 v5 v6 v7 v8 v9) (b := b) (n := i) (p := fun j => D.strEq (cl v8 j 0) (cl v8 i 0)) (fun b j hj => by
  show Gb (.int (i : Nat)) (.bool b) (.int (j : Nat)) v0 v1 v2 v3 v4 v5 v6 v7 v8 v9 = cond b (Gb (.int (i : Nat)) (.bool true) (.int (j + 1 : Nat)) v0 v1 v2 v3 v4 v5 v6 v7 v8 v9) (Gb (.int (i : Nat)) (.bool (D.strEq (cl v8 j 0) (cl v8 i 0))) (.int (j + 1 : Nat)) v0 v1 v2 v3 v4 v5 v6 v7 v8 v9);rw [Zz, ifT (by omega), AG (by omega), ifF (by omega), ifT (by omega), ifF (by omega), ifT (by omega)])
 refine A.trans ?_;show Gb (.int (i : Nat)) (.bool (b || Di v8 i)) (.int (i : Nat)) v0 v1 v2 v3 v4 v5 v6 v7 v8 v9 = _;rw [Zz, ifF (by omega), AG (by omega)]
theorem qh {v0 v1 v2 v3 v4 v5 v6 v7 v8 v9 : D} (hn1 : len v1 < 1000) (hn5 : len v5 < 1000) (hn : len v8 < 1000) : HP (.int 0) v0 v1 v2 v3 v4 v5 v6 v7 v8 v9 = cond (decide (fdG (GY v1 v5 v8) (len v8) 0 < 0)) (HP (.int (len v8 : Nat)) v0 v1 v2 v3 v4 v5 v6 v7 v8 v9) (.row [.int 1, .int (fdG (GY v1 v5 v8) (len v8) 0).toNat, .int 490]) :=
 DH (F := fun j => HP (.int (j : Nat)) v0 v1 v2 v3 v4 v5 v6 v7 v8 v9) (n := len v8) (bad := GY v1 v5 v8) (B := fun j => .row [.int 1, .int (j : Nat), .int 490]) fun i hi => by
  show HP (.int (i : Nat)) v0 v1 v2 v3 v4 v5 v6 v7 v8 v9 = cond _ _ (HP (.int (i + 1 : Nat)) v0 v1 v2 v3 v4 v5 v6 v7 v8 v9);rw [Zt, ifT (by omega), ifF (by omega)]
  simp only [LE (v0 := v0) (v1 := v1) (v2 := v2) (v3 := v3) (by omega), LE (v0 := v4) (v1 := v5) (v2 := v6) (v3 := v7) (by omega), Am, Al, Ac, Af, decide_true, cond_true, qM hn hi]
  unfold GY;cases decide (fd v1 (cl v8 i 0) < 0) <;> cases decide (fd v5 (cl v8 i 1) < 0) <;> rfl
theorem qp {v0 v1 v2 v3 v4 v5 v6 v7 v8 v9 x : D} {n : Int} (hn : len v9 < 1000) {i : Nat} (hi : i < len v9) {b : Bool} : DN (.int (i : Nat)) (.bool b) (.int 0) v0 v1 v2 v3 v4 v5 v6 v7 v8 v9 (cl v9 i 0) x (.int n) = cond (b || Di v9 i) (.row [.int 1, .int (i : Nat), .int 491]) (G4 (.int (i + 1 : Nat)) v0 v1 v2 v3 v4 v5 v6 v7 v8 v9) := by
 have A := Tc (G := fun b j => DN (.int (i : Nat)) (.bool b) (.int (j : Nat)) v0 v1 v2 v3 v4 v5 v6 v7 v8 v9 (cl v9 i 0) x (.int n)) (b := b) (n := i) (p := fun j => D.strEq (cl v9 j 0) (cl v9 i 0)) (fun b j hj => by
  show DN (.int (i : Nat)) (.bool b) (.int (j : Nat)) v0 v1 v2 v3 v4 v5 v6 v7 v8 v9 (cl v9 i 0) x (.int n) = cond b (DN (.int (i : Nat)) (.bool true) (.int (j + 1 : Nat)) v0 v1 v2 v3 v4 v5 v6 v7 v8 v9 (cl v9 i 0) x (.int n)) (DN (.int (i : Nat)) (.bool (D.strEq (cl v9 j 0) (cl v9 i 0))) (.int (j + 1 : Nat)) v0 v1 v2 v3 v4 v5 v6 v7 v8 v9 (cl v9 i 0) x (.int n));rw [aB, ifT (by omega), AG (by omega), ifF (by omega), ifT (by omega)])
 refine A.trans ?_;show DN (.int (i : Nat)) (.bool (b || Di v9 i)) (.int (i : Nat)) v0 v1 v2 v3 v4 v5 v6 v7 v8 v9 (cl v9 i 0) x (.int n) = _;rw [aB, ifF (by omega), AG (by omega)]
def Ej (v9 : D) : Prop := ∀ i : Nat, i < len v9 → ∃ n, cl v9 i 2 = .int n
theorem kA {v0 v1 v2 v3 v4 v5 v6 v7 v8 v9 x : D} (hp : Ej v9) (hn : len v9 < 1000) {i : Nat} (hi : i < len v9) {b : Bool} : DN (.int (i : Nat)) (.bool b) (.int 0) v0 v1 v2 v3 v4 v5 v6 v7 v8 v9 (cl v9 i 0) x (cl v9 i 2) = cond (b || Di v9 i) (.row [.int 1, .int (i : Nat), .int 491]) (G4 (.int (i + 1 : Nat)) v0 v1 v2 v3 v4 v5 v6 v7 v8 v9) := by
 obtain ⟨n, h2⟩ := hp i hi;rw [h2];exact qp hn hi
theorem qL {v0 v1 v2 v3 v4 v5 v6 v7 v8 v9 : D} (hp : Ej v9) (hn2 : len v2 < 1000) (hn6 : len v6 < 1000) (hn : len v9 < 1000) : G4 (.int 0) v0 v1 v2 v3 v4 v5 v6 v7 v8 v9 = cond (decide (fdG (GX v2 v6 v9) (len v9) 0 < 0)) (G4 (.int (len v9 : Nat)) v0 v1 v2 v3 v4 v5 v6 v7 v8 v9) (.row [.int 1, .int (fdG (GX v2 v6 v9) (len v9) 0).toNat, .int 491]) :=
 DH (F := fun j => G4 (.int (j : Nat)) v0 v1 v2 v3 v4 v5 v6 v7 v8 v9) (n := len v9) (bad := GX v2 v6 v9) (B := fun j => .row [.int 1, .int (j : Nat), .int 491]) fun i hi => by
  show G4 (.int (i : Nat)) v0 v1 v2 v3 v4 v5 v6 v7 v8 v9 = cond _ _ (G4 (.int (i + 1 : Nat)) v0 v1 v2 v3 v4 v5 v6 v7 v8 v9);rw [Z5, ifT (by omega), ifF (by omega)]
  unfold GX;simp only [I4 (v0 := v0) (v1 := v1) (v2 := v2) (v3 := v3) (by omega), I4 (v0 := v4) (v1 := v5) (v2 := v6) (v3 := v7) (by omega), Am, Al, Ac, Af, decide_true, cond_true, kA hp hn hi]
  cases decide (fd v6 (cl v9 i 0) < 0) <;> cases eqC (cl v9 i 1) 0 0 <;> cases decide (fd v2 (cl v9 i 1) < 0) <;> cases Di v9 i <;> cases decide (1000 < (cl v9 i 2).toInt) <;> simp only [cond_true, cond_false, Bool.true_or, Bool.false_or, Bool.or_true, Bool.or_false, Bool.not_true, Bool.not_false, Bool.true_and, Bool.false_and]
theorem cG (hs : B4 v3) (hs7 : B4 v7) (hp : Ej v9) (hn1 : len v1 < 1000) (hn2 : len v2 < 1000) (hn3 : len v3 < 1000) (hn5 : len v5 < 1000) (hn6 : len v6 < 1000) (hn7 : len v7 < 1000) (hn8 : len v8 < 1000) (hn9 : len v9 < 1000) : Nu v0 v1 v2 v3 v4 v5 v6 v7 v8 v9 = chk v0 v1 v2 v3 v4 v5 v6 v7 v8 v9 := by
 obtain ⟨a, e, h1, h2⟩ := WQ hs hn3 hn1 hn2 v0;obtain ⟨a', e', h1', h2'⟩ := WQ hs7 hn7 hn5 hn6 v4;rw [gJ];simp only [h1, h1', Am, Al, Ac, Af, decide_true, cond_true, qh hn1 hn5 hn8];unfold chk;by_cases c : e = 0;rotate_left
 ·rw [ifF c, ← h2, ifF c]
 rw [ifT c, ← h2, ifT c];by_cases c' : e' = 0;rotate_left
 ·rw [ifF c', ← h2', ifF c']
 rw [ifT c', ← h2', ifT c']
 congr 2
 rw [Zt, ifF (by omega), qL hp hn2 hn6 hn9]
 congr 2
 rw [Z5, ifF (by omega)]
end
end Cs
namespace Cs
open Go Go.AE
section
variable [Ar]
variable {v0 v1 v2 v3 v4 v5 v10 v11 : D}
def Mi (v2 v11 : D) (i : Nat) : Bool := decide ((cl v11 i 0).toInt < 0) || decide ((cl v2 i 1).toInt < (cl v11 i 0).toInt)
def isC (v1 v2 v10 v11 : D) : Bool := !decide (fd v1 v10 < 0) && (decide ((len v11 : Int) = (len v2 : Int)) && decide (fdG (Mi v2 v11) (len v11) 0 < 0))
def aj (v11 : D) : Prop := ∀ i : Nat, i < len v11 → ∃ n, cl v11 i 0 = .int n
def kv (v11 : D) (j : Nat) : Int := if j < len v11 then (cl v11 j 0).toInt else 0
theorem aj.at {v11 : D} (h : aj v11) {j : Nat} (hj : j < len v11) : cl v11 j 0 = .int (kv v11 j) := by
 obtain ⟨n, e⟩ := h j hj;unfold kv;rw [if_pos hj, e];rfl
theorem dy {b : Bool} (hn1 : len v1 < 1000) (hn2 : len v2 < 1000) : Sl v0 v1 v2 v3 v10 v11 (.bool b) = .row [.int 1, .bool (isC v1 v2 v10 v11)] := by
 rw [gh];simp only [LE (v0 := v0) (v1 := v1) (v2 := v2) (v3 := v3) (by omega), Am, Al, Ac, Af, decide_true, cond_true]
 unfold isC;by_cases c1 : fd v1 v10 < 0
 ·rw [ifT c1, decide_eq_true c1];rfl
 rw [ifF c1, decide_eq_false c1];by_cases c2 : (len v11 : Int) = (len v2 : Int);rotate_left
 ·rw [ifF c2, decide_eq_false c2];rfl
 rw [ifT c2, decide_eq_true c2]
 have L := DH (F := fun j => Is (.int (j : Nat)) v11 v0 v1 v2 v3 v10 (.bool b)) (n := len v11) (bad := Mi v2 v11) (B := fun _ => .row [.int 1, .bool false]) (fun j hj => by
  show Is (.int (j : Nat)) v11 v0 v1 v2 v3 v10 (.bool b) = cond _ _ (Is (.int (j + 1 : Nat)) v11 v0 v1 v2 v3 v10 (.bool b));rw [Z4, ifT (by omega), ifF (by omega), AG (by omega), ifT (p := (j : Int) < (len v2 : Int)) (by omega)]
  unfold Mi;cases decide ((cl v11 j 0).toInt < 0) <;> cases decide ((cl v2 j 1).toInt < (cl v11 j 0).toInt) <;> rfl)
 refine (show Is (.int 0) v11 v0 v1 v2 v3 v10 (.bool b) = _ from L).trans ?_
 show cond (decide (fdG (Mi v2 v11) (len v11) 0 < 0)) (Is (.int (len v11 : Nat)) v11 v0 v1 v2 v3 v10 (.bool b)) (.row [.int 1, .bool false]) = _;rw [show Is (.int (len v11 : Nat)) v11 v0 v1 v2 v3 v10 (.bool b) = .row [.int 1, .bool true] from by rw [Z4, ifF (by omega)]]
 cases decide (fdG (Mi v2 v11) (len v11) 0 < 0) <;> rfl
end
end Cs
namespace Cs
open Go Go.AE
def pl (v6 v9 : D) (i : Nat) : Int := fd v6 (cl v9 i 0)
def pv (v2 v9 v11 : D) (i : Nat) : Int := cond (decide (fd v2 (cl v9 i 1) < 0)) (cl v9 i 2).toInt (IntKind.wrap .i64 ((cl v9 i 2).toInt + kv v11 (fd v2 (cl v9 i 1)).toNat))
def vs (v2 v6 v9 v11 : D) (j : Nat) : Nat → Int
 | 0 => 0
 | i + 1 => if pl v6 v9 i = j then pv v2 v9 v11 i else vs v2 v6 v9 v11 j i
theorem Fh {v2 v6 v9 v11 : D} {j i : Nat} : vs v2 v6 v9 v11 j (i + 1) = if pl v6 v9 i = j then pv v2 v9 v11 i else vs v2 v6 v9 v11 j i := rfl
def Hh (v2 v6 v9 v11 : D) (i : Nat) : Bool := decide (pv v2 v9 v11 i < 0) || decide ((cl v6 (pl v6 v9 i) 1).toInt < pv v2 v9 v11 i)
section
variable [Ar]
variable {v0 v1 v2 v3 v4 v5 v6 v7 v8 v9 v10 v11 : D}
theorem dr {a b c d : Int} {st : Nat} (hn : len v8 < 1000) (h : st < len v1) : KN v8 v0 v1 v2 v3 (.int (st : Nat)) (.int a) (.int b) (.int c) (.int d) = .row [.int 1, .int (fd v8 (cl v1 st 0))] := by
 rw [nU];refine find (F := fun j => MN v8 (.int (j : Nat)) v0 v1 v2 v3 (.int (st : Nat)) (.int a) (.int b) (.int c) (.int d)) (n := len v8) (bad := fun j => D.strEq (cl v8 j 0) (cl v1 st 0)) (fun j hj => ?_) ?_
 ·show MN v8 (.int (j : Nat)) v0 v1 v2 v3 (.int (st : Nat)) (.int a) (.int b) (.int c) (.int d) = _;rw [aF, ifT (by omega), ifF (by omega), AG (by omega), ifF (by omega), ifT (by omega)]
 ·show MN v8 (.int (len v8 : Nat)) v0 v1 v2 v3 (.int (st : Nat)) (.int a) (.int b) (.int c) (.int d) = _;rw [aF, ifF (by omega)]
theorem UG {st st' : Int} (hp : Ej v9) (hn : len v9 < 1000) (h2 : len v2 ≤ 4) (h6 : len v6 ≤ 4) {i : Nat} (hi : i < len v9) (h0 : 0 ≤ pl v6 v9 i) :
  Bo v9 (.int (i : Nat)) v0 v1 v2 v3 v4 v5 v6 v7 (.int st) (.int (kv v11 0)) (.int (kv v11 1)) (.int (kv v11 2)) (.int (kv v11 3)) (.int st') (.int (vs v2 v6 v9 v11 0 i)) (.int (vs v2 v6 v9 v11 1 i)) (.int (vs v2 v6 v9 v11 2 i)) (.int (vs v2 v6 v9 v11 3 i)) =
   cond (Hh v2 v6 v9 v11 i) (.row [.int 1, .int 0, .int 0, .int 0, .int 0, .int 0, .int 3]) (Bo v9 (.int (i + 1 : Nat)) v0 v1 v2 v3 v4 v5 v6 v7 (.int st) (.int (kv v11 0)) (.int (kv v11 1)) (.int (kv v11 2)) (.int (kv v11 3)) (.int st') (.int (vs v2 v6 v9 v11 0 (i + 1))) (.int (vs v2 v6 v9 v11 1 (i + 1))) (.int (vs v2 v6 v9 v11 2 (i + 1))) (.int (vs v2 v6 v9 v11 3 (i + 1)))) := by
 obtain ⟨n, hv⟩ := hp i hi;have hv' : cl v9 i 2 = .int (cl v9 i 2).toInt := by rw [hv]; rfl
 have l1 : pl v6 v9 i < len v6 := BL;have l2 := BL (l := v2) (key := cl v9 i 1);have g2 := SV (l := v2) (key := cl v9 i 1);have hpl : fd v6 (cl v9 i 0) = pl v6 v9 i := rfl;rw [ay (h0 := rfl), ifT (by omega), ifF (by omega), AG (by omega)]
 simp only [Ta (v0 := v6) (by omega), Ta (v0 := v2) (by omega), Am, Al, Ac, decide_true, cond_true, hpl, decide_eq_true l1, decide_eq_false (show ¬ pl v6 v9 i < 0 by omega), cond_false]
 have key : ∀ w : Int, pv v2 v9 v11 i = w → cond (decide (w < 0)) (D.row [.int 1, .int 0, .int 0, .int 0, .int 0, .int 0, .int 3]) (cond (decide ((cl v6 (pl v6 v9 i) 1).toInt < w)) (D.row [.int 1, .int 0, .int 0, .int 0, .int 0, .int 0, .int 3])
   (cond (decide (pl v6 v9 i = 0)) (Bo v9 (.int (i + 1 : Nat)) v0 v1 v2 v3 v4 v5 v6 v7 (.int st) (.int (kv v11 0)) (.int (kv v11 1)) (.int (kv v11 2)) (.int (kv v11 3)) (.int st') (.int w) (.int (vs v2 v6 v9 v11 1 i)) (.int (vs v2 v6 v9 v11 2 i)) (.int (vs v2 v6 v9 v11 3 i)))
   (cond (decide (pl v6 v9 i = 1)) (Bo v9 (.int (i + 1 : Nat)) v0 v1 v2 v3 v4 v5 v6 v7 (.int st) (.int (kv v11 0)) (.int (kv v11 1)) (.int (kv v11 2)) (.int (kv v11 3)) (.int st') (.int (vs v2 v6 v9 v11 0 i)) (.int w) (.int (vs v2 v6 v9 v11 2 i)) (.int (vs v2 v6 v9 v11 3 i)))
   (cond (decide (pl v6 v9 i = 2)) (Bo v9 (.int (i + 1 : Nat)) v0 v1 v2 v3 v4 v5 v6 v7 (.int st) (.int (kv v11 0)) (.int (kv v11 1)) (.int (kv v11 2)) (.int (kv v11 3)) (.int st') (.int (vs v2 v6 v9 v11 0 i)) (.int (vs v2 v6 v9 v11 1 i)) (.int w) (.int (vs v2 v6 v9 v11 3 i)))
   (cond (decide (pl v6 v9 i = 3)) (Bo v9 (.int (i + 1 : Nat)) v0 v1 v2 v3 v4 v5 v6 v7 (.int st) (.int (kv v11 0)) (.int (kv v11 1)) (.int (kv v11 2)) (.int (kv v11 3)) (.int st') (.int (vs v2 v6 v9 v11 0 i)) (.int (vs v2 v6 v9 v11 1 i)) (.int (vs v2 v6 v9 v11 2 i)) (.int w)) (D.row [])))))) =
   cond (Hh v2 v6 v9 v11 i) (.row [.int 1, .int 0, .int 0, .int 0, .int 0, .int 0, .int 3]) (Bo v9 (.int (i + 1 : Nat)) v0 v1 v2 v3 v4 v5 v6 v7 (.int st) (.int (kv v11 0)) (.int (kv v11 1)) (.int (kv v11 2)) (.int (kv v11 3)) (.int st') (.int (vs v2 v6 v9 v11 0 (i + 1))) (.int (vs v2 v6 v9 v11 1 (i + 1))) (.int (vs v2 v6 v9 v11 2 (i + 1))) (.int (vs v2 v6 v9 v11 3 (i + 1)))) := by
  intro w hw;unfold Hh;simp only [Fh, hw];cases decide (w < 0);rotate_left
  ·rfl
  cases decide ((cl v6 (pl v6 v9 i) 1).toInt < w);rotate_left
  ·rfl
  simp only [cond_false, Bool.false_or];by_cases k0 : pl v6 v9 i = 0
  ·rw [ifT k0, if_pos (by omega), if_neg (by omega), if_neg (by omega), if_neg (by omega)]
  rw [ifF k0];by_cases k1 : pl v6 v9 i = 1
  ·rw [ifT k1, if_neg (by omega), if_pos (by omega), if_neg (by omega), if_neg (by omega)]
  rw [ifF k1];by_cases k2 : pl v6 v9 i = 2
  ·rw [ifT k2, if_neg (by omega), if_neg (by omega), if_pos (by omega), if_neg (by omega)]
  rw [ifF k2];have k3 : pl v6 v9 i = 3 := by omega
  rw [ifT k3, if_neg (by omega), if_neg (by omega), if_neg (by omega), if_pos (by omega)]
 have pvT : fd v2 (cl v9 i 1) < 0 → pv v2 v9 v11 i = (cl v9 i 2).toInt := fun h => ifT h
 have pvF : ∀ m : Nat, fd v2 (cl v9 i 1) = m → pv v2 v9 v11 i = IntKind.wrap .i64 ((cl v9 i 2).toInt + kv v11 m) := fun m h => by
  unfold pv;rw [ifF (by omega), h]
  rfl
 rcases g2 with g | g
 ·rw [ifT (by omega)]
  refine Eq.trans ?_ (key _ (pvT (by omega)))
  rw [← hv']
 rw [ifF (by omega)]
 by_cases k0 : fd v2 (cl v9 i 1) = 0
 ·rw [ifT k0];exact key _ (pvF 0 k0)
 rw [ifF k0];by_cases k1 : fd v2 (cl v9 i 1) = 1
 ·rw [ifT k1];exact key _ (pvF 1 k1)
 rw [ifF k1];by_cases k2 : fd v2 (cl v9 i 1) = 2
 ·rw [ifT k2];exact key _ (pvF 2 k2)
 rw [ifF k2];have k3 : fd v2 (cl v9 i 1) = 3 := by omega
 rw [ifT k3];exact key _ (pvF 3 k3)
theorem dI {st : Nat} (hp : Ej v9) (hn5 : len v5 < 1000) (hn8 : len v8 < 1000) (hn : len v9 < 1000) (h2 : len v2 ≤ 4) (h6 : len v6 ≤ 4) (hst : st < len v1) (h0 : ∀ i, i < len v9 → 0 ≤ pl v6 v9 i) :
  OY v0 v1 v2 v3 v4 v5 v6 v7 v8 v9 (.int (st : Nat)) (.int (kv v11 0)) (.int (kv v11 1)) (.int (kv v11 2)) (.int (kv v11 3)) = cond (decide (fd v8 (cl v1 st 0) < 0)) (.row [.int 1, .int 0, .int 0, .int 0, .int 0, .int 0, .int 9])
   (cond (decide (fdG (Hh v2 v6 v9 v11) (len v9) 0 < 0)) (.row [.int 1, .int (fd v5 (cl v8 (fd v8 (cl v1 st 0)) 1)), .int (vs v2 v6 v9 v11 0 (len v9)), .int (vs v2 v6 v9 v11 1 (len v9)), .int (vs v2 v6 v9 v11 2 (len v9)), .int (vs v2 v6 v9 v11 3 (len v9)), .int 0]) (.row [.int 1, .int 0, .int 0, .int 0, .int 0, .int 0, .int 3])) := by
 rw [jK];have l := BL (l := v8) (key := cl v1 st 0);simp only [dr hn8 hst, R5 (v0 := v5) (by omega), Am, Al, Ac, decide_true, cond_true, decide_eq_true l]
 congr 1
 have L := DH (F := fun j => Bo v9 (.int (j : Nat)) v0 v1 v2 v3 v4 v5 v6 v7 (.int (st : Nat)) (.int (kv v11 0)) (.int (kv v11 1)) (.int (kv v11 2)) (.int (kv v11 3)) (.int (fd v5 (cl v8 (fd v8 (cl v1 st 0)) 1))) (.int (vs v2 v6 v9 v11 0 j)) (.int (vs v2 v6 v9 v11 1 j)) (.int (vs v2 v6 v9 v11 2 j)) (.int (vs v2 v6 v9 v11 3 j))) (n := len v9) (bad := Hh v2 v6 v9 v11) (B := fun _ => .row [.int 1, .int 0, .int 0, .int 0, .int 0, .int 0, .int 3]) (fun j hj => UG hp hn h2 h6 hj (h0 j hj))
 refine L.trans ?_
 congr 1
 show Bo v9 (.int (len v9 : Nat)) v0 v1 v2 v3 v4 v5 v6 v7 (.int (st : Nat)) (.int (kv v11 0)) (.int (kv v11 1)) (.int (kv v11 2)) (.int (kv v11 3)) (.int (fd v5 (cl v8 (fd v8 (cl v1 st 0)) 1))) (.int (vs v2 v6 v9 v11 0 (len v9))) (.int (vs v2 v6 v9 v11 1 (len v9))) (.int (vs v2 v6 v9 v11 2 (len v9))) (.int (vs v2 v6 v9 v11 3 (len v9))) = _;rw [ay (h0 := rfl), ifF (by omega)]
theorem FV {F : Nat → D} {n : Nat} (hs : ∀ j, j < n → F j = F (j + 1)) : F 0 = F n := by
 have := DH (F := F) (n := n) (bad := fun _ => false) (B := fun _ => .row []) (fun j hj => (hs j hj).trans rfl)
 rw [Cu (fun _ _ _ => rfl)] at this
 exact this
theorem pN {L : D} (hn : len v8 < 1000) (hd : ∀ i, i < len v8 → Di v8 i = false) : Gx (.bool false) (.int 0) v4 v5 v6 v7 v0 v1 v2 v3 v8 v9 v10 v11 (Bs 0 0) L = cond (decide (fd v8 v10 < 0)) (.row [.int 1, Bs 0 0, AB, .bool true, .int 9]) (Ga (.int 0) v4 v5 v6 v7 v0 v1 v2 v3 v8 v9 v10 v11 (cl v8 (fd v8 v10) 1) L) := by
 have g := SV (l := v8) (key := v10)
 have C := FV (F := fun i : Nat => Gx (.bool (decide (0 ≤ fd v8 v10 ∧ fd v8 v10 < i))) (.int (i : Nat)) v4 v5 v6 v7 v0 v1 v2 v3 v8 v9 v10 v11 (if 0 ≤ fd v8 v10 ∧ fd v8 v10 < i then cl v8 (fd v8 v10) 1 else Bs 0 0) L) (n := len v8) (fun i hi => by
  show Gx (.bool (decide (0 ≤ fd v8 v10 ∧ fd v8 v10 < i))) (.int (i : Nat)) v4 v5 v6 v7 v0 v1 v2 v3 v8 v9 v10 v11 (if 0 ≤ fd v8 v10 ∧ fd v8 v10 < i then cl v8 (fd v8 v10) 1 else Bs 0 0) L = Gx (.bool (decide (0 ≤ fd v8 v10 ∧ fd v8 v10 < (i + 1 : Nat)))) (.int (i + 1 : Nat)) v4 v5 v6 v7 v0 v1 v2 v3 v8 v9 v10 v11 (if 0 ≤ fd v8 v10 ∧ fd v8 v10 < (i + 1 : Nat) then cl v8 (fd v8 v10) 1 else Bs 0 0) L
  rw [af, ifT (by omega), ifF (by omega), AG (by omega)]
  cases q : D.strEq (cl v8 i 0) v10
  ·have : fd v8 v10 ≠ i := fun c => by
    have a := Ln (l := v8) (key := v10) (by omega)
    rw [c, q] at a;cases a
   rw [cond_false, decide_eq_decide.2 (show (0 ≤ fd v8 v10 ∧ fd v8 v10 < i) ↔ (0 ≤ fd v8 v10 ∧ fd v8 v10 < (i + 1 : Nat)) by omega)]
   congr 1
   by_cases c : 0 ≤ fd v8 v10 ∧ fd v8 v10 < i
   ·rw [if_pos c, if_pos (by omega)]
   ·rw [if_neg c, if_neg (by omega)]
  ·have a := Hi (p := fun j => D.strEq (cl v8 j 0) v10) (k := len v8) (i := 0) (j := i) (by omega) (by omega) q
   have a : 0 ≤ fd v8 v10 ∧ fd v8 v10 ≤ i := a
   have e : fd v8 v10 = i := by
    refine Int.le_antisymm a.2 (Int.not_lt.1 fun c => ?_)
    have b := Ln a.1;have t := hd i hi;unfold Di at t;have t : decide (fdG (fun j => D.strEq (cl v8 j 0) (cl v8 i 0)) i 0 < 0) = true := by simpa using t
    have n := Cx (p := fun j => D.strEq (cl v8 j 0) (cl v8 i 0)) (k := i) (i := 0) (j := (fd v8 v10).toNat) (by omega) (.inr ⟨dT t, by omega⟩)
    have n : D.strEq (cl v8 ((fd v8 v10).toNat : Int) 0) (cl v8 i 0) = false := n;rw [show ((fd v8 v10).toNat : Int) = fd v8 v10 by omega, Cq b, AJ, q] at n
    cases n
   rw [cond_true, decide_eq_true (show 0 ≤ fd v8 v10 ∧ fd v8 v10 < (i + 1 : Nat) by omega), if_pos (by omega), e])
 have z : ¬ (0 ≤ fd v8 v10 ∧ fd v8 v10 < (0 : Nat)) := by omega
 have C : Gx (.bool (decide (0 ≤ fd v8 v10 ∧ fd v8 v10 < (0 : Nat)))) (.int (0 : Nat)) v4 v5 v6 v7 v0 v1 v2 v3 v8 v9 v10 v11 (if 0 ≤ fd v8 v10 ∧ fd v8 v10 < (0 : Nat) then cl v8 (fd v8 v10) 1 else Bs 0 0) L = Gx (.bool (decide (0 ≤ fd v8 v10 ∧ fd v8 v10 < len v8))) (.int (len v8 : Nat)) v4 v5 v6 v7 v0 v1 v2 v3 v8 v9 v10 v11 (if 0 ≤ fd v8 v10 ∧ fd v8 v10 < len v8 then cl v8 (fd v8 v10) 1 else Bs 0 0) L := C
 rw [decide_eq_false z, if_neg z] at C;refine (show Gx (.bool false) (.int 0) v4 v5 v6 v7 v0 v1 v2 v3 v8 v9 v10 v11 (Bs 0 0) L = _ from C).trans ?_
 have l := BL (l := v8) (key := v10);rw [af, ifF (by omega)]
 by_cases c : fd v8 v10 < 0
 ·rw [ifT c, decide_eq_false (by omega)]
  rfl
 ·rw [ifF c, decide_eq_true (by omega), if_pos (by omega)]
  rfl
end
end Cs
namespace Cs
open Go Go.AE
def LV (v2 v6 v9 v11 : D) (i : Nat) : D := .slc false ((List.range (len v6)).map fun j => .row [.int (vs v2 v6 v9 v11 j i)])
theorem Qw {v2 v6 v9 v11 : D} {i : Nat} : len (LV v2 v6 v9 v11 i) = len v6 := by unfold LV len; simp [D.rows]
theorem WK {v2 v6 v9 v11 : D} {i j : Nat} (h : j < len v6) : cl (LV v2 v6 v9 v11 i) j 0 = .int (vs v2 v6 v9 v11 j i) := by
 show ((((List.range (len v6)).map fun j => D.row [.int (vs v2 v6 v9 v11 j i)])[j]?).getD default).cells.getD 0 default = _
 rw [List.getElem?_map, List.getElem?_range h];rfl
theorem YI {v2 v6 v9 v11 : D} : rp (len v6 : Nat) (.row [.int 0]) = LV v2 v6 v9 v11 0 := by
 show D.slc false (List.replicate _ _) = .slc false _
 congr 1
 refine List.ext_getElem (by simp) fun j h1 h2 => ?_
 rw [List.getElem_replicate, List.getElem_map];rfl
theorem bT {v2 v6 v9 v11 : D} {i : Nat} (h0 : 0 ≤ pl v6 v9 i) : upd (LV v2 v6 v9 v11 i) (pl v6 v9 i) 0 (.int (pv v2 v9 v11 i)) = LV v2 v6 v9 v11 (i + 1) := by
 show D.slc false (List.modify _ _ _) = .slc false _
 congr 1
 refine List.ext_getElem (by simp [LV, D.rows]) fun j h1 h2 => ?_
 have hj : j < len v6 := by simpa using h2
 rw [List.getElem_modify];show (if (pl v6 v9 i).toNat = j then D.row ((((List.range (len v6)).map fun j => D.row [.int (vs v2 v6 v9 v11 j i)])[j]'(by simpa using hj)).cells.set 0 (.int (pv v2 v9 v11 i))) else (((List.range (len v6)).map fun j => D.row [.int (vs v2 v6 v9 v11 j i)])[j]'(by simpa using hj))) = _
 simp only [List.getElem_map, List.getElem_range, Fh];by_cases q : pl v6 v9 i = j
 ·rw [if_pos (by omega), if_pos q]
  rfl
 ·rw [if_neg (by omega), if_neg q]
section
variable [Ar]
variable {v0 v1 v2 v3 v4 v5 v6 v7 v8 v9 v10 v11 v13 : D}
theorem qY (hp : Ej v9) (hn2 : len v2 < 1000) (hn5 : len v5 < 1000) (hn6 : len v6 < 1000) (hn : len v9 < 1000) (hl : len v11 = len v2) (h0 : ∀ i, i < len v9 → 0 ≤ pl v6 v9 i) :
  Ga (.int 0) v4 v5 v6 v7 v0 v1 v2 v3 v8 v9 v10 v11 v13 (LV v2 v6 v9 v11 0) = cond (isC v5 v6 v13 (LV v2 v6 v9 v11 (len v9))) (.row [.int 1, v13, LV v2 v6 v9 v11 (len v9), .bool false, .int 0]) (.row [.int 1, Bs 0 0, AB, .bool true, .int 3]) := by
 have C := FV (F := fun i : Nat => Ga (.int (i : Nat)) v4 v5 v6 v7 v0 v1 v2 v3 v8 v9 v10 v11 v13 (LV v2 v6 v9 v11 i)) (n := len v9) (fun i hi => by
  show Ga (.int (i : Nat)) v4 v5 v6 v7 v0 v1 v2 v3 v8 v9 v10 v11 v13 (LV v2 v6 v9 v11 i) = Ga (.int (i + 1 : Nat)) v4 v5 v6 v7 v0 v1 v2 v3 v8 v9 v10 v11 v13 (LV v2 v6 v9 v11 (i + 1));have l1 : pl v6 v9 i < len v6 := BL;have l2 := BL (l := v2) (key := cl v9 i 1);have g2 := SV (l := v2) (key := cl v9 i 1);have hpl : fd v6 (cl v9 i 0) = pl v6 v9 i := rfl;have z := h0 i hi;obtain ⟨n, hv⟩ := hp i hi;rw [aq, ifT (by omega), ifF (by omega), AG (by omega)]
  simp only [I4 (v0 := v0) (v1 := v1) (v2 := v2) (v3 := v3) (by omega), I4 (v0 := v4) (v1 := v5) (v2 := v6) (v3 := v7) (by omega), Am, Al, Ac, decide_true, cond_true, hpl, Qw, decide_eq_true l1, decide_eq_false (show ¬ pl v6 v9 i < 0 by omega), cond_false]
  rw [← bT z];unfold pv;by_cases c : fd v2 (cl v9 i 1) < 0
  ·rw [ifT c, ifT c, hv];rfl
  ·rw [ifF c, ifF c, ifT (by omega)]
   have k : (cl v11 (fd v2 (cl v9 i 1)) 0).toInt = kv v11 (fd v2 (cl v9 i 1)).toNat := by
    unfold kv;rw [if_pos (by omega), show (((fd v2 (cl v9 i 1)).toNat : Nat) : Int) = fd v2 (cl v9 i 1) by omega]
   rw [k])
 refine (show Ga (.int 0) v4 v5 v6 v7 v0 v1 v2 v3 v8 v9 v10 v11 v13 (LV v2 v6 v9 v11 0) = Ga (.int (len v9 : Nat)) v4 v5 v6 v7 v0 v1 v2 v3 v8 v9 v10 v11 v13 (LV v2 v6 v9 v11 (len v9)) from C).trans ?_
 rw [aq, ifF (by omega)]
 simp only [dy (v0 := v4) (v1 := v5) (v2 := v6) (v3 := v7) hn5 hn6, Am, Al, Ac, Af, decide_true, cond_true]
theorem dK (hp : Ej v9) (hn2 : len v2 < 1000) (hn5 : len v5 < 1000) (hn6 : len v6 < 1000) (hn8 : len v8 < 1000) (hn : len v9 < 1000) (hl : len v11 = len v2) (hd : ∀ i, i < len v8 → Di v8 i = false) (h0 : ∀ i, i < len v9 → 0 ≤ pl v6 v9 i) :
  M1 v4 v5 v6 v7 v0 v1 v2 v3 v8 v9 v10 v11 = cond (decide (fd v8 v10 < 0)) (.row [.int 1, Bs 0 0, AB, .bool true, .int 9]) (cond (isC v5 v6 (cl v8 (fd v8 v10) 1) (LV v2 v6 v9 v11 (len v9))) (.row [.int 1, cl v8 (fd v8 v10) 1, LV v2 v6 v9 v11 (len v9), .bool false, .int 0]) (.row [.int 1, Bs 0 0, AB, .bool true, .int 3])) := by
 rw [ek, ifT (by omega), pN hn8 hd, YI (v2 := v2) (v6 := v6) (v9 := v9) (v11 := v11), qY hp hn2 hn5 hn6 hn hl h0]
theorem ZC {j i : Nat} : vs v2 v6 v9 v11 j i = 0 ∨ ∃ k, k < i ∧ pl v6 v9 k = j ∧ vs v2 v6 v9 v11 j i = pv v2 v9 v11 k := by
 induction i with
 | zero => exact .inl rfl
 | succ i ih =>
  rw [Fh];by_cases c : pl v6 v9 i = j
  ·rw [if_pos c];exact .inr ⟨i, by omega, c, rfl⟩
  ·rw [if_neg c];rcases ih with h | ⟨k, h1, h2, h3⟩
   ·exact .inl h
   ·exact .inr ⟨k, by omega, h2, h3⟩
theorem Sf {j i : Nat} : ∀ {n : Nat}, i + 1 + n ≤ len v9 → pl v6 v9 i = j → (∀ k, i < k → k < len v9 → pl v6 v9 k ≠ j) → vs v2 v6 v9 v11 j (i + 1 + n) = pv v2 v9 v11 i
 | 0, _, h, _ => by
  show vs v2 v6 v9 v11 j (i + 1) = _;rw [Fh, if_pos h]
 | n + 1, hn, h, hk => by
  show vs v2 v6 v9 v11 j (i + 1 + n + 1) = _;rw [Fh, if_neg (hk _ (by omega) (by omega))]
  exact Sf (by omega) h hk
theorem jJ {i k : Nat} (hd : ∀ i, i < len v9 → Di v9 i = false) (h0 : ∀ i, i < len v9 → 0 ≤ pl v6 v9 i) (h : i < k) (hk : k < len v9) : pl v6 v9 k ≠ pl v6 v9 i := by
 intro e;have a := Ln (h0 i (by omega))
 have b := Ln (h0 k hk);have e : fd v6 (cl v9 k 0) = fd v6 (cl v9 i 0) := e;rw [e, Cq a] at b;have t := hd k hk;unfold Di at t;have t : decide (fdG (fun j => D.strEq (cl v9 j 0) (cl v9 k 0)) k 0 < 0) = true := by simpa using t
 have n := Cx (p := fun j => D.strEq (cl v9 j 0) (cl v9 k 0)) (k := k) (i := 0) (j := i) (by omega) (.inr ⟨dT t, by omega⟩)
 have n : D.strEq (cl v9 i 0) (cl v9 k 0) = false := n;rw [b] at n;cases n
theorem RC (hd : ∀ i, i < len v9 → Di v9 i = false) (h0 : ∀ i, i < len v9 → 0 ≤ pl v6 v9 i) (hlim : ∀ j : Nat, j < len v6 → 0 ≤ (cl v6 j 1).toInt) (hst : 0 ≤ fd v5 v13) :
  isC v5 v6 v13 (LV v2 v6 v9 v11 (len v9)) = decide (fdG (Hh v2 v6 v9 v11) (len v9) 0 < 0) := by
 unfold isC;rw [decide_eq_false (show ¬ fd v5 v13 < 0 by omega), Qw, decide_eq_true rfl]
 show (true && (true && decide (fdG (Mi v6 (LV v2 v6 v9 v11 (len v9))) (len v6) 0 < 0))) = _;rw [Bool.true_and, Bool.true_and];refine decide_eq_decide.2 ⟨fun h => ?_, fun h => ?_⟩
 ·have : ∀ i, 0 ≤ i → i < 0 + len v9 → Hh v2 v6 v9 v11 i = false := fun i _ hi => by
   have l1 : pl v6 v9 i < len v6 := BL;have z := h0 i (by omega)
   have n := Cx (p := Mi v6 (LV v2 v6 v9 v11 (len v9))) (k := len v6) (i := 0) (j := (pl v6 v9 i).toNat) (by omega) (.inr ⟨h, by omega⟩)
   have k := Sf (v2 := v2) (v6 := v6) (v9 := v9) (v11 := v11) (j := (pl v6 v9 i).toNat) (i := i) (n := len v9 - (i + 1)) (by omega) (by omega) (fun k hk hk' c => jJ hd h0 hk hk' (by omega))
   rw [show i + 1 + (len v9 - (i + 1)) = len v9 by omega] at k
   unfold Mi at n;rw [WK (by omega), Ac, k, show (((pl v6 v9 i).toNat : Nat) : Int) = pl v6 v9 i by omega] at n
   exact n
  rw [Cu this];omega
 ·have : ∀ j, 0 ≤ j → j < 0 + len v6 → Mi v6 (LV v2 v6 v9 v11 (len v9)) j = false := fun j _ hj => by
   unfold Mi;rw [WK (by omega), Ac]
   rcases ZC (v2 := v2) (v6 := v6) (v9 := v9) (v11 := v11) (j := j) (i := len v9) with e | ⟨k, h1, h2, h3⟩
   ·rw [e, decide_eq_false (by omega), decide_eq_false (by have := hlim j (by omega); omega)]
    rfl
   ·have n := Cx (p := Hh v2 v6 v9 v11) (k := len v9) (i := 0) (j := k) (by omega) (.inr ⟨h, by omega⟩)
    unfold Hh at n;rw [h3, ← h2];exact n
  rw [Cu this];omega
end
end Cs

