/- What is proved: what the plain functions over data say, whose trees the text before writes out: the law ConvertReplaces answers true. Conditions: those that each theorem states. -/
import Derived.Test.YtpcdkfgmpekeeaaConvertReplacesTree
set_option linter.unusedVariables false
set_option linter.unusedSectionVars false
set_option linter.unusedSimpArgs false
namespace Go.AE
section
variable [An]
def atV (Ts : List (List (Tr Plf))) (xs : List D) : Val := Jh (Ap Ts) xs
def fin (Ts : List (List (Tr Plf))) (k : Nat) (V : Val) : Plf → D
 | .stuck => .row []
 | .done s cs => .row (.int (s + 1 : Nat) :: cs.map (Ab V))
 | .next j θ => Ap Ts k (.row (.int j :: θ.map (Ab V)))
def Qq (Ts : List (List (Tr Plf))) (k : Nat) (V : Val) (t : Tr Plf) : D := fin Ts k V (t.get V)
theorem ir {Ts : List (List (Tr Plf))} (h : GO 0 Ts = true) {k p : Nat} {T : List (Tr Plf)} {t : Tr Plf} {xs : List D} (hk : Ts[k]? = some T) (hp : T[p]? = some t) :
  Ap Ts k (.row (.int (p : Nat) :: xs)) = Qq Ts k (atV Ts xs) t := by
 have hd : CH T (Ap Ts) (.row (.int (p : Nat) :: xs)) = Di (atV Ts xs) (t.get (atV Ts xs)) := by
  show (match T[p]? with | some t => Di _ (t.get _) | none => none) = _
  rw [hp];rfl
 unfold Qq fin;split
 ·rename_i e;rw [e] at hd;rw [Ar h hk];rcases EE (CH T (Ap Ts)) (.row (.int (p : Nat) :: xs)) with q | ⟨n, q⟩
  ·exact q
  ·cases n with
   | zero => cases q
   | succ n =>
    simp only [EI, hd] at q;cases q
 ·rename_i e;rw [e] at hd;rw [Ar h hk];exact Ov hd
 ·rename_i e;rw [e] at hd;rw [Ar h hk, NY hd, ← Ar h hk]
theorem QK {Ts : List (List (Tr Plf))} {k : Nat} {V : Val} {e : SB} {a b : Tr Plf} : Qq Ts k V (.split e a b) = if Ad V e = true then Qq Ts k V a else Qq Ts k V b := by
 unfold Qq;rw [show (Tr.split e a b).get V = match Ad V e with | true => a.get V | false => b.get V from rfl]
 cases Ad V e <;> rfl
end
theorem B8 {a : Int} (h : -9223372036854775808 ≤ a) (h' : a < 9223372036854775808) : IntKind.wrap .i64 a = a := by
 show (if (true && decide (a % (2 ^ 64 : Int) ≥ 2 ^ 63)) = true then a % (2 ^ 64 : Int) - 2 ^ 64 else a % (2 ^ 64 : Int)) = a
 split
 ·rename_i q;simp only [Bool.true_and, decide_eq_true_eq] at q;omega
 ·rename_i q;simp only [Bool.true_and, decide_eq_true_eq] at q;omega
def len (d : D) : Nat := d.rows.length
def C6 (d : D) : Nat := d.toStr.data.toList.length
def cl (a : D) (i : Int) (j : Nat) : D := (a.rows.getD i.toNat default).cells.getD j default
def sl (a : D) (j : Nat) : D := a.cells.getD j default
def AT : D := .slc true []
def Ax : D := .slc false []
def ad (a r : D) : D := .slc false (a.rows ++ [r])
def upd (a : D) (i : Int) (j : Nat) (x : D) : D := .slc a.isNil (a.rows.modify i.toNat fun r => .row (r.cells.set j x))
def ct (a b : D) : D := .slc (a.isNil && b.rows.isEmpty) (a.rows ++ b.rows)
def sb (a : D) (lo hi : Int) : D := .slc a.isNil ((a.rows.drop lo.toNat).take (hi.toNat - lo.toNat))
def ni (a : D) (b : Bool) : D := .slc b a.rows
def Do (l b : Nat) : D := .str ⟨(CZ l b).toArray⟩
def Xd (a b : D) : D := .str (a.toStr ++ b.toStr)
def Wu (a : D) : D := .slc false (a.toStr.data.toList.map fun b => .row [.int b.toNat])
def mIx (ks : List Kd) (a k : D) : Int := D1 ks k.cells a.rows 0
def eqC (a : D) (l b : Nat) : Bool := strEq a.toStr.data.toList.length (AC a.toStr.data.toList) l b
def ari (op : BinOp) (k : IntKind) (x y : Int) : Int := match CW op k x y with
 | some (.int _ n) => n
 | _ => 0
theorem ifT {α : Type} {p : Prop} [Decidable p] {a b : α} (h : p) : cond (decide p) a b = a := by rw [decide_eq_true h]; rfl
theorem ifF {α : Type} {p : Prop} [Decidable p] {a b : α} (h : ¬ p) : cond (decide p) a b = b := by rw [decide_eq_false h]; rfl
theorem cT {α : Type} {c : Bool} {a b : α} (h : c = true) : cond c a b = a := by rw [h]; rfl
theorem cF {α : Type} {c : Bool} {a b : α} (h : c = false) : cond c a b = b := by rw [h]; rfl
section
variable [An]
def DG (Ts : List (List (Tr Plf))) (k : Nat) (V : Val) : Tr Plf → D
 | .leaf l => fin Ts k V l
 | .split e a b => cond (Ad V e) (DG Ts k V a) (DG Ts k V b)
theorem Ib {Ts : List (List (Tr Plf))} {k : Nat} {V : Val} : ∀ t : Tr Plf, Qq Ts k V t = DG Ts k V t
 | .leaf l => rfl
 | .split e a b => by
  rw [QK, Ib a, Ib b, DG];cases Ad V e <;> rfl
theorem ZC {Ts : List (List (Tr Plf))} (h : GO 0 Ts = true) {k p : Nat} {T : List (Tr Plf)} {t : Tr Plf} {xs : List D} (hk : Ts[k]? = some T) (hp : T[p]? = some t) :
  Ap Ts k (.row (.int (p : Nat) :: xs)) = DG Ts k (atV Ts xs) t := (ir h hk hp).trans (Ib t)
theorem cg {Ts : List (List (Tr Plf))} {k : Nat} {V : Val} {e : SB} {a b : Tr Plf} {c : Bool} {x y : D} (h : Ad V e = c) (ha : DG Ts k V a = x) (hb : DG Ts k V b = y) : DG Ts k V (.split e a b) = cond c x y := by
 rw [DG, h, ha, hb]
end
theorem lE {V : Val} {a b : SE} {x y : Int} (h : (Ab V a).toInt = x) (h' : (Ab V b).toInt = y) : Ad V (.lss a b) = decide (x < y) := by rw [← h, ← h']; rfl
theorem qE {V : Val} {a b : SE} {x y : Int} (h : (Ab V a).toInt = x) (h' : (Ab V b).toInt = y) : Ad V (.eql a b) = decide (x = y) := by rw [← h, ← h']; rfl
section
variable [An]
theorem cL {Ts : List (List (Tr Plf))} {k : Nat} {V : Val} {e f : SE} {a b : Tr Plf} {m n : Int} {x y : D} (ha : DG Ts k V a = x) (hb : DG Ts k V b = y) (h : (Ab V e).toInt = m := by rfl) (h' : (Ab V f).toInt = n := by rfl) : DG Ts k V (.split (.lss e f) a b) = cond (decide (m < n)) x y := cg (lE h h') ha hb
theorem cQ {Ts : List (List (Tr Plf))} {k : Nat} {V : Val} {e f : SE} {a b : Tr Plf} {m n : Int} {x y : D} (ha : DG Ts k V a = x) (hb : DG Ts k V b = y) (h : (Ab V e).toInt = m := by rfl) (h' : (Ab V f).toInt = n := by rfl) : DG Ts k V (.split (.eql e f) a b) = cond (decide (m = n)) x y := cg (qE h h') ha hb
end
theorem aE {V : Val} {a b : SE} {x y : Bool} (h : Ad V a = x) (h' : Ad V b = y) : Ad V (.and a b) = (x && y) := by rw [← h, ← h']; rfl
def Wd (a : D) (n : Nat) : Prop := ∀ r ∈ a.rows, ∃ cs, r = .row cs ∧ cs.length = n
theorem Wz {a x : D} {i : Int} {j : Nat} : len (upd a i j x) = len a := by
 show (a.rows.modify _ _).length = _;simp [len]
theorem AR {a r : D} : len (ad a r) = len a + 1 := by
 show (a.rows ++ [r]).length = _;simp [len]
theorem AX : len Ax = 0 := rfl
theorem P8 {a : D} {lo hi : Int} (h : lo.toNat ≤ hi.toNat) (h' : hi.toNat ≤ len a) : len (sb a lo hi) = hi.toNat - lo.toNat := by
 show ((a.rows.drop _).take _).length = _;have : hi.toNat ≤ a.rows.length := h';simp;omega
theorem As {x : D} {l : List D} : sl (.row (x :: l)) 0 = x := rfl
theorem Au {x : D} {l : List D} {n : Nat} : sl (.row (x :: l)) (n + 1) = sl (.row l) n := rfl
theorem Ag {n : Int} : (D.int n).toInt = n := rfl
theorem Ai {b : Bool} : (D.bool b).toBool = b := rfl
theorem BP {n : Nat} : Wd Ax n := fun r hr => (by cases hr)
theorem CI {a : D} {cs : List D} {n : Nat} (h : Wd a n) (hc : cs.length = n) : Wd (ad a (.row cs)) n := by
 intro r hr;have hr : r ∈ a.rows ++ [.row cs] := hr;rcases List.mem_append.1 hr with q | q
 ·exact h r q
 ·exact ⟨cs, List.mem_singleton.1 q, hc⟩
theorem YA {a x : D} {i : Int} {j n : Nat} (h : Wd a n) : Wd (upd a i j x) n := by
 intro r hr;have hr' : r ∈ a.rows.modify i.toNat fun r => .row (r.cells.set j x) := hr
 obtain ⟨k, hk, e⟩ := List.getElem_of_mem hr';rw [List.getElem_modify] at e;have hk' : k < a.rows.length := by simpa using hk
 obtain ⟨cs, hc, hn⟩ := h _ (List.getElem_mem hk');split at e
 ·rw [hc] at e;exact ⟨_, e.symm, by simp [D.cells, hn]⟩
 ·exact ⟨cs, by rw [← e]; exact hc, hn⟩
theorem fA {a : D} {b : Bool} {n : Nat} (h : Wd a n) : Wd (ni a b) n := h
theorem Tw {a x : D} {i k : Int} {j j' n : Nat} (h : Wd a n) (hj : j < n) (hi : 0 ≤ i) (hi' : i < len a) (hk : 0 ≤ k) : cl (upd a i j x) k j' = if k = i ∧ j' = j then x else cl a k j' := by
 have hi2 : i.toNat < a.rows.length := by have : len a = a.rows.length := rfl; omega
 show ((a.rows.modify i.toNat fun r => D.row (r.cells.set j x))[k.toNat]?.getD default).cells.getD j' default = _
 rw [List.getElem?_modify];by_cases q : k = i
 ·subst q;obtain ⟨cs, hc, hn⟩ := h _ (List.getElem_mem hi2);rw [List.getElem?_eq_getElem hi2];show ((if k.toNat = k.toNat then D.row ((a.rows[k.toNat]).cells.set j x) else a.rows[k.toNat]).cells[j']?).getD default = _
  rw [if_pos rfl, hc];show ((cs.set j x)[j']?).getD default = _;rw [List.getElem?_set];by_cases q' : j = j'
  ·subst q';rw [if_pos rfl, if_pos (by omega), if_pos ⟨rfl, rfl⟩]
   rfl
  ·rw [if_neg q', if_neg (fun c => q' c.2.symm)]
   show _ = (a.rows[k.toNat]?.getD default).cells.getD j' default;rw [List.getElem?_eq_getElem hi2, Option.getD_some, hc];rfl
 ·have q2 : ¬ i.toNat = k.toNat := by omega
  rw [if_neg (fun c => q c.1)]
  simp [q2, cl]
theorem IE {a r : D} {k : Int} {j : Nat} (hk : 0 ≤ k) : cl (ad a r) k j = if k = len a then sl r j else cl a k j := by
 have hl : len a = a.rows.length := rfl;show ((a.rows ++ [r])[k.toNat]?.getD default).cells.getD j default = _;by_cases q : k.toNat < a.rows.length
 ·rw [List.getElem?_append_left q, if_neg (by omega)]
  rfl
 ·by_cases q' : k = len a
  ·subst q';rw [if_pos rfl];have : ((len a : Int)).toNat = a.rows.length := by omega
   rw [this];simp [sl]
  ·rw [if_neg q', List.getElem?_eq_none (by simp; omega)]
   show _ = (a.rows[k.toNat]?.getD default).cells.getD j default;rw [List.getElem?_eq_none (by omega)]
theorem FB.cell {K : TypeId → Option (List Kd)} {m j : Nat} {e : TypeId} {ks : List Kd} {kd : Kd} {d : D} {i : Int} (h : FB K (m + 1) (.slice e) d) (hk : K e = some ks) (h0 : 0 ≤ i) (hi : i < len d) (hj : ks[j]? = some kd) : FB K m kd (cl d i j) := by
 obtain ⟨nl, rows, rfl, _, q⟩ := h;have hi' : i.toNat < rows.length := by have : len (.slc nl rows) = rows.length := rfl; omega
 obtain ⟨cs, e1, _, e3⟩ := q ks hk _ (List.getElem_mem hi');show FB K m kd ((rows[i.toNat]?.getD default).cells.getD j default);rw [List.getElem?_eq_getElem hi', Option.getD_some, e1];exact e3 j kd hj
theorem FB.toI {K : TypeId → Option (List Kd)} {m : Nat} {k : IntKind} {d : D} (h : FB K m (.int k) d) : ∃ n, d = .int n := by cases m <;> exact h
theorem FB.toB {K : TypeId → Option (List Kd)} {m : Nat} {d : D} (h : FB K m .bool d) : ∃ b, d = .bool b := by cases m <;> exact h
def fdG (p : Nat → Bool) : Nat → Nat → Int
 | 0, _ => -1
 | k + 1, i => cond (p i) (i : Int) (fdG p k (i + 1))
theorem EX {p : Nat → Bool} : ∀ {k i : Nat}, fdG p k i < i + k
 | 0, i => by show (-1 : Int) < _; omega
 | k + 1, i => by
  rw [fdG];have := EX (p := p) (k := k) (i := i + 1);cases p i
  ·show fdG p k (i + 1) < _; omega
  ·show (i : Int) < _; omega
theorem J5 {p : Nat → Bool} : ∀ {k i : Nat}, fdG p k i = -1 ∨ (i : Int) ≤ fdG p k i
 | 0, i => .inl rfl
 | k + 1, i => by
  rw [fdG];cases p i
  ·show fdG p k (i + 1) = _ ∨ _ ≤ fdG p k (i + 1);rcases J5 (p := p) (k := k) (i := i + 1) with h | h
   ·exact .inl h
   ·exact .inr (by omega)
  ·exact .inr (Int.le_refl _)
theorem MO {p : Nat → Bool} : ∀ {k i : Nat}, 0 ≤ fdG p k i → p (fdG p k i).toNat = true
 | 0, i => fun h => by simp [fdG] at h
 | k + 1, i => by
  rw [fdG];cases q : p i
  ·exact MO (k := k)
  ·intro _;show p i = true;exact q
theorem JU {p : Nat → Bool} : ∀ {k i j : Nat}, i ≤ j → j < i + k → p j = true → 0 ≤ fdG p k i ∧ fdG p k i ≤ j
 | 0, i, j => fun h h' => by omega
 | k + 1, i, j => by
  intro h h' hp;rw [fdG];cases q : p i
  ·have : i ≠ j := fun c => by rw [c, hp] at q; cases q
   exact JU (k := k) (by omega) (by omega) hp
  ·show 0 ≤ (i : Int) ∧ (i : Int) ≤ j; omega
theorem EW {p : Nat → Bool} {k i j : Nat} (h : i ≤ j) (h' : (j : Int) < fdG p k i ∨ (fdG p k i < 0 ∧ j < i + k)) : p j = false := by
 cases q : p j
 ·rfl
 ·have := EX (p := p) (k := k) (i := i);have := JU (p := p) (k := k) h (by omega) q
  omega
theorem Dr {p : Nat → Bool} {k i : Nat} (h : ∀ j, i ≤ j → j < i + k → p j = false) : fdG p k i = -1 := by
 rcases J5 (p := p) (k := k) (i := i) with q | q
 ·exact q
 ·have a := MO (p := p) (k := k) (i := i) (by omega)
  rw [h _ (by omega) (by have := EX (p := p) (k := k) (i := i); omega)] at a
  cases a
theorem Dl {p q : Nat → Bool} : ∀ {k i : Nat}, (∀ j, i ≤ j → j < i + k → p j = q j) → fdG p k i = fdG q k i
 | 0, i, h => rfl
 | k + 1, i, h => by
  rw [fdG, fdG, h i (Nat.le_refl _) (by omega), Dl fun j a b => h j (by omega) (by omega)]
theorem Yg {F : Nat → D} {bad : Nat → Bool} {B : Nat → D} {n : Nat} : ∀ {k i : Nat}, i + k = n → (∀ j, i ≤ j → j < n → F j = cond (bad j) (B j) (F (j + 1))) → F i = cond (decide (fdG bad k i < 0)) (F n) (B (fdG bad k i).toNat)
 | 0, i => fun h _ => by
  have : i = n := by omega
  subst this;rfl
 | k + 1, i => fun h hs => by
  rw [hs i (Nat.le_refl _) (by omega), fdG]
  cases bad i
  ·exact Yg (by omega) fun j a b => hs j (by omega) b
  ·show B i = cond (decide ((i : Int) < 0)) _ (B (i : Int).toNat);rw [ifF (by omega)]
   rfl
theorem Hd {F : Nat → D} {bad : Nat → Bool} {B : Nat → D} {n : Nat} (hs : ∀ j, j < n → F j = cond (bad j) (B j) (F (j + 1))) : F 0 = cond (decide (fdG bad n 0 < 0)) (F n) (B (fdG bad n 0).toNat) := Yg (by omega) fun j _ b => hs j b
theorem find {F : Nat → D} {bad : Nat → Bool} {n : Nat} (hs : ∀ j, j < n → F j = cond (bad j) (.row [.int 1, .int (j : Nat)]) (F (j + 1))) (hr : F n = .row [.int 1, .int (-1)]) : F 0 = .row [.int 1, .int (fdG bad n 0)] := by
 rw [Hd hs, hr];have h := J5 (p := bad) (k := n) (i := 0);by_cases q : fdG bad n 0 < 0
 ·rw [ifT q];rcases h with h | h
  ·rw [h]
  ·omega
 ·rw [ifF q];have : ((fdG bad n 0).toNat : Int) = fdG bad n 0 := by omega
  rw [this]
theorem A9 {i : Nat} (h : i < 4611686018427387904) : IntKind.wrap .i64 ((i : Int) + 1) = ((i + 1 : Nat) : Int) := by rw [B8 (by omega) (by omega)]; omega
theorem MZ {α : Type} {c : Bool} {a b x : α} (h1 : c = true → a = x) (h2 : c = false → b = x) : cond c a b = x := by
 cases c
 ·exact h2 rfl
 ·exact h1 rfl
theorem dT {p : Prop} [Decidable p] (h : decide p = true) : p := of_decide_eq_true h
theorem dF {p : Prop} [Decidable p] (h : decide p = false) : ¬ p := of_decide_eq_false h
theorem OJ {x y : Int} : decide (x = y) = decide (y = x) := decide_eq_decide.2 eq_comm
theorem B9 {a : D} : D.strEq a a = true := by
 show (Nat.beq _ _ && Nat.beq _ _) = true;simp
theorem AZ {a b : D} : D.strEq a b = D.strEq b a := Mg (U := BC) _ _ _ _
theorem Ez {a : D} : eqC a 0 0 = decide (C6 a = 0) := by
 show (Nat.beq _ 0 && Nat.beq _ 0) = _;show _ = decide (a.toStr.data.toList.length = 0);cases a.toStr.data.toList <;> simp [AC]
theorem Ug {a b : D} : C6 (Xd a b) = C6 a + C6 b := by
 show (a.toStr ++ b.toStr).data.toList.length = _;simp [C6]
theorem P6 {a b : D} : eqC (Xd a b) 0 0 = (eqC a 0 0 && eqC b 0 0) := by
 rw [Ez, Ez, Ez, Ug, Bool.eq_iff_iff];simp
theorem D4 {a b : D} : D.strEq a b = true ↔ a.toStr = b.toStr := by
 show AE.strEq _ _ _ _ = true ↔ _;rw [B7 (U := BC)];constructor
 ·intro h;rw [ByteArray.toList_eq, ByteArray.toList_eq] at h;have : a.toStr.data.toList = b.toStr.data.toList := by simpa only [beq_iff_eq] using h
  exact ByteArray.ext (Array.toList_inj.1 this)
 ·intro h;rw [h];simp
theorem EY {a b c : D} (h : D.strEq a b = true) (h' : D.strEq b c = true) : D.strEq a c = true := D4.2 ((D4.1 h).trans (D4.1 h'))
theorem H7 {a b c : D} (h : D.strEq a b = true) : D.strEq a c = D.strEq b c := by
 show AE.strEq _ _ _ _ = AE.strEq _ _ _ _;rw [D4.1 h]
theorem Th {a : D} {i : Nat} {j c : Nat} (hi : i ≤ len a) (hj : j < i) : cl (sb a 0 i) j c = cl a j c := by
 have hi' : i ≤ a.rows.length := hi;show (((a.rows.drop 0).take (i - 0)).getD j default).cells.getD c default = (a.rows.getD j default).cells.getD c default;rw [List.getD_eq_getElem?_getD, List.getD_eq_getElem?_getD, List.getElem?_take];simp [hj]
theorem VZ {a k : D} (hw : ∀ r ∈ a.rows, ∃ x l, r = .row (x :: l)) : mIx [.str] a (.row [k]) = fdG (fun i => D.strEq (cl a i 0) k) (len a) 0 := by
 have gen : ∀ (rs l : List D) (nl : Bool), (∀ r ∈ rs, ∃ x l, r = .row (x :: l)) → D1 [.str] [k] rs l.length = fdG (fun i => D.strEq (cl (.slc nl (l ++ rs)) i 0) k) rs.length l.length := by
  intro rs
  induction rs with
  | nil => intro l nl _; rfl
  | cons r rs ih =>
   intro l nl hr;rw [D1, List.length_cons, fdG]
   have e : cl (.slc nl (l ++ r :: rs)) (l.length : Nat) 0 = r.cells.getD 0 default := by
    show ((l ++ r :: rs).getD l.length default).cells.getD 0 default = _;simp
   have i2 := ih (l ++ [r]) nl fun x hx => hr x (List.mem_cons_of_mem _ hx)
   rw [List.length_append, List.append_assoc] at i2;have i2 : D1 [.str] [k] rs (l.length + 1) = fdG (fun i => D.strEq (cl (.slc nl (l ++ r :: rs)) i 0) k) rs.length (l.length + 1) := i2
   rw [e, i2]
   have h : BX [.str] r.cells [k] = D.strEq (r.cells.getD 0 default) k := by
    obtain ⟨x, t, e⟩ := hr r (List.mem_cons_self ..);subst e;show (D.strEq x k && true) = D.strEq x k;rw [Bool.and_true]
   rw [h];cases D.strEq (r.cells.getD 0 default) k <;> rfl
 have h := gen a.rows [] a.isNil hw;exact h
def CM (f : Nat → D) (i : Nat) : D := .slc false ((List.range i).map fun j => .row [f j, .bool true])
theorem K7 {f : Nat → D} {i : Nat} : ad (CM f i) (.row [f i, .bool true]) = CM f (i + 1) := by
 unfold CM ad;rw [List.range_succ, List.map_append];rfl
theorem Og {f : Nat → D} {i : Nat} {k : D} : mIx [.str] (CM f i) (.row [k]) = fdG (fun j => D.strEq (f j) k) i 0 := by
 rw [VZ (by
  intro r hr;obtain ⟨j, _, e⟩ := List.mem_map.1 hr;exact ⟨_, _, e.symm⟩)]
 have hl : len (CM f i) = i := by unfold len CM; simp [D.rows]
 rw [hl];refine Dl fun j _ hj => ?_
 have : cl (CM f i) j 0 = f j := by
  show ((((List.range i).map fun j => D.row [f j, .bool true])[j]?).getD default).cells.getD 0 default = f j
  rw [List.getElem?_map, List.getElem?_range (by omega)]
  rfl
 rw [this]
theorem JO {f : Nat → D} {i : Nat} {j : Int} (h0 : 0 ≤ j) (h : j < i) : cl (CM f i) j 1 = .bool true := by
 show ((((List.range i).map fun j => D.row [f j, .bool true])[j.toNat]?).getD default).cells.getD 1 default = _
 rw [List.getElem?_map, List.getElem?_range (by omega)]
 rfl
theorem ZK {P : Program} {ts : List TypeId} {xs : List D} {ks : List Kd} {o : Option Nat} (h : Gw o P ts xs) (hk : Bx (Env.of P) ts = some ks) : ks.length = xs.length ∧ NR (Env.of P).kinds 9 ks xs ∧ ShL (Env.of P).kinds o 9 ks xs := by
 obtain ⟨ks', cs, M, e, hd, hc, hs⟩ := h;rw [hk] at e;cases e;exact ⟨hd.len.2, hc.2, hs⟩
theorem ShK.cell {K : TypeId → Option (List Kd)} {o : Option Nat} {m j : Nat} {e : TypeId} {ks : List Kd} {kd : Kd} {d : D} {i : Nat} (h : ShK K o (m + 1) (.slice e) d) (hk : K e = some ks) (hi : i < len d) (hj : ks[j]? = some kd) : ShK K o m kd (cl d i j) := h.2 ks hk i hi j kd hj
theorem ShK.rows {K : TypeId → Option (List Kd)} {b m : Nat} {e : TypeId} {d : D} (h : ShK K (some b) (m + 1) (.slice e) d) : len d ≤ b := h.1 b rfl
theorem ShK.text {K : TypeId → Option (List Kd)} {b m : Nat} {d : D} (h : ShK K (some b) m .str d) : C6 d ≤ b := by
 have : leB (some b) (C6 d) := by cases m <;> exact h
 exact this b rfl
end Go.AE
set_option maxRecDepth 100000
namespace Ct
open Go Go.AE
theorem lt : GO 0 ts = true := by decide
theorem gw [An] {k p : Nat} {T : List (Tr Plf)} {t : Tr Plf} {xs : List D} {x : D} (hk : ts[k]? = some T) (hp : T[p]? = some t) (h : DG ts k (atV ts xs) t = x) : Ap ts k (.row (.int (p : Nat) :: xs)) = x := (ZC lt hk hp).trans h
section
variable [An]
def Eu : D := Ap ts 0 (.row [.int (0 : Nat)])
def DB (v0 : D) : D := Ap ts 1 (.row [.int (0 : Nat), v0])
def QA (v0 v1 v2 : D) : D := Ap ts 1 (.row [.int (1 : Nat), v0, v1, v2])
def TS (v0 v1 : D) : D := Ap ts 2 (.row [.int (0 : Nat), v0, v1])
def Xh (v0 v1 v2 : D) : D := Ap ts 2 (.row [.int (1 : Nat), v0, v1, v2])
def Je (v0 v1 v2 v3 v4 v5 v6 : D) : D := Ap ts 3 (.row [.int (0 : Nat), v0, v1, v2, v3, v4, v5, v6])
def Sz (v0 v1 v2 v3 v4 v5 : D) : D := Ap ts 3 (.row [.int (1 : Nat), v0, v1, v2, v3, v4, v5])
def IA (v0 v1 : D) : D := Ap ts 4 (.row [.int (0 : Nat), v0, v1])
def Xf (v0 v1 v2 : D) : D := Ap ts 4 (.row [.int (1 : Nat), v0, v1, v2])
def Jf (v0 v1 v2 v3 v4 v5 v6 : D) : D := Ap ts 5 (.row [.int (0 : Nat), v0, v1, v2, v3, v4, v5, v6])
def SP (v0 v1 v2 v3 v4 v5 : D) : D := Ap ts 5 (.row [.int (1 : Nat), v0, v1, v2, v3, v4, v5])
def Z8 (v0 v1 v2 v3 v4 v5 v6 v7 v8 v9 : D) : D := Ap ts 6 (.row [.int (0 : Nat), v0, v1, v2, v3, v4, v5, v6, v7, v8, v9])
def S0 (v0 v1 v2 v3 v4 v5 v6 v7 v8 v9 v10 : D) : D := Ap ts 6 (.row [.int (1 : Nat), v0, v1, v2, v3, v4, v5, v6, v7, v8, v9, v10])
def Jj (v0 v1 v2 v3 v4 v5 v6 : D) : D := Ap ts 7 (.row [.int (0 : Nat), v0, v1, v2, v3, v4, v5, v6])
def GW (v0 v1 v2 v3 v4 v5 : D) : D := Ap ts 7 (.row [.int (1 : Nat), v0, v1, v2, v3, v4, v5])
def D9 (v0 v1 : D) : D := Ap ts 8 (.row [.int (0 : Nat), v0, v1])
def VS (v0 v1 v2 : D) : D := Ap ts 8 (.row [.int (1 : Nat), v0, v1, v2])
def IC (v0 v1 : D) : D := Ap ts 9 (.row [.int (0 : Nat), v0, v1])
def Wr (v0 v1 v2 : D) : D := Ap ts 9 (.row [.int (1 : Nat), v0, v1, v2])
def GD (v0 v1 v2 v3 v4 v5 v6 v7 v8 v9 : D) : D := Ap ts 10 (.row [.int (0 : Nat), v0, v1, v2, v3, v4, v5, v6, v7, v8, v9])
def Fw (v0 v1 v2 v3 v4 v5 v6 v7 v8 v9 v10 v11 v12 : D) : D := Ap ts 10 (.row [.int (1 : Nat), v0, v1, v2, v3, v4, v5, v6, v7, v8, v9, v10, v11, v12])
def DX (v0 v1 v2 v3 v4 v5 v6 v7 v8 v9 v10 v11 v12 v13 v14 v15 : D) : D := Ap ts 10 (.row [.int (2 : Nat), v0, v1, v2, v3, v4, v5, v6, v7, v8, v9, v10, v11, v12, v13, v14, v15])
def DU (v0 v1 v2 v3 v4 v5 v6 v7 : D) : D := Ap ts 11 (.row [.int (0 : Nat), v0, v1, v2, v3, v4, v5, v6, v7])
def Dy (v0 v1 v2 : D) : D := Ap ts 12 (.row [.int (0 : Nat), v0, v1, v2])
def QM (v0 v1 v2 v3 : D) : D := Ap ts 12 (.row [.int (1 : Nat), v0, v1, v2, v3])
def TX (v0 : D) : D := Ap ts 13 (.row [.int (0 : Nat), v0])
def Jd (v0 v1 v2 v3 : D) : D := Ap ts 13 (.row [.int (1 : Nat), v0, v1, v2, v3])
def Oa (v0 : D) : D := Ap ts 14 (.row [.int (0 : Nat), v0])
def Fl (v0 v1 v2 v3 : D) : D := Ap ts 15 (.row [.int (0 : Nat), v0, v1, v2, v3])
def IN (v0 v1 v2 v3 v4 : D) : D := Ap ts 15 (.row [.int (1 : Nat), v0, v1, v2, v3, v4])
def I1 (v0 v1 v2 v3 v4 v5 : D) : D := Ap ts 15 (.row [.int (2 : Nat), v0, v1, v2, v3, v4, v5])
def II (v0 v1 v2 v3 v4 v5 v6 v7 v8 : D) : D := Ap ts 16 (.row [.int (0 : Nat), v0, v1, v2, v3, v4, v5, v6, v7, v8])
def H2 (v0 v1 v2 v3 : D) : D := Ap ts 18 (.row [.int (0 : Nat), v0, v1, v2, v3])
def JW (v0 v1 v2 v3 v4 v5 v6 v7 v8 v9 v10 v11 : D) : D := Ap ts 19 (.row [.int (0 : Nat), v0, v1, v2, v3, v4, v5, v6, v7, v8, v9, v10, v11])
def Fx (v0 v1 v2 v3 v4 v5 v6 v7 v8 : D) : D := Ap ts 20 (.row [.int (0 : Nat), v0, v1, v2, v3, v4, v5, v6, v7, v8])
def aC (v0 v1 v2 v3 v4 v5 v6 v7 v8 v9 : D) : D := Ap ts 20 (.row [.int (1 : Nat), v0, v1, v2, v3, v4, v5, v6, v7, v8, v9])
def F5 (v0 v1 v2 v3 v4 v5 v6 v7 v8 v9 v10 v11 v12 v13 v14 : D) : D := Ap ts 20 (.row [.int (2 : Nat), v0, v1, v2, v3, v4, v5, v6, v7, v8, v9, v10, v11, v12, v13, v14])
def bx (v0 v1 v2 v3 v4 v5 v6 v7 v8 : D) : D := Ap ts 21 (.row [.int (0 : Nat), v0, v1, v2, v3, v4, v5, v6, v7, v8])
def Tl (v0 v1 v2 v3 v4 v5 v6 v7 v8 v9 v10 v11 : D) : D := Ap ts 22 (.row [.int (0 : Nat), v0, v1, v2, v3, v4, v5, v6, v7, v8, v9, v10, v11])
def HQ (v0 v1 v2 v3 : D) : D := Ap ts 23 (.row [.int (0 : Nat), v0, v1, v2, v3])
def IJ (v0 v1 v2 v3 v4 : D) : D := Ap ts 23 (.row [.int (1 : Nat), v0, v1, v2, v3, v4])
def Fm (v0 v1 v2 v3 v4 v5 v6 v7 v8 v9 : D) : D := Ap ts 24 (.row [.int (0 : Nat), v0, v1, v2, v3, v4, v5, v6, v7, v8, v9])
def GH (v0 v1 v2 v3 v4 v5 v6 v7 v8 v9 v10 v11 : D) : D := Ap ts 25 (.row [.int (0 : Nat), v0, v1, v2, v3, v4, v5, v6, v7, v8, v9, v10, v11])
def I3 (v0 v1 v2 v3 v4 v5 v6 v7 v8 v9 v10 v11 v12 v13 v14 v15 : D) : D := Ap ts 25 (.row [.int (1 : Nat), v0, v1, v2, v3, v4, v5, v6, v7, v8, v9, v10, v11, v12, v13, v14, v15])
def Rl (v0 v1 v2 v3 v4 v5 v6 : D) : D := Ap ts 26 (.row [.int (0 : Nat), v0, v1, v2, v3, v4, v5, v6])
def Rw (v0 v1 v2 v3 v4 v5 v6 v7 v8 v9 v10 : D) : D := Ap ts 26 (.row [.int (1 : Nat), v0, v1, v2, v3, v4, v5, v6, v7, v8, v9, v10])
def Ot (v0 v1 v2 v3 v4 v5 v6 v7 v8 v9 : D) : D := Ap ts 26 (.row [.int (2 : Nat), v0, v1, v2, v3, v4, v5, v6, v7, v8, v9])
def Lo (v0 v1 v2 v3 v4 v5 v6 v7 v8 v9 : D) : D := Ap ts 27 (.row [.int (0 : Nat), v0, v1, v2, v3, v4, v5, v6, v7, v8, v9])
def Ma (v0 v1 v2 v3 v4 v5 v6 v7 v8 v9 v10 : D) : D := Ap ts 27 (.row [.int (1 : Nat), v0, v1, v2, v3, v4, v5, v6, v7, v8, v9, v10])
def L9 (v0 v1 v2 v3 v4 v5 v6 v7 v8 v9 v10 v11 v12 v13 v14 : D) : D := Ap ts 28 (.row [.int (0 : Nat), v0, v1, v2, v3, v4, v5, v6, v7, v8, v9, v10, v11, v12, v13, v14])
def Br (v0 v1 v2 v3 v4 v5 v6 v7 v8 v9 v10 v11 v12 v13 v14 v15 v16 v17 v18 v19 : D) : D := Ap ts 28 (.row [.int (1 : Nat), v0, v1, v2, v3, v4, v5, v6, v7, v8, v9, v10, v11, v12, v13, v14, v15, v16, v17, v18, v19])
def HX (v0 v1 v2 v3 v4 v5 v6 v7 v8 v9 v10 v11 v12 : D) : D := Ap ts 29 (.row [.int (0 : Nat), v0, v1, v2, v3, v4, v5, v6, v7, v8, v9, v10, v11, v12])
def Mn (v0 v1 v2 v3 v4 v5 v6 : D) : D := Ap ts 30 (.row [.int (0 : Nat), v0, v1, v2, v3, v4, v5, v6])
def KU (v0 v1 v2 v3 v4 v5 v6 v7 : D) : D := Ap ts 30 (.row [.int (1 : Nat), v0, v1, v2, v3, v4, v5, v6, v7])
def IG (v0 v1 v2 v3 v4 v5 v6 : D) : D := Ap ts 31 (.row [.int (0 : Nat), v0, v1, v2, v3, v4, v5, v6])
def HE (v0 v1 v2 v3 v4 v5 v6 v7 v8 : D) : D := Ap ts 31 (.row [.int (1 : Nat), v0, v1, v2, v3, v4, v5, v6, v7, v8])
def Mr (v0 v1 v2 v3 v4 v5 v6 v7 v8 v9 v10 v11 v12 v13 v14 v15 v16 v17 v18 v19 v20 v21 v22 v23 v24 v25 v26 : D) : D := Ap ts 32 (.row [.int (0 : Nat), v0, v1, v2, v3, v4, v5, v6, v7, v8, v9, v10, v11, v12, v13, v14, v15, v16, v17, v18, v19, v20, v21, v22, v23, v24, v25, v26])
def QV (v0 v1 v2 v3 v4 v5 v6 v7 v8 v9 v10 : D) : D := Ap ts 34 (.row [.int (0 : Nat), v0, v1, v2, v3, v4, v5, v6, v7, v8, v9, v10])
def Mo (v0 v1 v2 v3 v4 v5 v6 v7 v8 v9 v10 v11 : D) : D := Ap ts 34 (.row [.int (1 : Nat), v0, v1, v2, v3, v4, v5, v6, v7, v8, v9, v10, v11])
def Jc (v0 v1 v2 v3 v4 v5 v6 v7 v8 v9 v10 v11 : D) : D := Ap ts 35 (.row [.int (0 : Nat), v0, v1, v2, v3, v4, v5, v6, v7, v8, v9, v10, v11])
def QP (v0 v1 v2 v3 v4 v5 v6 v7 v8 v9 v10 v11 v12 : D) : D := Ap ts 35 (.row [.int (1 : Nat), v0, v1, v2, v3, v4, v5, v6, v7, v8, v9, v10, v11, v12])
def UQ (v0 v1 v2 v3 v4 v5 v6 v7 v8 v9 v10 v11 v12 v13 v14 v15 v16 v17 v18 v19 v20 v21 v22 v23 v24 v25 : D) : D := Ap ts 36 (.row [.int (0 : Nat), v0, v1, v2, v3, v4, v5, v6, v7, v8, v9, v10, v11, v12, v13, v14, v15, v16, v17, v18, v19, v20, v21, v22, v23, v24, v25])
def Db (v0 v1 v2 v3 v4 v5 v6 v7 v8 : D) : D := Ap ts 37 (.row [.int (0 : Nat), v0, v1, v2, v3, v4, v5, v6, v7, v8])
def LZ (v0 v1 v2 v3 v4 v5 v6 v7 v8 v9 v10 v11 v12 v13 v14 v15 v16 v17 v18 v19 v20 v21 v22 v23 v24 v25 v26 v27 v28 : D) : D := Ap ts 38 (.row [.int (0 : Nat), v0, v1, v2, v3, v4, v5, v6, v7, v8, v9, v10, v11, v12, v13, v14, v15, v16, v17, v18, v19, v20, v21, v22, v23, v24, v25, v26, v27, v28])
def Mc (v0 v1 v2 v3 v4 v5 v6 v7 v8 v9 v10 v11 v12 v13 v14 v15 v16 v17 v18 v19 v20 v21 v22 v23 v24 v25 v26 v27 v28 v29 v30 v31 v32 v33 v34 : D) : D := Ap ts 38 (.row [.int (1 : Nat), v0, v1, v2, v3, v4, v5, v6, v7, v8, v9, v10, v11, v12, v13, v14, v15, v16, v17, v18, v19, v20, v21, v22, v23, v24, v25, v26, v27, v28, v29, v30, v31, v32, v33, v34])
def OG (v0 v1 v2 v3 v4 v5 v6 v7 v8 v9 v10 v11 v12 v13 v14 v15 v16 v17 v18 v19 v20 v21 v22 v23 v24 v25 v26 v27 v28 v29 v30 v31 v32 v33 v34 v35 v36 : D) : D := Ap ts 38 (.row [.int (2 : Nat), v0, v1, v2, v3, v4, v5, v6, v7, v8, v9, v10, v11, v12, v13, v14, v15, v16, v17, v18, v19, v20, v21, v22, v23, v24, v25, v26, v27, v28, v29, v30, v31, v32, v33, v34, v35, v36])
def Oo (v0 v1 v2 v3 v4 v5 v6 v7 v8 v9 v10 v11 v12 v13 v14 v15 v16 v17 v18 v19 v20 v21 v22 v23 v24 v25 v26 v27 v28 v29 v30 v31 v32 v33 v34 : D) : D := Ap ts 38 (.row [.int (3 : Nat), v0, v1, v2, v3, v4, v5, v6, v7, v8, v9, v10, v11, v12, v13, v14, v15, v16, v17, v18, v19, v20, v21, v22, v23, v24, v25, v26, v27, v28, v29, v30, v31, v32, v33, v34])
def Od (v0 v1 v2 v3 v4 v5 v6 v7 v8 v9 v10 v11 v12 v13 v14 v15 v16 v17 v18 v19 v20 v21 v22 v23 v24 v25 v26 v27 v28 v29 v30 v31 v32 v33 v34 v35 v36 : D) : D := Ap ts 38 (.row [.int (4 : Nat), v0, v1, v2, v3, v4, v5, v6, v7, v8, v9, v10, v11, v12, v13, v14, v15, v16, v17, v18, v19, v20, v21, v22, v23, v24, v25, v26, v27, v28, v29, v30, v31, v32, v33, v34, v35, v36])
def Vn (v0 v1 v2 v3 v4 v5 v6 v7 v8 v9 v10 v11 v12 v13 v14 v15 v16 v17 v18 : D) : D := Ap ts 39 (.row [.int (0 : Nat), v0, v1, v2, v3, v4, v5, v6, v7, v8, v9, v10, v11, v12, v13, v14, v15, v16, v17, v18])
def NX (v0 v1 v2 v3 v4 v5 v6 v7 v8 v9 v10 v11 v12 v13 v14 v15 v16 v17 v18 v19 v20 v21 v22 : D) : D := Ap ts 39 (.row [.int (1 : Nat), v0, v1, v2, v3, v4, v5, v6, v7, v8, v9, v10, v11, v12, v13, v14, v15, v16, v17, v18, v19, v20, v21, v22])
def NJ (v0 v1 v2 v3 v4 v5 v6 v7 v8 v9 v10 v11 v12 v13 v14 v15 v16 v17 v18 v19 v20 v21 : D) : D := Ap ts 39 (.row [.int (2 : Nat), v0, v1, v2, v3, v4, v5, v6, v7, v8, v9, v10, v11, v12, v13, v14, v15, v16, v17, v18, v19, v20, v21])
def HC (v0 v1 v2 v3 v4 v5 v6 v7 v8 v9 : D) : D := Ap ts 40 (.row [.int (0 : Nat), v0, v1, v2, v3, v4, v5, v6, v7, v8, v9])
def KB (v0 v1 v2 v3 v4 v5 v6 v7 v8 v9 v10 v11 v12 v13 v14 v15 : D) : D := Ap ts 40 (.row [.int (1 : Nat), v0, v1, v2, v3, v4, v5, v6, v7, v8, v9, v10, v11, v12, v13, v14, v15])
def Mk (v0 v1 v2 v3 : D) : D := Ap ts 41 (.row [.int (0 : Nat), v0, v1, v2, v3])
def Mx (v0 v1 v2 v3 v4 v5 v6 v7 v8 v9 : D) : D := Ap ts 41 (.row [.int (1 : Nat), v0, v1, v2, v3, v4, v5, v6, v7, v8, v9])
def OQ (v0 v1 v2 v3 v4 v5 : D) : D := Ap ts 42 (.row [.int (0 : Nat), v0, v1, v2, v3, v4, v5])
def NI (v0 v1 v2 v3 v4 v5 v6 v7 : D) : D := Ap ts 42 (.row [.int (1 : Nat), v0, v1, v2, v3, v4, v5, v6, v7])
def Uy (v0 v1 v2 v3 v4 v5 v6 v7 v8 v9 v10 v11 : D) : D := Ap ts 43 (.row [.int (0 : Nat), v0, v1, v2, v3, v4, v5, v6, v7, v8, v9, v10, v11])
def C9 (v0 v1 v2 v3 v4 v5 : D) : D := Ap ts 44 (.row [.int (0 : Nat), v0, v1, v2, v3, v4, v5])
def UC (v0 v1 v2 v3 v4 v5 v6 v7 v8 v9 v10 v11 v12 v13 v14 : D) : D := Ap ts 45 (.row [.int (0 : Nat), v0, v1, v2, v3, v4, v5, v6, v7, v8, v9, v10, v11, v12, v13, v14])
def Hr (v0 v1 v2 v3 v4 v5 v6 v7 v8 v9 v10 v11 v12 v13 v14 v15 v16 v17 : D) : D := Ap ts 45 (.row [.int (1 : Nat), v0, v1, v2, v3, v4, v5, v6, v7, v8, v9, v10, v11, v12, v13, v14, v15, v16, v17])
def OH (v0 v1 v2 : D) : D := Ap ts 46 (.row [.int (0 : Nat), v0, v1, v2])
def Ku (v0 v1 v2 v3 : D) : D := Ap ts 46 (.row [.int (1 : Nat), v0, v1, v2, v3])
def Fu (v0 v1 v2 v3 v4 v5 v6 : D) : D := Ap ts 47 (.row [.int (0 : Nat), v0, v1, v2, v3, v4, v5, v6])
def C8 (v0 v1 v2 v3 v4 v5 v6 v7 v8 v9 v10 v11 v12 v13 : D) : D := Ap ts 48 (.row [.int (0 : Nat), v0, v1, v2, v3, v4, v5, v6, v7, v8, v9, v10, v11, v12, v13])
def UF (v0 v1 v2 v3 v4 v5 v6 v7 v8 v9 v10 : D) : D := Ap ts 49 (.row [.int (0 : Nat), v0, v1, v2, v3, v4, v5, v6, v7, v8, v9, v10])
def GB (v0 v1 v2 v3 v4 v5 v6 v7 v8 v9 v10 v11 v12 v13 : D) : D := Ap ts 49 (.row [.int (1 : Nat), v0, v1, v2, v3, v4, v5, v6, v7, v8, v9, v10, v11, v12, v13])
def O5 (v0 v1 v2 v3 v4 v5 v6 v7 v8 v9 v10 v11 v12 v13 v14 v15 v16 v17 v18 v19 v20 v21 : D) : D := Ap ts 49 (.row [.int (2 : Nat), v0, v1, v2, v3, v4, v5, v6, v7, v8, v9, v10, v11, v12, v13, v14, v15, v16, v17, v18, v19, v20, v21])
def IQ (v0 v1 v2 v3 v4 v5 v6 v7 v8 v9 v10 v11 v12 v13 v14 v15 v16 v17 v18 v19 v20 v21 : D) : D := Ap ts 49 (.row [.int (3 : Nat), v0, v1, v2, v3, v4, v5, v6, v7, v8, v9, v10, v11, v12, v13, v14, v15, v16, v17, v18, v19, v20, v21])
theorem ii : Eu =
 .row [.int 1] := gw rfl rfl rfl
theorem iD (v0 : D) : DB v0 =
  cond ((C6 v0 : Int) < 1) (
 .row [.int 1, (.bool false)]) (
 cond (32 < (C6 v0 : Int)) (
 .row [.int 1, (.bool false)]) (
 QA (Wu v0) (.int (len (Wu v0) : Int)) (.int 0))) := gw rfl rfl rfl
theorem dq (v0 : D) (v1 v2 : Int) : QA v0 (.int v1) (.int v2) =
  cond (v2 < v1) (
 cond (v2 < 0) (
 .row []) (
 cond (v2 < len v0) (
 cond ((IntKind.wrap .u8 (cl v0 v2 0).toInt) < 97) (
 cond ((IntKind.wrap .u8 (cl v0 v2 0).toInt) < 65) (
 cond (v2 = 0) (
 .row [.int 1, (.bool false)]) (
 cond ((IntKind.wrap .u8 (cl v0 v2 0).toInt) < 48) (
 .row [.int 1, (.bool false)]) (
 cond (57 < (IntKind.wrap .u8 (cl v0 v2 0).toInt)) (
 .row [.int 1, (.bool false)]) (
 QA v0 (.int v1) (.int (IntKind.wrap .i64 (v2 + 1))))))) (
 cond (90 < (IntKind.wrap .u8 (cl v0 v2 0).toInt)) (
 cond (v2 = 0) (
 .row [.int 1, (.bool false)]) (
 cond ((IntKind.wrap .u8 (cl v0 v2 0).toInt) = 95) (
 QA v0 (.int v1) (.int (IntKind.wrap .i64 (v2 + 1)))) (
 .row [.int 1, (.bool false)]))) (
 QA v0 (.int v1) (.int (IntKind.wrap .i64 (v2 + 1)))))) (
 cond (122 < (IntKind.wrap .u8 (cl v0 v2 0).toInt)) (
 cond (v2 = 0) (
 .row [.int 1, (.bool false)]) (
 .row [.int 1, (.bool false)])) (
 QA v0 (.int v1) (.int (IntKind.wrap .i64 (v2 + 1)))))) (
 .row []))) (
 .row [.int 1, (.bool true)]) := gw rfl rfl (cL (cL rfl (cL (cL (cL (cQ rfl rfl) (cL (cQ rfl (cQ rfl rfl)) rfl)) (cL (cQ rfl rfl) rfl)) rfl)) rfl)
theorem io (v0 v1 : D) : TS v0 v1 =
 Xh v0 (.int 0) v1 := gw rfl rfl rfl
theorem iq (v0 : D) (v1 : Int) (v2 : D) : Xh v0 (.int v1) v2 =
  cond (v1 < len v0) (
 cond (v1 < 0) (
 .row []) (
 cond (D.strEq (cl v0 v1 0) v2) (
 .row [.int 1, (.int v1)]) (
 Xh v0 (.int (IntKind.wrap .i64 (v1 + 1))) v2))) (
 .row [.int 1, (.int (-1))]) := gw rfl rfl rfl
theorem iA (v0 v1 v2 : Int) (v3 v4 v5 v6 : D) : Je (.int v0) (.int v1) (.int v2) v3 v4 v5 v6 =
  cond (v0 < v1) (
 .row [.int 1, (.int 0)]) (
 cond (v2 < v0) (
 .row [.int 1, (.int v2)]) (
 Sz (.int v0) (.int 0) v3 v4 v5 v6)) := gw rfl rfl rfl
theorem dk (v0 v1 : Int) (v2 v3 v4 v5 : D) : Sz (.int v0) (.int v1) v2 v3 v4 v5 =
  cond (v1 < v0) (
 cond (v1 < 0) (
 .row []) (
 cond (v1 < len v4) (
 cond ((sl (DB (cl v4 v1 0)) 0).toInt = 1) (
 cond ((sl (DB (cl v4 v1 0)) 1).toBool) (
 cond ((sl (TS v4 (cl v4 v1 0)) 0).toInt = 1) (
 cond ((sl (TS v4 (cl v4 v1 0)) 1).toInt < v1) (
 .row [.int 1, (.int v1)]) (
 cond ((cl v4 v1 1).toInt < 1) (
 .row [.int 1, (.int v1)]) (
 cond (1000 < (cl v4 v1 1).toInt) (
 .row [.int 1, (.int v1)]) (
 Sz (.int v0) (.int (IntKind.wrap .i64 (v1 + 1))) v2 v3 v4 v5)))) (
 .row [])) (
 .row [.int 1, (.int v1)])) (
 .row [])) (
 .row []))) (
 .row [.int 1, (.int (-1))]) := gw rfl rfl (cL (cL rfl (cL (cQ (cg rfl (cQ (cL rfl (cL rfl (cL rfl rfl))) rfl) rfl) rfl) rfl)) rfl)
theorem jg (v0 v1 : D) : IA v0 v1 =
 Xf v0 (.int 0) v1 := gw rfl rfl rfl
theorem il (v0 : D) (v1 : Int) (v2 : D) : Xf v0 (.int v1) v2 =
  cond (v1 < len v0) (
 cond (v1 < 0) (
 .row []) (
 cond (D.strEq (cl v0 v1 0) v2) (
 .row [.int 1, (.int v1)]) (
 Xf v0 (.int (IntKind.wrap .i64 (v1 + 1))) v2))) (
 .row [.int 1, (.int (-1))]) := gw rfl rfl rfl
theorem ja (v0 v1 v2 : Int) (v3 v4 v5 v6 : D) : Jf (.int v0) (.int v1) (.int v2) v3 v4 v5 v6 =
  cond (v0 < v1) (
 .row [.int 1, (.int 0)]) (
 cond (v2 < v0) (
 .row [.int 1, (.int v2)]) (
 SP (.int v0) (.int 0) v3 v4 v5 v6)) := gw rfl rfl rfl
theorem cX (v0 v1 : Int) (v2 v3 v4 v5 : D) : SP (.int v0) (.int v1) v2 v3 v4 v5 =
  cond (v1 < v0) (
 cond (v1 < 0) (
 .row []) (
 cond (v1 < len v3) (
 cond ((sl (DB (cl v3 v1 0)) 0).toInt = 1) (
 cond ((sl (DB (cl v3 v1 0)) 1).toBool) (
 cond ((sl (IA v3 (cl v3 v1 0)) 0).toInt = 1) (
 cond ((sl (IA v3 (cl v3 v1 0)) 1).toInt < v1) (
 .row [.int 1, (.int v1)]) (
 cond ((cl v3 v1 2).toInt < 0) (
 .row [.int 1, (.int v1)]) (
 cond (1048576 < (cl v3 v1 2).toInt) (
 .row [.int 1, (.int v1)]) (
 SP (.int v0) (.int (IntKind.wrap .i64 (v1 + 1))) v2 v3 v4 v5)))) (
 .row [])) (
 .row [.int 1, (.int v1)])) (
 .row [])) (
 .row []))) (
 .row [.int 1, (.int (-1))]) := gw rfl rfl (cL (cL rfl (cL (cQ (cg rfl (cQ (cL rfl (cL rfl (cL rfl rfl))) rfl) rfl) rfl) rfl)) rfl)
theorem i5 (v0 v1 v2 : D) (v3 : Int) (v4 v5 v6 : D) (v7 v8 v9 : Int) : Z8 v0 v1 v2 (.int v3) v4 v5 v6 (.int v7) (.int v8) (.int v9) =
 S0 v0 (.int 0) v1 v2 (.int v3) v4 v5 v6 (.int v7) (.int v8) (.int v9) := gw rfl rfl rfl
theorem ej (v0 : D) (v1 : Int) (v2 v3 : D) (v4 : Int) (v5 v6 v7 : D) (v8 v9 v10 : Int) : S0 v0 (.int v1) v2 v3 (.int v4) v5 v6 v7 (.int v8) (.int v9) (.int v10) =
  cond (v1 < len v0) (
 cond (v1 < 0) (
 .row []) (
 cond ((D.strEq v2 (cl v0 v1 0) && (D.strEq v3 (cl v0 v1 1) && (decide (v4 = (cl v0 v1 2).toInt) && (D.strEq v5 (cl v0 v1 3) && (D.strEq v6 (cl v0 v1 4) && (D.strEq v7 (cl v0 v1 5) && (decide (v8 = (cl v0 v1 6).toInt) && (decide (v9 = (cl v0 v1 7).toInt) && decide (v10 = (cl v0 v1 8).toInt)))))))))) (
 .row [.int 1, (.int v1)]) (
 S0 v0 (.int (IntKind.wrap .i64 (v1 + 1))) v2 v3 (.int v4) v5 v6 v7 (.int v8) (.int v9) (.int v10)))) (
 .row [.int 1, (.int (-1))]) := gw rfl rfl (cL (cL rfl (cg (aE rfl (aE rfl (aE (qE rfl rfl) (aE rfl (aE rfl (aE rfl (aE (qE rfl rfl) (aE (qE rfl rfl) (qE rfl rfl))))))))) rfl rfl)) rfl)
theorem iG (v0 v1 v2 : Int) (v3 v4 v5 v6 : D) : Jj (.int v0) (.int v1) (.int v2) v3 v4 v5 v6 =
  cond (v0 < v1) (
 .row [.int 1, (.int 0)]) (
 cond (v2 < v0) (
 .row [.int 1, (.int v2)]) (
 GW (.int v0) (.int 0) v3 v4 v5 v6)) := gw rfl rfl rfl
theorem aP (v0 v1 : Int) (v2 v3 v4 v5 : D) {F0 F1 F2 : D} (h0 : Z8 (sb v5 0 v1) (cl v5 v1 0) (cl v5 v1 1) (cl v5 v1 2) (cl v5 v1 3) (cl v5 v1 4) (cl v5 v1 5) (cl v5 v1 6) (cl v5 v1 7) (cl v5 v1 8) = F0) (h1 : TS v4 (cl v5 v1 5) = F1) (h2 : IA v3 (cl v5 v1 0) = F2) : GW (.int v0) (.int v1) v2 v3 v4 v5 =
  cond (v1 < v0) (
 cond (v1 < 0) (
 .row []) (
 cond (v1 < len v5) (
 cond ((cl v5 v1 2).toInt = 1) (
 cond ((sl F2 0).toInt = 1) (
 cond ((sl F1 0).toInt = 1) (
 cond ((sl F2 1).toInt < 0) (
 .row [.int 1, (.int v1)]) (
 cond ((sl (IA v3 (cl v5 v1 1)) 0).toInt = 1) (
 cond ((sl (IA v3 (cl v5 v1 1)) 1).toInt < 0) (
 .row [.int 1, (.int v1)]) (
 cond (len v5 < v1) (
 .row []) (
 cond ((sl F0 0).toInt = 1) (
 cond ((sl F0 1).toInt < 0) (
 cond ((sl F2 1).toInt < len v3) (
 cond ((sl (DB (cl v5 v1 3)) 0).toInt = 1) (
 cond ((sl (DB (cl v5 v1 3)) 1).toBool) (
 cond ((sl (DB (cl v5 v1 4)) 0).toInt = 1) (
 cond ((sl (DB (cl v5 v1 4)) 1).toBool) (
 cond (D.strEq (cl v5 v1 4) v2) (
 .row [.int 1, (.int v1)]) (
 cond (eqC (cl v5 v1 5) 0 0) (
 cond ((cl v5 v1 6).toInt = 0) (
 cond ((cl v5 v1 7).toInt = 0) (
 cond ((cl v5 v1 8).toInt = 0) (
 GW (.int v0) (.int (IntKind.wrap .i64 (v1 + 1))) v2 v3 v4 v5) (
 .row [.int 1, (.int v1)])) (
 .row [.int 1, (.int v1)])) (
 .row [.int 1, (.int v1)])) (
 cond ((sl F1 1).toInt < 0) (
 .row [.int 1, (.int v1)]) (
 cond ((cl v5 v1 6).toInt < 0) (
 .row [.int 1, (.int v1)]) (
 cond ((cl v5 v1 7).toInt < (cl v5 v1 6).toInt) (
 .row [.int 1, (.int v1)]) (
 cond ((cl v5 v1 8).toInt < (-1000)) (
 .row [.int 1, (.int v1)]) (
 cond (1000 < (cl v5 v1 8).toInt) (
 .row [.int 1, (.int v1)]) (
 cond ((sl F1 1).toInt < len v4) (
 cond ((cl v4 (sl F1 1).toInt 1).toInt < (cl v5 v1 7).toInt) (
 .row [.int 1, (.int v1)]) (
 cond ((IntKind.wrap .i64 ((cl v5 v1 6).toInt + (cl v5 v1 8).toInt)) < 0) (
 .row [.int 1, (.int v1)]) (
 cond ((cl v4 (sl F1 1).toInt 1).toInt < (IntKind.wrap .i64 ((cl v5 v1 7).toInt + (cl v5 v1 8).toInt))) (
 .row [.int 1, (.int v1)]) (
 GW (.int v0) (.int (IntKind.wrap .i64 (v1 + 1))) v2 v3 v4 v5)))) (
 .row []))))))))) (
 .row [.int 1, (.int v1)])) (
 .row [])) (
 .row [.int 1, (.int v1)])) (
 .row [])) (
 .row [])) (
 .row [.int 1, (.int v1)])) (
 .row [])))) (
 .row []))) (
 .row [])) (
 .row [])) (
 cond ((cl v5 v1 2).toInt = 2) (
 cond ((sl F2 0).toInt = 1) (
 cond ((sl F1 0).toInt = 1) (
 cond ((sl F2 1).toInt < 0) (
 .row [.int 1, (.int v1)]) (
 cond ((sl (IA v3 (cl v5 v1 1)) 0).toInt = 1) (
 cond ((sl (IA v3 (cl v5 v1 1)) 1).toInt < 0) (
 .row [.int 1, (.int v1)]) (
 cond (len v5 < v1) (
 .row []) (
 cond ((sl F0 0).toInt = 1) (
 cond ((sl F0 1).toInt < 0) (
 cond ((sl F2 1).toInt < len v3) (
 cond ((sl (DB (cl v5 v1 3)) 0).toInt = 1) (
 cond ((sl (DB (cl v5 v1 3)) 1).toBool) (
 cond ((sl (DB (cl v5 v1 4)) 0).toInt = 1) (
 cond ((sl (DB (cl v5 v1 4)) 1).toBool) (
 cond (D.strEq (cl v5 v1 4) v2) (
 .row [.int 1, (.int v1)]) (
 cond (eqC (cl v5 v1 5) 0 0) (
 cond ((cl v5 v1 6).toInt = 0) (
 cond ((cl v5 v1 7).toInt = 0) (
 cond ((cl v5 v1 8).toInt = 0) (
 GW (.int v0) (.int (IntKind.wrap .i64 (v1 + 1))) v2 v3 v4 v5) (
 .row [.int 1, (.int v1)])) (
 .row [.int 1, (.int v1)])) (
 .row [.int 1, (.int v1)])) (
 cond ((sl F1 1).toInt < 0) (
 .row [.int 1, (.int v1)]) (
 cond ((cl v5 v1 6).toInt < 0) (
 .row [.int 1, (.int v1)]) (
 cond ((cl v5 v1 7).toInt < (cl v5 v1 6).toInt) (
 .row [.int 1, (.int v1)]) (
 cond ((cl v5 v1 8).toInt < (-1000)) (
 .row [.int 1, (.int v1)]) (
 cond (1000 < (cl v5 v1 8).toInt) (
 .row [.int 1, (.int v1)]) (
 cond ((sl F1 1).toInt < len v4) (
 cond ((cl v4 (sl F1 1).toInt 1).toInt < (cl v5 v1 7).toInt) (
 .row [.int 1, (.int v1)]) (
 cond ((IntKind.wrap .i64 ((cl v5 v1 6).toInt + (cl v5 v1 8).toInt)) < 0) (
 .row [.int 1, (.int v1)]) (
 cond ((cl v4 (sl F1 1).toInt 1).toInt < (IntKind.wrap .i64 ((cl v5 v1 7).toInt + (cl v5 v1 8).toInt))) (
 .row [.int 1, (.int v1)]) (
 GW (.int v0) (.int (IntKind.wrap .i64 (v1 + 1))) v2 v3 v4 v5)))) (
 .row []))))))))) (
 .row [.int 1, (.int v1)])) (
 .row [])) (
 .row [.int 1, (.int v1)])) (
 .row [])) (
 .row [])) (
 .row [.int 1, (.int v1)])) (
 .row [])))) (
 .row []))) (
 .row [])) (
 .row [])) (
 cond ((cl v5 v1 2).toInt = 3) (
 cond ((sl F2 0).toInt = 1) (
 cond ((sl F1 0).toInt = 1) (
 cond ((sl F2 1).toInt < 0) (
 .row [.int 1, (.int v1)]) (
 cond ((sl (IA v3 (cl v5 v1 1)) 0).toInt = 1) (
 cond ((sl (IA v3 (cl v5 v1 1)) 1).toInt < 0) (
 .row [.int 1, (.int v1)]) (
 cond (len v5 < v1) (
 .row []) (
 cond ((sl F0 0).toInt = 1) (
 cond ((sl F0 1).toInt < 0) (
 cond ((sl F2 1).toInt < len v3) (
 cond (0 < (cl v3 (sl F2 1).toInt 2).toInt) (
 cond ((C6 (cl v5 v1 3) : Int) < 4611686018427387904) (
 cond ((C6 (cl v5 v1 4) : Int) < 4611686018427387904) (
 cond (eqC (Xd (cl v5 v1 3) (cl v5 v1 4)) 0 0) (
 cond (eqC (cl v5 v1 5) 0 0) (
 cond ((cl v5 v1 6).toInt = 0) (
 cond ((cl v5 v1 7).toInt = 0) (
 cond ((cl v5 v1 8).toInt = 0) (
 GW (.int v0) (.int (IntKind.wrap .i64 (v1 + 1))) v2 v3 v4 v5) (
 .row [.int 1, (.int v1)])) (
 .row [.int 1, (.int v1)])) (
 .row [.int 1, (.int v1)])) (
 cond ((sl F1 1).toInt < 0) (
 .row [.int 1, (.int v1)]) (
 cond ((cl v5 v1 6).toInt < 0) (
 .row [.int 1, (.int v1)]) (
 cond ((cl v5 v1 7).toInt < (cl v5 v1 6).toInt) (
 .row [.int 1, (.int v1)]) (
 cond ((cl v5 v1 8).toInt < (-1000)) (
 .row [.int 1, (.int v1)]) (
 cond (1000 < (cl v5 v1 8).toInt) (
 .row [.int 1, (.int v1)]) (
 cond ((sl F1 1).toInt < len v4) (
 cond ((cl v4 (sl F1 1).toInt 1).toInt < (cl v5 v1 7).toInt) (
 .row [.int 1, (.int v1)]) (
 cond ((IntKind.wrap .i64 ((cl v5 v1 6).toInt + (cl v5 v1 8).toInt)) < 0) (
 .row [.int 1, (.int v1)]) (
 cond ((cl v4 (sl F1 1).toInt 1).toInt < (IntKind.wrap .i64 ((cl v5 v1 7).toInt + (cl v5 v1 8).toInt))) (
 .row [.int 1, (.int v1)]) (
 GW (.int v0) (.int (IntKind.wrap .i64 (v1 + 1))) v2 v3 v4 v5)))) (
 .row [])))))))) (
 .row [.int 1, (.int v1)])) (
 .row [])) (
 .row [])) (
 .row [.int 1, (.int v1)])) (
 .row [])) (
 .row [.int 1, (.int v1)])) (
 .row [])))) (
 .row []))) (
 .row [])) (
 .row [])) (
 cond ((cl v5 v1 2).toInt = 4) (
 cond ((sl F2 0).toInt = 1) (
 cond ((sl F1 0).toInt = 1) (
 cond ((sl F2 1).toInt < 0) (
 .row [.int 1, (.int v1)]) (
 cond ((sl (IA v3 (cl v5 v1 1)) 0).toInt = 1) (
 cond ((sl (IA v3 (cl v5 v1 1)) 1).toInt < 0) (
 .row [.int 1, (.int v1)]) (
 cond (len v5 < v1) (
 .row []) (
 cond ((sl F0 0).toInt = 1) (
 cond ((sl F0 1).toInt < 0) (
 cond ((sl F2 1).toInt < len v3) (
 cond ((C6 (cl v5 v1 3) : Int) < 4611686018427387904) (
 cond ((C6 (cl v5 v1 4) : Int) < 4611686018427387904) (
 cond (eqC (Xd (cl v5 v1 3) (cl v5 v1 4)) 0 0) (
 cond (eqC (cl v5 v1 5) 0 0) (
 cond ((cl v5 v1 6).toInt = 0) (
 cond ((cl v5 v1 7).toInt = 0) (
 cond ((cl v5 v1 8).toInt = 0) (
 GW (.int v0) (.int (IntKind.wrap .i64 (v1 + 1))) v2 v3 v4 v5) (
 .row [.int 1, (.int v1)])) (
 .row [.int 1, (.int v1)])) (
 .row [.int 1, (.int v1)])) (
 cond ((sl F1 1).toInt < 0) (
 .row [.int 1, (.int v1)]) (
 cond ((cl v5 v1 6).toInt < 0) (
 .row [.int 1, (.int v1)]) (
 cond ((cl v5 v1 7).toInt < (cl v5 v1 6).toInt) (
 .row [.int 1, (.int v1)]) (
 cond ((cl v5 v1 8).toInt < (-1000)) (
 .row [.int 1, (.int v1)]) (
 cond (1000 < (cl v5 v1 8).toInt) (
 .row [.int 1, (.int v1)]) (
 cond ((sl F1 1).toInt < len v4) (
 cond ((cl v4 (sl F1 1).toInt 1).toInt < (cl v5 v1 7).toInt) (
 .row [.int 1, (.int v1)]) (
 cond ((IntKind.wrap .i64 ((cl v5 v1 6).toInt + (cl v5 v1 8).toInt)) < 0) (
 .row [.int 1, (.int v1)]) (
 cond ((cl v4 (sl F1 1).toInt 1).toInt < (IntKind.wrap .i64 ((cl v5 v1 7).toInt + (cl v5 v1 8).toInt))) (
 .row [.int 1, (.int v1)]) (
 GW (.int v0) (.int (IntKind.wrap .i64 (v1 + 1))) v2 v3 v4 v5)))) (
 .row [])))))))) (
 .row [.int 1, (.int v1)])) (
 .row [])) (
 .row [])) (
 .row [])) (
 .row [.int 1, (.int v1)])) (
 .row [])))) (
 .row []))) (
 .row [])) (
 .row [])) (
 cond ((sl F2 0).toInt = 1) (
 cond ((sl F1 0).toInt = 1) (
 .row [.int 1, (.int v1)]) (
 .row [])) (
 .row [])))))) (
 .row []))) (
 .row [.int 1, (.int (-1))]) := by
  subst h0; subst h1; subst h2; exact gw rfl rfl (cL (cL rfl (cL (cQ (cQ (cQ (cL rfl (cQ (cL rfl (cL rfl (cQ (cL (cL (cQ (cg rfl (cQ (cg rfl (cg rfl rfl (cg rfl (cQ (cQ (cQ rfl rfl) rfl) rfl) (cL rfl (cL rfl (cL rfl (cL rfl (cL rfl rfl))))))) rfl) rfl) rfl) rfl) rfl) rfl) rfl))) rfl)) rfl) rfl) (cQ (cQ (cQ (cL rfl (cQ (cL rfl (cL rfl (cQ (cL (cL (cQ (cg rfl (cQ (cg rfl (cg rfl rfl (cg rfl (cQ (cQ (cQ rfl rfl) rfl) rfl) (cL rfl (cL rfl (cL rfl (cL rfl (cL rfl rfl))))))) rfl) rfl) rfl) rfl) rfl) rfl) rfl))) rfl)) rfl) rfl) (cQ (cQ (cQ (cL rfl (cQ (cL rfl (cL rfl (cQ (cL (cL (cL (cL (cL (cg rfl (cg rfl (cQ (cQ (cQ rfl rfl) rfl) rfl) (cL rfl (cL rfl (cL rfl (cL rfl (cL rfl rfl)))))) rfl) rfl) rfl) rfl) rfl) rfl) rfl))) rfl)) rfl) rfl) (cQ (cQ (cQ (cL rfl (cQ (cL rfl (cL rfl (cQ (cL (cL (cL (cL (cg rfl (cg rfl (cQ (cQ (cQ rfl rfl) rfl) rfl) (cL rfl (cL rfl (cL rfl (cL rfl (cL rfl rfl)))))) rfl) rfl) rfl) rfl) rfl) rfl))) rfl)) rfl) rfl) (cQ (cQ rfl rfl) rfl))))) rfl)) rfl)
theorem iL (v0 v1 : D) : D9 v0 v1 =
 VS v0 (.int 0) v1 := gw rfl rfl rfl
theorem ip (v0 : D) (v1 : Int) (v2 : D) : VS v0 (.int v1) v2 =
  cond (v1 < len v0) (
 cond (v1 < 0) (
 .row []) (
 cond (D.strEq (cl v0 v1 0) v2) (
 .row [.int 1, (.int v1)]) (
 VS v0 (.int (IntKind.wrap .i64 (v1 + 1))) v2))) (
 .row [.int 1, (.int (-1))]) := gw rfl rfl rfl
theorem je (v0 v1 : D) : IC v0 v1 =
 Wr v0 (.int 0) v1 := gw rfl rfl rfl
theorem ig (v0 : D) (v1 : Int) (v2 : D) : Wr v0 (.int v1) v2 =
  cond (v1 < len v0) (
 cond (v1 < 0) (
 .row []) (
 cond (D.strEq (cl v0 v1 0) v2) (
 .row [.int 1, (.int v1)]) (
 Wr v0 (.int (IntKind.wrap .i64 (v1 + 1))) v2))) (
 .row [.int 1, (.int (-1))]) := gw rfl rfl rfl
theorem hZ (v0 v1 v2 v3 v4 v5 v6 v7 v8 v9 : D) : GD v0 v1 v2 v3 v4 v5 v6 v7 v8 v9 =
  cond ((sl (DB v0) 0).toInt = 1) (
 cond ((sl (DB v0) 1).toBool) (
 cond ((sl (Je (.int (len v2 : Int)) (.int 0) (.int 4) v0 v1 v2 v3) 0).toInt = 1) (
 cond ((sl (Je (.int (len v2 : Int)) (.int 0) (.int 4) v0 v1 v2 v3) 1).toInt < 0) (
 cond ((sl (Jf (.int (len v1 : Int)) (.int 1) (.int 24) v0 v1 v2 v3) 0).toInt = 1) (
 cond ((sl (Jf (.int (len v1 : Int)) (.int 1) (.int 24) v0 v1 v2 v3) 1).toInt < 0) (
 cond ((sl (Jj (.int (len v3 : Int)) (.int 0) (.int 80) v0 v1 v2 v3) 0).toInt = 1) (
 cond ((sl (Jj (.int (len v3 : Int)) (.int 0) (.int 80) v0 v1 v2 v3) 1).toInt < 0) (
 cond ((sl (DB v4) 0).toInt = 1) (
 cond ((sl (DB v4) 1).toBool) (
 cond ((sl (Je (.int (len v6 : Int)) (.int 0) (.int 4) v4 v5 v6 v7) 0).toInt = 1) (
 cond ((sl (Je (.int (len v6 : Int)) (.int 0) (.int 4) v4 v5 v6 v7) 1).toInt < 0) (
 cond ((sl (Jf (.int (len v5 : Int)) (.int 1) (.int 24) v4 v5 v6 v7) 0).toInt = 1) (
 cond ((sl (Jf (.int (len v5 : Int)) (.int 1) (.int 24) v4 v5 v6 v7) 1).toInt < 0) (
 cond ((sl (Jj (.int (len v7 : Int)) (.int 0) (.int 80) v4 v5 v6 v7) 0).toInt = 1) (
 cond ((sl (Jj (.int (len v7 : Int)) (.int 0) (.int 80) v4 v5 v6 v7) 1).toInt < 0) (
 cond (24 < (len v8 : Int)) (
 .row [.int 1, (.int 24), (.int 490)]) (
 Fw v0 v1 v2 v3 v4 v5 v6 v7 v8 v9 (.bool (decide (24 < (len v8 : Int)))) (.int 0) Ax)) (
 .row [.int 1, (.int 0), (.int 2)])) (
 .row [])) (
 .row [.int 1, (.int 0), (.int 2)])) (
 .row [])) (
 .row [.int 1, (.int 0), (.int 2)])) (
 .row [])) (
 .row [.int 1, (.int 0), (.int 2)])) (
 .row [])) (
 .row [.int 1, (.int 0), (.int 2)])) (
 .row [])) (
 .row [.int 1, (.int 0), (.int 2)])) (
 .row [])) (
 .row [.int 1, (.int 0), (.int 2)])) (
 .row [])) (
 .row [.int 1, (.int 0), (.int 2)])) (
 .row []) := gw rfl rfl (cQ (cg rfl (cQ (cL (cQ (cL (cQ (cL (cQ (cg rfl (cQ (cL (cQ (cL (cQ rfl rfl) rfl) rfl) rfl) rfl) rfl) rfl) rfl) rfl) rfl) rfl) rfl) rfl) rfl) rfl)
theorem X2 (v0 v1 v2 v3 v4 v5 v6 v7 v8 v9 : D) (v10 : Bool) (v11 : Int) (v12 : D) : Fw v0 v1 v2 v3 v4 v5 v6 v7 v8 v9 (.bool v10) (.int v11) v12 =
  cond (v11 < len v8) (
 cond (v11 < 0) (
 .row []) (
 cond ((sl (D9 v1 (cl v8 v11 0)) 0).toInt = 1) (
 cond ((sl (D9 v1 (cl v8 v11 0)) 1).toInt < 0) (
 .row [.int 1, (.int v11), (.int 490)]) (
 cond ((sl (D9 v5 (cl v8 v11 1)) 0).toInt = 1) (
 cond ((sl (D9 v5 (cl v8 v11 1)) 1).toInt < 0) (
 .row [.int 1, (.int v11), (.int 490)]) (
 cond ((mIx [.str] v12 (.row [(cl v8 v11 0)])) < 0) (
 Fw v0 v1 v2 v3 v4 v5 v6 v7 v8 v9 (.bool v10) (.int (IntKind.wrap .i64 (v11 + 1))) (ad v12 (.row [(cl v8 v11 0), (.bool true)]))) (
 cond ((cl v12 (mIx [.str] v12 (.row [(cl v8 v11 0)])) 1).toBool) (
 .row [.int 1, (.int v11), (.int 490)]) (
 Fw v0 v1 v2 v3 v4 v5 v6 v7 v8 v9 (.bool v10) (.int (IntKind.wrap .i64 (v11 + 1))) (upd v12 (mIx [.str] v12 (.row [(cl v8 v11 0)])) 1 (.bool true)))))) (
 .row []))) (
 .row []))) (
 cond (4 < (len v9 : Int)) (
 .row [.int 1, (.int 4), (.int 491)]) (
 DX v0 v1 v2 v3 v4 v5 v6 v7 v8 v9 (.bool v10) (.int v11) (.bool (decide (v11 < (len v8 : Int)))) (.bool (decide (4 < (len v9 : Int)))) (.int 0) Ax)) := gw rfl rfl (cL (cL rfl (cQ (cL rfl (cQ rfl rfl)) rfl)) rfl)
theorem Yf (v0 v1 v2 v3 v4 v5 v6 v7 v8 v9 : D) (v10 : Bool) (v11 : Int) (v12 v13 : Bool) (v14 : Int) (v15 : D) : DX v0 v1 v2 v3 v4 v5 v6 v7 v8 v9 (.bool v10) (.int v11) (.bool v12) (.bool v13) (.int v14) v15 =
  cond (v14 < len v9) (
 cond (v14 < 0) (
 .row []) (
 cond ((sl (IC v6 (cl v9 v14 0)) 0).toInt = 1) (
 cond ((sl (IC v6 (cl v9 v14 0)) 1).toInt < 0) (
 .row [.int 1, (.int v14), (.int 491)]) (
 cond (eqC (cl v9 v14 1) 0 0) (
 cond ((mIx [.str] v15 (.row [(cl v9 v14 0)])) < 0) (
 cond ((cl v9 v14 2).toInt < (IntKind.wrap .i64 (0 - (cl v9 v14 2).toInt))) (
 cond (1000 < (IntKind.wrap .i64 (0 - (cl v9 v14 2).toInt))) (
 .row [.int 1, (.int v14), (.int 491)]) (
 cond ((cl v9 v14 2).toInt < (-1000)) (
 .row [.int 1, (.int v14), (.int 491)]) (
 DX v0 v1 v2 v3 v4 v5 v6 v7 v8 v9 (.bool v10) (.int v11) (.bool v12) (.bool v13) (.int (IntKind.wrap .i64 (v14 + 1))) (ad v15 (.row [(cl v9 v14 0), (.bool true)]))))) (
 cond (1000 < (cl v9 v14 2).toInt) (
 .row [.int 1, (.int v14), (.int 491)]) (
 cond ((cl v9 v14 2).toInt < (-1000)) (
 .row [.int 1, (.int v14), (.int 491)]) (
 DX v0 v1 v2 v3 v4 v5 v6 v7 v8 v9 (.bool v10) (.int v11) (.bool v12) (.bool v13) (.int (IntKind.wrap .i64 (v14 + 1))) (ad v15 (.row [(cl v9 v14 0), (.bool true)])))))) (
 cond ((cl v15 (mIx [.str] v15 (.row [(cl v9 v14 0)])) 1).toBool) (
 .row [.int 1, (.int v14), (.int 491)]) (
 cond ((cl v9 v14 2).toInt < (IntKind.wrap .i64 (0 - (cl v9 v14 2).toInt))) (
 cond (1000 < (IntKind.wrap .i64 (0 - (cl v9 v14 2).toInt))) (
 .row [.int 1, (.int v14), (.int 491)]) (
 cond ((cl v9 v14 2).toInt < (-1000)) (
 .row [.int 1, (.int v14), (.int 491)]) (
 DX v0 v1 v2 v3 v4 v5 v6 v7 v8 v9 (.bool v10) (.int v11) (.bool v12) (.bool v13) (.int (IntKind.wrap .i64 (v14 + 1))) (upd v15 (mIx [.str] v15 (.row [(cl v9 v14 0)])) 1 (.bool true))))) (
 cond (1000 < (cl v9 v14 2).toInt) (
 .row [.int 1, (.int v14), (.int 491)]) (
 cond ((cl v9 v14 2).toInt < (-1000)) (
 .row [.int 1, (.int v14), (.int 491)]) (
 DX v0 v1 v2 v3 v4 v5 v6 v7 v8 v9 (.bool v10) (.int v11) (.bool v12) (.bool v13) (.int (IntKind.wrap .i64 (v14 + 1))) (upd v15 (mIx [.str] v15 (.row [(cl v9 v14 0)])) 1 (.bool true)))))))) (
 cond ((sl (IC v2 (cl v9 v14 1)) 0).toInt = 1) (
 cond ((sl (IC v2 (cl v9 v14 1)) 1).toInt < 0) (
 .row [.int 1, (.int v14), (.int 491)]) (
 cond ((mIx [.str] v15 (.row [(cl v9 v14 0)])) < 0) (
 cond ((cl v9 v14 2).toInt < (IntKind.wrap .i64 (0 - (cl v9 v14 2).toInt))) (
 cond (1000 < (IntKind.wrap .i64 (0 - (cl v9 v14 2).toInt))) (
 .row [.int 1, (.int v14), (.int 491)]) (
 cond ((cl v9 v14 2).toInt < (-1000)) (
 .row [.int 1, (.int v14), (.int 491)]) (
 DX v0 v1 v2 v3 v4 v5 v6 v7 v8 v9 (.bool v10) (.int v11) (.bool v12) (.bool v13) (.int (IntKind.wrap .i64 (v14 + 1))) (ad v15 (.row [(cl v9 v14 0), (.bool true)]))))) (
 cond (1000 < (cl v9 v14 2).toInt) (
 .row [.int 1, (.int v14), (.int 491)]) (
 cond ((cl v9 v14 2).toInt < (-1000)) (
 .row [.int 1, (.int v14), (.int 491)]) (
 DX v0 v1 v2 v3 v4 v5 v6 v7 v8 v9 (.bool v10) (.int v11) (.bool v12) (.bool v13) (.int (IntKind.wrap .i64 (v14 + 1))) (ad v15 (.row [(cl v9 v14 0), (.bool true)])))))) (
 cond ((cl v15 (mIx [.str] v15 (.row [(cl v9 v14 0)])) 1).toBool) (
 .row [.int 1, (.int v14), (.int 491)]) (
 cond ((cl v9 v14 2).toInt < (IntKind.wrap .i64 (0 - (cl v9 v14 2).toInt))) (
 cond (1000 < (IntKind.wrap .i64 (0 - (cl v9 v14 2).toInt))) (
 .row [.int 1, (.int v14), (.int 491)]) (
 cond ((cl v9 v14 2).toInt < (-1000)) (
 .row [.int 1, (.int v14), (.int 491)]) (
 DX v0 v1 v2 v3 v4 v5 v6 v7 v8 v9 (.bool v10) (.int v11) (.bool v12) (.bool v13) (.int (IntKind.wrap .i64 (v14 + 1))) (upd v15 (mIx [.str] v15 (.row [(cl v9 v14 0)])) 1 (.bool true))))) (
 cond (1000 < (cl v9 v14 2).toInt) (
 .row [.int 1, (.int v14), (.int 491)]) (
 cond ((cl v9 v14 2).toInt < (-1000)) (
 .row [.int 1, (.int v14), (.int 491)]) (
 DX v0 v1 v2 v3 v4 v5 v6 v7 v8 v9 (.bool v10) (.int v11) (.bool v12) (.bool v13) (.int (IntKind.wrap .i64 (v14 + 1))) (upd v15 (mIx [.str] v15 (.row [(cl v9 v14 0)])) 1 (.bool true))))))))) (
 .row [])))) (
 .row []))) (
 .row [.int 1, (.int 0), (.int 0)]) := gw rfl rfl (cL (cL rfl (cQ (cL rfl (cg rfl (cL (cL (cL rfl (cL rfl rfl)) (cL rfl (cL rfl rfl))) (cg rfl rfl (cL (cL rfl (cL rfl rfl)) (cL rfl (cL rfl rfl))))) (cQ (cL rfl (cL (cL (cL rfl (cL rfl rfl)) (cL rfl (cL rfl rfl))) (cg rfl rfl (cL (cL rfl (cL rfl rfl)) (cL rfl (cL rfl rfl)))))) rfl))) rfl)) rfl)
theorem gO (v0 : D) (v1 : Bool) (v2 : D) (v3 v4 v5 v6 v7 : Int) : DU v0 (.bool v1) v2 (.int v3) (.int v4) (.int v5) (.int v6) (.int v7) =
  cond ((mIx [.int .i64, .int .i64, .int .i64, .int .i64, .int .i64] v2 (.row [(.int v3), (.int v4), (.int v5), (.int v6), (.int v7)])) < 0) (
 cond ((len v0 : Int) < 1073741824) (
 .row [.int 1, (ad v0 (.row [(.int v3), (.int v4), (.int v5), (.int v6), (.int v7)])), (.bool false), (ad v2 (.row [(.int v3), (.int v4), (.int v5), (.int v6), (.int v7), (.bool true)]))]) (
 .row [])) (
 cond ((cl v2 (mIx [.int .i64, .int .i64, .int .i64, .int .i64, .int .i64] v2 (.row [(.int v3), (.int v4), (.int v5), (.int v6), (.int v7)])) 5).toBool) (
 .row [.int 1, v0, (.bool v1), v2]) (
 cond ((len v0 : Int) < 1073741824) (
 .row [.int 1, (ad v0 (.row [(.int v3), (.int v4), (.int v5), (.int v6), (.int v7)])), (.bool false), (upd v2 (mIx [.int .i64, .int .i64, .int .i64, .int .i64, .int .i64] v2 (.row [(.int v3), (.int v4), (.int v5), (.int v6), (.int v7)])) 5 (.bool true))]) (
 .row []))) := gw rfl rfl (cL (cL rfl rfl) (cg rfl rfl (cL rfl rfl)))
theorem fO (v0 : D) (v1 : Bool) (v2 : D) : Dy v0 (.bool v1) v2 =
 QM v0 (.bool v1) (.int 0) v2 := gw rfl rfl rfl
theorem bY (v0 : D) (v1 : Bool) (v2 : Int) (v3 : D) : QM v0 (.bool v1) (.int v2) v3 =
  cond (v2 < len v0) (
 cond (v2 < 0) (
 .row []) (
 cond (D.strEq (cl v0 v2 0) v3) (
 .row [.int 1, (.int v2)]) (
 QM v0 (.bool v1) (.int (IntKind.wrap .i64 (v2 + 1))) v3))) (
 .row [.int 1, (.int (-1))]) := gw rfl rfl rfl
theorem eo (v0 : D) : TX v0 =
  cond (4 < (len v0 : Int)) (
 .row [.int 1]) (
 Jd v0 (.int 0) AT (.bool true)) := gw rfl rfl rfl
theorem XM (v0 : D) (v1 : Int) (v2 : D) (v3 : Bool) : Jd v0 (.int v1) v2 (.bool v3) =
  cond (v1 < len v0) (
 cond (v1 < 0) (
 .row []) (
 cond (eqC (cl v0 v1 0) 0 0) (
 .row [.int 1]) (
 cond ((cl v0 v1 1).toInt < 1) (
 .row [.int 1]) (
 cond (1000 < (cl v0 v1 1).toInt) (
 .row [.int 1]) (
 cond ((sl (Dy v2 (.bool v3) (cl v0 v1 0)) 0).toInt = 1) (
 cond ((sl (Dy v2 (.bool v3) (cl v0 v1 0)) 1).toInt < 0) (
 cond ((len v2 : Int) < 1073741824) (
 Jd v0 (.int (IntKind.wrap .i64 (v1 + 1))) (ad v2 (.row [(cl v0 v1 0), (cl v0 v1 1), (.int 0)])) (.bool false)) (
 .row [])) (
 .row [.int 1])) (
 .row [])))))) (
 .row [.int 2, v2, (.bool v3)]) := gw rfl rfl (cL (cL rfl (cg rfl rfl (cL rfl (cL rfl (cQ (cL (cL rfl rfl) rfl) rfl))))) rfl)
theorem dA (v0 : Bool) (v1 : D) (v2 : Bool) (v3 : D) : Fl (.bool v0) v1 (.bool v2) v3 =
  cond (v0) (
 cond ((len v3 : Int) = (len v1 : Int)) (
 IN v3 (.int 0) (.bool v0) v1 (.bool v2)) (
 .row [.int 1, (.int 2), v1])) (
 .row [.int 1, (.int 1), v1]) := gw rfl rfl (cg rfl (cQ rfl rfl) rfl)
theorem XZ (v0 : D) (v1 : Int) (v2 : Bool) (v3 : D) (v4 : Bool) : IN v0 (.int v1) (.bool v2) v3 (.bool v4) =
  cond (v1 < len v0) (
 cond (v1 < 0) (
 .row []) (
 cond ((cl v0 v1 0).toInt < 0) (
 .row [.int 1, (.int 3), v3]) (
 cond (v1 < len v3) (
 cond ((cl v3 v1 1).toInt < (cl v0 v1 0).toInt) (
 .row [.int 1, (.int 3), v3]) (
 IN v0 (.int (IntKind.wrap .i64 (v1 + 1))) (.bool v2) v3 (.bool v4))) (
 .row [])))) (
 I1 v0 (.int (len v0 : Int)) (.int 0) (.bool v2) v3 (.bool v4)) := gw rfl rfl rfl
theorem XT (v0 : D) (v1 v2 : Int) (v3 : Bool) (v4 : D) (v5 : Bool) : I1 v0 (.int v1) (.int v2) (.bool v3) v4 (.bool v5) =
  cond (v2 < v1) (
 cond (v2 < 0) (
 .row []) (
 cond (v2 < len v0) (
 cond (v2 < len v4) (
 I1 v0 (.int v1) (.int (IntKind.wrap .i64 (v2 + 1))) (.bool v3) (upd v4 v2 2 (cl v0 v2 0)) (.bool v5)) (
 .row [])) (
 .row []))) (
 .row [.int 1, (.int 0), v4]) := gw rfl rfl rfl
theorem di (v0 v1 v2 v3 v4 : Int) (v5 v6 v7 v8 : D) {F0 : D} (h0 : TX v7 = F0) : II (.int v0) (.int v1) (.int v2) (.int v3) (.int v4) v5 v6 v7 v8 =
  cond ((sl F0 0).toInt = 1) (
 cond ((len v7 : Int) = 0) (
 cond ((sl (Oa Ax) 0).toInt = 1) (
 .row [.int 1]) (
 .row [])) (
 cond ((len v7 : Int) = 1) (
 cond ((sl (Oa (ad Ax (.row [(.int v1)]))) 0).toInt = 1) (
 .row [.int 1]) (
 .row [])) (
 cond ((len v7 : Int) = 2) (
 cond ((sl (Oa (ad (ad Ax (.row [(.int v1)])) (.row [(.int v2)]))) 0).toInt = 1) (
 .row [.int 1]) (
 .row [])) (
 cond ((len v7 : Int) = 3) (
 cond ((sl (Oa (ad (ad (ad Ax (.row [(.int v1)])) (.row [(.int v2)])) (.row [(.int v3)]))) 0).toInt = 1) (
 .row [.int 1]) (
 .row [])) (
 cond ((len v7 : Int) = 4) (
 cond ((sl (Oa (ad (ad (ad (ad Ax (.row [(.int v1)])) (.row [(.int v2)])) (.row [(.int v3)])) (.row [(.int v4)]))) 0).toInt = 1) (
 .row [.int 1]) (
 .row [])) (
 .row [])))))) (
 cond ((sl F0 0).toInt = 2) (
 cond ((len v7 : Int) = 0) (
 cond ((sl (Fl (.bool true) (sl F0 1) (sl F0 2) Ax) 0).toInt = 1) (
 .row [.int 2, (.int (len (sl F0 1) : Int)), (sl F0 2), (sl (Fl (.bool true) (sl F0 1) (sl F0 2) Ax) 2)]) (
 .row [])) (
 cond ((len v7 : Int) = 1) (
 cond ((sl (Fl (.bool true) (sl F0 1) (sl F0 2) (ad Ax (.row [(.int v1)]))) 0).toInt = 1) (
 .row [.int 2, (.int (len (sl F0 1) : Int)), (sl F0 2), (sl (Fl (.bool true) (sl F0 1) (sl F0 2) (ad Ax (.row [(.int v1)]))) 2)]) (
 .row [])) (
 cond ((len v7 : Int) = 2) (
 cond ((sl (Fl (.bool true) (sl F0 1) (sl F0 2) (ad (ad Ax (.row [(.int v1)])) (.row [(.int v2)]))) 0).toInt = 1) (
 .row [.int 2, (.int (len (sl F0 1) : Int)), (sl F0 2), (sl (Fl (.bool true) (sl F0 1) (sl F0 2) (ad (ad Ax (.row [(.int v1)])) (.row [(.int v2)]))) 2)]) (
 .row [])) (
 cond ((len v7 : Int) = 3) (
 cond ((sl (Fl (.bool true) (sl F0 1) (sl F0 2) (ad (ad (ad Ax (.row [(.int v1)])) (.row [(.int v2)])) (.row [(.int v3)]))) 0).toInt = 1) (
 .row [.int 2, (.int (len (sl F0 1) : Int)), (sl F0 2), (sl (Fl (.bool true) (sl F0 1) (sl F0 2) (ad (ad (ad Ax (.row [(.int v1)])) (.row [(.int v2)])) (.row [(.int v3)]))) 2)]) (
 .row [])) (
 cond ((len v7 : Int) = 4) (
 cond ((sl (Fl (.bool true) (sl F0 1) (sl F0 2) (ad (ad (ad (ad Ax (.row [(.int v1)])) (.row [(.int v2)])) (.row [(.int v3)])) (.row [(.int v4)]))) 0).toInt = 1) (
 .row [.int 2, (.int (len (sl F0 1) : Int)), (sl F0 2), (sl (Fl (.bool true) (sl F0 1) (sl F0 2) (ad (ad (ad (ad Ax (.row [(.int v1)])) (.row [(.int v2)])) (.row [(.int v3)])) (.row [(.int v4)]))) 2)]) (
 .row [])) (
 .row [])))))) (
 .row [])) := by
  subst h0; exact gw rfl rfl (cQ (cQ (cQ rfl rfl) (cQ (cQ rfl rfl) (cQ (cQ rfl rfl) (cQ (cQ rfl rfl) (cQ (cQ rfl rfl) rfl))))) (cQ (cQ (cQ rfl rfl) (cQ (cQ rfl rfl) (cQ (cQ rfl rfl) (cQ (cQ rfl rfl) (cQ (cQ rfl rfl) rfl))))) rfl))
theorem gq (v0 : Bool) (v1 : D) (v2 : Bool) (v3 : D) : H2 (.bool v0) v1 (.bool v2) v3 =
  cond (v0) (
 cond ((sl (Dy v1 (.bool v2) v3) 0).toInt = 1) (
 cond ((sl (Dy v1 (.bool v2) v3) 1).toInt < 0) (
 .row [.int 1, (.int 0), (.int 9)]) (
 cond ((sl (Dy v1 (.bool v2) v3) 1).toInt < len v1) (
 .row [.int 1, (cl v1 (sl (Dy v1 (.bool v2) v3) 1).toInt 2), (.int 0)]) (
 .row []))) (
 .row [])) (
 .row [.int 1, (.int 0), (.int 1)]) := gw rfl rfl (cg rfl (cQ rfl rfl) rfl)
theorem aQ (v0 : Bool) (v1 : D) (v2 : Bool) (v3 v4 : D) (v5 : Int) (v6 v7 v8 : D) (v9 v10 v11 : Int) : JW (.bool v0) v1 (.bool v2) v3 v4 (.int v5) v6 v7 v8 (.int v9) (.int v10) (.int v11) =
  cond (v0) (
 cond (eqC v8 0 0) (
 .row [.int 1, (.bool true), (.int 0)]) (
 cond ((sl (H2 (.bool v0) v1 (.bool v2) v8) 0).toInt = 1) (
 cond ((sl (H2 (.bool v0) v1 (.bool v2) v8) 2).toInt = 0) (
 cond ((sl (Dy v1 (.bool v2) v8) 0).toInt = 1) (
 cond ((sl (Dy v1 (.bool v2) v8) 1).toInt < 0) (
 .row []) (
 cond ((sl (Dy v1 (.bool v2) v8) 1).toInt < len v1) (
 cond ((sl (H2 (.bool v0) v1 (.bool v2) v8) 1).toInt < v9) (
 .row [.int 1, (.bool false), (.int 0)]) (
 cond (v10 < (sl (H2 (.bool v0) v1 (.bool v2) v8) 1).toInt) (
 .row [.int 1, (.bool false), (.int 0)]) (
 cond (v11 < (IntKind.wrap .i64 (0 - (sl (H2 (.bool v0) v1 (.bool v2) v8) 1).toInt))) (
 .row [.int 1, (.bool false), (.int 0)]) (
 .row [.int 1, (.bool (!decide ((IntKind.wrap .i64 ((cl v1 (sl (Dy v1 (.bool v2) v8) 1).toInt 1).toInt - (sl (H2 (.bool v0) v1 (.bool v2) v8) 1).toInt)) < v11))), (.int 0)])))) (
 .row []))) (
 .row [])) (
 .row [.int 1, (.bool false), (sl (H2 (.bool v0) v1 (.bool v2) v8) 2)])) (
 .row []))) (
 .row [.int 1, (.bool false), (.int 1)]) := gw rfl rfl (cg rfl (cg rfl rfl (cQ (cQ (cQ rfl rfl) rfl) rfl)) rfl)
theorem cn (v0 v1 v2 v3 v4 : Int) (v5 v6 v7 v8 : D) : Fx (.int v0) (.int v1) (.int v2) (.int v3) (.int v4) v5 v6 v7 v8 =
  cond ((sl (II (.int v0) (.int v1) (.int v2) (.int v3) (.int v4) v5 v6 v7 v8) 0).toInt = 1) (
 aC v8 (.int 0) (.int v0) (.int v1) (.int v2) (.int v3) (.int v4) v5 v6 v7) (
 cond ((sl (II (.int v0) (.int v1) (.int v2) (.int v3) (.int v4) v5 v6 v7 v8) 0).toInt = 2) (
 F5 AT (.bool true) v8 (.int 0) (.int v0) (.int v1) (.int v2) (.int v3) (.int v4) v5 v6 v7 (sl (II (.int v0) (.int v1) (.int v2) (.int v3) (.int v4) v5 v6 v7 v8) 1) (sl (II (.int v0) (.int v1) (.int v2) (.int v3) (.int v4) v5 v6 v7 v8) 2) (sl (II (.int v0) (.int v1) (.int v2) (.int v3) (.int v4) v5 v6 v7 v8) 3)) (
 .row [])) := gw rfl rfl (cQ rfl (cQ rfl rfl))
theorem XP (v0 : D) (v1 : Bool) (v2 : D) (v3 v4 v5 v6 v7 v8 : Int) (v9 v10 v11 v12 : D) (v13 : Bool) (v14 : D) {F0 : D} (h0 : JW (.bool true) v14 (.bool v13) (cl v2 v3 0) (cl v2 v3 1) (cl v2 v3 2) (cl v2 v3 3) (cl v2 v3 4) (cl v2 v3 5) (cl v2 v3 6) (cl v2 v3 7) (cl v2 v3 8) = F0) : F5 v0 (.bool v1) v2 (.int v3) (.int v4) (.int v5) (.int v6) (.int v7) (.int v8) v9 v10 v11 v12 (.bool v13) v14 =
  cond (v3 < len v2) (
 cond (v3 < 0) (
 .row []) (
 cond (len v14 = v12.toInt) (
 cond ((sl F0 0).toInt = 1) (
 cond ((sl F0 1).toBool) (
 cond (v4 < 0) (
 .row []) (
 cond (v4 < len v10) (
 cond (D.strEq (cl v2 v3 0) (cl v10 v4 0)) (
 cond ((len v0 : Int) < 1073741824) (
 F5 (ad v0 (.row [(.int v3)])) (.bool false) v2 (.int (IntKind.wrap .i64 (v3 + 1))) (.int v4) (.int v5) (.int v6) (.int v7) (.int v8) v9 v10 v11 (.int (len v14 : Int)) (.bool v13) v14) (
 .row [])) (
 F5 v0 (.bool v1) v2 (.int (IntKind.wrap .i64 (v3 + 1))) (.int v4) (.int v5) (.int v6) (.int v7) (.int v8) v9 v10 v11 (.int (len v14 : Int)) (.bool v13) v14)) (
 .row []))) (
 F5 v0 (.bool v1) v2 (.int (IntKind.wrap .i64 (v3 + 1))) (.int v4) (.int v5) (.int v6) (.int v7) (.int v8) v9 v10 v11 (.int (len v14 : Int)) (.bool v13) v14)) (
 .row [])) (
 .row []))) (
 .row [.int 1, v0, (.bool v1)]) := by
  subst h0; exact gw rfl rfl (cL (cL rfl (cQ (cQ (cg rfl (cL rfl (cL (cg rfl (cL rfl rfl) rfl) rfl)) rfl) rfl) rfl)) rfl)
theorem bf (v0 : Bool) (v1 : D) (v2 : Bool) (v3 v4 : D) (v5 : Int) (v6 v7 v8 : D) (v9 v10 v11 : Int) : Tl (.bool v0) v1 (.bool v2) v3 v4 (.int v5) v6 v7 v8 (.int v9) (.int v10) (.int v11) =
  cond ((sl (JW (.bool v0) v1 (.bool v2) v3 v4 (.int v5) v6 v7 v8 (.int v9) (.int v10) (.int v11)) 0).toInt = 1) (
 cond ((sl (JW (.bool v0) v1 (.bool v2) v3 v4 (.int v5) v6 v7 v8 (.int v9) (.int v10) (.int v11)) 2).toInt = 0) (
 cond ((sl (JW (.bool v0) v1 (.bool v2) v3 v4 (.int v5) v6 v7 v8 (.int v9) (.int v10) (.int v11)) 1).toBool) (
 cond (eqC v8 0 0) (
 .row [.int 1, (.int 0), v1]) (
 cond ((sl (Dy v1 (.bool v2) v8) 0).toInt = 1) (
 cond ((sl (Dy v1 (.bool v2) v8) 1).toInt < 0) (
 .row []) (
 cond ((sl (Dy v1 (.bool v2) v8) 1).toInt < len v1) (
 .row [.int 1, (.int 0), (upd v1 (sl (Dy v1 (.bool v2) v8) 1).toInt 2 (.int (IntKind.wrap .i64 ((cl v1 (sl (Dy v1 (.bool v2) v8) 1).toInt 2).toInt + v11))))]) (
 .row []))) (
 .row []))) (
 .row [.int 1, (.int 8), v1])) (
 .row [.int 1, (sl (JW (.bool v0) v1 (.bool v2) v3 v4 (.int v5) v6 v7 v8 (.int v9) (.int v10) (.int v11)) 2), v1])) (
 .row []) := gw rfl rfl (cQ (cQ (cg rfl (cg rfl rfl (cQ rfl rfl)) rfl) rfl) rfl)
theorem fR (v0 : D) (v1 : Bool) (v2 : D) (v3 : Bool) : HQ v0 (.bool v1) v2 (.bool v3) =
 IJ v2 (.bool v3) (.int 0) v0 (.bool v1) := gw rfl rfl rfl
theorem X0 (v0 : D) (v1 : Bool) (v2 : Int) (v3 : D) (v4 : Bool) : IJ v0 (.bool v1) (.int v2) v3 (.bool v4) =
  cond (v2 < len v0) (
 cond (v2 < 0) (
 .row []) (
 cond ((len v3 : Int) < 1073741824) (
 IJ v0 (.bool v1) (.int (IntKind.wrap .i64 (v2 + 1))) (ad v3 (.row [(cl v0 v2 2)])) (.bool false)) (
 .row []))) (
 .row [.int 1, v3, (.bool v4)]) := gw rfl rfl (cL (cL rfl (cL rfl rfl)) rfl)
theorem fu (v0 v1 v2 v3 v4 : Int) (v5 v6 v7 v8 : D) (v9 : Int) {F0 F1 F2 : D} (h0 : II (.int v0) (.int v1) (.int v2) (.int v3) (.int v4) v5 v6 v7 v8 = F0) (h1 : Tl (.bool true) (sl F0 3) (sl F0 2) (cl v8 v9 0) (cl v8 v9 1) (cl v8 v9 2) (cl v8 v9 3) (cl v8 v9 4) (cl v8 v9 5) (cl v8 v9 6) (cl v8 v9 7) (cl v8 v9 8) = F1) (h2 : HQ AT (.bool true) (ct Ax (sl F1 2)) (.bool false) = F2) : Fm (.int v0) (.int v1) (.int v2) (.int v3) (.int v4) v5 v6 v7 v8 (.int v9) =
  cond ((sl F0 0).toInt = 1) (
 cond (v9 < 0) (
 .row []) (
 cond (v9 < len v8) (
 cond ((sl (bx (cl v8 v9 0) (cl v8 v9 1) (cl v8 v9 2) (cl v8 v9 3) (cl v8 v9 4) (cl v8 v9 5) (cl v8 v9 6) (cl v8 v9 7) (cl v8 v9 8)) 0).toInt = 1) (
 cond ((sl (D9 v6 (cl v8 v9 1)) 0).toInt = 1) (
 .row [.int 1, (sl (D9 v6 (cl v8 v9 1)) 1), (.int 0), (.int 0), (.int 0), (.int 0)]) (
 .row [])) (
 .row [])) (
 .row []))) (
 cond ((sl F0 0).toInt = 2) (
 cond (v9 < 0) (
 .row []) (
 cond (v9 < len v8) (
 cond (len (sl F0 3) = (sl F0 1).toInt) (
 cond ((sl F1 0).toInt = 1) (
 cond ((sl (D9 v6 (cl v8 v9 1)) 0).toInt = 1) (
 cond ((sl F0 2).toBool) (
 .row [.int 1, (sl (D9 v6 (cl v8 v9 1)) 1), (.int 0), (.int 0), (.int 0), (.int 0)]) (
 cond ((len (sl F0 3) : Int) = (len (sl F1 2) : Int)) (
 cond ((len (sl F1 2) : Int) < 1048576) (
 cond ((sl (HQ AT (.bool true) (ct Ax (sl F1 2)) (.bool (false && decide ((len (sl F1 2) : Int) = 0)))) 0).toInt = 1) (
 cond ((len (sl (HQ AT (.bool true) (ct Ax (sl F1 2)) (.bool (false && decide ((len (sl F1 2) : Int) = 0)))) 1) : Int) < 4) (
 cond ((len (sl (HQ AT (.bool true) (ct Ax (sl F1 2)) (.bool (false && decide ((len (sl F1 2) : Int) = 0)))) 1) : Int) = 0) (
 .row [.int 1, (sl (D9 v6 (cl v8 v9 1)) 1), (.int 0), (.int 0), (.int 0), (.int 0)]) (
 cond ((len (sl (HQ AT (.bool true) (ct Ax (sl F1 2)) (.bool (false && decide ((len (sl F1 2) : Int) = 0)))) 1) : Int) = 1) (
 .row [.int 1, (sl (D9 v6 (cl v8 v9 1)) 1), (cl (sl F2 1) 0 0), (.int 0), (.int 0), (.int 0)]) (
 cond ((len (sl (HQ AT (.bool true) (ct Ax (sl F1 2)) (.bool (false && decide ((len (sl F1 2) : Int) = 0)))) 1) : Int) = 2) (
 .row [.int 1, (sl (D9 v6 (cl v8 v9 1)) 1), (cl (sl F2 1) 0 0), (cl (sl F2 1) 1 0), (.int 0), (.int 0)]) (
 cond ((len (sl (HQ AT (.bool true) (ct Ax (sl F1 2)) (.bool (false && decide ((len (sl F1 2) : Int) = 0)))) 1) : Int) = 3) (
 .row [.int 1, (sl (D9 v6 (cl v8 v9 1)) 1), (cl (sl F2 1) 0 0), (cl (sl F2 1) 1 0), (cl (sl F2 1) 2 0), (.int 0)]) (
 .row []))))) (
 .row [.int 1, (sl (D9 v6 (cl v8 v9 1)) 1), (cl (sl F2 1) 0 0), (cl (sl F2 1) 1 0), (cl (sl F2 1) 2 0), (cl (sl F2 1) 3 0)])) (
 .row [])) (
 .row [])) (
 .row []))) (
 .row [])) (
 .row [])) (
 .row [])) (
 .row []))) (
 .row [])) := by
  subst h0; subst h1; subst h2; exact gw rfl rfl (cQ (cL rfl (cL (cQ (cQ rfl rfl) rfl) rfl)) (cQ (cL rfl (cL (cQ (cQ (cQ (cg rfl rfl (cQ (cL (cQ (cL (cQ rfl (cQ rfl (cQ rfl (cQ rfl rfl)))) rfl) rfl) rfl) rfl)) rfl) rfl) rfl) rfl)) rfl))
theorem fL (v0 v1 v2 v3 v4 : Int) (v5 : D) (v6 : Bool) (v7 v8 v9 v10 v11 : D) : GH (.int v0) (.int v1) (.int v2) (.int v3) (.int v4) v5 (.bool v6) v7 v8 v9 v10 v11 =
  cond ((sl (Fx (.int v0) (.int v1) (.int v2) (.int v3) (.int v4) v8 v9 v10 v11) 0).toInt = 1) (
 I3 (sl (Fx (.int v0) (.int v1) (.int v2) (.int v3) (.int v4) v8 v9 v10 v11) 1) (sl (Fx (.int v0) (.int v1) (.int v2) (.int v3) (.int v4) v8 v9 v10 v11) 2) (.int (len (sl (Fx (.int v0) (.int v1) (.int v2) (.int v3) (.int v4) v8 v9 v10 v11) 1) : Int)) (.int 0) v5 (.bool v6) v7 v8 v9 v10 v11 (.int v0) (.int v1) (.int v2) (.int v3) (.int v4)) (
 .row []) := gw rfl rfl (cQ rfl rfl)
theorem X1 (v0 : D) (v1 : Bool) (v2 v3 : Int) (v4 : D) (v5 : Bool) (v6 v7 v8 v9 v10 : D) (v11 v12 v13 v14 v15 : Int) {F0 : D} (h0 : Fm (.int v11) (.int v12) (.int v13) (.int v14) (.int v15) v7 v8 v9 v10 (cl v0 v3 0) = F0) : I3 v0 (.bool v1) (.int v2) (.int v3) v4 (.bool v5) v6 v7 v8 v9 v10 (.int v11) (.int v12) (.int v13) (.int v14) (.int v15) =
  cond (v3 < v2) (
 cond (v3 < 0) (
 .row []) (
 cond (v3 < len v0) (
 cond ((sl F0 0).toInt = 1) (
 cond ((sl (DU v4 (.bool v5) v6 (sl F0 1) (sl F0 2) (sl F0 3) (sl F0 4) (sl F0 5)) 0).toInt = 1) (
 I3 v0 (.bool v1) (.int v2) (.int (IntKind.wrap .i64 (v3 + 1))) (sl (DU v4 (.bool v5) v6 (sl F0 1) (sl F0 2) (sl F0 3) (sl F0 4) (sl F0 5)) 1) (sl (DU v4 (.bool v5) v6 (sl F0 1) (sl F0 2) (sl F0 3) (sl F0 4) (sl F0 5)) 2) (sl (DU v4 (.bool v5) v6 (sl F0 1) (sl F0 2) (sl F0 3) (sl F0 4) (sl F0 5)) 3) v7 v8 v9 v10 (.int v11) (.int v12) (.int v13) (.int v14) (.int v15)) (
 .row [])) (
 .row [])) (
 .row []))) (
 .row [.int 1, v4, (.bool v5), v6]) := by
  subst h0; exact gw rfl rfl (cL (cL rfl (cL (cQ (cQ rfl rfl) rfl) rfl)) rfl)
theorem eX (v0 : D) (v1 : Bool) (v2 : Int) (v3 v4 v5 v6 : D) : Rl v0 (.bool v1) (.int v2) v3 v4 v5 v6 =
 Rw (.int v2) v0 (.bool v1) (.int 0) v3 v4 v5 v6 AT (.bool true) Ax := gw rfl rfl rfl
theorem XR (v0 : Int) (v1 : D) (v2 : Bool) (v3 : Int) (v4 v5 v6 v7 v8 : D) (v9 : Bool) (v10 : D) : Rw (.int v0) v1 (.bool v2) (.int v3) v4 v5 v6 v7 v8 (.bool v9) v10 =
  cond (v3 < len v1) (
 cond (v3 < 0) (
 .row []) (
 cond ((sl (DU v8 (.bool v9) v10 (cl v1 v3 0) (cl v1 v3 1) (cl v1 v3 2) (cl v1 v3 3) (cl v1 v3 4)) 0).toInt = 1) (
 Rw (.int v0) v1 (.bool v2) (.int (IntKind.wrap .i64 (v3 + 1))) v4 v5 v6 v7 (sl (DU v8 (.bool v9) v10 (cl v1 v3 0) (cl v1 v3 1) (cl v1 v3 2) (cl v1 v3 3) (cl v1 v3 4)) 1) (sl (DU v8 (.bool v9) v10 (cl v1 v3 0) (cl v1 v3 1) (cl v1 v3 2) (cl v1 v3 3) (cl v1 v3 4)) 2) (sl (DU v8 (.bool v9) v10 (cl v1 v3 0) (cl v1 v3 1) (cl v1 v3 2) (cl v1 v3 3) (cl v1 v3 4)) 3)) (
 .row []))) (
 Ot (.int v0) (.int 0) v1 v4 v5 v6 v7 v8 (.bool v9) v10) := gw rfl rfl (cL (cL rfl (cQ rfl rfl)) rfl)
theorem Yh (v0 v1 : Int) (v2 v3 v4 v5 v6 v7 : D) (v8 : Bool) (v9 : D) : Ot (.int v0) (.int v1) v2 v3 v4 v5 v6 v7 (.bool v8) v9 =
  cond (v1 < len v7) (
 cond (v1 < v0) (
 cond (v1 < 0) (
 .row []) (
 cond ((sl (GH (cl v7 v1 0) (cl v7 v1 1) (cl v7 v1 2) (cl v7 v1 3) (cl v7 v1 4) v7 (.bool v8) v9 v3 v4 v5 v6) 0).toInt = 1) (
 Ot (.int v0) (.int (IntKind.wrap .i64 (v1 + 1))) v2 v3 v4 v5 v6 (sl (GH (cl v7 v1 0) (cl v7 v1 1) (cl v7 v1 2) (cl v7 v1 3) (cl v7 v1 4) v7 (.bool v8) v9 v3 v4 v5 v6) 1) (sl (GH (cl v7 v1 0) (cl v7 v1 1) (cl v7 v1 2) (cl v7 v1 3) (cl v7 v1 4) v7 (.bool v8) v9 v3 v4 v5 v6) 2) (sl (GH (cl v7 v1 0) (cl v7 v1 1) (cl v7 v1 2) (cl v7 v1 3) (cl v7 v1 4) v7 (.bool v8) v9 v3 v4 v5 v6) 3)) (
 .row []))) (
 .row [.int 1, v7, (.bool v8), (.bool (decide (v0 < (len v7 : Int))))])) (
 .row [.int 1, v7, (.bool v8), (.bool (decide (v0 < (len v7 : Int))))]) := gw rfl rfl (cL (cL (cL rfl (cQ rfl rfl)) rfl) rfl)
theorem g9 (v0 v1 v2 v3 v4 : D) (v5 v6 v7 v8 v9 : Int) : Lo v0 v1 v2 v3 v4 (.int v5) (.int v6) (.int v7) (.int v8) (.int v9) =
 Ma v0 (.int 0) v1 v2 v3 v4 (.int v5) (.int v6) (.int v7) (.int v8) (.int v9) := gw rfl rfl rfl
theorem X5 (v0 : D) (v1 : Int) (v2 v3 v4 v5 : D) (v6 v7 v8 v9 v10 : Int) : Ma v0 (.int v1) v2 v3 v4 v5 (.int v6) (.int v7) (.int v8) (.int v9) (.int v10) =
  cond (v1 < len v0) (
 cond (v1 < 0) (
 .row []) (
 cond (v6 < 0) (
 .row []) (
 cond (v6 < len v3) (
 cond (D.strEq (cl v0 v1 0) (cl v3 v6 0)) (
 .row [.int 1, (.int v1)]) (
 Ma v0 (.int (IntKind.wrap .i64 (v1 + 1))) v2 v3 v4 v5 (.int v6) (.int v7) (.int v8) (.int v9) (.int v10))) (
 .row [])))) (
 .row [.int 1, (.int (-1))]) := gw rfl rfl rfl
theorem gI (v0 v1 v2 v3 v4 v5 v6 v7 v8 v9 : D) (v10 v11 v12 v13 v14 : Int) : L9 v0 v1 v2 v3 v4 v5 v6 v7 v8 v9 (.int v10) (.int v11) (.int v12) (.int v13) (.int v14) =
  cond ((sl (Lo v8 v0 v1 v2 v3 (.int v10) (.int v11) (.int v12) (.int v13) (.int v14)) 0).toInt = 1) (
 cond ((sl (Lo v8 v0 v1 v2 v3 (.int v10) (.int v11) (.int v12) (.int v13) (.int v14)) 1).toInt < 0) (
 .row [.int 1, (.int 0), (.int 0), (.int 0), (.int 0), (.int 0), (.int 9)]) (
 cond ((sl (Lo v8 v0 v1 v2 v3 (.int v10) (.int v11) (.int v12) (.int v13) (.int v14)) 1).toInt < len v8) (
 cond ((sl (D9 v5 (cl v8 (sl (Lo v8 v0 v1 v2 v3 (.int v10) (.int v11) (.int v12) (.int v13) (.int v14)) 1).toInt 1)) 0).toInt = 1) (
 Br v9 (.int 0) v0 v1 v2 v3 v4 v5 v6 v7 (.int v10) (.int v11) (.int v12) (.int v13) (.int v14) (sl (D9 v5 (cl v8 (sl (Lo v8 v0 v1 v2 v3 (.int v10) (.int v11) (.int v12) (.int v13) (.int v14)) 1).toInt 1)) 1) (.int 0) (.int 0) (.int 0) (.int 0)) (
 .row [])) (
 .row []))) (
 .row []) := gw rfl rfl (cQ (cL rfl (cL (cQ rfl rfl) rfl)) rfl)
theorem Yq (v0 : D) (v1 : Int) (v2 v3 v4 v5 v6 v7 v8 v9 : D) (v10 v11 v12 v13 v14 v15 v16 v17 v18 v19 : Int) {F0 : D} (h0 : IC v8 (cl v0 v1 0) = F0) : Br v0 (.int v1) v2 v3 v4 v5 v6 v7 v8 v9 (.int v10) (.int v11) (.int v12) (.int v13) (.int v14) (.int v15) (.int v16) (.int v17) (.int v18) (.int v19) =
  cond (v1 < len v0) (
 cond (v1 < 0) (
 .row []) (
 cond ((sl F0 0).toInt = 1) (
 cond ((sl (IC v4 (cl v0 v1 1)) 0).toInt = 1) (
 cond ((sl (IC v4 (cl v0 v1 1)) 1).toInt < 0) (
 cond ((cl v0 v1 2).toInt < 0) (
 .row [.int 1, (.int 0), (.int 0), (.int 0), (.int 0), (.int 0), (.int 3)]) (
 cond ((sl F0 1).toInt < 0) (
 .row []) (
 cond ((sl F0 1).toInt < len v8) (
 cond ((cl v8 (sl F0 1).toInt 1).toInt < (cl v0 v1 2).toInt) (
 .row [.int 1, (.int 0), (.int 0), (.int 0), (.int 0), (.int 0), (.int 3)]) (
 cond ((sl F0 1).toInt = 0) (
 Br v0 (.int (IntKind.wrap .i64 (v1 + 1))) v2 v3 v4 v5 v6 v7 v8 v9 (.int v10) (.int v11) (.int v12) (.int v13) (.int v14) (.int v15) (cl v0 v1 2) (.int v17) (.int v18) (.int v19)) (
 cond ((sl F0 1).toInt = 1) (
 Br v0 (.int (IntKind.wrap .i64 (v1 + 1))) v2 v3 v4 v5 v6 v7 v8 v9 (.int v10) (.int v11) (.int v12) (.int v13) (.int v14) (.int v15) (.int v16) (cl v0 v1 2) (.int v18) (.int v19)) (
 cond ((sl F0 1).toInt = 2) (
 Br v0 (.int (IntKind.wrap .i64 (v1 + 1))) v2 v3 v4 v5 v6 v7 v8 v9 (.int v10) (.int v11) (.int v12) (.int v13) (.int v14) (.int v15) (.int v16) (.int v17) (cl v0 v1 2) (.int v19)) (
 cond ((sl F0 1).toInt = 3) (
 Br v0 (.int (IntKind.wrap .i64 (v1 + 1))) v2 v3 v4 v5 v6 v7 v8 v9 (.int v10) (.int v11) (.int v12) (.int v13) (.int v14) (.int v15) (.int v16) (.int v17) (.int v18) (cl v0 v1 2)) (
 .row [])))))) (
 .row [])))) (
 cond ((sl (IC v4 (cl v0 v1 1)) 1).toInt = 0) (
 cond ((IntKind.wrap .i64 ((cl v0 v1 2).toInt + v11)) < 0) (
 .row [.int 1, (.int 0), (.int 0), (.int 0), (.int 0), (.int 0), (.int 3)]) (
 cond ((sl F0 1).toInt < 0) (
 .row []) (
 cond ((sl F0 1).toInt < len v8) (
 cond ((cl v8 (sl F0 1).toInt 1).toInt < (IntKind.wrap .i64 ((cl v0 v1 2).toInt + v11))) (
 .row [.int 1, (.int 0), (.int 0), (.int 0), (.int 0), (.int 0), (.int 3)]) (
 cond ((sl F0 1).toInt = 0) (
 Br v0 (.int (IntKind.wrap .i64 (v1 + 1))) v2 v3 v4 v5 v6 v7 v8 v9 (.int v10) (.int v11) (.int v12) (.int v13) (.int v14) (.int v15) (.int (IntKind.wrap .i64 ((cl v0 v1 2).toInt + v11))) (.int v17) (.int v18) (.int v19)) (
 cond ((sl F0 1).toInt = 1) (
 Br v0 (.int (IntKind.wrap .i64 (v1 + 1))) v2 v3 v4 v5 v6 v7 v8 v9 (.int v10) (.int v11) (.int v12) (.int v13) (.int v14) (.int v15) (.int v16) (.int (IntKind.wrap .i64 ((cl v0 v1 2).toInt + v11))) (.int v18) (.int v19)) (
 cond ((sl F0 1).toInt = 2) (
 Br v0 (.int (IntKind.wrap .i64 (v1 + 1))) v2 v3 v4 v5 v6 v7 v8 v9 (.int v10) (.int v11) (.int v12) (.int v13) (.int v14) (.int v15) (.int v16) (.int v17) (.int (IntKind.wrap .i64 ((cl v0 v1 2).toInt + v11))) (.int v19)) (
 cond ((sl F0 1).toInt = 3) (
 Br v0 (.int (IntKind.wrap .i64 (v1 + 1))) v2 v3 v4 v5 v6 v7 v8 v9 (.int v10) (.int v11) (.int v12) (.int v13) (.int v14) (.int v15) (.int v16) (.int v17) (.int v18) (.int (IntKind.wrap .i64 ((cl v0 v1 2).toInt + v11)))) (
 .row [])))))) (
 .row [])))) (
 cond ((sl (IC v4 (cl v0 v1 1)) 1).toInt = 1) (
 cond ((IntKind.wrap .i64 ((cl v0 v1 2).toInt + v12)) < 0) (
 .row [.int 1, (.int 0), (.int 0), (.int 0), (.int 0), (.int 0), (.int 3)]) (
 cond ((sl F0 1).toInt < 0) (
 .row []) (
 cond ((sl F0 1).toInt < len v8) (
 cond ((cl v8 (sl F0 1).toInt 1).toInt < (IntKind.wrap .i64 ((cl v0 v1 2).toInt + v12))) (
 .row [.int 1, (.int 0), (.int 0), (.int 0), (.int 0), (.int 0), (.int 3)]) (
 cond ((sl F0 1).toInt = 0) (
 Br v0 (.int (IntKind.wrap .i64 (v1 + 1))) v2 v3 v4 v5 v6 v7 v8 v9 (.int v10) (.int v11) (.int v12) (.int v13) (.int v14) (.int v15) (.int (IntKind.wrap .i64 ((cl v0 v1 2).toInt + v12))) (.int v17) (.int v18) (.int v19)) (
 cond ((sl F0 1).toInt = 1) (
 Br v0 (.int (IntKind.wrap .i64 (v1 + 1))) v2 v3 v4 v5 v6 v7 v8 v9 (.int v10) (.int v11) (.int v12) (.int v13) (.int v14) (.int v15) (.int v16) (.int (IntKind.wrap .i64 ((cl v0 v1 2).toInt + v12))) (.int v18) (.int v19)) (
 cond ((sl F0 1).toInt = 2) (
 Br v0 (.int (IntKind.wrap .i64 (v1 + 1))) v2 v3 v4 v5 v6 v7 v8 v9 (.int v10) (.int v11) (.int v12) (.int v13) (.int v14) (.int v15) (.int v16) (.int v17) (.int (IntKind.wrap .i64 ((cl v0 v1 2).toInt + v12))) (.int v19)) (
 cond ((sl F0 1).toInt = 3) (
 Br v0 (.int (IntKind.wrap .i64 (v1 + 1))) v2 v3 v4 v5 v6 v7 v8 v9 (.int v10) (.int v11) (.int v12) (.int v13) (.int v14) (.int v15) (.int v16) (.int v17) (.int v18) (.int (IntKind.wrap .i64 ((cl v0 v1 2).toInt + v12)))) (
 .row [])))))) (
 .row [])))) (
 cond ((sl (IC v4 (cl v0 v1 1)) 1).toInt = 2) (
 cond ((IntKind.wrap .i64 ((cl v0 v1 2).toInt + v13)) < 0) (
 .row [.int 1, (.int 0), (.int 0), (.int 0), (.int 0), (.int 0), (.int 3)]) (
 cond ((sl F0 1).toInt < 0) (
 .row []) (
 cond ((sl F0 1).toInt < len v8) (
 cond ((cl v8 (sl F0 1).toInt 1).toInt < (IntKind.wrap .i64 ((cl v0 v1 2).toInt + v13))) (
 .row [.int 1, (.int 0), (.int 0), (.int 0), (.int 0), (.int 0), (.int 3)]) (
 cond ((sl F0 1).toInt = 0) (
 Br v0 (.int (IntKind.wrap .i64 (v1 + 1))) v2 v3 v4 v5 v6 v7 v8 v9 (.int v10) (.int v11) (.int v12) (.int v13) (.int v14) (.int v15) (.int (IntKind.wrap .i64 ((cl v0 v1 2).toInt + v13))) (.int v17) (.int v18) (.int v19)) (
 cond ((sl F0 1).toInt = 1) (
 Br v0 (.int (IntKind.wrap .i64 (v1 + 1))) v2 v3 v4 v5 v6 v7 v8 v9 (.int v10) (.int v11) (.int v12) (.int v13) (.int v14) (.int v15) (.int v16) (.int (IntKind.wrap .i64 ((cl v0 v1 2).toInt + v13))) (.int v18) (.int v19)) (
 cond ((sl F0 1).toInt = 2) (
 Br v0 (.int (IntKind.wrap .i64 (v1 + 1))) v2 v3 v4 v5 v6 v7 v8 v9 (.int v10) (.int v11) (.int v12) (.int v13) (.int v14) (.int v15) (.int v16) (.int v17) (.int (IntKind.wrap .i64 ((cl v0 v1 2).toInt + v13))) (.int v19)) (
 cond ((sl F0 1).toInt = 3) (
 Br v0 (.int (IntKind.wrap .i64 (v1 + 1))) v2 v3 v4 v5 v6 v7 v8 v9 (.int v10) (.int v11) (.int v12) (.int v13) (.int v14) (.int v15) (.int v16) (.int v17) (.int v18) (.int (IntKind.wrap .i64 ((cl v0 v1 2).toInt + v13)))) (
 .row [])))))) (
 .row [])))) (
 cond ((sl (IC v4 (cl v0 v1 1)) 1).toInt = 3) (
 cond ((IntKind.wrap .i64 ((cl v0 v1 2).toInt + v14)) < 0) (
 .row [.int 1, (.int 0), (.int 0), (.int 0), (.int 0), (.int 0), (.int 3)]) (
 cond ((sl F0 1).toInt < 0) (
 .row []) (
 cond ((sl F0 1).toInt < len v8) (
 cond ((cl v8 (sl F0 1).toInt 1).toInt < (IntKind.wrap .i64 ((cl v0 v1 2).toInt + v14))) (
 .row [.int 1, (.int 0), (.int 0), (.int 0), (.int 0), (.int 0), (.int 3)]) (
 cond ((sl F0 1).toInt = 0) (
 Br v0 (.int (IntKind.wrap .i64 (v1 + 1))) v2 v3 v4 v5 v6 v7 v8 v9 (.int v10) (.int v11) (.int v12) (.int v13) (.int v14) (.int v15) (.int (IntKind.wrap .i64 ((cl v0 v1 2).toInt + v14))) (.int v17) (.int v18) (.int v19)) (
 cond ((sl F0 1).toInt = 1) (
 Br v0 (.int (IntKind.wrap .i64 (v1 + 1))) v2 v3 v4 v5 v6 v7 v8 v9 (.int v10) (.int v11) (.int v12) (.int v13) (.int v14) (.int v15) (.int v16) (.int (IntKind.wrap .i64 ((cl v0 v1 2).toInt + v14))) (.int v18) (.int v19)) (
 cond ((sl F0 1).toInt = 2) (
 Br v0 (.int (IntKind.wrap .i64 (v1 + 1))) v2 v3 v4 v5 v6 v7 v8 v9 (.int v10) (.int v11) (.int v12) (.int v13) (.int v14) (.int v15) (.int v16) (.int v17) (.int (IntKind.wrap .i64 ((cl v0 v1 2).toInt + v14))) (.int v19)) (
 cond ((sl F0 1).toInt = 3) (
 Br v0 (.int (IntKind.wrap .i64 (v1 + 1))) v2 v3 v4 v5 v6 v7 v8 v9 (.int v10) (.int v11) (.int v12) (.int v13) (.int v14) (.int v15) (.int v16) (.int v17) (.int v18) (.int (IntKind.wrap .i64 ((cl v0 v1 2).toInt + v14)))) (
 .row [])))))) (
 .row [])))) (
 .row [])))))) (
 .row [])) (
 .row []))) (
 .row [.int 1, (.int v15), (.int v16), (.int v17), (.int v18), (.int v19), (.int 0)]) := by
  subst h0; exact gw rfl rfl (cL (cL rfl (cQ (cQ (cL (cL rfl (cL rfl (cL (cL rfl (cQ rfl (cQ rfl (cQ rfl (cQ rfl rfl))))) rfl))) (cQ (cL rfl (cL rfl (cL (cL rfl (cQ rfl (cQ rfl (cQ rfl (cQ rfl rfl))))) rfl))) (cQ (cL rfl (cL rfl (cL (cL rfl (cQ rfl (cQ rfl (cQ rfl (cQ rfl rfl))))) rfl))) (cQ (cL rfl (cL rfl (cL (cL rfl (cQ rfl (cQ rfl (cQ rfl (cQ rfl rfl))))) rfl))) (cQ (cL rfl (cL rfl (cL (cL rfl (cQ rfl (cQ rfl (cQ rfl (cQ rfl rfl))))) rfl))) rfl))))) rfl) rfl)) rfl)
theorem eK (v0 : D) (v1 : Bool) (v2 : D) (v3 v4 v5 v6 v7 v8 v9 v10 v11 v12 : Int) : HX v0 (.bool v1) v2 (.int v3) (.int v4) (.int v5) (.int v6) (.int v7) (.int v8) (.int v9) (.int v10) (.int v11) (.int v12) =
  cond ((mIx [.int .i64, .int .i64, .int .i64, .int .i64, .int .i64, .int .i64, .int .i64, .int .i64, .int .i64, .int .i64] v2 (.row [(.int v3), (.int v4), (.int v5), (.int v6), (.int v7), (.int v8), (.int v9), (.int v10), (.int v11), (.int v12)])) < 0) (
 cond ((len v0 : Int) < 1073741824) (
 .row [.int 1, (ad v0 (.row [(.int v3), (.int v4), (.int v5), (.int v6), (.int v7), (.int v8), (.int v9), (.int v10), (.int v11), (.int v12)])), (.bool false), (ad v2 (.row [(.int v3), (.int v4), (.int v5), (.int v6), (.int v7), (.int v8), (.int v9), (.int v10), (.int v11), (.int v12), (.bool true)]))]) (
 .row [])) (
 cond ((cl v2 (mIx [.int .i64, .int .i64, .int .i64, .int .i64, .int .i64, .int .i64, .int .i64, .int .i64, .int .i64, .int .i64] v2 (.row [(.int v3), (.int v4), (.int v5), (.int v6), (.int v7), (.int v8), (.int v9), (.int v10), (.int v11), (.int v12)])) 10).toBool) (
 .row [.int 1, v0, (.bool v1), v2]) (
 cond ((len v0 : Int) < 1073741824) (
 .row [.int 1, (ad v0 (.row [(.int v3), (.int v4), (.int v5), (.int v6), (.int v7), (.int v8), (.int v9), (.int v10), (.int v11), (.int v12)])), (.bool false), (upd v2 (mIx [.int .i64, .int .i64, .int .i64, .int .i64, .int .i64, .int .i64, .int .i64, .int .i64, .int .i64, .int .i64] v2 (.row [(.int v3), (.int v4), (.int v5), (.int v6), (.int v7), (.int v8), (.int v9), (.int v10), (.int v11), (.int v12)])) 10 (.bool true))]) (
 .row []))) := gw rfl rfl (cL (cL rfl rfl) (cg rfl rfl (cL rfl rfl)))
theorem dz (v0 : D) (v1 : Bool) (v2 v3 v4 v5 : D) (v6 : Bool) : Mn v0 (.bool v1) v2 v3 v4 v5 (.bool v6) =
 KU v0 (.bool v1) (.int 0) v2 v3 v4 v5 (.bool v6) := gw rfl rfl rfl
theorem XV (v0 : D) (v1 : Bool) (v2 : Int) (v3 v4 v5 v6 : D) (v7 : Bool) : KU v0 (.bool v1) (.int v2) v3 v4 v5 v6 (.bool v7) =
  cond (v2 < len v0) (
 cond (v2 < 0) (
 .row []) (
 cond ((cl v0 v2 0).toInt < 0) (
 .row []) (
 cond ((cl v0 v2 0).toInt < len v6) (
 cond ((cl v6 (cl v0 v2 0).toInt 2).toInt = 2) (
 cond (v7) (
 KU v0 (.bool v1) (.int (IntKind.wrap .i64 (v2 + 1))) v3 v4 v5 v6 (.bool v7)) (
 .row [.int 1, (.int v2)])) (
 cond (v7) (
 .row [.int 1, (.int v2)]) (
 KU v0 (.bool v1) (.int (IntKind.wrap .i64 (v2 + 1))) v3 v4 v5 v6 (.bool v7)))) (
 .row [])))) (
 .row [.int 1, (.int (-1))]) := gw rfl rfl (cL (cL rfl (cL rfl (cL (cQ rfl rfl) rfl))) rfl)
theorem fh (v0 : D) (v1 : Bool) (v2 v3 v4 v5 : D) (v6 : Bool) : IG v0 (.bool v1) v2 v3 v4 v5 (.bool v6) =
  cond ((sl (Mn v0 (.bool v1) v2 v3 v4 v5 (.bool v6)) 0).toInt = 1) (
 cond ((sl (Mn v0 (.bool v1) v2 v3 v4 v5 (.bool v6)) 1).toInt = (-1)) (
 .row [.int 1, v0, (.bool v1)]) (
 HE v0 (.bool v1) (sl (Mn v0 (.bool v1) v2 v3 v4 v5 (.bool v6)) 1) (.int (IntKind.wrap .i64 ((sl (Mn v0 (.bool v1) v2 v3 v4 v5 (.bool v6)) 1).toInt + 1))) v2 v3 v4 v5 (.bool v6))) (
 .row []) := gw rfl rfl (cQ (cQ rfl rfl) rfl)
theorem XO (v0 : D) (v1 : Bool) (v2 v3 : Int) (v4 v5 v6 v7 : D) (v8 : Bool) : HE v0 (.bool v1) (.int v2) (.int v3) v4 v5 v6 v7 (.bool v8) =
  cond (v3 < len v0) (
 cond (v3 < 0) (
 .row []) (
 cond ((cl v0 v3 0).toInt < 0) (
 .row []) (
 cond ((cl v0 v3 0).toInt < len v7) (
 cond ((cl v7 (cl v0 v3 0).toInt 2).toInt = 2) (
 cond (v8) (
 cond (v2 < 0) (
 .row []) (
 cond (v2 < len v0) (
 HE (upd v0 v2 0 (cl v0 v3 0)) (.bool v1) (.int (IntKind.wrap .i64 (v2 + 1))) (.int (IntKind.wrap .i64 (v3 + 1))) v4 v5 v6 v7 (.bool v8)) (
 .row []))) (
 HE v0 (.bool v1) (.int v2) (.int (IntKind.wrap .i64 (v3 + 1))) v4 v5 v6 v7 (.bool v8))) (
 cond (v8) (
 HE v0 (.bool v1) (.int v2) (.int (IntKind.wrap .i64 (v3 + 1))) v4 v5 v6 v7 (.bool v8)) (
 cond (v2 < 0) (
 .row []) (
 cond (v2 < len v0) (
 HE (upd v0 v2 0 (cl v0 v3 0)) (.bool v1) (.int (IntKind.wrap .i64 (v2 + 1))) (.int (IntKind.wrap .i64 (v3 + 1))) v4 v5 v6 v7 (.bool v8)) (
 .row []))))) (
 .row [])))) (
 cond (v2 < 0) (
 .row []) (
 cond (len v0 < v2) (
 .row []) (
 cond ((len v0 : Int) < (len v0 : Int)) (
 .row []) (
 cond ((len v0 : Int) = (len (sb v0 0 v2) : Int)) (
 cond (len (sb v0 0 v2) < v2) (
 .row []) (
 .row [.int 1, (sb (sb v0 0 v2) 0 v2), (.bool v1)])) (
 cond (len (sb v0 0 v2) < v2) (
 .row []) (
 .row [.int 1, (sb (sb v0 0 v2) 0 v2), (.bool v1)])))))) := gw rfl rfl (cL (cL rfl (cL rfl (cL (cQ rfl rfl) rfl))) (cL rfl (cL rfl (cL rfl (cQ rfl rfl)))))
theorem dI (v0 v1 v2 v3 v4 v5 v6 v7 v8 v9 : D) (v10 : Bool) (v11 v12 : D) (v13 : Bool) (v14 v15 v16 v17 v18 v19 v20 v21 v22 v23 v24 v25 : Int) (v26 : Bool) {F0 F1 : D} (h0 : Fx (.int v21) (.int v22) (.int v23) (.int v24) (.int v25) v4 v5 v6 v7 = F0) (h1 : Fx (.int v16) (.int v17) (.int v18) (.int v19) (.int v20) v0 v1 v2 v3 = F1) : Mr v0 v1 v2 v3 v4 v5 v6 v7 v8 v9 (.bool v10) v11 v12 (.bool v13) (.int v14) (.int v15) (.int v16) (.int v17) (.int v18) (.int v19) (.int v20) (.int v21) (.int v22) (.int v23) (.int v24) (.int v25) (.bool v26) =
  cond ((sl F1 0).toInt = 1) (
 cond ((sl (IG (sl F1 1) (sl F1 2) v0 v1 v2 v3 (.bool v26)) 0).toInt = 1) (
 cond ((sl F0 0).toInt = 1) (
 cond ((sl (IG (sl F0 1) (sl F0 2) v4 v5 v6 v7 (.bool v26)) 0).toInt = 1) (
 .row [.int 1, (sl (IG (sl F1 1) (sl F1 2) v0 v1 v2 v3 (.bool v26)) 1), (sl (IG (sl F1 1) (sl F1 2) v0 v1 v2 v3 (.bool v26)) 2), (sl (IG (sl F0 1) (sl F0 2) v4 v5 v6 v7 (.bool v26)) 1), (sl (IG (sl F0 1) (sl F0 2) v4 v5 v6 v7 (.bool v26)) 2)]) (
 .row [])) (
 .row [])) (
 .row [])) (
 .row []) := by
  subst h0; subst h1; exact gw rfl rfl (cQ (cQ (cQ (cQ rfl rfl) rfl) rfl) rfl)
theorem dD (v0 : D) (v1 : Bool) (v2 v3 v4 v5 v6 v7 v8 v9 : D) (v10 : Int) : QV v0 (.bool v1) v2 v3 v4 v5 v6 v7 v8 v9 (.int v10) =
 Mo v0 (.bool v1) (.int 0) v2 v3 v4 v5 v6 v7 v8 v9 (.int v10) := gw rfl rfl rfl
theorem XJ (v0 : D) (v1 : Bool) (v2 : Int) (v3 v4 v5 v6 v7 v8 v9 v10 : D) (v11 : Int) : Mo v0 (.bool v1) (.int v2) v3 v4 v5 v6 v7 v8 v9 v10 (.int v11) =
  cond (v2 < len v0) (
 cond (v2 < 0) (
 .row []) (
 cond ((cl v0 v2 0).toInt < 0) (
 .row []) (
 cond ((cl v0 v2 0).toInt < len v6) (
 cond (v11 < 0) (
 .row []) (
 cond (v11 < len v10) (
 cond ((decide ((cl v6 (cl v0 v2 0).toInt 2).toInt = (cl v10 v11 2).toInt) && (D.strEq (cl v6 (cl v0 v2 0).toInt 3) (cl v10 v11 3) && D.strEq (cl v6 (cl v0 v2 0).toInt 4) (cl v10 v11 4)))) (
 .row [.int 1, (.int v2)]) (
 Mo v0 (.bool v1) (.int (IntKind.wrap .i64 (v2 + 1))) v3 v4 v5 v6 v7 v8 v9 v10 (.int v11))) (
 .row []))) (
 .row [])))) (
 .row [.int 1, (.int (-1))]) := gw rfl rfl (cL (cL rfl (cL rfl (cL (cL rfl (cL (cg (aE (qE rfl rfl) (aE rfl rfl)) rfl rfl) rfl)) rfl))) rfl)
theorem aS (v0 v1 v2 v3 v4 : D) (v5 : Bool) (v6 v7 v8 v9 v10 : D) (v11 : Bool) : Jc v0 v1 v2 v3 v4 (.bool v5) v6 v7 v8 v9 v10 (.bool v11) =
 QP v10 (.bool v11) v4 (.bool v5) (.int 0) v0 v1 v2 v3 v6 v7 v8 v9 := gw rfl rfl rfl
theorem XY (v0 : D) (v1 : Bool) (v2 : D) (v3 : Bool) (v4 : Int) (v5 v6 v7 v8 v9 v10 v11 v12 : D) : QP v0 (.bool v1) v2 (.bool v3) (.int v4) v5 v6 v7 v8 v9 v10 v11 v12 =
  cond (v4 < len v2) (
 cond (v4 < 0) (
 .row []) (
 cond ((sl (QV v0 (.bool v1) v9 v10 v11 v12 v5 v6 v7 v8 (cl v2 v4 0)) 0).toInt = 1) (
 cond ((sl (QV v0 (.bool v1) v9 v10 v11 v12 v5 v6 v7 v8 (cl v2 v4 0)) 1).toInt < 0) (
 .row [.int 1, (cl v2 v4 0), (.bool true)]) (
 QP v0 (.bool v1) v2 (.bool v3) (.int (IntKind.wrap .i64 (v4 + 1))) v5 v6 v7 v8 v9 v10 v11 v12)) (
 .row []))) (
 .row [.int 1, (.int 0), (.bool false)]) := gw rfl rfl (cL (cL rfl (cQ rfl rfl)) rfl)
theorem dL (v0 v1 v2 v3 v4 v5 v6 v7 v8 v9 : D) (v10 : Bool) (v11 v12 : D) (v13 : Bool) (v14 v15 v16 v17 v18 v19 v20 v21 v22 v23 v24 v25 : Int) {F0 F1 : D} (h0 : Mr v0 v1 v2 v3 v4 v5 v6 v7 v8 v9 (.bool v10) v11 v12 (.bool v13) (.int v14) (.int v15) (.int v16) (.int v17) (.int v18) (.int v19) (.int v20) (.int v21) (.int v22) (.int v23) (.int v24) (.int v25) (.bool false) = F0) (h1 : Mr v0 v1 v2 v3 v4 v5 v6 v7 v8 v9 (.bool v10) v11 v12 (.bool v13) (.int v14) (.int v15) (.int v16) (.int v17) (.int v18) (.int v19) (.int v20) (.int v21) (.int v22) (.int v23) (.int v24) (.int v25) (.bool true) = F1) : UQ v0 v1 v2 v3 v4 v5 v6 v7 v8 v9 (.bool v10) v11 v12 (.bool v13) (.int v14) (.int v15) (.int v16) (.int v17) (.int v18) (.int v19) (.int v20) (.int v21) (.int v22) (.int v23) (.int v24) (.int v25) =
  cond ((sl F1 0).toInt = 1) (
 cond ((sl (Jc v0 v1 v2 v3 (sl F1 1) (sl F1 2) v4 v5 v6 v7 (sl F1 3) (sl F1 4)) 0).toInt = 1) (
 cond ((sl (Jc v0 v1 v2 v3 (sl F1 1) (sl F1 2) v4 v5 v6 v7 (sl F1 3) (sl F1 4)) 2).toBool) (
 .row [.int 1, (.int 1), (sl (Jc v0 v1 v2 v3 (sl F1 1) (sl F1 2) v4 v5 v6 v7 (sl F1 3) (sl F1 4)) 1)]) (
 cond ((sl F0 0).toInt = 1) (
 cond ((sl (Jc v4 v5 v6 v7 (sl F0 3) (sl F0 4) v0 v1 v2 v3 (sl F0 1) (sl F0 2)) 0).toInt = 1) (
 cond ((sl (Jc v4 v5 v6 v7 (sl F0 3) (sl F0 4) v0 v1 v2 v3 (sl F0 1) (sl F0 2)) 2).toBool) (
 .row [.int 1, (.int 2), (sl (Jc v4 v5 v6 v7 (sl F0 3) (sl F0 4) v0 v1 v2 v3 (sl F0 1) (sl F0 2)) 1)]) (
 cond (0 < (len (sl F0 1) : Int)) (
 cond ((len (sl F0 3) : Int) = 0) (
 .row [.int 1, (.int 3), (.int 0)]) (
 cond (v16 < 0) (
 .row []) (
 cond (v16 < len v1) (
 cond (v21 < 0) (
 .row []) (
 cond (v21 < len v5) (
 cond ((cl v1 v16 1).toBool) (
 cond ((cl v5 v21 1).toBool) (
 .row [.int 1, (.int 0), (.int 0)]) (
 .row [.int 1, (.int 4), (.int 0)])) (
 cond ((cl v5 v21 1).toBool) (
 .row [.int 1, (.int 4), (.int 0)]) (
 .row [.int 1, (.int 0), (.int 0)]))) (
 .row []))) (
 .row [])))) (
 cond (v16 < 0) (
 .row []) (
 cond (v16 < len v1) (
 cond (v21 < 0) (
 .row []) (
 cond (v21 < len v5) (
 cond ((cl v1 v16 1).toBool) (
 cond ((cl v5 v21 1).toBool) (
 .row [.int 1, (.int 0), (.int 0)]) (
 .row [.int 1, (.int 4), (.int 0)])) (
 cond ((cl v5 v21 1).toBool) (
 .row [.int 1, (.int 4), (.int 0)]) (
 .row [.int 1, (.int 0), (.int 0)]))) (
 .row []))) (
 .row []))))) (
 .row [])) (
 .row []))) (
 .row [])) (
 .row []) := by
  subst h0; subst h1; exact gw rfl rfl (cQ (cQ (cg rfl rfl (cQ (cQ (cg rfl rfl (cL (cQ rfl rfl) rfl)) rfl) rfl)) rfl) rfl)
theorem Ye (v0 v1 v2 v3 v4 : Int) (v5 v6 v7 v8 : D) : Db (.int v0) (.int v1) (.int v2) (.int v3) (.int v4) v5 v6 v7 v8 =
  cond (v0 < 0) (
 .row []) (
 cond (v0 < len v6) (
 cond ((len v7 : Int) = 0) (
 .row [.int 1, (cl v6 v0 0), Ax]) (
 cond ((len v7 : Int) = 1) (
 .row [.int 1, (cl v6 v0 0), (ad Ax (.row [(.int v1)]))]) (
 cond ((len v7 : Int) = 2) (
 .row [.int 1, (cl v6 v0 0), (ad (ad Ax (.row [(.int v1)])) (.row [(.int v2)]))]) (
 cond ((len v7 : Int) = 3) (
 .row [.int 1, (cl v6 v0 0), (ad (ad (ad Ax (.row [(.int v1)])) (.row [(.int v2)])) (.row [(.int v3)]))]) (
 cond ((len v7 : Int) = 4) (
 .row [.int 1, (cl v6 v0 0), (ad (ad (ad (ad Ax (.row [(.int v1)])) (.row [(.int v2)])) (.row [(.int v3)])) (.row [(.int v4)]))]) (
 .row [])))))) (
 .row [])) := gw rfl rfl (cL rfl (cL (cQ rfl (cQ rfl (cQ rfl (cQ rfl (cQ rfl rfl))))) rfl))
theorem Ya (v0 v1 v2 v3 v4 v5 v6 v7 v8 v9 : D) (v10 : Bool) (v11 v12 : D) (v13 : Bool) (v14 v15 v16 v17 v18 v19 v20 v21 v22 v23 v24 v25 : Int) (v26 : D) (v27 : Bool) (v28 : D) {F0 F1 : D} (h0 : Mr v0 v1 v2 v3 v4 v5 v6 v7 v8 v9 (.bool v10) v11 v12 (.bool v13) (.int v14) (.int v15) (.int v16) (.int v17) (.int v18) (.int v19) (.int v20) (.int v21) (.int v22) (.int v23) (.int v24) (.int v25) (.bool true) = F0) (h1 : UQ v0 v1 v2 v3 v4 v5 v6 v7 v8 v9 (.bool v10) v11 v12 (.bool v13) (.int v14) (.int v15) (.int v16) (.int v17) (.int v18) (.int v19) (.int v20) (.int v21) (.int v22) (.int v23) (.int v24) (.int v25) = F1) : LZ v0 v1 v2 v3 v4 v5 v6 v7 v8 v9 (.bool v10) v11 v12 (.bool v13) (.int v14) (.int v15) (.int v16) (.int v17) (.int v18) (.int v19) (.int v20) (.int v21) (.int v22) (.int v23) (.int v24) (.int v25) v26 (.bool v27) v28 =
  cond ((sl F1 0).toInt = 1) (
 cond ((sl F1 1).toInt = 0) (
 cond ((sl F0 0).toInt = 1) (
 Mc (sl F0 3) (sl F0 4) (sl F0 1) (sl F0 2) (.int (len (sl F0 1) : Int)) (.int 0) v0 v1 v2 v3 v4 v5 v6 v7 v8 v9 (.bool v10) v11 v12 (.bool v13) (.int v14) (.int v15) v26 (.bool v27) v28 (.int v16) (.int v17) (.int v18) (.int v19) (.int v20) (.int v21) (.int v22) (.int v23) (.int v24) (.int v25)) (
 .row [])) (
 cond ((sl (Db (.int v16) (.int v17) (.int v18) (.int v19) (.int v20) v0 v1 v2 v3) 0).toInt = 1) (
 cond ((sl (Db (.int v21) (.int v22) (.int v23) (.int v24) (.int v25) v4 v5 v6 v7) 0).toInt = 1) (
 .row [.int 1, (.bool true), v0, v1, v2, v3, v4, v5, v6, v7, (sl (Db (.int v16) (.int v17) (.int v18) (.int v19) (.int v20) v0 v1 v2 v3) 1), (sl (Db (.int v16) (.int v17) (.int v18) (.int v19) (.int v20) v0 v1 v2 v3) 2), (.bool false), (sl (Db (.int v21) (.int v22) (.int v23) (.int v24) (.int v25) v4 v5 v6 v7) 1), (sl (Db (.int v21) (.int v22) (.int v23) (.int v24) (.int v25) v4 v5 v6 v7) 2), (.bool false), (sl F1 1), (sl F1 2), v26, (.bool v27), v28]) (
 .row [])) (
 .row []))) (
 .row []) := by
  subst h0; subst h1; exact gw rfl rfl (cQ (cQ (cQ rfl rfl) (cQ (cQ rfl rfl) rfl)) rfl)
theorem Yj (v0 : D) (v1 : Bool) (v2 : D) (v3 : Bool) (v4 v5 : Int) (v6 v7 v8 v9 v10 v11 v12 v13 v14 v15 : D) (v16 : Bool) (v17 v18 : D) (v19 : Bool) (v20 v21 : Int) (v22 : D) (v23 : Bool) (v24 : D) (v25 v26 v27 v28 v29 v30 v31 v32 v33 v34 : Int) {F0 : D} (h0 : Mr v6 v7 v8 v9 v10 v11 v12 v13 v14 v15 (.bool v16) v17 v18 (.bool v19) (.int v20) (.int v21) (.int v25) (.int v26) (.int v27) (.int v28) (.int v29) (.int v30) (.int v31) (.int v32) (.int v33) (.int v34) (.bool false) = F0) : Mc v0 (.bool v1) v2 (.bool v3) (.int v4) (.int v5) v6 v7 v8 v9 v10 v11 v12 v13 v14 v15 (.bool v16) v17 v18 (.bool v19) (.int v20) (.int v21) v22 (.bool v23) v24 (.int v25) (.int v26) (.int v27) (.int v28) (.int v29) (.int v30) (.int v31) (.int v32) (.int v33) (.int v34) =
  cond (v5 < v4) (
 cond (v5 < 0) (
 .row []) (
 cond (v5 < len v2) (
 OG v0 (.bool v1) (cl v2 v5 0) v2 (.bool v3) (.int v4) (.int v5) (.int 0) v6 v7 v8 v9 v10 v11 v12 v13 v14 v15 (.bool v16) v17 v18 (.bool v19) (.int v20) (.int v21) v22 (.bool v23) v24 (.int v25) (.int v26) (.int v27) (.int v28) (.int v29) (.int v30) (.int v31) (.int v32) (.int v33) (.int v34)) (
 .row []))) (
 cond ((sl F0 0).toInt = 1) (
 Oo (sl F0 1) (sl F0 2) (sl F0 3) (sl F0 4) (.int (len (sl F0 3) : Int)) (.int 0) v6 v7 v8 v9 v10 v11 v12 v13 v14 v15 (.bool v16) v17 v18 (.bool v19) (.int v20) (.int v21) v22 (.bool v23) v24 (.int v25) (.int v26) (.int v27) (.int v28) (.int v29) (.int v30) (.int v31) (.int v32) (.int v33) (.int v34)) (
 .row [])) := by
  subst h0; exact gw rfl rfl (cL rfl (cQ rfl rfl))
theorem XN (v0 : D) (v1 : Bool) (v2 : Int) (v3 : D) (v4 : Bool) (v5 v6 v7 : Int) (v8 v9 v10 v11 v12 v13 v14 v15 v16 v17 : D) (v18 : Bool) (v19 v20 : D) (v21 : Bool) (v22 v23 : Int) (v24 : D) (v25 : Bool) (v26 : D) (v27 v28 v29 v30 v31 v32 v33 v34 v35 v36 : Int) {F0 F1 F2 : D} (h0 : Fm (.int v32) (.int v33) (.int v34) (.int v35) (.int v36) v12 v13 v14 v15 (cl v0 v7 0) = F0) (h1 : Fm (.int v27) (.int v28) (.int v29) (.int v30) (.int v31) v8 v9 v10 v11 (.int v2) = F1) (h2 : HX v24 (.bool v25) v26 (sl F1 1) (sl F1 2) (sl F1 3) (sl F1 4) (sl F1 5) (sl F0 1) (sl F0 2) (sl F0 3) (sl F0 4) (sl F0 5) = F2) : OG v0 (.bool v1) (.int v2) v3 (.bool v4) (.int v5) (.int v6) (.int v7) v8 v9 v10 v11 v12 v13 v14 v15 v16 v17 (.bool v18) v19 v20 (.bool v21) (.int v22) (.int v23) v24 (.bool v25) v26 (.int v27) (.int v28) (.int v29) (.int v30) (.int v31) (.int v32) (.int v33) (.int v34) (.int v35) (.int v36) =
  cond (v7 < len v0) (
 cond (v7 < 0) (
 .row []) (
 cond (v2 < 0) (
 .row []) (
 cond (v2 < len v11) (
 cond ((cl v0 v7 0).toInt < 0) (
 .row []) (
 cond ((cl v0 v7 0).toInt < len v15) (
 cond ((decide ((cl v11 v2 2).toInt = (cl v15 (cl v0 v7 0).toInt 2).toInt) && (D.strEq (cl v11 v2 3) (cl v15 (cl v0 v7 0).toInt 3) && D.strEq (cl v11 v2 4) (cl v15 (cl v0 v7 0).toInt 4)))) (
 cond ((sl F1 0).toInt = 1) (
 cond ((sl F0 0).toInt = 1) (
 cond ((sl F2 0).toInt = 1) (
 OG v0 (.bool v1) (.int v2) v3 (.bool v4) (.int v5) (.int v6) (.int (IntKind.wrap .i64 (v7 + 1))) v8 v9 v10 v11 v12 v13 v14 v15 v16 v17 (.bool v18) v19 v20 (.bool v21) (.int v22) (.int v23) (sl F2 1) (sl F2 2) (sl F2 3) (.int v27) (.int v28) (.int v29) (.int v30) (.int v31) (.int v32) (.int v33) (.int v34) (.int v35) (.int v36)) (
 .row [])) (
 .row [])) (
 .row [])) (
 OG v0 (.bool v1) (.int v2) v3 (.bool v4) (.int v5) (.int v6) (.int (IntKind.wrap .i64 (v7 + 1))) v8 v9 v10 v11 v12 v13 v14 v15 v16 v17 (.bool v18) v19 v20 (.bool v21) (.int v22) (.int v23) v24 (.bool v25) v26 (.int v27) (.int v28) (.int v29) (.int v30) (.int v31) (.int v32) (.int v33) (.int v34) (.int v35) (.int v36))) (
 .row []))) (
 .row [])))) (
 Mc v0 (.bool v1) v3 (.bool v4) (.int v5) (.int (IntKind.wrap .i64 (v6 + 1))) v8 v9 v10 v11 v12 v13 v14 v15 v16 v17 (.bool v18) v19 v20 (.bool v21) (.int v22) (.int v23) v24 (.bool v25) v26 (.int v27) (.int v28) (.int v29) (.int v30) (.int v31) (.int v32) (.int v33) (.int v34) (.int v35) (.int v36)) := by
  subst h0; subst h1; subst h2; exact gw rfl rfl (cL (cL rfl (cL rfl (cL (cL rfl (cL (cg (aE (qE rfl rfl) (aE rfl rfl)) (cQ (cQ (cQ rfl rfl) rfl) rfl) rfl) rfl)) rfl))) rfl)
theorem Yc (v0 : D) (v1 : Bool) (v2 : D) (v3 : Bool) (v4 v5 : Int) (v6 v7 v8 v9 v10 v11 v12 v13 v14 v15 : D) (v16 : Bool) (v17 v18 : D) (v19 : Bool) (v20 v21 : Int) (v22 : D) (v23 : Bool) (v24 : D) (v25 v26 v27 v28 v29 v30 v31 v32 v33 v34 : Int) : Oo v0 (.bool v1) v2 (.bool v3) (.int v4) (.int v5) v6 v7 v8 v9 v10 v11 v12 v13 v14 v15 (.bool v16) v17 v18 (.bool v19) (.int v20) (.int v21) v22 (.bool v23) v24 (.int v25) (.int v26) (.int v27) (.int v28) (.int v29) (.int v30) (.int v31) (.int v32) (.int v33) (.int v34) =
  cond (v5 < v4) (
 cond (v5 < 0) (
 .row []) (
 cond (v5 < len v2) (
 Od v0 (.bool v1) (cl v2 v5 0) v2 (.bool v3) (.int v4) (.int v5) (.int 0) v6 v7 v8 v9 v10 v11 v12 v13 v14 v15 (.bool v16) v17 v18 (.bool v19) (.int v20) (.int v21) v22 (.bool v23) v24 (.int v25) (.int v26) (.int v27) (.int v28) (.int v29) (.int v30) (.int v31) (.int v32) (.int v33) (.int v34)) (
 .row []))) (
 .row [.int 1, (.bool false), v6, v7, v8, v9, v10, v11, v12, v13, v14, v15, (.bool v16), v17, v18, (.bool v19), (.int v20), (.int v21), v22, (.bool v23), v24]) := gw rfl rfl rfl
theorem Ym (v0 : D) (v1 : Bool) (v2 : Int) (v3 : D) (v4 : Bool) (v5 v6 v7 : Int) (v8 v9 v10 v11 v12 v13 v14 v15 v16 v17 : D) (v18 : Bool) (v19 v20 : D) (v21 : Bool) (v22 v23 : Int) (v24 : D) (v25 : Bool) (v26 : D) (v27 v28 v29 v30 v31 v32 v33 v34 v35 v36 : Int) {F0 F1 F2 : D} (h0 : Fm (.int v27) (.int v28) (.int v29) (.int v30) (.int v31) v8 v9 v10 v11 (cl v0 v7 0) = F0) (h1 : Fm (.int v32) (.int v33) (.int v34) (.int v35) (.int v36) v12 v13 v14 v15 (.int v2) = F1) (h2 : HX v24 (.bool v25) v26 (sl F0 1) (sl F0 2) (sl F0 3) (sl F0 4) (sl F0 5) (sl F1 1) (sl F1 2) (sl F1 3) (sl F1 4) (sl F1 5) = F2) : Od v0 (.bool v1) (.int v2) v3 (.bool v4) (.int v5) (.int v6) (.int v7) v8 v9 v10 v11 v12 v13 v14 v15 v16 v17 (.bool v18) v19 v20 (.bool v21) (.int v22) (.int v23) v24 (.bool v25) v26 (.int v27) (.int v28) (.int v29) (.int v30) (.int v31) (.int v32) (.int v33) (.int v34) (.int v35) (.int v36) =
  cond (v7 < len v0) (
 cond (v7 < 0) (
 .row []) (
 cond ((cl v0 v7 0).toInt < 0) (
 .row []) (
 cond ((cl v0 v7 0).toInt < len v11) (
 cond (v2 < 0) (
 .row []) (
 cond (v2 < len v15) (
 cond ((decide ((cl v11 (cl v0 v7 0).toInt 2).toInt = (cl v15 v2 2).toInt) && (D.strEq (cl v11 (cl v0 v7 0).toInt 3) (cl v15 v2 3) && D.strEq (cl v11 (cl v0 v7 0).toInt 4) (cl v15 v2 4)))) (
 cond ((sl F0 0).toInt = 1) (
 cond ((sl F1 0).toInt = 1) (
 cond ((sl F2 0).toInt = 1) (
 Od v0 (.bool v1) (.int v2) v3 (.bool v4) (.int v5) (.int v6) (.int (IntKind.wrap .i64 (v7 + 1))) v8 v9 v10 v11 v12 v13 v14 v15 v16 v17 (.bool v18) v19 v20 (.bool v21) (.int v22) (.int v23) (sl F2 1) (sl F2 2) (sl F2 3) (.int v27) (.int v28) (.int v29) (.int v30) (.int v31) (.int v32) (.int v33) (.int v34) (.int v35) (.int v36)) (
 .row [])) (
 .row [])) (
 .row [])) (
 Od v0 (.bool v1) (.int v2) v3 (.bool v4) (.int v5) (.int v6) (.int (IntKind.wrap .i64 (v7 + 1))) v8 v9 v10 v11 v12 v13 v14 v15 v16 v17 (.bool v18) v19 v20 (.bool v21) (.int v22) (.int v23) v24 (.bool v25) v26 (.int v27) (.int v28) (.int v29) (.int v30) (.int v31) (.int v32) (.int v33) (.int v34) (.int v35) (.int v36))) (
 .row []))) (
 .row [])))) (
 Oo v0 (.bool v1) v3 (.bool v4) (.int v5) (.int (IntKind.wrap .i64 (v6 + 1))) v8 v9 v10 v11 v12 v13 v14 v15 v16 v17 (.bool v18) v19 v20 (.bool v21) (.int v22) (.int v23) v24 (.bool v25) v26 (.int v27) (.int v28) (.int v29) (.int v30) (.int v31) (.int v32) (.int v33) (.int v34) (.int v35) (.int v36)) := by
  subst h0; subst h1; subst h2; exact gw rfl rfl (cL (cL rfl (cL rfl (cL (cL rfl (cL (cg (aE (qE rfl rfl) (aE rfl rfl)) (cQ (cQ (cQ rfl rfl) rfl) rfl) rfl) rfl)) rfl))) rfl)
theorem fe (v0 : D) (v1 : Bool) (v2 : Int) (v3 v4 v5 v6 v7 v8 v9 v10 v11 v12 : D) (v13 : Bool) (v14 v15 : D) (v16 : Bool) (v17 v18 : Int) : Vn v0 (.bool v1) (.int v2) v3 v4 v5 v6 v7 v8 v9 v10 v11 v12 (.bool v13) v14 v15 (.bool v16) (.int v17) (.int v18) =
 NX (.int v2) v0 (.bool v1) (.int 0) v3 v4 v5 v6 v7 v8 v9 v10 v11 v12 (.bool v13) v14 v15 (.bool v16) (.int v17) (.int v18) AT (.bool true) Ax := gw rfl rfl rfl
theorem Yo (v0 : Int) (v1 : D) (v2 : Bool) (v3 : Int) (v4 v5 v6 v7 v8 v9 v10 v11 v12 v13 : D) (v14 : Bool) (v15 v16 : D) (v17 : Bool) (v18 v19 : Int) (v20 : D) (v21 : Bool) (v22 : D) : NX (.int v0) v1 (.bool v2) (.int v3) v4 v5 v6 v7 v8 v9 v10 v11 v12 v13 (.bool v14) v15 v16 (.bool v17) (.int v18) (.int v19) v20 (.bool v21) v22 =
  cond (v3 < len v1) (
 cond (v3 < 0) (
 .row []) (
 cond ((sl (HX v20 (.bool v21) v22 (cl v1 v3 0) (cl v1 v3 1) (cl v1 v3 2) (cl v1 v3 3) (cl v1 v3 4) (cl v1 v3 5) (cl v1 v3 6) (cl v1 v3 7) (cl v1 v3 8) (cl v1 v3 9)) 0).toInt = 1) (
 NX (.int v0) v1 (.bool v2) (.int (IntKind.wrap .i64 (v3 + 1))) v4 v5 v6 v7 v8 v9 v10 v11 v12 v13 (.bool v14) v15 v16 (.bool v17) (.int v18) (.int v19) (sl (HX v20 (.bool v21) v22 (cl v1 v3 0) (cl v1 v3 1) (cl v1 v3 2) (cl v1 v3 3) (cl v1 v3 4) (cl v1 v3 5) (cl v1 v3 6) (cl v1 v3 7) (cl v1 v3 8) (cl v1 v3 9)) 1) (sl (HX v20 (.bool v21) v22 (cl v1 v3 0) (cl v1 v3 1) (cl v1 v3 2) (cl v1 v3 3) (cl v1 v3 4) (cl v1 v3 5) (cl v1 v3 6) (cl v1 v3 7) (cl v1 v3 8) (cl v1 v3 9)) 2) (sl (HX v20 (.bool v21) v22 (cl v1 v3 0) (cl v1 v3 1) (cl v1 v3 2) (cl v1 v3 3) (cl v1 v3 4) (cl v1 v3 5) (cl v1 v3 6) (cl v1 v3 7) (cl v1 v3 8) (cl v1 v3 9)) 3)) (
 .row []))) (
 NJ (.int v0) (.int 0) v1 v4 v5 v6 v7 v8 v9 v10 v11 v12 v13 (.bool v14) v15 v16 (.bool v17) (.int v18) (.int v19) v20 (.bool v21) v22) := gw rfl rfl (cL (cL rfl (cQ rfl rfl)) rfl)
theorem Ro (v0 v1 : Int) (v2 v3 v4 v5 v6 v7 v8 v9 v10 v11 v12 : D) (v13 : Bool) (v14 v15 : D) (v16 : Bool) (v17 v18 : Int) (v19 : D) (v20 : Bool) (v21 : D) {F0 : D} (h0 : LZ v3 v4 v5 v6 v7 v8 v9 v10 v11 v12 (.bool v13) v14 v15 (.bool v16) (.int v17) (.int v18) (cl v19 v1 0) (cl v19 v1 1) (cl v19 v1 2) (cl v19 v1 3) (cl v19 v1 4) (cl v19 v1 5) (cl v19 v1 6) (cl v19 v1 7) (cl v19 v1 8) (cl v19 v1 9) v19 (.bool v20) v21 = F0) : NJ (.int v0) (.int v1) v2 v3 v4 v5 v6 v7 v8 v9 v10 v11 v12 (.bool v13) v14 v15 (.bool v16) (.int v17) (.int v18) v19 (.bool v20) v21 =
  cond (v1 < len v19) (
 cond (v1 < v0) (
 cond (v1 < 0) (
 .row []) (
 cond ((sl F0 0).toInt = 1) (
 cond ((sl F0 1).toBool) (
 .row [.int 1, (sl F0 18), (sl F0 19), (.bool false), (sl F0 2), (sl F0 3), (sl F0 4), (sl F0 5), (sl F0 6), (sl F0 7), (sl F0 8), (sl F0 9), (sl F0 10), (sl F0 11), (sl F0 12), (sl F0 13), (sl F0 14), (sl F0 15), (sl F0 16), (sl F0 17)]) (
 NJ (.int v0) (.int (IntKind.wrap .i64 (v1 + 1))) v2 (sl F0 2) (sl F0 3) (sl F0 4) (sl F0 5) (sl F0 6) (sl F0 7) (sl F0 8) (sl F0 9) (sl F0 10) (sl F0 11) (sl F0 12) (sl F0 13) (sl F0 14) (sl F0 15) (sl F0 16) (sl F0 17) (sl F0 18) (sl F0 19) (sl F0 20))) (
 .row []))) (
 .row [.int 1, v19, (.bool v20), (.bool (decide (v0 < (len v19 : Int)))), v3, v4, v5, v6, v7, v8, v9, v10, v11, v12, (.bool v13), v14, v15, (.bool v16), (.int v17), (.int v18)])) (
 .row [.int 1, v19, (.bool v20), (.bool (decide (v0 < (len v19 : Int)))), v3, v4, v5, v6, v7, v8, v9, v10, v11, v12, (.bool v13), v14, v15, (.bool v16), (.int v17), (.int v18)]) := by
  subst h0; exact gw rfl rfl (cL (cL (cL rfl (cQ rfl rfl)) rfl) rfl)
theorem XW (v0 v1 v2 v3 v4 v5 v6 v7 v8 v9 : D) {F0 : D} (h0 : Rl (ad Ax (.row [(.int 0), (.int 0), (.int 0), (.int 0), (.int 0)])) (.bool false) (.int 2000) v0 v1 v2 v3 = F0) : HC v0 v1 v2 v3 v4 v5 v6 v7 v8 v9 =
  cond ((sl (GD v0 v1 v2 v3 v4 v5 v6 v7 v8 v9) 0).toInt = 1) (
 cond ((sl (GD v0 v1 v2 v3 v4 v5 v6 v7 v8 v9) 2).toInt = 0) (
 cond ((sl F0 0).toInt = 1) (
 cond ((sl F0 3).toBool) (
 .row [.int 1, (Do 0 0), AT, (.bool true), (Do 0 0), AT, (.bool true), (.int 0), (.int 0), (.bool false), (.int 7)]) (
 KB AT (.bool true) (sl F0 1) (sl F0 2) (.int (len (sl F0 1) : Int)) (.int 0) v0 v1 v2 v3 v4 v5 v6 v7 v8 v9)) (
 .row [])) (
 .row [.int 1, (Do 0 0), AT, (.bool true), (Do 0 0), AT, (.bool true), (.int 0), (.int 0), (.bool false), (sl (GD v0 v1 v2 v3 v4 v5 v6 v7 v8 v9) 2)])) (
 .row []) := by
  subst h0; exact gw rfl rfl (cQ (cQ (cQ (cg rfl rfl rfl) rfl) rfl) rfl)
theorem Un (v0 : D) (v1 : Bool) (v2 : D) (v3 : Bool) (v4 v5 : Int) (v6 v7 v8 v9 v10 v11 v12 v13 v14 v15 : D) {F0 F1 : D} (h0 : Vn v0 (.bool v1) (.int 4000) v6 v7 v8 v9 v10 v11 v12 v13 (Do 0 0) AT (.bool true) (Do 0 0) AT (.bool true) (.int 0) (.int 0) = F0) (h1 : L9 v6 v7 v8 v9 v10 v11 v12 v13 v14 v15 (cl v2 v5 0) (cl v2 v5 1) (cl v2 v5 2) (cl v2 v5 3) (cl v2 v5 4) = F1) : KB v0 (.bool v1) v2 (.bool v3) (.int v4) (.int v5) v6 v7 v8 v9 v10 v11 v12 v13 v14 v15 =
  cond (v5 < v4) (
 cond (v5 < 0) (
 .row []) (
 cond (v5 < len v2) (
 cond ((sl F1 0).toInt = 1) (
 cond ((sl F1 6).toInt = 0) (
 cond ((len v0 : Int) < 1073741824) (
 KB (ad v0 (.row [(cl v2 v5 0), (cl v2 v5 1), (cl v2 v5 2), (cl v2 v5 3), (cl v2 v5 4), (sl F1 1), (sl F1 2), (sl F1 3), (sl F1 4), (sl F1 5)])) (.bool false) v2 (.bool v3) (.int v4) (.int (IntKind.wrap .i64 (v5 + 1))) v6 v7 v8 v9 v10 v11 v12 v13 v14 v15) (
 .row [])) (
 KB v0 (.bool v1) v2 (.bool v3) (.int v4) (.int (IntKind.wrap .i64 (v5 + 1))) v6 v7 v8 v9 v10 v11 v12 v13 v14 v15)) (
 .row [])) (
 .row []))) (
 cond ((sl F0 0).toInt = 1) (
 cond ((sl F0 3).toBool) (
 .row [.int 1, (Do 0 0), AT, (.bool true), (Do 0 0), AT, (.bool true), (.int 0), (.int 0), (.bool false), (.int 7)]) (
 .row [.int 1, (sl F0 12), (sl F0 13), (sl F0 14), (sl F0 15), (sl F0 16), (sl F0 17), (sl F0 18), (sl F0 19), (.bool (decide ((sl F0 18).toInt = 0))), (.int 0)])) (
 .row [])) := by
  subst h0; subst h1; exact gw rfl rfl (cL (cL rfl (cL (cQ (cQ (cL rfl rfl) rfl) rfl) rfl)) (cQ (cg rfl rfl rfl) rfl))
theorem Vq (v0 v1 v2 v3 : D) {F0 : D} (h0 : Rl (ad Ax (.row [(.int 0), (.int 0), (.int 0), (.int 0), (.int 0)])) (.bool false) (.int 2000) v0 v1 v2 v3 = F0) : Mk v0 v1 v2 v3 =
  cond ((sl (DB v0) 0).toInt = 1) (
 cond ((sl (DB v0) 1).toBool) (
 cond ((sl (Je (.int (len v2 : Int)) (.int 0) (.int 4) v0 v1 v2 v3) 0).toInt = 1) (
 cond ((sl (Je (.int (len v2 : Int)) (.int 0) (.int 4) v0 v1 v2 v3) 1).toInt < 0) (
 cond ((sl (Jf (.int (len v1 : Int)) (.int 1) (.int 24) v0 v1 v2 v3) 0).toInt = 1) (
 cond ((sl (Jf (.int (len v1 : Int)) (.int 1) (.int 24) v0 v1 v2 v3) 1).toInt < 0) (
 cond ((sl (Jj (.int (len v3 : Int)) (.int 0) (.int 80) v0 v1 v2 v3) 0).toInt = 1) (
 cond ((sl (Jj (.int (len v3 : Int)) (.int 0) (.int 80) v0 v1 v2 v3) 1).toInt < 0) (
 cond ((sl F0 0).toInt = 1) (
 cond ((sl F0 3).toBool) (
 .row [.int 1, AT, (.bool true), (.int 7)]) (
 Mx AT (.bool true) (sl F0 1) (sl F0 2) (.int (len (sl F0 1) : Int)) (.int 0) v0 v1 v2 v3)) (
 .row [])) (
 .row [.int 1, AT, (.bool true), (.int 2)])) (
 .row [])) (
 .row [.int 1, AT, (.bool true), (.int 2)])) (
 .row [])) (
 .row [.int 1, AT, (.bool true), (.int 2)])) (
 .row [])) (
 .row [.int 1, AT, (.bool true), (.int 2)])) (
 .row []) := by
  subst h0; exact gw rfl rfl (cQ (cg rfl (cQ (cL (cQ (cL (cQ (cL (cQ (cg rfl rfl rfl) rfl) rfl) rfl) rfl) rfl) rfl) rfl) rfl) rfl)
theorem Yr (v0 : D) (v1 : Bool) (v2 : D) (v3 : Bool) (v4 v5 : Int) (v6 v7 v8 v9 : D) : Mx v0 (.bool v1) v2 (.bool v3) (.int v4) (.int v5) v6 v7 v8 v9 =
  cond (v5 < v4) (
 cond (v5 < 0) (
 .row []) (
 cond (v5 < len v2) (
 cond ((sl (Db (cl v2 v5 0) (cl v2 v5 1) (cl v2 v5 2) (cl v2 v5 3) (cl v2 v5 4) v6 v7 v8 v9) 0).toInt = 1) (
 cond ((len v0 : Int) < 1073741824) (
 Mx (ad v0 (.row [(sl (Db (cl v2 v5 0) (cl v2 v5 1) (cl v2 v5 2) (cl v2 v5 3) (cl v2 v5 4) v6 v7 v8 v9) 1), (ni (sl (Db (cl v2 v5 0) (cl v2 v5 1) (cl v2 v5 2) (cl v2 v5 3) (cl v2 v5 4) v6 v7 v8 v9) 2) false)])) (.bool false) v2 (.bool v3) (.int v4) (.int (IntKind.wrap .i64 (v5 + 1))) v6 v7 v8 v9) (
 .row [])) (
 .row [])) (
 .row []))) (
 .row [.int 1, v0, (.bool v1), (.int 0)]) := gw rfl rfl (cL (cL rfl (cL (cQ (cL rfl rfl) rfl) rfl)) rfl)
theorem dG (v0 v1 v2 v3 v4 v5 : D) : OQ v0 v1 v2 v3 v4 v5 =
  cond ((sl (D9 v1 v4) 0).toInt = 1) (
 cond ((sl (D9 v1 v4) 1).toInt < 0) (
 .row [.int 1, (sl (D9 v1 v4) 1), (.int 0), (.int 0), (.int 0), (.int 0), (.bool false)]) (
 cond ((len v5 : Int) = (len v2 : Int)) (
 NI v5 (.int 0) v0 v1 v2 v3 v4 (sl (D9 v1 v4) 1)) (
 .row [.int 1, (sl (D9 v1 v4) 1), (.int 0), (.int 0), (.int 0), (.int 0), (.bool false)]))) (
 .row []) := gw rfl rfl (cQ (cL rfl (cQ rfl rfl)) rfl)
theorem X4 (v0 : D) (v1 : Int) (v2 v3 v4 v5 v6 : D) (v7 : Int) : NI v0 (.int v1) v2 v3 v4 v5 v6 (.int v7) =
  cond (v1 < len v0) (
 cond (v1 < 0) (
 .row []) (
 cond ((cl v0 v1 0).toInt < 0) (
 .row [.int 1, (.int v7), (.int 0), (.int 0), (.int 0), (.int 0), (.bool false)]) (
 cond (v1 < len v4) (
 cond ((cl v4 v1 1).toInt < (cl v0 v1 0).toInt) (
 .row [.int 1, (.int v7), (.int 0), (.int 0), (.int 0), (.int 0), (.bool false)]) (
 NI v0 (.int (IntKind.wrap .i64 (v1 + 1))) v2 v3 v4 v5 v6 (.int v7))) (
 .row [])))) (
 cond ((len v0 : Int) < 4) (
 cond ((len v0 : Int) = 0) (
 .row [.int 1, (.int v7), (.int 0), (.int 0), (.int 0), (.int 0), (.bool true)]) (
 cond ((len v0 : Int) = 1) (
 .row [.int 1, (.int v7), (cl v0 0 0), (.int 0), (.int 0), (.int 0), (.bool true)]) (
 cond ((len v0 : Int) = 2) (
 .row [.int 1, (.int v7), (cl v0 0 0), (cl v0 1 0), (.int 0), (.int 0), (.bool true)]) (
 cond ((len v0 : Int) = 3) (
 .row [.int 1, (.int v7), (cl v0 0 0), (cl v0 1 0), (cl v0 2 0), (.int 0), (.bool true)]) (
 .row []))))) (
 .row [.int 1, (.int v7), (cl v0 0 0), (cl v0 1 0), (cl v0 2 0), (cl v0 3 0), (.bool true)])) := gw rfl rfl (cL rfl (cL (cQ rfl (cQ rfl (cQ rfl (cQ rfl rfl)))) rfl))
theorem cw (v0 v1 v2 v3 v4 v5 v6 v7 v8 v9 v10 v11 : D) {F0 F1 : D} (h0 : OQ v0 v1 v2 v3 v10 v11 = F0) (h1 : L9 v0 v1 v2 v3 v4 v5 v6 v7 v8 v9 (sl F0 1) (sl F0 2) (sl F0 3) (sl F0 4) (sl F0 5) = F1) : Uy v0 v1 v2 v3 v4 v5 v6 v7 v8 v9 v10 v11 =
  cond ((sl (GD v0 v1 v2 v3 v4 v5 v6 v7 v8 v9) 0).toInt = 1) (
 cond ((sl (GD v0 v1 v2 v3 v4 v5 v6 v7 v8 v9) 2).toInt = 0) (
 cond ((sl F0 0).toInt = 1) (
 cond ((sl F0 6).toBool) (
 cond ((sl F1 0).toInt = 1) (
 cond ((sl F1 6).toInt = 0) (
 cond ((sl (Db (sl F1 1) (sl F1 2) (sl F1 3) (sl F1 4) (sl F1 5) v4 v5 v6 v7) 0).toInt = 1) (
 .row [.int 1, (sl (Db (sl F1 1) (sl F1 2) (sl F1 3) (sl F1 4) (sl F1 5) v4 v5 v6 v7) 1), (sl (Db (sl F1 1) (sl F1 2) (sl F1 3) (sl F1 4) (sl F1 5) v4 v5 v6 v7) 2), (.bool false), (.int 0)]) (
 .row [])) (
 .row [.int 1, (Do 0 0), AT, (.bool true), (sl F1 6)])) (
 .row [])) (
 .row [.int 1, (Do 0 0), AT, (.bool true), (.int 492)])) (
 .row [])) (
 .row [.int 1, (Do 0 0), AT, (.bool true), (sl (GD v0 v1 v2 v3 v4 v5 v6 v7 v8 v9) 2)])) (
 .row []) := by
  subst h0; subst h1; exact gw rfl rfl (cQ (cQ (cQ (cg rfl (cQ (cQ (cQ rfl rfl) rfl) rfl) rfl) rfl) rfl) rfl)
theorem hU (v0 v1 v2 v3 v4 v5 : D) {F0 : D} (h0 : OQ v0 v1 v2 v3 v4 v5 = F0) : C9 v0 v1 v2 v3 v4 v5 =
  cond ((sl (DB v0) 0).toInt = 1) (
 cond ((sl (DB v0) 1).toBool) (
 cond ((sl (Je (.int (len v2 : Int)) (.int 0) (.int 4) v0 v1 v2 v3) 0).toInt = 1) (
 cond ((sl (Je (.int (len v2 : Int)) (.int 0) (.int 4) v0 v1 v2 v3) 1).toInt < 0) (
 cond ((sl (Jf (.int (len v1 : Int)) (.int 1) (.int 24) v0 v1 v2 v3) 0).toInt = 1) (
 cond ((sl (Jf (.int (len v1 : Int)) (.int 1) (.int 24) v0 v1 v2 v3) 1).toInt < 0) (
 cond ((sl (Jj (.int (len v3 : Int)) (.int 0) (.int 80) v0 v1 v2 v3) 0).toInt = 1) (
 cond ((sl (Jj (.int (len v3 : Int)) (.int 0) (.int 80) v0 v1 v2 v3) 1).toInt < 0) (
 cond ((sl F0 0).toInt = 1) (
 cond ((sl F0 6).toBool) (
 cond ((sl (Fx (sl F0 1) (sl F0 2) (sl F0 3) (sl F0 4) (sl F0 5) v0 v1 v2 v3) 0).toInt = 1) (
 .row [.int 1, (sl (Fx (sl F0 1) (sl F0 2) (sl F0 3) (sl F0 4) (sl F0 5) v0 v1 v2 v3) 1), (sl (Fx (sl F0 1) (sl F0 2) (sl F0 3) (sl F0 4) (sl F0 5) v0 v1 v2 v3) 2), (.int 0)]) (
 .row [])) (
 .row [.int 1, AT, (.bool true), (.int 492)])) (
 .row [])) (
 .row [.int 1, AT, (.bool true), (.int 2)])) (
 .row [])) (
 .row [.int 1, AT, (.bool true), (.int 2)])) (
 .row [])) (
 .row [.int 1, AT, (.bool true), (.int 2)])) (
 .row [])) (
 .row [.int 1, AT, (.bool true), (.int 2)])) (
 .row []) := by
  subst h0; exact gw rfl rfl (cQ (cg rfl (cQ (cL (cQ (cL (cQ (cL (cQ (cg rfl (cQ rfl rfl) rfl) rfl) rfl) rfl) rfl) rfl) rfl) rfl) rfl) rfl)
theorem fk (v0 v1 v2 v3 v4 : D) (v5 : Bool) (v6 v7 : D) (v8 : Int) (v9 v10 v11 : D) (v12 v13 v14 : Int) : UC v0 v1 v2 v3 v4 (.bool v5) v6 v7 (.int v8) v9 v10 v11 (.int v12) (.int v13) (.int v14) =
 Hr v4 (.bool v5) AT (.bool true) (.int 0) v0 v1 v2 v3 v6 v7 (.int v8) v9 v10 v11 (.int v12) (.int v13) (.int v14) := gw rfl rfl rfl
theorem XX (v0 : D) (v1 : Bool) (v2 : D) (v3 : Bool) (v4 : Int) (v5 v6 v7 v8 v9 v10 : D) (v11 : Int) (v12 v13 v14 : D) (v15 v16 v17 : Int) : Hr v0 (.bool v1) v2 (.bool v3) (.int v4) v5 v6 v7 v8 v9 v10 (.int v11) v12 v13 v14 (.int v15) (.int v16) (.int v17) =
  cond (v4 < len v0) (
 cond (v4 < 0) (
 .row []) (
 cond ((cl v0 v4 0).toInt < 0) (
 Hr v0 (.bool v1) v2 (.bool v3) (.int (IntKind.wrap .i64 (v4 + 1))) v5 v6 v7 v8 v9 v10 (.int v11) v12 v13 v14 (.int v15) (.int v16) (.int v17)) (
 cond ((cl v0 v4 0).toInt < len v8) (
 cond ((cl v8 (cl v0 v4 0).toInt 2).toInt = v11) (
 cond (D.strEq (cl v8 (cl v0 v4 0).toInt 3) v12) (
 cond (D.strEq (cl v8 (cl v0 v4 0).toInt 4) v13) (
 cond ((len v2 : Int) < 1073741824) (
 Hr v0 (.bool v1) (ad v2 (.row [(cl v0 v4 0)])) (.bool false) (.int (IntKind.wrap .i64 (v4 + 1))) v5 v6 v7 v8 v9 v10 (.int v11) v12 v13 v14 (.int v15) (.int v16) (.int v17)) (
 .row [])) (
 Hr v0 (.bool v1) v2 (.bool v3) (.int (IntKind.wrap .i64 (v4 + 1))) v5 v6 v7 v8 v9 v10 (.int v11) v12 v13 v14 (.int v15) (.int v16) (.int v17))) (
 Hr v0 (.bool v1) v2 (.bool v3) (.int (IntKind.wrap .i64 (v4 + 1))) v5 v6 v7 v8 v9 v10 (.int v11) v12 v13 v14 (.int v15) (.int v16) (.int v17))) (
 Hr v0 (.bool v1) v2 (.bool v3) (.int (IntKind.wrap .i64 (v4 + 1))) v5 v6 v7 v8 v9 v10 (.int v11) v12 v13 v14 (.int v15) (.int v16) (.int v17))) (
 Hr v0 (.bool v1) v2 (.bool v3) (.int (IntKind.wrap .i64 (v4 + 1))) v5 v6 v7 v8 v9 v10 (.int v11) v12 v13 v14 (.int v15) (.int v16) (.int v17))))) (
 .row [.int 1, v2, (.bool v3)]) := gw rfl rfl (cL (cL rfl (cL rfl (cL (cQ (cg rfl (cg rfl (cL rfl rfl) rfl) rfl) rfl) rfl))) rfl)
theorem dy (v0 : D) (v1 : Bool) (v2 : Int) : OH v0 (.bool v1) (.int v2) =
 Ku v0 (.bool v1) (.int v2) (.int 0) := gw rfl rfl rfl
theorem XQ (v0 : D) (v1 : Bool) (v2 v3 : Int) : Ku v0 (.bool v1) (.int v2) (.int v3) =
  cond (v3 < len v0) (
 cond (v3 < 0) (
 .row []) (
 cond (v2 = (cl v0 v3 0).toInt) (
 .row [.int 1, (.int v3)]) (
 Ku v0 (.bool v1) (.int v2) (.int (IntKind.wrap .i64 (v3 + 1)))))) (
 .row [.int 1, (.int (-1))]) := gw rfl rfl (cL (cL rfl (cQ rfl rfl)) rfl)
theorem eY (v0 v1 v2 v3 v4 v5 : D) (v6 : Int) {F0 F1 : D} (h0 : OQ v0 v1 v2 v3 v4 v5 = F0) (h1 : Fm (sl F0 1) (sl F0 2) (sl F0 3) (sl F0 4) (sl F0 5) v0 v1 v2 v3 (.int v6) = F1) : Fu v0 v1 v2 v3 v4 v5 (.int v6) =
  cond ((sl (C9 v0 v1 v2 v3 v4 v5) 0).toInt = 1) (
 cond ((sl (C9 v0 v1 v2 v3 v4 v5) 3).toInt = 0) (
 cond ((sl (OH (sl (C9 v0 v1 v2 v3 v4 v5) 1) (sl (C9 v0 v1 v2 v3 v4 v5) 2) (.int v6)) 0).toInt = 1) (
 cond ((sl (OH (sl (C9 v0 v1 v2 v3 v4 v5) 1) (sl (C9 v0 v1 v2 v3 v4 v5) 2) (.int v6)) 1).toInt < 0) (
 .row [.int 1, (Do 0 0), AT, (.bool true), (.int 8)]) (
 cond ((sl F0 0).toInt = 1) (
 cond ((sl F1 0).toInt = 1) (
 cond ((sl (Db (sl F1 1) (sl F1 2) (sl F1 3) (sl F1 4) (sl F1 5) v0 v1 v2 v3) 0).toInt = 1) (
 .row [.int 1, (sl (Db (sl F1 1) (sl F1 2) (sl F1 3) (sl F1 4) (sl F1 5) v0 v1 v2 v3) 1), (sl (Db (sl F1 1) (sl F1 2) (sl F1 3) (sl F1 4) (sl F1 5) v0 v1 v2 v3) 2), (.bool false), (.int 0)]) (
 .row [])) (
 .row [])) (
 .row []))) (
 .row [])) (
 .row [.int 1, (Do 0 0), AT, (.bool true), (sl (C9 v0 v1 v2 v3 v4 v5) 3)])) (
 .row []) := by
  subst h0; subst h1; exact gw rfl rfl (cQ (cQ (cQ (cL rfl (cQ (cQ (cQ rfl rfl) rfl) rfl)) rfl) rfl) rfl)
theorem bI (v0 v1 v2 v3 v4 v5 : D) (v6 : Int) (v7 v8 v9 v10 v11 v12 : D) (v13 : Int) {F0 F1 F2 : D} (h0 : C9 v7 v8 v9 v10 v11 v12 = F0) (h1 : UC v7 v8 v9 v10 (sl F0 1) (sl F0 2) (cl v3 v6 0) (cl v3 v6 1) (cl v3 v6 2) (cl v3 v6 3) (cl v3 v6 4) (cl v3 v6 5) (cl v3 v6 6) (cl v3 v6 7) (cl v3 v6 8) = F1) (h2 : Fu v7 v8 v9 v10 v11 v12 (cl (sl F1 1) (IntKind.wrap .i64 (ari .rem .u64 (IntKind.wrap .u64 v13) (IntKind.wrap .u64 (len (sl F1 1) : Int)))) 0) = F2) : C8 v0 v1 v2 v3 v4 v5 (.int v6) v7 v8 v9 v10 v11 v12 (.int v13) =
  cond ((sl F0 0).toInt = 1) (
 cond (v6 < 0) (
 .row []) (
 cond (v6 < len v3) (
 cond ((sl F1 0).toInt = 1) (
 cond ((sl F0 3).toInt = 0) (
 cond ((len (sl F1 1) : Int) = 0) (
 .row [.int 1, (.bool false), v4, v5, v11, v12]) (
 cond ((sl (Fu v0 v1 v2 v3 v4 v5 (.int v6)) 0).toInt = 1) (
 cond ((IntKind.wrap .u64 (len (sl F1 1) : Int)) = 0) (
 .row []) (
 cond ((IntKind.wrap .i64 (ari .rem .u64 (IntKind.wrap .u64 v13) (IntKind.wrap .u64 (len (sl F1 1) : Int)))) < 0) (
 .row []) (
 cond ((IntKind.wrap .i64 (ari .rem .u64 (IntKind.wrap .u64 v13) (IntKind.wrap .u64 (len (sl F1 1) : Int)))) < (len (sl F1 1) : Int)) (
 cond ((sl F2 0).toInt = 1) (
 cond ((sl (Fu v0 v1 v2 v3 v4 v5 (.int v6)) 4).toInt = 0) (
 .row [.int 1, (.bool (decide ((sl F2 4).toInt = 0))), (sl (Fu v0 v1 v2 v3 v4 v5 (.int v6)) 1), (ni (sl (Fu v0 v1 v2 v3 v4 v5 (.int v6)) 2) ((sl (Fu v0 v1 v2 v3 v4 v5 (.int v6)) 3).toBool)), (sl F2 1), (ni (sl F2 2) ((sl F2 3).toBool))]) (
 .row [.int 1, (.bool false), (sl (Fu v0 v1 v2 v3 v4 v5 (.int v6)) 1), (ni (sl (Fu v0 v1 v2 v3 v4 v5 (.int v6)) 2) ((sl (Fu v0 v1 v2 v3 v4 v5 (.int v6)) 3).toBool)), (sl F2 1), (ni (sl F2 2) ((sl F2 3).toBool))])) (
 .row [])) (
 .row [])))) (
 .row []))) (
 .row [.int 1, (.bool false), v4, v5, v11, v12])) (
 .row [])) (
 .row []))) (
 .row []) := by
  subst h0; subst h1; subst h2; exact gw rfl rfl (cQ (cL rfl (cL (cQ (cQ (cQ rfl (cQ (cQ rfl (cL rfl (cL (cQ (cQ rfl rfl) rfl) rfl))) rfl)) rfl) rfl) rfl)) rfl)
theorem Fo (v0 v1 v2 v3 v4 v5 v6 v7 v8 v9 v10 : D) {F0 F1 : D} (h0 : Mk v0 v1 v2 v3 = F0) (h1 : Uy v0 v1 v2 v3 v4 v5 v6 v7 v8 v9 (cl (sl F0 1) (IntKind.wrap .i64 (ari .rem .u64 (IntKind.wrap .u64 (cl v10 0 0).toInt) (IntKind.wrap .u64 (len (sl F0 1) : Int)))) 0) (cl (sl F0 1) (IntKind.wrap .i64 (ari .rem .u64 (IntKind.wrap .u64 (cl v10 0 0).toInt) (IntKind.wrap .u64 (len (sl F0 1) : Int)))) 1) = F1) : UF v0 v1 v2 v3 v4 v5 v6 v7 v8 v9 v10 =
  cond (8 < (len v1 : Int)) (
 cond ((sl (Eu) 0).toInt = 1) (
 .row [.int 1, (.bool true)]) (
 .row [])) (
 cond (20 < (len v3 : Int)) (
 cond ((sl (Eu) 0).toInt = 1) (
 .row [.int 1, (.bool true)]) (
 .row [])) (
 cond (5 < (len v2 : Int)) (
 cond ((sl (Eu) 0).toInt = 1) (
 .row [.int 1, (.bool true)]) (
 .row [])) (
 cond (8 < (len v5 : Int)) (
 cond ((sl (Eu) 0).toInt = 1) (
 .row [.int 1, (.bool true)]) (
 .row [])) (
 cond (20 < (len v7 : Int)) (
 cond ((sl (Eu) 0).toInt = 1) (
 .row [.int 1, (.bool true)]) (
 .row [])) (
 cond (5 < (len v6 : Int)) (
 cond ((sl (Eu) 0).toInt = 1) (
 .row [.int 1, (.bool true)]) (
 .row [])) (
 cond (30 < (len v8 : Int)) (
 cond ((sl (Eu) 0).toInt = 1) (
 .row [.int 1, (.bool true)]) (
 .row [])) (
 cond (8 < (len v9 : Int)) (
 cond ((sl (Eu) 0).toInt = 1) (
 .row [.int 1, (.bool true)]) (
 .row [])) (
 cond (40 < (len v10 : Int)) (
 cond ((sl (Eu) 0).toInt = 1) (
 .row [.int 1, (.bool true)]) (
 .row [])) (
 cond ((len v10 : Int) < 1) (
 cond ((sl (Eu) 0).toInt = 1) (
 .row [.int 1, (.bool true)]) (
 .row [])) (
 cond ((sl (HC v0 v1 v2 v3 v4 v5 v6 v7 v8 v9) 0).toInt = 1) (
 cond ((sl F0 0).toInt = 1) (
 cond ((sl (HC v0 v1 v2 v3 v4 v5 v6 v7 v8 v9) 10).toInt = 0) (
 cond ((sl (HC v0 v1 v2 v3 v4 v5 v6 v7 v8 v9) 9).toBool) (
 cond ((sl F0 3).toInt = 0) (
 cond ((len (sl F0 1) : Int) = 0) (
 cond ((sl (Eu) 0).toInt = 1) (
 .row [.int 1, (.bool true)]) (
 .row [])) (
 cond ((IntKind.wrap .u64 (len (sl F0 1) : Int)) = 0) (
 .row []) (
 cond ((IntKind.wrap .i64 (ari .rem .u64 (IntKind.wrap .u64 (cl v10 0 0).toInt) (IntKind.wrap .u64 (len (sl F0 1) : Int)))) < 0) (
 .row []) (
 cond ((IntKind.wrap .i64 (ari .rem .u64 (IntKind.wrap .u64 (cl v10 0 0).toInt) (IntKind.wrap .u64 (len (sl F0 1) : Int)))) < (len (sl F0 1) : Int)) (
 cond ((sl F1 0).toInt = 1) (
 cond ((sl F1 4).toInt = 0) (
 GB v10 (.int 1) v0 v1 v2 v3 v4 v5 v6 v7 (cl (sl F0 1) (IntKind.wrap .i64 (ari .rem .u64 (IntKind.wrap .u64 (cl v10 0 0).toInt) (IntKind.wrap .u64 (len (sl F0 1) : Int)))) 0) (cl (sl F0 1) (IntKind.wrap .i64 (ari .rem .u64 (IntKind.wrap .u64 (cl v10 0 0).toInt) (IntKind.wrap .u64 (len (sl F0 1) : Int)))) 1) (sl F1 1) (ni (sl F1 2) ((sl F1 3).toBool))) (
 cond ((sl (Eu) 0).toInt = 1) (
 .row [.int 1, (.bool true)]) (
 .row []))) (
 .row [])) (
 .row []))))) (
 cond ((sl (Eu) 0).toInt = 1) (
 .row [.int 1, (.bool true)]) (
 .row []))) (
 cond ((sl (Eu) 0).toInt = 1) (
 .row [.int 1, (.bool true)]) (
 .row []))) (
 cond ((sl (Eu) 0).toInt = 1) (
 .row [.int 1, (.bool true)]) (
 .row []))) (
 .row [])) (
 .row []))))))))))) := by
  subst h0; subst h1; exact gw rfl rfl (cL (cQ rfl rfl) (cL (cQ rfl rfl) (cL (cQ rfl rfl) (cL (cQ rfl rfl) (cL (cQ rfl rfl) (cL (cQ rfl rfl) (cL (cQ rfl rfl) (cL (cQ rfl rfl) (cL (cQ rfl rfl) (cL (cQ rfl rfl) (cQ (cQ (cQ (cg rfl (cQ (cQ (cQ rfl rfl) (cQ rfl (cL rfl (cL (cQ (cQ rfl (cQ rfl rfl)) rfl) rfl)))) (cQ rfl rfl)) (cQ rfl rfl)) (cQ rfl rfl)) rfl) rfl)))))))))))
theorem XK (v0 : D) (v1 : Int) (v2 v3 v4 v5 v6 v7 v8 v9 v10 v11 v12 v13 : D) : GB v0 (.int v1) v2 v3 v4 v5 v6 v7 v8 v9 v10 v11 v12 v13 =
  cond (v1 < len v0) (
 cond ((sl (C9 v2 v3 v4 v5 v10 v11) 0).toInt = 1) (
 cond ((sl (C9 v6 v7 v8 v9 v12 v13) 0).toInt = 1) (
 cond ((sl (C9 v2 v3 v4 v5 v10 v11) 3).toInt = 0) (
 cond ((sl (C9 v6 v7 v8 v9 v12 v13) 3).toInt = 0) (
 O5 v0 (.int v1) (sl (C9 v2 v3 v4 v5 v10 v11) 1) (sl (C9 v2 v3 v4 v5 v10 v11) 2) (sl (C9 v6 v7 v8 v9 v12 v13) 1) (sl (C9 v6 v7 v8 v9 v12 v13) 2) AT (.bool true) (.bool false) (.int 0) v2 v3 v4 v5 v6 v7 v8 v9 v10 v11 v12 v13) (
 .row [.int 1, (.bool false)])) (
 .row [.int 1, (.bool false)])) (
 .row [])) (
 .row [])) (
 cond ((sl (Eu) 0).toInt = 1) (
 .row [.int 1, (.bool true)]) (
 .row [])) := gw rfl rfl (cL (cQ (cQ (cQ (cQ rfl rfl) rfl) rfl) rfl) (cQ rfl rfl))
theorem X6 (v0 : D) (v1 : Int) (v2 : D) (v3 : Bool) (v4 : D) (v5 : Bool) (v6 : D) (v7 v8 : Bool) (v9 : Int) (v10 v11 v12 v13 v14 v15 v16 v17 v18 v19 v20 v21 : D) : O5 v0 (.int v1) v2 (.bool v3) v4 (.bool v5) v6 (.bool v7) (.bool v8) (.int v9) v10 v11 v12 v13 v14 v15 v16 v17 v18 v19 v20 v21 =
  cond (v9 < len v2) (
 cond (v9 < 0) (
 .row []) (
 cond ((cl v2 v9 0).toInt < 0) (
 .row [.int 1, (.bool false)]) (
 cond ((cl v2 v9 0).toInt < len v13) (
 cond ((cl v13 (cl v2 v9 0).toInt 2).toInt = 2) (
 cond ((len v6 : Int) < 1073741824) (
 O5 v0 (.int v1) v2 (.bool v3) v4 (.bool v5) (ad v6 (.row [(cl v2 v9 0)])) (.bool false) (.bool v8) (.int (IntKind.wrap .i64 (v9 + 1))) v10 v11 v12 v13 v14 v15 v16 v17 v18 v19 v20 v21) (
 .row [])) (
 O5 v0 (.int v1) v2 (.bool v3) v4 (.bool v5) v6 (.bool v7) (.bool true) (.int (IntKind.wrap .i64 (v9 + 1))) v10 v11 v12 v13 v14 v15 v16 v17 v18 v19 v20 v21)) (
 .row [.int 1, (.bool false)])))) (
 IQ v0 (.int v1) v4 (.bool v5) v6 (.bool v7) AT (.bool true) (.bool v8) (.int 0) v10 v11 v12 v13 v14 v15 v16 v17 v18 v19 v20 v21) := gw rfl rfl (cL (cL rfl (cL rfl (cL (cQ (cL rfl rfl) rfl) rfl))) rfl)
theorem Yb (v0 : D) (v1 : Int) (v2 : D) (v3 : Bool) (v4 : D) (v5 : Bool) (v6 : D) (v7 v8 : Bool) (v9 : Int) (v10 v11 v12 v13 v14 v15 v16 v17 v18 v19 v20 v21 : D) {F0 F1 : D} (h0 : C8 v14 v15 v16 v17 v20 v21 (cl v6 (IntKind.wrap .i64 ((IntKind.wrap .i64 (ari .rem .u64 (IntKind.wrap .u64 (cl v0 v1 0).toInt) (IntKind.wrap .u64 (IntKind.wrap .i64 ((len v4 : Int) + (len v6 : Int)))))) - (len v4 : Int))) 0) v10 v11 v12 v13 v18 v19 (cl v0 0 0) = F0) (h1 : C8 v10 v11 v12 v13 v18 v19 (cl v4 (IntKind.wrap .i64 (ari .rem .u64 (IntKind.wrap .u64 (cl v0 v1 0).toInt) (IntKind.wrap .u64 (IntKind.wrap .i64 ((len v4 : Int) + (len v6 : Int)))))) 0) v14 v15 v16 v17 v20 v21 (cl v0 0 0) = F1) : IQ v0 (.int v1) v2 (.bool v3) v4 (.bool v5) v6 (.bool v7) (.bool v8) (.int v9) v10 v11 v12 v13 v14 v15 v16 v17 v18 v19 v20 v21 =
  cond (v9 < len v2) (
 cond (v9 < 0) (
 .row []) (
 cond ((cl v2 v9 0).toInt < 0) (
 .row [.int 1, (.bool false)]) (
 cond ((cl v2 v9 0).toInt < len v17) (
 cond ((cl v17 (cl v2 v9 0).toInt 2).toInt = 2) (
 IQ v0 (.int v1) v2 (.bool v3) v4 (.bool v5) v6 (.bool v7) (.bool v8) (.int (IntKind.wrap .i64 (v9 + 1))) v10 v11 v12 v13 v14 v15 v16 v17 v18 v19 v20 v21) (
 cond ((len v6 : Int) < 1073741824) (
 IQ v0 (.int v1) v2 (.bool v3) v4 (.bool v5) (ad v6 (.row [(cl v2 v9 0)])) (.bool false) (.bool v8) (.int (IntKind.wrap .i64 (v9 + 1))) v10 v11 v12 v13 v14 v15 v16 v17 v18 v19 v20 v21) (
 .row []))) (
 .row [.int 1, (.bool false)])))) (
 cond (v8) (
 cond ((len v6 : Int) = 0) (
 .row [.int 1, (.bool false)]) (
 cond ((IntKind.wrap .i64 ((len v4 : Int) + (len v6 : Int))) = 0) (
 cond ((sl (Eu) 0).toInt = 1) (
 .row [.int 1, (.bool true)]) (
 .row [])) (
 cond (v1 < 0) (
 .row []) (
 cond (v1 < len v0) (
 cond ((IntKind.wrap .u64 (IntKind.wrap .i64 ((len v4 : Int) + (len v6 : Int)))) = 0) (
 .row []) (
 cond ((IntKind.wrap .i64 (ari .rem .u64 (IntKind.wrap .u64 (cl v0 v1 0).toInt) (IntKind.wrap .u64 (IntKind.wrap .i64 ((len v4 : Int) + (len v6 : Int)))))) < (len v4 : Int)) (
 cond ((IntKind.wrap .i64 (ari .rem .u64 (IntKind.wrap .u64 (cl v0 v1 0).toInt) (IntKind.wrap .u64 (IntKind.wrap .i64 ((len v4 : Int) + (len v6 : Int)))))) < 0) (
 .row []) (
 cond (0 < (len v0 : Int)) (
 cond ((sl F1 0).toInt = 1) (
 cond ((sl F1 1).toBool) (
 GB v0 (.int (IntKind.wrap .i64 (v1 + 1))) v10 v11 v12 v13 v14 v15 v16 v17 (sl F1 2) (sl F1 3) (sl F1 4) (sl F1 5)) (
 .row [.int 1, (.bool false)])) (
 .row [])) (
 .row []))) (
 cond ((IntKind.wrap .i64 ((IntKind.wrap .i64 (ari .rem .u64 (IntKind.wrap .u64 (cl v0 v1 0).toInt) (IntKind.wrap .u64 (IntKind.wrap .i64 ((len v4 : Int) + (len v6 : Int)))))) - (len v4 : Int))) < 0) (
 .row []) (
 cond ((IntKind.wrap .i64 ((IntKind.wrap .i64 (ari .rem .u64 (IntKind.wrap .u64 (cl v0 v1 0).toInt) (IntKind.wrap .u64 (IntKind.wrap .i64 ((len v4 : Int) + (len v6 : Int)))))) - (len v4 : Int))) < (len v6 : Int)) (
 cond (0 < (len v0 : Int)) (
 cond ((sl F0 0).toInt = 1) (
 cond ((sl F0 1).toBool) (
 GB v0 (.int (IntKind.wrap .i64 (v1 + 1))) v10 v11 v12 v13 v14 v15 v16 v17 (sl F0 4) (sl F0 5) (sl F0 2) (sl F0 3)) (
 .row [.int 1, (.bool false)])) (
 .row [])) (
 .row [])) (
 .row []))))) (
 .row []))))) (
 cond ((IntKind.wrap .i64 ((len v4 : Int) + (len v6 : Int))) = 0) (
 cond ((sl (Eu) 0).toInt = 1) (
 .row [.int 1, (.bool true)]) (
 .row [])) (
 cond (v1 < 0) (
 .row []) (
 cond (v1 < len v0) (
 cond ((IntKind.wrap .u64 (IntKind.wrap .i64 ((len v4 : Int) + (len v6 : Int)))) = 0) (
 .row []) (
 cond ((IntKind.wrap .i64 (ari .rem .u64 (IntKind.wrap .u64 (cl v0 v1 0).toInt) (IntKind.wrap .u64 (IntKind.wrap .i64 ((len v4 : Int) + (len v6 : Int)))))) < (len v4 : Int)) (
 cond ((IntKind.wrap .i64 (ari .rem .u64 (IntKind.wrap .u64 (cl v0 v1 0).toInt) (IntKind.wrap .u64 (IntKind.wrap .i64 ((len v4 : Int) + (len v6 : Int)))))) < 0) (
 .row []) (
 cond (0 < (len v0 : Int)) (
 cond ((sl F1 0).toInt = 1) (
 cond ((sl F1 1).toBool) (
 GB v0 (.int (IntKind.wrap .i64 (v1 + 1))) v10 v11 v12 v13 v14 v15 v16 v17 (sl F1 2) (sl F1 3) (sl F1 4) (sl F1 5)) (
 .row [.int 1, (.bool false)])) (
 .row [])) (
 .row []))) (
 cond ((IntKind.wrap .i64 ((IntKind.wrap .i64 (ari .rem .u64 (IntKind.wrap .u64 (cl v0 v1 0).toInt) (IntKind.wrap .u64 (IntKind.wrap .i64 ((len v4 : Int) + (len v6 : Int)))))) - (len v4 : Int))) < 0) (
 .row []) (
 cond ((IntKind.wrap .i64 ((IntKind.wrap .i64 (ari .rem .u64 (IntKind.wrap .u64 (cl v0 v1 0).toInt) (IntKind.wrap .u64 (IntKind.wrap .i64 ((len v4 : Int) + (len v6 : Int)))))) - (len v4 : Int))) < (len v6 : Int)) (
 cond (0 < (len v0 : Int)) (
 cond ((sl F0 0).toInt = 1) (
 cond ((sl F0 1).toBool) (
 GB v0 (.int (IntKind.wrap .i64 (v1 + 1))) v10 v11 v12 v13 v14 v15 v16 v17 (sl F0 4) (sl F0 5) (sl F0 2) (sl F0 3)) (
 .row [.int 1, (.bool false)])) (
 .row [])) (
 .row [])) (
 .row []))))) (
 .row []))))) := by
  subst h0; subst h1; exact gw rfl rfl (cL (cL rfl (cL rfl (cL (cQ rfl (cL rfl rfl)) rfl))) (cg rfl (cQ rfl (cQ (cQ rfl rfl) (cL rfl (cL (cQ rfl (cL (cL rfl (cL (cQ rfl rfl) rfl)) (cL rfl (cL (cL (cQ rfl rfl) rfl) rfl)))) rfl)))) (cQ (cQ rfl rfl) (cL rfl (cL (cQ rfl (cL (cL rfl (cL (cQ rfl rfl) rfl)) (cL rfl (cL (cL (cQ rfl rfl) rfl) rfl)))) rfl)))))
end
end Ct
namespace Ct
open Go Go.AE
theorem N6 {v : D} : len (Wu v) = C6 v := by
 show (List.map _ _).length = _;simp [C6]
def R1 (x : D) : Prop := ∃ b : Bool, x = .row [.int 1, .bool b]
theorem R1.no : R1 (.row [.int 1, .bool false]) := ⟨_, rfl⟩
theorem R1.c {c : Bool} {x y : D} (h : R1 x) (h' : R1 y) : R1 (cond c x y) := by cases c <;> assumption
section
variable [An]
theorem MA {v : D} (hs : C6 v ≤ 32) : ∀ {k i : Nat}, i + k = C6 v → R1 (QA (Wu v) (.int (C6 v : Nat)) (.int (i : Nat)))
 | 0, i, h => by rw [dq, ifF (by omega)]; exact ⟨_, rfl⟩
 | k + 1, i, h => by
  have ih := MA hs (k := k) (i := i + 1) (by omega)
  rw [dq, ifT (by omega), ifF (by omega), ifT (by rw [N6]; omega), A9 (by omega)]
  exact .c (.c (.c .no (.c .no (.c .no ih))) (.c (.c .no (.c ih .no)) ih)) (.c (.c .no .no) ih)
theorem RO (v : D) : ∃ b, DB v = .row [.int 1, .bool b] ∧ (b = true → 1 ≤ C6 v) := by
 rw [iD];by_cases c1 : (C6 v : Int) < 1
 ·rw [ifT c1]; exact ⟨_, rfl, fun h => by cases h⟩
 rw [ifF c1];by_cases c2 : 32 < (C6 v : Int)
 ·rw [ifT c2]; exact ⟨_, rfl, fun h => by cases h⟩
 rw [ifF c2, N6];obtain ⟨b, hb⟩ := MA (v := v) (by omega) (k := C6 v) (i := 0) (by omega)
 exact ⟨b, hb, fun _ => by omega⟩
end
end Ct
namespace Ct
open Go Go.AE
def fd (l key : D) : Int := fdG (fun j => D.strEq (cl l j 0) key) (len l) 0
theorem D7 {l key : D} : fd l key < len l := by
 have := EX (p := fun j => D.strEq (cl l j 0) key) (k := len l) (i := 0)
 unfold fd; omega
theorem X9 {l key : D} : fd l key = -1 ∨ 0 ≤ fd l key := by
 have := J5 (p := fun j => D.strEq (cl l j 0) key) (k := len l) (i := 0)
 unfold fd; omega
theorem QW {l : D} {i : Nat} (h : i < len l) : 0 ≤ fd l (cl l i 0) ∧ fd l (cl l i 0) ≤ i := JU (p := fun j => D.strEq (cl l j 0) (cl l i 0)) (Nat.zero_le _) (by omega) B9
theorem aB {l key : D} (h : 0 ≤ fd l key) : D.strEq (cl l (fd l key) 0) key = true := by
 have := MO (p := fun j => D.strEq (cl l j 0) key) (k := len l) (i := 0) h
 have e : ((fd l key).toNat : Int) = fd l key := by omega
 rw [← e];exact this
theorem EJ {F : Int → D} {l key : D} (hn : len l < 4611686018427387904) (h : ∀ i : Int, F i = cond (decide (i < (len l : Int))) (cond (decide (i < 0)) (.row []) (cond (D.strEq (cl l i 0) key) (.row [.int 1, .int i]) (F (IntKind.wrap .i64 (i + 1))))) (.row [.int 1, .int (-1)])) : F 0 = .row [.int 1, .int (fd l key)] := by
 refine find (F := fun i => F (i : Int)) (n := len l) (bad := fun j => D.strEq (cl l j 0) key) (fun j hj => ?_) ?_
 ·show F (j : Int) = _;rw [h, ifT (by omega), ifF (by omega), A9 (by omega)]
 ·show F (len l : Int) = _;rw [h, ifF (by omega)]
section
variable [An]
variable {v0 v1 v2 v3 v4 v5 : D}
theorem Ys (hn : len v0 < 4611686018427387904) (k : D) : TS v0 k = .row [.int 1, .int (fd v0 k)] := (io ..).trans (EJ (F := fun i => Xh v0 (.int i) k) hn fun i => iq ..)
theorem X8 (hn : len v0 < 4611686018427387904) (k : D) : IA v0 k = .row [.int 1, .int (fd v0 k)] := (jg ..).trans (EJ (F := fun i => Xf v0 (.int i) k) hn fun i => il ..)
theorem NK (hn : len v0 < 4611686018427387904) (k : D) : D9 v0 k = .row [.int 1, .int (fd v0 k)] := (iL ..).trans (EJ (F := fun i => VS v0 (.int i) k) hn fun i => ip ..)
theorem QY (hn : len v0 < 4611686018427387904) (k : D) : IC v0 k = .row [.int 1, .int (fd v0 k)] := (je ..).trans (EJ (F := fun i => Wr v0 (.int i) k) hn fun i => ig ..)
def nm (v : D) : Bool := (sl (DB v) 1).toBool
theorem LW (v : D) : DB v = .row [.int 1, .bool (nm v)] := by
 obtain ⟨b, q1, q2⟩ := RO v;unfold nm;rw [q1];rfl
theorem YK {v : D} (h : nm v = true) : 1 ≤ C6 v := by
 obtain ⟨b, q1, q2⟩ := RO v;unfold nm at h;rw [q1] at h;exact q2 h
def Oj (v2 : D) (i : Nat) : Bool := !nm (cl v2 i 0) || decide (fd v2 (cl v2 i 0) < i) || decide ((cl v2 i 1).toInt < 1) || decide (1000 < (cl v2 i 1).toInt)
def OS (v1 : D) (i : Nat) : Bool := !nm (cl v1 i 0) || decide (fd v1 (cl v1 i 0) < i) || decide ((cl v1 i 2).toInt < 0) || decide (1048576 < (cl v1 i 2).toInt)
theorem Rb (hn : len v2 < 1000) (v0 v1 v3 : D) : Je (.int (len v2 : Nat)) (.int 0) (.int 4) v0 v1 v2 v3 = .row [.int 1, .int (cond (decide (4 < (len v2 : Int))) 4 (fdG (Oj v2) (len v2) 0))] := by
 rw [iA, ifF (by omega)]
 by_cases c : 4 < (len v2 : Int)
 ·rw [ifT c, ifT c]
 rw [ifF c, ifF c];refine find (F := fun i => Sz (.int (len v2 : Nat)) (.int (i : Nat)) v0 v1 v2 v3) (n := len v2) (bad := Oj v2) (fun j hj => ?_) ?_
 ·show Sz _ (.int (j : Nat)) _ _ _ _ = _;rw [dk, ifT (by omega), ifF (by omega), ifT (by omega)]
  simp only [LW, Ys (v0 := v2) (by omega), As, Au, Ag, Ai, decide_true, cond_true, A9 (i := j) (by omega)]
  unfold Oj;cases nm (cl v2 j 0) <;> cases decide (fd v2 (cl v2 j 0) < j) <;> cases decide ((cl v2 j 1).toInt < 1) <;> cases decide (1000 < (cl v2 j 1).toInt) <;> rfl
 ·show Sz _ (.int (len v2 : Nat)) _ _ _ _ = _;rw [dk, ifF (by omega)]
theorem RJ (hn : len v1 < 1000) (v0 v2 v3 : D) : Jf (.int (len v1 : Nat)) (.int 1) (.int 24) v0 v1 v2 v3 = .row [.int 1, .int (cond (decide ((len v1 : Int) < 1)) 0 (cond (decide (24 < (len v1 : Int))) 24 (fdG (OS v1) (len v1) 0)))] := by
 rw [ja];by_cases c : (len v1 : Int) < 1
 ·rw [ifT c, ifT c]
 rw [ifF c, ifF c];by_cases c : 24 < (len v1 : Int)
 ·rw [ifT c, ifT c]
 rw [ifF c, ifF c];refine find (F := fun i => SP (.int (len v1 : Nat)) (.int (i : Nat)) v0 v1 v2 v3) (n := len v1) (bad := OS v1) (fun j hj => ?_) ?_
 ·show SP _ (.int (j : Nat)) _ _ _ _ = _;rw [cX, ifT (by omega), ifF (by omega), ifT (by omega)]
  simp only [LW, X8 (v0 := v1) (by omega), As, Au, Ag, Ai, decide_true, cond_true, A9 (i := j) (by omega)]
  unfold OS;cases nm (cl v1 j 0) <;> cases decide (fd v1 (cl v1 j 0) < j) <;> cases decide ((cl v1 j 2).toInt < 0) <;> cases decide (1048576 < (cl v1 j 2).toInt) <;> rfl
 ·show SP _ (.int (len v1 : Nat)) _ _ _ _ = _;rw [cX, ifF (by omega)]
end
end Ct
namespace Ct
open Go Go.AE
def FM (v3 : D) (i j : Nat) : Bool := D.strEq (cl v3 j 0) (cl v3 i 0) && (D.strEq (cl v3 j 1) (cl v3 i 1) && (decide ((cl v3 j 2).toInt = (cl v3 i 2).toInt) && (D.strEq (cl v3 j 3) (cl v3 i 3) && (D.strEq (cl v3 j 4) (cl v3 i 4) && (D.strEq (cl v3 j 5) (cl v3 i 5) && (decide ((cl v3 j 6).toInt = (cl v3 i 6).toInt) && (decide ((cl v3 j 7).toInt = (cl v3 i 7).toInt) && decide ((cl v3 j 8).toInt = (cl v3 i 8).toInt))))))))
def dup (v3 : D) (i : Nat) : Bool := !decide (fdG (FM v3 i) i 0 < 0)
def ZQ (v2 v3 : D) (i : Nat) : Bool := cond (eqC (cl v3 i 5) 0 0) (cond (decide ((cl v3 i 6).toInt = 0)) (cond (decide ((cl v3 i 7).toInt = 0)) (cond (decide ((cl v3 i 8).toInt = 0)) false true) true) true)
 (cond (decide (fd v2 (cl v3 i 5) < 0)) true (cond (decide ((cl v3 i 6).toInt < 0)) true (cond (decide ((cl v3 i 7).toInt < (cl v3 i 6).toInt)) true (cond (decide ((cl v3 i 8).toInt < (-1000))) true (cond (decide (1000 < (cl v3 i 8).toInt)) true
  (cond (decide ((cl v2 (fd v2 (cl v3 i 5)) 1).toInt < (cl v3 i 7).toInt)) true (cond (decide (IntKind.wrap .i64 ((cl v3 i 6).toInt + (cl v3 i 8).toInt) < 0)) true (cond (decide ((cl v2 (fd v2 (cl v3 i 5)) 1).toInt < IntKind.wrap .i64 ((cl v3 i 7).toInt + (cl v3 i 8).toInt))) true false))))))))
def Dk (v3 : D) : Prop := ∀ i : Nat, i < len v3 → (∃ n, cl v3 i 2 = .int n) ∧ (∃ n, cl v3 i 6 = .int n) ∧ (∃ n, cl v3 i 7 = .int n) ∧ (∃ n, cl v3 i 8 = .int n) ∧ C6 (cl v3 i 3) < 4611686018427387904 ∧ C6 (cl v3 i 4) < 4611686018427387904
section
variable [An]
def cR (v0 v1 v3 : D) (i : Nat) : Bool := cond (decide ((cl v3 i 2).toInt = 1)) (cond (nm (cl v3 i 3)) (cond (nm (cl v3 i 4)) (D.strEq (cl v3 i 4) v0) true) true)
 (cond (decide ((cl v3 i 2).toInt = 2)) (cond (nm (cl v3 i 3)) (cond (nm (cl v3 i 4)) (D.strEq (cl v3 i 4) v0) true) true)
 (cond (decide ((cl v3 i 2).toInt = 3)) (cond (eqC (cl v3 i 3) 0 0) (cond (eqC (cl v3 i 4) 0 0) (!decide (0 < (cl v1 (fd v1 (cl v3 i 0)) 2).toInt)) true) true)
 (cond (decide ((cl v3 i 2).toInt = 4)) (cond (eqC (cl v3 i 3) 0 0) (cond (eqC (cl v3 i 4) 0 0) false true) true) true)))
def KQ (v0 v1 v2 v3 : D) (i : Nat) : Bool := decide (fd v1 (cl v3 i 0) < 0) || (decide (fd v1 (cl v3 i 1) < 0) || (dup v3 i || (cR v0 v1 v3 i || ZQ v2 v3 i)))
variable {v0 v1 v2 v3 : D}
theorem dJ (hs : Dk v3) (hn : len v3 < 1000) {i : Nat} (hi : i < len v3) : ∃ n : Int, Z8 (sb v3 0 i) (cl v3 i 0) (cl v3 i 1) (cl v3 i 2) (cl v3 i 3) (cl v3 i 4) (cl v3 i 5) (cl v3 i 6) (cl v3 i 7) (cl v3 i 8) = .row [.int 1, .int n] ∧ decide (n < 0) = !dup v3 i := by
 obtain ⟨⟨n2, h2⟩, ⟨n6, h6⟩, ⟨n7, h7⟩, ⟨n8, h8⟩, _⟩ := hs i hi;refine ⟨fdG (FM v3 i) i 0, ?_, by unfold dup; rw [Bool.not_not]⟩
 have hl : len (sb v3 0 i) = i := by
  have := P8 (a := v3) (lo := 0) (hi := (i : Int)) (by omega) (by omega)
  omega
 rw [h2, h6, h7, h8, i5];refine find (F := fun j => S0 (sb v3 0 i) (.int (j : Nat)) (cl v3 i 0) (cl v3 i 1) (.int n2) (cl v3 i 3) (cl v3 i 4) (cl v3 i 5) (.int n6) (.int n7) (.int n8)) (n := i) (bad := FM v3 i) (fun j hj => ?_) ?_
 ·show S0 (sb v3 0 i) (.int (j : Nat)) (cl v3 i 0) (cl v3 i 1) (.int n2) (cl v3 i 3) (cl v3 i 4) (cl v3 i 5) (.int n6) (.int n7) (.int n8) = _;rw [ej, hl, ifT (by omega), ifF (by omega), A9 (by omega)]
  simp only [Th (a := v3) (i := i) (j := j) (by omega) hj]
  have e : (D.strEq (cl v3 i 0) (cl v3 j 0) && (D.strEq (cl v3 i 1) (cl v3 j 1) && (decide (n2 = (cl v3 j 2).toInt) && (D.strEq (cl v3 i 3) (cl v3 j 3) && (D.strEq (cl v3 i 4) (cl v3 j 4) && (D.strEq (cl v3 i 5) (cl v3 j 5) && (decide (n6 = (cl v3 j 6).toInt) && (decide (n7 = (cl v3 j 7).toInt) && decide (n8 = (cl v3 j 8).toInt))))))))) = FM v3 i j := by
   unfold FM;rw [h2, h6, h7, h8];simp only [Ag];rw [AZ (a := cl v3 i 0), AZ (a := cl v3 i 1), AZ (a := cl v3 i 3), AZ (a := cl v3 i 4), AZ (a := cl v3 i 5)];rw [OJ (x := n2), OJ (x := n6), OJ (x := n7), OJ (x := n8)];rfl
  rw [e]
 ·show S0 (sb v3 0 i) (.int (i : Nat)) (cl v3 i 0) (cl v3 i 1) (.int n2) (cl v3 i 3) (cl v3 i 4) (cl v3 i 5) (.int n6) (.int n7) (.int n8) = _;rw [ej, hl, ifF (by omega)]
theorem V0 (hs : Dk v3) (hn : len v3 < 1000) (hn1 : len v1 < 1000) (hn2 : len v2 < 1000) {i : Nat} (hi : i < len v3) : GW (.int (len v3 : Nat)) (.int (i : Nat)) v0 v1 v2 v3 = cond (KQ v0 v1 v2 v3 i) (.row [.int 1, .int (i : Nat)]) (GW (.int (len v3 : Nat)) (.int (i + 1 : Nat)) v0 v1 v2 v3) := by
 obtain ⟨n, h6, hd⟩ := dJ hs hn hi;obtain ⟨_, _, _, _, h3, h4⟩ := hs i hi;rw [aP (h0 := rfl) (h1 := rfl) (h2 := rfl), ifT (by omega), ifF (by omega), ifT (by omega)]
 have a1 := D7 (l := v1) (key := cl v3 i 0);have a2 := D7 (l := v2) (key := cl v3 i 5);have d1 : decide ((C6 (cl v3 i 3) : Int) < 4611686018427387904) = true := decide_eq_true (by omega)
 have d2 : decide ((C6 (cl v3 i 4) : Int) < 4611686018427387904) = true := decide_eq_true (by omega)
 have d3 : decide ((len v3 : Int) < i) = false := decide_eq_false (by omega)
 simp only [h6, hd, LW, Ys (v0 := v2) (by omega), X8 (v0 := v1) (by omega), As, Au, Ag, Ai, decide_true, cond_true, cond_false, A9 (i := i) (by omega), decide_eq_true a1, decide_eq_true a2, d1, d2, d3, P6]
 unfold KQ cR;generalize GW (.int (len v3 : Nat)) (.int (i + 1 : Nat)) v0 v1 v2 v3 = X;generalize hY : (D.row [.int 1, .int (i : Nat)]) = Y;cases decide (fd v1 (cl v3 i 0) < 0) <;> cases decide (fd v1 (cl v3 i 1) < 0) <;> cases dup v3 i <;> simp only [cond_true, cond_false, Bool.true_or, Bool.false_or, Bool.not_true, Bool.not_false, Bool.cond_self]
 unfold ZQ;by_cases k1 : (cl v3 i 2).toInt = 1
 ·simp only [ifT k1];cases nm (cl v3 i 3) <;> cases nm (cl v3 i 4) <;> cases D.strEq (cl v3 i 4) v0 <;> simp only [cond_true, cond_false, Bool.true_or, Bool.false_or]
  repeat' (refine MZ (fun h => ?_) (fun h => ?_)) <;> simp only [*, cond_true, cond_false]
 simp only [ifF k1];by_cases k2 : (cl v3 i 2).toInt = 2
 ·simp only [ifT k2];cases nm (cl v3 i 3) <;> cases nm (cl v3 i 4) <;> cases D.strEq (cl v3 i 4) v0 <;> simp only [cond_true, cond_false, Bool.true_or, Bool.false_or]
  repeat' (refine MZ (fun h => ?_) (fun h => ?_)) <;> simp only [*, cond_true, cond_false]
 simp only [ifF k2];by_cases k3 : (cl v3 i 2).toInt = 3
 ·simp only [ifT k3];cases eqC (cl v3 i 3) 0 0 <;> cases eqC (cl v3 i 4) 0 0 <;> cases decide (0 < (cl v1 (fd v1 (cl v3 i 0)) 2).toInt) <;> simp only [cond_true, cond_false, Bool.true_or, Bool.false_or, Bool.and_true, Bool.true_and, Bool.and_false, Bool.false_and, Bool.not_true, Bool.not_false]
  repeat' (refine MZ (fun h => ?_) (fun h => ?_)) <;> simp only [*, cond_true, cond_false]
 simp only [ifF k3];by_cases k4 : (cl v3 i 2).toInt = 4
 ·simp only [ifT k4];cases eqC (cl v3 i 3) 0 0 <;> cases eqC (cl v3 i 4) 0 0 <;> simp only [cond_true, cond_false, Bool.true_or, Bool.false_or, Bool.and_true, Bool.true_and, Bool.and_false, Bool.false_and, Bool.not_true, Bool.not_false]
  repeat' (refine MZ (fun h => ?_) (fun h => ?_)) <;> simp only [*, cond_true, cond_false]
 simp only [ifF k4, cond_true, Bool.true_or]
theorem QR (hs : Dk v3) (hn : len v3 < 1000) (hn1 : len v1 < 1000) (hn2 : len v2 < 1000) (v0 : D) : Jj (.int (len v3 : Nat)) (.int 0) (.int 80) v0 v1 v2 v3 = .row [.int 1, .int (cond (decide (80 < (len v3 : Int))) 80 (fdG (KQ v0 v1 v2 v3) (len v3) 0))] := by
 rw [iG, ifF (by omega)]
 by_cases c : 80 < (len v3 : Int)
 ·rw [ifT c, ifT c]
 rw [ifF c, ifF c];refine find (F := fun i => GW (.int (len v3 : Nat)) (.int (i : Nat)) v0 v1 v2 v3) (n := len v3) (bad := KQ v0 v1 v2 v3) (fun j hj => V0 hs hn hn1 hn2 hj) ?_
 show GW _ (.int (len v3 : Nat)) _ _ _ _ = _;rw [aP (h0 := rfl) (h1 := rfl) (h2 := rfl), ifF (by omega)]
end
end Ct
namespace Ct
open Go Go.AE
section
variable [An]
variable {v0 v1 v2 v3 : D}
def Vk (v2 : D) : Int := cond (decide (4 < (len v2 : Int))) 4 (fdG (Oj v2) (len v2) 0)
def TD (v1 : D) : Int := cond (decide ((len v1 : Int) < 1)) 0 (cond (decide (24 < (len v1 : Int))) 24 (fdG (OS v1) (len v1) 0))
def TB (v0 v1 v2 v3 : D) : Int := cond (decide (80 < (len v3 : Int))) 80 (fdG (KQ v0 v1 v2 v3) (len v3) 0)
def rok (v0 v1 v2 v3 : D) : Bool := nm v0 && (decide (Vk v2 < 0) && (decide (TD v1 < 0) && decide (TB v0 v1 v2 v3 < 0)))
end
end Ct
namespace Ct
open Go Go.AE
def My (l : D) (i : Nat) : Bool := !decide (fdG (fun j => D.strEq (cl l j 0) (cl l i 0)) i 0 < 0)
def Jm (v1 v5 v8 : D) (i : Nat) : Bool := decide (fd v1 (cl v8 i 0) < 0) || (decide (fd v5 (cl v8 i 1) < 0) || My v8 i)
def Jn (v2 v6 v9 : D) (i : Nat) : Bool := decide (fd v6 (cl v9 i 0) < 0) || ((!eqC (cl v9 i 1) 0 0 && decide (fd v2 (cl v9 i 1) < 0)) || (My v9 i || (decide (1000 < (cl v9 i 2).toInt) || decide ((cl v9 i 2).toInt < (-1000)))))
section
variable [An]
variable {v0 v1 v2 v3 v4 v5 v6 v7 v8 v9 : D}
def chk (v0 v1 v2 v3 v4 v5 v6 v7 v8 v9 : D) : D := cond (rok v0 v1 v2 v3) (cond (rok v4 v5 v6 v7) (cond (decide (24 < (len v8 : Int))) (.row [.int 1, .int 24, .int 490])
 (cond (decide (fdG (Jm v1 v5 v8) (len v8) 0 < 0)) (cond (decide (4 < (len v9 : Int))) (.row [.int 1, .int 4, .int 491])
  (cond (decide (fdG (Jn v2 v6 v9) (len v9) 0 < 0)) (.row [.int 1, .int 0, .int 0]) (.row [.int 1, .int (fdG (Jn v2 v6 v9) (len v9) 0).toNat, .int 491])))
  (.row [.int 1, .int (fdG (Jm v1 v5 v8) (len v8) 0).toNat, .int 490]))) (.row [.int 1, .int 0, .int 2])) (.row [.int 1, .int 0, .int 2])
theorem iZ (hn1 : len v1 < 1000) (hn5 : len v5 < 1000) (hn : len v8 < 1000) {b : Bool} : Fw v0 v1 v2 v3 v4 v5 v6 v7 v8 v9 (.bool b) (.int 0) Ax = cond (decide (fdG (Jm v1 v5 v8) (len v8) 0 < 0)) (Fw v0 v1 v2 v3 v4 v5 v6 v7 v8 v9 (.bool b) (.int (len v8 : Nat)) (CM (fun j => cl v8 j 0) (len v8))) (.row [.int 1, .int (fdG (Jm v1 v5 v8) (len v8) 0).toNat, .int 490]) :=
 Hd (F := fun j => Fw v0 v1 v2 v3 v4 v5 v6 v7 v8 v9 (.bool b) (.int (j : Nat)) (CM (fun j => cl v8 j 0) j)) (n := len v8) (bad := Jm v1 v5 v8) (B := fun j => .row [.int 1, .int (j : Nat), .int 490]) fun i hi => by
  show Fw v0 v1 v2 v3 v4 v5 v6 v7 v8 v9 (.bool b) (.int (i : Nat)) (CM (fun j => cl v8 j 0) i) = cond _ _ (Fw v0 v1 v2 v3 v4 v5 v6 v7 v8 v9 (.bool b) (.int (i + 1 : Nat)) (CM (fun j => cl v8 j 0) (i + 1)))
  rw [X2, ifT (by omega), ifF (by omega), A9 (by omega)]
  simp only [NK (v0 := v1) (by omega), NK (v0 := v5) (by omega), As, Au, Ag, Ai, decide_true, cond_true, Og]
  unfold Jm My;cases decide (fd v1 (cl v8 i 0) < 0) <;> cases decide (fd v5 (cl v8 i 1) < 0) <;> simp only [cond_true, cond_false, Bool.true_or, Bool.false_or]
  by_cases q : fdG (fun j => D.strEq (cl v8 j 0) (cl v8 i 0)) i 0 < 0
  ·rw [ifT q, decide_eq_true q];show Fw v0 v1 v2 v3 v4 v5 v6 v7 v8 v9 (.bool b) (.int (i + 1 : Nat)) (ad (CM (fun j => cl v8 j 0) i) (.row [(fun j : Nat => cl v8 j 0) i, .bool true])) = Fw v0 v1 v2 v3 v4 v5 v6 v7 v8 v9 (.bool b) (.int (i + 1 : Nat)) (CM (fun j => cl v8 j 0) (i + 1))
   rw [K7]
  ·have a := EX (p := fun j => D.strEq (cl v8 j 0) (cl v8 i 0)) (k := i) (i := 0)
   rw [ifF q, decide_eq_false q, JO (by omega) (by omega)]
   rfl
theorem Ws {n : Int} {α : Type} {x y z : α} (hz : z = cond (decide (1000 < n) || decide (n < (-1000))) x y) : cond (decide (n < IntKind.wrap .i64 (0 - n))) (cond (decide (1000 < IntKind.wrap .i64 (0 - n))) x (cond (decide (n < (-1000))) x y)) (cond (decide (1000 < n)) x (cond (decide (n < (-1000))) x y)) = z := by
 subst hz;by_cases c : 1000 < n
 ·rw [decide_eq_true c, Bool.true_or, cond_true];by_cases q : n < IntKind.wrap .i64 (0 - n)
  ·rw [ifT q, ifT (by omega)]; rfl
  ·rw [ifF q]; rfl
 rw [decide_eq_false c, Bool.false_or, cond_false];by_cases d : n < -1000
 ·rw [ifT d, Bool.cond_self, Bool.cond_self]
 ·rw [ifF d, B8 (by omega) (by omega), ifF (p := 1000 < 0 - n) (by omega), Bool.cond_self]
theorem jj (hn2 : len v2 < 1000) (hn6 : len v6 < 1000) (hn : len v9 < 1000) {b c d : Bool} {m : Int} : DX v0 v1 v2 v3 v4 v5 v6 v7 v8 v9 (.bool b) (.int m) (.bool c) (.bool d) (.int 0) Ax = cond (decide (fdG (Jn v2 v6 v9) (len v9) 0 < 0)) (DX v0 v1 v2 v3 v4 v5 v6 v7 v8 v9 (.bool b) (.int m) (.bool c) (.bool d) (.int (len v9 : Nat)) (CM (fun j => cl v9 j 0) (len v9))) (.row [.int 1, .int (fdG (Jn v2 v6 v9) (len v9) 0).toNat, .int 491]) :=
 Hd (F := fun j => DX v0 v1 v2 v3 v4 v5 v6 v7 v8 v9 (.bool b) (.int m) (.bool c) (.bool d) (.int (j : Nat)) (CM (fun j => cl v9 j 0) j)) (n := len v9) (bad := Jn v2 v6 v9) (B := fun j => .row [.int 1, .int (j : Nat), .int 491]) fun i hi => by
  show DX v0 v1 v2 v3 v4 v5 v6 v7 v8 v9 (.bool b) (.int m) (.bool c) (.bool d) (.int (i : Nat)) (CM (fun j => cl v9 j 0) i) = cond _ _ (DX v0 v1 v2 v3 v4 v5 v6 v7 v8 v9 (.bool b) (.int m) (.bool c) (.bool d) (.int (i + 1 : Nat)) (CM (fun j => cl v9 j 0) (i + 1)))
  have hs : ad (CM (fun j => cl v9 j 0) i) (.row [cl v9 i 0, .bool true]) = CM (fun j => cl v9 j 0) (i + 1) := K7 (f := fun j => cl v9 j 0)
  rw [Yf, ifT (by omega), ifF (by omega), A9 (by omega)]
  simp only [QY (v0 := v2) (by omega), QY (v0 := v6) (by omega), As, Au, Ag, Ai, decide_true, cond_true, Og, hs]
  unfold Jn My;by_cases q : fdG (fun j => D.strEq (cl v9 j 0) (cl v9 i 0)) i 0 < 0
  ·simp only [ifT q, decide_eq_true q];cases decide (fd v6 (cl v9 i 0) < 0) <;> cases eqC (cl v9 i 1) 0 0 <;> cases decide (fd v2 (cl v9 i 1) < 0) <;> first | rfl | (simp only [cond_true, cond_false, Bool.true_or, Bool.false_or, Bool.not_true, Bool.not_false, Bool.true_and, Bool.false_and]; exact Ws rfl)
  ·have a := EX (p := fun j => D.strEq (cl v9 j 0) (cl v9 i 0)) (k := i) (i := 0)
   simp only [ifF q, decide_eq_false q, JO (f := fun j : Nat => cl v9 j 0) (i := i) (j := fdG (fun j => D.strEq (cl v9 j 0) (cl v9 i 0)) i 0) (by omega) (by omega)]
   cases decide (fd v6 (cl v9 i 0) < 0) <;> cases eqC (cl v9 i 1) 0 0 <;> cases decide (fd v2 (cl v9 i 1) < 0) <;> rfl
theorem ZX (hs : Dk v3) (hs7 : Dk v7) (hn1 : len v1 < 1000) (hn2 : len v2 < 1000) (hn3 : len v3 < 1000) (hn5 : len v5 < 1000) (hn6 : len v6 < 1000) (hn7 : len v7 < 1000) (hn8 : len v8 < 1000) (hn9 : len v9 < 1000) : GD v0 v1 v2 v3 v4 v5 v6 v7 v8 v9 = chk v0 v1 v2 v3 v4 v5 v6 v7 v8 v9 := by
 rw [hZ];simp only [LW, Rb (v2 := v2) hn2, Rb (v2 := v6) hn6, RJ (v1 := v1) hn1, RJ (v1 := v5) hn5, QR hs hn3 hn1 hn2, QR hs7 hn7 hn5 hn6, As, Au, Ag, Ai, decide_true, cond_true, iZ hn1 hn5 hn8];unfold chk rok Vk TD TB;cases nm v0 <;> simp only [cond_true, cond_false, Bool.true_and, Bool.false_and]
 cases decide ((cond (decide (4 < (len v2 : Int))) 4 (fdG (Oj v2) (len v2) 0)) < 0) <;> simp only [cond_true, cond_false, Bool.true_and, Bool.false_and]
 cases decide ((cond (decide ((len v1 : Int) < 1)) 0 (cond (decide (24 < (len v1 : Int))) 24 (fdG (OS v1) (len v1) 0))) < 0) <;> simp only [cond_true, cond_false, Bool.true_and, Bool.false_and]
 cases decide ((cond (decide (80 < (len v3 : Int))) 80 (fdG (KQ v0 v1 v2 v3) (len v3) 0)) < 0) <;> simp only [cond_true, cond_false, Bool.true_and, Bool.false_and]
 cases nm v4 <;> simp only [cond_true, cond_false, Bool.true_and, Bool.false_and]
 cases decide ((cond (decide (4 < (len v6 : Int))) 4 (fdG (Oj v6) (len v6) 0)) < 0) <;> simp only [cond_true, cond_false, Bool.true_and, Bool.false_and]
 cases decide ((cond (decide ((len v5 : Int) < 1)) 0 (cond (decide (24 < (len v5 : Int))) 24 (fdG (OS v5) (len v5) 0))) < 0) <;> simp only [cond_true, cond_false, Bool.true_and, Bool.false_and]
 cases decide ((cond (decide (80 < (len v7 : Int))) 80 (fdG (KQ v4 v5 v6 v7) (len v7) 0)) < 0) <;> simp only [cond_true, cond_false, Bool.true_and, Bool.false_and]
 congr 2
 rw [X2, ifF (by omega), jj hn2 hn6 hn9]
 congr 2
 rw [Yf, ifF (by omega)]
def KI (v9 : D) : Prop := ∀ i : Nat, i < len v9 → ∃ n, cl v9 i 2 = .int n
end
end Ct
namespace Ct
open Go Go.AE
section
variable [An]
variable {v0 v1 v2 v3 v4 v5 v10 v11 : D}
def XS (v11 : D) : Prop := ∀ i : Nat, i < len v11 → ∃ n, cl v11 i 0 = .int n
def kv (v11 : D) (j : Nat) : Int := if j < len v11 then (cl v11 j 0).toInt else 0
theorem XS.at {v11 : D} (h : XS v11) {j : Nat} (hj : j < len v11) : cl v11 j 0 = .int (kv v11 j) := by
 obtain ⟨n, e⟩ := h j hj;unfold kv;rw [if_pos hj, e];rfl
end
end Ct
namespace Ct
open Go Go.AE
def pl (v6 v9 : D) (i : Nat) : Int := fd v6 (cl v9 i 0)
def pv (v2 v9 v11 : D) (i : Nat) : Int := cond (decide (fd v2 (cl v9 i 1) < 0)) (cl v9 i 2).toInt (IntKind.wrap .i64 ((cl v9 i 2).toInt + kv v11 (fd v2 (cl v9 i 1)).toNat))
def vs (v2 v6 v9 v11 : D) (j : Nat) : Nat → Int
 | 0 => 0
 | i + 1 => if pl v6 v9 i = j then pv v2 v9 v11 i else vs v2 v6 v9 v11 j i
theorem Q3 {v2 v6 v9 v11 : D} {j i : Nat} : vs v2 v6 v9 v11 j (i + 1) = if pl v6 v9 i = j then pv v2 v9 v11 i else vs v2 v6 v9 v11 j i := rfl
def LA (v2 v6 v9 v11 : D) (i : Nat) : Bool := decide (pv v2 v9 v11 i < 0) || decide ((cl v6 (pl v6 v9 i) 1).toInt < pv v2 v9 v11 i)
section
variable [An]
variable {v0 v1 v2 v3 v4 v5 v6 v7 v8 v9 v10 v11 : D}
theorem YL {a b c d : Int} {st : Nat} (hn : len v8 < 1000) (h : st < len v1) : Lo v8 v0 v1 v2 v3 (.int (st : Nat)) (.int a) (.int b) (.int c) (.int d) = .row [.int 1, .int (fd v8 (cl v1 st 0))] := by
 rw [g9];refine find (F := fun j => Ma v8 (.int (j : Nat)) v0 v1 v2 v3 (.int (st : Nat)) (.int a) (.int b) (.int c) (.int d)) (n := len v8) (bad := fun j => D.strEq (cl v8 j 0) (cl v1 st 0)) (fun j hj => ?_) ?_
 ·show Ma v8 (.int (j : Nat)) v0 v1 v2 v3 (.int (st : Nat)) (.int a) (.int b) (.int c) (.int d) = _;rw [X5, ifT (by omega), ifF (by omega), A9 (by omega), ifF (by omega), ifT (by omega)]
 ·show Ma v8 (.int (len v8 : Nat)) v0 v1 v2 v3 (.int (st : Nat)) (.int a) (.int b) (.int c) (.int d) = _;rw [X5, ifF (by omega)]
theorem VD {st st' : Int} (hp : KI v9) (hn : len v9 < 1000) (h2 : len v2 ≤ 4) (h6 : len v6 ≤ 4) {i : Nat} (hi : i < len v9) (h0 : 0 ≤ pl v6 v9 i) :
  Br v9 (.int (i : Nat)) v0 v1 v2 v3 v4 v5 v6 v7 (.int st) (.int (kv v11 0)) (.int (kv v11 1)) (.int (kv v11 2)) (.int (kv v11 3)) (.int st') (.int (vs v2 v6 v9 v11 0 i)) (.int (vs v2 v6 v9 v11 1 i)) (.int (vs v2 v6 v9 v11 2 i)) (.int (vs v2 v6 v9 v11 3 i)) =
   cond (LA v2 v6 v9 v11 i) (.row [.int 1, .int 0, .int 0, .int 0, .int 0, .int 0, .int 3]) (Br v9 (.int (i + 1 : Nat)) v0 v1 v2 v3 v4 v5 v6 v7 (.int st) (.int (kv v11 0)) (.int (kv v11 1)) (.int (kv v11 2)) (.int (kv v11 3)) (.int st') (.int (vs v2 v6 v9 v11 0 (i + 1))) (.int (vs v2 v6 v9 v11 1 (i + 1))) (.int (vs v2 v6 v9 v11 2 (i + 1))) (.int (vs v2 v6 v9 v11 3 (i + 1)))) := by
 obtain ⟨n, hv⟩ := hp i hi;have hv' : cl v9 i 2 = .int (cl v9 i 2).toInt := by rw [hv]; rfl
 have l1 : pl v6 v9 i < len v6 := D7;have l2 := D7 (l := v2) (key := cl v9 i 1);have g2 := X9 (l := v2) (key := cl v9 i 1);have hpl : fd v6 (cl v9 i 0) = pl v6 v9 i := rfl;rw [Yq (h0 := rfl), ifT (by omega), ifF (by omega), A9 (by omega)]
 simp only [QY (v0 := v6) (by omega), QY (v0 := v2) (by omega), As, Au, Ag, decide_true, cond_true, hpl, decide_eq_true l1, decide_eq_false (show ¬ pl v6 v9 i < 0 by omega), cond_false]
 have key : ∀ w : Int, pv v2 v9 v11 i = w → cond (decide (w < 0)) (D.row [.int 1, .int 0, .int 0, .int 0, .int 0, .int 0, .int 3]) (cond (decide ((cl v6 (pl v6 v9 i) 1).toInt < w)) (D.row [.int 1, .int 0, .int 0, .int 0, .int 0, .int 0, .int 3])
   (cond (decide (pl v6 v9 i = 0)) (Br v9 (.int (i + 1 : Nat)) v0 v1 v2 v3 v4 v5 v6 v7 (.int st) (.int (kv v11 0)) (.int (kv v11 1)) (.int (kv v11 2)) (.int (kv v11 3)) (.int st') (.int w) (.int (vs v2 v6 v9 v11 1 i)) (.int (vs v2 v6 v9 v11 2 i)) (.int (vs v2 v6 v9 v11 3 i)))
   (cond (decide (pl v6 v9 i = 1)) (Br v9 (.int (i + 1 : Nat)) v0 v1 v2 v3 v4 v5 v6 v7 (.int st) (.int (kv v11 0)) (.int (kv v11 1)) (.int (kv v11 2)) (.int (kv v11 3)) (.int st') (.int (vs v2 v6 v9 v11 0 i)) (.int w) (.int (vs v2 v6 v9 v11 2 i)) (.int (vs v2 v6 v9 v11 3 i)))
   (cond (decide (pl v6 v9 i = 2)) (Br v9 (.int (i + 1 : Nat)) v0 v1 v2 v3 v4 v5 v6 v7 (.int st) (.int (kv v11 0)) (.int (kv v11 1)) (.int (kv v11 2)) (.int (kv v11 3)) (.int st') (.int (vs v2 v6 v9 v11 0 i)) (.int (vs v2 v6 v9 v11 1 i)) (.int w) (.int (vs v2 v6 v9 v11 3 i)))
   (cond (decide (pl v6 v9 i = 3)) (Br v9 (.int (i + 1 : Nat)) v0 v1 v2 v3 v4 v5 v6 v7 (.int st) (.int (kv v11 0)) (.int (kv v11 1)) (.int (kv v11 2)) (.int (kv v11 3)) (.int st') (.int (vs v2 v6 v9 v11 0 i)) (.int (vs v2 v6 v9 v11 1 i)) (.int (vs v2 v6 v9 v11 2 i)) (.int w)) (D.row [])))))) =
   cond (LA v2 v6 v9 v11 i) (.row [.int 1, .int 0, .int 0, .int 0, .int 0, .int 0, .int 3]) (Br v9 (.int (i + 1 : Nat)) v0 v1 v2 v3 v4 v5 v6 v7 (.int st) (.int (kv v11 0)) (.int (kv v11 1)) (.int (kv v11 2)) (.int (kv v11 3)) (.int st') (.int (vs v2 v6 v9 v11 0 (i + 1))) (.int (vs v2 v6 v9 v11 1 (i + 1))) (.int (vs v2 v6 v9 v11 2 (i + 1))) (.int (vs v2 v6 v9 v11 3 (i + 1)))) := by
  intro w hw;unfold LA;simp only [Q3, hw];cases decide (w < 0);rotate_left
  ·rfl
  cases decide ((cl v6 (pl v6 v9 i) 1).toInt < w);rotate_left
  ·rfl
  simp only [cond_false, Bool.false_or];by_cases k0 : pl v6 v9 i = 0
  ·rw [ifT k0, if_pos (by omega), if_neg (by omega), if_neg (by omega), if_neg (by omega)]
  rw [ifF k0];by_cases k1 : pl v6 v9 i = 1
  ·rw [ifT k1, if_neg (by omega), if_pos (by omega), if_neg (by omega), if_neg (by omega)]
  rw [ifF k1];by_cases k2 : pl v6 v9 i = 2
  ·rw [ifT k2, if_neg (by omega), if_neg (by omega), if_pos (by omega), if_neg (by omega)]
  rw [ifF k2];have k3 : pl v6 v9 i = 3 := by omega
  rw [ifT k3, if_neg (by omega), if_neg (by omega), if_neg (by omega), if_pos (by omega)]
 have pvT : fd v2 (cl v9 i 1) < 0 → pv v2 v9 v11 i = (cl v9 i 2).toInt := fun h => ifT h
 have pvF : ∀ m : Nat, fd v2 (cl v9 i 1) = m → pv v2 v9 v11 i = IntKind.wrap .i64 ((cl v9 i 2).toInt + kv v11 m) := fun m h => by
  unfold pv;rw [ifF (by omega), h]
  rfl
 rcases g2 with g | g
 ·rw [ifT (by omega)]
  refine Eq.trans ?_ (key _ (pvT (by omega)))
  rw [← hv']
 rw [ifF (by omega)]
 by_cases k0 : fd v2 (cl v9 i 1) = 0
 ·rw [ifT k0];exact key _ (pvF 0 k0)
 rw [ifF k0];by_cases k1 : fd v2 (cl v9 i 1) = 1
 ·rw [ifT k1];exact key _ (pvF 1 k1)
 rw [ifF k1];by_cases k2 : fd v2 (cl v9 i 1) = 2
 ·rw [ifT k2];exact key _ (pvF 2 k2)
 rw [ifF k2];have k3 : fd v2 (cl v9 i 1) = 3 := by omega
 rw [ifT k3];exact key _ (pvF 3 k3)
theorem YN {st : Nat} (hp : KI v9) (hn5 : len v5 < 1000) (hn8 : len v8 < 1000) (hn : len v9 < 1000) (h2 : len v2 ≤ 4) (h6 : len v6 ≤ 4) (hst : st < len v1) (h0 : ∀ i, i < len v9 → 0 ≤ pl v6 v9 i) :
  L9 v0 v1 v2 v3 v4 v5 v6 v7 v8 v9 (.int (st : Nat)) (.int (kv v11 0)) (.int (kv v11 1)) (.int (kv v11 2)) (.int (kv v11 3)) = cond (decide (fd v8 (cl v1 st 0) < 0)) (.row [.int 1, .int 0, .int 0, .int 0, .int 0, .int 0, .int 9])
   (cond (decide (fdG (LA v2 v6 v9 v11) (len v9) 0 < 0)) (.row [.int 1, .int (fd v5 (cl v8 (fd v8 (cl v1 st 0)) 1)), .int (vs v2 v6 v9 v11 0 (len v9)), .int (vs v2 v6 v9 v11 1 (len v9)), .int (vs v2 v6 v9 v11 2 (len v9)), .int (vs v2 v6 v9 v11 3 (len v9)), .int 0]) (.row [.int 1, .int 0, .int 0, .int 0, .int 0, .int 0, .int 3])) := by
 rw [gI];have l := D7 (l := v8) (key := cl v1 st 0);simp only [YL hn8 hst, NK (v0 := v5) (by omega), As, Au, Ag, decide_true, cond_true, decide_eq_true l]
 congr 1
 have L := Hd (F := fun j => Br v9 (.int (j : Nat)) v0 v1 v2 v3 v4 v5 v6 v7 (.int (st : Nat)) (.int (kv v11 0)) (.int (kv v11 1)) (.int (kv v11 2)) (.int (kv v11 3)) (.int (fd v5 (cl v8 (fd v8 (cl v1 st 0)) 1))) (.int (vs v2 v6 v9 v11 0 j)) (.int (vs v2 v6 v9 v11 1 j)) (.int (vs v2 v6 v9 v11 2 j)) (.int (vs v2 v6 v9 v11 3 j))) (n := len v9) (bad := LA v2 v6 v9 v11) (B := fun _ => .row [.int 1, .int 0, .int 0, .int 0, .int 0, .int 0, .int 3]) (fun j hj => VD hp hn h2 h6 hj (h0 j hj))
 refine L.trans ?_
 congr 1
 show Br v9 (.int (len v9 : Nat)) v0 v1 v2 v3 v4 v5 v6 v7 (.int (st : Nat)) (.int (kv v11 0)) (.int (kv v11 1)) (.int (kv v11 2)) (.int (kv v11 3)) (.int (fd v5 (cl v8 (fd v8 (cl v1 st 0)) 1))) (.int (vs v2 v6 v9 v11 0 (len v9))) (.int (vs v2 v6 v9 v11 1 (len v9))) (.int (vs v2 v6 v9 v11 2 (len v9))) (.int (vs v2 v6 v9 v11 3 (len v9))) = _;rw [Yq (h0 := rfl), ifF (by omega)]
theorem HG {F : Nat → D} {n : Nat} (hs : ∀ j, j < n → F j = F (j + 1)) : F 0 = F n := by
 have := Hd (F := F) (n := n) (bad := fun _ => false) (B := fun _ => .row []) (fun j hj => (hs j hj).trans rfl)
 rw [Dr (fun _ _ _ => rfl)] at this
 exact this
end
end Ct
namespace Ct
open Go Go.AE
section
variable [An]
variable {v0 v1 v2 v3 v4 v5 v6 v7 v8 v9 v10 v11 v13 : D}
theorem fB {j i : Nat} : vs v2 v6 v9 v11 j i = 0 ∨ ∃ k, k < i ∧ pl v6 v9 k = j ∧ vs v2 v6 v9 v11 j i = pv v2 v9 v11 k := by
 induction i with
 | zero => exact .inl rfl
 | succ i ih =>
  rw [Q3];by_cases c : pl v6 v9 i = j
  ·rw [if_pos c];exact .inr ⟨i, by omega, c, rfl⟩
  ·rw [if_neg c];rcases ih with h | ⟨k, h1, h2, h3⟩
   ·exact .inl h
   ·exact .inr ⟨k, by omega, h2, h3⟩
end
end Ct
namespace Ct
open Go Go.AE
structure Rk (S C T : D) : Prop where
 s0 : 0 < len S
 s1 : len S < 1000
 c1 : len C ≤ 4
 t1 : len T ≤ 20
 sid : ∀ i : Nat, i < len S → fd S (cl S i 0) = i
 cid : ∀ i : Nat, i < len C → fd C (cl C i 0) = i
 lim : ∀ i : Nat, i < len C → 1 ≤ (cl C i 1).toInt ∧ (cl C i 1).toInt ≤ 1000
 cne : ∀ i : Nat, i < len C → eqC (cl C i 0) 0 0 = false
 cI : ∀ i : Nat, i < len C → ∃ m, cl C i 1 = .int m
 tI : Dk T
 frm : ∀ i : Nat, i < len T → 0 ≤ fd S (cl T i 0)
 to : ∀ i : Nat, i < len T → 0 ≤ fd S (cl T i 1)
 ctr : ∀ i : Nat, i < len T → (eqC (cl T i 5) 0 0 = true ∧ fd C (cl T i 5) = -1) ∨ (eqC (cl T i 5) 0 0 = false ∧ 0 ≤ fd C (cl T i 5) ∧ 0 ≤ (cl T i 6).toInt ∧ (cl T i 6).toInt ≤ (cl T i 7).toInt ∧
  (cl T i 7).toInt ≤ (cl C (fd C (cl T i 5)) 1).toInt ∧ -1000 ≤ (cl T i 8).toInt ∧ (cl T i 8).toInt ≤ 1000 ∧ 0 ≤ (cl T i 6).toInt + (cl T i 8).toInt ∧ (cl T i 7).toInt + (cl T i 8).toInt ≤ (cl C (fd C (cl T i 5)) 1).toInt)
section
variable [An]
theorem P4 {v0 S C T : D} (h : rok v0 S C T = true) (hc : ∀ i : Nat, i < len C → ∃ m, cl C i 1 = .int m) (ht : Dk T) (hS : len S ≤ 8) (hT : len T ≤ 20) : Rk S C T := by
 unfold rok at h;simp only [Bool.and_eq_true] at h;obtain ⟨_, h1, h2, h3⟩ := h;unfold Vk at h1;unfold TD at h2;unfold TB at h3;by_cases c1 : 4 < (len C : Int)
 ·rw [ifT c1] at h1; cases h1
 rw [ifF c1] at h1;by_cases c2 : (len S : Int) < 1
 ·rw [ifT c2] at h2; cases h2
 rw [ifF c2, ifF (by omega)] at h2
 rw [ifF (by omega)] at h3
 have B1 : ∀ i, i < len C → Oj C i = false := fun i hi => EW (k := len C) (i := 0) (by omega) (.inr ⟨dT h1, by omega⟩)
 have B2 : ∀ i, i < len S → OS S i = false := fun i hi => EW (k := len S) (i := 0) (by omega) (.inr ⟨dT h2, by omega⟩)
 have B3 : ∀ i, i < len T → KQ v0 S C T i = false := fun i hi => EW (k := len T) (i := 0) (by omega) (.inr ⟨dT h3, by omega⟩)
 have E1 : ∀ i, i < len C → nm (cl C i 0) = true ∧ fd C (cl C i 0) = i ∧ 1 ≤ (cl C i 1).toInt ∧ (cl C i 1).toInt ≤ 1000 := fun i hi => by
  have b := B1 i hi;unfold Oj at b;simp only [Bool.or_eq_false_iff, Bool.not_eq_false'] at b;have s := QW hi;have b2 := dF b.1.1.2;have b3 := dF b.1.2;have b4 := dF b.2;exact ⟨b.1.1.1, by omega, by omega, by omega⟩
 have ne : ∀ i, i < len C → eqC (cl C i 0) 0 0 = false := fun i hi => by
  rw [Ez];have := YK (E1 i hi).1;exact decide_eq_false (by omega)
 refine ⟨by omega, by omega, by omega, hT, fun i hi => ?_, fun i hi => (E1 i hi).2.1, fun i hi => (E1 i hi).2.2, ne, hc, ht, fun i hi => ?_, fun i hi => ?_, fun i hi => ?_⟩
 ·have b := B2 i hi;unfold OS at b;simp only [Bool.or_eq_false_iff] at b;have s := QW hi;have b2 := dF b.1.1.2;omega
 ·have b := B3 i hi;unfold KQ at b;simp only [Bool.or_eq_false_iff] at b;exact Int.not_lt.1 (dF b.1)
 ·have b := B3 i hi;unfold KQ at b;simp only [Bool.or_eq_false_iff] at b;exact Int.not_lt.1 (dF b.2.1)
 ·have b := B3 i hi;unfold KQ at b;simp only [Bool.or_eq_false_iff] at b;have b := b.2.2.2.2;unfold ZQ at b;cases hz : eqC (cl T i 5) 0 0
  ·right;rw [hz] at b;simp only [cond_false] at b;by_cases d1 : fd C (cl T i 5) < 0
   ·rw [ifT d1] at b; cases b
   rw [ifF d1] at b;by_cases d2 : (cl T i 6).toInt < 0
   ·rw [ifT d2] at b; cases b
   rw [ifF d2] at b;by_cases d3 : (cl T i 7).toInt < (cl T i 6).toInt
   ·rw [ifT d3] at b; cases b
   rw [ifF d3] at b;by_cases d4 : (cl T i 8).toInt < -1000
   ·rw [ifT d4] at b; cases b
   rw [ifF d4] at b;by_cases d5 : 1000 < (cl T i 8).toInt
   ·rw [ifT d5] at b; cases b
   rw [ifF d5] at b;by_cases d6 : (cl C (fd C (cl T i 5)) 1).toInt < (cl T i 7).toInt
   ·rw [ifT d6] at b; cases b
   rw [ifF d6] at b;have lt := D7 (l := C) (key := cl T i 5);have l := E1 (fd C (cl T i 5)).toNat (by omega)
   rw [show (((fd C (cl T i 5)).toNat : Nat) : Int) = fd C (cl T i 5) by omega] at l
   rw [B8 (by omega) (by omega), B8 (by omega) (by omega)] at b
   by_cases d7 : (cl T i 6).toInt + (cl T i 8).toInt < 0
   ·rw [ifT d7] at b; cases b
   rw [ifF d7] at b;by_cases d8 : (cl C (fd C (cl T i 5)) 1).toInt < (cl T i 7).toInt + (cl T i 8).toInt
   ·rw [ifT d8] at b; cases b
   exact ⟨rfl, by omega, by omega, by omega, by omega, by omega, by omega, by omega, by omega⟩
  ·left;refine ⟨rfl, ?_⟩;rcases X9 (l := C) (key := cl T i 5) with g | g
   ·exact g
   exfalso
   have lt := D7 (l := C) (key := cl T i 5);have s := aB g
   have e : eqC (cl C (fd C (cl T i 5)) 0) 0 0 = eqC (cl T i 5) 0 0 := by
    rw [Ez, Ez];unfold C6;rw [D4.1 s]
   have l := ne (fd C (cl T i 5)).toNat (by omega)
   rw [show (((fd C (cl T i 5)).toNat : Nat) : Int) = fd C (cl T i 5) by omega] at l
   rw [e, hz] at l;cases l
end
abbrev Key := Int × Int × Int × Int × Int
def kc (k : Key) : Nat → Int
 | 0 => k.2.1
 | 1 => k.2.2.1
 | 2 => k.2.2.2.1
 | 3 => k.2.2.2.2
 | _ => 0
structure KOk (S C : D) (k : Key) : Prop where
 s0 : 0 ≤ k.1
 s1 : k.1 < len S
 v0 : ∀ j : Nat, j < len C → 0 ≤ kc k j ∧ kc k j ≤ (cl C j 1).toInt
 v1 : ∀ j : Nat, len C ≤ j → kc k j = 0
def en (S C T : D) (k : Key) (s : Nat) : Bool := D.strEq (cl T s 0) (cl S k.1 0) && (decide (fd C (cl T s 5) < 0) || (!decide (kc k (fd C (cl T s 5)).toNat < (cl T s 6).toInt) && !decide ((cl T s 7).toInt < kc k (fd C (cl T s 5)).toNat)))
def nv (C T : D) (k : Key) (s j : Nat) : Int := if fd C (cl T s 5) = j then kc k j + (cl T s 8).toInt else kc k j
def nx (S C T : D) (k : Key) (s : Nat) : Key := (fd S (cl T s 1), nv C T k s 0, nv C T k s 1, nv C T k s 2, nv C T k s 3)
theorem Rj {S C T : D} {k : Key} {s j : Nat} (h : j < 4) : kc (nx S C T k s) j = nv C T k s j := by
 match j, h with
 | 0, _ => rfl
 | 1, _ => rfl
 | 2, _ => rfl
 | 3, _ => rfl
theorem Vj {k : Key} {j : Nat} (h : 4 ≤ j) : kc k j = 0 := by
 match j, h with
 | j + 4, _ => rfl
theorem WJ {k k' : Key} (h : k.1 = k'.1) (hv : ∀ j, j < 4 → kc k j = kc k' j) : k = k' := by
 obtain ⟨a, b, c, d, e⟩ := k;obtain ⟨a', b', c', d', e'⟩ := k';have h0 := hv 0 (by omega)
 have h1 := hv 1 (by omega)
 have h2 := hv 2 (by omega)
 have h3 := hv 3 (by omega)
 simp only [kc] at h0 h1 h2 h3;simp only at h;subst h h0 h1 h2 h3;rfl
theorem GI {S C T : D} (hR : Rk S C T) {k : Key} (hk : KOk S C k) {s : Nat} (hs : s < len T) (he : en S C T k s = true) : KOk S C (nx S C T k s) := by
 have hc1 := hR.c1;have lt := D7 (l := S) (key := cl T s 1);have ltc := D7 (l := C) (key := cl T s 5);refine ⟨hR.to s hs, lt, fun j hj => ?_, fun j hj => ?_⟩
 ·rw [Rj (by omega)]
  unfold nv;have b := hk.v0 j hj;by_cases c : fd C (cl T s 5) = j
  ·rw [if_pos c];unfold en at he;simp only [Bool.and_eq_true, Bool.or_eq_true, Bool.not_eq_true', decide_eq_true_eq] at he;obtain ⟨_, he⟩ := he;rcases he with he | ⟨h1, h2⟩
   ·omega
   ·have h1 := dF h1;have h2 := dF h2;rw [c] at h1 h2;rcases hR.ctr s hs with ⟨_, q⟩ | ⟨_, q1, q2, q3, q4, q5, q6, q7, q8⟩
    ·omega
    ·rw [c] at q4 q8;have e : (j : Int).toNat = j := by omega
     rw [e] at h1 h2;omega
  ·rw [if_neg c];exact b
 ·by_cases c : j < 4
  ·rw [Rj c];unfold nv;rw [if_neg (by omega)]
   exact hk.v1 j hj
  ·exact Vj (by omega)
end Ct
namespace Ct
open Go Go.AE
def bkR (C : D) (g : Nat → Int) (i : Nat) : List D := (List.range i).map fun (j : Nat) => .row [cl C j 0, cl C j 1, .int (g j)]
def bk (C : D) (g : Nat → Int) (i : Nat) : D := .slc (decide (i = 0)) (bkR C g i)
theorem Wt {C : D} {g : Nat → Int} {n j : Nat} {h : j < (bkR C g n).length} : (bkR C g n)[j]'h = .row [cl C j 0, cl C j 1, .int (g j)] := by simp [bkR]
theorem BW {C : D} {g : Nat → Int} {i : Nat} : len (bk C g i) = i := by unfold bk bkR len; simp [D.rows]
theorem K0 {C : D} {g : Nat → Int} {i j c : Nat} (h : j < i) : cl (bk C g i) j c = ([cl C j 0, cl C j 1, .int (g j)] : List D).getD c default := by
 show ((((List.range i).map fun (j : Nat) => D.row [cl C j 0, cl C j 1, .int (g j)])[j]?).getD default).cells.getD c default = _
 rw [List.getElem?_map, List.getElem?_range h];rfl
theorem fJ {C : D} {g : Nat → Int} {i : Nat} (h : g i = 0) {m : Int} (hm : cl C i 1 = .int m) : ad (bk C g i) (.row [cl C i 0, cl C i 1, .int 0]) = bk C g (i + 1) := by
 show D.slc false (bkR C g i ++ [_]) = D.slc (decide (i + 1 = 0)) (bkR C g (i + 1));unfold bkR;rw [List.range_succ, List.map_append, decide_eq_false (by omega)]
 simp [h]
theorem Up {C key : D} {g : Nat → Int} : fd (bk C g (len C)) key = fd C key := by
 unfold fd;rw [BW];refine Dl fun j _ hj => ?_
 show D.strEq (cl (bk C g (len C)) j 0) key = D.strEq (cl C j 0) key;rw [K0 (by omega)]
 rfl
theorem TL {C : D} {g : Nat → Int} {n i : Nat} {x : Int} (h : i < n) : upd (bk C g n) i 2 (.int x) = bk C (fun j => if j = i then x else g j) n := by
 show D.slc (decide (n = 0)) (List.modify (bkR C g n) i _) = .slc (decide (n = 0)) (bkR C _ n)
 congr 1
 refine List.ext_getElem (by simp [bkR]) fun j h1 h2 => ?_
 rw [List.getElem_modify];simp only [Wt];by_cases q : i = j
 ·rw [if_pos q, if_pos q.symm];rfl
 ·rw [if_neg q, if_neg (fun c : j = i => q c.symm)]
theorem FX {C : D} {g g' : Nat → Int} {n : Nat} (h : ∀ j, j < n → g j = g' j) : bk C g n = bk C g' n := by
 unfold bk bkR
 congr 1
 refine List.map_congr_left fun j hj => ?_
 rw [h j (List.mem_range.1 hj)]
section
variable [An]
variable {S C T v0 : D}
theorem Nd {l : D} {b : Bool} (hn : len l < 4611686018427387904) (k : D) : Dy l (.bool b) k = .row [.int 1, .int (fd l k)] := (fO ..).trans (EJ (F := fun i => QM l (.bool b) (.int i) k) hn fun i => bY ..)
theorem ZU (hR : Rk S C T) : TX C = .row [.int 2, bk C (fun _ => 0) (len C), .bool (decide (len C = 0))] := by
 have hc := hR.c1;rw [eo, ifF (by omega)]
 have L := Hd (F := fun i => Jd C (.int (i : Nat)) (bk C (fun _ => 0) i) (.bool (decide (i = 0)))) (n := len C) (bad := fun _ => false) (B := fun _ => .row []) (fun i hi => by
  show Jd C (.int (i : Nat)) (bk C (fun _ => 0) i) (.bool (decide (i = 0))) = Jd C (.int (i + 1 : Nat)) (bk C (fun _ => 0) (i + 1)) (.bool (decide (i + 1 = 0)))
  have l := hR.lim i hi;obtain ⟨m, hm⟩ := hR.cI i hi
  have hf : fd (bk C (fun _ => 0) i) (cl C i 0) < 0 := by
   have : fd (bk C (fun _ => 0) i) (cl C i 0) = -1 := by
    unfold fd;rw [BW];refine Dr fun j _ hj => ?_
    rw [K0 (by omega)]
    have n := EW (p := fun j => D.strEq (cl C j 0) (cl C i 0)) (k := len C) (i := 0) (j := j) (by omega) (.inl (by have := hR.cid i hi; unfold fd at this; omega))
    exact n
   omega
  rw [XM, ifT (by omega), ifF (by omega), hR.cne i hi, cond_false, ifF (by omega), ifF (by omega), Nd (by rw [BW]; omega)]
  dsimp +instances only [As, Au, Ag];rw [ifT rfl, ifT hf, BW, ifT (by omega), A9 (by omega), fJ (g := fun _ => 0) rfl hm, decide_eq_false (by omega)])
 refine (show Jd C (.int 0) AT (.bool true) = _ from L).trans ?_
 show cond _ (Jd C (.int (len C : Nat)) (bk C (fun _ => 0) (len C)) (.bool (decide (len C = 0)))) _ = _
 rw [Dr (fun _ _ _ => rfl), ifT (by omega), XM, ifF (by omega)]
theorem J3 (hR : Rk S C T) {k : Key} (hk : KOk S C k) {vals : D} {b : Bool} (hl : len vals = len C) (hv : ∀ j : Nat, j < len C → cl vals j 0 = .int (kc k j)) : Fl (.bool true) (bk C (fun _ => 0) (len C)) (.bool b) vals = .row [.int 1, .int 0, bk C (kc k) (len C)] := by
 have hc := hR.c1;rw [dA, cond_true, BW, ifT (by omega)]
 have L := Hd (F := fun i => IN vals (.int (i : Nat)) (.bool true) (bk C (fun _ => 0) (len C)) (.bool b)) (n := len C) (bad := fun _ => false) (B := fun _ => .row []) (fun i hi => by
  show IN vals (.int (i : Nat)) (.bool true) (bk C (fun _ => 0) (len C)) (.bool b) = IN vals (.int (i + 1 : Nat)) (.bool true) (bk C (fun _ => 0) (len C)) (.bool b)
  have q := hk.v0 i hi;rw [XZ, ifT (by omega), ifF (by omega), hv i hi, Ag, ifF (by omega), BW, ifT (by omega), K0 hi]
  show cond (decide ((cl C i 1).toInt < _)) _ _ = _;rw [ifF (by omega), A9 (by omega)])
 refine (show IN vals (.int 0) (.bool true) (bk C (fun _ => 0) (len C)) (.bool b) = _ from L).trans ?_
 show cond _ (IN vals (.int (len C : Nat)) (.bool true) (bk C (fun _ => 0) (len C)) (.bool b)) _ = _
 rw [Dr (fun _ _ _ => rfl), ifT (by omega), XZ, ifF (by omega), hl]
 have L := Hd (F := fun i => I1 vals (.int (len C : Nat)) (.int (i : Nat)) (.bool true) (bk C (fun j => if j < i then kc k j else 0) (len C)) (.bool b)) (n := len C) (bad := fun _ => false) (B := fun _ => .row []) (fun i hi => by
  show I1 vals (.int (len C : Nat)) (.int (i : Nat)) (.bool true) (bk C (fun j => if j < i then kc k j else 0) (len C)) (.bool b) = I1 vals (.int (len C : Nat)) (.int (i + 1 : Nat)) (.bool true) (bk C (fun j => if j < i + 1 then kc k j else 0) (len C)) (.bool b)
  rw [XT, ifT (by omega), ifF (by omega), ifT (by omega), BW, ifT (by omega), hv i hi, TL hi, A9 (by omega)]
  congr 1
  refine FX fun j hj => ?_
  by_cases c : j = i
  ·rw [if_pos c, if_pos (by omega), c]
  ·rw [if_neg c];by_cases d : j < i
   ·rw [if_pos d, if_pos (by omega)]
   ·rw [if_neg d, if_neg (by omega)])
 refine ((by
  have e : bk C (fun j => if j < 0 then kc k j else 0) (len C) = bk C (fun _ => 0) (len C) := FX fun j _ => if_neg (by omega)
  rw [← e];exact L) : I1 vals (.int (len C : Nat)) (.int 0) (.bool true) (bk C (fun _ => 0) (len C)) (.bool b) = cond (decide (fdG (fun _ => false) (len C) 0 < 0)) (I1 vals (.int (len C : Nat)) (.int (len C : Nat)) (.bool true) (bk C (fun j => if j < len C then kc k j else 0) (len C)) (.bool b)) (.row [])).trans ?_
 rw [Dr (fun _ _ _ => rfl), ifT (by omega), XT, ifF (by omega), FX (g' := kc k) fun j hj => if_pos hj]
theorem TF (hR : Rk S C T) {k : Key} (hk : KOk S C k) : II (.int k.1) (.int k.2.1) (.int k.2.2.1) (.int k.2.2.2.1) (.int k.2.2.2.2) v0 S C T = .row [.int 2, .int (len C : Nat), .bool (decide (len C = 0)), bk C (kc k) (len C)] := by
 have hc := hR.c1;rw [di (h0 := rfl)];simp only [ZU hR, As, Au, Ag, Int.reduceEq, decide_false, decide_true, cond_true, cond_false, BW];by_cases n0 : (len C : Int) = 0
 ·rw [ifT n0, J3 hR hk (by rw [AX]; omega) (fun j hj => by omega)]
  rfl
 rw [ifF n0];by_cases n1 : (len C : Int) = 1
 ·rw [ifT n1, J3 hR hk (by rw [AR, AX]; omega) (fun j hj => by
   match j with
   | 0 => rfl
   | j + 1 => omega)]
  rfl
 rw [ifF n1];by_cases n2 : (len C : Int) = 2
 ·rw [ifT n2, J3 hR hk (by rw [AR, AR, AX]; omega) (fun j hj => by
   match j with
   | 0 => rfl
   | 1 => rfl
   | j + 2 => omega)]
  rfl
 rw [ifF n2];by_cases n3 : (len C : Int) = 3
 ·rw [ifT n3, J3 hR hk (by rw [AR, AR, AR, AX]; omega) (fun j hj => by
   match j with
   | 0 => rfl
   | 1 => rfl
   | 2 => rfl
   | j + 3 => omega)]
  rfl
 rw [ifF n3];have n4 : (len C : Int) = 4 := by omega
 rw [ifT n4, J3 hR hk (by rw [AR, AR, AR, AR, AX]; omega) (fun j hj => by
   match j with
   | 0 => rfl
   | 1 => rfl
   | 2 => rfl
   | 3 => rfl
   | j + 4 => omega)]
 rfl
theorem Zk (hR : Rk S C T) {g : Nat → Int} {b : Bool} {key : D} (h : 0 ≤ fd C key) : H2 (.bool true) (bk C g (len C)) (.bool b) key = .row [.int 1, .int (g (fd C key).toNat), .int 0] := by
 have hc := hR.c1;have lt := D7 (l := C) (key := key);rw [gq, cond_true, Nd (by rw [BW]; omega), Up]
 dsimp +instances only [As, Au, Ag];rw [ifT rfl, ifF (by omega), BW, ifT (by omega)]
 have e : fd C key = ((fd C key).toNat : Nat) := by omega
 have q := K0 (C := C) (g := g) (i := len C) (j := (fd C key).toNat) (c := 2) (by omega)
 rw [← e] at q;rw [q];rfl
def al (C T : D) (k : Key) (s : Nat) : Bool := decide (fd C (cl T s 5) < 0) || (!decide (kc k (fd C (cl T s 5)).toNat < (cl T s 6).toInt) && !decide ((cl T s 7).toInt < kc k (fd C (cl T s 5)).toNat))
theorem T2 (hR : Rk S C T) {k : Key} (hk : KOk S C k) {b : Bool} {s : Nat} (hs : s < len T) : JW (.bool true) (bk C (kc k) (len C)) (.bool b) (cl T s 0) (cl T s 1) (cl T s 2) (cl T s 3) (cl T s 4) (cl T s 5) (cl T s 6) (cl T s 7) (cl T s 8) = .row [.int 1, .bool (al C T k s), .int 0] := by
 have hc := hR.c1;obtain ⟨⟨n2, h2⟩, ⟨n6, h6⟩, ⟨n7, h7⟩, ⟨n8, h8⟩, _⟩ := hR.tI s hs;have ct := hR.ctr s hs;rw [h6, h7, h8] at ct;rw [h2, h6, h7, h8, aQ, cond_true];simp only [Ag] at ct ⊢;rcases ct with ⟨z, q⟩ | ⟨z, q1, q2, q3, q4, q5, q6, q7, q8⟩
 ·rw [z, cond_true];unfold al;rw [q];rfl
 ·have lt := D7 (l := C) (key := cl T s 5);have e : fd C (cl T s 5) = ((fd C (cl T s 5)).toNat : Nat) := by omega
  have kv := hk.v0 (fd C (cl T s 5)).toNat (by omega)
  rw [← e] at kv;rw [z, cond_false];have lim := hR.lim (fd C (cl T s 5)).toNat (by omega)
  rw [← e] at lim;simp only [Zk hR q1, Nd (l := bk C (kc k) (len C)) (by rw [BW]; omega), Up, As, Au, Ag, decide_true, cond_true, BW]
  have cq := K0 (C := C) (g := kc k) (i := len C) (j := (fd C (cl T s 5)).toNat) (c := 1) (by omega)
  rw [← e] at cq;rw [cq];show cond (decide (fd C (cl T s 5) < 0)) _ _ = _;rw [ifF (by omega), ifT (by omega)]
  have A : al C T k s = (!decide (kc k (fd C (cl T s 5)).toNat < n6) && !decide (n7 < kc k (fd C (cl T s 5)).toNat)) := by
   unfold al;rw [h6, h7, decide_eq_false (show ¬ fd C (cl T s 5) < 0 by omega), Bool.false_or]
   rfl
  rw [A];by_cases a1 : kc k (fd C (cl T s 5)).toNat < n6
  ·rw [ifT (by exact a1), decide_eq_true a1]
   rfl
  rw [ifF (by exact a1), decide_eq_false a1]
  by_cases a2 : n7 < kc k (fd C (cl T s 5)).toNat
  ·rw [ifT (by exact a2), decide_eq_true a2]
   rfl
  rw [ifF (by exact a2), decide_eq_false a2, B8 (by omega) (by omega), ifF (by omega)]
  show D.row [.int 1, .bool (!decide (IntKind.wrap .i64 ((cl C (fd C (cl T s 5)) 1).toInt - kc k (fd C (cl T s 5)).toNat) < n8)), .int 0] = _;rw [B8 (by omega) (by omega), decide_eq_false (by omega)]
  rfl
end
end Ct
namespace Ct
open Go Go.AE
def Aw (l : List Nat) : D := .slc l.isEmpty (l.map fun s => .row [.int (s : Nat)])
theorem AQ {l : List Nat} : len (Aw l) = l.length := by unfold Aw len; simp [D.rows]
theorem JG {l : List Nat} {s : Nat} : ad (Aw l) (.row [.int s]) = Aw (l ++ [s]) := by
 unfold Aw ad;simp [D.rows]
theorem Cv {l : List Nat} {j s : Nat} (h : l[j]? = some s) : cl (Aw l) j 0 = .int s := by
 show (((l.map fun (s : Nat) => D.row [.int s])[j]?).getD default).cells.getD 0 default = _
 rw [List.getElem?_map, h];rfl
theorem Pv {F : List Nat → Nat → D} {p : Nat → Bool} {n : Nat} : ∀ {k i : Nat} {acc : List Nat}, i + k = n → acc.length ≤ i → (∀ (acc : List Nat) (j : Nat), j < n → acc.length ≤ j → F acc j = cond (p j) (F (acc ++ [j]) (j + 1)) (F acc (j + 1))) → F acc i = F (acc ++ (List.range' i k).filter p) n
 | 0, i, acc => fun h _ _ => by
  have : i = n := by omega
  subst this;simp
 | k + 1, i, acc => fun h ha hs => by
  rw [hs acc i (by omega) ha, List.range'_succ]
  cases q : p i
  ·rw [cond_false, Pv (k := k) (i := i + 1) (by omega) (by omega) hs, List.filter_cons_of_neg (by simp [q])]
  ·rw [cond_true, Pv (k := k) (i := i + 1) (by omega) (by simp; omega) hs, List.filter_cons_of_pos (by simp [q]), List.append_assoc]
   rfl
def enl (S C T : D) (k : Key) : List Nat := (List.range' 0 (len T)).filter (en S C T k)
theorem Bv {S C T : D} {k : Key} {s : Nat} (h : s ∈ enl S C T k) : s < len T ∧ en S C T k s = true := by
 have := List.mem_filter.1 h;have m := List.mem_range'.1 this.1;exact ⟨by omega, this.2⟩
theorem DO {S C T : D} {k : Key} : (enl S C T k).length ≤ len T := by
 have := List.length_filter_le (en S C T k) (List.range' 0 (len T));unfold enl;simpa using this
section
variable [An]
variable {S C T v0 : D}
theorem Nn (hR : Rk S C T) {k : Key} (hk : KOk S C k) : Fx (.int k.1) (.int k.2.1) (.int k.2.2.1) (.int k.2.2.2.1) (.int k.2.2.2.2) v0 S C T = .row [.int 1, Aw (enl S C T k), .bool (enl S C T k).isEmpty] := by
 have hc := hR.c1;have ht := hR.t1;have h0 := hk.s0;have h1 := hk.s1;rw [cn, TF hR hk];dsimp +instances only [As, Au, Ag];rw [ifF (by omega), ifT (by rfl)]
 have G := Pv (F := fun acc i => F5 (Aw acc) (.bool acc.isEmpty) T (.int (i : Nat)) (.int k.1) (.int k.2.1) (.int k.2.2.1) (.int k.2.2.2.1) (.int k.2.2.2.2) v0 S C (.int (len C : Nat)) (.bool (decide (len C = 0))) (bk C (kc k) (len C))) (p := en S C T k) (n := len T) (k := len T) (i := 0) (acc := []) (by omega) (Nat.le_refl _) (fun acc j hj ha => by
  show F5 (Aw acc) (.bool acc.isEmpty) T (.int (j : Nat)) (.int k.1) (.int k.2.1) (.int k.2.2.1) (.int k.2.2.2.1) (.int k.2.2.2.2) v0 S C (.int (len C : Nat)) (.bool (decide (len C = 0))) (bk C (kc k) (len C)) =
   cond (en S C T k j) (F5 (Aw (acc ++ [j])) (.bool (acc ++ [j]).isEmpty) T (.int (j + 1 : Nat)) (.int k.1) (.int k.2.1) (.int k.2.2.1) (.int k.2.2.2.1) (.int k.2.2.2.2) v0 S C (.int (len C : Nat)) (.bool (decide (len C = 0))) (bk C (kc k) (len C)))
    (F5 (Aw acc) (.bool acc.isEmpty) T (.int (j + 1 : Nat)) (.int k.1) (.int k.2.1) (.int k.2.2.1) (.int k.2.2.2.1) (.int k.2.2.2.2) v0 S C (.int (len C : Nat)) (.bool (decide (len C = 0))) (bk C (kc k) (len C)))
  rw [XP (h0 := rfl), ifT (by omega), ifF (by omega), BW, ifT (by rfl), T2 hR hk hj]
  dsimp +instances only [As, Au, Ag, Ai];rw [ifT (by rfl), ifF (by omega), ifT (by omega), A9 (by omega), AQ, ifT (by omega), JG]
  have e : en S C T k j = (D.strEq (cl T j 0) (cl S k.1 0) && al C T k j) := rfl;rw [e];have e2 : (acc ++ [j]).isEmpty = false := by simp
  rw [e2];cases al C T k j <;> cases D.strEq (cl T j 0) (cl S k.1 0) <;> rfl)
 have G : F5 AT (.bool true) T (.int 0) (.int k.1) (.int k.2.1) (.int k.2.2.1) (.int k.2.2.2.1) (.int k.2.2.2.2) v0 S C (.int (len C : Nat)) (.bool (decide (len C = 0))) (bk C (kc k) (len C)) = F5 (Aw (enl S C T k)) (.bool (enl S C T k).isEmpty) T (.int (len T : Nat)) (.int k.1) (.int k.2.1) (.int k.2.2.1) (.int k.2.2.2.1) (.int k.2.2.2.2) v0 S C (.int (len C : Nat)) (.bool (decide (len C = 0))) (bk C (kc k) (len C)) := G;rw [G, XP (h0 := rfl), ifF (by omega)]
structure Cf (S C : D) (k : Key) (t x : D) : Prop where
 t : D.strEq (cl S k.1 0) t = true
 l : len x = len C
 v : ∀ j : Nat, j < len C → (cl x j 0).toInt = kc k j
 w : Wd x 1
end
end Ct
namespace Ct
open Go Go.AE
theorem N4 {ks : List Kd} {k : List D} : ∀ (rs l : List D), D1 ks k rs l.length = fdG (fun i => BX ks (((l ++ rs).getD i default).cells) k) rs.length l.length
 | [], l => rfl
 | r :: rs, l => by
  rw [D1, List.length_cons, fdG];have e : ((l ++ r :: rs).getD l.length default) = r := by simp
  have i2 := N4 (ks := ks) (k := k) rs (l ++ [r]);rw [List.length_append, List.append_assoc] at i2;have i2 : D1 ks k rs (l.length + 1) = fdG (fun i => BX ks (((l ++ r :: rs).getD i default).cells) k) rs.length (l.length + 1) := i2
  rw [e, i2];cases BX ks r.cells k <;> rfl
theorem RM {ks : List Kd} {a k : D} : mIx ks a k = fdG (fun i => BX ks ((a.rows.getD i default).cells) k.cells) (len a) 0 := N4 (ks := ks) (k := k.cells) a.rows []
abbrev K5 : List Kd := [.int .i64, .int .i64, .int .i64, .int .i64, .int .i64]
def Fs (k : Key) : List D := [.int k.1, .int k.2.1, .int k.2.2.1, .int k.2.2.2.1, .int k.2.2.2.2]
def A7 (ks : List Key) : D := .slc ks.isEmpty (ks.map fun k => .row (Fs k))
def Cl (ks : List Key) : D := .slc false (ks.map fun k => .row (Fs k ++ [.bool true]))
theorem Dc {ks : List Key} : len (A7 ks) = ks.length := by unfold A7 len; simp [D.rows]
theorem SY {ks : List Key} : len (Cl ks) = ks.length := by unfold Cl len; simp [D.rows]
theorem A2 {ks : List Key} {j c : Nat} {k : Key} (h : ks[j]? = some k) : cl (A7 ks) j c = (Fs k).getD c default := by
 show (((ks.map fun k => D.row (Fs k))[j]?).getD default).cells.getD c default = _
 rw [List.getElem?_map, h];rfl
theorem Xk {a b : Key} {l : List D} : BX K5 (Fs a ++ l) (Fs b) = decide (a = b) := by
 obtain ⟨a1, a2, a3, a4, a5⟩ := a;obtain ⟨b1, b2, b3, b4, b5⟩ := b;simp only [K5, Fs, List.cons_append, List.nil_append, BX, Ag, Bool.and_true];rw [Bool.eq_iff_iff];simp
theorem SN {ks : List Key} {k : Key} : mIx K5 (Cl ks) (.row (Fs k)) = fdG (fun i => decide (ks[i]? = some k)) ks.length 0 := by
 rw [RM, SY];refine Dl fun j _ hj => ?_
 show BX K5 ((((ks.map fun k => D.row (Fs k ++ [.bool true]))[j]?).getD default).cells) (Fs k) = _
 have hj' : j < ks.length := by omega
 rw [List.getElem?_map, List.getElem?_eq_getElem hj'];show BX K5 (Fs ks[j] ++ [.bool true]) (Fs k) = _;rw [Xk];simp
def GX (ks : List Key) (k : Key) : List Key := if k ∈ ks then ks else ks ++ [k]
theorem U5 {ks : List Key} {k : Key} : (GX ks k).length ≤ ks.length + 1 := by
 unfold GX;split
 ·omega
 ·simp
theorem VO {ks : List Key} {k : Key} : ks.length ≤ (GX ks k).length := by
 unfold GX;split
 ·omega
 ·simp
def C4 (S C T : D) (k : Key) (ks : List Key) (l : List Nat) : List Key := l.foldl (fun ks s => GX ks (nx S C T k s)) ks
theorem JV {S C T : D} {k : Key} : ∀ {l : List Nat} {ks : List Key}, (C4 S C T k ks l).length ≤ ks.length + l.length
 | [], ks => by simp [C4]
 | s :: l, ks => by
  have := JV (S := S) (C := C) (T := T) (k := k) (l := l) (ks := GX ks (nx S C T k s));have := U5 (ks := ks) (k := nx S C T k s);simp only [C4, List.foldl_cons, List.length_cons] at *;omega
theorem QL {S C T : D} {k : Key} : ∀ {l : List Nat} {ks : List Key}, ks.length ≤ (C4 S C T k ks l).length
 | [], ks => by simp [C4]
 | s :: l, ks => by
  have := QL (S := S) (C := C) (T := T) (k := k) (l := l) (ks := GX ks (nx S C T k s));have := VO (ks := ks) (k := nx S C T k s);simp only [C4, List.foldl_cons] at *;omega
theorem Se {S C T : D} {k : Key} {l : List Nat} {ks : List Key} {s : Nat} : C4 S C T k ks (l ++ [s]) = GX (C4 S C T k ks l) (nx S C T k s) := by
 simp [C4]
def Ep (g : Nat → Int) (i : Nat) : D := .slc (decide (i = 0)) ((List.range i).map fun (j : Nat) => .row [.int (g j)])
theorem KO {g : Nat → Int} {i : Nat} : len (Ep g i) = i := by unfold Ep len; simp [D.rows]
theorem HA {g : Nat → Int} {i j : Nat} (h : j < i) : cl (Ep g i) j 0 = .int (g j) := by
 show ((((List.range i).map fun (j : Nat) => D.row [.int (g j)])[j]?).getD default).cells.getD 0 default = _
 rw [List.getElem?_map, List.getElem?_range h];rfl
theorem VX {g : Nat → Int} {i : Nat} : ad (Ep g i) (.row [.int (g i)]) = Ep g (i + 1) := by
 show D.slc false (_ ++ _) = D.slc (decide (i + 1 = 0)) _;rw [List.range_succ, List.map_append, decide_eq_false (by omega)]
 rfl
section
variable [An]
variable {S C T v0 : D}
theorem S9 {ks : List Key} {k : Key} (hl : ks.length < 1048576) : DU (A7 ks) (.bool ks.isEmpty) (Cl ks) (.int k.1) (.int k.2.1) (.int k.2.2.1) (.int k.2.2.2.1) (.int k.2.2.2.2) = .row [.int 1, A7 (GX ks k), .bool (GX ks k).isEmpty, Cl (GX ks k)] := by
 rw [gO];have e : D.row [.int k.1, .int k.2.1, .int k.2.2.1, .int k.2.2.2.1, .int k.2.2.2.2] = .row (Fs k) := rfl;rw [e, SN, Dc];by_cases c : k ∈ ks
 ·obtain ⟨j, hj, hjk⟩ := List.getElem_of_mem c;have q := JU (p := fun i => decide (ks[i]? = some k)) (k := ks.length) (i := 0) (j := j) (by omega) (by omega) (decide_eq_true (by rw [List.getElem?_eq_getElem hj, hjk]))
  have lt := EX (p := fun i => decide (ks[i]? = some k)) (k := ks.length) (i := 0)
  have ea : GX ks k = ks := if_pos c;rw [ifF (by omega), ea]
  have cb : ∀ i : Int, 0 ≤ i → i < ks.length → cl (Cl ks) i 5 = .bool true := fun i h0 h1 => by
   show (((ks.map fun k => D.row (Fs k ++ [.bool true]))[i.toNat]?).getD default).cells.getD 5 default = _
   rw [List.getElem?_map, List.getElem?_eq_getElem (by omega)]
   rfl
  rw [cb _ q.1 (by omega)]
  rfl
 ·have q : fdG (fun i => decide (ks[i]? = some k)) ks.length 0 = -1 := Dr fun j _ hj => decide_eq_false fun h => c (List.mem_of_getElem? h)
  have ea : GX ks k = ks ++ [k] := if_neg c;rw [ifT (by omega), ifT (by omega), ea]
  have e1 : ad (A7 ks) (.row (Fs k)) = A7 (ks ++ [k]) := by
   unfold A7 ad;simp [D.rows]
  have e2 : ad (Cl ks) (.row [.int k.1, .int k.2.1, .int k.2.2.1, .int k.2.2.2.1, .int k.2.2.2.2, .bool true]) = Cl (ks ++ [k]) := by
   unfold Cl ad;simp [D.rows, Fs]
  rw [e1, e2];simp
theorem Y5 (hR : Rk S C T) {k : Key} (hk : KOk S C k) {b : Bool} {s : Nat} (hs : s < len T) (he : en S C T k s = true) : Tl (.bool true) (bk C (kc k) (len C)) (.bool b) (cl T s 0) (cl T s 1) (cl T s 2) (cl T s 3) (cl T s 4) (cl T s 5) (cl T s 6) (cl T s 7) (cl T s 8) = .row [.int 1, .int 0, bk C (nv C T k s) (len C)] := by
 have hc := hR.c1;obtain ⟨⟨n2, h2⟩, ⟨n6, h6⟩, ⟨n7, h7⟩, ⟨n8, h8⟩, _⟩ := hR.tI s hs;have ct := hR.ctr s hs;have A := T2 hR hk (b := b) hs
 have ea : al C T k s = true := by
  unfold en at he;simp only [Bool.and_eq_true] at he;exact he.2
 rw [ea] at A;have kn := hk.v0;have hk2 := GI hR hk hs he;rw [h2, h6, h7, h8] at A;rw [h2, h6, h7, h8, bf, A];dsimp +instances only [As, Au, Ag, Ai];rw [ifT (by rfl), ifT (by rfl), cond_true]
 rcases ct with ⟨z, q⟩ | ⟨z, q1, _⟩
 ·rw [z, cond_true]
  have : bk C (kc k) (len C) = bk C (nv C T k s) (len C) := FX fun j _ => by
   unfold nv;rw [if_neg (by omega)]
  rw [this]
 ·have lt := D7 (l := C) (key := cl T s 5);rw [z, cond_false, Nd (by rw [BW]; omega), Up]
  dsimp +instances only [As, Au, Ag, Ai];rw [ifT (by rfl), ifF (by omega), BW, ifT (by omega)]
  have e : fd C (cl T s 5) = ((fd C (cl T s 5)).toNat : Nat) := by omega
  have cq := K0 (C := C) (g := kc k) (i := len C) (j := (fd C (cl T s 5)).toNat) (c := 2) (by omega)
  rw [← e] at cq;rw [cq];have u := TL (C := C) (g := kc k) (n := len C) (i := (fd C (cl T s 5)).toNat) (x := IntKind.wrap .i64 (kc k (fd C (cl T s 5)).toNat + n8)) (by omega)
  rw [← e] at u;refine (congrArg (fun x => D.row [.int 1, .int 0, x]) u).trans ?_
  show D.row [.int 1, .int 0, _] = D.row [.int 1, .int 0, _]
  have : (bk C (fun j => if j = (fd C (cl T s 5)).toNat then IntKind.wrap .i64 (kc k (fd C (cl T s 5)).toNat + n8) else kc k j) (len C)) = bk C (nv C T k s) (len C) := FX fun j hj => by
   unfold nv;by_cases c : j = (fd C (cl T s 5)).toNat
   ·have v := hk2.v0 j hj;rw [Rj (by omega)] at v
    have l := hR.lim j hj;unfold nv at v;rw [if_pos (by omega), h8, Ag] at v
    rw [if_pos c, if_pos (by omega), h8, Ag, ← c, B8 (by omega) (by omega)]
   ·rw [if_neg c, if_neg (by omega)]
  rw [this]
theorem ZG {g : Nat → Int} {n : Nat} (hn : n ≤ 4) : HQ AT (.bool true) (ct Ax (bk C g n)) (.bool false) = .row [.int 1, Ep g n, .bool (decide (n = 0))] := by
 have ec : ∀ j : Nat, j < n → cl (ct Ax (bk C g n)) j 2 = .int (g j) := fun j hj => K0 (C := C) (g := g) (i := n) (j := j) (c := 2) hj
 have el : len (ct Ax (bk C g n)) = n := BW;rw [fR]
 have L := Hd (F := fun i => IJ (ct Ax (bk C g n)) (.bool false) (.int (i : Nat)) (Ep g i) (.bool (decide (i = 0)))) (n := n) (bad := fun _ => false) (B := fun _ => .row []) (fun i hi => by
  show IJ (ct Ax (bk C g n)) (.bool false) (.int (i : Nat)) (Ep g i) (.bool (decide (i = 0))) = IJ (ct Ax (bk C g n)) (.bool false) (.int (i + 1 : Nat)) (Ep g (i + 1)) (.bool (decide (i + 1 = 0)));rw [X0, el, ifT (by omega), ifF (by omega), KO, ifT (by omega), ec i hi, VX, A9 (by omega), decide_eq_false (show ¬ i + 1 = 0 by omega)])
 refine (show IJ (ct Ax (bk C g n)) (.bool false) (.int 0) AT (.bool true) = cond _ (IJ (ct Ax (bk C g n)) (.bool false) (.int (n : Nat)) (Ep g n) (.bool (decide (n = 0)))) _ from L).trans ?_
 rw [Dr (fun _ _ _ => rfl), ifT (by omega), X0, el, ifF (by omega)]
end
end Ct
namespace Ct
open Go Go.AE
section
variable [An]
variable {S C T v0 : D}
theorem Pb (hR : Rk S C T) {k : Key} (hk : KOk S C k) {s : Nat} (hs : s < len T) (he : en S C T k s = true) : Fm (.int k.1) (.int k.2.1) (.int k.2.2.1) (.int k.2.2.2.1) (.int k.2.2.2.2) v0 S C T (.int (s : Nat)) = .row (.int 1 :: Fs (nx S C T k s)) := by
 have hc := hR.c1;have hs1 := hR.s1;have nk := (GI hR hk hs he).v1;have F20 := Y5 hR hk (b := decide (len C = 0)) hs he;have F21 := ZG (C := C) (g := nv C T k s) (n := len C) hc;have z : ∀ j : Nat, len C ≤ j → j < 4 → nv C T k s j = 0 := fun j h1 h2 => by rw [← Rj h2]; exact nk j h1
 rw [fu (h0 := TF hR hk) (h1 := F20) (h2 := F21), NK (v0 := S) (by omega)]
 dsimp +instances only [As, Au, Ag, Ai];rw [Bool.false_and, F21];dsimp +instances only [As, Au, Ag, Ai];rw [ifF (by omega), ifT (by rfl), ifF (by omega), ifT (by omega), BW, BW, ifT (by rfl), ifT (by rfl), ifT (by rfl), KO]
 by_cases n0 : (len C : Int) = 0
 ·rw [cT (decide_eq_true (by omega))]
  show _ = D.row [.int 1, .int (fd S (cl T s 1)), .int (nv C T k s 0), .int (nv C T k s 1), .int (nv C T k s 2), .int (nv C T k s 3)];rw [z 0 (by omega) (by omega), z 1 (by omega) (by omega), z 2 (by omega) (by omega), z 3 (by omega) (by omega)]
 rw [cF (decide_eq_false (by omega)), ifT (by rfl), ifT (by omega), ifT (by rfl)]
 show _ = D.row [.int 1, .int (fd S (cl T s 1)), .int (nv C T k s 0), .int (nv C T k s 1), .int (nv C T k s 2), .int (nv C T k s 3)];have c0 := HA (g := nv C T k s) (i := len C) (j := 0);have c1 := HA (g := nv C T k s) (i := len C) (j := 1);have c2 := HA (g := nv C T k s) (i := len C) (j := 2);have c3 := HA (g := nv C T k s) (i := len C) (j := 3);by_cases n4 : (len C : Int) < 4;rotate_left
 ·rw [ifF n4, show cl (Ep (nv C T k s) (len C)) 0 0 = _ from c0 (by omega), show cl (Ep (nv C T k s) (len C)) 1 0 = _ from c1 (by omega), show cl (Ep (nv C T k s) (len C)) 2 0 = _ from c2 (by omega), show cl (Ep (nv C T k s) (len C)) 3 0 = _ from c3 (by omega)]
 rw [ifT n4, ifF n0];by_cases n1 : (len C : Int) = 1
 ·rw [ifT n1, show cl (Ep (nv C T k s) (len C)) 0 0 = _ from c0 (by omega), z 1 (by omega) (by omega), z 2 (by omega) (by omega), z 3 (by omega) (by omega)]
 rw [ifF n1];by_cases n2 : (len C : Int) = 2
 ·rw [ifT n2, show cl (Ep (nv C T k s) (len C)) 0 0 = _ from c0 (by omega), show cl (Ep (nv C T k s) (len C)) 1 0 = _ from c1 (by omega), z 2 (by omega) (by omega), z 3 (by omega) (by omega)]
 rw [ifF n2];have n3 : (len C : Int) = 3 := by omega
 rw [ifT n3, show cl (Ep (nv C T k s) (len C)) 0 0 = _ from c0 (by omega), show cl (Ep (nv C T k s) (len C)) 1 0 = _ from c1 (by omega), show cl (Ep (nv C T k s) (len C)) 2 0 = _ from c2 (by omega), z 3 (by omega) (by omega)]
theorem YH (hR : Rk S C T) {k : Key} (hk : KOk S C k) {ks : List Key} (hl : ks.length < 100000) : GH (.int k.1) (.int k.2.1) (.int k.2.2.1) (.int k.2.2.2.1) (.int k.2.2.2.2) (A7 ks) (.bool ks.isEmpty) (Cl ks) v0 S C T =
  .row [.int 1, A7 (C4 S C T k ks (enl S C T k)), .bool (C4 S C T k ks (enl S C T k)).isEmpty, Cl (C4 S C T k ks (enl S C T k))] := by
 have ht := hR.t1;have hle := DO (S := S) (C := C) (T := T) (k := k);rw [fL, Nn hR hk];dsimp +instances only [As, Au, Ag, Ai];rw [ifT (by rfl), AQ]
 have L := Hd (F := fun i => I3 (Aw (enl S C T k)) (.bool (enl S C T k).isEmpty) (.int ((enl S C T k).length : Nat)) (.int (i : Nat)) (A7 (C4 S C T k ks ((enl S C T k).take i))) (.bool (C4 S C T k ks ((enl S C T k).take i)).isEmpty) (Cl (C4 S C T k ks ((enl S C T k).take i))) v0 S C T (.int k.1) (.int k.2.1) (.int k.2.2.1) (.int k.2.2.2.1) (.int k.2.2.2.2)) (n := (enl S C T k).length) (bad := fun _ => false) (B := fun _ => .row []) (fun i hi => by
  show I3 (Aw (enl S C T k)) (.bool (enl S C T k).isEmpty) (.int ((enl S C T k).length : Nat)) (.int (i : Nat)) (A7 (C4 S C T k ks ((enl S C T k).take i))) (.bool (C4 S C T k ks ((enl S C T k).take i)).isEmpty) (Cl (C4 S C T k ks ((enl S C T k).take i))) v0 S C T (.int k.1) (.int k.2.1) (.int k.2.2.1) (.int k.2.2.2.1) (.int k.2.2.2.2) =
   I3 (Aw (enl S C T k)) (.bool (enl S C T k).isEmpty) (.int ((enl S C T k).length : Nat)) (.int (i + 1 : Nat)) (A7 (C4 S C T k ks ((enl S C T k).take (i + 1)))) (.bool (C4 S C T k ks ((enl S C T k).take (i + 1))).isEmpty) (Cl (C4 S C T k ks ((enl S C T k).take (i + 1)))) v0 S C T (.int k.1) (.int k.2.1) (.int k.2.2.1) (.int k.2.2.2.1) (.int k.2.2.2.2)
  have hg : (enl S C T k)[i]? = some ((enl S C T k)[i]) := List.getElem?_eq_getElem hi;have hm := Bv (List.getElem_mem hi);have hr := JV (S := S) (C := C) (T := T) (k := k) (l := (enl S C T k).take i) (ks := ks);have htk : ((enl S C T k).take i).length ≤ i := by simp; omega
  rw [List.take_add_one, hg, Option.toList_some, Se, X1 (h0 := rfl), ifT (by omega), ifF (by omega), AQ, ifT (by omega), Cv hg, Pb hR hk hm.1 hm.2]
  have e : D.row (.int 1 :: Fs (nx S C T k (enl S C T k)[i])) = .row [.int 1, .int (nx S C T k (enl S C T k)[i]).1, .int (nx S C T k (enl S C T k)[i]).2.1, .int (nx S C T k (enl S C T k)[i]).2.2.1, .int (nx S C T k (enl S C T k)[i]).2.2.2.1, .int (nx S C T k (enl S C T k)[i]).2.2.2.2] := rfl;rw [e];dsimp +instances only [As, Au, Ag, Ai];rw [S9 (by omega)]
  dsimp +instances only [As, Au, Ag, Ai];rw [ifT (by rfl), ifT (by rfl), A9 (by omega)])
 refine (show I3 (Aw (enl S C T k)) (.bool (enl S C T k).isEmpty) (.int ((enl S C T k).length : Nat)) (.int 0) (A7 ks) (.bool ks.isEmpty) (Cl ks) v0 S C T (.int k.1) (.int k.2.1) (.int k.2.2.1) (.int k.2.2.2.1) (.int k.2.2.2.2) = cond _ (I3 (Aw (enl S C T k)) (.bool (enl S C T k).isEmpty) (.int ((enl S C T k).length : Nat)) (.int ((enl S C T k).length : Nat)) (A7 (C4 S C T k ks ((enl S C T k).take (enl S C T k).length))) (.bool (C4 S C T k ks ((enl S C T k).take (enl S C T k).length)).isEmpty) (Cl (C4 S C T k ks ((enl S C T k).take (enl S C T k).length))) v0 S C T (.int k.1) (.int k.2.1) (.int k.2.2.1) (.int k.2.2.2.1) (.int k.2.2.2.2)) _ from L).trans ?_
 rw [Dr (fun _ _ _ => rfl), ifT (by omega), List.take_length, X1 (h0 := rfl), ifF (by omega)]
def Ek (S C : D) (ks : List Key) : Prop := ∀ k ∈ ks, KOk S C k
theorem Q2 (hR : Rk S C T) {k : Key} (hk : KOk S C k) : ∀ {l : List Nat} {ks : List Key}, (∀ s ∈ l, s < len T ∧ en S C T k s = true) → Ek S C ks → Ek S C (C4 S C T k ks l)
 | [], ks, _, h => by simpa [C4] using h
 | s :: l, ks, hl, h => by
  have hm := hl s (List.mem_cons_self ..)
  have := Q2 hR hk (l := l) (ks := GX ks (nx S C T k s)) (fun s hs => hl s (List.mem_cons_of_mem _ hs)) (by
   unfold GX;split
   ·exact h
   ·intro x hx;rcases List.mem_append.1 hx with q | q
    ·exact h x q
    ·rw [List.mem_singleton.1 q];exact GI hR hk hm.1 hm.2)
  simpa [C4] using this
def PF (S C T : D) (ks : List Key) (k : Key) : List Key := C4 S C T k ks (enl S C T k)
theorem RI (hR : Rk S C T) {k : Key} (hk : KOk S C k) {ks : List Key} (h : Ek S C ks) : Ek S C (PF S C T ks k) := Q2 hR hk (fun s hs => Bv hs) h
def LB (S C T : D) : Nat → List Key → Nat → List Key
 | 0, ks, _ => ks
 | f + 1, ks, i => match ks[i]? with
  | some k => LB S C T f (PF S C T ks k) (i + 1)
  | none => ks
theorem JD (hR : Rk S C T) : ∀ {f : Nat} {ks : List Key} {i : Nat}, Ek S C ks → Ek S C (LB S C T f ks i)
 | 0, ks, i, h => h
 | f + 1, ks, i, h => by
  rw [LB];split
  ·rename_i k hk;exact JD hR (RI hR (h k (List.mem_of_getElem? hk)) h)
  ·exact h
theorem NM (hR : Rk S C T) {w : D} : ∀ {f i : Nat} {ks : List Key}, i + f = 2000 → ks.length ≤ 1 + 20 * i → ks ≠ [] → Ek S C ks → Ot (.int 2000) (.int (i : Nat)) w v0 S C T (A7 ks) (.bool ks.isEmpty) (Cl ks) = .row [.int 1, A7 (LB S C T f ks i), .bool (LB S C T f ks i).isEmpty, .bool (decide (2000 < ((LB S C T f ks i).length : Int)))]
 | 0, i, ks => fun h hl hn ho => by
  rw [Yh, Dc, LB];by_cases c : (i : Int) < (ks.length : Nat)
  ·rw [ifT c, ifF (by omega)]
  ·rw [ifF c]
 | f + 1, i, ks => fun h hl hn ho => by
  rw [Yh, Dc];by_cases c : (i : Int) < (ks.length : Nat)
  ·have c' : i < ks.length := by omega
   have hg : ks[i]? = some ks[i] := List.getElem?_eq_getElem c';have hk := ho _ (List.getElem_mem c');have e := DO (S := S) (C := C) (T := T) (k := ks[i]);have r := JV (S := S) (C := C) (T := T) (k := ks[i]) (l := enl S C T ks[i]) (ks := ks);have r2 := QL (S := S) (C := C) (T := T) (k := ks[i]) (l := enl S C T ks[i]) (ks := ks);have ht := hR.t1
   have ne : PF S C T ks ks[i] ≠ [] := fun q => by
    have : (PF S C T ks ks[i]).length = 0 := by rw [q]; rfl
    unfold PF at this;have : ks.length = 0 := by omega
    exact hn (List.length_eq_zero_iff.1 this)
   have ih := NM hR (w := w) (f := f) (i := i + 1) (ks := PF S C T ks ks[i]) (by omega) (by unfold PF; omega) ne (RI hR hk ho)
   rw [ifT c, ifT (by omega), ifF (by omega), A2 hg, A2 hg, A2 hg, A2 hg, A2 hg]
   show cond (decide ((sl (GH (.int ks[i].1) (.int ks[i].2.1) (.int ks[i].2.2.1) (.int ks[i].2.2.2.1) (.int ks[i].2.2.2.2) (A7 ks) (.bool ks.isEmpty) (Cl ks) v0 S C T) 0).toInt = 1)) (Ot (.int 2000) (.int (IntKind.wrap .i64 (i + 1))) w v0 S C T (sl (GH (.int ks[i].1) (.int ks[i].2.1) (.int ks[i].2.2.1) (.int ks[i].2.2.2.1) (.int ks[i].2.2.2.2) (A7 ks) (.bool ks.isEmpty) (Cl ks) v0 S C T) 1) (sl (GH (.int ks[i].1) (.int ks[i].2.1) (.int ks[i].2.2.1) (.int ks[i].2.2.2.1) (.int ks[i].2.2.2.2) (A7 ks) (.bool ks.isEmpty) (Cl ks) v0 S C T) 2) (sl (GH (.int ks[i].1) (.int ks[i].2.1) (.int ks[i].2.2.1) (.int ks[i].2.2.2.1) (.int ks[i].2.2.2.2) (A7 ks) (.bool ks.isEmpty) (Cl ks) v0 S C T) 3)) (.row []) = _;rw [YH hR hk (by omega)]
   dsimp +instances only [As, Au, Ag, Ai];rw [ifT (by rfl), A9 (by omega)]
   rw [LB, hg];exact ih
  ·rw [ifF c, LB, List.getElem?_eq_none (by omega)]
def Ph : Key := (0, 0, 0, 0, 0)
theorem JF (hR : Rk S C T) : KOk S C Ph := by
 have h := hR.s0
 have z : ∀ j, kc Ph j = 0 := fun j => by
  match j with
  | 0 => rfl
  | 1 => rfl
  | 2 => rfl
  | 3 => rfl
  | j + 4 => rfl
 refine ⟨Int.le_refl _, by show (0 : Int) < _; omega, fun j hj => ?_, fun j _ => z j⟩
 rw [z];have := hR.lim j hj;omega
def CS (S C T : D) : List Key := LB S C T 2000 [Ph] 0
theorem Pc (hR : Rk S C T) : Rl (ad Ax (.row [.int 0, .int 0, .int 0, .int 0, .int 0])) (.bool false) (.int 2000) v0 S C T = .row [.int 1, A7 (CS S C T), .bool (CS S C T).isEmpty, .bool (decide (2000 < ((CS S C T).length : Int)))] := by
 have A := S9 (ks := []) (k := Ph) (by show (0 : Nat) < _; omega)
 have A : DU AT (.bool true) Ax (.int 0) (.int 0) (.int 0) (.int 0) (.int 0) = .row [.int 1, A7 [Ph], .bool false, Cl [Ph]] := A;have l1 : len (ad Ax (.row [.int 0, .int 0, .int 0, .int 0, .int 0])) = 1 := rfl;rw [eX, XR, l1, ifT (by omega), ifF (by omega)]
 show cond (decide ((sl (DU AT (.bool true) Ax (.int 0) (.int 0) (.int 0) (.int 0) (.int 0)) 0).toInt = 1)) (Rw (.int 2000) (ad Ax (.row [.int 0, .int 0, .int 0, .int 0, .int 0])) (.bool false) (.int (IntKind.wrap .i64 (0 + 1))) v0 S C T (sl (DU AT (.bool true) Ax (.int 0) (.int 0) (.int 0) (.int 0) (.int 0)) 1) (sl (DU AT (.bool true) Ax (.int 0) (.int 0) (.int 0) (.int 0) (.int 0)) 2) (sl (DU AT (.bool true) Ax (.int 0) (.int 0) (.int 0) (.int 0) (.int 0)) 3)) (.row []) = _;rw [A];dsimp +instances only [As, Au, Ag, Ai];rw [ifT (by rfl), B8 (by omega) (by omega), XR, l1, ifF (by omega)]
 exact NM hR (f := 2000) (i := 0) (ks := [Ph]) (by omega) (by show 1 ≤ _; omega) (by simp) (fun k hk => by rw [List.mem_singleton.1 hk]; exact JF hR)
end
end Ct
namespace Ct
open Go Go.AE
structure RL (S C : D) (ks : List Key) (d : D) : Prop where
 l : len d = ks.length
 c : ∀ (i : Nat) (k : Key), ks[i]? = some k → Cf S C k (cl d i 0) (cl d i 1)
theorem RL.ad {S C : D} {ks : List Key} {d t x : D} {k : Key} (h : RL S C ks d) (hx : Cf S C k t x) : RL S C (ks ++ [k]) (ad d (.row [t, x])) := by
 refine ⟨by rw [AR, h.l]; simp, fun i k' hi => ?_⟩
 rw [IE (by omega), IE (by omega), h.l]
 by_cases c : i < ks.length
 ·rw [List.getElem?_append_left c] at hi;rw [if_neg (by omega), if_neg (by omega)]
  exact h.c i k' hi
 ·have hlt : i < (ks ++ [k]).length := by
   rcases Nat.lt_or_ge i (ks ++ [k]).length with q | q
   ·exact q
   ·rw [List.getElem?_eq_none q] at hi;cases hi
  simp at hlt;have : i = ks.length := by omega
  subst this;simp at hi;subst hi;rw [if_pos rfl, if_pos rfl];exact hx
theorem Cf.key {S C T : D} (hR : Rk S C T) {k k' : Key} {t x t' x' : D} (hk : KOk S C k) (hk' : KOk S C k') (h : Cf S C k t x) (h' : Cf S C k' t' x') : (D.strEq t t' = true ∧ ∀ j : Nat, j < len C → (cl x j 0).toInt = (cl x' j 0).toInt) ↔ k = k' := by
 have hc := hR.c1;constructor
 ·rintro ⟨e, v⟩
  have s0 := hk.s0;have s1 := hk.s1;have s0' := hk'.s0;have s1' := hk'.s1;refine WJ ?_ fun j hj => ?_
  ·have a := EY h.t e;have b : D.strEq (cl S k'.1 0) t' = true := h'.t;rw [AZ] at b;have c := EY a b;have i1 := hR.sid k.1.toNat (by omega)
   have i2 := hR.sid k'.1.toNat (by omega)
   rw [show ((k.1.toNat : Nat) : Int) = k.1 by omega] at i1
   rw [show ((k'.1.toNat : Nat) : Int) = k'.1 by omega] at i2
   have : fd S (cl S k.1 0) = fd S (cl S k'.1 0) := by
    unfold fd;refine Dl fun j _ _ => ?_
    show D.strEq (cl S j 0) (cl S k.1 0) = D.strEq (cl S j 0) (cl S k'.1 0);rw [AZ, H7 c, AZ]
   omega
  ·by_cases c : j < len C
   ·have := v j c;rw [h.v j c, h'.v j c] at this;exact this
   ·rw [hk.v1 j (by omega), hk'.v1 j (by omega)]
 ·rintro rfl
  refine ⟨?_, fun j hj => by rw [h.v j hj, h'.v j hj]⟩
  have a := h.t;rw [AZ] at a;exact EY a h'.t
section
variable [An]
variable {S C T v0 : D}
end
end Ct
namespace Ct
open Go Go.AE
section
variable [An]
variable {S C T v0 : D}
theorem Cf.ni {S C : D} {k : Key} {t x : D} {b : Bool} (h : Cf S C k t x) : Cf S C k t (ni x b) := ⟨h.t, h.l, h.v, fA h.w⟩
theorem UU (hR : Rk S C T) {k : Key} (hk : KOk S C k) : ∃ x, Db (.int k.1) (.int k.2.1) (.int k.2.2.1) (.int k.2.2.2.1) (.int k.2.2.2.2) v0 S C T = .row [.int 1, cl S k.1 0, x] ∧ Cf S C k (cl S k.1 0) x := by
 have hc := hR.c1;have s0 := hk.s0;have s1 := hk.s1;rw [Ye, ifF (by omega), ifT (by omega)]
 by_cases n0 : (len C : Int) = 0
 ·rw [ifT n0];exact ⟨_, rfl, B9, by rw [AX]; omega, fun j hj => by omega, BP⟩
 rw [ifF n0];by_cases n1 : (len C : Int) = 1
 ·rw [ifT n1];refine ⟨_, rfl, B9, by rw [AR, AX]; omega, fun j hj => ?_, CI BP rfl⟩
  match j with
  | 0 => rfl
  | j + 1 => omega
 rw [ifF n1];by_cases n2 : (len C : Int) = 2
 ·rw [ifT n2];refine ⟨_, rfl, B9, by rw [AR, AR, AX]; omega, fun j hj => ?_, CI (CI BP rfl) rfl⟩
  match j with
  | 0 => rfl
  | 1 => rfl
  | j + 2 => omega
 rw [ifF n2];by_cases n3 : (len C : Int) = 3
 ·rw [ifT n3];refine ⟨_, rfl, B9, by rw [AR, AR, AR, AX]; omega, fun j hj => ?_, CI (CI (CI BP rfl) rfl) rfl⟩
  match j with
  | 0 => rfl
  | 1 => rfl
  | 2 => rfl
  | j + 3 => omega
 rw [ifF n3];have n4 : (len C : Int) = 4 := by omega
 rw [ifT n4];refine ⟨_, rfl, B9, by rw [AR, AR, AR, AR, AX]; omega, fun j hj => ?_, CI (CI (CI (CI BP rfl) rfl) rfl) rfl⟩
 match j with
 | 0 => rfl
 | 1 => rfl
 | 2 => rfl
 | 3 => rfl
 | j + 4 => omega
end
end Ct
namespace Ct
open Go Go.AE
structure NL (ns : List Nat) (d : D) : Prop where
 l : len d = ns.length
 c : ∀ (m s : Nat), ns[m]? = some s → cl d m 0 = .int (s : Nat)
theorem W4 {l : List Nat} : NL l (Aw l) := ⟨AQ, fun m s h => Cv h⟩
theorem V9 {l : List Nat} : Wd (Aw l) 1 := by
 intro r hr;unfold Aw at hr;simp only [D.rows, List.mem_map] at hr;obtain ⟨s, _, e⟩ := hr;subst e;exact ⟨_, rfl, rfl⟩
def kp (T : D) (r : Bool) (s : Nat) : Bool := decide ((cl T s 2).toInt = 2) == r
def prt (T : D) (L : List Nat) (r : Bool) : List Nat := L.filter (kp T r)
theorem M2 {T : D} {L : List Nat} {r : Bool} : (prt T L r).length ≤ L.length := List.length_filter_le _ _
theorem Gb {L pre rem : List Nat} {s : Nat} (e : L = pre ++ s :: rem) : L[pre.length]? = some s := by rw [e]; simp
section
variable [An]
variable {v0 S C T : D}
theorem J7 {L : List Nat} {b r : Bool} (hL : ∀ s ∈ L, s < len T) (hn : L.length < 1000) : ∀ (rem pre : List Nat) (d : D) (i : Nat), L = pre ++ rem → i = (prt T pre r).length → len d = L.length → Wd d 1 →
  (∀ m s : Nat, (prt T pre r)[m]? = some s → cl d m 0 = .int (s : Nat)) → (∀ m s : Nat, pre.length ≤ m → L[m]? = some s → cl d m 0 = .int (s : Nat)) →
  ∃ d', NL (prt T L r) d' ∧ HE d (.bool b) (.int (i : Nat)) (.int (pre.length : Nat)) v0 S C T (.bool r) = .row [.int 1, d', .bool b]
 | [], pre, d, i => fun e hi hl hw h1 h2 => by
  simp only [List.append_nil] at e;subst e;have pl := M2 (T := T) (L := L) (r := r);have l1 : len (sb d 0 (i : Nat)) = i := by rw [P8 (by omega) (by omega)]; omega
  refine ⟨sb (sb d 0 (i : Nat)) 0 (i : Nat), ⟨by rw [P8 (by omega) (by omega)]; omega, fun m s hm => ?_⟩, ?_⟩
  ·have hm' : m < (prt T L r).length := by
    rcases Nat.lt_or_ge m (prt T L r).length with q | q
    ·exact q
    ·rw [List.getElem?_eq_none q] at hm; cases hm
   rw [Th (by omega) (by omega), Th (by omega) (by omega)]
   exact h1 m s hm
  ·rw [XO, hl, ifF (by omega), ifF (by omega), ifF (by omega), ifF (by omega), l1]
   cases decide (((L.length : Nat) : Int) = ((i : Nat) : Int)) <;> exact ifF (by omega)
 | s :: rem, pre, d, i => fun e hi hl hw h1 h2 => by
  have hg := Gb e;have hp : pre.length < L.length := by rw [e]; simp
  have hm := hL s (by rw [e]; simp)
  have hc := h2 pre.length s (Nat.le_refl _) hg;have e' : L = (pre ++ [s]) ++ rem := by rw [e]; simp
  have epl : (pre ++ [s]).length = pre.length + 1 := by simp
  have pl := M2 (T := T) (L := pre) (r := r)
  have skip : kp T r s = false → ∃ d', NL (prt T L r) d' ∧ HE d (.bool b) (.int (i : Nat)) (.int ((pre.length + 1 : Nat))) v0 S C T (.bool r) = .row [.int 1, d', .bool b] := fun q => by
   have ep : prt T (pre ++ [s]) r = prt T pre r := by unfold prt; rw [List.filter_append, List.filter_cons_of_neg (by simp [q])]; simp
   have ih := J7 (b := b) hL hn rem (pre ++ [s]) d i e' (by rw [ep]; exact hi) hl hw (by rw [ep]; exact h1) (fun m s' hm' hs' => h2 m s' (by omega) hs')
   rw [epl] at ih;exact ih
  have keep : kp T r s = true → ∃ d', NL (prt T L r) d' ∧ HE (upd d (i : Nat) 0 (.int (s : Nat))) (.bool b) (.int ((i + 1 : Nat))) (.int ((pre.length + 1 : Nat))) v0 S C T (.bool r) = .row [.int 1, d', .bool b] := fun q => by
   have ep : prt T (pre ++ [s]) r = prt T pre r ++ [s] := by unfold prt; rw [List.filter_append, List.filter_cons_of_pos (by simp [q])]; simp
   have ih := J7 (b := b) hL hn rem (pre ++ [s]) (upd d (i : Nat) 0 (.int (s : Nat))) (i + 1) e' (by rw [ep]; simp; exact hi) (by rw [Wz]; exact hl) (YA hw) (fun m s' hs' => by
    rw [ep] at hs';rw [Tw hw (by omega) (by omega) (by omega) (by omega)]
    by_cases c : m < (prt T pre r).length
    ·rw [List.getElem?_append_left c] at hs';rw [if_neg (by omega)]
     exact h1 m s' hs'
    ·have hlt : m < (prt T pre r ++ [s]).length := by
      rcases Nat.lt_or_ge m (prt T pre r ++ [s]).length with q | q
      ·exact q
      ·rw [List.getElem?_eq_none q] at hs'; cases hs'
     simp at hlt;have hmi : m = (prt T pre r).length := by omega
     rw [if_pos ⟨by omega, rfl⟩]
     rw [hmi] at hs';simp at hs';rw [hs']) (fun m s' hm' hs' => by
    rw [Tw hw (by omega) (by omega) (by omega) (by omega), if_neg (by omega)]
    exact h2 m s' (by omega) hs')
   rw [epl] at ih;exact ih
  rw [XO, hl, ifT (by omega), ifF (by omega), hc, Ag, ifF (by omega), ifT (by omega), ifF (show ¬ ((i : Nat) : Int) < 0 by omega), ifT (show ((i : Nat) : Int) < (L.length : Nat) by omega), A9 (by omega), A9 (by omega)]
  by_cases q : (cl T s 2).toInt = 2
  ·rw [ifT q];have k1 : kp T r s = r := by unfold kp; rw [decide_eq_true q]; cases r <;> rfl
   cases r
   ·rw [cond_false]; exact skip k1
   ·rw [cond_true]; exact keep k1
  ·rw [ifF q];have k1 : kp T r s = !r := by unfold kp; rw [decide_eq_false q]; cases r <;> rfl
   cases r
   ·rw [cond_false]; exact keep k1
   ·rw [cond_true]; exact skip k1
theorem Zg {L : List Nat} {b r : Bool} (hL : ∀ s ∈ L, s < len T) (hn : L.length < 1000) : Mn (Aw L) (.bool b) v0 S C T (.bool r) = .row [.int 1, .int (fdG (fun j => match L[j]? with | some s => !kp T r s | none => false) L.length 0)] := by
 rw [dz];refine find (F := fun j => KU (Aw L) (.bool b) (.int (j : Nat)) v0 S C T (.bool r)) (n := L.length) (fun j hj => ?_) ?_
 ·show KU (Aw L) (.bool b) (.int (j : Nat)) v0 S C T (.bool r) = _;have hg : L[j]? = some L[j] := List.getElem?_eq_getElem hj;have hm := hL _ (List.getElem_mem hj);rw [XV, AQ, ifT (by omega), ifF (by omega), Cv hg, Ag, ifF (by omega), ifT (by omega), A9 (by omega), hg]
  show _ = cond (!kp T r L[j]) _ _;unfold kp;by_cases q : (cl T (L[j] : Nat) 2).toInt = 2
  ·rw [ifT q, decide_eq_true q];cases r <;> rfl
  ·rw [ifF q, decide_eq_false q];cases r <;> rfl
 ·show KU (Aw L) (.bool b) (.int (L.length : Nat)) v0 S C T (.bool r) = _;rw [XV, AQ, ifF (by omega)]
theorem TH {L : List Nat} {b r : Bool} (hL : ∀ s ∈ L, s < len T) (hn : L.length < 1000) : ∃ d', NL (prt T L r) d' ∧ IG (Aw L) (.bool b) v0 S C T (.bool r) = .row [.int 1, d', .bool b] := by
 have ge := J5 (p := fun j => match L[j]? with | some s => !kp T r s | none => false) (k := L.length) (i := 0)
 have lt := EX (p := fun j => match L[j]? with | some s => !kp T r s | none => false) (k := L.length) (i := 0)
 have no := fun j => EW (p := fun j => match L[j]? with | some s => !kp T r s | none => false) (k := L.length) (i := 0) (j := j)
 have is := MO (p := fun j => match L[j]? with | some s => !kp T r s | none => false) (k := L.length) (i := 0)
 rw [fh, Zg hL hn];dsimp +instances only [As, Au, Ag, Ai];rw [ifT (by rfl)]
 generalize fdG (fun j => match L[j]? with | some s => !kp T r s | none => false) L.length 0 = n at ge lt no is
 by_cases c : n = -1
 ·rw [ifT c]
  have e : prt T L r = L := List.filter_eq_self.2 fun s hs => by
   obtain ⟨j, hj, e⟩ := List.getElem_of_mem hs;have h := no j (by omega) (.inr ⟨by omega, by omega⟩)
   rw [List.getElem?_eq_getElem hj] at h;simp only [e] at h;simpa using h
  rw [e];exact ⟨_, W4, rfl⟩
 ·rw [ifF c];have hnl : n.toNat < L.length := by omega
  have hg : L[n.toNat]? = some L[n.toNat] := List.getElem?_eq_getElem hnl;have hbad := is (by omega)
  rw [hg] at hbad;have hbad : (!kp T r L[n.toNat]) = true := hbad
  have hall : prt T (L.take n.toNat) r = L.take n.toNat := List.filter_eq_self.2 fun s hs => by
   obtain ⟨j, hj, e⟩ := List.getElem_of_mem hs;have hj' : j < n.toNat ∧ j < L.length := by simp at hj; omega
   have h := no j (by omega) (.inl (by omega))
   rw [List.getElem?_eq_getElem hj'.2] at h;rw [List.getElem_take] at e;simp only [e] at h;simpa using h
  have htk : L.take (n.toNat + 1) = L.take n.toNat ++ [L[n.toNat]] := by rw [List.take_add_one, hg]; rfl
  have e1 : prt T (L.take (n.toNat + 1)) r = L.take n.toNat := by
   rw [htk];unfold prt at hall ⊢;rw [List.filter_append, hall, List.filter_cons_of_neg (by simpa using hbad)]
   simp
  have tl : (L.take (n.toNat + 1)).length = n.toNat + 1 := by simp; omega
  have X := J7 (v0 := v0) (S := S) (C := C) (T := T) (b := b) (r := r) hL hn (L.drop (n.toNat + 1)) (L.take (n.toNat + 1)) (Aw L) n.toNat (List.take_append_drop _ _).symm (by rw [e1]; simp; omega) AQ V9 (fun m s h => by
   rw [e1] at h
   have hm : m < n.toNat := by
    rcases Nat.lt_or_ge m n.toNat with q | q
    ·exact q
    ·rw [List.getElem?_eq_none (by simp; omega)] at h; cases h
   rw [List.getElem?_take_of_lt hm] at h;exact Cv h) (fun m s _ h => Cv h)
  rw [tl] at X;rw [show n = ((n.toNat : Nat) : Int) by omega, A9 (by omega)]
  exact X
end
def alk (T : D) (s : Nat) (T' : D) (m : Nat) : Bool := decide ((cl T s 2).toInt = (cl T' m 2).toInt) && (D.strEq (cl T s 3) (cl T' m 3) && D.strEq (cl T s 4) (cl T' m 4))
theorem HY {T T' : D} {s m : Nat} : alk T s T' m = alk T' m T s := by
 unfold alk;rw [OJ, AZ, AZ (a := cl T s 4)]
def lk (T T' : D) (L M : List Nat) : Option Nat := L.find? fun s => !M.any (alk T s T')
def M3 (p : Nat → Bool) (M : List Nat) (j : Nat) : Bool := match M[j]? with | some m => p m | none => false
theorem Ra {p : Nat → Bool} {M : List Nat} : decide (fdG (M3 p M) M.length 0 < 0) = !M.any p := by
 cases h : M.any p
 ·rw [decide_eq_true]
  ·rfl
  rw [Dr]
  ·omega
  intro j _ hj;have hj : j < M.length := by omega
  unfold M3;rw [List.getElem?_eq_getElem hj];exact (List.any_eq_false.1 h _ (List.getElem_mem hj)) |> (by simpa using ·)
 ·rw [decide_eq_false]
  ·rfl
  intro c;obtain ⟨x, hx, hp⟩ := List.any_eq_true.1 h;obtain ⟨j, hj, e⟩ := List.getElem_of_mem hx;have n := EW (p := M3 p M) (k := M.length) (i := 0) (j := j) (by omega) (.inr ⟨c, by omega⟩)
  unfold M3 at n;rw [List.getElem?_eq_getElem hj, e] at n;have n : p x = false := n;rw [hp] at n;cases n
section
variable [An]
variable {v0 S C T v0' S' C' T' : D}
theorem Yv {M : List Nat} {dm : D} {b : Bool} {s : Nat} (hM : ∀ m ∈ M, m < len T') (hd : NL M dm) (hn : M.length < 1000) (hs : s < len T) : QV dm (.bool b) v0' S' C' T' v0 S C T (.int (s : Nat)) = .row [.int 1, .int (fdG (M3 (alk T s T') M) M.length 0)] := by
 have hl := hd.l;rw [dD];refine find (F := fun j => Mo dm (.bool b) (.int (j : Nat)) v0' S' C' T' v0 S C T (.int (s : Nat))) (n := M.length) (fun j hj => ?_) ?_
 ·show Mo dm (.bool b) (.int (j : Nat)) v0' S' C' T' v0 S C T (.int (s : Nat)) = _;have hg : M[j]? = some M[j] := List.getElem?_eq_getElem hj;have hm := hM _ (List.getElem_mem hj);rw [XJ, hl, ifT (by omega), ifF (by omega), hd.c j _ hg, Ag, ifF (by omega), ifT (by omega), ifF (by omega), ifT (by omega), A9 (by omega)]
  unfold M3;rw [hg];show cond (alk T' M[j] T s) _ _ = cond (alk T s T' M[j]) _ _;rw [HY]
 ·show Mo dm (.bool b) (.int (M.length : Nat)) v0' S' C' T' v0 S C T (.int (s : Nat)) = _;rw [XJ, hl, ifF (by omega)]
def lkR : Option Nat → D
 | some s => .row [.int 1, .int (s : Nat), .bool true]
 | none => .row [.int 1, .int 0, .bool false]
theorem NV {L M : List Nat} {dl dm : D} {b b' : Bool} (hL : ∀ s ∈ L, s < len T) (hM : ∀ m ∈ M, m < len T') (hl : NL L dl) (hm : NL M dm) (hn : L.length < 1000) (hn' : M.length < 1000) : ∀ (rem pre : List Nat), L = pre ++ rem → QP dm (.bool b') dl (.bool b) (.int (pre.length : Nat)) v0 S C T v0' S' C' T' = lkR (lk T T' rem M)
 | [], pre => fun e => by
  have : L.length = pre.length := by rw [e]; simp
  rw [XY, hl.l, ifF (by omega)]
  rfl
 | s :: rem, pre => fun e => by
  have hg := Gb e;have hp : pre.length < L.length := by rw [e]; simp
  have hs := hL s (by rw [e]; simp)
  have e' : L = (pre ++ [s]) ++ rem := by rw [e]; simp
  have epl : (pre ++ [s]).length = pre.length + 1 := by simp
  have ih := NV (b := b) (b' := b') hL hM hl hm hn hn' rem (pre ++ [s]) e';rw [epl] at ih;rw [XY, hl.l, ifT (by omega), ifF (by omega), hl.c _ _ hg, Yv hM hm hn' hs]
  dsimp +instances only [As, Au, Ag, Ai];rw [ifT (by rfl), Ra, A9 (by omega), ih]
  unfold lk;rw [List.find?_cons];cases (!M.any (alk T s T')) <;> rfl
theorem Vu {L M : List Nat} {dl dm : D} {b b' : Bool} (hL : ∀ s ∈ L, s < len T) (hM : ∀ m ∈ M, m < len T') (hl : NL L dl) (hm : NL M dm) (hn : L.length < 1000) (hn' : M.length < 1000) : Jc v0 S C T dl (.bool b) v0' S' C' T' dm (.bool b') = lkR (lk T T' L M) :=
 (aS ..).trans (NV hL hM hl hm hn hn' L [] rfl)
end
end Ct
namespace Ct
open Go Go.AE
abbrev PK := Key × Key
abbrev K10 : List Kd := [.int .i64, .int .i64, .int .i64, .int .i64, .int .i64, .int .i64, .int .i64, .int .i64, .int .i64, .int .i64]
def C5 (p : PK) : List D := [.int p.1.1, .int p.1.2.1, .int p.1.2.2.1, .int p.1.2.2.2.1, .int p.1.2.2.2.2, .int p.2.1, .int p.2.2.1, .int p.2.2.2.1, .int p.2.2.2.2.1, .int p.2.2.2.2.2]
def AL (ps : List PK) : D := .slc ps.isEmpty (ps.map fun p => .row (C5 p))
def BB (ps : List PK) : D := .slc false (ps.map fun p => .row (C5 p ++ [.bool true]))
theorem CN {ps : List PK} : len (AL ps) = ps.length := by unfold AL len; simp [D.rows]
theorem S1 {ps : List PK} : len (BB ps) = ps.length := by unfold BB len; simp [D.rows]
theorem A0 {ps : List PK} {j c : Nat} {p : PK} (h : ps[j]? = some p) : cl (AL ps) j c = (C5 p).getD c default := by
 show (((ps.map fun p => D.row (C5 p))[j]?).getD default).cells.getD c default = _
 rw [List.getElem?_map, h];rfl
theorem Vx {a b : PK} {l : List D} : BX K10 (C5 a ++ l) (C5 b) = decide (a = b) := by
 obtain ⟨⟨a1, a2, a3, a4, a5⟩, a6, a7, a8, a9, a10⟩ := a;obtain ⟨⟨b1, b2, b3, b4, b5⟩, b6, b7, b8, b9, b10⟩ := b;simp only [K10, C5, List.cons_append, List.nil_append, BX, Ag, Bool.and_true];rw [Bool.eq_iff_iff];simp;omega
theorem SU {ps : List PK} {p : PK} : mIx K10 (BB ps) (.row (C5 p)) = fdG (fun i => decide (ps[i]? = some p)) ps.length 0 := by
 rw [RM, S1];refine Dl fun j _ hj => ?_
 show BX K10 ((((ps.map fun p => D.row (C5 p ++ [.bool true]))[j]?).getD default).cells) (C5 p) = _
 have hj' : j < ps.length := by omega
 rw [List.getElem?_map, List.getElem?_eq_getElem hj'];show BX K10 (C5 ps[j] ++ [.bool true]) (C5 p) = _;rw [Vx];simp
def Bf (ps : List PK) (p : PK) : List PK := if p ∈ ps then ps else ps ++ [p]
theorem HJ {ps : List PK} {p : PK} : (Bf ps p).length ≤ ps.length + 1 := by
 unfold Bf;split
 ·omega
 ·simp
theorem DQ : ∀ {l ps : List PK}, (l.foldl Bf ps).length ≤ ps.length + l.length
 | [], ps => by simp
 | s :: l, ps => by
  have := DQ (l := l) (ps := Bf ps s);have := HJ (ps := ps) (p := s);simp only [List.foldl_cons, List.length_cons];omega
section
variable [An]
variable {v0 S C T v0' S' C' T' : D} {w8 w9 w11 w12 : D} {b10 b13 : Bool} {i14 i15 : Int}
theorem Pj {ps : List PK} {p : PK} (hl : ps.length < 1073741824) : HX (AL ps) (.bool ps.isEmpty) (BB ps) (.int p.1.1) (.int p.1.2.1) (.int p.1.2.2.1) (.int p.1.2.2.2.1) (.int p.1.2.2.2.2) (.int p.2.1) (.int p.2.2.1) (.int p.2.2.2.1) (.int p.2.2.2.2.1) (.int p.2.2.2.2.2) = .row [.int 1, AL (Bf ps p), .bool (Bf ps p).isEmpty, BB (Bf ps p)] := by
 rw [eK];have e : D.row [(.int p.1.1), (.int p.1.2.1), (.int p.1.2.2.1), (.int p.1.2.2.2.1), (.int p.1.2.2.2.2), (.int p.2.1), (.int p.2.2.1), (.int p.2.2.2.1), (.int p.2.2.2.2.1), (.int p.2.2.2.2.2)] = .row (C5 p) := rfl;rw [e, SU, CN];by_cases c : p ∈ ps
 ·obtain ⟨j, hj, hjk⟩ := List.getElem_of_mem c;have q := JU (p := fun i => decide (ps[i]? = some p)) (k := ps.length) (i := 0) (j := j) (by omega) (by omega) (decide_eq_true (by rw [List.getElem?_eq_getElem hj, hjk]))
  have lt := EX (p := fun i => decide (ps[i]? = some p)) (k := ps.length) (i := 0)
  have ea : Bf ps p = ps := if_pos c;rw [ifF (by omega), ea]
  have cb : ∀ i : Int, 0 ≤ i → i < ps.length → cl (BB ps) i 10 = .bool true := fun i h0 h1 => by
   show (((ps.map fun p => D.row (C5 p ++ [.bool true]))[i.toNat]?).getD default).cells.getD 10 default = _
   rw [List.getElem?_map, List.getElem?_eq_getElem (by omega)]
   rfl
  rw [cb _ q.1 (by omega)]
  rfl
 ·have q : fdG (fun i => decide (ps[i]? = some p)) ps.length 0 = -1 := Dr fun j _ hj => decide_eq_false fun h => c (List.mem_of_getElem? h)
  have ea : Bf ps p = ps ++ [p] := if_neg c;rw [ifT (by omega), ifT (by omega), ea]
  have e1 : ad (AL ps) (.row (C5 p)) = AL (ps ++ [p]) := by
   unfold AL ad;simp [D.rows]
  have e2 : ad (BB ps) (.row [(.int p.1.1), (.int p.1.2.1), (.int p.1.2.2.1), (.int p.1.2.2.2.1), (.int p.1.2.2.2.2), (.int p.2.1), (.int p.2.2.1), (.int p.2.2.2.1), (.int p.2.2.2.2.1), (.int p.2.2.2.2.2), .bool true]) = BB (ps ++ [p]) := by
   unfold BB ad;simp [D.rows, C5]
  rw [e1, e2];simp
omit [An] in
theorem Pd {k : Key} : ∀ s ∈ enl S C T k, s < len T := fun s h => (Bv h).1
omit [An] in
theorem Nt {k : Key} {r : Bool} : ∀ s ∈ prt T (enl S C T k) r, s < len T := fun s h => Pd s (List.mem_filter.1 h).1
omit [An] in
theorem FA {k : Key} {r : Bool} : ∀ s ∈ prt T (enl S C T k) r, s < len T ∧ en S C T k s = true := fun s h => Bv (List.mem_filter.1 h).1
omit [An] in
theorem BQ (hR : Rk S C T) {k : Key} {r : Bool} : (prt T (enl S C T k) r).length ≤ 20 := by
 have := M2 (T := T) (L := enl S C T k) (r := r);have := DO (S := S) (C := C) (T := T) (k := k);have := hR.t1;omega
theorem K9 (hR : Rk S C T) (hR' : Rk S' C' T') {p : PK} (hk : KOk S C p.1) (hk' : KOk S' C' p.2) {r : Bool} : ∃ da db fa fb, NL (prt T (enl S C T p.1) r) da ∧ NL (prt T' (enl S' C' T' p.2) r) db ∧
  Mr v0 S C T v0' S' C' T' w8 w9 (.bool b10) w11 w12 (.bool b13) (.int i14) (.int i15) (.int p.1.1) (.int p.1.2.1) (.int p.1.2.2.1) (.int p.1.2.2.2.1) (.int p.1.2.2.2.2) (.int p.2.1) (.int p.2.2.1) (.int p.2.2.2.1) (.int p.2.2.2.2.1) (.int p.2.2.2.2.2) (.bool r) = .row [.int 1, da, .bool fa, db, .bool fb] := by
 have ht := hR.t1;have ht' := hR'.t1;have l1 := DO (S := S) (C := C) (T := T) (k := p.1);have l2 := DO (S := S') (C := C') (T := T') (k := p.2);obtain ⟨da, a1, a2⟩ := TH (v0 := v0) (S := S) (C := C) (T := T) (L := enl S C T p.1) (b := (enl S C T p.1).isEmpty) (r := r) Pd (by omega)
 obtain ⟨db, b1, b2⟩ := TH (v0 := v0') (S := S') (C := C') (T := T') (L := enl S' C' T' p.2) (b := (enl S' C' T' p.2).isEmpty) (r := r) Pd (by omega)
 refine ⟨da, db, (enl S C T p.1).isEmpty, (enl S' C' T' p.2).isEmpty, a1, b1, ?_⟩;rw [dI (h0 := rfl) (h1 := rfl), Nn hR hk, Nn hR' hk'];dsimp +instances only [As, Au, Ag, Ai];rw [a2, b2];rfl
def flt (S C T S' C' T' : D) (p : PK) : Nat × Nat :=
 match lk T T' (prt T (enl S C T p.1) true) (prt T' (enl S' C' T' p.2) true) with
 | some s => (1, s)
 | none => match lk T' T (prt T' (enl S' C' T' p.2) false) (prt T (enl S C T p.1) false) with
  | some s => (2, s)
  | none => if 0 < (prt T (enl S C T p.1) false).length ∧ (prt T' (enl S' C' T' p.2) false).length = 0 then (3, 0)
   else if (cl S p.1.1 1).toBool = (cl S' p.2.1 1).toBool then (0, 0) else (4, 0)
theorem Ua (hR : Rk S C T) (hR' : Rk S' C' T') {p : PK} (hk : KOk S C p.1) (hk' : KOk S' C' p.2) :
  UQ v0 S C T v0' S' C' T' w8 w9 (.bool b10) w11 w12 (.bool b13) (.int i14) (.int i15) (.int p.1.1) (.int p.1.2.1) (.int p.1.2.2.1) (.int p.1.2.2.2.1) (.int p.1.2.2.2.2) (.int p.2.1) (.int p.2.2.1) (.int p.2.2.2.1) (.int p.2.2.2.2.1) (.int p.2.2.2.2.2) = .row [.int 1, .int ((flt S C T S' C' T' p).1 : Nat), .int ((flt S C T S' C' T' p).2 : Nat)] := by
 have s1 := hk.s0;have s2 := hk.s1;have s3 := hk'.s0;have s4 := hk'.s1;obtain ⟨da, db, fa, fb, a1, a2, a3⟩ := K9 (v0 := v0) (v0' := v0') (w8 := w8) (w9 := w9) (w11 := w11) (w12 := w12) (b10 := b10) (b13 := b13) (i14 := i14) (i15 := i15) hR hR' hk hk' (r := true);obtain ⟨dc, dd, fc, fd, c1, c2, c3⟩ := K9 (v0 := v0) (v0' := v0') (w8 := w8) (w9 := w9) (w11 := w11) (w12 := w12) (b10 := b10) (b13 := b13) (i14 := i14) (i15 := i15) hR hR' hk hk' (r := false);have m1 : ∀ r, (prt T (enl S C T p.1) r).length < 1000 := fun r => by have := BQ hR (k := p.1) (r := r); omega
 have m2 : ∀ r, (prt T' (enl S' C' T' p.2) r).length < 1000 := fun r => by have := BQ hR' (k := p.2) (r := r); omega
 rw [dL (h0 := rfl) (h1 := rfl), a3, c3];dsimp +instances only [As, Au, Ag, Ai];rw [ifT (by rfl), Vu Nt Nt a1 a2 (m1 _) (m2 _)]
 unfold flt;cases lk T T' (prt T (enl S C T p.1) true) (prt T' (enl S' C' T' p.2) true) with
 | some s => rfl
 | none =>
  unfold lkR;dsimp +instances only [As, Au, Ag, Ai];rw [ifT (by rfl), cond_false, ifT (by rfl), Vu Nt Nt c2 c1 (m2 _) (m1 _)]
  cases lk T' T (prt T' (enl S' C' T' p.2) false) (prt T (enl S C T p.1) false) with
  | some s => rfl
  | none =>
   unfold lkR;dsimp +instances only [As, Au, Ag, Ai];rw [ifT (by rfl), cond_false, c1.l, c2.l]
   have fin : cond (decide (p.1.1 < 0)) (.row []) (cond (decide (p.1.1 < (len S : Int))) (cond (decide (p.2.1 < 0)) (.row []) (cond (decide (p.2.1 < (len S' : Int))) (cond ((cl S p.1.1 1).toBool) (cond ((cl S' p.2.1 1).toBool) (D.row [.int 1, (.int 0), (.int 0)]) (.row [.int 1, (.int 4), (.int 0)])) (cond ((cl S' p.2.1 1).toBool) (.row [.int 1, (.int 4), (.int 0)]) (.row [.int 1, (.int 0), (.int 0)]))) (.row []))) (.row [])) =
     .row [.int 1, .int (((if (cl S p.1.1 1).toBool = (cl S' p.2.1 1).toBool then ((0, 0) : Nat × Nat) else (4, 0)).1 : Nat)), .int (((if (cl S p.1.1 1).toBool = (cl S' p.2.1 1).toBool then ((0, 0) : Nat × Nat) else (4, 0)).2 : Nat))] := by
    rw [ifF (by omega), ifT (by omega), ifF (by omega), ifT (by omega)]
    cases (cl S p.1.1 1).toBool <;> cases (cl S' p.2.1 1).toBool <;> rfl
   by_cases q1 : 0 < (prt T (enl S C T p.1) false).length
   ·rw [ifT (by omega)]
    by_cases q2 : (prt T' (enl S' C' T' p.2) false).length = 0
    ·rw [ifT (by omega), if_pos ⟨q1, q2⟩]
     rfl
    ·rw [ifF (by omega), if_neg (fun c => q2 c.2)]
     exact fin
   ·rw [ifF (by omega), if_neg (fun c => q1 c.1)]
    exact fin
omit [An] in
theorem Cf.st (hR : Rk S C T) {k : Key} (hk : KOk S C k) {t x : D} (hx : Cf S C k t x) : fd S t = k.1 := by
 have s0 := hk.s0;have s1 := hk.s1;have i1 := hR.sid k.1.toNat (by omega)
 rw [show ((k.1.toNat : Nat) : Int) = k.1 by omega] at i1
 rw [← i1];unfold fd;refine Dl fun j _ _ => ?_
 show D.strEq (cl S j 0) t = D.strEq (cl S j 0) (cl S k.1 0);rw [AZ (b := cl S k.1 0), H7 hx.t, AZ]
end
end Ct

