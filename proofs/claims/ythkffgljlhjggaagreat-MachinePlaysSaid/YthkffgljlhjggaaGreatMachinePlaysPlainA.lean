/- What is proved: what the plain functions over data say, whose trees the text before writes out: the law MachinePlays answers true. Conditions: those that each theorem states. -/
import Derived.Test.YthkffgljlhjggaaGreatMachinePlaysTree
set_option linter.unusedVariables false
set_option linter.unusedSectionVars false
set_option linter.unusedSimpArgs false
namespace Go.AE
section
variable [Am]
def atV (Ts : List (List (Tr Plf))) (xs : List D) : Val := Iy (Ak Ts) xs
def fin (Ts : List (List (Tr Plf))) (k : Nat) (V : Val) : Plf → D
 | .stuck => .row []
 | .done s cs => .row (.int (s + 1 : Nat) :: cs.map (Ab V))
 | .next j θ => Ak Ts k (.row (.int j :: θ.map (Ab V)))
def Qa (Ts : List (List (Tr Plf))) (k : Nat) (V : Val) (t : Tr Plf) : D := fin Ts k V (t.get V)
theorem lU {Ts : List (List (Tr Plf))} (h : DJ 0 Ts = true) {k p : Nat} {T : List (Tr Plf)} {t : Tr Plf} {xs : List D} (hk : Ts[k]? = some T) (hp : T[p]? = some t) :
  Ak Ts k (.row (.int (p : Nat) :: xs)) = Qa Ts k (atV Ts xs) t := by
 have hd : BA T (Ak Ts) (.row (.int (p : Nat) :: xs)) = B8 (atV Ts xs) (t.get (atV Ts xs)) := by
  show (match T[p]? with | some t => B8 _ (t.get _) | none => none) = _
  rw [hp];rfl
 unfold Qa fin;split
 ·rename_i e;rw [e] at hd;rw [Al h hk];rcases Ec (BA T (Ak Ts)) (.row (.int (p : Nat) :: xs)) with q | ⟨n, q⟩
  ·exact q
  ·cases n with
   | zero => cases q
   | succ n =>
    simp only [E7, hd] at q;cases q
 ·rename_i e;rw [e] at hd;rw [Al h hk];exact Ph hd
 ·rename_i e;rw [e] at hd;rw [Al h hk, Oj hd, ← Al h hk]
theorem QT {Ts : List (List (Tr Plf))} {k : Nat} {V : Val} {e : SB} {a b : Tr Plf} : Qa Ts k V (.split e a b) = if Af V e = true then Qa Ts k V a else Qa Ts k V b := by
 unfold Qa;rw [show (Tr.split e a b).get V = match Af V e with | true => a.get V | false => b.get V from rfl]
 cases Af V e <;> rfl
end
theorem AH {a : Int} (h : -9223372036854775808 ≤ a) (h' : a < 9223372036854775808) : IntKind.wrap .i64 a = a := by
 show (if (true && decide (a % (2 ^ 64 : Int) ≥ 2 ^ 63)) = true then a % (2 ^ 64 : Int) - 2 ^ 64 else a % (2 ^ 64 : Int)) = a
 split
 ·rename_i q;simp only [Bool.true_and, decide_eq_true_eq] at q;omega
 ·rename_i q;simp only [Bool.true_and, decide_eq_true_eq] at q;omega
def len (d : D) : Nat := d.rows.length
def A8 (d : D) : Nat := d.toStr.data.toList.length
def cl (a : D) (i : Int) (j : Nat) : D := (a.rows.getD i.toNat default).cells.getD j default
def sl (a : D) (j : Nat) : D := a.cells.getD j default
def Ar : D := .slc true []
def Au : D := .slc false []
def ad (a r : D) : D := .slc false (a.rows ++ [r])
def upd (a : D) (i : Int) (j : Nat) (x : D) : D := .slc a.isNil (a.rows.modify i.toNat fun r => .row (r.cells.set j x))
def ct (a b : D) : D := .slc (a.isNil && b.rows.isEmpty) (a.rows ++ b.rows)
def sb (a : D) (lo hi : Int) : D := .slc a.isNil ((a.rows.drop lo.toNat).take (hi.toNat - lo.toNat))
def ni (a : D) (b : Bool) : D := .slc b a.rows
def Cb (l b : Nat) : D := .str ⟨(Da l b).toArray⟩
def WJ (a b : D) : D := .str (a.toStr ++ b.toStr)
def O2 (a : D) : D := .slc false (a.toStr.data.toList.map fun b => .row [.int b.toNat])
def mIx (ks : List Kd) (a k : D) : Int := G3 ks k.cells a.rows 0
def J1 (a : D) (i : Int) : D := .slc a.isNil (a.rows.eraseIdx i.toNat)
def sAt (a : D) (i : Int) : Int := ((a.toStr.data.toList[i.toNat]?).getD 0).toNat
def eqC (a : D) (l b : Nat) : Bool := strEq a.toStr.data.toList.length (AC a.toStr.data.toList) l b
def ari (op : BinOp) (k : IntKind) (x y : Int) : Int := match Dp op k x y with
 | some (.int _ n) => n
 | _ => 0
theorem ifT {α : Type} {p : Prop} [Decidable p] {a b : α} (h : p) : cond (decide p) a b = a := by rw [decide_eq_true h]; rfl
theorem ifF {α : Type} {p : Prop} [Decidable p] {a b : α} (h : ¬ p) : cond (decide p) a b = b := by rw [decide_eq_false h]; rfl
theorem cT {α : Type} {c : Bool} {a b : α} (h : c = true) : cond c a b = a := by rw [h]; rfl
theorem cF {α : Type} {c : Bool} {a b : α} (h : c = false) : cond c a b = b := by rw [h]; rfl
section
variable [Am]
def DQ (Ts : List (List (Tr Plf))) (k : Nat) (V : Val) : Tr Plf → D
 | .leaf l => fin Ts k V l
 | .split e a b => cond (Af V e) (DQ Ts k V a) (DQ Ts k V b)
theorem Jf {Ts : List (List (Tr Plf))} {k : Nat} {V : Val} : ∀ t : Tr Plf, Qa Ts k V t = DQ Ts k V t
 | .leaf l => rfl
 | .split e a b => by
  rw [QT, Jf a, Jf b, DQ];cases Af V e <;> rfl
theorem ag {Ts : List (List (Tr Plf))} (h : DJ 0 Ts = true) {k p : Nat} {T : List (Tr Plf)} {t : Tr Plf} {xs : List D} (hk : Ts[k]? = some T) (hp : T[p]? = some t) :
  Ak Ts k (.row (.int (p : Nat) :: xs)) = DQ Ts k (atV Ts xs) t := (lU h hk hp).trans (Jf t)
theorem cg {Ts : List (List (Tr Plf))} {k : Nat} {V : Val} {e : SB} {a b : Tr Plf} {c : Bool} {x y : D} (h : Af V e = c) (ha : DQ Ts k V a = x) (hb : DQ Ts k V b = y) : DQ Ts k V (.split e a b) = cond c x y := by
 rw [DQ, h, ha, hb]
end
theorem lE {V : Val} {a b : SE} {x y : Int} (h : (Ab V a).toInt = x) (h' : (Ab V b).toInt = y) : Af V (.lss a b) = decide (x < y) := by rw [← h, ← h']; rfl
theorem qE {V : Val} {a b : SE} {x y : Int} (h : (Ab V a).toInt = x) (h' : (Ab V b).toInt = y) : Af V (.eql a b) = decide (x = y) := by rw [← h, ← h']; rfl
section
variable [Am]
theorem cL {Ts : List (List (Tr Plf))} {k : Nat} {V : Val} {e f : SE} {a b : Tr Plf} {m n : Int} {x y : D} (ha : DQ Ts k V a = x) (hb : DQ Ts k V b = y) (h : (Ab V e).toInt = m := by rfl) (h' : (Ab V f).toInt = n := by rfl) : DQ Ts k V (.split (.lss e f) a b) = cond (decide (m < n)) x y := cg (lE h h') ha hb
theorem cQ {Ts : List (List (Tr Plf))} {k : Nat} {V : Val} {e f : SE} {a b : Tr Plf} {m n : Int} {x y : D} (ha : DQ Ts k V a = x) (hb : DQ Ts k V b = y) (h : (Ab V e).toInt = m := by rfl) (h' : (Ab V f).toInt = n := by rfl) : DQ Ts k V (.split (.eql e f) a b) = cond (decide (m = n)) x y := cg (qE h h') ha hb
end
theorem aE {V : Val} {a b : SE} {x y : Bool} (h : Af V a = x) (h' : Af V b = y) : Af V (.and a b) = (x && y) := by rw [← h, ← h']; rfl
theorem nE {V : Val} {a : SE} {x : Bool} (h : Af V a = x) : Af V (.neg a) = (!x) := by rw [← h]; rfl
def Wd (a : D) (n : Nat) : Prop := ∀ r ∈ a.rows, ∃ cs, r = .row cs ∧ cs.length = n
theorem D7 {a x : D} {i : Int} {j : Nat} : len (upd a i j x) = len a := by
 show (a.rows.modify _ _).length = _;simp [len]
theorem B6 {a r : D} : len (ad a r) = len a + 1 := by
 show (a.rows ++ [r]).length = _;simp [len]
theorem BZ : len Ar = 0 := rfl
theorem Nt {a : D} {b : Bool} : len (ni a b) = len a := rfl
theorem UL {a : D} {lo hi : Int} (h : lo.toNat ≤ hi.toNat) (h' : hi.toNat ≤ len a) : len (sb a lo hi) = hi.toNat - lo.toNat := by
 show ((a.rows.drop _).take _).length = _;have : hi.toNat ≤ a.rows.length := h';simp;omega
theorem AY {x : D} {l : List D} : sl (.row (x :: l)) 0 = x := rfl
theorem AX {x : D} {l : List D} {n : Nat} : sl (.row (x :: l)) (n + 1) = sl (.row l) n := rfl
theorem Aw {n : Int} : (D.int n).toInt = n := rfl
theorem AJ {b : Bool} : (D.bool b).toBool = b := rfl
theorem HK {n : Nat} : Wd Ar n := fun r hr => (by cases hr)
theorem Uv {a : D} {cs : List D} {n : Nat} (h : Wd a n) (hc : cs.length = n) : Wd (ad a (.row cs)) n := by
 intro r hr;have hr : r ∈ a.rows ++ [.row cs] := hr;rcases List.mem_append.1 hr with q | q
 ·exact h r q
 ·exact ⟨cs, List.mem_singleton.1 q, hc⟩
theorem Es {a x : D} {i : Int} {j n : Nat} (h : Wd a n) : Wd (upd a i j x) n := by
 intro r hr;have hr' : r ∈ a.rows.modify i.toNat fun r => .row (r.cells.set j x) := hr
 obtain ⟨k, hk, e⟩ := List.getElem_of_mem hr';rw [List.getElem_modify] at e;have hk' : k < a.rows.length := by simpa using hk
 obtain ⟨cs, hc, hn⟩ := h _ (List.getElem_mem hk');split at e
 ·rw [hc] at e;exact ⟨_, e.symm, by simp [D.cells, hn]⟩
 ·exact ⟨cs, by rw [← e]; exact hc, hn⟩
theorem ES {a x : D} {i k : Int} {j j' n : Nat} (h : Wd a n) (hj : j < n) (hi : 0 ≤ i) (hi' : i < len a) (hk : 0 ≤ k) : cl (upd a i j x) k j' = if k = i ∧ j' = j then x else cl a k j' := by
 have hi2 : i.toNat < a.rows.length := by have : len a = a.rows.length := rfl; omega
 show ((a.rows.modify i.toNat fun r => D.row (r.cells.set j x))[k.toNat]?.getD default).cells.getD j' default = _
 rw [List.getElem?_modify];by_cases q : k = i
 ·subst q;obtain ⟨cs, hc, hn⟩ := h _ (List.getElem_mem hi2);rw [List.getElem?_eq_getElem hi2];show ((if k.toNat = k.toNat then D.row ((a.rows[k.toNat]).cells.set j x) else a.rows[k.toNat]).cells[j']?).getD default = _
  rw [if_pos rfl, hc];show ((cs.set j x)[j']?).getD default = _;rw [List.getElem?_set];by_cases q' : j = j'
  ·subst q';rw [if_pos rfl, if_pos (by omega), if_pos ⟨rfl, rfl⟩]
   rfl
  ·rw [if_neg q', if_neg (fun c => q' c.2.symm)]
   show _ = (a.rows[k.toNat]?.getD default).cells.getD j' default;rw [List.getElem?_eq_getElem hi2, Option.getD_some, hc];rfl
 ·have q2 : ¬ i.toNat = k.toNat := by omega
  rw [if_neg (fun c => q c.1)]
  simp [q2, cl]
theorem Dc {a r : D} {k : Int} {j : Nat} (hk : 0 ≤ k) : cl (ad a r) k j = if k = len a then sl r j else cl a k j := by
 have hl : len a = a.rows.length := rfl;show ((a.rows ++ [r])[k.toNat]?.getD default).cells.getD j default = _;by_cases q : k.toNat < a.rows.length
 ·rw [List.getElem?_append_left q, if_neg (by omega)]
  rfl
 ·by_cases q' : k = len a
  ·subst q';rw [if_pos rfl];have : ((len a : Int)).toNat = a.rows.length := by omega
   rw [this];simp [sl]
  ·rw [if_neg q', List.getElem?_eq_none (by simp; omega)]
   show _ = (a.rows[k.toNat]?.getD default).cells.getD j default;rw [List.getElem?_eq_none (by omega)]
theorem UC {a : D} {b : Bool} {k : Int} {j : Nat} : cl (ni a b) k j = cl a k j := rfl
theorem Vo {P : Program} {ts : List TypeId} {xs : List D} {ks : List Kd} (h : HP P ts xs) (hk : AN (Env.of P) ts = some ks) : ks.length = xs.length ∧ LW (Env.of P).kinds 9 ks xs := by
 obtain ⟨ks', cs, M, e, hd, _, hc⟩ := h;rw [hk] at e;cases e;exact ⟨hd.len.2, hc⟩
theorem Qg {x c : Int} {l : List D} (h : x ≠ c) : ¬ (sl (.row (.int x :: l)) 0).toInt = c := h
theorem Ew.cell {K : TypeId → Option (List Kd)} {m j : Nat} {e : TypeId} {ks : List Kd} {kd : Kd} {d : D} {i : Int} (h : Ew K (m + 1) (.slice e) d) (hk : K e = some ks) (h0 : 0 ≤ i) (hi : i < len d) (hj : ks[j]? = some kd) : Ew K m kd (cl d i j) := by
 obtain ⟨nl, rows, rfl, _, q⟩ := h;have hi' : i.toNat < rows.length := by have : len (.slc nl rows) = rows.length := rfl; omega
 obtain ⟨cs, e1, _, e3⟩ := q ks hk _ (List.getElem_mem hi');show Ew K m kd ((rows[i.toNat]?.getD default).cells.getD j default);rw [List.getElem?_eq_getElem hi', Option.getD_some, e1];exact e3 j kd hj
theorem Ew.toI {K : TypeId → Option (List Kd)} {m : Nat} {k : IntKind} {d : D} (h : Ew K m (.int k) d) : ∃ n, d = .int n := by cases m <;> exact h
theorem Ew.toB {K : TypeId → Option (List Kd)} {m : Nat} {d : D} (h : Ew K m .bool d) : ∃ b, d = .bool b := by cases m <;> exact h
theorem Ew.toS {K : TypeId → Option (List Kd)} {m : Nat} {d : D} (h : Ew K m .str d) : ∃ s, d = .str s := by cases m <;> exact h
theorem Ew.wd {K : TypeId → Option (List Kd)} {m : Nat} {e : TypeId} {ks : List Kd} {d : D} (h : Ew K (m + 1) (.slice e) d) (hk : K e = some ks) : Wd d ks.length := by
 obtain ⟨nl, rows, rfl, _, q⟩ := h;intro r hr;obtain ⟨cs, e1, e2, _⟩ := q ks hk r hr;exact ⟨cs, e1, e2⟩
def fdG (p : Nat → Bool) : Nat → Nat → Int
 | 0, _ => -1
 | k + 1, i => cond (p i) (i : Int) (fdG p k (i + 1))
theorem LH {p : Nat → Bool} : ∀ {k i : Nat}, fdG p k i < i + k
 | 0, i => by show (-1 : Int) < _; omega
 | k + 1, i => by
  rw [fdG];have := LH (p := p) (k := k) (i := i + 1);cases p i
  ·show fdG p k (i + 1) < _; omega
  ·show (i : Int) < _; omega
theorem NT {p : Nat → Bool} : ∀ {k i : Nat}, fdG p k i = -1 ∨ (i : Int) ≤ fdG p k i
 | 0, i => .inl rfl
 | k + 1, i => by
  rw [fdG];cases p i
  ·show fdG p k (i + 1) = _ ∨ _ ≤ fdG p k (i + 1);rcases NT (p := p) (k := k) (i := i + 1) with h | h
   ·exact .inl h
   ·exact .inr (by omega)
  ·exact .inr (Int.le_refl _)
theorem NO {p : Nat → Bool} : ∀ {k i : Nat}, 0 ≤ fdG p k i → p (fdG p k i).toNat = true
 | 0, i => fun h => by simp [fdG] at h
 | k + 1, i => by
  rw [fdG];cases q : p i
  ·exact NO (k := k)
  ·intro _;show p i = true;exact q
theorem P1 {p : Nat → Bool} : ∀ {k i j : Nat}, i ≤ j → j < i + k → p j = true → 0 ≤ fdG p k i ∧ fdG p k i ≤ j
 | 0, i, j => fun h h' => by omega
 | k + 1, i, j => by
  intro h h' hp;rw [fdG];cases q : p i
  ·have : i ≠ j := fun c => by rw [c, hp] at q; cases q
   exact P1 (k := k) (by omega) (by omega) hp
  ·show 0 ≤ (i : Int) ∧ (i : Int) ≤ j; omega
theorem Li {p : Nat → Bool} {k i j : Nat} (h : i ≤ j) (h' : (j : Int) < fdG p k i ∨ (fdG p k i < 0 ∧ j < i + k)) : p j = false := by
 cases q : p j
 ·rfl
 ·have := LH (p := p) (k := k) (i := i);have := P1 (p := p) (k := k) h (by omega) q
  omega
theorem WB {p : Nat → Bool} {k i : Nat} (h : ∀ j, i ≤ j → j < i + k → p j = false) : fdG p k i = -1 := by
 rcases NT (p := p) (k := k) (i := i) with q | q
 ·exact q
 ·have a := NO (p := p) (k := k) (i := i) (by omega)
  rw [h _ (by omega) (by have := LH (p := p) (k := k) (i := i); omega)] at a
  cases a
theorem II {p q : Nat → Bool} : ∀ {k i : Nat}, (∀ j, i ≤ j → j < i + k → p j = q j) → fdG p k i = fdG q k i
 | 0, i, h => rfl
 | k + 1, i, h => by
  rw [fdG, fdG, h i (Nat.le_refl _) (by omega), II fun j a b => h j (by omega) (by omega)]
theorem YC {F : Nat → D} {bad : Nat → Bool} {B : Nat → D} {n : Nat} : ∀ {k i : Nat}, i + k = n → (∀ j, i ≤ j → j < n → F j = cond (bad j) (B j) (F (j + 1))) → F i = cond (decide (fdG bad k i < 0)) (F n) (B (fdG bad k i).toNat)
 | 0, i => fun h _ => by
  have : i = n := by omega
  subst this;rfl
 | k + 1, i => fun h hs => by
  rw [hs i (Nat.le_refl _) (by omega), fdG]
  cases bad i
  ·exact YC (by omega) fun j a b => hs j (by omega) b
  ·show B i = cond (decide ((i : Int) < 0)) _ (B (i : Int).toNat);rw [ifF (by omega)]
   rfl
theorem Ly {F : Nat → D} {bad : Nat → Bool} {B : Nat → D} {n : Nat} (hs : ∀ j, j < n → F j = cond (bad j) (B j) (F (j + 1))) : F 0 = cond (decide (fdG bad n 0 < 0)) (F n) (B (fdG bad n 0).toNat) := YC (by omega) fun j _ b => hs j b
theorem find {F : Nat → D} {bad : Nat → Bool} {n : Nat} (hs : ∀ j, j < n → F j = cond (bad j) (.row [.int 1, .int (j : Nat)]) (F (j + 1))) (hr : F n = .row [.int 1, .int (-1)]) : F 0 = .row [.int 1, .int (fdG bad n 0)] := by
 rw [Ly hs, hr];have h := NT (p := bad) (k := n) (i := 0);by_cases q : fdG bad n 0 < 0
 ·rw [ifT q];rcases h with h | h
  ·rw [h]
  ·omega
 ·rw [ifF q];have : ((fdG bad n 0).toNat : Int) = fdG bad n 0 := by omega
  rw [this]
theorem Bz {i : Nat} (h : i < 4611686018427387904) : IntKind.wrap .i64 ((i : Int) + 1) = ((i + 1 : Nat) : Int) := by rw [AH (by omega) (by omega)]; omega
theorem Lz {α : Type} {c : Bool} {a b x : α} (h1 : c = true → a = x) (h2 : c = false → b = x) : cond c a b = x := by
 cases c
 ·exact h2 rfl
 ·exact h1 rfl
theorem dT {p : Prop} [Decidable p] (h : decide p = true) : p := of_decide_eq_true h
theorem dF {p : Prop} [Decidable p] (h : decide p = false) : ¬ p := of_decide_eq_false h
theorem Sv {x y : Int} : decide (x = y) = decide (y = x) := decide_eq_decide.2 eq_comm
theorem CU {a : D} : D.strEq a a = true := by
 show (Nat.beq _ _ && Nat.beq _ _) = true;simp
theorem BE {a b : D} : D.strEq a b = D.strEq b a := Mt (U := Gj) _ _ _ _
theorem Ep {a : D} : eqC a 0 0 = decide (A8 a = 0) := by
 show (Nat.beq _ 0 && Nat.beq _ 0) = _;show _ = decide (a.toStr.data.toList.length = 0);cases a.toStr.data.toList <;> simp [AC]
theorem TT {a b : D} : A8 (WJ a b) = A8 a + A8 b := by
 show (a.toStr ++ b.toStr).data.toList.length = _;simp [A8]
theorem QD {a b : D} : eqC (WJ a b) 0 0 = (eqC a 0 0 && eqC b 0 0) := by
 rw [Ep, Ep, Ep, TT, Bool.eq_iff_iff];simp
theorem Ds {a b : D} : D.strEq a b = true ↔ a.toStr = b.toStr := by
 show AE.strEq _ _ _ _ = true ↔ _;rw [Cf (U := Gj)];constructor
 ·intro h;rw [ByteArray.toList_eq, ByteArray.toList_eq] at h;have : a.toStr.data.toList = b.toStr.data.toList := by simpa only [beq_iff_eq] using h
  exact ByteArray.ext (Array.toList_inj.1 this)
 ·intro h;rw [h];simp
theorem N1 {a b c : D} (h : D.strEq a b = true) (h' : D.strEq b c = true) : D.strEq a c = true := Ds.2 ((Ds.1 h).trans (Ds.1 h'))
theorem Iu {a b c : D} (h : D.strEq a b = true) : D.strEq a c = D.strEq b c := by
 show AE.strEq _ _ _ _ = AE.strEq _ _ _ _;rw [Ds.1 h]
theorem KJ {a : D} {i : Nat} {j c : Nat} (hi : i ≤ len a) (hj : j < i) : cl (sb a 0 i) j c = cl a j c := by
 have hi' : i ≤ a.rows.length := hi;show (((a.rows.drop 0).take (i - 0)).getD j default).cells.getD c default = (a.rows.getD j default).cells.getD c default;rw [List.getD_eq_getElem?_getD, List.getD_eq_getElem?_getD, List.getElem?_take];simp [hj]
theorem ShK.cell {K : TypeId → Option (List Kd)} {o : Option Nat} {m j : Nat} {e : TypeId} {ks : List Kd} {kd : Kd} {d : D} {i : Nat} (h : ShK K o (m + 1) (.slice e) d) (hk : K e = some ks) (hi : i < len d) (hj : ks[j]? = some kd) : ShK K o m kd (cl d i j) := h.2 ks hk i hi j kd hj
theorem ShK.rows {K : TypeId → Option (List Kd)} {b m : Nat} {e : TypeId} {d : D} (h : ShK K (some b) (m + 1) (.slice e) d) : len d ≤ b := h.1 b rfl
theorem ShK.text {K : TypeId → Option (List Kd)} {b m : Nat} {d : D} (h : ShK K (some b) m .str d) : A8 d ≤ b := by
 have : leB (some b) (A8 d) := by cases m <;> exact h
 exact this b rfl
end Go.AE
set_option maxRecDepth 100000
namespace Mp
open Go Go.AE
theorem lt : DJ 0 ts = true := by decide
theorem gw [Am] {k p : Nat} {T : List (Tr Plf)} {t : Tr Plf} {xs : List D} {x : D} (hk : ts[k]? = some T) (hp : T[p]? = some t) (h : DQ ts k (atV ts xs) t = x) : Ak ts k (.row (.int (p : Nat) :: xs)) = x := (ag lt hk hp).trans h
section
variable [Am]
def Uc (v0 v1 v2 v3 : D) : D := Ak ts 0 (.row [.int (0 : Nat), v0, v1, v2, v3])
def U1 (v0 v1 v2 v3 v4 : D) : D := Ak ts 0 (.row [.int (1 : Nat), v0, v1, v2, v3, v4])
def S5 (v0 v1 v2 v3 v4 : D) : D := Ak ts 0 (.row [.int (2 : Nat), v0, v1, v2, v3, v4])
def TL (v0 v1 v2 v3 v4 : D) : D := Ak ts 0 (.row [.int (3 : Nat), v0, v1, v2, v3, v4])
def N8 : D := Ak ts 1 (.row [.int (0 : Nat)])
def Gz (v0 : D) : D := Ak ts 2 (.row [.int (0 : Nat), v0])
def Qe (v0 v1 v2 : D) : D := Ak ts 2 (.row [.int (1 : Nat), v0, v1, v2])
def UY (v0 v1 : D) : D := Ak ts 3 (.row [.int (0 : Nat), v0, v1])
def Wy (v0 v1 v2 : D) : D := Ak ts 3 (.row [.int (1 : Nat), v0, v1, v2])
def Wg (v0 v1 v2 v3 v4 v5 v6 : D) : D := Ak ts 4 (.row [.int (0 : Nat), v0, v1, v2, v3, v4, v5, v6])
def TC (v0 v1 v2 v3 v4 v5 : D) : D := Ak ts 4 (.row [.int (1 : Nat), v0, v1, v2, v3, v4, v5])
def IqQ (v0 v1 : D) : D := Ak ts 5 (.row [.int (0 : Nat), v0, v1])
def Xs (v0 v1 v2 : D) : D := Ak ts 5 (.row [.int (1 : Nat), v0, v1, v2])
def UG (v0 v1 v2 v3 v4 v5 v6 : D) : D := Ak ts 6 (.row [.int (0 : Nat), v0, v1, v2, v3, v4, v5, v6])
def S3 (v0 v1 v2 v3 v4 v5 : D) : D := Ak ts 6 (.row [.int (1 : Nat), v0, v1, v2, v3, v4, v5])
def ZH (v0 v1 v2 v3 v4 v5 v6 v7 v8 v9 : D) : D := Ak ts 7 (.row [.int (0 : Nat), v0, v1, v2, v3, v4, v5, v6, v7, v8, v9])
def TK (v0 v1 v2 v3 v4 v5 v6 v7 v8 v9 v10 : D) : D := Ak ts 7 (.row [.int (1 : Nat), v0, v1, v2, v3, v4, v5, v6, v7, v8, v9, v10])
def T2 (v0 v1 v2 v3 v4 v5 v6 : D) : D := Ak ts 8 (.row [.int (0 : Nat), v0, v1, v2, v3, v4, v5, v6])
def Hx (v0 v1 v2 v3 v4 v5 : D) : D := Ak ts 8 (.row [.int (1 : Nat), v0, v1, v2, v3, v4, v5])
def T8 (v0 v1 v2 v3 : D) : D := Ak ts 9 (.row [.int (0 : Nat), v0, v1, v2, v3])
def DF (v0 v1 v2 : D) : D := Ak ts 10 (.row [.int (0 : Nat), v0, v1, v2])
def Rl (v0 v1 v2 v3 : D) : D := Ak ts 10 (.row [.int (1 : Nat), v0, v1, v2, v3])
def Cs (v0 : D) : D := Ak ts 11 (.row [.int (0 : Nat), v0])
def Rp (v0 v1 v2 v3 : D) : D := Ak ts 11 (.row [.int (1 : Nat), v0, v1, v2, v3])
def A6 (v0 : D) : D := Ak ts 12 (.row [.int (0 : Nat), v0])
def A5 (v0 : D) : D := Ak ts 13 (.row [.int (0 : Nat), v0])
def A4 (v0 : D) : D := Ak ts 14 (.row [.int (0 : Nat), v0])
def By (v0 v1 v2 : D) : D := Ak ts 15 (.row [.int (0 : Nat), v0, v1, v2])
def Pd (v0 v1 v2 v3 v4 v5 : D) : D := Ak ts 15 (.row [.int (1 : Nat), v0, v1, v2, v3, v4, v5])
def Ha (v0 v1 v2 v3 v4 v5 : D) : D := Ak ts 16 (.row [.int (0 : Nat), v0, v1, v2, v3, v4, v5])
def DS (v0 v1 v2 v3 v4 v5 : D) : D := Ak ts 17 (.row [.int (0 : Nat), v0, v1, v2, v3, v4, v5])
def EE (v0 v1 v2 v3 v4 v5 v6 : D) : D := Ak ts 19 (.row [.int (0 : Nat), v0, v1, v2, v3, v4, v5, v6])
def JS (v0 v1 v2 v3 v4 v5 : D) : D := Ak ts 19 (.row [.int (1 : Nat), v0, v1, v2, v3, v4, v5])
def FP (v0 v1 v2 v3 v4 v5 v6 : D) : D := Ak ts 20 (.row [.int (0 : Nat), v0, v1, v2, v3, v4, v5, v6])
def G6 (v0 v1 v2 v3 v4 v5 v6 v7 v8 v9 v10 v11 v12 v13 v14 v15 v16 v17 v18 : D) : D := Ak ts 21 (.row [.int (0 : Nat), v0, v1, v2, v3, v4, v5, v6, v7, v8, v9, v10, v11, v12, v13, v14, v15, v16, v17, v18])
def Dg (v0 v1 v2 v3 v4 v5 v6 v7 v8 v9 v10 v11 v12 v13 v14 v15 v16 v17 v18 v19 v20 : D) : D := Ak ts 22 (.row [.int (0 : Nat), v0, v1, v2, v3, v4, v5, v6, v7, v8, v9, v10, v11, v12, v13, v14, v15, v16, v17, v18, v19, v20])
def RI (v0 v1 v2 v3 : D) : D := Ak ts 23 (.row [.int (0 : Nat), v0, v1, v2, v3])
def De (v0 : D) : D := Ak ts 24 (.row [.int (0 : Nat), v0])
def JK (v0 v1 : D) : D := Ak ts 24 (.row [.int (1 : Nat), v0, v1])
def HM (v0 v1 v2 v3 v4 : D) : D := Ak ts 25 (.row [.int (0 : Nat), v0, v1, v2, v3, v4])
def Rs (v0 v1 v2 v3 v4 v5 : D) : D := Ak ts 25 (.row [.int (1 : Nat), v0, v1, v2, v3, v4, v5])
def He (v0 v1 v2 v3 v4 : D) : D := Ak ts 26 (.row [.int (0 : Nat), v0, v1, v2, v3, v4])
def SF (v0 v1 v2 v3 v4 v5 : D) : D := Ak ts 26 (.row [.int (1 : Nat), v0, v1, v2, v3, v4, v5])
def Rm (v0 v1 v2 v3 v4 : D) : D := Ak ts 27 (.row [.int (0 : Nat), v0, v1, v2, v3, v4])
def FqQ (v0 v1 v2 v3 v4 v5 v6 v7 v8 v9 v10 v11 v12 v13 v14 v15 : D) : D := Ak ts 27 (.row [.int (1 : Nat), v0, v1, v2, v3, v4, v5, v6, v7, v8, v9, v10, v11, v12, v13, v14, v15])
def Ps (v0 v1 v2 v3 : D) : D := Ak ts 28 (.row [.int (0 : Nat), v0, v1, v2, v3])
def JN (v0 v1 v2 v3 v4 : D) : D := Ak ts 28 (.row [.int (1 : Nat), v0, v1, v2, v3, v4])
def Jt (v0 v1 v2 v3 v4 : D) : D := Ak ts 28 (.row [.int (2 : Nat), v0, v1, v2, v3, v4])
def Jk (v0 v1 v2 v3 v4 : D) : D := Ak ts 28 (.row [.int (3 : Nat), v0, v1, v2, v3, v4])
def Oq (v0 : D) : D := Ak ts 29 (.row [.int (0 : Nat), v0])
def Pa (v0 v1 v2 v3 v4 v5 : D) : D := Ak ts 29 (.row [.int (1 : Nat), v0, v1, v2, v3, v4, v5])
def RC (v0 v1 v2 v3 v4 v5 v6 : D) : D := Ak ts 29 (.row [.int (2 : Nat), v0, v1, v2, v3, v4, v5, v6])
def SG (v0 v1 v2 v3 : D) : D := Ak ts 30 (.row [.int (0 : Nat), v0, v1, v2, v3])
def DU (v0 v1 v2 : D) : D := Ak ts 31 (.row [.int (0 : Nat), v0, v1, v2])
def Pm (v0 v1 : D) : D := Ak ts 32 (.row [.int (0 : Nat), v0, v1])
def OR (v0 v1 : D) : D := Ak ts 33 (.row [.int (0 : Nat), v0, v1])
def CZ (v0 v1 : D) : D := Ak ts 34 (.row [.int (0 : Nat), v0, v1])
def Vb (v0 v1 v2 v3 v4 v5 v6 v7 v8 v9 v10 v11 v12 v13 v14 v15 v16 v17 v18 v19 : D) : D := Ak ts 35 (.row [.int (0 : Nat), v0, v1, v2, v3, v4, v5, v6, v7, v8, v9, v10, v11, v12, v13, v14, v15, v16, v17, v18, v19])
def OZ (v0 v1 v2 v3 v4 v5 v6 v7 : D) : D := Ak ts 36 (.row [.int (0 : Nat), v0, v1, v2, v3, v4, v5, v6, v7])
def RQ (v0 v1 v2 v3 v4 v5 v6 v7 v8 : D) : D := Ak ts 36 (.row [.int (1 : Nat), v0, v1, v2, v3, v4, v5, v6, v7, v8])
def RO (v0 v1 v2 v3 v4 v5 v6 v7 v8 : D) : D := Ak ts 36 (.row [.int (2 : Nat), v0, v1, v2, v3, v4, v5, v6, v7, v8])
def RN (v0 v1 v2 v3 v4 v5 v6 v7 v8 : D) : D := Ak ts 36 (.row [.int (3 : Nat), v0, v1, v2, v3, v4, v5, v6, v7, v8])
def G5 (v0 v1 v2 v3 v4 : D) : D := Ak ts 39 (.row [.int (0 : Nat), v0, v1, v2, v3, v4])
def M9 (v0 v1 v2 v3 v4 v5 : D) : D := Ak ts 39 (.row [.int (1 : Nat), v0, v1, v2, v3, v4, v5])
def FN (v0 v1 v2 v3 v4 v5 v6 v7 v8 v9 v10 : D) : D := Ak ts 41 (.row [.int (0 : Nat), v0, v1, v2, v3, v4, v5, v6, v7, v8, v9, v10])
def Ss (v0 v1 v2 v3 v4 v5 v6 v7 v8 v9 v10 v11 v12 v13 v14 v15 v16 v17 v18 v19 v20 v21 v22 v23 v24 v25 v26 v27 v28 v29 : D) : D := Ak ts 42 (.row [.int (0 : Nat), v0, v1, v2, v3, v4, v5, v6, v7, v8, v9, v10, v11, v12, v13, v14, v15, v16, v17, v18, v19, v20, v21, v22, v23, v24, v25, v26, v27, v28, v29])
def K4 (v0 v1 v2 v3 v4 v5 v6 v7 v8 v9 v10 v11 v12 v13 v14 v15 v16 v17 v18 v19 v20 v21 v22 v23 v24 v25 v26 v27 v28 v29 v30 : D) : D := Ak ts 42 (.row [.int (1 : Nat), v0, v1, v2, v3, v4, v5, v6, v7, v8, v9, v10, v11, v12, v13, v14, v15, v16, v17, v18, v19, v20, v21, v22, v23, v24, v25, v26, v27, v28, v29, v30])
def Sg (v0 v1 v2 v3 v4 v5 v6 v7 v8 v9 v10 v11 v12 v13 v14 v15 v16 v17 v18 v19 v20 v21 : D) : D := Ak ts 43 (.row [.int (0 : Nat), v0, v1, v2, v3, v4, v5, v6, v7, v8, v9, v10, v11, v12, v13, v14, v15, v16, v17, v18, v19, v20, v21])
def MU (v0 v1 v2 v3 v4 v5 v6 v7 v8 v9 v10 v11 v12 v13 v14 v15 v16 v17 v18 v19 v20 v21 v22 v23 v24 : D) : D := Ak ts 43 (.row [.int (1 : Nat), v0, v1, v2, v3, v4, v5, v6, v7, v8, v9, v10, v11, v12, v13, v14, v15, v16, v17, v18, v19, v20, v21, v22, v23, v24])
def OA (v0 v1 v2 v3 v4 v5 v6 v7 v8 v9 v10 v11 v12 v13 v14 v15 v16 v17 v18 v19 : D) : D := Ak ts 44 (.row [.int (0 : Nat), v0, v1, v2, v3, v4, v5, v6, v7, v8, v9, v10, v11, v12, v13, v14, v15, v16, v17, v18, v19])
def DX (v0 v1 v2 : D) : D := Ak ts 45 (.row [.int (0 : Nat), v0, v1, v2])
def SC (v0 v1 v2 v3 : D) : D := Ak ts 45 (.row [.int (1 : Nat), v0, v1, v2, v3])
def JJ (v0 v1 v2 v3 v4 v5 v6 v7 v8 v9 v10 : D) : D := Ak ts 46 (.row [.int (0 : Nat), v0, v1, v2, v3, v4, v5, v6, v7, v8, v9, v10])
def G4 (v0 v1 v2 v3 v4 v5 v6 v7 v8 v9 v10 v11 : D) : D := Ak ts 47 (.row [.int (0 : Nat), v0, v1, v2, v3, v4, v5, v6, v7, v8, v9, v10, v11])
def Ko (v0 v1 v2 v3 v4 v5 v6 v7 v8 v9 : D) : D := Ak ts 48 (.row [.int (0 : Nat), v0, v1, v2, v3, v4, v5, v6, v7, v8, v9])
def Ig (v0 v1 v2 v3 v4 v5 v6 v7 v8 v9 v10 v11 : D) : D := Ak ts 48 (.row [.int (1 : Nat), v0, v1, v2, v3, v4, v5, v6, v7, v8, v9, v10, v11])
def EY (v0 v1 : D) : D := Ak ts 49 (.row [.int (0 : Nat), v0, v1])
def Pc (v0 v1 v2 v3 v4 v5 v6 v7 v8 v9 v10 v11 v12 v13 : D) : D := Ak ts 50 (.row [.int (0 : Nat), v0, v1, v2, v3, v4, v5, v6, v7, v8, v9, v10, v11, v12, v13])
def SA (v0 v1 v2 v3 v4 v5 v6 v7 v8 v9 v10 v11 v12 v13 v14 : D) : D := Ak ts 50 (.row [.int (1 : Nat), v0, v1, v2, v3, v4, v5, v6, v7, v8, v9, v10, v11, v12, v13, v14])
def FQ (v0 v1 v2 v3 v4 v5 v6 v7 v8 v9 v10 v11 v12 v13 v14 v15 v16 v17 v18 v19 v20 v21 v22 v23 v24 v25 v26 v27 v28 v29 : D) : D := Ak ts 51 (.row [.int (0 : Nat), v0, v1, v2, v3, v4, v5, v6, v7, v8, v9, v10, v11, v12, v13, v14, v15, v16, v17, v18, v19, v20, v21, v22, v23, v24, v25, v26, v27, v28, v29])
def Mj (v0 v1 v2 v3 v4 v5 v6 v7 v8 v9 v10 v11 v12 v13 v14 v15 v16 v17 v18 v19 v20 v21 v22 v23 v24 v25 v26 v27 v28 v29 v30 : D) : D := Ak ts 51 (.row [.int (1 : Nat), v0, v1, v2, v3, v4, v5, v6, v7, v8, v9, v10, v11, v12, v13, v14, v15, v16, v17, v18, v19, v20, v21, v22, v23, v24, v25, v26, v27, v28, v29, v30])
def JO (v0 v1 : D) : D := Ak ts 53 (.row [.int (0 : Nat), v0, v1])
def FO (v0 v1 v2 v3 v4 : D) : D := Ak ts 54 (.row [.int (0 : Nat), v0, v1, v2, v3, v4])
def Gu (v0 v1 v2 v3 v4 : D) : D := Ak ts 55 (.row [.int (0 : Nat), v0, v1, v2, v3, v4])
def Rj (v0 v1 v2 v3 v4 v5 v6 : D) : D := Ak ts 55 (.row [.int (1 : Nat), v0, v1, v2, v3, v4, v5, v6])
def BF (v0 v1 v2 v3 v4 v5 v6 v7 v8 v9 v10 : D) : D := Ak ts 55 (.row [.int (2 : Nat), v0, v1, v2, v3, v4, v5, v6, v7, v8, v9, v10])
def Br (v0 v1 v2 v3 v4 : D) : D := Ak ts 56 (.row [.int (0 : Nat), v0, v1, v2, v3, v4])
def Jl (v0 v1 v2 v3 v4 : D) : D := Ak ts 56 (.row [.int (1 : Nat), v0, v1, v2, v3, v4])
def Lb (v0 v1 v2 v3 v4 v5 : D) : D := Ak ts 57 (.row [.int (0 : Nat), v0, v1, v2, v3, v4, v5])
def Lx (v0 v1 v2 v3 v4 v5 v6 v7 v8 v9 : D) : D := Ak ts 57 (.row [.int (1 : Nat), v0, v1, v2, v3, v4, v5, v6, v7, v8, v9])
def R3 (v0 v1 v2 v3 v4 v5 v6 v7 v8 v9 v10 v11 v12 v13 v14 v15 v16 v17 v18 v19 v20 v21 v22 v23 v24 v25 v26 v27 v28 v29 : D) : D := Ak ts 58 (.row [.int (0 : Nat), v0, v1, v2, v3, v4, v5, v6, v7, v8, v9, v10, v11, v12, v13, v14, v15, v16, v17, v18, v19, v20, v21, v22, v23, v24, v25, v26, v27, v28, v29])
def Kw (v0 v1 v2 v3 v4 v5 v6 v7 v8 v9 v10 v11 v12 v13 v14 v15 v16 v17 v18 v19 v20 v21 v22 v23 v24 v25 v26 v27 v28 v29 v30 : D) : D := Ak ts 58 (.row [.int (1 : Nat), v0, v1, v2, v3, v4, v5, v6, v7, v8, v9, v10, v11, v12, v13, v14, v15, v16, v17, v18, v19, v20, v21, v22, v23, v24, v25, v26, v27, v28, v29, v30])
def KU (v0 v1 v2 v3 v4 v5 v6 v7 v8 v9 v10 v11 v12 v13 v14 v15 v16 v17 v18 v19 v20 v21 v22 v23 v24 v25 : D) : D := Ak ts 59 (.row [.int (0 : Nat), v0, v1, v2, v3, v4, v5, v6, v7, v8, v9, v10, v11, v12, v13, v14, v15, v16, v17, v18, v19, v20, v21, v22, v23, v24, v25])
def Mm (v0 v1 v2 v3 v4 v5 v6 v7 v8 v9 v10 v11 v12 v13 v14 v15 v16 v17 v18 v19 v20 v21 v22 v23 v24 v25 v26 : D) : D := Ak ts 59 (.row [.int (1 : Nat), v0, v1, v2, v3, v4, v5, v6, v7, v8, v9, v10, v11, v12, v13, v14, v15, v16, v17, v18, v19, v20, v21, v22, v23, v24, v25, v26])
def O0 (v0 v1 v2 v3 v4 v5 v6 v7 v8 v9 v10 v11 v12 v13 v14 v15 v16 v17 v18 v19 v20 : D) : D := Ak ts 60 (.row [.int (0 : Nat), v0, v1, v2, v3, v4, v5, v6, v7, v8, v9, v10, v11, v12, v13, v14, v15, v16, v17, v18, v19, v20])
def SH (v0 v1 v2 v3 v4 v5 v6 v7 v8 v9 v10 : D) : D := Ak ts 61 (.row [.int (0 : Nat), v0, v1, v2, v3, v4, v5, v6, v7, v8, v9, v10])
def PA (v0 v1 v2 v3 v4 v5 v6 v7 v8 v9 v10 v11 v12 : D) : D := Ak ts 61 (.row [.int (1 : Nat), v0, v1, v2, v3, v4, v5, v6, v7, v8, v9, v10, v11, v12])
def Jv (v0 v1 v2 v3 : D) : D := Ak ts 62 (.row [.int (0 : Nat), v0, v1, v2, v3])
def RP (v0 v1 v2 v3 v4 : D) : D := Ak ts 62 (.row [.int (1 : Nat), v0, v1, v2, v3, v4])
def Ls (v0 v1 v2 v3 v4 v5 v6 v7 v8 v9 v10 v11 v12 v13 v14 v15 v16 v17 v18 v19 v20 v21 v22 v23 v24 v25 v26 v27 v28 v29 v30 v31 v32 v33 v34 : D) : D := Ak ts 63 (.row [.int (0 : Nat), v0, v1, v2, v3, v4, v5, v6, v7, v8, v9, v10, v11, v12, v13, v14, v15, v16, v17, v18, v19, v20, v21, v22, v23, v24, v25, v26, v27, v28, v29, v30, v31, v32, v33, v34])
def Lk (v0 v1 v2 v3 v4 v5 v6 v7 v8 v9 v10 v11 v12 v13 v14 v15 v16 v17 v18 v19 v20 v21 v22 v23 v24 v25 v26 v27 v28 v29 v30 v31 v32 v33 v34 v35 : D) : D := Ak ts 63 (.row [.int (1 : Nat), v0, v1, v2, v3, v4, v5, v6, v7, v8, v9, v10, v11, v12, v13, v14, v15, v16, v17, v18, v19, v20, v21, v22, v23, v24, v25, v26, v27, v28, v29, v30, v31, v32, v33, v34, v35])
def Fk (v0 v1 v2 v3 v4 v5 v6 v7 v8 v9 v10 : D) : D := Ak ts 64 (.row [.int (0 : Nat), v0, v1, v2, v3, v4, v5, v6, v7, v8, v9, v10])
def Mv (v0 v1 v2 v3 v4 v5 v6 v7 v8 v9 v10 v11 v12 v13 v14 v15 v16 v17 v18 v19 v20 v21 v22 v23 v24 v25 v26 v27 : D) : D := Ak ts 65 (.row [.int (0 : Nat), v0, v1, v2, v3, v4, v5, v6, v7, v8, v9, v10, v11, v12, v13, v14, v15, v16, v17, v18, v19, v20, v21, v22, v23, v24, v25, v26, v27])
def CD (v0 v1 v2 v3 v4 v5 v6 v7 v8 v9 v10 v11 v12 v13 v14 v15 v16 v17 v18 v19 v20 v21 : D) : D := Ak ts 66 (.row [.int (0 : Nat), v0, v1, v2, v3, v4, v5, v6, v7, v8, v9, v10, v11, v12, v13, v14, v15, v16, v17, v18, v19, v20, v21])
def PM (v0 v1 v2 v3 v4 v5 v6 v7 v8 v9 v10 : D) : D := Ak ts 67 (.row [.int (0 : Nat), v0, v1, v2, v3, v4, v5, v6, v7, v8, v9, v10])
def Cu (v0 v1 v2 v3 v4 v5 v6 v7 v8 v9 v10 v11 : D) : D := Ak ts 68 (.row [.int (0 : Nat), v0, v1, v2, v3, v4, v5, v6, v7, v8, v9, v10, v11])
def KR (v0 v1 v2 v3 v4 v5 v6 v7 v8 v9 v10 v11 v12 v13 v14 v15 v16 v17 v18 v19 v20 v21 v22 v23 v24 v25 v26 v27 v28 v29 v30 v31 : D) : D := Ak ts 69 (.row [.int (0 : Nat), v0, v1, v2, v3, v4, v5, v6, v7, v8, v9, v10, v11, v12, v13, v14, v15, v16, v17, v18, v19, v20, v21, v22, v23, v24, v25, v26, v27, v28, v29, v30, v31])
def H8 (v0 v1 v2 v3 v4 v5 v6 v7 v8 v9 v10 v11 v12 v13 v14 v15 v16 v17 v18 v19 v20 v21 v22 v23 v24 v25 v26 v27 v28 v29 v30 v31 v32 : D) : D := Ak ts 69 (.row [.int (1 : Nat), v0, v1, v2, v3, v4, v5, v6, v7, v8, v9, v10, v11, v12, v13, v14, v15, v16, v17, v18, v19, v20, v21, v22, v23, v24, v25, v26, v27, v28, v29, v30, v31, v32])
def Ml (v0 v1 v2 v3 v4 v5 v6 v7 v8 v9 v10 v11 v12 v13 v14 v15 v16 v17 v18 v19 v20 v21 v22 : D) : D := Ak ts 70 (.row [.int (0 : Nat), v0, v1, v2, v3, v4, v5, v6, v7, v8, v9, v10, v11, v12, v13, v14, v15, v16, v17, v18, v19, v20, v21, v22])
def M4 (v0 v1 v2 v3 v4 v5 v6 v7 v8 v9 v10 v11 v12 : D) : D := Ak ts 71 (.row [.int (0 : Nat), v0, v1, v2, v3, v4, v5, v6, v7, v8, v9, v10, v11, v12])
def JP (v0 v1 v2 v3 v4 v5 v6 v7 v8 v9 v10 v11 v12 v13 : D) : D := Ak ts 71 (.row [.int (1 : Nat), v0, v1, v2, v3, v4, v5, v6, v7, v8, v9, v10, v11, v12, v13])
def Ok (v0 v1 : D) : D := Ak ts 72 (.row [.int (0 : Nat), v0, v1])
def OP (v0 v1 : D) : D := Ak ts 73 (.row [.int (0 : Nat), v0, v1])
def U3 (v0 v1 v2 v3 v4 v5 v6 v7 v8 v9 v10 v11 v12 v13 v14 v15 v16 v17 v18 v19 : D) : D := Ak ts 74 (.row [.int (0 : Nat), v0, v1, v2, v3, v4, v5, v6, v7, v8, v9, v10, v11, v12, v13, v14, v15, v16, v17, v18, v19])
def VN (v0 v1 v2 v3 v4 v5 v6 v7 v8 v9 v10 v11 v12 v13 v14 v15 v16 v17 v18 v19 v20 v21 v22 v23 v24 v25 v26 v27 v28 v29 v30 v31 v32 v33 v34 : D) : D := Ak ts 75 (.row [.int (0 : Nat), v0, v1, v2, v3, v4, v5, v6, v7, v8, v9, v10, v11, v12, v13, v14, v15, v16, v17, v18, v19, v20, v21, v22, v23, v24, v25, v26, v27, v28, v29, v30, v31, v32, v33, v34])
def Sc (v0 v1 v2 v3 v4 v5 v6 v7 v8 v9 v10 v11 v12 v13 v14 v15 v16 v17 v18 v19 v20 v21 v22 v23 v24 v25 v26 v27 v28 v29 v30 v31 v32 v33 v34 v35 v36 v37 v38 v39 v40 v41 v42 v43 v44 v45 v46 v47 : D) : D := Ak ts 75 (.row [.int (1 : Nat), v0, v1, v2, v3, v4, v5, v6, v7, v8, v9, v10, v11, v12, v13, v14, v15, v16, v17, v18, v19, v20, v21, v22, v23, v24, v25, v26, v27, v28, v29, v30, v31, v32, v33, v34, v35, v36, v37, v38, v39, v40, v41, v42, v43, v44, v45, v46, v47])
def YB (v0 v1 v2 v3 v4 : D) : D := Ak ts 76 (.row [.int (0 : Nat), v0, v1, v2, v3, v4])
def OC (v0 v1 v2 v3 v4 v5 : D) : D := Ak ts 76 (.row [.int (1 : Nat), v0, v1, v2, v3, v4, v5])
def R0 (v0 v1 v2 v3 v4 v5 v6 v7 v8 v9 v10 v11 v12 v13 v14 v15 v16 v17 v18 v19 v20 v21 v22 v23 v24 v25 v26 v27 v28 v29 v30 v31 v32 : D) : D := Ak ts 76 (.row [.int (2 : Nat), v0, v1, v2, v3, v4, v5, v6, v7, v8, v9, v10, v11, v12, v13, v14, v15, v16, v17, v18, v19, v20, v21, v22, v23, v24, v25, v26, v27, v28, v29, v30, v31, v32])
theorem lW (v0 v1 v2 v3 : D) : Uc v0 v1 v2 v3 =
  cond (6 < (len v2 : Int)) (
 .row [.int 1, (.bool true)]) (
 cond (8 < (len v1 : Int)) (
 .row [.int 1, (.bool true)]) (
 cond (14 < (len v3 : Int)) (
 .row [.int 1, (.bool true)]) (
 cond (60 < (A8 v0 : Int)) (
 .row [.int 1, (.bool true)]) (
 U1 (.int 0) v0 v1 v2 v3)))) := gw rfl rfl rfl
theorem dp (v0 : Int) (v1 v2 v3 v4 : D) : U1 (.int v0) v1 v2 v3 v4 =
  cond (v0 < len v3) (
 cond (v0 < 0) (
 .row []) (
 cond (60 < (A8 (cl v3 v0 0) : Int)) (
 .row [.int 1, (.bool true)]) (
 U1 (.int (IntKind.wrap .i64 (v0 + 1))) v1 v2 v3 v4))) (
 S5 (.int 0) v1 v2 v3 v4) := gw rfl rfl rfl
theorem fN (v0 : Int) (v1 v2 v3 v4 : D) : S5 (.int v0) v1 v2 v3 v4 =
  cond (v0 < len v2) (
 cond (v0 < 0) (
 .row []) (
 cond (60 < (A8 (cl v2 v0 0) : Int)) (
 .row [.int 1, (.bool true)]) (
 S5 (.int (IntKind.wrap .i64 (v0 + 1))) v1 v2 v3 v4))) (
 TL (.int 0) v1 v2 v3 v4) := gw rfl rfl rfl
theorem eM (v0 : Int) (v1 v2 v3 v4 : D) : TL (.int v0) v1 v2 v3 v4 =
  cond (v0 < len v4) (
 cond (v0 < 0) (
 .row []) (
 cond (60 < (A8 (cl v4 v0 0) : Int)) (
 .row [.int 1, (.bool true)]) (
 cond (60 < (A8 (cl v4 v0 1) : Int)) (
 .row [.int 1, (.bool true)]) (
 cond (60 < (A8 (cl v4 v0 3) : Int)) (
 .row [.int 1, (.bool true)]) (
 cond (60 < (A8 (cl v4 v0 4) : Int)) (
 .row [.int 1, (.bool true)]) (
 cond (60 < (A8 (cl v4 v0 5) : Int)) (
 .row [.int 1, (.bool true)]) (
 TL (.int (IntKind.wrap .i64 (v0 + 1))) v1 v2 v3 v4))))))) (
 .row [.int 1, (.bool false)]) := gw rfl rfl rfl
theorem ma : N8 =
 .row [.int 1] := gw rfl rfl rfl
theorem lp (v0 : D) : Gz v0 =
  cond ((A8 v0 : Int) < 1) (
 .row [.int 1, (.bool false)]) (
 cond (32 < (A8 v0 : Int)) (
 .row [.int 1, (.bool false)]) (
 Qe (O2 v0) (.int (len (O2 v0) : Int)) (.int 0))) := gw rfl rfl rfl
theorem YU (v0 : D) (v1 v2 : Int) : Qe v0 (.int v1) (.int v2) =
  cond (v2 < v1) (
 cond (v2 < 0) (
 .row []) (
 cond (v2 < len v0) (
 cond ((IntKind.wrap .u8 (cl v0 v2 0).toInt) < 97) (
 cond ((IntKind.wrap .u8 (cl v0 v2 0).toInt) < 65) (
 cond (v2 = 0) (
 .row [.int 1, (.bool false)]) (
 cond ((IntKind.wrap .u8 (cl v0 v2 0).toInt) < 48) (
 .row [.int 1, (.bool false)]) (
 cond (57 < (IntKind.wrap .u8 (cl v0 v2 0).toInt)) (
 .row [.int 1, (.bool false)]) (
 Qe v0 (.int v1) (.int (IntKind.wrap .i64 (v2 + 1))))))) (
 cond (90 < (IntKind.wrap .u8 (cl v0 v2 0).toInt)) (
 cond (v2 = 0) (
 .row [.int 1, (.bool false)]) (
 cond ((IntKind.wrap .u8 (cl v0 v2 0).toInt) = 95) (
 Qe v0 (.int v1) (.int (IntKind.wrap .i64 (v2 + 1)))) (
 .row [.int 1, (.bool false)]))) (
 Qe v0 (.int v1) (.int (IntKind.wrap .i64 (v2 + 1)))))) (
 cond (122 < (IntKind.wrap .u8 (cl v0 v2 0).toInt)) (
 cond (v2 = 0) (
 .row [.int 1, (.bool false)]) (
 .row [.int 1, (.bool false)])) (
 Qe v0 (.int v1) (.int (IntKind.wrap .i64 (v2 + 1)))))) (
 .row []))) (
 .row [.int 1, (.bool true)]) := gw rfl rfl (cL (cL rfl (cL (cL (cL (cQ rfl rfl) (cL (cQ rfl (cQ rfl rfl)) rfl)) (cL (cQ rfl rfl) rfl)) rfl)) rfl)
theorem me (v0 v1 : D) : UY v0 v1 =
 Wy v0 (.int 0) v1 := gw rfl rfl rfl
theorem lA (v0 : D) (v1 : Int) (v2 : D) : Wy v0 (.int v1) v2 =
  cond (v1 < len v0) (
 cond (v1 < 0) (
 .row []) (
 cond (D.strEq (cl v0 v1 0) v2) (
 .row [.int 1, (.int v1)]) (
 Wy v0 (.int (IntKind.wrap .i64 (v1 + 1))) v2))) (
 .row [.int 1, (.int (-1))]) := gw rfl rfl rfl
theorem l7 (v0 v1 v2 : Int) (v3 v4 v5 v6 : D) : Wg (.int v0) (.int v1) (.int v2) v3 v4 v5 v6 =
  cond (v0 < v1) (
 .row [.int 1, (.int 0)]) (
 cond (v2 < v0) (
 .row [.int 1, (.int v2)]) (
 TC (.int v0) (.int 0) v3 v4 v5 v6)) := gw rfl rfl rfl
theorem gP (v0 v1 : Int) (v2 v3 v4 v5 : D) : TC (.int v0) (.int v1) v2 v3 v4 v5 =
  cond (v1 < v0) (
 cond (v1 < 0) (
 .row []) (
 cond (v1 < len v4) (
 cond ((sl (Gz (cl v4 v1 0)) 0).toInt = 1) (
 cond ((sl (Gz (cl v4 v1 0)) 1).toBool) (
 cond ((sl (UY v4 (cl v4 v1 0)) 0).toInt = 1) (
 cond ((sl (UY v4 (cl v4 v1 0)) 1).toInt < v1) (
 .row [.int 1, (.int v1)]) (
 cond ((cl v4 v1 1).toInt < 1) (
 .row [.int 1, (.int v1)]) (
 cond (1000 < (cl v4 v1 1).toInt) (
 .row [.int 1, (.int v1)]) (
 TC (.int v0) (.int (IntKind.wrap .i64 (v1 + 1))) v2 v3 v4 v5)))) (
 .row [])) (
 .row [.int 1, (.int v1)])) (
 .row [])) (
 .row []))) (
 .row [.int 1, (.int (-1))]) := gw rfl rfl (cL (cL rfl (cL (cQ (cg rfl (cQ (cL rfl (cL rfl (cL rfl rfl))) rfl) rfl) rfl) rfl)) rfl)
theorem lz (v0 v1 : D) : IqQ v0 v1 =
 Xs v0 (.int 0) v1 := gw rfl rfl rfl
theorem lq (v0 : D) (v1 : Int) (v2 : D) : Xs v0 (.int v1) v2 =
  cond (v1 < len v0) (
 cond (v1 < 0) (
 .row []) (
 cond (D.strEq (cl v0 v1 0) v2) (
 .row [.int 1, (.int v1)]) (
 Xs v0 (.int (IntKind.wrap .i64 (v1 + 1))) v2))) (
 .row [.int 1, (.int (-1))]) := gw rfl rfl rfl
theorem k8 (v0 v1 v2 : Int) (v3 v4 v5 v6 : D) : UG (.int v0) (.int v1) (.int v2) v3 v4 v5 v6 =
  cond (v0 < v1) (
 .row [.int 1, (.int 0)]) (
 cond (v2 < v0) (
 .row [.int 1, (.int v2)]) (
 S3 (.int v0) (.int 0) v3 v4 v5 v6)) := gw rfl rfl rfl
theorem kx (v0 v1 : Int) (v2 v3 v4 v5 : D) : S3 (.int v0) (.int v1) v2 v3 v4 v5 =
  cond (v1 < v0) (
 cond (v1 < 0) (
 .row []) (
 cond (v1 < len v3) (
 cond ((sl (Gz (cl v3 v1 0)) 0).toInt = 1) (
 cond ((sl (Gz (cl v3 v1 0)) 1).toBool) (
 cond ((sl (IqQ v3 (cl v3 v1 0)) 0).toInt = 1) (
 cond ((sl (IqQ v3 (cl v3 v1 0)) 1).toInt < v1) (
 .row [.int 1, (.int v1)]) (
 cond ((cl v3 v1 2).toInt < 0) (
 .row [.int 1, (.int v1)]) (
 cond (1048576 < (cl v3 v1 2).toInt) (
 .row [.int 1, (.int v1)]) (
 S3 (.int v0) (.int (IntKind.wrap .i64 (v1 + 1))) v2 v3 v4 v5)))) (
 .row [])) (
 .row [.int 1, (.int v1)])) (
 .row [])) (
 .row []))) (
 .row [.int 1, (.int (-1))]) := gw rfl rfl (cL (cL rfl (cL (cQ (cg rfl (cQ (cL rfl (cL rfl (cL rfl rfl))) rfl) rfl) rfl) rfl)) rfl)
theorem lF (v0 v1 v2 : D) (v3 : Int) (v4 v5 v6 : D) (v7 v8 v9 : Int) : ZH v0 v1 v2 (.int v3) v4 v5 v6 (.int v7) (.int v8) (.int v9) =
 TK v0 (.int 0) v1 v2 (.int v3) v4 v5 v6 (.int v7) (.int v8) (.int v9) := gw rfl rfl rfl
theorem jY (v0 : D) (v1 : Int) (v2 v3 : D) (v4 : Int) (v5 v6 v7 : D) (v8 v9 v10 : Int) : TK v0 (.int v1) v2 v3 (.int v4) v5 v6 v7 (.int v8) (.int v9) (.int v10) =
  cond (v1 < len v0) (
 cond (v1 < 0) (
 .row []) (
 cond ((D.strEq v2 (cl v0 v1 0) && (D.strEq v3 (cl v0 v1 1) && (decide (v4 = (cl v0 v1 2).toInt) && (D.strEq v5 (cl v0 v1 3) && (D.strEq v6 (cl v0 v1 4) && (D.strEq v7 (cl v0 v1 5) && (decide (v8 = (cl v0 v1 6).toInt) && (decide (v9 = (cl v0 v1 7).toInt) && decide (v10 = (cl v0 v1 8).toInt)))))))))) (
 .row [.int 1, (.int v1)]) (
 TK v0 (.int (IntKind.wrap .i64 (v1 + 1))) v2 v3 (.int v4) v5 v6 v7 (.int v8) (.int v9) (.int v10)))) (
 .row [.int 1, (.int (-1))]) := gw rfl rfl (cL (cL rfl (cg (aE rfl (aE rfl (aE (qE rfl rfl) (aE rfl (aE rfl (aE rfl (aE (qE rfl rfl) (aE (qE rfl rfl) (qE rfl rfl))))))))) rfl rfl)) rfl)
theorem lw (v0 v1 v2 : Int) (v3 v4 v5 v6 : D) : T2 (.int v0) (.int v1) (.int v2) v3 v4 v5 v6 =
  cond (v0 < v1) (
 .row [.int 1, (.int 0)]) (
 cond (v2 < v0) (
 .row [.int 1, (.int v2)]) (
 Hx (.int v0) (.int 0) v3 v4 v5 v6)) := gw rfl rfl rfl
theorem ez (v0 v1 : Int) (v2 v3 v4 v5 : D) {F0 F1 F2 : D} (h0 : ZH (sb v5 0 v1) (cl v5 v1 0) (cl v5 v1 1) (cl v5 v1 2) (cl v5 v1 3) (cl v5 v1 4) (cl v5 v1 5) (cl v5 v1 6) (cl v5 v1 7) (cl v5 v1 8) = F0) (h1 : UY v4 (cl v5 v1 5) = F1) (h2 : IqQ v3 (cl v5 v1 0) = F2) : Hx (.int v0) (.int v1) v2 v3 v4 v5 =
  cond (v1 < v0) (
 cond (v1 < 0) (
 .row []) (
 cond (v1 < len v5) (
 cond ((cl v5 v1 2).toInt = 1) (
 cond ((sl F2 0).toInt = 1) (
 cond ((sl F1 0).toInt = 1) (
 cond ((sl F2 1).toInt < 0) (
 .row [.int 1, (.int v1)]) (
 cond ((sl (IqQ v3 (cl v5 v1 1)) 0).toInt = 1) (
 cond ((sl (IqQ v3 (cl v5 v1 1)) 1).toInt < 0) (
 .row [.int 1, (.int v1)]) (
 cond (len v5 < v1) (
 .row []) (
 cond ((sl F0 0).toInt = 1) (
 cond ((sl F0 1).toInt < 0) (
 cond ((sl F2 1).toInt < len v3) (
 cond ((sl (Gz (cl v5 v1 3)) 0).toInt = 1) (
 cond ((sl (Gz (cl v5 v1 3)) 1).toBool) (
 cond ((sl (Gz (cl v5 v1 4)) 0).toInt = 1) (
 cond ((sl (Gz (cl v5 v1 4)) 1).toBool) (
 cond (D.strEq (cl v5 v1 4) v2) (
 .row [.int 1, (.int v1)]) (
 cond (eqC (cl v5 v1 5) 0 0) (
 cond ((cl v5 v1 6).toInt = 0) (
 cond ((cl v5 v1 7).toInt = 0) (
 cond ((cl v5 v1 8).toInt = 0) (
 Hx (.int v0) (.int (IntKind.wrap .i64 (v1 + 1))) v2 v3 v4 v5) (
 .row [.int 1, (.int v1)])) (
 .row [.int 1, (.int v1)])) (
 .row [.int 1, (.int v1)])) (
 cond ((sl F1 1).toInt < 0) (
 .row [.int 1, (.int v1)]) (
 cond ((cl v5 v1 6).toInt < 0) (
 .row [.int 1, (.int v1)]) (
 cond ((cl v5 v1 7).toInt < (cl v5 v1 6).toInt) (
 .row [.int 1, (.int v1)]) (
 cond ((cl v5 v1 8).toInt < (-1000)) (
 .row [.int 1, (.int v1)]) (
 cond (1000 < (cl v5 v1 8).toInt) (
 .row [.int 1, (.int v1)]) (
 cond ((sl F1 1).toInt < len v4) (
 cond ((cl v4 (sl F1 1).toInt 1).toInt < (cl v5 v1 7).toInt) (
 .row [.int 1, (.int v1)]) (
 cond ((IntKind.wrap .i64 ((cl v5 v1 6).toInt + (cl v5 v1 8).toInt)) < 0) (
 .row [.int 1, (.int v1)]) (
 cond ((cl v4 (sl F1 1).toInt 1).toInt < (IntKind.wrap .i64 ((cl v5 v1 7).toInt + (cl v5 v1 8).toInt))) (
 .row [.int 1, (.int v1)]) (
 Hx (.int v0) (.int (IntKind.wrap .i64 (v1 + 1))) v2 v3 v4 v5)))) (
 .row []))))))))) (
 .row [.int 1, (.int v1)])) (
 .row [])) (
 .row [.int 1, (.int v1)])) (
 .row [])) (
 .row [])) (
 .row [.int 1, (.int v1)])) (
 .row [])))) (
 .row []))) (
 .row [])) (
 .row [])) (
 cond ((cl v5 v1 2).toInt = 2) (
 cond ((sl F2 0).toInt = 1) (
 cond ((sl F1 0).toInt = 1) (
 cond ((sl F2 1).toInt < 0) (
 .row [.int 1, (.int v1)]) (
 cond ((sl (IqQ v3 (cl v5 v1 1)) 0).toInt = 1) (
 cond ((sl (IqQ v3 (cl v5 v1 1)) 1).toInt < 0) (
 .row [.int 1, (.int v1)]) (
 cond (len v5 < v1) (
 .row []) (
 cond ((sl F0 0).toInt = 1) (
 cond ((sl F0 1).toInt < 0) (
 cond ((sl F2 1).toInt < len v3) (
 cond ((sl (Gz (cl v5 v1 3)) 0).toInt = 1) (
 cond ((sl (Gz (cl v5 v1 3)) 1).toBool) (
 cond ((sl (Gz (cl v5 v1 4)) 0).toInt = 1) (
 cond ((sl (Gz (cl v5 v1 4)) 1).toBool) (
 cond (D.strEq (cl v5 v1 4) v2) (
 .row [.int 1, (.int v1)]) (
 cond (eqC (cl v5 v1 5) 0 0) (
 cond ((cl v5 v1 6).toInt = 0) (
 cond ((cl v5 v1 7).toInt = 0) (
 cond ((cl v5 v1 8).toInt = 0) (
 Hx (.int v0) (.int (IntKind.wrap .i64 (v1 + 1))) v2 v3 v4 v5) (
 .row [.int 1, (.int v1)])) (
 .row [.int 1, (.int v1)])) (
 .row [.int 1, (.int v1)])) (
 cond ((sl F1 1).toInt < 0) (
 .row [.int 1, (.int v1)]) (
 cond ((cl v5 v1 6).toInt < 0) (
 .row [.int 1, (.int v1)]) (
 cond ((cl v5 v1 7).toInt < (cl v5 v1 6).toInt) (
 .row [.int 1, (.int v1)]) (
 cond ((cl v5 v1 8).toInt < (-1000)) (
 .row [.int 1, (.int v1)]) (
 cond (1000 < (cl v5 v1 8).toInt) (
 .row [.int 1, (.int v1)]) (
 cond ((sl F1 1).toInt < len v4) (
 cond ((cl v4 (sl F1 1).toInt 1).toInt < (cl v5 v1 7).toInt) (
 .row [.int 1, (.int v1)]) (
 cond ((IntKind.wrap .i64 ((cl v5 v1 6).toInt + (cl v5 v1 8).toInt)) < 0) (
 .row [.int 1, (.int v1)]) (
 cond ((cl v4 (sl F1 1).toInt 1).toInt < (IntKind.wrap .i64 ((cl v5 v1 7).toInt + (cl v5 v1 8).toInt))) (
 .row [.int 1, (.int v1)]) (
 Hx (.int v0) (.int (IntKind.wrap .i64 (v1 + 1))) v2 v3 v4 v5)))) (
 .row []))))))))) (
 .row [.int 1, (.int v1)])) (
 .row [])) (
 .row [.int 1, (.int v1)])) (
 .row [])) (
 .row [])) (
 .row [.int 1, (.int v1)])) (
 .row [])))) (
 .row []))) (
 .row [])) (
 .row [])) (
 cond ((cl v5 v1 2).toInt = 3) (
 cond ((sl F2 0).toInt = 1) (
 cond ((sl F1 0).toInt = 1) (
 cond ((sl F2 1).toInt < 0) (
 .row [.int 1, (.int v1)]) (
 cond ((sl (IqQ v3 (cl v5 v1 1)) 0).toInt = 1) (
 cond ((sl (IqQ v3 (cl v5 v1 1)) 1).toInt < 0) (
 .row [.int 1, (.int v1)]) (
 cond (len v5 < v1) (
 .row []) (
 cond ((sl F0 0).toInt = 1) (
 cond ((sl F0 1).toInt < 0) (
 cond ((sl F2 1).toInt < len v3) (
 cond (0 < (cl v3 (sl F2 1).toInt 2).toInt) (
 cond ((A8 (cl v5 v1 3) : Int) < 4611686018427387904) (
 cond ((A8 (cl v5 v1 4) : Int) < 4611686018427387904) (
 cond (eqC (WJ (cl v5 v1 3) (cl v5 v1 4)) 0 0) (
 cond (eqC (cl v5 v1 5) 0 0) (
 cond ((cl v5 v1 6).toInt = 0) (
 cond ((cl v5 v1 7).toInt = 0) (
 cond ((cl v5 v1 8).toInt = 0) (
 Hx (.int v0) (.int (IntKind.wrap .i64 (v1 + 1))) v2 v3 v4 v5) (
 .row [.int 1, (.int v1)])) (
 .row [.int 1, (.int v1)])) (
 .row [.int 1, (.int v1)])) (
 cond ((sl F1 1).toInt < 0) (
 .row [.int 1, (.int v1)]) (
 cond ((cl v5 v1 6).toInt < 0) (
 .row [.int 1, (.int v1)]) (
 cond ((cl v5 v1 7).toInt < (cl v5 v1 6).toInt) (
 .row [.int 1, (.int v1)]) (
 cond ((cl v5 v1 8).toInt < (-1000)) (
 .row [.int 1, (.int v1)]) (
 cond (1000 < (cl v5 v1 8).toInt) (
 .row [.int 1, (.int v1)]) (
 cond ((sl F1 1).toInt < len v4) (
 cond ((cl v4 (sl F1 1).toInt 1).toInt < (cl v5 v1 7).toInt) (
 .row [.int 1, (.int v1)]) (
 cond ((IntKind.wrap .i64 ((cl v5 v1 6).toInt + (cl v5 v1 8).toInt)) < 0) (
 .row [.int 1, (.int v1)]) (
 cond ((cl v4 (sl F1 1).toInt 1).toInt < (IntKind.wrap .i64 ((cl v5 v1 7).toInt + (cl v5 v1 8).toInt))) (
 .row [.int 1, (.int v1)]) (
 Hx (.int v0) (.int (IntKind.wrap .i64 (v1 + 1))) v2 v3 v4 v5)))) (
 .row [])))))))) (
 .row [.int 1, (.int v1)])) (
 .row [])) (
 .row [])) (
 .row [.int 1, (.int v1)])) (
 .row [])) (
 .row [.int 1, (.int v1)])) (
 .row [])))) (
 .row []))) (
 .row [])) (
 .row [])) (
 cond ((cl v5 v1 2).toInt = 4) (
 cond ((sl F2 0).toInt = 1) (
 cond ((sl F1 0).toInt = 1) (
 cond ((sl F2 1).toInt < 0) (
 .row [.int 1, (.int v1)]) (
 cond ((sl (IqQ v3 (cl v5 v1 1)) 0).toInt = 1) (
 cond ((sl (IqQ v3 (cl v5 v1 1)) 1).toInt < 0) (
 .row [.int 1, (.int v1)]) (
 cond (len v5 < v1) (
 .row []) (
 cond ((sl F0 0).toInt = 1) (
 cond ((sl F0 1).toInt < 0) (
 cond ((sl F2 1).toInt < len v3) (
 cond ((A8 (cl v5 v1 3) : Int) < 4611686018427387904) (
 cond ((A8 (cl v5 v1 4) : Int) < 4611686018427387904) (
 cond (eqC (WJ (cl v5 v1 3) (cl v5 v1 4)) 0 0) (
 cond (eqC (cl v5 v1 5) 0 0) (
 cond ((cl v5 v1 6).toInt = 0) (
 cond ((cl v5 v1 7).toInt = 0) (
 cond ((cl v5 v1 8).toInt = 0) (
 Hx (.int v0) (.int (IntKind.wrap .i64 (v1 + 1))) v2 v3 v4 v5) (
 .row [.int 1, (.int v1)])) (
 .row [.int 1, (.int v1)])) (
 .row [.int 1, (.int v1)])) (
 cond ((sl F1 1).toInt < 0) (
 .row [.int 1, (.int v1)]) (
 cond ((cl v5 v1 6).toInt < 0) (
 .row [.int 1, (.int v1)]) (
 cond ((cl v5 v1 7).toInt < (cl v5 v1 6).toInt) (
 .row [.int 1, (.int v1)]) (
 cond ((cl v5 v1 8).toInt < (-1000)) (
 .row [.int 1, (.int v1)]) (
 cond (1000 < (cl v5 v1 8).toInt) (
 .row [.int 1, (.int v1)]) (
 cond ((sl F1 1).toInt < len v4) (
 cond ((cl v4 (sl F1 1).toInt 1).toInt < (cl v5 v1 7).toInt) (
 .row [.int 1, (.int v1)]) (
 cond ((IntKind.wrap .i64 ((cl v5 v1 6).toInt + (cl v5 v1 8).toInt)) < 0) (
 .row [.int 1, (.int v1)]) (
 cond ((cl v4 (sl F1 1).toInt 1).toInt < (IntKind.wrap .i64 ((cl v5 v1 7).toInt + (cl v5 v1 8).toInt))) (
 .row [.int 1, (.int v1)]) (
 Hx (.int v0) (.int (IntKind.wrap .i64 (v1 + 1))) v2 v3 v4 v5)))) (
 .row [])))))))) (
 .row [.int 1, (.int v1)])) (
 .row [])) (
 .row [])) (
 .row [])) (
 .row [.int 1, (.int v1)])) (
 .row [])))) (
 .row []))) (
 .row [])) (
 .row [])) (
 cond ((sl F2 0).toInt = 1) (
 cond ((sl F1 0).toInt = 1) (
 .row [.int 1, (.int v1)]) (
 .row [])) (
 .row [])))))) (
 .row []))) (
 .row [.int 1, (.int (-1))]) := by
  subst h0; subst h1; subst h2; exact gw rfl rfl (cL (cL rfl (cL (cQ (cQ (cQ (cL rfl (cQ (cL rfl (cL rfl (cQ (cL (cL (cQ (cg rfl (cQ (cg rfl (cg rfl rfl (cg rfl (cQ (cQ (cQ rfl rfl) rfl) rfl) (cL rfl (cL rfl (cL rfl (cL rfl (cL rfl rfl))))))) rfl) rfl) rfl) rfl) rfl) rfl) rfl))) rfl)) rfl) rfl) (cQ (cQ (cQ (cL rfl (cQ (cL rfl (cL rfl (cQ (cL (cL (cQ (cg rfl (cQ (cg rfl (cg rfl rfl (cg rfl (cQ (cQ (cQ rfl rfl) rfl) rfl) (cL rfl (cL rfl (cL rfl (cL rfl (cL rfl rfl))))))) rfl) rfl) rfl) rfl) rfl) rfl) rfl))) rfl)) rfl) rfl) (cQ (cQ (cQ (cL rfl (cQ (cL rfl (cL rfl (cQ (cL (cL (cL (cL (cL (cg rfl (cg rfl (cQ (cQ (cQ rfl rfl) rfl) rfl) (cL rfl (cL rfl (cL rfl (cL rfl (cL rfl rfl)))))) rfl) rfl) rfl) rfl) rfl) rfl) rfl))) rfl)) rfl) rfl) (cQ (cQ (cQ (cL rfl (cQ (cL rfl (cL rfl (cQ (cL (cL (cL (cL (cg rfl (cg rfl (cQ (cQ (cQ rfl rfl) rfl) rfl) (cL rfl (cL rfl (cL rfl (cL rfl (cL rfl rfl)))))) rfl) rfl) rfl) rfl) rfl) rfl))) rfl)) rfl) rfl) (cQ (cQ rfl rfl) rfl))))) rfl)) rfl)
theorem k9 (v0 v1 v2 v3 : D) : T8 v0 v1 v2 v3 =
  cond ((sl (Gz v0) 0).toInt = 1) (
 cond ((sl (Gz v0) 1).toBool) (
 cond ((sl (Wg (.int (len v2 : Int)) (.int 0) (.int 4) v0 v1 v2 v3) 0).toInt = 1) (
 cond ((sl (Wg (.int (len v2 : Int)) (.int 0) (.int 4) v0 v1 v2 v3) 1).toInt < 0) (
 cond ((sl (UG (.int (len v1 : Int)) (.int 1) (.int 24) v0 v1 v2 v3) 0).toInt = 1) (
 cond ((sl (UG (.int (len v1 : Int)) (.int 1) (.int 24) v0 v1 v2 v3) 1).toInt < 0) (
 cond ((sl (T2 (.int (len v3 : Int)) (.int 0) (.int 80) v0 v1 v2 v3) 0).toInt = 1) (
 cond ((sl (T2 (.int (len v3 : Int)) (.int 0) (.int 80) v0 v1 v2 v3) 1).toInt < 0) (
 .row [.int 1, (.int 0), (.int 0)]) (
 .row [.int 1, (sl (T2 (.int (len v3 : Int)) (.int 0) (.int 80) v0 v1 v2 v3) 1), (.int 293)])) (
 .row [])) (
 .row [.int 1, (sl (UG (.int (len v1 : Int)) (.int 1) (.int 24) v0 v1 v2 v3) 1), (.int 292)])) (
 .row [])) (
 .row [.int 1, (sl (Wg (.int (len v2 : Int)) (.int 0) (.int 4) v0 v1 v2 v3) 1), (.int 291)])) (
 .row [])) (
 .row [.int 1, (.int 0), (.int 290)])) (
 .row []) := gw rfl rfl (cQ (cg rfl (cQ (cL (cQ (cL (cQ rfl rfl) rfl) rfl) rfl) rfl) rfl) rfl)
theorem fP (v0 : D) (v1 : Bool) (v2 : D) : DF v0 (.bool v1) v2 =
 Rl v0 (.bool v1) (.int 0) v2 := gw rfl rfl rfl
theorem dP (v0 : D) (v1 : Bool) (v2 : Int) (v3 : D) : Rl v0 (.bool v1) (.int v2) v3 =
  cond (v2 < len v0) (
 cond (v2 < 0) (
 .row []) (
 cond (D.strEq (cl v0 v2 0) v3) (
 .row [.int 1, (.int v2)]) (
 Rl v0 (.bool v1) (.int (IntKind.wrap .i64 (v2 + 1))) v3))) (
 .row [.int 1, (.int (-1))]) := gw rfl rfl rfl
theorem iH (v0 : D) : Cs v0 =
  cond (4 < (len v0 : Int)) (
 .row [.int 1]) (
 Rp v0 (.int 0) Ar (.bool true)) := gw rfl rfl rfl
theorem Yn (v0 : D) (v1 : Int) (v2 : D) (v3 : Bool) : Rp v0 (.int v1) v2 (.bool v3) =
  cond (v1 < len v0) (
 cond (v1 < 0) (
 .row []) (
 cond (eqC (cl v0 v1 0) 0 0) (
 .row [.int 1]) (
 cond ((cl v0 v1 1).toInt < 1) (
 .row [.int 1]) (
 cond (1000 < (cl v0 v1 1).toInt) (
 .row [.int 1]) (
 cond ((sl (DF v2 (.bool v3) (cl v0 v1 0)) 0).toInt = 1) (
 cond ((sl (DF v2 (.bool v3) (cl v0 v1 0)) 1).toInt < 0) (
 cond ((len v2 : Int) < 1073741824) (
 Rp v0 (.int (IntKind.wrap .i64 (v1 + 1))) (ad v2 (.row [(cl v0 v1 0), (cl v0 v1 1), (.int 0)])) (.bool false)) (
 .row [])) (
 .row [.int 1])) (
 .row [])))))) (
 .row [.int 2, v2, (.bool v3)]) := gw rfl rfl (cL (cL rfl (cg rfl rfl (cL rfl (cL rfl (cQ (cL (cL rfl rfl) rfl) rfl))))) rfl)
theorem iX (v0 : D) : A6 v0 =
  cond (v0.isNil) (
 .row [.int 1, Ar, (.bool true)]) (
 cond ((len v0 : Int) < 1048576) (
 .row [.int 1, (ct Au v0), (.bool false)]) (
 .row [])) := gw rfl rfl (cg rfl rfl (cL rfl rfl))
theorem fb (v0 : D) : A5 v0 =
  cond (v0.isNil) (
 .row [.int 1, Ar, (.bool true)]) (
 cond ((len v0 : Int) < 1048576) (
 .row [.int 1, (ct Au v0), (.bool false)]) (
 .row [])) := gw rfl rfl (cg rfl rfl (cL rfl rfl))
theorem dx (v0 : D) : A4 v0 =
  cond (v0.isNil) (
 .row [.int 1, Ar, (.bool true)]) (
 cond ((len v0 : Int) < 1048576) (
 .row [.int 1, (ct Au v0), (.bool false)]) (
 .row [])) := gw rfl rfl (cg rfl rfl (cL rfl rfl))
theorem cE (v0 : D) (v1 : Bool) (v2 : D) : By v0 (.bool v1) v2 =
 Pd Ar (.bool true) v0 (.bool v1) (.int 0) v2 := gw rfl rfl rfl
theorem Yc (v0 : D) (v1 : Bool) (v2 : D) (v3 : Bool) (v4 : Int) (v5 : D) : Pd v0 (.bool v1) v2 (.bool v3) (.int v4) v5 =
  cond (v4 < len v2) (
 cond (v4 < 0) (
 .row []) (
 cond (D.strEq (cl v2 v4 0) v5) (
 cond ((len v0 : Int) < 1073741824) (
 Pd (ad v0 (.row [(cl v2 v4 0), (cl v2 v4 1), (cl v2 v4 2)])) (.bool false) v2 (.bool v3) (.int (IntKind.wrap .i64 (v4 + 1))) v5) (
 .row [])) (
 Pd v0 (.bool v1) v2 (.bool v3) (.int (IntKind.wrap .i64 (v4 + 1))) v5))) (
 .row [.int 1, v0, (.bool v1)]) := gw rfl rfl (cL (cL rfl (cg rfl (cL rfl rfl) rfl)) rfl)
theorem VQ (v0 : Int) (v1 v2 v3 : D) (v4 : Bool) (v5 : Int) : Ha (.int v0) v1 v2 v3 (.bool v4) (.int v5) =
  cond (v5 < 0) (
 .row [.int 1, (.int 0), (.int 2)]) (
 cond (v5 < 256) (
 cond (v2.toBool) (
 .row [.int 1, (.int 0), (.int 9)]) (
 cond ((mIx [.int .i64] v1 (.row [(.int v5)])) < 0) (
 .row [.int 1, (.int 0), (.int 9)]) (
 .row [.int 1, (.int (IntKind.wrap .i64 ((cl v1 (mIx [.int .i64] v1 (.row [(.int v5)])) 1).toInt - v0))), (.int 0)]))) (
 .row [.int 1, (.int 0), (.int 2)])) := gw rfl rfl rfl
theorem Yg (v0 : Int) (v1 v2 v3 : D) (v4 : Bool) (v5 : Int) : DS (.int v0) v1 v2 v3 (.bool v4) (.int v5) =
  cond ((sl (Ha (.int v0) v1 v2 v3 (.bool v4) (.int v5)) 0).toInt = 1) (
 cond ((sl (Ha (.int v0) v1 v2 v3 (.bool v4) (.int v5)) 2).toInt = 0) (
 cond (v2.toBool) (
 .row [.int 1, (.int 0), v1]) (
 cond ((mIx [.int .i64] v1 (.row [(.int v5)])) < 0) (
 .row [.int 1, (.int 0), v1]) (
 .row [.int 1, (.int 0), (J1 v1 (mIx [.int .i64] v1 (.row [(.int v5)])))]))) (
 .row [.int 1, (sl (Ha (.int v0) v1 v2 v3 (.bool v4) (.int v5)) 2), v1])) (
 .row []) := gw rfl rfl (cQ (cQ rfl rfl) rfl)
theorem jh (v0 : Int) (v1 v2 v3 : D) (v4 : Bool) (v5 v6 : Int) : EE (.int v0) v1 v2 v3 (.bool v4) (.int v5) (.int v6) =
  cond ((len v3 : Int) < 1073741824) (
 JS (.int (IntKind.wrap .i64 ((len (ad v3 (.row [(.int v5), (.int v6)])) : Int) - 1))) (.int v0) v2 (ad v3 (.row [(.int v5), (.int v6)])) (.bool false) v1) (
 .row []) := gw rfl rfl (cL rfl rfl)
theorem Yt (v0 v1 : Int) (v2 v3 : D) (v4 : Bool) (v5 : D) : JS (.int v0) (.int v1) v2 v3 (.bool v4) v5 =
  cond (0 < v0) (
 cond ((ari .quo .i64 (IntKind.wrap .i64 (v0 - 1)) 2) < 0) (
 .row []) (
 cond ((ari .quo .i64 (IntKind.wrap .i64 (v0 - 1)) 2) < (len v3 : Int)) (
 cond (v0 < len v3) (
 cond ((cl v3 (ari .quo .i64 (IntKind.wrap .i64 (v0 - 1)) 2) 0).toInt < (cl v3 v0 0).toInt) (
 cond ((cl v3 (ari .quo .i64 (IntKind.wrap .i64 (v0 - 1)) 2) 1).toInt < (cl v3 v0 1).toInt) (
 .row [.int 1, v3, (.bool v4)]) (
 cond ((cl v3 v0 1).toInt < (cl v3 (ari .quo .i64 (IntKind.wrap .i64 (v0 - 1)) 2) 1).toInt) (
 .row [.int 1, v3, (.bool v4)]) (
 .row [.int 1, v3, (.bool v4)]))) (
 cond ((cl v3 v0 0).toInt < (cl v3 (ari .quo .i64 (IntKind.wrap .i64 (v0 - 1)) 2) 0).toInt) (
 cond ((cl v3 (ari .quo .i64 (IntKind.wrap .i64 (v0 - 1)) 2) 1).toInt < (cl v3 v0 1).toInt) (
 JS (.int (ari .quo .i64 (IntKind.wrap .i64 (v0 - 1)) 2)) (.int v1) v2 (upd (upd (upd (upd v3 (ari .quo .i64 (IntKind.wrap .i64 (v0 - 1)) 2) 0 (cl v3 v0 0)) (ari .quo .i64 (IntKind.wrap .i64 (v0 - 1)) 2) 1 (cl v3 v0 1)) v0 0 (cl v3 (ari .quo .i64 (IntKind.wrap .i64 (v0 - 1)) 2) 0)) v0 1 (cl v3 (ari .quo .i64 (IntKind.wrap .i64 (v0 - 1)) 2) 1)) (.bool v4) v5) (
 cond ((cl v3 v0 1).toInt < (cl v3 (ari .quo .i64 (IntKind.wrap .i64 (v0 - 1)) 2) 1).toInt) (
 JS (.int (ari .quo .i64 (IntKind.wrap .i64 (v0 - 1)) 2)) (.int v1) v2 (upd (upd (upd (upd v3 (ari .quo .i64 (IntKind.wrap .i64 (v0 - 1)) 2) 0 (cl v3 v0 0)) (ari .quo .i64 (IntKind.wrap .i64 (v0 - 1)) 2) 1 (cl v3 v0 1)) v0 0 (cl v3 (ari .quo .i64 (IntKind.wrap .i64 (v0 - 1)) 2) 0)) v0 1 (cl v3 (ari .quo .i64 (IntKind.wrap .i64 (v0 - 1)) 2) 1)) (.bool v4) v5) (
 JS (.int (ari .quo .i64 (IntKind.wrap .i64 (v0 - 1)) 2)) (.int v1) v2 (upd (upd (upd (upd v3 (ari .quo .i64 (IntKind.wrap .i64 (v0 - 1)) 2) 0 (cl v3 v0 0)) (ari .quo .i64 (IntKind.wrap .i64 (v0 - 1)) 2) 1 (cl v3 v0 1)) v0 0 (cl v3 (ari .quo .i64 (IntKind.wrap .i64 (v0 - 1)) 2) 0)) v0 1 (cl v3 (ari .quo .i64 (IntKind.wrap .i64 (v0 - 1)) 2) 1)) (.bool v4) v5))) (
 cond ((cl v3 (ari .quo .i64 (IntKind.wrap .i64 (v0 - 1)) 2) 1).toInt < (cl v3 v0 1).toInt) (
 .row [.int 1, v3, (.bool v4)]) (
 cond ((cl v3 v0 1).toInt < (cl v3 (ari .quo .i64 (IntKind.wrap .i64 (v0 - 1)) 2) 1).toInt) (
 JS (.int (ari .quo .i64 (IntKind.wrap .i64 (v0 - 1)) 2)) (.int v1) v2 (upd (upd (upd (upd v3 (ari .quo .i64 (IntKind.wrap .i64 (v0 - 1)) 2) 0 (cl v3 v0 0)) (ari .quo .i64 (IntKind.wrap .i64 (v0 - 1)) 2) 1 (cl v3 v0 1)) v0 0 (cl v3 (ari .quo .i64 (IntKind.wrap .i64 (v0 - 1)) 2) 0)) v0 1 (cl v3 (ari .quo .i64 (IntKind.wrap .i64 (v0 - 1)) 2) 1)) (.bool v4) v5) (
 .row [.int 1, v3, (.bool v4)]))))) (
 .row [])) (
 .row []))) (
 .row [.int 1, v3, (.bool v4)]) := gw rfl rfl rfl
theorem ca (v0 : Int) (v1 v2 v3 : D) (v4 : Bool) (v5 v6 : Int) : FP (.int v0) v1 v2 v3 (.bool v4) (.int v5) (.int v6) =
  cond (v5 < 0) (
 .row [.int 1, (.int 2), v2, v3, (.bool v4), v1]) (
 cond (v5 < 256) (
 cond (v6 < 0) (
 .row [.int 1, (.int 3), v2, v3, (.bool v4), v1]) (
 cond ((IntKind.wrap .i64 (1099511627776 - v0)) < v6) (
 .row [.int 1, (.int 3), v2, v3, (.bool v4), v1]) (
 cond (v2.toBool) (
 cond ((sl (EE (.int v0) (ad Au (.row [(.int v5), (.int (IntKind.wrap .i64 (v0 + v6)))])) (.bool false) v3 (.bool v4) (.int (IntKind.wrap .i64 (v0 + v6))) (.int v5)) 0).toInt = 1) (
 .row [.int 1, (.int 0), (.bool false), (sl (EE (.int v0) (ad Au (.row [(.int v5), (.int (IntKind.wrap .i64 (v0 + v6)))])) (.bool false) v3 (.bool v4) (.int (IntKind.wrap .i64 (v0 + v6))) (.int v5)) 1), (sl (EE (.int v0) (ad Au (.row [(.int v5), (.int (IntKind.wrap .i64 (v0 + v6)))])) (.bool false) v3 (.bool v4) (.int (IntKind.wrap .i64 (v0 + v6))) (.int v5)) 2), (ad Au (.row [(.int v5), (.int (IntKind.wrap .i64 (v0 + v6)))]))]) (
 .row [])) (
 cond ((mIx [.int .i64] v1 (.row [(.int v5)])) < 0) (
 cond ((sl (EE (.int v0) (ad v1 (.row [(.int v5), (.int (IntKind.wrap .i64 (v0 + v6)))])) v2 v3 (.bool v4) (.int (IntKind.wrap .i64 (v0 + v6))) (.int v5)) 0).toInt = 1) (
 .row [.int 1, (.int 0), v2, (sl (EE (.int v0) (ad v1 (.row [(.int v5), (.int (IntKind.wrap .i64 (v0 + v6)))])) v2 v3 (.bool v4) (.int (IntKind.wrap .i64 (v0 + v6))) (.int v5)) 1), (sl (EE (.int v0) (ad v1 (.row [(.int v5), (.int (IntKind.wrap .i64 (v0 + v6)))])) v2 v3 (.bool v4) (.int (IntKind.wrap .i64 (v0 + v6))) (.int v5)) 2), (ad v1 (.row [(.int v5), (.int (IntKind.wrap .i64 (v0 + v6)))]))]) (
 .row [])) (
 cond ((sl (EE (.int v0) (upd v1 (mIx [.int .i64] v1 (.row [(.int v5)])) 1 (.int (IntKind.wrap .i64 (v0 + v6)))) v2 v3 (.bool v4) (.int (IntKind.wrap .i64 (v0 + v6))) (.int v5)) 0).toInt = 1) (
 .row [.int 1, (.int 0), v2, (sl (EE (.int v0) (upd v1 (mIx [.int .i64] v1 (.row [(.int v5)])) 1 (.int (IntKind.wrap .i64 (v0 + v6)))) v2 v3 (.bool v4) (.int (IntKind.wrap .i64 (v0 + v6))) (.int v5)) 1), (sl (EE (.int v0) (upd v1 (mIx [.int .i64] v1 (.row [(.int v5)])) 1 (.int (IntKind.wrap .i64 (v0 + v6)))) v2 v3 (.bool v4) (.int (IntKind.wrap .i64 (v0 + v6))) (.int v5)) 2), (upd v1 (mIx [.int .i64] v1 (.row [(.int v5)])) 1 (.int (IntKind.wrap .i64 (v0 + v6))))]) (
 .row [])))))) (
 .row [.int 1, (.int 2), v2, v3, (.bool v4), v1])) := gw rfl rfl (cL rfl (cL (cL rfl (cL rfl (cg rfl (cQ rfl rfl) (cL (cQ rfl rfl) (cQ rfl rfl))))) rfl))
theorem YH (v0 v1 : D) (v2 : Bool) (v3 : D) (v4 : Bool) (v5 : D) (v6 : Bool) (v7 : D) (v8 : Bool) (v9 v10 : Int) (v11 v12 v13 : D) (v14 v15 : Bool) (v16 : D) (v17 : Bool) (v18 : D) : G6 v0 v1 (.bool v2) v3 (.bool v4) v5 (.bool v6) v7 (.bool v8) (.int v9) (.int v10) v11 v12 v13 (.bool v14) (.bool v15) v16 (.bool v17) v18 =
  cond ((sl (By v1 (.bool v2) v18) 0).toInt = 1) (
 cond (0 < (len (sl (By v1 (.bool v2) v18) 1) : Int)) (
 cond ((sl (DS (.int v10) v11 v12 v13 (.bool v14) (.int 0)) 0).toInt = 1) (
 cond (0 < (cl (sl (By v1 (.bool v2) v18) 1) 0 2).toInt) (
 cond ((sl (FP (.int v10) (sl (DS (.int v10) v11 v12 v13 (.bool v14) (.int 0)) 2) v12 v13 (.bool v14) (.int 0) (cl (sl (By v1 (.bool v2) v18) 1) 0 2)) 0).toInt = 1) (
 .row [.int 1, (cl (sl (By v1 (.bool v2) v18) 1) 0 0), (cl (sl (By v1 (.bool v2) v18) 1) 0 1), (cl (sl (By v1 (.bool v2) v18) 1) 0 2), (sl (FP (.int v10) (sl (DS (.int v10) v11 v12 v13 (.bool v14) (.int 0)) 2) v12 v13 (.bool v14) (.int 0) (cl (sl (By v1 (.bool v2) v18) 1) 0 2)) 2), (sl (FP (.int v10) (sl (DS (.int v10) v11 v12 v13 (.bool v14) (.int 0)) 2) v12 v13 (.bool v14) (.int 0) (cl (sl (By v1 (.bool v2) v18) 1) 0 2)) 3), (sl (FP (.int v10) (sl (DS (.int v10) v11 v12 v13 (.bool v14) (.int 0)) 2) v12 v13 (.bool v14) (.int 0) (cl (sl (By v1 (.bool v2) v18) 1) 0 2)) 4), (sl (FP (.int v10) (sl (DS (.int v10) v11 v12 v13 (.bool v14) (.int 0)) 2) v12 v13 (.bool v14) (.int 0) (cl (sl (By v1 (.bool v2) v18) 1) 0 2)) 5)]) (
 .row [])) (
 .row [.int 1, (cl (sl (By v1 (.bool v2) v18) 1) 0 0), (cl (sl (By v1 (.bool v2) v18) 1) 0 1), (cl (sl (By v1 (.bool v2) v18) 1) 0 2), v12, v13, (.bool v14), (sl (DS (.int v10) v11 v12 v13 (.bool v14) (.int 0)) 2)])) (
 .row [])) (
 .row [])) (
 .row []) := gw rfl rfl (cQ (cL (cQ (cL (cQ rfl rfl) rfl) rfl) rfl) rfl)
theorem YG (v0 : D) (v1 : Bool) (v2 v3 : D) (v4 : Bool) (v5 : D) (v6 : Bool) (v7 : D) (v8 : Bool) (v9 : D) (v10 : Bool) (v11 v12 : Int) (v13 v14 v15 : D) (v16 v17 : Bool) (v18 : D) (v19 : Bool) (v20 : D) : Dg v0 (.bool v1) v2 v3 (.bool v4) v5 (.bool v6) v7 (.bool v8) v9 (.bool v10) (.int v11) (.int v12) v13 v14 v15 (.bool v16) (.bool v17) v18 (.bool v19) v20 =
  cond ((sl (By v3 (.bool v4) v20) 0).toInt = 1) (
 cond (0 < (len (sl (By v3 (.bool v4) v20) 1) : Int)) (
 cond ((sl (DS (.int v12) v13 v14 v15 (.bool v16) (.int 0)) 0).toInt = 1) (
 cond (0 < (cl (sl (By v3 (.bool v4) v20) 1) 0 2).toInt) (
 cond ((sl (FP (.int v12) (sl (DS (.int v12) v13 v14 v15 (.bool v16) (.int 0)) 2) v14 v15 (.bool v16) (.int 0) (cl (sl (By v3 (.bool v4) v20) 1) 0 2)) 0).toInt = 1) (
 .row [.int 1, (cl (sl (By v3 (.bool v4) v20) 1) 0 0), (cl (sl (By v3 (.bool v4) v20) 1) 0 1), (cl (sl (By v3 (.bool v4) v20) 1) 0 2), (sl (FP (.int v12) (sl (DS (.int v12) v13 v14 v15 (.bool v16) (.int 0)) 2) v14 v15 (.bool v16) (.int 0) (cl (sl (By v3 (.bool v4) v20) 1) 0 2)) 2), (sl (FP (.int v12) (sl (DS (.int v12) v13 v14 v15 (.bool v16) (.int 0)) 2) v14 v15 (.bool v16) (.int 0) (cl (sl (By v3 (.bool v4) v20) 1) 0 2)) 3), (sl (FP (.int v12) (sl (DS (.int v12) v13 v14 v15 (.bool v16) (.int 0)) 2) v14 v15 (.bool v16) (.int 0) (cl (sl (By v3 (.bool v4) v20) 1) 0 2)) 4), (sl (FP (.int v12) (sl (DS (.int v12) v13 v14 v15 (.bool v16) (.int 0)) 2) v14 v15 (.bool v16) (.int 0) (cl (sl (By v3 (.bool v4) v20) 1) 0 2)) 5)]) (
 .row [])) (
 .row [.int 1, (cl (sl (By v3 (.bool v4) v20) 1) 0 0), (cl (sl (By v3 (.bool v4) v20) 1) 0 1), (cl (sl (By v3 (.bool v4) v20) 1) 0 2), v14, v15, (.bool v16), (sl (DS (.int v12) v13 v14 v15 (.bool v16) (.int 0)) 2)])) (
 .row [])) (
 .row [])) (
 .row []) := gw rfl rfl (cQ (cL (cQ (cL (cQ rfl rfl) rfl) rfl) rfl) rfl)
theorem Yr (v0 v1 v2 v3 : D) : RI v0 v1 v2 v3 =
  cond ((sl (T8 v0 v1 v2 v3) 0).toInt = 1) (
 cond ((sl (T8 v0 v1 v2 v3) 2).toInt = 0) (
 cond ((sl (Cs v2) 0).toInt = 1) (
 cond ((sl (A6 v1) 0).toInt = 1) (
 cond ((sl (A5 v2) 0).toInt = 1) (
 cond ((sl (A4 v3) 0).toInt = 1) (
 cond (0 < (len v1 : Int)) (
 cond ((sl (G6 v0 (sl (A6 v1) 1) (sl (A6 v1) 2) (sl (A5 v2) 1) (sl (A5 v2) 2) (sl (A4 v3) 1) (sl (A4 v3) 2) (Cb 0 0) (.bool false) (.int 0) (.int 0) Au (.bool true) Ar (.bool true) (.bool false) Ar (.bool true) (cl v1 0 0)) 0).toInt = 1) (
 .row [.int 1, v0, (sl (A6 v1) 1), (sl (A6 v1) 2), (sl (A5 v2) 1), (sl (A5 v2) 2), (sl (A4 v3) 1), (sl (A4 v3) 2), (sl (G6 v0 (sl (A6 v1) 1) (sl (A6 v1) 2) (sl (A5 v2) 1) (sl (A5 v2) 2) (sl (A4 v3) 1) (sl (A4 v3) 2) (Cb 0 0) (.bool false) (.int 0) (.int 0) Au (.bool true) Ar (.bool true) (.bool false) Ar (.bool true) (cl v1 0 0)) 1), (sl (G6 v0 (sl (A6 v1) 1) (sl (A6 v1) 2) (sl (A5 v2) 1) (sl (A5 v2) 2) (sl (A4 v3) 1) (sl (A4 v3) 2) (Cb 0 0) (.bool false) (.int 0) (.int 0) Au (.bool true) Ar (.bool true) (.bool false) Ar (.bool true) (cl v1 0 0)) 2), (sl (G6 v0 (sl (A6 v1) 1) (sl (A6 v1) 2) (sl (A5 v2) 1) (sl (A5 v2) 2) (sl (A4 v3) 1) (sl (A4 v3) 2) (Cb 0 0) (.bool false) (.int 0) (.int 0) Au (.bool true) Ar (.bool true) (.bool false) Ar (.bool true) (cl v1 0 0)) 3), Ar, (sl (G6 v0 (sl (A6 v1) 1) (sl (A6 v1) 2) (sl (A5 v2) 1) (sl (A5 v2) 2) (sl (A4 v3) 1) (sl (A4 v3) 2) (Cb 0 0) (.bool false) (.int 0) (.int 0) Au (.bool true) Ar (.bool true) (.bool false) Ar (.bool true) (cl v1 0 0)) 4), (sl (G6 v0 (sl (A6 v1) 1) (sl (A6 v1) 2) (sl (A5 v2) 1) (sl (A5 v2) 2) (sl (A4 v3) 1) (sl (A4 v3) 2) (Cb 0 0) (.bool false) (.int 0) (.int 0) Au (.bool true) Ar (.bool true) (.bool false) Ar (.bool true) (cl v1 0 0)) 5), (sl (G6 v0 (sl (A6 v1) 1) (sl (A6 v1) 2) (sl (A5 v2) 1) (sl (A5 v2) 2) (sl (A4 v3) 1) (sl (A4 v3) 2) (Cb 0 0) (.bool false) (.int 0) (.int 0) Au (.bool true) Ar (.bool true) (.bool false) Ar (.bool true) (cl v1 0 0)) 6), (sl (G6 v0 (sl (A6 v1) 1) (sl (A6 v1) 2) (sl (A5 v2) 1) (sl (A5 v2) 2) (sl (A4 v3) 1) (sl (A4 v3) 2) (Cb 0 0) (.bool false) (.int 0) (.int 0) Au (.bool true) Ar (.bool true) (.bool false) Ar (.bool true) (cl v1 0 0)) 7)]) (
 .row [])) (
 .row [])) (
 .row [])) (
 .row [])) (
 .row [])) (
 cond ((sl (Cs v2) 0).toInt = 2) (
 cond ((sl (A6 v1) 0).toInt = 1) (
 cond ((sl (A5 v2) 0).toInt = 1) (
 cond ((sl (A4 v3) 0).toInt = 1) (
 cond (0 < (len v1 : Int)) (
 cond ((sl (Dg (sl (Cs v2) 1) (sl (Cs v2) 2) v0 (sl (A6 v1) 1) (sl (A6 v1) 2) (sl (A5 v2) 1) (sl (A5 v2) 2) (sl (A4 v3) 1) (sl (A4 v3) 2) (Cb 0 0) (.bool false) (.int 0) (.int 0) Au (.bool true) Ar (.bool true) (.bool false) Ar (.bool true) (cl v1 0 0)) 0).toInt = 1) (
 .row [.int 2, v0, (sl (A6 v1) 1), (sl (A6 v1) 2), (sl (A5 v2) 1), (sl (A5 v2) 2), (sl (A4 v3) 1), (sl (A4 v3) 2), (sl (Dg (sl (Cs v2) 1) (sl (Cs v2) 2) v0 (sl (A6 v1) 1) (sl (A6 v1) 2) (sl (A5 v2) 1) (sl (A5 v2) 2) (sl (A4 v3) 1) (sl (A4 v3) 2) (Cb 0 0) (.bool false) (.int 0) (.int 0) Au (.bool true) Ar (.bool true) (.bool false) Ar (.bool true) (cl v1 0 0)) 1), (sl (Dg (sl (Cs v2) 1) (sl (Cs v2) 2) v0 (sl (A6 v1) 1) (sl (A6 v1) 2) (sl (A5 v2) 1) (sl (A5 v2) 2) (sl (A4 v3) 1) (sl (A4 v3) 2) (Cb 0 0) (.bool false) (.int 0) (.int 0) Au (.bool true) Ar (.bool true) (.bool false) Ar (.bool true) (cl v1 0 0)) 2), (sl (Dg (sl (Cs v2) 1) (sl (Cs v2) 2) v0 (sl (A6 v1) 1) (sl (A6 v1) 2) (sl (A5 v2) 1) (sl (A5 v2) 2) (sl (A4 v3) 1) (sl (A4 v3) 2) (Cb 0 0) (.bool false) (.int 0) (.int 0) Au (.bool true) Ar (.bool true) (.bool false) Ar (.bool true) (cl v1 0 0)) 3), Ar, (sl (Cs v2) 1), (sl (Cs v2) 2), (sl (Dg (sl (Cs v2) 1) (sl (Cs v2) 2) v0 (sl (A6 v1) 1) (sl (A6 v1) 2) (sl (A5 v2) 1) (sl (A5 v2) 2) (sl (A4 v3) 1) (sl (A4 v3) 2) (Cb 0 0) (.bool false) (.int 0) (.int 0) Au (.bool true) Ar (.bool true) (.bool false) Ar (.bool true) (cl v1 0 0)) 4), (sl (Dg (sl (Cs v2) 1) (sl (Cs v2) 2) v0 (sl (A6 v1) 1) (sl (A6 v1) 2) (sl (A5 v2) 1) (sl (A5 v2) 2) (sl (A4 v3) 1) (sl (A4 v3) 2) (Cb 0 0) (.bool false) (.int 0) (.int 0) Au (.bool true) Ar (.bool true) (.bool false) Ar (.bool true) (cl v1 0 0)) 5), (sl (Dg (sl (Cs v2) 1) (sl (Cs v2) 2) v0 (sl (A6 v1) 1) (sl (A6 v1) 2) (sl (A5 v2) 1) (sl (A5 v2) 2) (sl (A4 v3) 1) (sl (A4 v3) 2) (Cb 0 0) (.bool false) (.int 0) (.int 0) Au (.bool true) Ar (.bool true) (.bool false) Ar (.bool true) (cl v1 0 0)) 6), (sl (Dg (sl (Cs v2) 1) (sl (Cs v2) 2) v0 (sl (A6 v1) 1) (sl (A6 v1) 2) (sl (A5 v2) 1) (sl (A5 v2) 2) (sl (A4 v3) 1) (sl (A4 v3) 2) (Cb 0 0) (.bool false) (.int 0) (.int 0) Au (.bool true) Ar (.bool true) (.bool false) Ar (.bool true) (cl v1 0 0)) 7)]) (
 .row [])) (
 .row [])) (
 .row [])) (
 .row [])) (
 .row [])) (
 .row []))) (
 .row [.int 3, (sl (T8 v0 v1 v2 v3) 2)])) (
 .row []) := gw rfl rfl (cQ (cQ (cQ (cQ (cQ (cQ (cL (cQ rfl rfl) rfl) rfl) rfl) rfl) (cQ (cQ (cQ (cQ (cL (cQ rfl rfl) rfl) rfl) rfl) rfl) rfl)) rfl) rfl)
theorem TU (v0 : D) : De v0 =
  cond ((A8 v0 : Int) < 1) (
 .row [.int 1, (.bool false)]) (
 cond (32 < (A8 v0 : Int)) (
 .row [.int 1, (.bool false)]) (
 cond ((sAt v0 0) = 95) (
 .row [.int 1, (.bool false)]) (
 cond ((sAt v0 0) < 48) (
 JK v0 (.int 0)) (
 cond (57 < (sAt v0 0)) (
 JK v0 (.int 0)) (
 .row [.int 1, (.bool false)]))))) := gw rfl rfl (cL rfl (cL rfl (cQ rfl rfl)))
theorem MO (v0 : D) (v1 : Int) : JK v0 (.int v1) =
  cond (v1 < (A8 v0 : Int)) (
 cond (v1 < 0) (
 .row []) (
 cond ((sAt v0 v1) < 97) (
 cond ((sAt v0 v1) < 65) (
 cond ((sAt v0 v1) < 48) (
 .row [.int 1, (.bool false)]) (
 cond (57 < (sAt v0 v1)) (
 .row [.int 1, (.bool false)]) (
 JK v0 (.int (IntKind.wrap .i64 (v1 + 1)))))) (
 cond (90 < (sAt v0 v1)) (
 cond ((sAt v0 v1) = 95) (
 JK v0 (.int (IntKind.wrap .i64 (v1 + 1)))) (
 .row [.int 1, (.bool false)])) (
 JK v0 (.int (IntKind.wrap .i64 (v1 + 1)))))) (
 cond (122 < (sAt v0 v1)) (
 .row [.int 1, (.bool false)]) (
 JK v0 (.int (IntKind.wrap .i64 (v1 + 1))))))) (
 .row [.int 1, (.bool true)]) := gw rfl rfl (cL (cL rfl (cL (cL rfl (cL (cQ rfl rfl) rfl)) rfl)) rfl)
theorem cD (v0 v1 v2 v3 v4 : D) : HM v0 v1 v2 v3 v4 =
 Rs v4 (.int 0) v0 v1 v2 v3 := gw rfl rfl rfl
theorem eR (v0 : D) (v1 : Int) (v2 v3 v4 v5 : D) : Rs v0 (.int v1) v2 v3 v4 v5 =
  cond (v1 < len v4) (
 cond (v1 < 0) (
 .row []) (
 cond (D.strEq (cl v4 v1 0) v0) (
 .row [.int 1, (.int v1)]) (
 Rs v0 (.int (IntKind.wrap .i64 (v1 + 1))) v2 v3 v4 v5))) (
 .row [.int 1, (.int (-1))]) := gw rfl rfl rfl
theorem dw (v0 v1 v2 v3 v4 : D) : He v0 v1 v2 v3 v4 =
 SF v4 (.int 0) v0 v1 v2 v3 := gw rfl rfl rfl
theorem iL (v0 : D) (v1 : Int) (v2 v3 v4 v5 : D) : SF v0 (.int v1) v2 v3 v4 v5 =
  cond (v1 < len v3) (
 cond (v1 < 0) (
 .row []) (
 cond (D.strEq (cl v3 v1 0) v0) (
 .row [.int 1, (.int v1)]) (
 SF v0 (.int (IntKind.wrap .i64 (v1 + 1))) v2 v3 v4 v5))) (
 .row [.int 1, (.int (-1))]) := gw rfl rfl rfl
theorem dK (v0 v1 v2 v3 : D) (v4 : Int) : Rm v0 v1 v2 v3 (.int v4) =
  cond (v4 < 0) (
 .row []) (
 cond (v4 < len v3) (
 cond ((sl (He v0 v1 v2 v3 (cl v3 v4 0)) 0).toInt = 1) (
 cond ((sl (He v0 v1 v2 v3 (cl v3 v4 0)) 1).toInt < 0) (
 .row [.int 1, (.bool false)]) (
 cond ((sl (He v0 v1 v2 v3 (cl v3 v4 1)) 0).toInt = 1) (
 cond ((sl (He v0 v1 v2 v3 (cl v3 v4 1)) 1).toInt < 0) (
 .row [.int 1, (.bool false)]) (
 cond (eqC (cl v3 v4 5) 0 0) (
 cond ((cl v3 v4 6).toInt = 0) (
 cond ((cl v3 v4 7).toInt = 0) (
 cond ((cl v3 v4 8).toInt = 0) (
 FqQ (.int v4) (sl (He v0 v1 v2 v3 (cl v3 v4 0)) 1) (.int 0) v0 v1 v2 v3 (cl v3 v4 0) (cl v3 v4 1) (cl v3 v4 2) (cl v3 v4 3) (cl v3 v4 4) (cl v3 v4 5) (cl v3 v4 6) (cl v3 v4 7) (cl v3 v4 8)) (
 .row [.int 1, (.bool false)])) (
 .row [.int 1, (.bool false)])) (
 .row [.int 1, (.bool false)])) (
 cond ((sl (HM v0 v1 v2 v3 (cl v3 v4 5)) 0).toInt = 1) (
 cond ((sl (HM v0 v1 v2 v3 (cl v3 v4 5)) 1).toInt < 0) (
 .row [.int 1, (.bool false)]) (
 cond ((cl v3 v4 6).toInt < 0) (
 .row [.int 1, (.bool false)]) (
 cond ((cl v3 v4 7).toInt < (cl v3 v4 6).toInt) (
 .row [.int 1, (.bool false)]) (
 cond ((sl (HM v0 v1 v2 v3 (cl v3 v4 5)) 1).toInt < len v2) (
 cond ((cl v2 (sl (HM v0 v1 v2 v3 (cl v3 v4 5)) 1).toInt 1).toInt < (cl v3 v4 7).toInt) (
 .row [.int 1, (.bool false)]) (
 cond ((cl v3 v4 8).toInt < (-1000)) (
 .row [.int 1, (.bool false)]) (
 cond (1000 < (cl v3 v4 8).toInt) (
 .row [.int 1, (.bool false)]) (
 cond ((IntKind.wrap .i64 ((cl v3 v4 6).toInt + (cl v3 v4 8).toInt)) < 0) (
 .row [.int 1, (.bool false)]) (
 cond ((cl v2 (sl (HM v0 v1 v2 v3 (cl v3 v4 5)) 1).toInt 1).toInt < (IntKind.wrap .i64 ((cl v3 v4 7).toInt + (cl v3 v4 8).toInt))) (
 .row [.int 1, (.bool false)]) (
 FqQ (.int v4) (sl (He v0 v1 v2 v3 (cl v3 v4 0)) 1) (.int 0) v0 v1 v2 v3 (cl v3 v4 0) (cl v3 v4 1) (cl v3 v4 2) (cl v3 v4 3) (cl v3 v4 4) (cl v3 v4 5) (cl v3 v4 6) (cl v3 v4 7) (cl v3 v4 8))))))) (
 .row []))))) (
 .row [])))) (
 .row []))) (
 .row [])) (
 .row [])) := gw rfl rfl (cL rfl (cL (cQ (cL rfl (cQ (cL rfl (cg rfl (cQ (cQ (cQ rfl rfl) rfl) rfl) (cQ (cL rfl (cL rfl (cL rfl (cL (cL rfl (cL rfl (cL rfl rfl))) rfl)))) rfl))) rfl)) rfl) rfl))
theorem X4 (v0 v1 v2 : Int) (v3 v4 v5 v6 v7 v8 : D) (v9 : Int) (v10 v11 v12 : D) (v13 v14 v15 : Int) : FqQ (.int v0) (.int v1) (.int v2) v3 v4 v5 v6 v7 v8 (.int v9) v10 v11 v12 (.int v13) (.int v14) (.int v15) =
  cond (v2 < v0) (
 cond (v2 < 0) (
 .row []) (
 cond (v2 < len v6) (
 cond ((D.strEq (cl v6 v2 0) v7 && (D.strEq (cl v6 v2 1) v8 && (decide ((cl v6 v2 2).toInt = v9) && (D.strEq (cl v6 v2 3) v10 && (D.strEq (cl v6 v2 4) v11 && (D.strEq (cl v6 v2 5) v12 && (decide ((cl v6 v2 6).toInt = v13) && (decide ((cl v6 v2 7).toInt = v14) && decide ((cl v6 v2 8).toInt = v15)))))))))) (
 .row [.int 1, (.bool false)]) (
 FqQ (.int v0) (.int v1) (.int (IntKind.wrap .i64 (v2 + 1))) v3 v4 v5 v6 v7 v8 (.int v9) v10 v11 v12 (.int v13) (.int v14) (.int v15))) (
 .row []))) (
 cond (v9 = 1) (
 cond ((sl (De v10) 0).toInt = 1) (
 cond ((sl (De v10) 1).toBool) (
 cond ((sl (De v11) 0).toInt = 1) (
 cond ((sl (De v11) 1).toBool) (
 .row [.int 1, (.bool (!D.strEq v11 v3))]) (
 .row [.int 1, (.bool false)])) (
 .row [])) (
 .row [.int 1, (.bool false)])) (
 .row [])) (
 cond (v9 = 2) (
 cond ((sl (De v10) 0).toInt = 1) (
 cond ((sl (De v10) 1).toBool) (
 cond ((sl (De v11) 0).toInt = 1) (
 cond ((sl (De v11) 1).toBool) (
 .row [.int 1, (.bool (!D.strEq v11 v3))]) (
 .row [.int 1, (.bool false)])) (
 .row [])) (
 .row [.int 1, (.bool false)])) (
 .row [])) (
 cond (v9 = 3) (
 cond (eqC v10 0 0) (
 cond (eqC v11 0 0) (
 cond (v1 < 0) (
 .row []) (
 cond (v1 < len v4) (
 .row [.int 1, (.bool (decide (0 < (cl v4 v1 2).toInt)))]) (
 .row []))) (
 .row [.int 1, (.bool false)])) (
 .row [.int 1, (.bool false)])) (
 cond (v9 = 4) (
 cond (eqC v10 0 0) (
 .row [.int 1, (.bool (eqC v11 0 0))]) (
 .row [.int 1, (.bool false)])) (
 .row [.int 1, (.bool false)]))))) := gw rfl rfl (cL (cL rfl (cL (cg (aE rfl (aE rfl (aE (qE rfl rfl) (aE rfl (aE rfl (aE rfl (aE (qE rfl rfl) (aE (qE rfl rfl) (qE rfl rfl))))))))) rfl rfl) rfl)) (cQ (cQ (cg rfl (cQ rfl rfl) rfl) rfl) (cQ (cQ (cg rfl (cQ rfl rfl) rfl) rfl) (cQ rfl (cQ rfl rfl)))))
theorem hU (v0 v1 v2 v3 : D) : Ps v0 v1 v2 v3 =
  cond ((sl (De v0) 0).toInt = 1) (
 cond ((sl (De v0) 1).toBool) (
 cond (4 < (len v2 : Int)) (
 .row [.int 1, (.int 4), (.int 291)]) (
 JN (.int 0) v0 v1 v2 v3)) (
 .row [.int 1, (.int 0), (.int 290)])) (
 .row []) := gw rfl rfl (cQ rfl rfl)
theorem YI (v0 : Int) (v1 v2 v3 v4 : D) : JN (.int v0) v1 v2 v3 v4 =
  cond (v0 < len v3) (
 cond (v0 < 0) (
 .row []) (
 cond ((sl (De (cl v3 v0 0)) 0).toInt = 1) (
 cond ((sl (De (cl v3 v0 0)) 1).toBool) (
 cond ((sl (HM v1 v2 v3 v4 (cl v3 v0 0)) 0).toInt = 1) (
 cond ((sl (HM v1 v2 v3 v4 (cl v3 v0 0)) 1).toInt = v0) (
 cond ((cl v3 v0 1).toInt < 1) (
 .row [.int 1, (.int v0), (.int 291)]) (
 cond (1000 < (cl v3 v0 1).toInt) (
 .row [.int 1, (.int v0), (.int 291)]) (
 JN (.int (IntKind.wrap .i64 (v0 + 1))) v1 v2 v3 v4))) (
 .row [.int 1, (.int v0), (.int 291)])) (
 .row [])) (
 .row [.int 1, (.int v0), (.int 291)])) (
 .row []))) (
 cond ((len v2 : Int) = 0) (
 .row [.int 1, (.int 0), (.int 292)]) (
 cond (24 < (len v2 : Int)) (
 .row [.int 1, (.int 24), (.int 292)]) (
 Jt (.int 0) v1 v2 v3 v4))) := gw rfl rfl (cL (cL rfl (cQ (cg rfl (cQ (cQ (cL rfl (cL rfl rfl)) rfl) rfl) rfl) rfl)) (cQ rfl rfl))
theorem Yz (v0 : Int) (v1 v2 v3 v4 : D) : Jt (.int v0) v1 v2 v3 v4 =
  cond (v0 < len v2) (
 cond (v0 < 0) (
 .row []) (
 cond ((sl (De (cl v2 v0 0)) 0).toInt = 1) (
 cond ((sl (De (cl v2 v0 0)) 1).toBool) (
 cond ((sl (He v1 v2 v3 v4 (cl v2 v0 0)) 0).toInt = 1) (
 cond ((sl (He v1 v2 v3 v4 (cl v2 v0 0)) 1).toInt = v0) (
 cond ((cl v2 v0 2).toInt < 0) (
 .row [.int 1, (.int v0), (.int 292)]) (
 cond (1048576 < (cl v2 v0 2).toInt) (
 .row [.int 1, (.int v0), (.int 292)]) (
 Jt (.int (IntKind.wrap .i64 (v0 + 1))) v1 v2 v3 v4))) (
 .row [.int 1, (.int v0), (.int 292)])) (
 .row [])) (
 .row [.int 1, (.int v0), (.int 292)])) (
 .row []))) (
 cond (80 < (len v4 : Int)) (
 .row [.int 1, (.int 80), (.int 293)]) (
 Jk (.int 0) v1 v2 v3 v4)) := gw rfl rfl (cL (cL rfl (cQ (cg rfl (cQ (cQ (cL rfl (cL rfl rfl)) rfl) rfl) rfl) rfl)) rfl)
theorem YE (v0 : Int) (v1 v2 v3 v4 : D) : Jk (.int v0) v1 v2 v3 v4 =
  cond (v0 < len v4) (
 cond ((sl (Rm v1 v2 v3 v4 (.int v0)) 0).toInt = 1) (
 cond ((sl (Rm v1 v2 v3 v4 (.int v0)) 1).toBool) (
 Jk (.int (IntKind.wrap .i64 (v0 + 1))) v1 v2 v3 v4) (
 .row [.int 1, (.int v0), (.int 293)])) (
 .row [])) (
 .row [.int 1, (.int 0), (.int 0)]) := gw rfl rfl (cL (cQ rfl rfl) rfl)
theorem kJ (v0 : D) : Oq v0 =
  cond (4 < (len v0 : Int)) (
 .row [.int 1, Ar, Ar, (.int 2)]) (
 Pa v0 (.int 0) Ar (.bool true) Ar (.bool true)) := gw rfl rfl rfl
theorem YP (v0 : D) (v1 : Int) (v2 : D) (v3 : Bool) (v4 : D) (v5 : Bool) : Pa v0 (.int v1) v2 (.bool v3) v4 (.bool v5) =
  cond (v1 < len v0) (
 cond (v1 < 0) (
 .row []) (
 cond (eqC (cl v0 v1 0) 0 0) (
 .row [.int 1, Ar, Ar, (.int 2)]) (
 cond ((cl v0 v1 1).toInt < 1) (
 .row [.int 1, Ar, Ar, (.int 2)]) (
 cond (1000 < (cl v0 v1 1).toInt) (
 .row [.int 1, Ar, Ar, (.int 2)]) (
 RC v0 (.int v1) (.int 0) v2 (.bool v3) v4 (.bool v5)))))) (
 .row [.int 1, (ni v2 v3), (ni v4 v5), (.int 0)]) := gw rfl rfl (cL (cL rfl (cg rfl rfl (cL rfl (cL rfl rfl)))) rfl)
theorem YR (v0 : D) (v1 v2 : Int) (v3 : D) (v4 : Bool) (v5 : D) (v6 : Bool) : RC v0 (.int v1) (.int v2) v3 (.bool v4) v5 (.bool v6) =
  cond (v2 < v1) (
 cond (v2 < 0) (
 .row []) (
 cond (v2 < len v0) (
 cond (v1 < 0) (
 .row []) (
 cond (v1 < len v0) (
 cond (D.strEq (cl v0 v2 0) (cl v0 v1 0)) (
 .row [.int 1, Ar, Ar, (.int 2)]) (
 RC v0 (.int v1) (.int (IntKind.wrap .i64 (v2 + 1))) v3 (.bool v4) v5 (.bool v6))) (
 .row []))) (
 .row []))) (
 cond (v1 < 0) (
 .row []) (
 cond (v1 < len v0) (
 cond ((len v3 : Int) < 1073741824) (
 cond ((len v5 : Int) < 1073741824) (
 Pa v0 (.int (IntKind.wrap .i64 (v1 + 1))) (ad v3 (.row [(cl v0 v1 0), (cl v0 v1 1)])) (.bool false) (ad v5 (.row [(.int 0)])) (.bool false)) (
 .row [])) (
 .row [])) (
 .row []))) := gw rfl rfl (cL rfl (cL rfl (cL (cL (cL rfl rfl) rfl) rfl)))
theorem Yb (v0 v1 v2 v3 : D) : SG v0 v1 v2 v3 =
  cond ((sl (Ps v0 v1 v2 v3) 0).toInt = 1) (
 cond ((sl (Ps v0 v1 v2 v3) 2).toInt = 0) (
 cond ((sl (Oq v2) 0).toInt = 1) (
 cond (0 < (len v1 : Int)) (
 .row [.int 1, v0, v1, v2, v3, (cl v1 0 0), (sl (Oq v2) 1), (sl (Oq v2) 2), (.int 0)]) (
 .row [])) (
 .row [])) (
 .row [.int 1, (Cb 0 0), Ar, Ar, Ar, (Cb 0 0), Ar, Ar, (sl (Ps v0 v1 v2 v3) 2)])) (
 .row []) := gw rfl rfl (cQ (cQ (cQ rfl rfl) rfl) rfl)
theorem YS (v0 : D) (v1 : Bool) (v2 : D) : DU v0 (.bool v1) v2 =
  cond ((sl (DF v0 (.bool v1) v2) 0).toInt = 1) (
 cond ((sl (DF v0 (.bool v1) v2) 1).toInt < 0) (
 .row [.int 1, (.int 0), (.int 9)]) (
 cond ((sl (DF v0 (.bool v1) v2) 1).toInt < len v0) (
 .row [.int 1, (cl v0 (sl (DF v0 (.bool v1) v2) 1).toInt 2), (.int 0)]) (
 .row []))) (
 .row []) := gw rfl rfl (cQ rfl rfl)
theorem ga (v0 : D) (v1 : Bool) : Pm v0 (.bool v1) =
  cond (v1) (
 .row [.int 1, Ar, (.bool true)]) (
 cond ((len v0 : Int) < 1048576) (
 .row [.int 1, (ct Au v0), (.bool false)]) (
 .row [])) := gw rfl rfl (cg rfl rfl (cL rfl rfl))
theorem gr (v0 : D) (v1 : Bool) : OR v0 (.bool v1) =
  cond (v1) (
 .row [.int 1, Ar, (.bool true)]) (
 cond ((len v0 : Int) < 1048576) (
 .row [.int 1, (ct Au v0), (.bool false)]) (
 .row [])) := gw rfl rfl (cg rfl rfl (cL rfl rfl))
theorem cr (v0 : D) (v1 : Bool) : CZ v0 (.bool v1) =
  cond (v1) (
 .row [.int 1, Ar, (.bool true)]) (
 cond ((len v0 : Int) < 1048576) (
 .row [.int 1, (ct Au v0), (.bool false)]) (
 .row [])) := gw rfl rfl (cg rfl rfl (cL rfl rfl))
theorem bt (v0 : D) (v1 : Bool) (v2 v3 : D) (v4 : Bool) (v5 : D) (v6 : Bool) (v7 : D) (v8 : Bool) (v9 : D) (v10 : Bool) (v11 v12 : Int) (v13 v14 v15 : D) (v16 v17 : Bool) (v18 : D) (v19 : Bool) : Vb v0 (.bool v1) v2 v3 (.bool v4) v5 (.bool v6) v7 (.bool v8) v9 (.bool v10) (.int v11) (.int v12) v13 v14 v15 (.bool v16) (.bool v17) v18 (.bool v19) =
  cond ((sl (Pm v3 (.bool v4)) 0).toInt = 1) (
 cond ((sl (OR v5 (.bool v6)) 0).toInt = 1) (
 cond ((sl (CZ v7 (.bool v8)) 0).toInt = 1) (
 .row [.int 1, v2, (ni (sl (Pm v3 (.bool v4)) 1) ((sl (Pm v3 (.bool v4)) 2).toBool)), (ni (sl (OR v5 (.bool v6)) 1) ((sl (OR v5 (.bool v6)) 2).toBool)), (ni (sl (CZ v7 (.bool v8)) 1) ((sl (CZ v7 (.bool v8)) 2).toBool))]) (
 .row [])) (
 .row [])) (
 .row []) := gw rfl rfl (cQ (cQ (cQ rfl rfl) rfl) rfl)
theorem bM (v0 v1 v2 v3 v4 v5 v6 v7 : D) : OZ v0 v1 v2 v3 v4 v5 v6 v7 =
  cond (D.strEq v0 v4) (
 cond ((len v2 : Int) = (len v6 : Int)) (
 cond ((len v1 : Int) = (len v5 : Int)) (
 cond ((len v3 : Int) = (len v7 : Int)) (
 RQ (.int 0) v0 v1 v2 v3 v4 v5 v6 v7) (
 .row [.int 1, (.bool false)])) (
 .row [.int 1, (.bool false)])) (
 .row [.int 1, (.bool false)])) (
 .row [.int 1, (.bool false)]) := gw rfl rfl (cg rfl (cQ (cQ (cQ rfl rfl) rfl) rfl) rfl)
theorem Ys (v0 : Int) (v1 v2 v3 v4 v5 v6 v7 v8 : D) : RQ (.int v0) v1 v2 v3 v4 v5 v6 v7 v8 =
  cond (v0 < len v3) (
 cond (v0 < 0) (
 .row []) (
 cond (v0 < len v7) (
 cond ((D.strEq (cl v3 v0 0) (cl v7 v0 0) && decide ((cl v3 v0 1).toInt = (cl v7 v0 1).toInt))) (
 RQ (.int (IntKind.wrap .i64 (v0 + 1))) v1 v2 v3 v4 v5 v6 v7 v8) (
 .row [.int 1, (.bool false)])) (
 .row []))) (
 RO (.int 0) v1 v2 v3 v4 v5 v6 v7 v8) := gw rfl rfl (cL (cL rfl (cL (cg (aE rfl (qE rfl rfl)) rfl rfl) rfl)) rfl)
theorem Yf (v0 : Int) (v1 v2 v3 v4 v5 v6 v7 v8 : D) : RO (.int v0) v1 v2 v3 v4 v5 v6 v7 v8 =
  cond (v0 < len v2) (
 cond (v0 < 0) (
 .row []) (
 cond (v0 < len v6) (
 cond ((D.strEq (cl v2 v0 0) (cl v6 v0 0) && ((!((!(((cl v2 v0 1).toBool && true) && ((cl v6 v0 1).toBool && true))) && (!((!((cl v2 v0 1).toBool && true)) && (!((cl v6 v0 1).toBool && true)))))) && decide ((cl v2 v0 2).toInt = (cl v6 v0 2).toInt)))) (
 RO (.int (IntKind.wrap .i64 (v0 + 1))) v1 v2 v3 v4 v5 v6 v7 v8) (
 .row [.int 1, (.bool false)])) (
 .row []))) (
 RN (.int 0) v1 v2 v3 v4 v5 v6 v7 v8) := gw rfl rfl (cL (cL rfl (cL (cg (aE rfl (aE (nE (aE (nE (aE (aE rfl rfl) (aE rfl rfl))) (nE (aE (nE (aE rfl rfl)) (nE (aE rfl rfl)))))) (qE rfl rfl))) rfl rfl) rfl)) rfl)
theorem Yx (v0 : Int) (v1 v2 v3 v4 v5 v6 v7 v8 : D) : RN (.int v0) v1 v2 v3 v4 v5 v6 v7 v8 =
  cond (v0 < len v4) (
 cond (v0 < 0) (
 .row []) (
 cond (v0 < len v8) (
 cond ((D.strEq (cl v4 v0 0) (cl v8 v0 0) && (D.strEq (cl v4 v0 1) (cl v8 v0 1) && (decide ((cl v4 v0 2).toInt = (cl v8 v0 2).toInt) && (D.strEq (cl v4 v0 3) (cl v8 v0 3) && (D.strEq (cl v4 v0 4) (cl v8 v0 4) && (D.strEq (cl v4 v0 5) (cl v8 v0 5) && (decide ((cl v4 v0 6).toInt = (cl v8 v0 6).toInt) && (decide ((cl v4 v0 7).toInt = (cl v8 v0 7).toInt) && decide ((cl v4 v0 8).toInt = (cl v8 v0 8).toInt)))))))))) (
 RN (.int (IntKind.wrap .i64 (v0 + 1))) v1 v2 v3 v4 v5 v6 v7 v8) (
 .row [.int 1, (.bool false)])) (
 .row []))) (
 .row [.int 1, (.bool true)]) := gw rfl rfl (cL (cL rfl (cL (cg (aE rfl (aE rfl (aE (qE rfl rfl) (aE rfl (aE rfl (aE rfl (aE (qE rfl rfl) (aE (qE rfl rfl) (qE rfl rfl))))))))) rfl rfl) rfl)) rfl)
theorem jB (v0 v1 v2 v3 v4 : D) : G5 v0 v1 v2 v3 v4 =
 M9 v4 (.int 0) v0 v1 v2 v3 := gw rfl rfl rfl
theorem ej (v0 : D) (v1 : Int) (v2 v3 v4 v5 : D) : M9 v0 (.int v1) v2 v3 v4 v5 =
  cond (v1 < len v3) (
 cond (v1 < 0) (
 .row []) (
 cond (D.strEq (cl v3 v1 0) v0) (
 .row [.int 1, (cl v3 v1 0), (cl v3 v1 1), (cl v3 v1 2)]) (
 M9 v0 (.int (IntKind.wrap .i64 (v1 + 1))) v2 v3 v4 v5))) (
 .row [.int 1, (Cb 0 0), (.bool false), (.int 0)]) := gw rfl rfl rfl
theorem iu (v0 : D) (v1 : Bool) (v2 v3 : D) (v4 : Int) (v5 v6 v7 : D) (v8 v9 v10 : Int) : FN v0 (.bool v1) v2 v3 (.int v4) v5 v6 v7 (.int v8) (.int v9) (.int v10) =
  cond (eqC v7 0 0) (
 .row [.int 1, (.bool true), (.int 0)]) (
 cond ((sl (DU v0 (.bool v1) v7) 0).toInt = 1) (
 cond ((sl (DU v0 (.bool v1) v7) 2).toInt = 0) (
 cond ((sl (DF v0 (.bool v1) v7) 0).toInt = 1) (
 cond ((sl (DF v0 (.bool v1) v7) 1).toInt < 0) (
 .row []) (
 cond ((sl (DF v0 (.bool v1) v7) 1).toInt < len v0) (
 cond ((sl (DU v0 (.bool v1) v7) 1).toInt < v8) (
 .row [.int 1, (.bool false), (.int 0)]) (
 cond (v9 < (sl (DU v0 (.bool v1) v7) 1).toInt) (
 .row [.int 1, (.bool false), (.int 0)]) (
 cond (v10 < (IntKind.wrap .i64 (0 - (sl (DU v0 (.bool v1) v7) 1).toInt))) (
 .row [.int 1, (.bool false), (.int 0)]) (
 .row [.int 1, (.bool (!decide ((IntKind.wrap .i64 ((cl v0 (sl (DF v0 (.bool v1) v7) 1).toInt 1).toInt - (sl (DU v0 (.bool v1) v7) 1).toInt)) < v10))), (.int 0)])))) (
 .row []))) (
 .row [])) (
 .row [.int 1, (.bool false), (sl (DU v0 (.bool v1) v7) 2)])) (
 .row [])) := gw rfl rfl (cg rfl rfl (cQ (cQ (cQ rfl rfl) rfl) rfl))
theorem il (v0 : D) (v1 : Bool) (v2 v3 : D) (v4 : Bool) (v5 : D) (v6 : Bool) (v7 : D) (v8 : Bool) (v9 : D) (v10 : Bool) (v11 v12 : Int) (v13 v14 v15 : D) (v16 v17 : Bool) (v18 : D) (v19 v20 : Bool) (v21 v22 : D) (v23 : Int) (v24 v25 v26 : D) (v27 v28 v29 : Int) : Ss v0 (.bool v1) v2 v3 (.bool v4) v5 (.bool v6) v7 (.bool v8) v9 (.bool v10) (.int v11) (.int v12) v13 v14 v15 (.bool v16) (.bool v17) v18 (.bool v19) (.bool v20) v21 v22 (.int v23) v24 v25 v26 (.int v27) (.int v28) (.int v29) =
 K4 (.int 0) v2 v3 (.bool v4) v5 (.bool v6) v7 (.bool v8) v9 (.bool v10) (.int v11) (.bool v17) v18 (.bool v19) v0 (.bool v1) (.int v12) v14 v15 (.bool v16) v13 v21 v22 (.int v23) v24 v25 v26 (.int v27) (.int v28) (.int v29) (.bool v20) := gw rfl rfl rfl
theorem RF (v0 : Int) (v1 v2 : D) (v3 : Bool) (v4 : D) (v5 : Bool) (v6 : D) (v7 : Bool) (v8 : D) (v9 : Bool) (v10 : Int) (v11 : Bool) (v12 : D) (v13 : Bool) (v14 : D) (v15 : Bool) (v16 : Int) (v17 v18 : D) (v19 : Bool) (v20 v21 v22 : D) (v23 : Int) (v24 v25 v26 : D) (v27 v28 v29 : Int) (v30 : Bool) : K4 (.int v0) v1 v2 (.bool v3) v4 (.bool v5) v6 (.bool v7) v8 (.bool v9) (.int v10) (.bool v11) v12 (.bool v13) v14 (.bool v15) (.int v16) v17 v18 (.bool v19) v20 v21 v22 (.int v23) v24 v25 v26 (.int v27) (.int v28) (.int v29) (.bool v30) =
  cond (v0 < 3) (
 cond (v0 = 0) (
 cond (D.strEq v21 v8) (
 K4 (.int (IntKind.wrap .i64 (v0 + 1))) v1 v2 (.bool v3) v4 (.bool v5) v6 (.bool v7) v8 (.bool v9) (.int v10) (.bool v11) v12 (.bool v13) v14 (.bool v15) (.int v16) v17 v18 (.bool v19) v20 v21 v22 (.int v23) v24 v25 v26 (.int v27) (.int v28) (.int v29) (.bool v30)) (
 .row [.int 1, (.bool false)])) (
 cond (v0 = 1) (
 cond ((sl (FN v14 (.bool v15) v21 v22 (.int v23) v24 v25 v26 (.int v27) (.int v28) (.int v29)) 0).toInt = 1) (
 cond ((sl (FN v14 (.bool v15) v21 v22 (.int v23) v24 v25 v26 (.int v27) (.int v28) (.int v29)) 1).toBool) (
 K4 (.int (IntKind.wrap .i64 (v0 + 1))) v1 v2 (.bool v3) v4 (.bool v5) v6 (.bool v7) v8 (.bool v9) (.int v10) (.bool v11) v12 (.bool v13) v14 (.bool v15) (.int v16) v17 v18 (.bool v19) v20 v21 v22 (.int v23) v24 v25 v26 (.int v27) (.int v28) (.int v29) (.bool v30)) (
 .row [.int 1, (.bool false)])) (
 .row [])) (
 cond (v0 = 2) (
 cond (v23 = 3) (
 cond (v30) (
 K4 (.int (IntKind.wrap .i64 (v0 + 1))) v1 v2 (.bool v3) v4 (.bool v5) v6 (.bool v7) v8 (.bool v9) (.int v10) (.bool v11) v12 (.bool v13) v14 (.bool v15) (.int v16) v17 v18 (.bool v19) v20 v21 v22 (.int v23) v24 v25 v26 (.int v27) (.int v28) (.int v29) (.bool v30)) (
 .row [.int 1, (.bool false)])) (
 K4 (.int (IntKind.wrap .i64 (v0 + 1))) v1 v2 (.bool v3) v4 (.bool v5) v6 (.bool v7) v8 (.bool v9) (.int v10) (.bool v11) v12 (.bool v13) v14 (.bool v15) (.int v16) v17 v18 (.bool v19) v20 v21 v22 (.int v23) v24 v25 v26 (.int v27) (.int v28) (.int v29) (.bool v30))) (
 .row [])))) (
 .row [.int 1, (.bool true)]) := gw rfl rfl (cL (cQ rfl (cQ (cQ rfl rfl) (cQ (cQ rfl rfl) rfl))) rfl)
theorem bG (v0 : D) (v1 : Bool) (v2 : D) (v3 : Bool) (v4 v5 : D) (v6 : Bool) (v7 : D) (v8 v9 : Bool) (v10 : D) (v11 : Bool) (v12 v13 : Int) (v14 v15 v16 : D) (v17 v18 : Bool) (v19 : D) (v20 v21 : Bool) : Sg v0 (.bool v1) v2 (.bool v3) v4 v5 (.bool v6) v7 (.bool v8) (.bool v9) v10 (.bool v11) (.int v12) (.int v13) v14 v15 v16 (.bool v17) (.bool v18) v19 (.bool v20) (.bool v21) =
 MU Ar (.bool true) v0 (.bool v1) (.int 0) (.bool v21) v4 v5 (.bool v6) v7 (.bool v8) (.bool v9) v10 (.bool v11) (.int v12) (.bool v18) v19 (.bool v20) v2 (.bool v3) (.int v13) v15 v16 (.bool v17) v14 := gw rfl rfl rfl
theorem X5 (v0 : D) (v1 : Bool) (v2 : D) (v3 : Bool) (v4 : Int) (v5 : Bool) (v6 v7 : D) (v8 : Bool) (v9 : D) (v10 v11 : Bool) (v12 : D) (v13 : Bool) (v14 : Int) (v15 : Bool) (v16 : D) (v17 : Bool) (v18 : D) (v19 : Bool) (v20 : Int) (v21 v22 : D) (v23 : Bool) (v24 : D) : MU v0 (.bool v1) v2 (.bool v3) (.int v4) (.bool v5) v6 v7 (.bool v8) v9 (.bool v10) (.bool v11) v12 (.bool v13) (.int v14) (.bool v15) v16 (.bool v17) v18 (.bool v19) (.int v20) v21 v22 (.bool v23) v24 =
  cond (v4 < len v2) (
 cond (v4 < 0) (
 .row []) (
 cond ((cl v2 v4 2).toInt = 3) (
 cond ((sl (Ss v18 (.bool v19) v6 v7 (.bool v8) v9 (.bool v10) v2 (.bool v11) v12 (.bool v13) (.int v14) (.int v20) v24 v21 v22 (.bool v23) (.bool v15) v16 (.bool v17) (.bool v5) (cl v2 v4 0) (cl v2 v4 1) (cl v2 v4 2) (cl v2 v4 3) (cl v2 v4 4) (cl v2 v4 5) (cl v2 v4 6) (cl v2 v4 7) (cl v2 v4 8)) 0).toInt = 1) (
 cond ((sl (Ss v18 (.bool v19) v6 v7 (.bool v8) v9 (.bool v10) v2 (.bool v11) v12 (.bool v13) (.int v14) (.int v20) v24 v21 v22 (.bool v23) (.bool v15) v16 (.bool v17) (.bool v5) (cl v2 v4 0) (cl v2 v4 1) (cl v2 v4 2) (cl v2 v4 3) (cl v2 v4 4) (cl v2 v4 5) (cl v2 v4 6) (cl v2 v4 7) (cl v2 v4 8)) 1).toBool) (
 cond ((len v0 : Int) < 1073741824) (
 MU (ad v0 (.row [(cl v2 v4 0), (cl v2 v4 1), (cl v2 v4 2), (cl v2 v4 3), (cl v2 v4 4), (cl v2 v4 5), (cl v2 v4 6), (cl v2 v4 7), (cl v2 v4 8)])) (.bool false) v2 (.bool v3) (.int (IntKind.wrap .i64 (v4 + 1))) (.bool v5) v6 v7 (.bool v8) v9 (.bool v10) (.bool v11) v12 (.bool v13) (.int v14) (.bool v15) v16 (.bool v17) v18 (.bool v19) (.int v20) v21 v22 (.bool v23) v24) (
 .row [])) (
 MU v0 (.bool v1) v2 (.bool v3) (.int (IntKind.wrap .i64 (v4 + 1))) (.bool v5) v6 v7 (.bool v8) v9 (.bool v10) (.bool v11) v12 (.bool v13) (.int v14) (.bool v15) v16 (.bool v17) v18 (.bool v19) (.int v20) v21 v22 (.bool v23) v24)) (
 .row [])) (
 MU v0 (.bool v1) v2 (.bool v3) (.int (IntKind.wrap .i64 (v4 + 1))) (.bool v5) v6 v7 (.bool v8) v9 (.bool v10) (.bool v11) v12 (.bool v13) (.int v14) (.bool v15) v16 (.bool v17) v18 (.bool v19) (.int v20) v21 v22 (.bool v23) v24))) (
 .row [.int 1, v0, (.bool v1)]) := gw rfl rfl (cL (cL rfl (cQ (cQ (cg rfl (cL rfl rfl) rfl) rfl) rfl)) rfl)
theorem iQ (v0 : D) (v1 : Bool) (v2 v3 : D) (v4 : Bool) (v5 : D) (v6 : Bool) (v7 : D) (v8 : Bool) (v9 : D) (v10 : Bool) (v11 v12 : Int) (v13 v14 v15 : D) (v16 v17 : Bool) (v18 : D) (v19 : Bool) : OA v0 (.bool v1) v2 v3 (.bool v4) v5 (.bool v6) v7 (.bool v8) v9 (.bool v10) (.int v11) (.int v12) v13 v14 v15 (.bool v16) (.bool v17) v18 (.bool v19) =
  cond ((sl (Ha (.int v12) v13 v14 v15 (.bool v16) (.int 0)) 0).toInt = 1) (
 cond ((sl (Sg v7 (.bool v8) v0 (.bool v1) v2 v3 (.bool v4) v5 (.bool v6) (.bool v8) v9 (.bool v10) (.int v11) (.int v12) v13 v14 v15 (.bool v16) (.bool v17) v18 (.bool v19) (.bool true)) 0).toInt = 1) (
 cond ((len (sl (Sg v7 (.bool v8) v0 (.bool v1) v2 v3 (.bool v4) v5 (.bool v6) (.bool v8) v9 (.bool v10) (.int v11) (.int v12) v13 v14 v15 (.bool v16) (.bool v17) v18 (.bool v19) (.bool true)) 1) : Int) = 0) (
 .row [.int 1, (.int 0), (.int 9)]) (
 cond (v17) (
 .row [.int 1, (.int v12), (.int 0)]) (
 cond ((sl (Ha (.int v12) v13 v14 v15 (.bool v16) (.int 0)) 2).toInt = 0) (
 .row [.int 1, (.int (IntKind.wrap .i64 (v12 + (sl (Ha (.int v12) v13 v14 v15 (.bool v16) (.int 0)) 1).toInt))), (.int 0)]) (
 .row [.int 1, (.int 0), (.int 9)])))) (
 .row [])) (
 .row []) := gw rfl rfl (cQ (cQ (cQ rfl (cg rfl rfl (cQ rfl rfl))) rfl) rfl)
theorem jG (v0 v1 v2 : D) : DX v0 v1 v2 =
 SC v2 (.int 0) v0 v1 := gw rfl rfl rfl
theorem iN (v0 : D) (v1 : Int) (v2 v3 : D) : SC v0 (.int v1) v2 v3 =
  cond (v1 < len v2) (
 cond (v1 < 0) (
 .row []) (
 cond (D.strEq (cl v2 v1 0) v0) (
 .row [.int 1, (.int v1)]) (
 SC v0 (.int (IntKind.wrap .i64 (v1 + 1))) v2 v3))) (
 .row [.int 1, (.int (-1))]) := gw rfl rfl rfl
theorem bQ (v0 v1 v2 v3 : D) (v4 : Int) (v5 v6 v7 : D) (v8 v9 v10 : Int) : JJ v0 v1 v2 v3 (.int v4) v5 v6 v7 (.int v8) (.int v9) (.int v10) =
  cond (eqC v7 0 0) (
 .row [.int 1, (.bool true), (.int 0)]) (
 cond ((sl (DX v0 v1 v7) 0).toInt = 1) (
 cond ((sl (DX v0 v1 v7) 1).toInt < 0) (
 .row [.int 1, (.bool false), (.int 9)]) (
 cond ((sl (DX v0 v1 v7) 1).toInt < len v0) (
 cond ((sl (DX v0 v1 v7) 1).toInt < len v1) (
 cond ((cl v1 (sl (DX v0 v1 v7) 1).toInt 0).toInt < v8) (
 .row [.int 1, (.bool false), (.int 0)]) (
 cond (v9 < (cl v1 (sl (DX v0 v1 v7) 1).toInt 0).toInt) (
 .row [.int 1, (.bool false), (.int 0)]) (
 cond (v10 < (-1000)) (
 .row [.int 1, (.bool false), (.int 0)]) (
 cond (1000 < v10) (
 .row [.int 1, (.bool false), (.int 0)]) (
 cond ((IntKind.wrap .i64 ((cl v1 (sl (DX v0 v1 v7) 1).toInt 0).toInt + v10)) < 0) (
 .row [.int 1, (.bool false), (.int 0)]) (
 cond ((cl v0 (sl (DX v0 v1 v7) 1).toInt 1).toInt < (IntKind.wrap .i64 ((cl v1 (sl (DX v0 v1 v7) 1).toInt 0).toInt + v10))) (
 .row [.int 1, (.bool false), (.int 0)]) (
 .row [.int 1, (.bool true), (.int 0)]))))))) (
 .row [])) (
 .row []))) (
 .row [])) := gw rfl rfl (cg rfl rfl (cQ (cL rfl (cL (cL (cL rfl (cL rfl (cL rfl (cL rfl rfl)))) rfl) rfl)) rfl))
theorem gq (v0 v1 v2 v3 v4 : D) (v5 : Int) (v6 v7 : D) (v8 : Int) (v9 : D) (v10 v11 : Int) : G4 v0 v1 v2 v3 v4 (.int v5) v6 v7 (.int v8) v9 (.int v10) (.int v11) =
  cond (v11 < 0) (
 .row []) (
 cond (v11 < len v3) (
 cond ((sl (JJ v6 v7 (cl v3 v11 0) (cl v3 v11 1) (cl v3 v11 2) (cl v3 v11 3) (cl v3 v11 4) (cl v3 v11 5) (cl v3 v11 6) (cl v3 v11 7) (cl v3 v11 8)) 0).toInt = 1) (
 cond (D.strEq (cl v3 v11 0) v4) (
 cond ((sl (JJ v6 v7 (cl v3 v11 0) (cl v3 v11 1) (cl v3 v11 2) (cl v3 v11 3) (cl v3 v11 4) (cl v3 v11 5) (cl v3 v11 6) (cl v3 v11 7) (cl v3 v11 8)) 1).toBool) (
 cond ((cl v3 v11 2).toInt = 3) (
 cond ((sl (G5 v0 v1 v2 v3 v4) 0).toInt = 1) (
 .row [.int 1, (.bool (!decide ((IntKind.wrap .i64 (v10 - v5)) < (sl (G5 v0 v1 v2 v3 v4) 3).toInt)))]) (
 .row [])) (
 .row [.int 1, (.bool true)])) (
 .row [.int 1, (.bool false)])) (
 .row [.int 1, (.bool false)])) (
 .row [])) (
 .row [])) := gw rfl rfl (cL rfl (cL (cQ (cg rfl (cg rfl (cQ (cQ rfl rfl) rfl) rfl) rfl) rfl) rfl))
theorem eA (v0 v1 v2 v3 v4 : D) (v5 : Int) (v6 v7 : D) (v8 : Int) (v9 : D) : Ko v0 v1 v2 v3 v4 (.int v5) v6 v7 (.int v8) v9 =
  cond ((sl (G5 v0 v1 v2 v3 v4) 0).toInt = 1) (
 cond ((IntKind.wrap .i64 (v5 + (sl (G5 v0 v1 v2 v3 v4) 3).toInt)) < v8) (
 Ig (.int v8) (.int 0) v0 v1 v2 v3 v4 (.int v5) v6 v7 (.int v8) v9) (
 Ig (.int (IntKind.wrap .i64 (v5 + (sl (G5 v0 v1 v2 v3 v4) 3).toInt))) (.int 0) v0 v1 v2 v3 v4 (.int v5) v6 v7 (.int v8) v9)) (
 .row []) := gw rfl rfl (cQ rfl rfl)
theorem YQ (v0 v1 : Int) (v2 v3 v4 v5 v6 : D) (v7 : Int) (v8 v9 : D) (v10 : Int) (v11 : D) : Ig (.int v0) (.int v1) v2 v3 v4 v5 v6 (.int v7) v8 v9 (.int v10) v11 =
  cond (v1 < len v5) (
 cond (v1 < 0) (
 .row []) (
 cond ((cl v5 v1 2).toInt = 3) (
 cond (1099511627776 < v0) (
 Ig (.int v0) (.int (IntKind.wrap .i64 (v1 + 1))) v2 v3 v4 v5 v6 (.int v7) v8 v9 (.int v10) v11) (
 cond ((sl (G4 v2 v3 v4 v5 v6 (.int v7) v8 v9 (.int v10) v11 (.int v0) (.int v1)) 0).toInt = 1) (
 cond ((sl (G4 v2 v3 v4 v5 v6 (.int v7) v8 v9 (.int v10) v11 (.int v0) (.int v1)) 1).toBool) (
 .row [.int 1, (.int v0), (.int 0)]) (
 Ig (.int v0) (.int (IntKind.wrap .i64 (v1 + 1))) v2 v3 v4 v5 v6 (.int v7) v8 v9 (.int v10) v11)) (
 .row []))) (
 Ig (.int v0) (.int (IntKind.wrap .i64 (v1 + 1))) v2 v3 v4 v5 v6 (.int v7) v8 v9 (.int v10) v11))) (
 .row [.int 1, (.int 0), (.int 9)]) := gw rfl rfl (cL (cL rfl (cQ (cL rfl (cQ rfl rfl)) rfl)) rfl)
theorem YM (v0 : D) (v1 : Bool) : EY v0 (.bool v1) =
  cond (v1) (
 .row [.int 1, Ar, (.bool true)]) (
 cond ((len v0 : Int) < 1048576) (
 .row [.int 1, (ct Au v0), (.bool false)]) (
 .row [])) := gw rfl rfl (cg rfl rfl (cL rfl rfl))
theorem eW (v0 v1 v2 v3 v4 : D) (v5 : Int) (v6 v7 : D) (v8 : Int) (v9 : D) (v10 : Bool) (v11 : Int) (v12 : D) (v13 : Bool) : Pc v0 v1 v2 v3 v4 (.int v5) v6 v7 (.int v8) v9 (.bool v10) (.int v11) v12 (.bool v13) =
 SA v12 (.bool v13) (.int 0) v0 v1 v2 v3 v4 (.int v5) v6 v7 (.int v8) v9 (.bool v10) (.int v11) := gw rfl rfl rfl
theorem YJ (v0 : D) (v1 : Bool) (v2 : Int) (v3 v4 v5 v6 v7 : D) (v8 : Int) (v9 v10 : D) (v11 : Int) (v12 : D) (v13 : Bool) (v14 : Int) : SA v0 (.bool v1) (.int v2) v3 v4 v5 v6 v7 (.int v8) v9 v10 (.int v11) v12 (.bool v13) (.int v14) =
  cond (v2 < len v0) (
 cond (v2 < 0) (
 .row []) (
 cond (v2 = v14) (
 cond (v14 < len v12) (
 cond (v14 < 0) (
 .row []) (
 cond ((cl v0 v2 0).toInt = (cl v12 v14 0).toInt) (
 cond ((cl v0 v2 1).toInt = (cl v12 v14 1).toInt) (
 SA v0 (.bool v1) (.int (IntKind.wrap .i64 (v2 + 1))) v3 v4 v5 v6 v7 (.int v8) v9 v10 (.int v11) v12 (.bool v13) (.int (IntKind.wrap .i64 (v14 + 1)))) (
 .row [.int 1, (.int v14)])) (
 .row [.int 1, (.int v14)]))) (
 .row [.int 1, (.int v14)])) (
 .row [.int 1, (.int v14)]))) (
 .row [.int 2, (.int v14)]) := gw rfl rfl (cL (cL rfl (cQ (cL (cL rfl (cQ (cQ rfl rfl) rfl)) rfl) rfl)) rfl)
theorem fU (v0 : D) (v1 : Bool) (v2 v3 : D) (v4 : Bool) (v5 : D) (v6 : Bool) (v7 : D) (v8 : Bool) (v9 : D) (v10 : Bool) (v11 v12 : Int) (v13 v14 v15 : D) (v16 v17 : Bool) (v18 : D) (v19 : Bool) (v20 v21 v22 v23 v24 : D) (v25 : Int) (v26 v27 : D) (v28 : Int) (v29 : D) : FQ v0 (.bool v1) v2 v3 (.bool v4) v5 (.bool v6) v7 (.bool v8) v9 (.bool v10) (.int v11) (.int v12) v13 v14 v15 (.bool v16) (.bool v17) v18 (.bool v19) v20 v21 v22 v23 v24 (.int v25) v26 v27 (.int v28) v29 =
  cond (D.strEq v9 v24) (
 cond ((sl (G5 v20 v21 v22 v23 v24) 0).toInt = 1) (
 cond (v10) (
 cond ((sl (G5 v20 v21 v22 v23 v24) 2).toBool) (
 cond (v12 = v28) (
 Mj (.int 0) v2 v3 (.bool v4) v5 (.bool v6) v7 (.bool v8) v9 (.bool v10) (.int v11) (.bool v17) v18 (.bool v19) v0 (.bool v1) (.int v12) v14 v15 (.bool v16) v13 v20 v21 v22 v23 v24 (.int v25) v26 v27 (.int v28) v29) (
 .row [.int 1, (.bool false)])) (
 .row [.int 1, (.bool false)])) (
 cond ((sl (G5 v20 v21 v22 v23 v24) 2).toBool) (
 .row [.int 1, (.bool false)]) (
 cond (v12 = v28) (
 Mj (.int 0) v2 v3 (.bool v4) v5 (.bool v6) v7 (.bool v8) v9 (.bool v10) (.int v11) (.bool v17) v18 (.bool v19) v0 (.bool v1) (.int v12) v14 v15 (.bool v16) v13 v20 v21 v22 v23 v24 (.int v25) v26 v27 (.int v28) v29) (
 .row [.int 1, (.bool false)])))) (
 .row [])) (
 .row [.int 1, (.bool false)]) := gw rfl rfl (cg rfl (cQ (cg rfl (cg rfl (cQ rfl rfl) rfl) (cg rfl rfl (cQ rfl rfl))) rfl) rfl)
theorem Yj (v0 : Int) (v1 v2 : D) (v3 : Bool) (v4 : D) (v5 : Bool) (v6 : D) (v7 : Bool) (v8 : D) (v9 : Bool) (v10 : Int) (v11 : Bool) (v12 : D) (v13 : Bool) (v14 : D) (v15 : Bool) (v16 : Int) (v17 v18 : D) (v19 : Bool) (v20 v21 v22 v23 v24 v25 : D) (v26 : Int) (v27 v28 : D) (v29 : Int) (v30 : D) : Mj (.int v0) v1 v2 (.bool v3) v4 (.bool v5) v6 (.bool v7) v8 (.bool v9) (.int v10) (.bool v11) v12 (.bool v13) v14 (.bool v15) (.int v16) v17 v18 (.bool v19) v20 v21 v22 v23 v24 v25 (.int v26) v27 v28 (.int v29) v30 =
  cond (v0 < len v27) (
 cond (v0 < 0) (
 .row []) (
 cond ((sl (DU v14 (.bool v15) (cl v27 v0 0)) 0).toInt = 1) (
 cond (v0 < len v28) (
 cond ((sl (DU v14 (.bool v15) (cl v27 v0 0)) 1).toInt = (cl v28 v0 0).toInt) (
 cond ((sl (DU v14 (.bool v15) (cl v27 v0 0)) 2).toInt = 0) (
 Mj (.int (IntKind.wrap .i64 (v0 + 1))) v1 v2 (.bool v3) v4 (.bool v5) v6 (.bool v7) v8 (.bool v9) (.int v10) (.bool v11) v12 (.bool v13) v14 (.bool v15) (.int v16) v17 v18 (.bool v19) v20 v21 v22 v23 v24 v25 (.int v26) v27 v28 (.int v29) v30) (
 .row [.int 1, (.bool false)])) (
 .row [.int 1, (.bool false)])) (
 .row [])) (
 .row []))) (
 cond ((sl (OA v14 (.bool v15) v1 v2 (.bool v3) v4 (.bool v5) v6 (.bool v7) v8 (.bool v9) (.int v10) (.int v16) v20 v17 v18 (.bool v19) (.bool v11) v12 (.bool v13)) 0).toInt = 1) (
 cond ((sl (Ko v21 v22 v23 v24 v25 (.int v26) v27 v28 (.int v29) v30) 0).toInt = 1) (
 cond ((sl (OA v14 (.bool v15) v1 v2 (.bool v3) v4 (.bool v5) v6 (.bool v7) v8 (.bool v9) (.int v10) (.int v16) v20 v17 v18 (.bool v19) (.bool v11) v12 (.bool v13)) 1).toInt = (sl (Ko v21 v22 v23 v24 v25 (.int v26) v27 v28 (.int v29) v30) 1).toInt) (
 cond ((sl (OA v14 (.bool v15) v1 v2 (.bool v3) v4 (.bool v5) v6 (.bool v7) v8 (.bool v9) (.int v10) (.int v16) v20 v17 v18 (.bool v19) (.bool v11) v12 (.bool v13)) 2).toInt = (sl (Ko v21 v22 v23 v24 v25 (.int v26) v27 v28 (.int v29) v30) 2).toInt) (
 cond ((sl (EY v12 (.bool v13)) 0).toInt = 1) (
 cond ((sl (Pc v21 v22 v23 v24 v25 (.int v26) v27 v28 (.int v29) v30 (.bool false) (.int 0) (sl (EY v12 (.bool v13)) 1) (sl (EY v12 (.bool v13)) 2)) 0).toInt = 1) (
 .row [.int 1, (.bool false)]) (
 cond ((sl (Pc v21 v22 v23 v24 v25 (.int v26) v27 v28 (.int v29) v30 (.bool false) (.int 0) (sl (EY v12 (.bool v13)) 1) (sl (EY v12 (.bool v13)) 2)) 0).toInt = 2) (
 .row [.int 1, (.bool (decide ((sl (Pc v21 v22 v23 v24 v25 (.int v26) v27 v28 (.int v29) v30 (.bool false) (.int 0) (sl (EY v12 (.bool v13)) 1) (sl (EY v12 (.bool v13)) 2)) 1).toInt = (len v30 : Int))))]) (
 .row []))) (
 .row [])) (
 .row [.int 1, (.bool false)])) (
 .row [.int 1, (.bool false)])) (
 .row [])) (
 .row [])) := gw rfl rfl (cL (cL rfl (cQ (cL (cQ (cQ rfl rfl) rfl) rfl) rfl)) (cQ (cQ (cQ (cQ (cQ (cQ rfl (cQ rfl rfl)) rfl) rfl) rfl) rfl) rfl))
theorem fL (v0 : D) (v1 : Bool) : JO v0 (.bool v1) =
  cond (v1) (
 .row [.int 1, Ar, (.bool true)]) (
 cond ((len v0 : Int) < 1048576) (
 .row [.int 1, (ct Au v0), (.bool false)]) (
 .row [])) := gw rfl rfl (cg rfl rfl (cL rfl rfl))
theorem f5 (v0 : Int) (v1 v2 v3 : D) (v4 : Bool) : FO (.int v0) v1 v2 v3 (.bool v4) =
  cond (v2.toBool) (
 cond ((sl (JO v3 (.bool v4)) 0).toInt = 1) (
 .row [.int 1, (.int v0), (.bool true), (sl (JO v3 (.bool v4)) 1), (sl (JO v3 (.bool v4)) 2), Au]) (
 .row [])) (
 cond ((sl (JO v3 (.bool v4)) 0).toInt = 1) (
 .row [.int 1, (.int v0), (.bool false), (sl (JO v3 (.bool v4)) 1), (sl (JO v3 (.bool v4)) 2), v1]) (
 .row [])) := gw rfl rfl (cg rfl (cQ rfl rfl) (cQ rfl rfl))
theorem bN (v0 : Int) (v1 v2 v3 : D) (v4 : Bool) : Gu (.int v0) v1 v2 v3 (.bool v4) =
  cond ((IntKind.wrap .i64 ((len v3 : Int) - 1)) < 0) (
 .row []) (
 cond ((IntKind.wrap .i64 ((len v3 : Int) - 1)) < (len v3 : Int)) (
 cond (0 < (len v3 : Int)) (
 cond ((len (upd (upd v3 0 0 (cl v3 (IntKind.wrap .i64 ((len v3 : Int) - 1)) 0)) 0 1 (cl v3 (IntKind.wrap .i64 ((len v3 : Int) - 1)) 1)) : Int) < (IntKind.wrap .i64 ((len v3 : Int) - 1))) (
 .row []) (
 Rj (.int (IntKind.wrap .i64 ((len v3 : Int) - 1))) (.int 0) (.int v0) v2 (sb (upd (upd v3 0 0 (cl v3 (IntKind.wrap .i64 ((len v3 : Int) - 1)) 0)) 0 1 (cl v3 (IntKind.wrap .i64 ((len v3 : Int) - 1)) 1)) 0 (IntKind.wrap .i64 ((len v3 : Int) - 1))) (.bool v4) v1)) (
 .row [])) (
 .row [])) := gw rfl rfl rfl
theorem YA (v0 v1 v2 : Int) (v3 v4 : D) (v5 : Bool) (v6 : D) : Rj (.int v0) (.int v1) (.int v2) v3 v4 (.bool v5) v6 =
 BF (.int v0) (.int v1) (.int v1) (.int 0) (.int v2) v3 v4 (.bool v5) v6 (.int (IntKind.wrap .i64 ((IntKind.wrap .i64 (2 * v1)) + 1))) (.int (IntKind.wrap .i64 ((IntKind.wrap .i64 (2 * v1)) + 2))) := gw rfl rfl rfl
theorem RB (v0 v1 v2 v3 v4 : Int) (v5 v6 : D) (v7 : Bool) (v8 : D) (v9 v10 : Int) : BF (.int v0) (.int v1) (.int v2) (.int v3) (.int v4) v5 v6 (.bool v7) v8 (.int v9) (.int v10) =
  cond (v3 < 2) (
 cond (v3 = 0) (
 cond (v9 < v0) (
 cond (v9 < 0) (
 .row []) (
 cond (v9 < len v6) (
 cond (v2 < 0) (
 .row []) (
 cond (v2 < len v6) (
 cond ((cl v6 v9 0).toInt < (cl v6 v2 0).toInt) (
 cond ((cl v6 v9 1).toInt < (cl v6 v2 1).toInt) (
 BF (.int v0) (.int v1) (.int v9) (.int (IntKind.wrap .i64 (v3 + 1))) (.int v4) v5 v6 (.bool v7) v8 (.int v9) (.int v10)) (
 cond ((cl v6 v2 1).toInt < (cl v6 v9 1).toInt) (
 BF (.int v0) (.int v1) (.int v9) (.int (IntKind.wrap .i64 (v3 + 1))) (.int v4) v5 v6 (.bool v7) v8 (.int v9) (.int v10)) (
 BF (.int v0) (.int v1) (.int v9) (.int (IntKind.wrap .i64 (v3 + 1))) (.int v4) v5 v6 (.bool v7) v8 (.int v9) (.int v10)))) (
 cond ((cl v6 v2 0).toInt < (cl v6 v9 0).toInt) (
 cond ((cl v6 v9 1).toInt < (cl v6 v2 1).toInt) (
 BF (.int v0) (.int v1) (.int v2) (.int (IntKind.wrap .i64 (v3 + 1))) (.int v4) v5 v6 (.bool v7) v8 (.int v9) (.int v10)) (
 cond ((cl v6 v2 1).toInt < (cl v6 v9 1).toInt) (
 BF (.int v0) (.int v1) (.int v2) (.int (IntKind.wrap .i64 (v3 + 1))) (.int v4) v5 v6 (.bool v7) v8 (.int v9) (.int v10)) (
 BF (.int v0) (.int v1) (.int v2) (.int (IntKind.wrap .i64 (v3 + 1))) (.int v4) v5 v6 (.bool v7) v8 (.int v9) (.int v10)))) (
 cond ((cl v6 v9 1).toInt < (cl v6 v2 1).toInt) (
 BF (.int v0) (.int v1) (.int v9) (.int (IntKind.wrap .i64 (v3 + 1))) (.int v4) v5 v6 (.bool v7) v8 (.int v9) (.int v10)) (
 cond ((cl v6 v2 1).toInt < (cl v6 v9 1).toInt) (
 BF (.int v0) (.int v1) (.int v2) (.int (IntKind.wrap .i64 (v3 + 1))) (.int v4) v5 v6 (.bool v7) v8 (.int v9) (.int v10)) (
 BF (.int v0) (.int v1) (.int v2) (.int (IntKind.wrap .i64 (v3 + 1))) (.int v4) v5 v6 (.bool v7) v8 (.int v9) (.int v10)))))) (
 .row []))) (
 .row []))) (
 BF (.int v0) (.int v1) (.int v2) (.int (IntKind.wrap .i64 (v3 + 1))) (.int v4) v5 v6 (.bool v7) v8 (.int v9) (.int v10))) (
 cond (v3 = 1) (
 cond (v10 < v0) (
 cond (v10 < 0) (
 .row []) (
 cond (v10 < len v6) (
 cond (v2 < 0) (
 .row []) (
 cond (v2 < len v6) (
 cond ((cl v6 v10 0).toInt < (cl v6 v2 0).toInt) (
 cond ((cl v6 v10 1).toInt < (cl v6 v2 1).toInt) (
 BF (.int v0) (.int v1) (.int v10) (.int (IntKind.wrap .i64 (v3 + 1))) (.int v4) v5 v6 (.bool v7) v8 (.int v9) (.int v10)) (
 cond ((cl v6 v2 1).toInt < (cl v6 v10 1).toInt) (
 BF (.int v0) (.int v1) (.int v10) (.int (IntKind.wrap .i64 (v3 + 1))) (.int v4) v5 v6 (.bool v7) v8 (.int v9) (.int v10)) (
 BF (.int v0) (.int v1) (.int v10) (.int (IntKind.wrap .i64 (v3 + 1))) (.int v4) v5 v6 (.bool v7) v8 (.int v9) (.int v10)))) (
 cond ((cl v6 v2 0).toInt < (cl v6 v10 0).toInt) (
 cond ((cl v6 v10 1).toInt < (cl v6 v2 1).toInt) (
 BF (.int v0) (.int v1) (.int v2) (.int (IntKind.wrap .i64 (v3 + 1))) (.int v4) v5 v6 (.bool v7) v8 (.int v9) (.int v10)) (
 cond ((cl v6 v2 1).toInt < (cl v6 v10 1).toInt) (
 BF (.int v0) (.int v1) (.int v2) (.int (IntKind.wrap .i64 (v3 + 1))) (.int v4) v5 v6 (.bool v7) v8 (.int v9) (.int v10)) (
 BF (.int v0) (.int v1) (.int v2) (.int (IntKind.wrap .i64 (v3 + 1))) (.int v4) v5 v6 (.bool v7) v8 (.int v9) (.int v10)))) (
 cond ((cl v6 v10 1).toInt < (cl v6 v2 1).toInt) (
 BF (.int v0) (.int v1) (.int v10) (.int (IntKind.wrap .i64 (v3 + 1))) (.int v4) v5 v6 (.bool v7) v8 (.int v9) (.int v10)) (
 cond ((cl v6 v2 1).toInt < (cl v6 v10 1).toInt) (
 BF (.int v0) (.int v1) (.int v2) (.int (IntKind.wrap .i64 (v3 + 1))) (.int v4) v5 v6 (.bool v7) v8 (.int v9) (.int v10)) (
 BF (.int v0) (.int v1) (.int v2) (.int (IntKind.wrap .i64 (v3 + 1))) (.int v4) v5 v6 (.bool v7) v8 (.int v9) (.int v10)))))) (
 .row []))) (
 .row []))) (
 BF (.int v0) (.int v1) (.int v2) (.int (IntKind.wrap .i64 (v3 + 1))) (.int v4) v5 v6 (.bool v7) v8 (.int v9) (.int v10))) (
 .row []))) (
 cond (v2 = v1) (
 .row [.int 1, v6, (.bool v7)]) (
 cond (v2 < 0) (
 .row []) (
 cond (v2 < len v6) (
 cond (v1 < 0) (
 .row []) (
 cond (v1 < len v6) (
 Rj (.int v0) (.int v2) (.int v4) v5 (upd (upd (upd (upd v6 v1 0 (cl v6 v2 0)) v1 1 (cl v6 v2 1)) v2 0 (cl v6 v1 0)) v2 1 (cl v6 v1 1)) (.bool v7) v8) (
 .row []))) (
 .row [])))) := gw rfl rfl (cL (cQ rfl (cQ rfl rfl)) (cQ rfl rfl))
theorem R4 (v0 : Int) (v1 v2 v3 : D) (v4 : Bool) : Br (.int v0) v1 v2 v3 (.bool v4) =
 Jl (.int v0) v2 v3 (.bool v4) v1 := gw rfl rfl rfl
theorem Vj (v0 : Int) (v1 v2 : D) (v3 : Bool) (v4 : D) : Jl (.int v0) v1 v2 (.bool v3) v4 =
  cond (0 < (len v2 : Int)) (
 cond (v1.toBool) (
 cond ((sl (Gu (.int v0) v4 v1 v2 (.bool v3)) 0).toInt = 1) (
 Jl (.int v0) v1 (sl (Gu (.int v0) v4 v1 v2 (.bool v3)) 1) (sl (Gu (.int v0) v4 v1 v2 (.bool v3)) 2) v4) (
 .row [])) (
 cond ((mIx [.int .i64] v4 (.row [(cl v2 0 1)])) < 0) (
 cond ((sl (Gu (.int v0) v4 v1 v2 (.bool v3)) 0).toInt = 1) (
 Jl (.int v0) v1 (sl (Gu (.int v0) v4 v1 v2 (.bool v3)) 1) (sl (Gu (.int v0) v4 v1 v2 (.bool v3)) 2) v4) (
 .row [])) (
 cond ((cl v4 (mIx [.int .i64] v4 (.row [(cl v2 0 1)])) 1).toInt = (cl v2 0 0).toInt) (
 .row [.int 1, (cl v2 0 0), (cl v2 0 1), (.bool true), v2, (.bool v3)]) (
 cond ((sl (Gu (.int v0) v4 v1 v2 (.bool v3)) 0).toInt = 1) (
 Jl (.int v0) v1 (sl (Gu (.int v0) v4 v1 v2 (.bool v3)) 1) (sl (Gu (.int v0) v4 v1 v2 (.bool v3)) 2) v4) (
 .row []))))) (
 .row [.int 1, (.int 0), (.int 0), (.bool false), v2, (.bool v3)]) := gw rfl rfl (cL (cg rfl (cQ rfl rfl) (cL (cQ rfl rfl) (cQ rfl (cQ rfl rfl)))) rfl)
theorem iG (v0 : Int) (v1 v2 v3 : D) (v4 : Bool) (v5 : Int) : Lb (.int v0) v1 v2 v3 (.bool v4) (.int v5) =
  cond (1099511627776 < v5) (
 .row [.int 1, Ar, (.bool true), (.int 3), (.int v0), v3, (.bool v4), v1]) (
 cond (v0 < v5) (
 cond ((sl (Br (.int v5) v1 v2 v3 (.bool v4)) 0).toInt = 1) (
 Lx Ar (.bool true) (sl (Br (.int v5) v1 v2 v3 (.bool v4)) 3) (.int v5) v2 (sl (Br (.int v5) v1 v2 v3 (.bool v4)) 4) (sl (Br (.int v5) v1 v2 v3 (.bool v4)) 5) v1 (sl (Br (.int v5) v1 v2 v3 (.bool v4)) 1) (sl (Br (.int v5) v1 v2 v3 (.bool v4)) 2)) (
 .row [])) (
 cond ((sl (Br (.int v0) v1 v2 v3 (.bool v4)) 0).toInt = 1) (
 Lx Ar (.bool true) (sl (Br (.int v0) v1 v2 v3 (.bool v4)) 3) (.int v0) v2 (sl (Br (.int v0) v1 v2 v3 (.bool v4)) 4) (sl (Br (.int v0) v1 v2 v3 (.bool v4)) 5) v1 (sl (Br (.int v0) v1 v2 v3 (.bool v4)) 1) (sl (Br (.int v0) v1 v2 v3 (.bool v4)) 2)) (
 .row []))) := gw rfl rfl (cL rfl (cL (cQ rfl rfl) (cQ rfl rfl)))
theorem Sp (v0 : D) (v1 v2 : Bool) (v3 : Int) (v4 v5 : D) (v6 : Bool) (v7 : D) (v8 v9 : Int) : Lx v0 (.bool v1) (.bool v2) (.int v3) v4 v5 (.bool v6) v7 (.int v8) (.int v9) =
  cond (v2) (
 cond (v3 < v8) (
 .row [.int 1, v0, (.bool v1), (.int 0), (.int v3), v5, (.bool v6), v7]) (
 cond ((len v0 : Int) < 1073741824) (
 cond (v4.toBool) (
 cond ((sl (Br (.int v3) v7 v4 v5 (.bool v6)) 0).toInt = 1) (
 Lx (ad v0 (.row [(.int v9)])) (.bool false) (sl (Br (.int v3) v7 v4 v5 (.bool v6)) 3) (.int v3) v4 (sl (Br (.int v3) v7 v4 v5 (.bool v6)) 4) (sl (Br (.int v3) v7 v4 v5 (.bool v6)) 5) v7 (sl (Br (.int v3) v7 v4 v5 (.bool v6)) 1) (sl (Br (.int v3) v7 v4 v5 (.bool v6)) 2)) (
 .row [])) (
 cond ((mIx [.int .i64] v7 (.row [(.int v9)])) < 0) (
 cond ((sl (Br (.int v3) v7 v4 v5 (.bool v6)) 0).toInt = 1) (
 Lx (ad v0 (.row [(.int v9)])) (.bool false) (sl (Br (.int v3) v7 v4 v5 (.bool v6)) 3) (.int v3) v4 (sl (Br (.int v3) v7 v4 v5 (.bool v6)) 4) (sl (Br (.int v3) v7 v4 v5 (.bool v6)) 5) v7 (sl (Br (.int v3) v7 v4 v5 (.bool v6)) 1) (sl (Br (.int v3) v7 v4 v5 (.bool v6)) 2)) (
 .row [])) (
 cond ((sl (Br (.int v3) (J1 v7 (mIx [.int .i64] v7 (.row [(.int v9)]))) v4 v5 (.bool v6)) 0).toInt = 1) (
 Lx (ad v0 (.row [(.int v9)])) (.bool false) (sl (Br (.int v3) (J1 v7 (mIx [.int .i64] v7 (.row [(.int v9)]))) v4 v5 (.bool v6)) 3) (.int v3) v4 (sl (Br (.int v3) (J1 v7 (mIx [.int .i64] v7 (.row [(.int v9)]))) v4 v5 (.bool v6)) 4) (sl (Br (.int v3) (J1 v7 (mIx [.int .i64] v7 (.row [(.int v9)]))) v4 v5 (.bool v6)) 5) (J1 v7 (mIx [.int .i64] v7 (.row [(.int v9)]))) (sl (Br (.int v3) (J1 v7 (mIx [.int .i64] v7 (.row [(.int v9)]))) v4 v5 (.bool v6)) 1) (sl (Br (.int v3) (J1 v7 (mIx [.int .i64] v7 (.row [(.int v9)]))) v4 v5 (.bool v6)) 2)) (
 .row [])))) (
 .row []))) (
 .row [.int 1, v0, (.bool v1), (.int 0), (.int v3), v5, (.bool v6), v7]) := gw rfl rfl (cg rfl (cL rfl (cL (cg rfl (cQ rfl rfl) (cL (cQ rfl rfl) (cQ rfl rfl))) rfl)) rfl)
theorem fX (v0 : D) (v1 : Bool) (v2 v3 : D) (v4 : Bool) (v5 : D) (v6 : Bool) (v7 : D) (v8 : Bool) (v9 : D) (v10 : Bool) (v11 v12 : Int) (v13 v14 v15 : D) (v16 v17 : Bool) (v18 : D) (v19 v20 : Bool) (v21 v22 : D) (v23 : Int) (v24 v25 v26 : D) (v27 v28 v29 : Int) : R3 v0 (.bool v1) v2 v3 (.bool v4) v5 (.bool v6) v7 (.bool v8) v9 (.bool v10) (.int v11) (.int v12) v13 v14 v15 (.bool v16) (.bool v17) v18 (.bool v19) (.bool v20) v21 v22 (.int v23) v24 v25 v26 (.int v27) (.int v28) (.int v29) =
 Kw (.int 0) v2 v3 (.bool v4) v5 (.bool v6) v7 (.bool v8) v9 (.bool v10) (.int v11) (.bool v17) v18 (.bool v19) v0 (.bool v1) (.int v12) v14 v15 (.bool v16) v13 v21 v22 (.int v23) v24 v25 v26 (.int v27) (.int v28) (.int v29) (.bool v20) := gw rfl rfl rfl
theorem Ro (v0 : Int) (v1 v2 : D) (v3 : Bool) (v4 : D) (v5 : Bool) (v6 : D) (v7 : Bool) (v8 : D) (v9 : Bool) (v10 : Int) (v11 : Bool) (v12 : D) (v13 : Bool) (v14 : D) (v15 : Bool) (v16 : Int) (v17 v18 : D) (v19 : Bool) (v20 v21 v22 : D) (v23 : Int) (v24 v25 v26 : D) (v27 v28 v29 : Int) (v30 : Bool) : Kw (.int v0) v1 v2 (.bool v3) v4 (.bool v5) v6 (.bool v7) v8 (.bool v9) (.int v10) (.bool v11) v12 (.bool v13) v14 (.bool v15) (.int v16) v17 v18 (.bool v19) v20 v21 v22 (.int v23) v24 v25 v26 (.int v27) (.int v28) (.int v29) (.bool v30) =
  cond (v0 < 3) (
 cond (v0 = 0) (
 cond (D.strEq v21 v8) (
 Kw (.int (IntKind.wrap .i64 (v0 + 1))) v1 v2 (.bool v3) v4 (.bool v5) v6 (.bool v7) v8 (.bool v9) (.int v10) (.bool v11) v12 (.bool v13) v14 (.bool v15) (.int v16) v17 v18 (.bool v19) v20 v21 v22 (.int v23) v24 v25 v26 (.int v27) (.int v28) (.int v29) (.bool v30)) (
 .row [.int 1, (.bool false)])) (
 cond (v0 = 1) (
 cond ((sl (FN v14 (.bool v15) v21 v22 (.int v23) v24 v25 v26 (.int v27) (.int v28) (.int v29)) 0).toInt = 1) (
 cond ((sl (FN v14 (.bool v15) v21 v22 (.int v23) v24 v25 v26 (.int v27) (.int v28) (.int v29)) 1).toBool) (
 Kw (.int (IntKind.wrap .i64 (v0 + 1))) v1 v2 (.bool v3) v4 (.bool v5) v6 (.bool v7) v8 (.bool v9) (.int v10) (.bool v11) v12 (.bool v13) v14 (.bool v15) (.int v16) v17 v18 (.bool v19) v20 v21 v22 (.int v23) v24 v25 v26 (.int v27) (.int v28) (.int v29) (.bool v30)) (
 .row [.int 1, (.bool false)])) (
 .row [])) (
 cond (v0 = 2) (
 cond (v23 = 3) (
 cond (v30) (
 Kw (.int (IntKind.wrap .i64 (v0 + 1))) v1 v2 (.bool v3) v4 (.bool v5) v6 (.bool v7) v8 (.bool v9) (.int v10) (.bool v11) v12 (.bool v13) v14 (.bool v15) (.int v16) v17 v18 (.bool v19) v20 v21 v22 (.int v23) v24 v25 v26 (.int v27) (.int v28) (.int v29) (.bool v30)) (
 .row [.int 1, (.bool false)])) (
 Kw (.int (IntKind.wrap .i64 (v0 + 1))) v1 v2 (.bool v3) v4 (.bool v5) v6 (.bool v7) v8 (.bool v9) (.int v10) (.bool v11) v12 (.bool v13) v14 (.bool v15) (.int v16) v17 v18 (.bool v19) v20 v21 v22 (.int v23) v24 v25 v26 (.int v27) (.int v28) (.int v29) (.bool v30))) (
 .row [])))) (
 .row [.int 1, (.bool true)]) := gw rfl rfl (cL (cQ rfl (cQ (cQ rfl rfl) (cQ (cQ rfl rfl) rfl))) rfl)
theorem eU (v0 : D) (v1 : Bool) (v2 : D) (v3 : Bool) (v4 v5 : D) (v6 : Bool) (v7 : D) (v8 : Bool) (v9 : D) (v10 : Bool) (v11 : D) (v12 : Bool) (v13 v14 : Int) (v15 v16 v17 : D) (v18 v19 : Bool) (v20 : D) (v21 v22 : Bool) (v23 : D) (v24 : Bool) (v25 : D) : KU v0 (.bool v1) v2 (.bool v3) v4 v5 (.bool v6) v7 (.bool v8) v9 (.bool v10) v11 (.bool v12) (.int v13) (.int v14) v15 v16 v17 (.bool v18) (.bool v19) v20 (.bool v21) (.bool v22) v23 (.bool v24) v25 =
 Mm v23 (.bool v24) (.int 0) v0 (.bool v1) (.bool v22) v4 v5 (.bool v6) v7 (.bool v8) v9 (.bool v10) v11 (.bool v12) (.int v13) (.bool v19) v20 (.bool v21) v2 (.bool v3) (.int v14) v16 v17 (.bool v18) v15 v25 := gw rfl rfl rfl
theorem Yh (v0 : D) (v1 : Bool) (v2 : Int) (v3 : D) (v4 v5 : Bool) (v6 v7 : D) (v8 : Bool) (v9 : D) (v10 : Bool) (v11 : D) (v12 : Bool) (v13 : D) (v14 : Bool) (v15 : Int) (v16 : Bool) (v17 : D) (v18 : Bool) (v19 : D) (v20 : Bool) (v21 : Int) (v22 v23 : D) (v24 : Bool) (v25 v26 : D) : Mm v0 (.bool v1) (.int v2) v3 (.bool v4) (.bool v5) v6 v7 (.bool v8) v9 (.bool v10) v11 (.bool v12) v13 (.bool v14) (.int v15) (.bool v16) v17 (.bool v18) v19 (.bool v20) (.int v21) v22 v23 (.bool v24) v25 v26 =
  cond (v2 < len v0) (
 cond (v2 < 0) (
 .row []) (
 cond (D.strEq (cl v0 v2 0) v26) (
 cond ((sl (R3 v19 (.bool v20) v6 v7 (.bool v8) v9 (.bool v10) v11 (.bool v12) v13 (.bool v14) (.int v15) (.int v21) v25 v22 v23 (.bool v24) (.bool v16) v17 (.bool v18) (.bool v5) (cl v0 v2 0) (cl v0 v2 1) (cl v0 v2 2) (cl v0 v2 3) (cl v0 v2 4) (cl v0 v2 5) (cl v0 v2 6) (cl v0 v2 7) (cl v0 v2 8)) 0).toInt = 1) (
 cond ((sl (R3 v19 (.bool v20) v6 v7 (.bool v8) v9 (.bool v10) v11 (.bool v12) v13 (.bool v14) (.int v15) (.int v21) v25 v22 v23 (.bool v24) (.bool v16) v17 (.bool v18) (.bool v5) (cl v0 v2 0) (cl v0 v2 1) (cl v0 v2 2) (cl v0 v2 3) (cl v0 v2 4) (cl v0 v2 5) (cl v0 v2 6) (cl v0 v2 7) (cl v0 v2 8)) 1).toBool) (
 cond ((len v3 : Int) < 1073741824) (
 Mm v0 (.bool v1) (.int (IntKind.wrap .i64 (v2 + 1))) (ad v3 (.row [(.int v2)])) (.bool false) (.bool v5) v6 v7 (.bool v8) v9 (.bool v10) v11 (.bool v12) v13 (.bool v14) (.int v15) (.bool v16) v17 (.bool v18) v19 (.bool v20) (.int v21) v22 v23 (.bool v24) v25 v26) (
 .row [])) (
 Mm v0 (.bool v1) (.int (IntKind.wrap .i64 (v2 + 1))) v3 (.bool v4) (.bool v5) v6 v7 (.bool v8) v9 (.bool v10) v11 (.bool v12) v13 (.bool v14) (.int v15) (.bool v16) v17 (.bool v18) v19 (.bool v20) (.int v21) v22 v23 (.bool v24) v25 v26)) (
 .row [])) (
 Mm v0 (.bool v1) (.int (IntKind.wrap .i64 (v2 + 1))) v3 (.bool v4) (.bool v5) v6 v7 (.bool v8) v9 (.bool v10) v11 (.bool v12) v13 (.bool v14) (.int v15) (.bool v16) v17 (.bool v18) v19 (.bool v20) (.int v21) v22 v23 (.bool v24) v25 v26))) (
 .row [.int 1, v3, (.bool v4)]) := gw rfl rfl (cL (cL rfl (cg rfl (cQ (cg rfl (cL rfl rfl) rfl) rfl) rfl)) rfl)
theorem UE (v0 : D) (v1 : Bool) (v2 v3 : D) (v4 : Bool) (v5 : D) (v6 : Bool) (v7 : D) (v8 : Bool) (v9 : D) (v10 : Bool) (v11 v12 : Int) (v13 v14 v15 : D) (v16 v17 : Bool) (v18 : D) (v19 : Bool) (v20 : Int) {F0 F1 : D} (h0 : FO (.int v12) v13 v14 v15 (.bool v16) = F0) (h1 : Lb (sl F0 1) (sl F0 5) (sl F0 2) (sl F0 3) (sl F0 4) (.int v20) = F1) : O0 v0 (.bool v1) v2 v3 (.bool v4) v5 (.bool v6) v7 (.bool v8) v9 (.bool v10) (.int v11) (.int v12) v13 v14 v15 (.bool v16) (.bool v17) v18 (.bool v19) (.int v20) =
  cond (v20 < v12) (
 .row [.int 1, Ar, (.bool true), (.int 3), (.bool v17), (.int v12), v14, v15, (.bool v16), v13]) (
 cond (1099511627776 < v20) (
 .row [.int 1, Ar, (.bool true), (.int 3), (.bool v17), (.int v12), v14, v15, (.bool v16), v13]) (
 cond ((sl F0 0).toInt = 1) (
 cond ((sl F1 0).toInt = 1) (
 cond (v17) (
 cond ((sl (CZ v7 (.bool v8)) 0).toInt = 1) (
 cond ((sl (KU Ar (.bool true) v0 (.bool v1) v2 v3 (.bool v4) v5 (.bool v6) v7 (.bool v8) v9 (.bool v10) (.int v11) (sl F1 4) (sl F1 7) (sl F0 2) (sl F1 5) (sl F1 6) (.bool true) v18 (.bool v19) (.bool true) (sl (CZ v7 (.bool v8)) 1) (sl (CZ v7 (.bool v8)) 2) v9) 0).toInt = 1) (
 .row [.int 1, (sl (KU Ar (.bool true) v0 (.bool v1) v2 v3 (.bool v4) v5 (.bool v6) v7 (.bool v8) v9 (.bool v10) (.int v11) (sl F1 4) (sl F1 7) (sl F0 2) (sl F1 5) (sl F1 6) (.bool true) v18 (.bool v19) (.bool true) (sl (CZ v7 (.bool v8)) 1) (sl (CZ v7 (.bool v8)) 2) v9) 1), (sl (KU Ar (.bool true) v0 (.bool v1) v2 v3 (.bool v4) v5 (.bool v6) v7 (.bool v8) v9 (.bool v10) (.int v11) (sl F1 4) (sl F1 7) (sl F0 2) (sl F1 5) (sl F1 6) (.bool true) v18 (.bool v19) (.bool true) (sl (CZ v7 (.bool v8)) 1) (sl (CZ v7 (.bool v8)) 2) v9) 2), (.int 0), (.bool true), (sl F1 4), (sl F0 2), (sl F1 5), (sl F1 6), (sl F1 7)]) (
 .row [])) (
 .row [])) (
 cond ((sl (CZ v7 (.bool v8)) 0).toInt = 1) (
 cond ((sl (KU Ar (.bool true) v0 (.bool v1) v2 v3 (.bool v4) v5 (.bool v6) v7 (.bool v8) v9 (.bool v10) (.int v11) (sl F1 4) (sl F1 7) (sl F0 2) (sl F1 5) (sl F1 6) (.bool (decide (0 < (len (sl F1 1) : Int)))) v18 (.bool v19) (.bool (decide (0 < (len (sl F1 1) : Int)))) (sl (CZ v7 (.bool v8)) 1) (sl (CZ v7 (.bool v8)) 2) v9) 0).toInt = 1) (
 .row [.int 1, (sl (KU Ar (.bool true) v0 (.bool v1) v2 v3 (.bool v4) v5 (.bool v6) v7 (.bool v8) v9 (.bool v10) (.int v11) (sl F1 4) (sl F1 7) (sl F0 2) (sl F1 5) (sl F1 6) (.bool (decide (0 < (len (sl F1 1) : Int)))) v18 (.bool v19) (.bool (decide (0 < (len (sl F1 1) : Int)))) (sl (CZ v7 (.bool v8)) 1) (sl (CZ v7 (.bool v8)) 2) v9) 1), (sl (KU Ar (.bool true) v0 (.bool v1) v2 v3 (.bool v4) v5 (.bool v6) v7 (.bool v8) v9 (.bool v10) (.int v11) (sl F1 4) (sl F1 7) (sl F0 2) (sl F1 5) (sl F1 6) (.bool (decide (0 < (len (sl F1 1) : Int)))) v18 (.bool v19) (.bool (decide (0 < (len (sl F1 1) : Int)))) (sl (CZ v7 (.bool v8)) 1) (sl (CZ v7 (.bool v8)) 2) v9) 2), (.int 0), (.bool (decide (0 < (len (sl F1 1) : Int)))), (sl F1 4), (sl F0 2), (sl F1 5), (sl F1 6), (sl F1 7)]) (
 .row [])) (
 .row []))) (
 .row [])) (
 .row []))) := by
  subst h0; subst h1; exact gw rfl rfl (cL rfl (cL rfl (cQ (cQ (cg rfl (cQ (cQ rfl rfl) rfl) (cQ (cQ rfl rfl) rfl)) rfl) rfl)))
theorem Vr (v0 v1 v2 v3 v4 : D) (v5 : Int) (v6 v7 : D) (v8 : Int) (v9 : D) (v10 : Int) : SH v0 v1 v2 v3 v4 (.int v5) v6 v7 (.int v8) v9 (.int v10) =
  cond (v10 < v8) (
 .row [.int 1, v0, v1, v2, v3, v4, (.int v5), v6, v7, (.int v8), v9, Ar, (.bool true), (.int 3)]) (
 cond (1099511627776 < v10) (
 .row [.int 1, v0, v1, v2, v3, v4, (.int v5), v6, v7, (.int v8), v9, Ar, (.bool true), (.int 3)]) (
 PA (.int v10) Ar (.bool true) (.int 0) v0 v1 v2 v3 v4 (.int v5) v6 v7 v9)) := gw rfl rfl (cL rfl (cL rfl rfl))
theorem YF (v0 : Int) (v1 : D) (v2 : Bool) (v3 : Int) (v4 v5 v6 v7 v8 : D) (v9 : Int) (v10 v11 v12 : D) : PA (.int v0) v1 (.bool v2) (.int v3) v4 v5 v6 v7 v8 (.int v9) v10 v11 v12 =
  cond (v3 < len v7) (
 cond ((sl (G4 v4 v5 v6 v7 v8 (.int v9) v10 v11 (.int v0) v12 (.int v0) (.int v3)) 0).toInt = 1) (
 cond ((sl (G4 v4 v5 v6 v7 v8 (.int v9) v10 v11 (.int v0) v12 (.int v0) (.int v3)) 1).toBool) (
 cond ((len v1 : Int) < 1073741824) (
 PA (.int v0) (ad v1 (.row [(.int v3)])) (.bool false) (.int (IntKind.wrap .i64 (v3 + 1))) v4 v5 v6 v7 v8 (.int v9) v10 v11 v12) (
 .row [])) (
 PA (.int v0) v1 (.bool v2) (.int (IntKind.wrap .i64 (v3 + 1))) v4 v5 v6 v7 v8 (.int v9) v10 v11 v12)) (
 .row [])) (
 .row [.int 1, v4, v5, v6, v7, v8, (.int v9), v10, v11, (.int v0), v12, v1, (.bool v2), (.int 0)]) := gw rfl rfl (cL (cQ (cg rfl (cL rfl rfl) rfl) rfl) rfl)
theorem eE (v0 : D) (v1 : Bool) (v2 : D) (v3 : Bool) : Jv v0 (.bool v1) v2 (.bool v3) =
  cond ((len v0 : Int) = (len v2 : Int)) (
 RP v0 (.bool v1) v2 (.bool v3) (.int 0)) (
 .row [.int 1, (.bool false)]) := gw rfl rfl (cQ rfl rfl)
theorem Yu (v0 : D) (v1 : Bool) (v2 : D) (v3 : Bool) (v4 : Int) : RP v0 (.bool v1) v2 (.bool v3) (.int v4) =
  cond (v4 < len v0) (
 cond (v4 < 0) (
 .row []) (
 cond (v4 < len v2) (
 cond ((cl v0 v4 0).toInt = (cl v2 v4 0).toInt) (
 RP v0 (.bool v1) v2 (.bool v3) (.int (IntKind.wrap .i64 (v4 + 1)))) (
 .row [.int 1, (.bool false)])) (
 .row []))) (
 .row [.int 1, (.bool true)]) := gw rfl rfl (cL (cL rfl (cL (cQ rfl rfl) rfl)) rfl)
theorem kI (v0 : D) (v1 : Bool) (v2 v3 : D) (v4 : Bool) (v5 : D) (v6 : Bool) (v7 : D) (v8 : Bool) (v9 : D) (v10 : Bool) (v11 v12 : Int) (v13 v14 v15 : D) (v16 v17 : Bool) (v18 : D) (v19 : Bool) (v20 : Int) (v21 v22 v23 : D) (v24 v25 : Bool) (v26 v27 : D) (v28 : Int) (v29 v30 v31 : D) (v32 v33 v34 : Int) : Ls v0 (.bool v1) v2 v3 (.bool v4) v5 (.bool v6) v7 (.bool v8) v9 (.bool v10) (.int v11) (.int v12) v13 v14 v15 (.bool v16) (.bool v17) v18 (.bool v19) (.int v20) v21 v22 v23 (.bool v24) (.bool v25) v26 v27 (.int v28) v29 v30 v31 (.int v32) (.int v33) (.int v34) =
 Lk (.int 0) v2 v3 (.bool v4) v5 (.bool v6) v7 (.bool v8) v9 (.bool v10) (.int v11) (.bool v17) v18 (.bool v19) v0 (.bool v1) (.int v12) v14 v15 (.bool v16) v13 (.int v20) v22 v23 (.bool v24) v21 v26 v27 (.int v28) v29 v30 v31 (.int v32) (.int v33) (.int v34) (.bool v25) := gw rfl rfl rfl
theorem Sw (v0 : Int) (v1 v2 : D) (v3 : Bool) (v4 : D) (v5 : Bool) (v6 : D) (v7 : Bool) (v8 : D) (v9 : Bool) (v10 : Int) (v11 : Bool) (v12 : D) (v13 : Bool) (v14 : D) (v15 : Bool) (v16 : Int) (v17 v18 : D) (v19 : Bool) (v20 : D) (v21 : Int) (v22 v23 : D) (v24 : Bool) (v25 v26 v27 : D) (v28 : Int) (v29 v30 v31 : D) (v32 v33 v34 : Int) (v35 : Bool) : Lk (.int v0) v1 v2 (.bool v3) v4 (.bool v5) v6 (.bool v7) v8 (.bool v9) (.int v10) (.bool v11) v12 (.bool v13) v14 (.bool v15) (.int v16) v17 v18 (.bool v19) v20 (.int v21) v22 v23 (.bool v24) v25 v26 v27 (.int v28) v29 v30 v31 (.int v32) (.int v33) (.int v34) (.bool v35) =
  cond (v0 < 3) (
 cond (v0 = 0) (
 cond (D.strEq v26 v8) (
 Lk (.int (IntKind.wrap .i64 (v0 + 1))) v1 v2 (.bool v3) v4 (.bool v5) v6 (.bool v7) v8 (.bool v9) (.int v10) (.bool v11) v12 (.bool v13) v14 (.bool v15) (.int v16) v17 v18 (.bool v19) v20 (.int v21) v22 v23 (.bool v24) v25 v26 v27 (.int v28) v29 v30 v31 (.int v32) (.int v33) (.int v34) (.bool v35)) (
 .row [.int 1, (.bool false)])) (
 cond (v0 = 1) (
 cond ((sl (FN v14 (.bool v15) v26 v27 (.int v28) v29 v30 v31 (.int v32) (.int v33) (.int v34)) 0).toInt = 1) (
 cond ((sl (FN v14 (.bool v15) v26 v27 (.int v28) v29 v30 v31 (.int v32) (.int v33) (.int v34)) 1).toBool) (
 Lk (.int (IntKind.wrap .i64 (v0 + 1))) v1 v2 (.bool v3) v4 (.bool v5) v6 (.bool v7) v8 (.bool v9) (.int v10) (.bool v11) v12 (.bool v13) v14 (.bool v15) (.int v16) v17 v18 (.bool v19) v20 (.int v21) v22 v23 (.bool v24) v25 v26 v27 (.int v28) v29 v30 v31 (.int v32) (.int v33) (.int v34) (.bool v35)) (
 .row [.int 1, (.bool false)])) (
 .row [])) (
 cond (v0 = 2) (
 cond (v28 = 3) (
 cond (v35) (
 Lk (.int (IntKind.wrap .i64 (v0 + 1))) v1 v2 (.bool v3) v4 (.bool v5) v6 (.bool v7) v8 (.bool v9) (.int v10) (.bool v11) v12 (.bool v13) v14 (.bool v15) (.int v16) v17 v18 (.bool v19) v20 (.int v21) v22 v23 (.bool v24) v25 v26 v27 (.int v28) v29 v30 v31 (.int v32) (.int v33) (.int v34) (.bool v35)) (
 .row [.int 1, (.bool false)])) (
 Lk (.int (IntKind.wrap .i64 (v0 + 1))) v1 v2 (.bool v3) v4 (.bool v5) v6 (.bool v7) v8 (.bool v9) (.int v10) (.bool v11) v12 (.bool v13) v14 (.bool v15) (.int v16) v17 v18 (.bool v19) v20 (.int v21) v22 v23 (.bool v24) v25 v26 v27 (.int v28) v29 v30 v31 (.int v32) (.int v33) (.int v34) (.bool v35))) (
 .row [])))) (
 .row [.int 1, (.bool true)]) := gw rfl rfl (cL (cQ rfl (cQ (cQ rfl rfl) (cQ (cQ rfl rfl) rfl))) rfl)
theorem Yp (v0 : D) (v1 : Bool) (v2 v3 : D) (v4 : Int) (v5 v6 v7 : D) (v8 v9 v10 : Int) : Fk v0 (.bool v1) v2 v3 (.int v4) v5 v6 v7 (.int v8) (.int v9) (.int v10) =
  cond ((sl (FN v0 (.bool v1) v2 v3 (.int v4) v5 v6 v7 (.int v8) (.int v9) (.int v10)) 0).toInt = 1) (
 cond ((sl (FN v0 (.bool v1) v2 v3 (.int v4) v5 v6 v7 (.int v8) (.int v9) (.int v10)) 2).toInt = 0) (
 cond ((sl (FN v0 (.bool v1) v2 v3 (.int v4) v5 v6 v7 (.int v8) (.int v9) (.int v10)) 1).toBool) (
 cond (eqC v7 0 0) (
 .row [.int 1, (.int 0), v0]) (
 cond ((sl (DF v0 (.bool v1) v7) 0).toInt = 1) (
 cond ((sl (DF v0 (.bool v1) v7) 1).toInt < 0) (
 .row []) (
 cond ((sl (DF v0 (.bool v1) v7) 1).toInt < len v0) (
 .row [.int 1, (.int 0), (upd v0 (sl (DF v0 (.bool v1) v7) 1).toInt 2 (.int (IntKind.wrap .i64 ((cl v0 (sl (DF v0 (.bool v1) v7) 1).toInt 2).toInt + v10))))]) (
 .row []))) (
 .row []))) (
 .row [.int 1, (.int 8), v0])) (
 .row [.int 1, (sl (FN v0 (.bool v1) v2 v3 (.int v4) v5 v6 v7 (.int v8) (.int v9) (.int v10)) 2), v0])) (
 .row []) := gw rfl rfl (cQ (cQ (cg rfl (cg rfl rfl (cQ rfl rfl)) rfl) rfl) rfl)
theorem cA (v0 : D) (v1 : Bool) (v2 v3 : D) (v4 : Bool) (v5 : D) (v6 : Bool) (v7 : D) (v8 : Bool) (v9 : D) (v10 : Bool) (v11 v12 : Int) (v13 v14 v15 : D) (v16 v17 : Bool) (v18 : D) (v19 : Bool) (v20 : Int) (v21 v22 v23 : D) (v24 v25 : Bool) (v26 v27 : Int) : Mv v0 (.bool v1) v2 v3 (.bool v4) v5 (.bool v6) v7 (.bool v8) v9 (.bool v10) (.int v11) (.int v12) v13 v14 v15 (.bool v16) (.bool v17) v18 (.bool v19) (.int v20) v21 v22 v23 (.bool v24) (.bool v25) (.int v26) (.int v27) =
  cond ((len v18 : Int) < 100000) (
 cond (v27 < 0) (
 .row []) (
 cond (v27 < len v7) (
 cond ((sl (Fk v0 (.bool v1) (cl v7 v27 0) (cl v7 v27 1) (cl v7 v27 2) (cl v7 v27 3) (cl v7 v27 4) (cl v7 v27 5) (cl v7 v27 6) (cl v7 v27 7) (cl v7 v27 8)) 0).toInt = 1) (
 cond ((len (sl (Fk v0 (.bool v1) (cl v7 v27 0) (cl v7 v27 1) (cl v7 v27 2) (cl v7 v27 3) (cl v7 v27 4) (cl v7 v27 5) (cl v7 v27 6) (cl v7 v27 7) (cl v7 v27 8)) 2) : Int) = (len v0 : Int)) (
 cond ((sl (Dg (sl (Fk v0 (.bool v1) (cl v7 v27 0) (cl v7 v27 1) (cl v7 v27 2) (cl v7 v27 3) (cl v7 v27 4) (cl v7 v27 5) (cl v7 v27 6) (cl v7 v27 7) (cl v7 v27 8)) 2) (.bool v1) v2 v3 (.bool v4) v5 (.bool v6) v7 (.bool v8) v9 (.bool v10) (.int v11) (.int v20) v21 v22 v23 (.bool v24) (.bool v25) v18 (.bool v19) (cl v7 v27 1)) 0).toInt = 1) (
 .row [.int 1, (sl (Dg (sl (Fk v0 (.bool v1) (cl v7 v27 0) (cl v7 v27 1) (cl v7 v27 2) (cl v7 v27 3) (cl v7 v27 4) (cl v7 v27 5) (cl v7 v27 6) (cl v7 v27 7) (cl v7 v27 8)) 2) (.bool v1) v2 v3 (.bool v4) v5 (.bool v6) v7 (.bool v8) v9 (.bool v10) (.int v11) (.int v20) v21 v22 v23 (.bool v24) (.bool v25) v18 (.bool v19) (cl v7 v27 1)) 1), (sl (Dg (sl (Fk v0 (.bool v1) (cl v7 v27 0) (cl v7 v27 1) (cl v7 v27 2) (cl v7 v27 3) (cl v7 v27 4) (cl v7 v27 5) (cl v7 v27 6) (cl v7 v27 7) (cl v7 v27 8)) 2) (.bool v1) v2 v3 (.bool v4) v5 (.bool v6) v7 (.bool v8) v9 (.bool v10) (.int v11) (.int v20) v21 v22 v23 (.bool v24) (.bool v25) v18 (.bool v19) (cl v7 v27 1)) 2), (sl (Dg (sl (Fk v0 (.bool v1) (cl v7 v27 0) (cl v7 v27 1) (cl v7 v27 2) (cl v7 v27 3) (cl v7 v27 4) (cl v7 v27 5) (cl v7 v27 6) (cl v7 v27 7) (cl v7 v27 8)) 2) (.bool v1) v2 v3 (.bool v4) v5 (.bool v6) v7 (.bool v8) v9 (.bool v10) (.int v11) (.int v20) v21 v22 v23 (.bool v24) (.bool v25) v18 (.bool v19) (cl v7 v27 1)) 3), (ad v18 (.row [(.int v27), (.int v26)])), (.bool false), (sl (Fk v0 (.bool v1) (cl v7 v27 0) (cl v7 v27 1) (cl v7 v27 2) (cl v7 v27 3) (cl v7 v27 4) (cl v7 v27 5) (cl v7 v27 6) (cl v7 v27 7) (cl v7 v27 8)) 2), (.bool v1), (.int v12), v14, v15, (.bool v16), v13, (.int v20), (sl (Dg (sl (Fk v0 (.bool v1) (cl v7 v27 0) (cl v7 v27 1) (cl v7 v27 2) (cl v7 v27 3) (cl v7 v27 4) (cl v7 v27 5) (cl v7 v27 6) (cl v7 v27 7) (cl v7 v27 8)) 2) (.bool v1) v2 v3 (.bool v4) v5 (.bool v6) v7 (.bool v8) v9 (.bool v10) (.int v11) (.int v20) v21 v22 v23 (.bool v24) (.bool v25) v18 (.bool v19) (cl v7 v27 1)) 4), (sl (Dg (sl (Fk v0 (.bool v1) (cl v7 v27 0) (cl v7 v27 1) (cl v7 v27 2) (cl v7 v27 3) (cl v7 v27 4) (cl v7 v27 5) (cl v7 v27 6) (cl v7 v27 7) (cl v7 v27 8)) 2) (.bool v1) v2 v3 (.bool v4) v5 (.bool v6) v7 (.bool v8) v9 (.bool v10) (.int v11) (.int v20) v21 v22 v23 (.bool v24) (.bool v25) v18 (.bool v19) (cl v7 v27 1)) 5), (sl (Dg (sl (Fk v0 (.bool v1) (cl v7 v27 0) (cl v7 v27 1) (cl v7 v27 2) (cl v7 v27 3) (cl v7 v27 4) (cl v7 v27 5) (cl v7 v27 6) (cl v7 v27 7) (cl v7 v27 8)) 2) (.bool v1) v2 v3 (.bool v4) v5 (.bool v6) v7 (.bool v8) v9 (.bool v10) (.int v11) (.int v20) v21 v22 v23 (.bool v24) (.bool v25) v18 (.bool v19) (cl v7 v27 1)) 6), (sl (Dg (sl (Fk v0 (.bool v1) (cl v7 v27 0) (cl v7 v27 1) (cl v7 v27 2) (cl v7 v27 3) (cl v7 v27 4) (cl v7 v27 5) (cl v7 v27 6) (cl v7 v27 7) (cl v7 v27 8)) 2) (.bool v1) v2 v3 (.bool v4) v5 (.bool v6) v7 (.bool v8) v9 (.bool v10) (.int v11) (.int v20) v21 v22 v23 (.bool v24) (.bool v25) v18 (.bool v19) (cl v7 v27 1)) 7)]) (
 .row [])) (
 .row [])) (
 .row [])) (
 .row []))) (
 .row []) := gw rfl rfl (cL (cL rfl (cL (cQ (cQ (cQ rfl rfl) rfl) rfl) rfl)) rfl)
theorem Jn (v0 : D) (v1 : Bool) (v2 v3 : D) (v4 : Bool) (v5 : D) (v6 : Bool) (v7 : D) (v8 : Bool) (v9 : D) (v10 : Bool) (v11 v12 : Int) (v13 v14 v15 : D) (v16 v17 : Bool) (v18 : D) (v19 : Bool) (v20 v21 : Int) {F0 F1 F2 F3 F4 F5 : D} (h0 : FO (.int v12) v13 v14 v15 (.bool v16) = F0) (h1 : Lb (sl F0 1) (sl F0 5) (sl F0 2) (sl F0 3) (sl F0 4) (.int v20) = F1) (h2 : Mv v0 (.bool v1) v2 v3 (.bool v4) v5 (.bool v6) v7 (.bool v8) v9 (.bool v10) (.int v11) (.int v12) v13 v14 v15 (.bool v16) (.bool false) v18 (.bool v19) (sl F1 4) (sl F1 7) (sl F0 2) (sl F1 5) (sl F1 6) (.bool (decide (0 < (len (sl F1 1) : Int)))) (.int v20) (.int v21) = F2) (h3 : Mv v0 (.bool v1) v2 v3 (.bool v4) v5 (.bool v6) v7 (.bool v8) v9 (.bool v10) (.int v11) (.int v12) v13 v14 v15 (.bool v16) (.bool true) v18 (.bool v19) (sl F1 4) (sl F1 7) (sl F0 2) (sl F1 5) (sl F1 6) (.bool true) (.int v20) (.int v21) = F3) (h4 : Ls v0 (.bool v1) v2 v3 (.bool v4) v5 (.bool v6) v7 (.bool v8) v9 (.bool v10) (.int v11) (.int v12) v13 v14 v15 (.bool v16) (.bool v17) v18 (.bool v19) (sl F1 4) (sl F1 7) (sl F0 2) (sl F1 5) (sl F1 6) (.bool (decide (0 < (len (sl F1 1) : Int)))) (cl v7 v21 0) (cl v7 v21 1) (cl v7 v21 2) (cl v7 v21 3) (cl v7 v21 4) (cl v7 v21 5) (cl v7 v21 6) (cl v7 v21 7) (cl v7 v21 8) = F4) (h5 : Ls v0 (.bool v1) v2 v3 (.bool v4) v5 (.bool v6) v7 (.bool v8) v9 (.bool v10) (.int v11) (.int v12) v13 v14 v15 (.bool v16) (.bool v17) v18 (.bool v19) (sl F1 4) (sl F1 7) (sl F0 2) (sl F1 5) (sl F1 6) (.bool true) (cl v7 v21 0) (cl v7 v21 1) (cl v7 v21 2) (cl v7 v21 3) (cl v7 v21 4) (cl v7 v21 5) (cl v7 v21 6) (cl v7 v21 7) (cl v7 v21 8) = F5) : CD v0 (.bool v1) v2 v3 (.bool v4) v5 (.bool v6) v7 (.bool v8) v9 (.bool v10) (.int v11) (.int v12) v13 v14 v15 (.bool v16) (.bool v17) v18 (.bool v19) (.int v20) (.int v21) =
  cond (v21 < 0) (
 .row [.int 1, (.int 2), v9, (.bool v10), (.int v11), (.bool v17), v18, (.bool v19), v0, (.bool v1), (.int v12), v14, v15, (.bool v16), v13]) (
 cond (v21 < len v7) (
 cond (v20 < v12) (
 .row [.int 1, (.int 3), v9, (.bool v10), (.int v11), (.bool v17), v18, (.bool v19), v0, (.bool v1), (.int v12), v14, v15, (.bool v16), v13]) (
 cond (1099511627776 < v20) (
 .row [.int 1, (.int 3), v9, (.bool v10), (.int v11), (.bool v17), v18, (.bool v19), v0, (.bool v1), (.int v12), v14, v15, (.bool v16), v13]) (
 cond ((sl F0 0).toInt = 1) (
 cond ((sl F1 0).toInt = 1) (
 cond (v17) (
 cond ((sl F5 0).toInt = 1) (
 cond ((sl F5 1).toBool) (
 cond ((sl F3 0).toInt = 1) (
 .row [.int 1, (.int 0), (sl F3 1), (sl F3 2), (sl F3 3), (.bool false), (sl F3 4), (sl F3 5), (sl F3 6), (sl F3 7), (sl F3 13), (sl F3 14), (sl F3 15), (sl F3 16), (sl F3 17)]) (
 .row [])) (
 .row [.int 1, (.int 8), v9, (.bool v10), (.int v11), (.bool true), v18, (.bool v19), v0, (.bool v1), (.int v12), v14, v15, (.bool v16), v13])) (
 .row [])) (
 cond ((sl F4 0).toInt = 1) (
 cond ((sl F4 1).toBool) (
 cond ((sl F2 0).toInt = 1) (
 .row [.int 1, (.int 0), (sl F2 1), (sl F2 2), (sl F2 3), (.bool false), (sl F2 4), (sl F2 5), (sl F2 6), (sl F2 7), (sl F2 13), (sl F2 14), (sl F2 15), (sl F2 16), (sl F2 17)]) (
 .row [])) (
 .row [.int 1, (.int 8), v9, (.bool v10), (.int v11), (.bool false), v18, (.bool v19), v0, (.bool v1), (.int v12), v14, v15, (.bool v16), v13])) (
 .row []))) (
 .row [])) (
 .row [])))) (
 .row [.int 1, (.int 2), v9, (.bool v10), (.int v11), (.bool v17), v18, (.bool v19), v0, (.bool v1), (.int v12), v14, v15, (.bool v16), v13])) := by
  subst h0; subst h1; subst h2; subst h3; subst h4; subst h5; exact gw rfl rfl (cL rfl (cL (cL rfl (cL rfl (cQ (cQ (cg rfl (cQ (cg rfl (cQ rfl rfl) rfl) rfl) (cQ (cg rfl (cQ rfl rfl) rfl) rfl)) rfl) rfl))) rfl))
theorem X2 (v0 v1 v2 v3 : D) (v4 : Int) (v5 v6 v7 : D) (v8 v9 v10 : Int) : PM v0 v1 v2 v3 (.int v4) v5 v6 v7 (.int v8) (.int v9) (.int v10) =
  cond ((sl (JJ v0 v1 v2 v3 (.int v4) v5 v6 v7 (.int v8) (.int v9) (.int v10)) 0).toInt = 1) (
 cond ((sl (JJ v0 v1 v2 v3 (.int v4) v5 v6 v7 (.int v8) (.int v9) (.int v10)) 2).toInt = 0) (
 cond ((sl (JJ v0 v1 v2 v3 (.int v4) v5 v6 v7 (.int v8) (.int v9) (.int v10)) 1).toBool) (
 cond (eqC v7 0 0) (
 .row [.int 1, v0, v1, (.int 0)]) (
 cond ((sl (DX v0 v1 v7) 0).toInt = 1) (
 cond ((len v1 : Int) < 1048576) (
 cond ((sl (DX v0 v1 v7) 1).toInt < 0) (
 .row []) (
 cond ((sl (DX v0 v1 v7) 1).toInt < len (ct Au v1)) (
 .row [.int 1, v0, (ni (upd (ct Au v1) (sl (DX v0 v1 v7) 1).toInt 0 (.int (IntKind.wrap .i64 ((cl (ct Au v1) (sl (DX v0 v1 v7) 1).toInt 0).toInt + v10)))) false), (.int 0)]) (
 .row []))) (
 .row [])) (
 .row []))) (
 .row [.int 1, v0, v1, (.int 8)])) (
 .row [.int 1, v0, v1, (sl (JJ v0 v1 v2 v3 (.int v4) v5 v6 v7 (.int v8) (.int v9) (.int v10)) 2)])) (
 .row []) := gw rfl rfl (cQ (cQ (cg rfl (cg rfl rfl (cQ (cL rfl rfl) rfl)) rfl) rfl) rfl)
theorem MP (v0 v1 v2 v3 v4 : D) (v5 : Int) (v6 v7 : D) (v8 : Int) (v9 : D) (v10 v11 : Int) : Cu v0 v1 v2 v3 v4 (.int v5) v6 v7 (.int v8) v9 (.int v10) (.int v11) =
  cond (v11 < 0) (
 .row [.int 1, v0, v1, v2, v3, v4, (.int v5), v6, v7, (.int v8), v9, (.int 2)]) (
 cond (v11 < len v3) (
 cond (v10 < v8) (
 .row [.int 1, v0, v1, v2, v3, v4, (.int v5), v6, v7, (.int v8), v9, (.int 3)]) (
 cond (1099511627776 < v10) (
 .row [.int 1, v0, v1, v2, v3, v4, (.int v5), v6, v7, (.int v8), v9, (.int 3)]) (
 cond ((sl (G4 v0 v1 v2 v3 v4 (.int v5) v6 v7 (.int v8) v9 (.int v10) (.int v11)) 0).toInt = 1) (
 cond ((sl (G4 v0 v1 v2 v3 v4 (.int v5) v6 v7 (.int v8) v9 (.int v10) (.int v11)) 1).toBool) (
 cond ((sl (PM v6 v7 (cl v3 v11 0) (cl v3 v11 1) (cl v3 v11 2) (cl v3 v11 3) (cl v3 v11 4) (cl v3 v11 5) (cl v3 v11 6) (cl v3 v11 7) (cl v3 v11 8)) 0).toInt = 1) (
 cond ((len v9 : Int) < 1048576) (
 cond ((len (ct Au v9) : Int) < 1073741824) (
 .row [.int 1, v0, v1, v2, v3, (cl v3 v11 1), (.int v10), (sl (PM v6 v7 (cl v3 v11 0) (cl v3 v11 1) (cl v3 v11 2) (cl v3 v11 3) (cl v3 v11 4) (cl v3 v11 5) (cl v3 v11 6) (cl v3 v11 7) (cl v3 v11 8)) 1), (sl (PM v6 v7 (cl v3 v11 0) (cl v3 v11 1) (cl v3 v11 2) (cl v3 v11 3) (cl v3 v11 4) (cl v3 v11 5) (cl v3 v11 6) (cl v3 v11 7) (cl v3 v11 8)) 2), (.int v10), (ni (ad (ct Au v9) (.row [(.int v11), (.int v10)])) false), (.int 0)]) (
 .row [])) (
 .row [])) (
 .row [])) (
 .row [.int 1, v0, v1, v2, v3, v4, (.int v5), v6, v7, (.int v8), v9, (.int 8)])) (
 .row [])))) (
 .row [.int 1, v0, v1, v2, v3, v4, (.int v5), v6, v7, (.int v8), v9, (.int 2)])) := gw rfl rfl (cL rfl (cL (cL rfl (cL rfl (cQ (cg rfl (cQ (cL (cL rfl rfl) rfl) rfl) rfl) rfl))) rfl))
theorem Sb (v0 v1 : D) (v2 : Int) (v3 : D) (v4 : Bool) (v5 v6 : D) (v7 : Bool) (v8 : D) (v9 : Bool) (v10 : D) (v11 : Bool) (v12 : D) (v13 : Bool) (v14 v15 : Int) (v16 v17 v18 : D) (v19 v20 : Bool) (v21 : D) (v22 : Bool) (v23 : Int) (v24 v25 v26 : D) (v27 v28 : Bool) (v29 : D) (v30 : Bool) (v31 : D) : KR v0 v1 (.int v2) v3 (.bool v4) v5 v6 (.bool v7) v8 (.bool v9) v10 (.bool v11) v12 (.bool v13) (.int v14) (.int v15) v16 v17 v18 (.bool v19) (.bool v20) v21 (.bool v22) (.int v23) v24 v25 v26 (.bool v27) (.bool v28) v29 (.bool v30) v31 =
 H8 v29 (.bool v30) (.int 0) v0 v1 (.int v2) (.bool v28) v5 v6 (.bool v7) v8 (.bool v9) v10 (.bool v11) v12 (.bool v13) (.int v14) (.bool v20) v21 (.bool v22) v3 (.bool v4) (.int v15) v17 v18 (.bool v19) v16 (.int v23) v25 v26 (.bool v27) v24 v31 := gw rfl rfl rfl
theorem YN (v0 : D) (v1 : Bool) (v2 : Int) (v3 v4 : D) (v5 : Int) (v6 : Bool) (v7 v8 : D) (v9 : Bool) (v10 : D) (v11 : Bool) (v12 : D) (v13 : Bool) (v14 : D) (v15 : Bool) (v16 : Int) (v17 : Bool) (v18 : D) (v19 : Bool) (v20 : D) (v21 : Bool) (v22 : Int) (v23 v24 : D) (v25 : Bool) (v26 : D) (v27 : Int) (v28 v29 : D) (v30 : Bool) (v31 v32 : D) : H8 v0 (.bool v1) (.int v2) v3 v4 (.int v5) (.bool v6) v7 v8 (.bool v9) v10 (.bool v11) v12 (.bool v13) v14 (.bool v15) (.int v16) (.bool v17) v18 (.bool v19) v20 (.bool v21) (.int v22) v23 v24 (.bool v25) v26 (.int v27) v28 v29 (.bool v30) v31 v32 =
  cond (v2 < len v0) (
 cond (v2 < 0) (
 .row []) (
 cond (D.strEq (cl v0 v2 0) v32) (
 cond ((cl v0 v2 2).toInt = 2) (
 cond (D.strEq (cl v0 v2 3) v3) (
 cond (D.strEq (cl v0 v2 4) v4) (
 cond ((sl (Ls v20 (.bool v21) v7 v8 (.bool v9) v10 (.bool v11) v12 (.bool v13) v14 (.bool v15) (.int v16) (.int v22) v26 v23 v24 (.bool v25) (.bool v17) v18 (.bool v19) (.int v27) v31 v28 v29 (.bool v30) (.bool v6) (cl v0 v2 0) (cl v0 v2 1) (cl v0 v2 2) (cl v0 v2 3) (cl v0 v2 4) (cl v0 v2 5) (cl v0 v2 6) (cl v0 v2 7) (cl v0 v2 8)) 0).toInt = 1) (
 cond ((sl (Ls v20 (.bool v21) v7 v8 (.bool v9) v10 (.bool v11) v12 (.bool v13) v14 (.bool v15) (.int v16) (.int v22) v26 v23 v24 (.bool v25) (.bool v17) v18 (.bool v19) (.int v27) v31 v28 v29 (.bool v30) (.bool v6) (cl v0 v2 0) (cl v0 v2 1) (cl v0 v2 2) (cl v0 v2 3) (cl v0 v2 4) (cl v0 v2 5) (cl v0 v2 6) (cl v0 v2 7) (cl v0 v2 8)) 1).toBool) (
 .row [.int 1, (.int v2)]) (
 H8 v0 (.bool v1) (.int (IntKind.wrap .i64 (v2 + 1))) v3 v4 (.int v5) (.bool v6) v7 v8 (.bool v9) v10 (.bool v11) v12 (.bool v13) v14 (.bool v15) (.int v16) (.bool v17) v18 (.bool v19) v20 (.bool v21) (.int v22) v23 v24 (.bool v25) v26 (.int v27) v28 v29 (.bool v30) v31 v32)) (
 .row [])) (
 H8 v0 (.bool v1) (.int (IntKind.wrap .i64 (v2 + 1))) v3 v4 (.int v5) (.bool v6) v7 v8 (.bool v9) v10 (.bool v11) v12 (.bool v13) v14 (.bool v15) (.int v16) (.bool v17) v18 (.bool v19) v20 (.bool v21) (.int v22) v23 v24 (.bool v25) v26 (.int v27) v28 v29 (.bool v30) v31 v32)) (
 H8 v0 (.bool v1) (.int (IntKind.wrap .i64 (v2 + 1))) v3 v4 (.int v5) (.bool v6) v7 v8 (.bool v9) v10 (.bool v11) v12 (.bool v13) v14 (.bool v15) (.int v16) (.bool v17) v18 (.bool v19) v20 (.bool v21) (.int v22) v23 v24 (.bool v25) v26 (.int v27) v28 v29 (.bool v30) v31 v32)) (
 H8 v0 (.bool v1) (.int (IntKind.wrap .i64 (v2 + 1))) v3 v4 (.int v5) (.bool v6) v7 v8 (.bool v9) v10 (.bool v11) v12 (.bool v13) v14 (.bool v15) (.int v16) (.bool v17) v18 (.bool v19) v20 (.bool v21) (.int v22) v23 v24 (.bool v25) v26 (.int v27) v28 v29 (.bool v30) v31 v32)) (
 H8 v0 (.bool v1) (.int (IntKind.wrap .i64 (v2 + 1))) v3 v4 (.int v5) (.bool v6) v7 v8 (.bool v9) v10 (.bool v11) v12 (.bool v13) v14 (.bool v15) (.int v16) (.bool v17) v18 (.bool v19) v20 (.bool v21) (.int v22) v23 v24 (.bool v25) v26 (.int v27) v28 v29 (.bool v30) v31 v32))) (
 .row [.int 2]) := gw rfl rfl (cL (cL rfl (cg rfl (cQ (cg rfl (cg rfl (cQ rfl rfl) rfl) rfl) rfl) rfl)) rfl)
theorem MH (v0 : D) (v1 : Bool) (v2 v3 : D) (v4 : Bool) (v5 : D) (v6 : Bool) (v7 : D) (v8 : Bool) (v9 : D) (v10 : Bool) (v11 v12 : Int) (v13 v14 v15 : D) (v16 v17 : Bool) (v18 : D) (v19 : Bool) (v20 : Int) (v21 v22 : D) {F0 F1 F2 F3 F4 F5 F6 : D} (h0 : FO (.int v12) v13 v14 v15 (.bool v16) = F0) (h1 : Lb (sl F0 1) (sl F0 5) (sl F0 2) (sl F0 3) (sl F0 4) (.int v20) = F1) (h2 : CZ v7 (.bool v8) = F2) (h3 : KR v21 v22 (.int (-1)) v0 (.bool v1) v2 v3 (.bool v4) v5 (.bool v6) v7 (.bool v8) v9 (.bool v10) (.int v11) (.int v12) v13 v14 v15 (.bool v16) (.bool v17) v18 (.bool v19) (sl F1 4) (sl F1 7) (sl F0 2) (sl F1 5) (sl F1 6) (.bool (decide (0 < (len (sl F1 1) : Int)))) (sl F2 1) (sl F2 2) v9 = F3) (h4 : KR v21 v22 (.int (-1)) v0 (.bool v1) v2 v3 (.bool v4) v5 (.bool v6) v7 (.bool v8) v9 (.bool v10) (.int v11) (.int v12) v13 v14 v15 (.bool v16) (.bool v17) v18 (.bool v19) (sl F1 4) (sl F1 7) (sl F0 2) (sl F1 5) (sl F1 6) (.bool true) (sl F2 1) (sl F2 2) v9 = F4) (h5 : Mv v0 (.bool v1) v2 v3 (.bool v4) v5 (.bool v6) v7 (.bool v8) v9 (.bool v10) (.int v11) (.int v12) v13 v14 v15 (.bool v16) (.bool false) v18 (.bool v19) (sl F1 4) (sl F1 7) (sl F0 2) (sl F1 5) (sl F1 6) (.bool (decide (0 < (len (sl F1 1) : Int)))) (.int v20) (sl F3 1) = F5) (h6 : Mv v0 (.bool v1) v2 v3 (.bool v4) v5 (.bool v6) v7 (.bool v8) v9 (.bool v10) (.int v11) (.int v12) v13 v14 v15 (.bool v16) (.bool true) v18 (.bool v19) (sl F1 4) (sl F1 7) (sl F0 2) (sl F1 5) (sl F1 6) (.bool true) (.int v20) (sl F4 1) = F6) : Ml v0 (.bool v1) v2 v3 (.bool v4) v5 (.bool v6) v7 (.bool v8) v9 (.bool v10) (.int v11) (.int v12) v13 v14 v15 (.bool v16) (.bool v17) v18 (.bool v19) (.int v20) v21 v22 =
  cond (v20 < v12) (
 .row [.int 1, (.int 0), (.int 3), v9, (.bool v10), (.int v11), (.bool v17), v18, (.bool v19), v0, (.bool v1), (.int v12), v14, v15, (.bool v16), v13]) (
 cond (1099511627776 < v20) (
 .row [.int 1, (.int 0), (.int 3), v9, (.bool v10), (.int v11), (.bool v17), v18, (.bool v19), v0, (.bool v1), (.int v12), v14, v15, (.bool v16), v13]) (
 cond ((sl F0 0).toInt = 1) (
 cond ((sl F1 0).toInt = 1) (
 cond (v17) (
 cond ((sl F2 0).toInt = 1) (
 cond ((sl F4 0).toInt = 1) (
 cond ((sl F4 1).toInt < 0) (
 .row [.int 1, (.int 0), (.int 9), v9, (.bool v10), (.int v11), (.bool true), v18, (.bool v19), v0, (.bool v1), (.int v12), v14, v15, (.bool v16), v13]) (
 cond ((sl F6 0).toInt = 1) (
 .row [.int 1, (sl F4 1), (.int 0), (sl F6 1), (sl F6 2), (sl F6 3), (.bool false), (sl F6 4), (sl F6 5), (sl F6 6), (sl F6 7), (sl F6 13), (sl F6 14), (sl F6 15), (sl F6 16), (sl F6 17)]) (
 .row []))) (
 cond ((sl F4 0).toInt = 2) (
 .row [.int 1, (.int 0), (.int 9), v9, (.bool v10), (.int v11), (.bool true), v18, (.bool v19), v0, (.bool v1), (.int v12), v14, v15, (.bool v16), v13]) (
 .row []))) (
 .row [])) (
 cond ((sl F2 0).toInt = 1) (
 cond ((sl F3 0).toInt = 1) (
 cond ((sl F3 1).toInt < 0) (
 .row [.int 1, (.int 0), (.int 9), v9, (.bool v10), (.int v11), (.bool false), v18, (.bool v19), v0, (.bool v1), (.int v12), v14, v15, (.bool v16), v13]) (
 cond ((sl F5 0).toInt = 1) (
 .row [.int 1, (sl F3 1), (.int 0), (sl F5 1), (sl F5 2), (sl F5 3), (.bool false), (sl F5 4), (sl F5 5), (sl F5 6), (sl F5 7), (sl F5 13), (sl F5 14), (sl F5 15), (sl F5 16), (sl F5 17)]) (
 .row []))) (
 cond ((sl F3 0).toInt = 2) (
 .row [.int 1, (.int 0), (.int 9), v9, (.bool v10), (.int v11), (.bool false), v18, (.bool v19), v0, (.bool v1), (.int v12), v14, v15, (.bool v16), v13]) (
 .row []))) (
 .row []))) (
 .row [])) (
 .row []))) := by
  subst h0; subst h1; subst h2; subst h3; subst h4; subst h5; subst h6; exact gw rfl rfl (cL rfl (cL rfl (cQ (cQ (cg rfl (cQ (cQ (cL rfl (cQ rfl rfl)) (cQ rfl rfl)) rfl) (cQ (cQ (cL rfl (cQ rfl rfl)) (cQ rfl rfl)) rfl)) rfl) rfl)))
theorem Pe (v0 v1 v2 v3 v4 : D) (v5 : Int) (v6 v7 : D) (v8 : Int) (v9 : D) (v10 : Int) (v11 v12 : D) : M4 v0 v1 v2 v3 v4 (.int v5) v6 v7 (.int v8) v9 (.int v10) v11 v12 =
  cond (v10 < v8) (
 .row [.int 1, v0, v1, v2, v3, v4, (.int v5), v6, v7, (.int v8), v9, (.int 0), (.int 3)]) (
 cond (1099511627776 < v10) (
 .row [.int 1, v0, v1, v2, v3, v4, (.int v5), v6, v7, (.int v8), v9, (.int 0), (.int 3)]) (
 JP (.int v10) v11 v12 (.int 0) v0 v1 v2 v3 v4 (.int v5) v6 v7 (.int v8) v9)) := gw rfl rfl (cL rfl (cL rfl rfl))
theorem X8 (v0 : Int) (v1 v2 : D) (v3 : Int) (v4 v5 v6 v7 v8 : D) (v9 : Int) (v10 v11 : D) (v12 : Int) (v13 : D) : JP (.int v0) v1 v2 (.int v3) v4 v5 v6 v7 v8 (.int v9) v10 v11 (.int v12) v13 =
  cond (v3 < len v7) (
 cond (v3 < 0) (
 .row []) (
 cond ((cl v7 v3 2).toInt = 2) (
 cond (D.strEq (cl v7 v3 3) v1) (
 cond (D.strEq (cl v7 v3 4) v2) (
 cond ((sl (G4 v4 v5 v6 v7 v8 (.int v9) v10 v11 (.int v12) v13 (.int v0) (.int v3)) 0).toInt = 1) (
 cond ((sl (G4 v4 v5 v6 v7 v8 (.int v9) v10 v11 (.int v12) v13 (.int v0) (.int v3)) 1).toBool) (
 cond ((sl (Cu v4 v5 v6 v7 v8 (.int v9) v10 v11 (.int v12) v13 (.int v0) (.int v3)) 0).toInt = 1) (
 .row [.int 1, (sl (Cu v4 v5 v6 v7 v8 (.int v9) v10 v11 (.int v12) v13 (.int v0) (.int v3)) 1), (sl (Cu v4 v5 v6 v7 v8 (.int v9) v10 v11 (.int v12) v13 (.int v0) (.int v3)) 2), (sl (Cu v4 v5 v6 v7 v8 (.int v9) v10 v11 (.int v12) v13 (.int v0) (.int v3)) 3), (sl (Cu v4 v5 v6 v7 v8 (.int v9) v10 v11 (.int v12) v13 (.int v0) (.int v3)) 4), (sl (Cu v4 v5 v6 v7 v8 (.int v9) v10 v11 (.int v12) v13 (.int v0) (.int v3)) 5), (sl (Cu v4 v5 v6 v7 v8 (.int v9) v10 v11 (.int v12) v13 (.int v0) (.int v3)) 6), (sl (Cu v4 v5 v6 v7 v8 (.int v9) v10 v11 (.int v12) v13 (.int v0) (.int v3)) 7), (sl (Cu v4 v5 v6 v7 v8 (.int v9) v10 v11 (.int v12) v13 (.int v0) (.int v3)) 8), (sl (Cu v4 v5 v6 v7 v8 (.int v9) v10 v11 (.int v12) v13 (.int v0) (.int v3)) 9), (sl (Cu v4 v5 v6 v7 v8 (.int v9) v10 v11 (.int v12) v13 (.int v0) (.int v3)) 10), (.int v3), (.int 0)]) (
 .row [])) (
 JP (.int v0) v1 v2 (.int (IntKind.wrap .i64 (v3 + 1))) v4 v5 v6 v7 v8 (.int v9) v10 v11 (.int v12) v13)) (
 .row [])) (
 JP (.int v0) v1 v2 (.int (IntKind.wrap .i64 (v3 + 1))) v4 v5 v6 v7 v8 (.int v9) v10 v11 (.int v12) v13)) (
 JP (.int v0) v1 v2 (.int (IntKind.wrap .i64 (v3 + 1))) v4 v5 v6 v7 v8 (.int v9) v10 v11 (.int v12) v13)) (
 JP (.int v0) v1 v2 (.int (IntKind.wrap .i64 (v3 + 1))) v4 v5 v6 v7 v8 (.int v9) v10 v11 (.int v12) v13))) (
 .row [.int 1, v4, v5, v6, v7, v8, (.int v9), v10, v11, (.int v12), v13, (.int 0), (.int 9)]) := gw rfl rfl (cL (cL rfl (cQ (cg rfl (cg rfl (cQ (cg rfl (cQ rfl rfl) rfl) rfl) rfl) rfl) rfl)) rfl)
theorem jr (v0 : D) (v1 : Bool) : Ok v0 (.bool v1) =
  cond (v1) (
 .row [.int 1, Ar, (.bool true)]) (
 cond ((len v0 : Int) < 1048576) (
 .row [.int 1, (ct Au v0), (.bool false)]) (
 .row [])) := gw rfl rfl (cg rfl rfl (cL rfl rfl))
theorem kj (v0 : D) (v1 : Bool) : OP v0 (.bool v1) =
  cond ((sl (Ok v0 (.bool v1)) 0).toInt = 1) (
 .row [.int 1, (sl (Ok v0 (.bool v1)) 1), (sl (Ok v0 (.bool v1)) 2)]) (
 .row []) := gw rfl rfl (cQ rfl rfl)
theorem g8 (v0 : D) (v1 : Bool) (v2 v3 : D) (v4 : Bool) (v5 : D) (v6 : Bool) (v7 : D) (v8 : Bool) (v9 : D) (v10 : Bool) (v11 v12 : Int) (v13 v14 v15 : D) (v16 v17 : Bool) (v18 : D) (v19 : Bool) : U3 v0 (.bool v1) v2 v3 (.bool v4) v5 (.bool v6) v7 (.bool v8) v9 (.bool v10) (.int v11) (.int v12) v13 v14 v15 (.bool v16) (.bool v17) v18 (.bool v19) =
  cond ((sl (OP v0 (.bool v1)) 0).toInt = 1) (
 cond ((sl (FO (.int v12) v13 v14 v15 (.bool v16)) 0).toInt = 1) (
 cond ((sl (EY v18 (.bool v19)) 0).toInt = 1) (
 .row [.int 1, v3, v5, v7, v2, (.bool v4), (.bool v6), (.bool v8), v9, (.bool v10), (.int v11), (.bool v17), (sl (EY v18 (.bool v19)) 1), (sl (EY v18 (.bool v19)) 2), (sl (OP v0 (.bool v1)) 1), (sl (OP v0 (.bool v1)) 2), (sl (FO (.int v12) v13 v14 v15 (.bool v16)) 1), (sl (FO (.int v12) v13 v14 v15 (.bool v16)) 2), (sl (FO (.int v12) v13 v14 v15 (.bool v16)) 3), (sl (FO (.int v12) v13 v14 v15 (.bool v16)) 4), (sl (FO (.int v12) v13 v14 v15 (.bool v16)) 5)]) (
 .row [])) (
 .row [])) (
 .row []) := gw rfl rfl (cQ (cQ (cQ rfl rfl) rfl) rfl)
theorem H0 (v0 : D) (v1 : Bool) (v2 v3 : D) (v4 : Bool) (v5 : D) (v6 : Bool) (v7 : D) (v8 : Bool) (v9 : D) (v10 : Bool) (v11 v12 : Int) (v13 v14 v15 : D) (v16 v17 : Bool) (v18 : D) (v19 : Bool) (v20 v21 v22 v23 v24 : D) (v25 : Int) (v26 v27 : D) (v28 : Int) (v29 : D) (v30 v31 v32 : Int) (v33 v34 : D) {F0 F1 F2 F3 F4 F5 F6 F7 F8 F9 F10 F11 F12 F13 F14 : D} (h0 : CD v0 (.bool v1) v2 v3 (.bool v4) v5 (.bool v6) v7 (.bool v8) v9 (.bool v10) (.int v11) (.int v12) v13 v14 v15 (.bool v16) (.bool v17) v18 (.bool v19) (.int v31) (.int v32) = F0) (h1 : Ml v0 (.bool v1) v2 v3 (.bool v4) v5 (.bool v6) v7 (.bool v8) v9 (.bool v10) (.int v11) (.int v12) v13 v14 v15 (.bool v16) (.bool v17) v18 (.bool v19) (.int v31) v33 v34 = F1) (h2 : O0 v0 (.bool v1) v2 v3 (.bool v4) v5 (.bool v6) v7 (.bool v8) v9 (.bool v10) (.int v11) (.int v12) v13 v14 v15 (.bool v16) (.bool v17) v18 (.bool v19) (.int v31) = F2) (h3 : Cu v20 v21 v22 v23 v24 (.int v25) v26 v27 (.int v28) v29 (.int v31) (.int v32) = F3) (h4 : M4 v20 v21 v22 v23 v24 (.int v25) v26 v27 (.int v28) v29 (.int v31) v33 v34 = F4) (h5 : SH v20 v21 v22 v23 v24 (.int v25) v26 v27 (.int v28) v29 (.int v31) = F5) (h6 : U3 v0 (.bool v1) v2 v3 (.bool v4) v5 (.bool v6) v7 (.bool v8) v9 (.bool v10) (.int v11) (.int v12) v13 v14 v15 (.bool v16) (.bool v17) v18 (.bool v19) = F6) (h7 : Ko v20 v21 v22 v23 v24 (.int v25) v26 v27 (.int v28) v29 = F7) (h8 : CD v0 (.bool v1) v2 v3 (.bool v4) v5 (.bool v6) v7 (.bool v8) v9 (.bool v10) (.int v11) (.int v12) v13 v14 v15 (.bool v16) (.bool v17) v18 (.bool v19) (sl F7 1) (.int v32) = F8) (h9 : Cu v20 v21 v22 v23 v24 (.int v25) v26 v27 (.int v28) v29 (sl F7 1) (.int v32) = F9) (h10 : FQ (sl F0 8) (sl F0 9) v2 v3 (.bool v4) v5 (.bool v6) v7 (.bool v8) (sl F0 2) (sl F0 3) (sl F0 4) (sl F0 10) (sl F0 14) (sl F0 11) (sl F0 12) (sl F0 13) (sl F0 5) (sl F0 6) (sl F0 7) (sl F3 1) (sl F3 2) (sl F3 3) (sl F3 4) (sl F3 5) (sl F3 6) (sl F3 7) (sl F3 8) (sl F3 9) (sl F3 10) = F10) (h11 : O0 v0 (.bool v1) v2 (sl F6 1) (.bool v4) (sl F6 2) (.bool v6) (sl F6 3) (.bool v8) v9 (.bool v10) (.int v11) (.int v12) v13 v14 v15 (.bool v16) (.bool v17) v18 (.bool v19) (.int 1099511627776) = F11) (h12 : FQ (sl F1 9) (sl F1 10) v2 v3 (.bool v4) v5 (.bool v6) v7 (.bool v8) (sl F1 3) (sl F1 4) (sl F1 5) (sl F1 11) (sl F1 15) (sl F1 12) (sl F1 13) (sl F1 14) (sl F1 6) (sl F1 7) (sl F1 8) (sl F4 1) (sl F4 2) (sl F4 3) (sl F4 4) (sl F4 5) (sl F4 6) (sl F4 7) (sl F4 8) (sl F4 9) (sl F4 10) = F12) (h13 : FQ v0 (.bool v1) v2 v3 (.bool v4) v5 (.bool v6) v7 (.bool v8) v9 (.bool v10) (.int v11) (sl F2 5) (sl F2 9) (sl F2 6) (sl F2 7) (sl F2 8) (sl F2 4) v18 (.bool v19) (sl F5 1) (sl F5 2) (sl F5 3) (sl F5 4) (sl F5 5) (sl F5 6) (sl F5 7) (sl F5 8) (sl F5 9) (sl F5 10) = F13) (h14 : FQ (sl F8 8) (sl F8 9) v2 v3 (.bool v4) v5 (.bool v6) v7 (.bool v8) (sl F8 2) (sl F8 3) (sl F8 4) (sl F8 10) (sl F8 14) (sl F8 11) (sl F8 12) (sl F8 13) (sl F8 5) (sl F8 6) (sl F8 7) (sl F9 1) (sl F9 2) (sl F9 3) (sl F9 4) (sl F9 5) (sl F9 6) (sl F9 7) (sl F9 8) (sl F9 9) (sl F9 10) = F14) : VN v0 (.bool v1) v2 v3 (.bool v4) v5 (.bool v6) v7 (.bool v8) v9 (.bool v10) (.int v11) (.int v12) v13 v14 v15 (.bool v16) (.bool v17) v18 (.bool v19) v20 v21 v22 v23 v24 (.int v25) v26 v27 (.int v28) v29 (.int v30) (.int v31) (.int v32) v33 v34 =
  cond (v30 = 0) (
 cond ((sl F2 0).toInt = 1) (
 cond ((sl F5 0).toInt = 1) (
 cond ((sl (Jv (sl F2 1) (sl F2 2) (sl F5 11) (sl F5 12)) 0).toInt = 1) (
 cond ((sl (Jv (sl F2 1) (sl F2 2) (sl F5 11) (sl F5 12)) 1).toBool) (
 cond ((sl F2 3).toInt = (sl F5 13).toInt) (
 cond ((sl F13 0).toInt = 1) (
 .row [.int 1, (sl F5 1), (sl F5 2), (sl F5 3), (sl F5 4), (sl F5 5), (sl F5 6), (sl F5 7), (sl F5 8), (sl F5 9), (sl F5 10), (sl F13 1), v3, v5, v7, (sl F2 5), (sl F2 6), (sl F2 7), (sl F2 8), (sl F2 9), v18, v2, (.bool v4), (.bool v6), (.bool v8), v9, (.bool v10), (.int v11), (sl F2 4), (.bool v19), v0, (.bool v1)]) (
 .row [])) (
 .row [.int 1, (sl F5 1), (sl F5 2), (sl F5 3), (sl F5 4), (sl F5 5), (sl F5 6), (sl F5 7), (sl F5 8), (sl F5 9), (sl F5 10), (.bool false), v3, v5, v7, (sl F2 5), (sl F2 6), (sl F2 7), (sl F2 8), (sl F2 9), v18, v2, (.bool v4), (.bool v6), (.bool v8), v9, (.bool v10), (.int v11), (sl F2 4), (.bool v19), v0, (.bool v1)])) (
 .row [.int 1, (sl F5 1), (sl F5 2), (sl F5 3), (sl F5 4), (sl F5 5), (sl F5 6), (sl F5 7), (sl F5 8), (sl F5 9), (sl F5 10), (.bool false), v3, v5, v7, (sl F2 5), (sl F2 6), (sl F2 7), (sl F2 8), (sl F2 9), v18, v2, (.bool v4), (.bool v6), (.bool v8), v9, (.bool v10), (.int v11), (sl F2 4), (.bool v19), v0, (.bool v1)])) (
 .row [])) (
 .row [])) (
 .row [])) (
 cond (v30 = 1) (
 cond ((sl F2 0).toInt = 1) (
 cond ((sl F5 0).toInt = 1) (
 cond ((sl (Jv (sl F2 1) (sl F2 2) (sl F5 11) (sl F5 12)) 0).toInt = 1) (
 cond ((sl (Jv (sl F2 1) (sl F2 2) (sl F5 11) (sl F5 12)) 1).toBool) (
 cond ((sl F2 3).toInt = (sl F5 13).toInt) (
 cond ((sl F13 0).toInt = 1) (
 .row [.int 1, (sl F5 1), (sl F5 2), (sl F5 3), (sl F5 4), (sl F5 5), (sl F5 6), (sl F5 7), (sl F5 8), (sl F5 9), (sl F5 10), (sl F13 1), v3, v5, v7, (sl F2 5), (sl F2 6), (sl F2 7), (sl F2 8), (sl F2 9), v18, v2, (.bool v4), (.bool v6), (.bool v8), v9, (.bool v10), (.int v11), (sl F2 4), (.bool v19), v0, (.bool v1)]) (
 .row [])) (
 .row [.int 1, (sl F5 1), (sl F5 2), (sl F5 3), (sl F5 4), (sl F5 5), (sl F5 6), (sl F5 7), (sl F5 8), (sl F5 9), (sl F5 10), (.bool false), v3, v5, v7, (sl F2 5), (sl F2 6), (sl F2 7), (sl F2 8), (sl F2 9), v18, v2, (.bool v4), (.bool v6), (.bool v8), v9, (.bool v10), (.int v11), (sl F2 4), (.bool v19), v0, (.bool v1)])) (
 .row [.int 1, (sl F5 1), (sl F5 2), (sl F5 3), (sl F5 4), (sl F5 5), (sl F5 6), (sl F5 7), (sl F5 8), (sl F5 9), (sl F5 10), (.bool false), v3, v5, v7, (sl F2 5), (sl F2 6), (sl F2 7), (sl F2 8), (sl F2 9), v18, v2, (.bool v4), (.bool v6), (.bool v8), v9, (.bool v10), (.int v11), (sl F2 4), (.bool v19), v0, (.bool v1)])) (
 .row [])) (
 .row [])) (
 .row [])) (
 cond (v30 = 2) (
 cond ((sl F0 0).toInt = 1) (
 cond ((sl F3 0).toInt = 1) (
 cond ((sl F0 1).toInt = (sl F3 11).toInt) (
 cond ((sl F10 0).toInt = 1) (
 .row [.int 1, (sl F3 1), (sl F3 2), (sl F3 3), (sl F3 4), (sl F3 5), (sl F3 6), (sl F3 7), (sl F3 8), (sl F3 9), (sl F3 10), (sl F10 1), v3, v5, v7, (sl F0 10), (sl F0 11), (sl F0 12), (sl F0 13), (sl F0 14), (sl F0 6), v2, (.bool v4), (.bool v6), (.bool v8), (sl F0 2), (sl F0 3), (sl F0 4), (sl F0 5), (sl F0 7), (sl F0 8), (sl F0 9)]) (
 .row [])) (
 .row [.int 1, (sl F3 1), (sl F3 2), (sl F3 3), (sl F3 4), (sl F3 5), (sl F3 6), (sl F3 7), (sl F3 8), (sl F3 9), (sl F3 10), (.bool false), v3, v5, v7, (sl F0 10), (sl F0 11), (sl F0 12), (sl F0 13), (sl F0 14), (sl F0 6), v2, (.bool v4), (.bool v6), (.bool v8), (sl F0 2), (sl F0 3), (sl F0 4), (sl F0 5), (sl F0 7), (sl F0 8), (sl F0 9)])) (
 .row [])) (
 .row [])) (
 cond (v30 = 3) (
 cond ((sl F0 0).toInt = 1) (
 cond ((sl F3 0).toInt = 1) (
 cond ((sl F0 1).toInt = (sl F3 11).toInt) (
 cond ((sl F10 0).toInt = 1) (
 .row [.int 1, (sl F3 1), (sl F3 2), (sl F3 3), (sl F3 4), (sl F3 5), (sl F3 6), (sl F3 7), (sl F3 8), (sl F3 9), (sl F3 10), (sl F10 1), v3, v5, v7, (sl F0 10), (sl F0 11), (sl F0 12), (sl F0 13), (sl F0 14), (sl F0 6), v2, (.bool v4), (.bool v6), (.bool v8), (sl F0 2), (sl F0 3), (sl F0 4), (sl F0 5), (sl F0 7), (sl F0 8), (sl F0 9)]) (
 .row [])) (
 .row [.int 1, (sl F3 1), (sl F3 2), (sl F3 3), (sl F3 4), (sl F3 5), (sl F3 6), (sl F3 7), (sl F3 8), (sl F3 9), (sl F3 10), (.bool false), v3, v5, v7, (sl F0 10), (sl F0 11), (sl F0 12), (sl F0 13), (sl F0 14), (sl F0 6), v2, (.bool v4), (.bool v6), (.bool v8), (sl F0 2), (sl F0 3), (sl F0 4), (sl F0 5), (sl F0 7), (sl F0 8), (sl F0 9)])) (
 .row [])) (
 .row [])) (
 cond (v30 = 4) (
 cond ((sl F0 0).toInt = 1) (
 cond ((sl F3 0).toInt = 1) (
 cond ((sl F0 1).toInt = (sl F3 11).toInt) (
 cond ((sl F10 0).toInt = 1) (
 .row [.int 1, (sl F3 1), (sl F3 2), (sl F3 3), (sl F3 4), (sl F3 5), (sl F3 6), (sl F3 7), (sl F3 8), (sl F3 9), (sl F3 10), (sl F10 1), v3, v5, v7, (sl F0 10), (sl F0 11), (sl F0 12), (sl F0 13), (sl F0 14), (sl F0 6), v2, (.bool v4), (.bool v6), (.bool v8), (sl F0 2), (sl F0 3), (sl F0 4), (sl F0 5), (sl F0 7), (sl F0 8), (sl F0 9)]) (
 .row [])) (
 .row [.int 1, (sl F3 1), (sl F3 2), (sl F3 3), (sl F3 4), (sl F3 5), (sl F3 6), (sl F3 7), (sl F3 8), (sl F3 9), (sl F3 10), (.bool false), v3, v5, v7, (sl F0 10), (sl F0 11), (sl F0 12), (sl F0 13), (sl F0 14), (sl F0 6), v2, (.bool v4), (.bool v6), (.bool v8), (sl F0 2), (sl F0 3), (sl F0 4), (sl F0 5), (sl F0 7), (sl F0 8), (sl F0 9)])) (
 .row [])) (
 .row [])) (
 cond (v30 = 5) (
 cond ((sl F1 0).toInt = 1) (
 cond ((sl F4 0).toInt = 1) (
 cond ((sl F1 1).toInt = (sl F4 11).toInt) (
 cond ((sl F1 2).toInt = (sl F4 12).toInt) (
 cond ((sl F12 0).toInt = 1) (
 .row [.int 1, (sl F4 1), (sl F4 2), (sl F4 3), (sl F4 4), (sl F4 5), (sl F4 6), (sl F4 7), (sl F4 8), (sl F4 9), (sl F4 10), (sl F12 1), v3, v5, v7, (sl F1 11), (sl F1 12), (sl F1 13), (sl F1 14), (sl F1 15), (sl F1 7), v2, (.bool v4), (.bool v6), (.bool v8), (sl F1 3), (sl F1 4), (sl F1 5), (sl F1 6), (sl F1 8), (sl F1 9), (sl F1 10)]) (
 .row [])) (
 .row [.int 1, (sl F4 1), (sl F4 2), (sl F4 3), (sl F4 4), (sl F4 5), (sl F4 6), (sl F4 7), (sl F4 8), (sl F4 9), (sl F4 10), (.bool false), v3, v5, v7, (sl F1 11), (sl F1 12), (sl F1 13), (sl F1 14), (sl F1 15), (sl F1 7), v2, (.bool v4), (.bool v6), (.bool v8), (sl F1 3), (sl F1 4), (sl F1 5), (sl F1 6), (sl F1 8), (sl F1 9), (sl F1 10)])) (
 .row [.int 1, (sl F4 1), (sl F4 2), (sl F4 3), (sl F4 4), (sl F4 5), (sl F4 6), (sl F4 7), (sl F4 8), (sl F4 9), (sl F4 10), (.bool false), v3, v5, v7, (sl F1 11), (sl F1 12), (sl F1 13), (sl F1 14), (sl F1 15), (sl F1 7), v2, (.bool v4), (.bool v6), (.bool v8), (sl F1 3), (sl F1 4), (sl F1 5), (sl F1 6), (sl F1 8), (sl F1 9), (sl F1 10)])) (
 .row [])) (
 .row [])) (
 cond (v30 = 6) (
 cond ((sl F1 0).toInt = 1) (
 cond ((sl F4 0).toInt = 1) (
 cond ((sl F1 1).toInt = (sl F4 11).toInt) (
 cond ((sl F1 2).toInt = (sl F4 12).toInt) (
 cond ((sl F12 0).toInt = 1) (
 .row [.int 1, (sl F4 1), (sl F4 2), (sl F4 3), (sl F4 4), (sl F4 5), (sl F4 6), (sl F4 7), (sl F4 8), (sl F4 9), (sl F4 10), (sl F12 1), v3, v5, v7, (sl F1 11), (sl F1 12), (sl F1 13), (sl F1 14), (sl F1 15), (sl F1 7), v2, (.bool v4), (.bool v6), (.bool v8), (sl F1 3), (sl F1 4), (sl F1 5), (sl F1 6), (sl F1 8), (sl F1 9), (sl F1 10)]) (
 .row [])) (
 .row [.int 1, (sl F4 1), (sl F4 2), (sl F4 3), (sl F4 4), (sl F4 5), (sl F4 6), (sl F4 7), (sl F4 8), (sl F4 9), (sl F4 10), (.bool false), v3, v5, v7, (sl F1 11), (sl F1 12), (sl F1 13), (sl F1 14), (sl F1 15), (sl F1 7), v2, (.bool v4), (.bool v6), (.bool v8), (sl F1 3), (sl F1 4), (sl F1 5), (sl F1 6), (sl F1 8), (sl F1 9), (sl F1 10)])) (
 .row [.int 1, (sl F4 1), (sl F4 2), (sl F4 3), (sl F4 4), (sl F4 5), (sl F4 6), (sl F4 7), (sl F4 8), (sl F4 9), (sl F4 10), (.bool false), v3, v5, v7, (sl F1 11), (sl F1 12), (sl F1 13), (sl F1 14), (sl F1 15), (sl F1 7), v2, (.bool v4), (.bool v6), (.bool v8), (sl F1 3), (sl F1 4), (sl F1 5), (sl F1 6), (sl F1 8), (sl F1 9), (sl F1 10)])) (
 .row [])) (
 .row [])) (
 cond (v30 = 7) (
 cond ((sl F6 0).toInt = 1) (
 cond ((len (sl F6 2) : Int) = (len v5 : Int)) (
 cond ((len (sl F6 1) : Int) = (len v3 : Int)) (
 cond ((len (sl F6 3) : Int) = (len v7 : Int)) (
 cond ((sl F11 0).toInt = 1) (
 Sc (.int 0) v2 (sl F6 1) (.bool v4) (sl F6 2) (.bool v6) (sl F6 3) (.bool v8) v9 (.bool v10) (.int v11) (sl F11 4) v18 (.bool v19) v0 (.bool v1) v20 v21 v22 v23 v24 (.int v25) v26 v27 (.int v28) v29 (sl F6 4) (sl F6 5) (sl F6 6) (sl F6 7) (sl F6 8) (sl F6 9) (sl F6 10) (sl F6 11) (sl F6 12) (sl F6 13) (sl F6 14) (sl F6 15) (sl F6 16) (sl F6 17) (sl F6 18) (sl F6 19) (sl F6 20) (sl F11 5) (sl F11 6) (sl F11 7) (sl F11 8) (sl F11 9)) (
 .row [])) (
 .row [])) (
 .row [])) (
 .row [])) (
 .row [])) (
 cond ((sl F7 0).toInt = 1) (
 cond ((sl F8 0).toInt = 1) (
 cond ((sl F9 0).toInt = 1) (
 cond ((sl F8 1).toInt = (sl F9 11).toInt) (
 cond ((sl F14 0).toInt = 1) (
 .row [.int 1, (sl F9 1), (sl F9 2), (sl F9 3), (sl F9 4), (sl F9 5), (sl F9 6), (sl F9 7), (sl F9 8), (sl F9 9), (sl F9 10), (sl F14 1), v3, v5, v7, (sl F8 10), (sl F8 11), (sl F8 12), (sl F8 13), (sl F8 14), (sl F8 6), v2, (.bool v4), (.bool v6), (.bool v8), (sl F8 2), (sl F8 3), (sl F8 4), (sl F8 5), (sl F8 7), (sl F8 8), (sl F8 9)]) (
 .row [])) (
 .row [.int 1, (sl F9 1), (sl F9 2), (sl F9 3), (sl F9 4), (sl F9 5), (sl F9 6), (sl F9 7), (sl F9 8), (sl F9 9), (sl F9 10), (.bool false), v3, v5, v7, (sl F8 10), (sl F8 11), (sl F8 12), (sl F8 13), (sl F8 14), (sl F8 6), v2, (.bool v4), (.bool v6), (.bool v8), (sl F8 2), (sl F8 3), (sl F8 4), (sl F8 5), (sl F8 7), (sl F8 8), (sl F8 9)])) (
 .row [])) (
 .row [])) (
 .row []))))))))) := by
  subst h0; subst h1; subst h2; subst h3; subst h4; subst h5; subst h6; subst h7; subst h8; subst h9; subst h10; subst h11; subst h12; subst h13; subst h14; exact gw rfl rfl (cQ (cQ (cQ (cQ (cg rfl (cQ (cQ rfl rfl) rfl) rfl) rfl) rfl) rfl) (cQ (cQ (cQ (cQ (cg rfl (cQ (cQ rfl rfl) rfl) rfl) rfl) rfl) rfl) (cQ (cQ (cQ (cQ (cQ rfl rfl) rfl) rfl) rfl) (cQ (cQ (cQ (cQ (cQ rfl rfl) rfl) rfl) rfl) (cQ (cQ (cQ (cQ (cQ rfl rfl) rfl) rfl) rfl) (cQ (cQ (cQ (cQ (cQ (cQ rfl rfl) rfl) rfl) rfl) rfl) (cQ (cQ (cQ (cQ (cQ (cQ rfl rfl) rfl) rfl) rfl) rfl) (cQ (cQ (cQ (cQ (cQ (cQ rfl rfl) rfl) rfl) rfl) rfl) (cQ (cQ (cQ (cQ (cQ rfl rfl) rfl) rfl) rfl) rfl)))))))))
theorem Yl (v0 : Int) (v1 v2 : D) (v3 : Bool) (v4 : D) (v5 : Bool) (v6 : D) (v7 : Bool) (v8 : D) (v9 : Bool) (v10 : Int) (v11 : Bool) (v12 : D) (v13 : Bool) (v14 : D) (v15 : Bool) (v16 v17 v18 v19 v20 : D) (v21 : Int) (v22 v23 : D) (v24 : Int) (v25 v26 : D) (v27 v28 v29 : Bool) (v30 : D) (v31 : Bool) (v32 : Int) (v33 : Bool) (v34 : D) (v35 : Bool) (v36 : D) (v37 : Bool) (v38 : Int) (v39 v40 : D) (v41 : Bool) (v42 : D) (v43 : Int) (v44 v45 : D) (v46 : Bool) (v47 : D) : Sc (.int v0) v1 v2 (.bool v3) v4 (.bool v5) v6 (.bool v7) v8 (.bool v9) (.int v10) (.bool v11) v12 (.bool v13) v14 (.bool v15) v16 v17 v18 v19 v20 (.int v21) v22 v23 (.int v24) v25 v26 (.bool v27) (.bool v28) (.bool v29) v30 (.bool v31) (.int v32) (.bool v33) v34 (.bool v35) v36 (.bool v37) (.int v38) v39 v40 (.bool v41) v42 (.int v43) v44 v45 (.bool v46) v47 =
  cond (v0 < len v19) (
 cond ((sl (CD v14 (.bool v15) v1 v2 (.bool v3) v4 (.bool v5) v6 (.bool v7) v8 (.bool v9) (.int v10) (.int v43) v47 v44 v45 (.bool v46) (.bool v11) v12 (.bool v13) (.int 1099511627776) (.int v0)) 0).toInt = 1) (
 Sc (.int (IntKind.wrap .i64 (v0 + 1))) v1 v2 (.bool v3) v4 (.bool v5) v6 (.bool v7) (sl (CD v14 (.bool v15) v1 v2 (.bool v3) v4 (.bool v5) v6 (.bool v7) v8 (.bool v9) (.int v10) (.int v43) v47 v44 v45 (.bool v46) (.bool v11) v12 (.bool v13) (.int 1099511627776) (.int v0)) 2) (sl (CD v14 (.bool v15) v1 v2 (.bool v3) v4 (.bool v5) v6 (.bool v7) v8 (.bool v9) (.int v10) (.int v43) v47 v44 v45 (.bool v46) (.bool v11) v12 (.bool v13) (.int 1099511627776) (.int v0)) 3) (sl (CD v14 (.bool v15) v1 v2 (.bool v3) v4 (.bool v5) v6 (.bool v7) v8 (.bool v9) (.int v10) (.int v43) v47 v44 v45 (.bool v46) (.bool v11) v12 (.bool v13) (.int 1099511627776) (.int v0)) 4) (sl (CD v14 (.bool v15) v1 v2 (.bool v3) v4 (.bool v5) v6 (.bool v7) v8 (.bool v9) (.int v10) (.int v43) v47 v44 v45 (.bool v46) (.bool v11) v12 (.bool v13) (.int 1099511627776) (.int v0)) 5) (sl (CD v14 (.bool v15) v1 v2 (.bool v3) v4 (.bool v5) v6 (.bool v7) v8 (.bool v9) (.int v10) (.int v43) v47 v44 v45 (.bool v46) (.bool v11) v12 (.bool v13) (.int 1099511627776) (.int v0)) 6) (sl (CD v14 (.bool v15) v1 v2 (.bool v3) v4 (.bool v5) v6 (.bool v7) v8 (.bool v9) (.int v10) (.int v43) v47 v44 v45 (.bool v46) (.bool v11) v12 (.bool v13) (.int 1099511627776) (.int v0)) 7) (sl (CD v14 (.bool v15) v1 v2 (.bool v3) v4 (.bool v5) v6 (.bool v7) v8 (.bool v9) (.int v10) (.int v43) v47 v44 v45 (.bool v46) (.bool v11) v12 (.bool v13) (.int 1099511627776) (.int v0)) 8) (sl (CD v14 (.bool v15) v1 v2 (.bool v3) v4 (.bool v5) v6 (.bool v7) v8 (.bool v9) (.int v10) (.int v43) v47 v44 v45 (.bool v46) (.bool v11) v12 (.bool v13) (.int 1099511627776) (.int v0)) 9) v16 v17 v18 v19 v20 (.int v21) v22 v23 (.int v24) v25 v26 (.bool v27) (.bool v28) (.bool v29) v30 (.bool v31) (.int v32) (.bool v33) v34 (.bool v35) v36 (.bool v37) (.int v38) v39 v40 (.bool v41) v42 (sl (CD v14 (.bool v15) v1 v2 (.bool v3) v4 (.bool v5) v6 (.bool v7) v8 (.bool v9) (.int v10) (.int v43) v47 v44 v45 (.bool v46) (.bool v11) v12 (.bool v13) (.int 1099511627776) (.int v0)) 10) (sl (CD v14 (.bool v15) v1 v2 (.bool v3) v4 (.bool v5) v6 (.bool v7) v8 (.bool v9) (.int v10) (.int v43) v47 v44 v45 (.bool v46) (.bool v11) v12 (.bool v13) (.int 1099511627776) (.int v0)) 11) (sl (CD v14 (.bool v15) v1 v2 (.bool v3) v4 (.bool v5) v6 (.bool v7) v8 (.bool v9) (.int v10) (.int v43) v47 v44 v45 (.bool v46) (.bool v11) v12 (.bool v13) (.int 1099511627776) (.int v0)) 12) (sl (CD v14 (.bool v15) v1 v2 (.bool v3) v4 (.bool v5) v6 (.bool v7) v8 (.bool v9) (.int v10) (.int v43) v47 v44 v45 (.bool v46) (.bool v11) v12 (.bool v13) (.int 1099511627776) (.int v0)) 13) (sl (CD v14 (.bool v15) v1 v2 (.bool v3) v4 (.bool v5) v6 (.bool v7) v8 (.bool v9) (.int v10) (.int v43) v47 v44 v45 (.bool v46) (.bool v11) v12 (.bool v13) (.int 1099511627776) (.int v0)) 14)) (
 .row [])) (
 cond ((sl (FQ v36 (.bool v37) v26 v2 (.bool v27) v4 (.bool v28) v6 (.bool v29) v30 (.bool v31) (.int v32) (.int v38) v42 v39 v40 (.bool v41) (.bool v33) v34 (.bool v35) v16 v17 v18 v19 v20 (.int v21) v22 v23 (.int v24) v25) 0).toInt = 1) (
 .row [.int 1, v16, v17, v18, v19, v20, (.int v21), v22, v23, (.int v24), v25, (sl (FQ v36 (.bool v37) v26 v2 (.bool v27) v4 (.bool v28) v6 (.bool v29) v30 (.bool v31) (.int v32) (.int v38) v42 v39 v40 (.bool v41) (.bool v33) v34 (.bool v35) v16 v17 v18 v19 v20 (.int v21) v22 v23 (.int v24) v25) 1), v2, v4, v6, (.int v38), v39, v40, (.bool v41), v42, v34, v26, (.bool v27), (.bool v28), (.bool v29), v30, (.bool v31), (.int v32), (.bool v33), (.bool v35), v36, (.bool v37)]) (
 .row [])) := gw rfl rfl (cL (cQ rfl rfl) (cQ rfl rfl))
theorem fj (v0 v1 v2 v3 v4 : D) : YB v0 v1 v2 v3 v4 =
  cond ((sl (Uc v0 v1 v2 v3) 0).toInt = 1) (
 cond ((sl (Uc v0 v1 v2 v3) 1).toBool) (
 cond ((sl (N8) 0).toInt = 1) (
 .row [.int 1, (.bool true)]) (
 .row [])) (
 cond (60 < (len v4 : Int)) (
 cond ((sl (N8) 0).toInt = 1) (
 .row [.int 1, (.bool true)]) (
 .row [])) (
 OC v4 (.int 0) v0 v1 v2 v3))) (
 .row []) := gw rfl rfl (cQ (cg rfl (cQ rfl rfl) (cL (cQ rfl rfl) rfl)) rfl)
theorem VD (v0 : D) (v1 : Int) (v2 v3 v4 v5 : D) {F0 F1 F2 F3 : D} (h0 : RI v2 v3 v4 v5 = F0) (h1 : Vb (sl F0 12) (sl F0 13) (sl F0 1) (sl F0 2) (sl F0 3) (sl F0 4) (sl F0 5) (sl F0 6) (sl F0 7) (sl F0 8) (sl F0 9) (sl F0 10) (.int 0) (sl F0 17) (sl F0 14) (sl F0 15) (sl F0 16) (.bool false) (sl F0 11) (.bool true) = F1) (h2 : SG v2 v3 v4 v5 = F2) (h3 : FQ (sl F0 12) (sl F0 13) (sl F0 1) (sl F0 2) (sl F0 3) (sl F0 4) (sl F0 5) (sl F0 6) (sl F0 7) (sl F0 8) (sl F0 9) (sl F0 10) (.int 0) (sl F0 17) (sl F0 14) (sl F0 15) (sl F0 16) (.bool false) (sl F0 11) (.bool true) (sl F2 1) (sl F2 2) (sl F2 3) (sl F2 4) (sl F2 5) (.int 0) (sl F2 6) (sl F2 7) (.int 0) Ar = F3) : OC v0 (.int v1) v2 v3 v4 v5 =
  cond (v1 < len v0) (
 cond (v1 < 0) (
 .row []) (
 cond (60 < (A8 (cl v0 v1 3) : Int)) (
 cond ((sl (N8) 0).toInt = 1) (
 .row [.int 1, (.bool true)]) (
 .row [])) (
 cond (60 < (A8 (cl v0 v1 4) : Int)) (
 cond ((sl (N8) 0).toInt = 1) (
 .row [.int 1, (.bool true)]) (
 .row [])) (
 OC v0 (.int (IntKind.wrap .i64 (v1 + 1))) v2 v3 v4 v5)))) (
 cond ((sl F0 0).toInt = 1) (
 cond ((sl F2 0).toInt = 1) (
 cond (0 = (sl F2 8).toInt) (
 cond ((sl F2 8).toInt = 0) (
 .row [.int 1, (.bool false)]) (
 .row [.int 1, (.bool false)])) (
 .row [.int 1, (.bool false)])) (
 .row [])) (
 cond ((sl F0 0).toInt = 2) (
 cond ((sl F2 0).toInt = 1) (
 cond (0 = (sl F2 8).toInt) (
 cond ((sl F2 8).toInt = 0) (
 cond ((sl (DU (sl F0 12) (sl F0 13) (Cb 15 593979589895112235513812868925517678)) 0).toInt = 1) (
 cond ((sl (DU (sl F0 12) (sl F0 13) (Cb 15 593979589895112235513812868925517678)) 2).toInt = 9) (
 cond ((sl F1 0).toInt = 1) (
 cond ((sl (OZ (sl F1 1) (sl F1 2) (sl F1 3) (sl F1 4) v2 v3 v4 v5) 0).toInt = 1) (
 cond ((sl (OZ (sl F1 1) (sl F1 2) (sl F1 3) (sl F1 4) v2 v3 v4 v5) 1).toBool) (
 cond ((sl F3 0).toInt = 1) (
 cond ((sl F3 1).toBool) (
 R0 v0 (.bool true) (.int 0) (sl F2 1) (sl F2 2) (sl F2 3) (sl F2 4) (sl F2 5) (.int 0) (sl F2 6) (sl F2 7) (.int 0) Ar (sl F0 1) (sl F0 2) (sl F0 3) (sl F0 4) (sl F0 5) (sl F0 6) (sl F0 7) (sl F0 8) (sl F0 9) (sl F0 10) (.bool false) (sl F0 11) (.bool true) (sl F0 12) (sl F0 13) (.int 0) (sl F0 14) (sl F0 15) (sl F0 16) (sl F0 17)) (
 .row [.int 1, (.bool false)])) (
 .row [])) (
 .row [.int 1, (.bool false)])) (
 .row [])) (
 .row [])) (
 .row [.int 1, (.bool false)])) (
 .row [])) (
 .row [.int 1, (.bool false)])) (
 .row [.int 1, (.bool false)])) (
 .row [])) (
 cond ((sl F0 0).toInt = 3) (
 cond ((sl F2 0).toInt = 1) (
 cond ((sl F0 1).toInt = (sl F2 8).toInt) (
 cond ((sl F2 8).toInt = 0) (
 .row [.int 1, (.bool false)]) (
 cond ((sl (N8) 0).toInt = 1) (
 .row [.int 1, (.bool true)]) (
 .row []))) (
 .row [.int 1, (.bool false)])) (
 .row [])) (
 .row [])))) := by
  subst h0; subst h1; subst h2; subst h3; exact gw rfl rfl (cL (cL rfl (cL (cQ rfl rfl) (cL (cQ rfl rfl) rfl))) (cQ (cQ (cQ (cQ rfl rfl) rfl) rfl) (cQ (cQ (cQ (cQ (cQ (cQ (cQ (cQ (cg rfl (cQ rfl rfl) rfl) rfl) rfl) rfl) rfl) rfl) rfl) rfl) (cQ (cQ (cQ (cQ rfl (cQ rfl rfl)) rfl) rfl) rfl))))
theorem Yi (v0 : D) (v1 : Bool) (v2 : Int) (v3 v4 v5 v6 v7 : D) (v8 : Int) (v9 v10 : D) (v11 : Int) (v12 v13 v14 : D) (v15 : Bool) (v16 : D) (v17 : Bool) (v18 : D) (v19 : Bool) (v20 : D) (v21 : Bool) (v22 : Int) (v23 : Bool) (v24 : D) (v25 : Bool) (v26 : D) (v27 : Bool) (v28 : Int) (v29 v30 : D) (v31 : Bool) (v32 : D) {F0 : D} (h0 : VN v26 (.bool v27) v13 v14 (.bool v15) v16 (.bool v17) v18 (.bool v19) v20 (.bool v21) (.int v22) (.int v28) v32 v29 v30 (.bool v31) (.bool v23) v24 (.bool v25) v3 v4 v5 v6 v7 (.int v8) v9 v10 (.int v11) v12 (cl v0 v2 0) (cl v0 v2 1) (cl v0 v2 2) (cl v0 v2 3) (cl v0 v2 4) = F0) : R0 v0 (.bool v1) (.int v2) v3 v4 v5 v6 v7 (.int v8) v9 v10 (.int v11) v12 v13 v14 (.bool v15) v16 (.bool v17) v18 (.bool v19) v20 (.bool v21) (.int v22) (.bool v23) v24 (.bool v25) v26 (.bool v27) (.int v28) v29 v30 (.bool v31) v32 =
  cond (v2 < len v0) (
 cond (v1) (
 cond (v2 < 0) (
 .row []) (
 cond ((sl F0 0).toInt = 1) (
 R0 v0 (sl F0 11) (.int (IntKind.wrap .i64 (v2 + 1))) (sl F0 1) (sl F0 2) (sl F0 3) (sl F0 4) (sl F0 5) (sl F0 6) (sl F0 7) (sl F0 8) (sl F0 9) (sl F0 10) (sl F0 21) (sl F0 12) (sl F0 22) (sl F0 13) (sl F0 23) (sl F0 14) (sl F0 24) (sl F0 25) (sl F0 26) (sl F0 27) (sl F0 28) (sl F0 20) (sl F0 29) (sl F0 30) (sl F0 31) (sl F0 15) (sl F0 16) (sl F0 17) (sl F0 18) (sl F0 19)) (
 .row []))) (
 .row [.int 1, (.bool false)])) (
 cond (v1) (
 cond ((sl (N8) 0).toInt = 1) (
 .row [.int 1, (.bool true)]) (
 .row [])) (
 .row [.int 1, (.bool false)])) := by
  subst h0; exact gw rfl rfl (cL (cg rfl (cL rfl (cQ rfl rfl)) rfl) (cg rfl (cQ rfl rfl) rfl))
end
end Mp
namespace Mp
open Go Go.AE
theorem Mr (v : D) (i : Int) : 0 ≤ sAt v i ∧ sAt v i < 256 := by
 unfold sAt;have := ((v.toStr.data.toList[i.toNat]?).getD 0).toNat_lt;omega
theorem Ku {v : D} : len (O2 v) = A8 v := by
 show (List.map _ _).length = _;simp [A8]
theorem So {v : D} {i : Nat} (h : i < A8 v) : (cl (O2 v) i 0).toInt = sAt v i := by
 unfold cl sAt O2;have h' : i < v.toStr.data.toList.length := h;simp [D.rows, List.getD_eq_getElem?_getD, List.getElem?_eq_getElem h', D.cells, D.toInt]
theorem RK {x : Int} (h0 : 0 ≤ x) (h1 : x < 256) : IntKind.wrap .u8 x = x := by
 simp only [IntKind.wrap, IntKind.bits, IntKind.signed];have := Int.emod_eq_of_lt h0 h1
 simp_all
section
variable [Am]
theorem MA {v : D} (hs : A8 v ≤ 32) : ∀ (k i : Nat), i + k = A8 v → 1 ≤ i → ∃ b, Qe (O2 v) (.int (A8 v : Nat)) (.int i) = .row [.int 1, .bool b] ∧ JK v (.int i) = .row [.int 1, .bool b]
 | 0, i, hi, h1 => by
  refine ⟨true, ?_, ?_⟩
  ·rw [YU, ifF (by omega)]
  ·rw [MO, ifF (by omega)]
 | k + 1, i, hi, h1 => by
  obtain ⟨b, q1, q2⟩ := MA hs k (i + 1) (by omega) (by omega)
  have hr := Mr v i;have hc := So (v := v) (i := i) (by omega)
  have A := YU (O2 v) (A8 v : Nat) (i : Int);have B := MO v (i : Int);rw [hc, RK hr.1 hr.2, Ku, AH (by omega) (by omega), show (i : Int) + 1 = ((i + 1 : Nat) : Int) by omega, q1, ifT (by omega), ifF (by omega), ifT (by omega)] at A
  rw [AH (by omega) (by omega), show (i : Int) + 1 = ((i + 1 : Nat) : Int) by omega, q2, ifT (by omega), ifF (by omega)] at B
  rw [A, B];have hi0 : decide ((i : Int) = 0) = false := decide_eq_false (by omega)
  rw [hi0];simp only [cond_false];generalize sAt v i = c;by_cases c1 : c < 97
  ·simp only [ifT c1];by_cases c2 : c < 65
   ·simp only [ifT c2];by_cases c3 : c < 48
    ·simp only [ifT c3]; exact ⟨_, rfl, rfl⟩
    ·simp only [ifF c3];by_cases c4 : 57 < c
     ·simp only [ifT c4]; exact ⟨_, rfl, rfl⟩
     ·simp only [ifF c4]; exact ⟨_, rfl, rfl⟩
   ·simp only [ifF c2];by_cases c3 : 90 < c
    ·simp only [ifT c3];by_cases c4 : c = 95
     ·simp only [ifT c4]; exact ⟨_, rfl, rfl⟩
     ·simp only [ifF c4]; exact ⟨_, rfl, rfl⟩
    ·simp only [ifF c3]; exact ⟨_, rfl, rfl⟩
  ·simp only [ifF c1];by_cases c2 : 122 < c
   ·simp only [ifT c2]; exact ⟨_, by cases decide ((i : Int) = 0) <;> rfl, rfl⟩
   ·simp only [ifF c2]; exact ⟨_, rfl, rfl⟩
theorem R7 (v : D) : ∃ b, Gz v = .row [.int 1, .bool b] ∧ De v = .row [.int 1, .bool b] := by
 rw [lp, TU];by_cases c1 : (A8 v : Int) < 1
 ·simp only [ifT c1]; exact ⟨_, rfl, rfl⟩
 simp only [ifF c1];by_cases c2 : 32 < (A8 v : Int)
 ·simp only [ifT c2]; exact ⟨_, rfl, rfl⟩
 simp only [ifF c2];obtain ⟨b, q1, q2⟩ := MA (v := v) (by omega) (A8 v - 1) 1 (by omega) (Nat.le_refl _)
 have hr := Mr v (0 : Nat);have hc := So (v := v) (i := 0) (by omega)
 have A := YU (O2 v) (A8 v : Nat) ((0 : Nat) : Int);have B := MO v ((0 : Nat) : Int);rw [hc, RK hr.1 hr.2, Ku, AH (by omega) (by omega), show ((0 : Nat) : Int) + 1 = ((1 : Nat) : Int) by omega, q1, ifT (by omega), ifF (by omega), ifT (by omega)] at A
 rw [AH (by omega) (by omega), show ((0 : Nat) : Int) + 1 = ((1 : Nat) : Int) by omega, q2, ifT (by omega), ifF (by omega)] at B
 have z : ((0 : Nat) : Int) = 0 := rfl;rw [z] at A B hr;rw [Ku, A, B];generalize sAt v 0 = c;have hi0 : decide ((0 : Int) = 0) = true := rfl;rw [hi0];simp only [cond_true];by_cases c3 : c = 95
 ·subst c3;exact ⟨false, rfl, rfl⟩
 simp only [ifF c3];by_cases c4 : c < 97
 ·simp only [ifT c4];by_cases c5 : c < 65
  ·simp only [ifT c5];by_cases c6 : c < 48
   ·simp only [ifT c6]; exact ⟨_, rfl, rfl⟩
   ·simp only [ifF c6];by_cases c7 : 57 < c
    ·simp only [ifT c7]; exact ⟨_, rfl, rfl⟩
    ·simp only [ifF c7]; exact ⟨_, rfl, rfl⟩
  ·have c6 : ¬ c < 48 := by omega
   have c7 : 57 < c := by omega
   simp only [ifF c5, ifF c6, ifT c7];by_cases c8 : 90 < c
   ·simp only [ifT c8]; exact ⟨_, rfl, rfl⟩
   ·simp only [ifF c8]; exact ⟨_, rfl, rfl⟩
 ·have c6 : ¬ c < 48 := by omega
  have c7 : 57 < c := by omega
  simp only [ifF c4, ifF c6, ifT c7];by_cases c5 : 122 < c
  ·simp only [ifT c5]; exact ⟨_, rfl, rfl⟩
  ·simp only [ifF c5]; exact ⟨_, rfl, rfl⟩
end
end Mp
namespace Mp
open Go Go.AE
def fd (l key : D) : Int := fdG (fun j => D.strEq (cl l j 0) key) (len l) 0
theorem Ij {l key : D} : fd l key < len l := by
 have := LH (p := fun j => D.strEq (cl l j 0) key) (k := len l) (i := 0)
 unfold fd; omega
theorem X7 {l key : D} : fd l key = -1 ∨ 0 ≤ fd l key := by
 have := NT (p := fun j => D.strEq (cl l j 0) key) (k := len l) (i := 0)
 unfold fd; omega
theorem J5 {l : D} {i : Nat} (h : i < len l) : 0 ≤ fd l (cl l i 0) ∧ fd l (cl l i 0) ≤ i := P1 (p := fun j => D.strEq (cl l j 0) (cl l i 0)) (Nat.zero_le _) (by omega) CU
theorem UN {l key : D} (h : 0 ≤ fd l key) : D.strEq (cl l (fd l key) 0) key = true := by
 have := NO (p := fun j => D.strEq (cl l j 0) key) (k := len l) (i := 0) h
 have e : ((fd l key).toNat : Int) = fd l key := by omega
 rw [← e];exact this
theorem Ea {F : Int → D} {l key : D} (hn : len l < 4611686018427387904) (h : ∀ i : Int, F i = cond (decide (i < (len l : Int))) (cond (decide (i < 0)) (.row []) (cond (D.strEq (cl l i 0) key) (.row [.int 1, .int i]) (F (IntKind.wrap .i64 (i + 1))))) (.row [.int 1, .int (-1)])) : F 0 = .row [.int 1, .int (fd l key)] := by
 refine find (F := fun i => F (i : Int)) (n := len l) (bad := fun j => D.strEq (cl l j 0) key) (fun j hj => ?_) ?_
 ·show F (j : Int) = _;rw [h, ifT (by omega), ifF (by omega), Bz (by omega)]
 ·show F (len l : Int) = _;rw [h, ifF (by omega)]
section
variable [Am]
variable {v0 v1 v2 v3 v4 v5 : D}
theorem Yq (hn : len v0 < 4611686018427387904) (k : D) : UY v0 k = .row [.int 1, .int (fd v0 k)] := (me ..).trans (Ea (F := fun i => Wy v0 (.int i) k) hn fun i => lA ..)
theorem Yd (hn : len v0 < 4611686018427387904) (k : D) : IqQ v0 k = .row [.int 1, .int (fd v0 k)] := (lz ..).trans (Ea (F := fun i => Xs v0 (.int i) k) hn fun i => lq ..)
theorem Vx (hn : len v2 < 4611686018427387904) (k : D) : HM v0 v1 v2 v3 k = .row [.int 1, .int (fd v2 k)] := (cD ..).trans (Ea (F := fun i => Rs k (.int i) v0 v1 v2 v3) hn fun i => eR ..)
theorem VH (hn : len v1 < 4611686018427387904) (k : D) : He v0 v1 v2 v3 k = .row [.int 1, .int (fd v1 k)] := (dw ..).trans (Ea (F := fun i => SF k (.int i) v0 v1 v2 v3) hn fun i => iL ..)
def nm (v : D) : Bool := (sl (De v) 1).toBool
theorem Sa (v : D) : Gz v = .row [.int 1, .bool (nm v)] := by
 obtain ⟨b, q1, q2⟩ := R7 v;rw [q1];unfold nm;rw [q2];rfl
theorem NB (v : D) : De v = .row [.int 1, .bool (nm v)] := by
 obtain ⟨b, q1, q2⟩ := R7 v;unfold nm;rw [q2];rfl
def IU (v2 : D) (i : Nat) : Bool := !nm (cl v2 i 0) || decide (fd v2 (cl v2 i 0) < i) || decide ((cl v2 i 1).toInt < 1) || decide (1000 < (cl v2 i 1).toInt)
def I8 (v1 : D) (i : Nat) : Bool := !nm (cl v1 i 0) || decide (fd v1 (cl v1 i 0) < i) || decide ((cl v1 i 2).toInt < 0) || decide (1048576 < (cl v1 i 2).toInt)
theorem gA (hn : len v2 < 1000) (v0 v1 v3 : D) : Wg (.int (len v2 : Nat)) (.int 0) (.int 4) v0 v1 v2 v3 = .row [.int 1, .int (cond (decide (4 < (len v2 : Int))) 4 (fdG (IU v2) (len v2) 0))] := by
 rw [l7, ifF (by omega)]
 by_cases c : 4 < (len v2 : Int)
 ·rw [ifT c, ifT c]
 rw [ifF c, ifF c];refine find (F := fun i => TC (.int (len v2 : Nat)) (.int (i : Nat)) v0 v1 v2 v3) (n := len v2) (bad := IU v2) (fun j hj => ?_) ?_
 ·show TC _ (.int (j : Nat)) _ _ _ _ = _;rw [gP, ifT (by omega), ifF (by omega), ifT (by omega)]
  simp only [Sa, Yq (v0 := v2) (by omega), AY, AX, Aw, AJ, decide_true, cond_true, Bz (i := j) (by omega)]
  unfold IU;cases nm (cl v2 j 0) <;> cases decide (fd v2 (cl v2 j 0) < j) <;> cases decide ((cl v2 j 1).toInt < 1) <;> cases decide (1000 < (cl v2 j 1).toInt) <;> rfl
 ·show TC _ (.int (len v2 : Nat)) _ _ _ _ = _;rw [gP, ifF (by omega)]
theorem jJ (hn : len v1 < 1000) (v0 v2 v3 : D) : UG (.int (len v1 : Nat)) (.int 1) (.int 24) v0 v1 v2 v3 = .row [.int 1, .int (cond (decide ((len v1 : Int) < 1)) 0 (cond (decide (24 < (len v1 : Int))) 24 (fdG (I8 v1) (len v1) 0)))] := by
 rw [k8];by_cases c : (len v1 : Int) < 1
 ·rw [ifT c, ifT c]
 rw [ifF c, ifF c];by_cases c : 24 < (len v1 : Int)
 ·rw [ifT c, ifT c]
 rw [ifF c, ifF c];refine find (F := fun i => S3 (.int (len v1 : Nat)) (.int (i : Nat)) v0 v1 v2 v3) (n := len v1) (bad := I8 v1) (fun j hj => ?_) ?_
 ·show S3 _ (.int (j : Nat)) _ _ _ _ = _;rw [kx, ifT (by omega), ifF (by omega), ifT (by omega)]
  simp only [Sa, Yd (v0 := v1) (by omega), AY, AX, Aw, AJ, decide_true, cond_true, Bz (i := j) (by omega)]
  unfold I8;cases nm (cl v1 j 0) <;> cases decide (fd v1 (cl v1 j 0) < j) <;> cases decide ((cl v1 j 2).toInt < 0) <;> cases decide (1048576 < (cl v1 j 2).toInt) <;> rfl
 ·show S3 _ (.int (len v1 : Nat)) _ _ _ _ = _;rw [kx, ifF (by omega)]
end
end Mp
namespace Mp
open Go Go.AE
def DP (v3 : D) (i j : Nat) : Bool := D.strEq (cl v3 j 0) (cl v3 i 0) && (D.strEq (cl v3 j 1) (cl v3 i 1) && (decide ((cl v3 j 2).toInt = (cl v3 i 2).toInt) && (D.strEq (cl v3 j 3) (cl v3 i 3) && (D.strEq (cl v3 j 4) (cl v3 i 4) && (D.strEq (cl v3 j 5) (cl v3 i 5) && (decide ((cl v3 j 6).toInt = (cl v3 i 6).toInt) && (decide ((cl v3 j 7).toInt = (cl v3 i 7).toInt) && decide ((cl v3 j 8).toInt = (cl v3 i 8).toInt))))))))
def dup (v3 : D) (i : Nat) : Bool := !decide (fdG (DP v3 i) i 0 < 0)
def WV (v2 v3 : D) (i : Nat) : Bool := cond (eqC (cl v3 i 5) 0 0) (cond (decide ((cl v3 i 6).toInt = 0)) (cond (decide ((cl v3 i 7).toInt = 0)) (cond (decide ((cl v3 i 8).toInt = 0)) false true) true) true)
 (cond (decide (fd v2 (cl v3 i 5) < 0)) true (cond (decide ((cl v3 i 6).toInt < 0)) true (cond (decide ((cl v3 i 7).toInt < (cl v3 i 6).toInt)) true (cond (decide ((cl v3 i 8).toInt < (-1000))) true (cond (decide (1000 < (cl v3 i 8).toInt)) true
  (cond (decide ((cl v2 (fd v2 (cl v3 i 5)) 1).toInt < (cl v3 i 7).toInt)) true (cond (decide (IntKind.wrap .i64 ((cl v3 i 6).toInt + (cl v3 i 8).toInt) < 0)) true (cond (decide ((cl v2 (fd v2 (cl v3 i 5)) 1).toInt < IntKind.wrap .i64 ((cl v3 i 7).toInt + (cl v3 i 8).toInt))) true false))))))))
def Ed (v3 : D) : Prop := ∀ i : Nat, i < len v3 → (∃ n, cl v3 i 2 = .int n) ∧ (∃ n, cl v3 i 6 = .int n) ∧ (∃ n, cl v3 i 7 = .int n) ∧ (∃ n, cl v3 i 8 = .int n) ∧ A8 (cl v3 i 3) < 4611686018427387904 ∧ A8 (cl v3 i 4) < 4611686018427387904
section
variable [Am]
def OJ (v0 v1 v3 : D) (i : Nat) : Bool := cond (decide ((cl v3 i 2).toInt = 1)) (cond (nm (cl v3 i 3)) (cond (nm (cl v3 i 4)) (D.strEq (cl v3 i 4) v0) true) true)
 (cond (decide ((cl v3 i 2).toInt = 2)) (cond (nm (cl v3 i 3)) (cond (nm (cl v3 i 4)) (D.strEq (cl v3 i 4) v0) true) true)
 (cond (decide ((cl v3 i 2).toInt = 3)) (cond (eqC (cl v3 i 3) 0 0) (cond (eqC (cl v3 i 4) 0 0) (!decide (0 < (cl v1 (fd v1 (cl v3 i 0)) 2).toInt)) true) true)
 (cond (decide ((cl v3 i 2).toInt = 4)) (cond (eqC (cl v3 i 3) 0 0) (cond (eqC (cl v3 i 4) 0 0) false true) true) true)))
def Gg (v0 v1 v2 v3 : D) (i : Nat) : Bool := decide (fd v1 (cl v3 i 0) < 0) || (decide (fd v1 (cl v3 i 1) < 0) || (dup v3 i || (OJ v0 v1 v3 i || WV v2 v3 i)))
variable {v0 v1 v2 v3 : D}
theorem jH (hs : Ed v3) (hn : len v3 < 1000) {i : Nat} (hi : i < len v3) : ∃ n : Int, ZH (sb v3 0 i) (cl v3 i 0) (cl v3 i 1) (cl v3 i 2) (cl v3 i 3) (cl v3 i 4) (cl v3 i 5) (cl v3 i 6) (cl v3 i 7) (cl v3 i 8) = .row [.int 1, .int n] ∧ decide (n < 0) = !dup v3 i := by
 obtain ⟨⟨n2, h2⟩, ⟨n6, h6⟩, ⟨n7, h7⟩, ⟨n8, h8⟩, _⟩ := hs i hi;refine ⟨fdG (DP v3 i) i 0, ?_, by unfold dup; rw [Bool.not_not]⟩
 have hl : len (sb v3 0 i) = i := by
  have := UL (a := v3) (lo := 0) (hi := (i : Int)) (by omega) (by omega)
  omega
 rw [h2, h6, h7, h8, lF];refine find (F := fun j => TK (sb v3 0 i) (.int (j : Nat)) (cl v3 i 0) (cl v3 i 1) (.int n2) (cl v3 i 3) (cl v3 i 4) (cl v3 i 5) (.int n6) (.int n7) (.int n8)) (n := i) (bad := DP v3 i) (fun j hj => ?_) ?_
 ·show TK (sb v3 0 i) (.int (j : Nat)) (cl v3 i 0) (cl v3 i 1) (.int n2) (cl v3 i 3) (cl v3 i 4) (cl v3 i 5) (.int n6) (.int n7) (.int n8) = _;rw [jY, hl, ifT (by omega), ifF (by omega), Bz (by omega)]
  simp only [KJ (a := v3) (i := i) (j := j) (by omega) hj]
  have e : (D.strEq (cl v3 i 0) (cl v3 j 0) && (D.strEq (cl v3 i 1) (cl v3 j 1) && (decide (n2 = (cl v3 j 2).toInt) && (D.strEq (cl v3 i 3) (cl v3 j 3) && (D.strEq (cl v3 i 4) (cl v3 j 4) && (D.strEq (cl v3 i 5) (cl v3 j 5) && (decide (n6 = (cl v3 j 6).toInt) && (decide (n7 = (cl v3 j 7).toInt) && decide (n8 = (cl v3 j 8).toInt))))))))) = DP v3 i j := by
   unfold DP;rw [h2, h6, h7, h8];simp only [Aw];rw [BE (a := cl v3 i 0), BE (a := cl v3 i 1), BE (a := cl v3 i 3), BE (a := cl v3 i 4), BE (a := cl v3 i 5)];rw [Sv (x := n2), Sv (x := n6), Sv (x := n7), Sv (x := n8)];rfl
  rw [e]
 ·show TK (sb v3 0 i) (.int (i : Nat)) (cl v3 i 0) (cl v3 i 1) (.int n2) (cl v3 i 3) (cl v3 i 4) (cl v3 i 5) (.int n6) (.int n7) (.int n8) = _;rw [jY, hl, ifF (by omega)]
theorem Wx (hs : Ed v3) (hn : len v3 < 1000) (hn1 : len v1 < 1000) (hn2 : len v2 < 1000) {i : Nat} (hi : i < len v3) : Hx (.int (len v3 : Nat)) (.int (i : Nat)) v0 v1 v2 v3 = cond (Gg v0 v1 v2 v3 i) (.row [.int 1, .int (i : Nat)]) (Hx (.int (len v3 : Nat)) (.int (i + 1 : Nat)) v0 v1 v2 v3) := by
 obtain ⟨n, h6, hd⟩ := jH hs hn hi;obtain ⟨_, _, _, _, h3, h4⟩ := hs i hi;rw [ez (h0 := rfl) (h1 := rfl) (h2 := rfl), ifT (by omega), ifF (by omega), ifT (by omega)]
 have a1 := Ij (l := v1) (key := cl v3 i 0);have a2 := Ij (l := v2) (key := cl v3 i 5);have d1 : decide ((A8 (cl v3 i 3) : Int) < 4611686018427387904) = true := decide_eq_true (by omega)
 have d2 : decide ((A8 (cl v3 i 4) : Int) < 4611686018427387904) = true := decide_eq_true (by omega)
 have d3 : decide ((len v3 : Int) < i) = false := decide_eq_false (by omega)
 simp only [h6, hd, Sa, Yq (v0 := v2) (by omega), Yd (v0 := v1) (by omega), AY, AX, Aw, AJ, decide_true, cond_true, cond_false, Bz (i := i) (by omega), decide_eq_true a1, decide_eq_true a2, d1, d2, d3, QD]
 unfold Gg OJ;generalize Hx (.int (len v3 : Nat)) (.int (i + 1 : Nat)) v0 v1 v2 v3 = X;generalize hY : (D.row [.int 1, .int (i : Nat)]) = Y;cases decide (fd v1 (cl v3 i 0) < 0) <;> cases decide (fd v1 (cl v3 i 1) < 0) <;> cases dup v3 i <;> simp only [cond_true, cond_false, Bool.true_or, Bool.false_or, Bool.not_true, Bool.not_false, Bool.cond_self]
 unfold WV;by_cases k1 : (cl v3 i 2).toInt = 1
 ·simp only [ifT k1];cases nm (cl v3 i 3) <;> cases nm (cl v3 i 4) <;> cases D.strEq (cl v3 i 4) v0 <;> simp only [cond_true, cond_false, Bool.true_or, Bool.false_or]
  repeat' (refine Lz (fun h => ?_) (fun h => ?_)) <;> simp only [*, cond_true, cond_false]
 simp only [ifF k1];by_cases k2 : (cl v3 i 2).toInt = 2
 ·simp only [ifT k2];cases nm (cl v3 i 3) <;> cases nm (cl v3 i 4) <;> cases D.strEq (cl v3 i 4) v0 <;> simp only [cond_true, cond_false, Bool.true_or, Bool.false_or]
  repeat' (refine Lz (fun h => ?_) (fun h => ?_)) <;> simp only [*, cond_true, cond_false]
 simp only [ifF k2];by_cases k3 : (cl v3 i 2).toInt = 3
 ·simp only [ifT k3];cases eqC (cl v3 i 3) 0 0 <;> cases eqC (cl v3 i 4) 0 0 <;> cases decide (0 < (cl v1 (fd v1 (cl v3 i 0)) 2).toInt) <;> simp only [cond_true, cond_false, Bool.true_or, Bool.false_or, Bool.and_true, Bool.true_and, Bool.and_false, Bool.false_and, Bool.not_true, Bool.not_false]
  repeat' (refine Lz (fun h => ?_) (fun h => ?_)) <;> simp only [*, cond_true, cond_false]
 simp only [ifF k3];by_cases k4 : (cl v3 i 2).toInt = 4
 ·simp only [ifT k4];cases eqC (cl v3 i 3) 0 0 <;> cases eqC (cl v3 i 4) 0 0 <;> simp only [cond_true, cond_false, Bool.true_or, Bool.false_or, Bool.and_true, Bool.true_and, Bool.and_false, Bool.false_and, Bool.not_true, Bool.not_false]
  repeat' (refine Lz (fun h => ?_) (fun h => ?_)) <;> simp only [*, cond_true, cond_false]
 simp only [ifF k4, cond_true, Bool.true_or]
theorem kG (hs : Ed v3) (hn : len v3 < 1000) (hn1 : len v1 < 1000) (hn2 : len v2 < 1000) (v0 : D) : T2 (.int (len v3 : Nat)) (.int 0) (.int 80) v0 v1 v2 v3 = .row [.int 1, .int (cond (decide (80 < (len v3 : Int))) 80 (fdG (Gg v0 v1 v2 v3) (len v3) 0))] := by
 rw [lw, ifF (by omega)]
 by_cases c : 80 < (len v3 : Int)
 ·rw [ifT c, ifT c]
 rw [ifF c, ifF c];refine find (F := fun i => Hx (.int (len v3 : Nat)) (.int (i : Nat)) v0 v1 v2 v3) (n := len v3) (bad := Gg v0 v1 v2 v3) (fun j hj => Wx hs hn hn1 hn2 hj) ?_
 show Hx _ (.int (len v3 : Nat)) _ _ _ _ = _;rw [ez (h0 := rfl) (h1 := rfl) (h2 := rfl), ifF (by omega)]
theorem Vt (hs : Ed v3) (hn : len v3 < 1000) (hn1 : len v1 < 1000) (hn2 : len v2 < 1000) {i : Nat} (hi : i < len v3) (hf : 0 ≤ fd v1 (cl v3 i 0)) : FqQ (.int (i : Nat)) (.int (fd v1 (cl v3 i 0))) (.int 0) v0 v1 v2 v3 (cl v3 i 0) (cl v3 i 1) (cl v3 i 2) (cl v3 i 3) (cl v3 i 4) (cl v3 i 5) (cl v3 i 6) (cl v3 i 7) (cl v3 i 8) = .row [.int 1, .bool (!(dup v3 i || OJ v0 v1 v3 i))] := by
 obtain ⟨⟨n2, h2⟩, ⟨n6, h6⟩, ⟨n7, h7⟩, ⟨n8, h8⟩, h3, h4⟩ := hs i hi
 have L := Ly (F := fun j => FqQ (.int (i : Nat)) (.int (fd v1 (cl v3 i 0))) (.int (j : Nat)) v0 v1 v2 v3 (cl v3 i 0) (cl v3 i 1) (cl v3 i 2) (cl v3 i 3) (cl v3 i 4) (cl v3 i 5) (cl v3 i 6) (cl v3 i 7) (cl v3 i 8)) (n := i) (bad := DP v3 i) (B := fun _ => .row [.int 1, .bool false]) (fun j hj => by
  show FqQ (.int (i : Nat)) (.int (fd v1 (cl v3 i 0))) (.int (j : Nat)) v0 v1 v2 v3 (cl v3 i 0) (cl v3 i 1) (cl v3 i 2) (cl v3 i 3) (cl v3 i 4) (cl v3 i 5) (cl v3 i 6) (cl v3 i 7) (cl v3 i 8) = cond _ _ (FqQ (.int (i : Nat)) (.int (fd v1 (cl v3 i 0))) (.int (j + 1 : Nat)) v0 v1 v2 v3 (cl v3 i 0) (cl v3 i 1) (cl v3 i 2) (cl v3 i 3) (cl v3 i 4) (cl v3 i 5) (cl v3 i 6) (cl v3 i 7) (cl v3 i 8))
  have e : (D.strEq (cl v3 j 0) (cl v3 i 0) && (D.strEq (cl v3 j 1) (cl v3 i 1) && (decide ((cl v3 j 2).toInt = n2) && (D.strEq (cl v3 j 3) (cl v3 i 3) && (D.strEq (cl v3 j 4) (cl v3 i 4) && (D.strEq (cl v3 j 5) (cl v3 i 5) && (decide ((cl v3 j 6).toInt = n6) && (decide ((cl v3 j 7).toInt = n7) && decide ((cl v3 j 8).toInt = n8))))))))) = DP v3 i j := by
   unfold DP;rw [h2, h6, h7, h8];rfl
  rw [← e, h2, h6, h7, h8, X4, ifT (by omega), ifF (by omega), ifT (by omega), Bz (by omega)])
 have L : FqQ (.int (i : Nat)) (.int (fd v1 (cl v3 i 0))) (.int 0) v0 v1 v2 v3 (cl v3 i 0) (cl v3 i 1) (cl v3 i 2) (cl v3 i 3) (cl v3 i 4) (cl v3 i 5) (cl v3 i 6) (cl v3 i 7) (cl v3 i 8) = cond (decide (fdG (DP v3 i) i 0 < 0)) (FqQ (.int (i : Nat)) (.int (fd v1 (cl v3 i 0))) (.int (i : Nat)) v0 v1 v2 v3 (cl v3 i 0) (cl v3 i 1) (cl v3 i 2) (cl v3 i 3) (cl v3 i 4) (cl v3 i 5) (cl v3 i 6) (cl v3 i 7) (cl v3 i 8)) (.row [.int 1, .bool false]) := L;rw [L];have e : decide (fdG (DP v3 i) i 0 < 0) = !dup v3 i := by unfold dup; rw [Bool.not_not]
 rw [e];cases dup v3 i
 ·show FqQ (.int (i : Nat)) (.int (fd v1 (cl v3 i 0))) (.int (i : Nat)) v0 v1 v2 v3 (cl v3 i 0) (cl v3 i 1) (cl v3 i 2) (cl v3 i 3) (cl v3 i 4) (cl v3 i 5) (cl v3 i 6) (cl v3 i 7) (cl v3 i 8) = .row [.int 1, .bool (!OJ v0 v1 v3 i)];have a1 := Ij (l := v1) (key := cl v3 i 0);have t2 : (cl v3 i 2).toInt = n2 := by rw [h2]; rfl
  have R : FqQ (.int (i : Nat)) (.int (fd v1 (cl v3 i 0))) (.int (i : Nat)) v0 v1 v2 v3 (cl v3 i 0) (cl v3 i 1) (.int n2) (cl v3 i 3) (cl v3 i 4) (cl v3 i 5) (.int n6) (.int n7) (.int n8) = .row [.int 1, .bool (!OJ v0 v1 v3 i)] := by
   rw [X4, ifF (by omega)]
   simp only [NB, AY, AX, Aw, AJ, decide_true, cond_true, decide_eq_true a1, decide_eq_false (show ¬ fd v1 (cl v3 i 0) < 0 by omega), cond_false]
   unfold OJ;by_cases k1 : n2 = 1
   ·rw [ifT k1, ifT (t2.trans k1)];cases nm (cl v3 i 3) <;> cases nm (cl v3 i 4) <;> rfl
   rw [ifF k1, ifF (p := (cl v3 i 2).toInt = 1) (by omega)]
   by_cases k2 : n2 = 2
   ·rw [ifT k2, ifT (t2.trans k2)];cases nm (cl v3 i 3) <;> cases nm (cl v3 i 4) <;> rfl
   rw [ifF k2, ifF (p := (cl v3 i 2).toInt = 2) (by omega)]
   by_cases k3 : n2 = 3
   ·rw [ifT k3, ifT (t2.trans k3)];cases eqC (cl v3 i 3) 0 0 <;> cases eqC (cl v3 i 4) 0 0 <;> simp only [cond_true, cond_false, Bool.not_true, Bool.not_false, Bool.not_not]
   rw [ifF k3, ifF (p := (cl v3 i 2).toInt = 3) (by omega)]
   by_cases k4 : n2 = 4
   ·rw [ifT k4, ifT (t2.trans k4)];cases eqC (cl v3 i 3) 0 0 <;> cases eqC (cl v3 i 4) 0 0 <;> rfl
   rw [ifF k4, ifF (p := (cl v3 i 2).toInt = 4) (by omega)]
   rfl
  rw [h2, h6, h7, h8];exact R
 ·rfl
theorem ZS (hs : Ed v3) (hn : len v3 < 1000) (hn1 : len v1 < 1000) (hn2 : len v2 < 1000) {i : Nat} (hi : i < len v3) : Rm v0 v1 v2 v3 (.int (i : Nat)) = .row [.int 1, .bool (!Gg v0 v1 v2 v3 i)] := by
 rw [dK, ifF (by omega), ifT (by omega)]
 have a1 := Ij (l := v1) (key := cl v3 i 0);have a2 := Ij (l := v2) (key := cl v3 i 5);simp only [Vx (v0 := v0) (v1 := v1) (v2 := v2) (v3 := v3) (by omega), VH (v0 := v0) (v1 := v1) (v2 := v2) (v3 := v3) (by omega), AY, AX, Aw, AJ, decide_true, cond_true, decide_eq_true a2]
 unfold Gg;by_cases c : fd v1 (cl v3 i 0) < 0
 ·rw [ifT c, decide_eq_true c]; rfl
 rw [ifF c, decide_eq_false c, Vt hs hn hn1 hn2 hi (by omega)]
 unfold WV;cases decide (fd v1 (cl v3 i 1) < 0) <;> cases dup v3 i <;> cases OJ v0 v1 v3 i <;> simp only [cond_true, cond_false, Bool.true_or, Bool.false_or, Bool.not_true, Bool.not_false]
 all_goals (repeat' (refine Lz (fun h => ?_) (fun h => ?_))) <;> simp only [*, cond_true, cond_false, Bool.not_true, Bool.not_false, Bool.cond_self]
end
end Mp
namespace Mp
open Go Go.AE
section
variable [Am]
variable {v0 v1 v2 v3 : D}
def IA (v2 : D) : Int := cond (decide (4 < (len v2 : Int))) 4 (fdG (IU v2) (len v2) 0)
def HF (v1 : D) : Int := cond (decide ((len v1 : Int) < 1)) 0 (cond (decide (24 < (len v1 : Int))) 24 (fdG (I8 v1) (len v1) 0))
def I9 (v0 v1 v2 v3 : D) : Int := cond (decide (80 < (len v3 : Int))) 80 (fdG (Gg v0 v1 v2 v3) (len v3) 0)
def rok (v0 v1 v2 v3 : D) : Bool := nm v0 && (decide (IA v2 < 0) && (decide (HF v1 < 0) && decide (I9 v0 v1 v2 v3 < 0)))
theorem mc (hn : len v2 < 1000) : JN (.int 0) v0 v1 v2 v3 = cond (decide (fdG (IU v2) (len v2) 0 < 0)) (JN (.int (len v2 : Nat)) v0 v1 v2 v3) (.row [.int 1, .int (fdG (IU v2) (len v2) 0).toNat, .int 291]) :=
 Ly (F := fun j => JN (.int (j : Nat)) v0 v1 v2 v3) (n := len v2) (bad := IU v2) (B := fun j => .row [.int 1, .int (j : Nat), .int 291]) fun j hj => by
  show JN (.int (j : Nat)) v0 v1 v2 v3 = cond _ _ (JN (.int (j + 1 : Nat)) v0 v1 v2 v3);have a := J5 hj;rw [YI, ifT (by omega), ifF (by omega), Bz (by omega)]
  simp only [NB, Vx (v0 := v0) (v1 := v1) (v2 := v2) (v3 := v3) (by omega), AY, AX, Aw, AJ, decide_true, cond_true]
  unfold IU;by_cases q : fd v2 (cl v2 j 0) < j
  ·rw [ifF (by omega), decide_eq_true q]
   cases nm (cl v2 j 0) <;> rfl
  ·rw [ifT (by omega), decide_eq_false q]
   cases nm (cl v2 j 0) <;> cases decide ((cl v2 j 1).toInt < 1) <;> cases decide (1000 < (cl v2 j 1).toInt) <;> rfl
theorem l9 (hn : len v1 < 1000) : Jt (.int 0) v0 v1 v2 v3 = cond (decide (fdG (I8 v1) (len v1) 0 < 0)) (Jt (.int (len v1 : Nat)) v0 v1 v2 v3) (.row [.int 1, .int (fdG (I8 v1) (len v1) 0).toNat, .int 292]) :=
 Ly (F := fun j => Jt (.int (j : Nat)) v0 v1 v2 v3) (n := len v1) (bad := I8 v1) (B := fun j => .row [.int 1, .int (j : Nat), .int 292]) fun j hj => by
  show Jt (.int (j : Nat)) v0 v1 v2 v3 = cond _ _ (Jt (.int (j + 1 : Nat)) v0 v1 v2 v3);have a := J5 hj;rw [Yz, ifT (by omega), ifF (by omega), Bz (by omega)]
  simp only [NB, VH (v0 := v0) (v1 := v1) (v2 := v2) (v3 := v3) (by omega), AY, AX, Aw, AJ, decide_true, cond_true]
  unfold I8;by_cases q : fd v1 (cl v1 j 0) < j
  ·rw [ifF (by omega), decide_eq_true q]
   cases nm (cl v1 j 0) <;> rfl
  ·rw [ifT (by omega), decide_eq_false q]
   cases nm (cl v1 j 0) <;> cases decide ((cl v1 j 2).toInt < 0) <;> cases decide (1048576 < (cl v1 j 2).toInt) <;> rfl
theorem lN (hs : Ed v3) (hn : len v3 < 1000) (hn1 : len v1 < 1000) (hn2 : len v2 < 1000) : Jk (.int 0) v0 v1 v2 v3 = cond (decide (fdG (Gg v0 v1 v2 v3) (len v3) 0 < 0)) (Jk (.int (len v3 : Nat)) v0 v1 v2 v3) (.row [.int 1, .int (fdG (Gg v0 v1 v2 v3) (len v3) 0).toNat, .int 293]) :=
 Ly (F := fun j => Jk (.int (j : Nat)) v0 v1 v2 v3) (n := len v3) (bad := Gg v0 v1 v2 v3) (B := fun j => .row [.int 1, .int (j : Nat), .int 293]) fun j hj => by
  show Jk (.int (j : Nat)) v0 v1 v2 v3 = cond _ _ (Jk (.int (j + 1 : Nat)) v0 v1 v2 v3);rw [YE, ifT (by omega), Bz (by omega)]
  simp only [ZS hs hn hn1 hn2 hj, AY, AX, Aw, AJ, decide_true, cond_true];cases Gg v0 v1 v2 v3 j <;> rfl
end
end Mp
namespace Mp
open Go Go.AE
section
variable [Am]
variable {v0 v1 v2 v3 : D}
def G9 (v0 v1 v2 v3 : D) : Int := cond (nm v0) (cond (decide (IA v2 < 0)) (cond (decide (HF v1 < 0)) (cond (decide (I9 v0 v1 v2 v3 < 0)) 0 293) 292) 291) 290
theorem OI : decide (G9 v0 v1 v2 v3 = 0) = rok v0 v1 v2 v3 := by
 unfold G9 rok;cases nm v0
 ·rfl
 cases decide (IA v2 < 0)
 ·rfl
 cases decide (HF v1 < 0)
 ·rfl
 cases decide (I9 v0 v1 v2 v3 < 0) <;> rfl
theorem YT (hs : Ed v3) (hn : len v3 < 1000) (hn1 : len v1 < 1000) (hn2 : len v2 < 1000) (v0 : D) : ∃ a, T8 v0 v1 v2 v3 = .row [.int 1, .int a, .int (G9 v0 v1 v2 v3)] := by
 rw [k9];simp only [Sa, gA hn2, jJ hn1, kG hs hn hn1 hn2, AY, AX, Aw, AJ, decide_true, cond_true];unfold G9;cases nm v0
 ·exact ⟨_, rfl⟩
 simp only [cond_true];by_cases c1 : IA v2 < 0;rotate_left
 ·have c1' := c1;unfold IA at c1;rw [ifF c1, ifF c1'];exact ⟨_, rfl⟩
 rw [ifT c1];unfold IA at c1;rw [ifT c1];by_cases c2 : HF v1 < 0;rotate_left
 ·have c2' := c2;unfold HF at c2;rw [ifF c2, ifF c2'];exact ⟨_, rfl⟩
 rw [ifT c2];unfold HF at c2;rw [ifT c2];by_cases c3 : I9 v0 v1 v2 v3 < 0;rotate_left
 ·have c3' := c3;unfold I9 at c3;rw [ifF c3, ifF c3'];exact ⟨_, rfl⟩
 rw [ifT c3];unfold I9 at c3;rw [ifT c3];exact ⟨_, rfl⟩
theorem Pf (hs : Ed v3) (hn : len v3 < 1000) (hn1 : len v1 < 1000) (hn2 : len v2 < 1000) (v0 : D) : ∃ a, Ps v0 v1 v2 v3 = .row [.int 1, .int a, .int (G9 v0 v1 v2 v3)] := by
 rw [hU];simp only [NB, AY, AX, Aw, AJ, decide_true, cond_true];unfold G9;cases c0 : nm v0
 ·exact ⟨_, rfl⟩
 simp only [cond_true];by_cases c1 : 4 < (len v2 : Int)
 ·rw [ifT c1, ifF (show ¬ IA v2 < 0 by unfold IA; rw [ifT c1]; omega)]
  exact ⟨_, rfl⟩
 rw [ifF c1, mc hn2];by_cases c2 : fdG (IU v2) (len v2) 0 < 0;rotate_left
 ·rw [ifF c2, ifF (show ¬ IA v2 < 0 by unfold IA; rw [ifF c1]; exact c2)]
  exact ⟨_, rfl⟩
 rw [ifT c2, YI, ifF (by omega), ifT (show IA v2 < 0 by unfold IA; rw [ifF c1]; exact c2)]
 by_cases c3 : (len v1 : Int) = 0
 ·rw [ifT c3, ifF (show ¬ HF v1 < 0 by unfold HF; rw [ifT (by omega)]; omega)]
  exact ⟨_, rfl⟩
 rw [ifF c3];by_cases c4 : 24 < (len v1 : Int)
 ·rw [ifT c4, ifF (show ¬ HF v1 < 0 by unfold HF; rw [ifF (by omega), ifT c4]; omega)]
  exact ⟨_, rfl⟩
 rw [ifF c4, l9 hn1];by_cases c5 : fdG (I8 v1) (len v1) 0 < 0;rotate_left
 ·rw [ifF c5, ifF (show ¬ HF v1 < 0 by unfold HF; rw [ifF (by omega), ifF c4]; exact c5)]
  exact ⟨_, rfl⟩
 rw [ifT c5, Yz, ifF (by omega), ifT (show HF v1 < 0 by unfold HF; rw [ifF (by omega), ifF c4]; exact c5)]
 by_cases c6 : 80 < (len v3 : Int)
 ·rw [ifT c6, ifF (show ¬ I9 v0 v1 v2 v3 < 0 by unfold I9; rw [ifT c6]; omega)]
  exact ⟨_, rfl⟩
 rw [ifF c6, lN hs hn hn1 hn2];by_cases c7 : fdG (Gg v0 v1 v2 v3) (len v3) 0 < 0;rotate_left
 ·rw [ifF c7, ifF (show ¬ I9 v0 v1 v2 v3 < 0 by unfold I9; rw [ifF c6]; exact c7)]
  exact ⟨_, rfl⟩
 rw [ifT c7, YE, ifF (by omega), ifT (show I9 v0 v1 v2 v3 < 0 by unfold I9; rw [ifF c6]; exact c7)]
 exact ⟨_, rfl⟩
theorem Wo {v : D} (h : nm v = true) : 1 ≤ A8 v := by
 rcases Nat.lt_or_ge 0 (A8 v) with q | q
 ·exact q
 unfold nm at h;rw [TU, ifT (by omega)] at h
 cases h
end
structure Rk (S C T : D) : Prop where
 s0 : 0 < len S
 s1 : len S < 1000
 c1 : len C ≤ 4
 t1 : len T ≤ 20
 wt : ∀ i : Nat, i < len S → 0 ≤ (cl S i 2).toInt ∧ (cl S i 2).toInt ≤ 1048576
 tmo : ∀ i : Nat, i < len T → (cl T i 2).toInt = 3 → 0 < (cl S (fd S (cl T i 0)) 2).toInt
 sne : ∀ i : Nat, i < len S → eqC (cl S i 0) 0 0 = false
 sid : ∀ i : Nat, i < len S → fd S (cl S i 0) = i
 cid : ∀ i : Nat, i < len C → fd C (cl C i 0) = i
 lim : ∀ i : Nat, i < len C → 1 ≤ (cl C i 1).toInt ∧ (cl C i 1).toInt ≤ 1000
 cne : ∀ i : Nat, i < len C → eqC (cl C i 0) 0 0 = false
 cI : ∀ i : Nat, i < len C → ∃ m, cl C i 1 = .int m
 tI : Ed T
 frm : ∀ i : Nat, i < len T → 0 ≤ fd S (cl T i 0)
 to : ∀ i : Nat, i < len T → 0 ≤ fd S (cl T i 1)
 ctr : ∀ i : Nat, i < len T → (eqC (cl T i 5) 0 0 = true ∧ fd C (cl T i 5) = -1) ∨ (eqC (cl T i 5) 0 0 = false ∧ 0 ≤ fd C (cl T i 5) ∧ 0 ≤ (cl T i 6).toInt ∧ (cl T i 6).toInt ≤ (cl T i 7).toInt ∧
  (cl T i 7).toInt ≤ (cl C (fd C (cl T i 5)) 1).toInt ∧ -1000 ≤ (cl T i 8).toInt ∧ (cl T i 8).toInt ≤ 1000 ∧ 0 ≤ (cl T i 6).toInt + (cl T i 8).toInt ∧ (cl T i 7).toInt + (cl T i 8).toInt ≤ (cl C (fd C (cl T i 5)) 1).toInt)
section
variable [Am]
theorem aO {v0 S C T : D} (h : rok v0 S C T = true) (hc : ∀ i : Nat, i < len C → ∃ m, cl C i 1 = .int m) (ht : Ed T) (hS : len S ≤ 8) (hT : len T ≤ 20) : Rk S C T := by
 unfold rok at h;simp only [Bool.and_eq_true] at h;obtain ⟨_, h1, h2, h3⟩ := h;unfold IA at h1;unfold HF at h2;unfold I9 at h3;by_cases c1 : 4 < (len C : Int)
 ·rw [ifT c1] at h1; cases h1
 rw [ifF c1] at h1;by_cases c2 : (len S : Int) < 1
 ·rw [ifT c2] at h2; cases h2
 rw [ifF c2, ifF (by omega)] at h2
 rw [ifF (by omega)] at h3
 have B1 : ∀ i, i < len C → IU C i = false := fun i hi => Li (k := len C) (i := 0) (by omega) (.inr ⟨dT h1, by omega⟩)
 have B2 : ∀ i, i < len S → I8 S i = false := fun i hi => Li (k := len S) (i := 0) (by omega) (.inr ⟨dT h2, by omega⟩)
 have B3 : ∀ i, i < len T → Gg v0 S C T i = false := fun i hi => Li (k := len T) (i := 0) (by omega) (.inr ⟨dT h3, by omega⟩)
 have E1 : ∀ i, i < len C → nm (cl C i 0) = true ∧ fd C (cl C i 0) = i ∧ 1 ≤ (cl C i 1).toInt ∧ (cl C i 1).toInt ≤ 1000 := fun i hi => by
  have b := B1 i hi;unfold IU at b;simp only [Bool.or_eq_false_iff, Bool.not_eq_false'] at b;have s := J5 hi;have b2 := dF b.1.1.2;have b3 := dF b.1.2;have b4 := dF b.2;exact ⟨b.1.1.1, by omega, by omega, by omega⟩
 have ne : ∀ i, i < len C → eqC (cl C i 0) 0 0 = false := fun i hi => by
  rw [Ep];have := Wo (E1 i hi).1;exact decide_eq_false (by omega)
 refine ⟨by omega, by omega, by omega, hT, fun i hi => ?_, fun i hi h3 => ?_, fun i hi => ?_, fun i hi => ?_, fun i hi => (E1 i hi).2.1, fun i hi => (E1 i hi).2.2, ne, hc, ht, fun i hi => ?_, fun i hi => ?_, fun i hi => ?_⟩
 ·have b := B2 i hi;unfold I8 at b;simp only [Bool.or_eq_false_iff] at b;have b2 := dF b.1.2;have b3 := dF b.2;omega
 ·have b := B3 i hi;unfold Gg at b;simp only [Bool.or_eq_false_iff] at b;have b := b.2.2.2.1;unfold OJ at b;rw [ifF (by omega), ifF (by omega), ifT h3] at b
  cases q1 : eqC (cl T i 3) 0 0
  ·rw [q1] at b; cases b
  cases q2 : eqC (cl T i 4) 0 0
  ·rw [q1, q2] at b; cases b
  rw [q1, q2] at b;simp only [cond_true, Bool.not_eq_false'] at b;exact dT b
 ·have b := B2 i hi;unfold I8 at b;simp only [Bool.or_eq_false_iff, Bool.not_eq_false'] at b;rw [Ep];have := Wo b.1.1.1;exact decide_eq_false (by omega)
 ·have b := B2 i hi;unfold I8 at b;simp only [Bool.or_eq_false_iff] at b;have s := J5 hi;have b2 := dF b.1.1.2;omega
 ·have b := B3 i hi;unfold Gg at b;simp only [Bool.or_eq_false_iff] at b;exact Int.not_lt.1 (dF b.1)
 ·have b := B3 i hi;unfold Gg at b;simp only [Bool.or_eq_false_iff] at b;exact Int.not_lt.1 (dF b.2.1)
 ·have b := B3 i hi;unfold Gg at b;simp only [Bool.or_eq_false_iff] at b;have b := b.2.2.2.2;unfold WV at b;cases hz : eqC (cl T i 5) 0 0
  ·right;rw [hz] at b;simp only [cond_false] at b;by_cases d1 : fd C (cl T i 5) < 0
   ·rw [ifT d1] at b; cases b
   rw [ifF d1] at b;by_cases d2 : (cl T i 6).toInt < 0
   ·rw [ifT d2] at b; cases b
   rw [ifF d2] at b;by_cases d3 : (cl T i 7).toInt < (cl T i 6).toInt
   ·rw [ifT d3] at b; cases b
   rw [ifF d3] at b;by_cases d4 : (cl T i 8).toInt < -1000
   ·rw [ifT d4] at b; cases b
   rw [ifF d4] at b;by_cases d5 : 1000 < (cl T i 8).toInt
   ·rw [ifT d5] at b; cases b
   rw [ifF d5] at b;by_cases d6 : (cl C (fd C (cl T i 5)) 1).toInt < (cl T i 7).toInt
   ·rw [ifT d6] at b; cases b
   rw [ifF d6] at b;have lt := Ij (l := C) (key := cl T i 5);have l := E1 (fd C (cl T i 5)).toNat (by omega)
   rw [show (((fd C (cl T i 5)).toNat : Nat) : Int) = fd C (cl T i 5) by omega] at l
   rw [AH (by omega) (by omega), AH (by omega) (by omega)] at b
   by_cases d7 : (cl T i 6).toInt + (cl T i 8).toInt < 0
   ·rw [ifT d7] at b; cases b
   rw [ifF d7] at b;by_cases d8 : (cl C (fd C (cl T i 5)) 1).toInt < (cl T i 7).toInt + (cl T i 8).toInt
   ·rw [ifT d8] at b; cases b
   exact ⟨rfl, by omega, by omega, by omega, by omega, by omega, by omega, by omega, by omega⟩
  ·left;refine ⟨rfl, ?_⟩;rcases X7 (l := C) (key := cl T i 5) with g | g
   ·exact g
   exfalso
   have lt := Ij (l := C) (key := cl T i 5);have s := UN g
   have e : eqC (cl C (fd C (cl T i 5)) 0) 0 0 = eqC (cl T i 5) 0 0 := by
    rw [Ep, Ep];unfold A8;rw [Ds.1 s]
   have l := ne (fd C (cl T i 5)).toNat (by omega)
   rw [show (((fd C (cl T i 5)).toNat : Nat) : Int) = fd C (cl T i 5) by omega] at l
   rw [e, hz] at l;cases l
end
end Mp
namespace Mp
open Go Go.AE
def In2 (h : D) (x y : Int) : Prop := ∃ j : Nat, j < len h ∧ (cl h j 0).toInt = x ∧ (cl h j 1).toInt = y
def swp (h : D) (a b : Int) : D := upd (upd (upd (upd h a 0 (cl h b 0)) a 1 (cl h b 1)) b 0 (cl h a 0)) b 1 (cl h a 1)
theorem GN {h : D} {a b : Int} : len (swp h a b) = len h := by unfold swp; simp only [D7]
theorem TQ {h : D} {a b : Int} (w : Wd h 2) : Wd (swp h a b) 2 := by unfold swp; exact Es (Es (Es (Es w)))
theorem VK {h : D} {a b k : Int} {c : Nat} (w : Wd h 2) (a0 : 0 ≤ a) (a1 : a < len h) (b0 : 0 ≤ b) (b1 : b < len h) (k0 : 0 ≤ k) (hc : c < 2) : cl (swp h a b) k c = if k = b then cl h a c else if k = a then cl h b c else cl h k c := by
 have w1 : Wd (upd h a 0 (cl h b 0)) 2 := Es w;have w2 : Wd (upd (upd h a 0 (cl h b 0)) a 1 (cl h b 1)) 2 := Es w1;have w3 : Wd (upd (upd (upd h a 0 (cl h b 0)) a 1 (cl h b 1)) b 0 (cl h a 0)) 2 := Es w2;unfold swp;rw [ES w3 (by omega) b0 (by simp only [D7]; exact b1) k0, ES w2 (by omega) b0 (by simp only [D7]; exact b1) k0, ES w1 (by omega) a0 (by simp only [D7]; exact a1) k0, ES w (by omega) a0 a1 k0]
 match c, hc with
 | 0, _ =>
  by_cases q : k = b
  ·rw [if_neg (by omega), if_pos ⟨q, rfl⟩, if_pos q]
  ·rw [if_neg (by omega), if_neg (fun c => q c.1), if_neg (by omega), if_neg q]
   by_cases r : k = a
   ·rw [if_pos ⟨r, rfl⟩, if_pos r]
   ·rw [if_neg (fun c => r c.1), if_neg r]
 | 1, _ =>
  by_cases q : k = b
  ·rw [if_pos ⟨q, rfl⟩, if_pos q]
  ·rw [if_neg (fun c => q c.1), if_neg (by omega), if_neg q]
   by_cases r : k = a
   ·rw [if_pos ⟨r, rfl⟩, if_pos r]
   ·rw [if_neg (fun c => r c.1), if_neg (by omega), if_neg r]
theorem VY {h : D} {a b : Nat} {x y : Int} (w : Wd h 2) (a1 : a < len h) (b1 : b < len h) (hi : In2 h x y) : In2 (swp h a b) x y := by
 obtain ⟨j, j1, e0, e1⟩ := hi;have C : ∀ (k : Nat) (c : Nat), c < 2 → cl (swp h a b) k c = if (k : Int) = b then cl h a c else if (k : Int) = a then cl h b c else cl h k c := fun k c hc => VK w (by omega) (by omega) (by omega) (by omega) (by omega) hc
 by_cases q : j = a
 ·subst q;exact ⟨b, by rw [GN]; exact b1, by rw [C b 0 (by omega), if_pos rfl]; exact e0, by rw [C b 1 (by omega), if_pos rfl]; exact e1⟩
 by_cases r : j = b
 ·subst r;refine ⟨a, by rw [GN]; exact a1, ?_, ?_⟩
  ·rw [C a 0 (by omega), if_neg (by omega), if_pos rfl]; exact e0
  ·rw [C a 1 (by omega), if_neg (by omega), if_pos rfl]; exact e1
 refine ⟨j, by rw [GN]; exact j1, ?_, ?_⟩
 ·rw [C j 0 (by omega), if_neg (by omega), if_neg (by omega)]; exact e0
 ·rw [C j 1 (by omega), if_neg (by omega), if_neg (by omega)]; exact e1
def Eh (h : D) : Prop := ∀ j : Nat, j < len h → ∃ x y, cl h j 0 = .int x ∧ cl h j 1 = .int y
theorem St {h : D} {a b : Nat} (w : Wd h 2) (a1 : a < len h) (b1 : b < len h) (hi : Eh h) : Eh (swp h a b) := by
 have C : ∀ (k : Nat) (c : Nat), c < 2 → cl (swp h a b) k c = if (k : Int) = b then cl h a c else if (k : Int) = a then cl h b c else cl h k c := fun k c hc => VK w (by omega) (by omega) (by omega) (by omega) (by omega) hc
 intro j j1;rw [GN] at j1;rw [C j 0 (by omega), C j 1 (by omega)]
 by_cases q : (j : Int) = b
 ·simp only [if_pos q]; exact hi a a1
 ·simp only [if_neg q];by_cases r : (j : Int) = a
  ·simp only [if_pos r]; exact hi b b1
  ·simp only [if_neg r]; exact hi j j1
theorem Zf {h : D} {x y : Int} (hi : Eh h) : Eh (ad h (.row [.int x, .int y])) := by
 intro j j1;rw [B6] at j1;rw [Dc (by omega), Dc (by omega)]
 by_cases q : (j : Int) = len h
 ·simp only [if_pos q]; exact ⟨x, y, rfl, rfl⟩
 ·simp only [if_neg q]; exact hi j (by omega)
theorem gN {a : D} {lo hi : Int} {n : Nat} (h : Wd a n) : Wd (sb a lo hi) n := fun r hr => h r (List.mem_of_mem_drop (List.mem_of_mem_take hr))
theorem w1 : IntKind.wrap .i64 (0 + 1) = 1 := rfl
theorem w2 : IntKind.wrap .i64 (1 + 1) = 2 := rfl
theorem Xk {x : Int} (h0 : 0 ≤ x) (h1 : x < 4611686018427387904) : ari .quo .i64 x 2 = x / 2 := by
 have e : ari .quo .i64 x 2 = IntKind.wrap .i64 (x.tdiv 2) := by unfold ari; rfl
 rw [e, Int.tdiv_eq_ediv_of_nonneg h0, AH (by omega) (by omega)]
section
variable [Am]
theorem Yk {n i l c1 c2 : Nat} {v4 : Int} {v5 h v8 : D} {b : Bool} (hn : len h = n) (hl : l < n ∨ c2 ≥ n) : ∃ l' : Nat, (l' = l ∨ l' = c2 ∧ c2 < n) ∧ BF (.int n) (.int i) (.int l) (.int 1) (.int v4) v5 h (.bool b) v8 (.int c1) (.int c2) = BF (.int n) (.int i) (.int l') (.int 2) (.int v4) v5 h (.bool b) v8 (.int c1) (.int c2) := by
 rw [RB, ifT (by omega), ifF (by omega), ifT rfl]
 by_cases q : c2 < n
 ·rw [ifT (by omega), ifF (by omega), ifT (by omega), ifF (by omega), ifT (by omega), w2]
  cases decide ((cl h c2 0).toInt < (cl h l 0).toInt) <;> cases decide ((cl h c2 1).toInt < (cl h l 1).toInt) <;> cases decide ((cl h l 1).toInt < (cl h c2 1).toInt) <;> cases decide ((cl h l 0).toInt < (cl h c2 0).toInt) <;>
   first | exact ⟨l, .inl rfl, rfl⟩ | exact ⟨c2, .inr ⟨rfl, q⟩, rfl⟩
 ·rw [ifF (by omega), w2]
  exact ⟨l, .inl rfl, rfl⟩
theorem Yw {n i l c1 c2 : Nat} {v4 : Int} {v5 h v8 : D} {b : Bool} (hn : len h = n) (hl : l < n ∨ c1 ≥ n) : ∃ l' : Nat, (l' = l ∨ l' = c1 ∧ c1 < n) ∧ BF (.int n) (.int i) (.int l) (.int 0) (.int v4) v5 h (.bool b) v8 (.int c1) (.int c2) = BF (.int n) (.int i) (.int l') (.int 1) (.int v4) v5 h (.bool b) v8 (.int c1) (.int c2) := by
 rw [RB, ifT (by omega), ifT rfl]
 by_cases q : c1 < n
 ·rw [ifT (by omega), ifF (by omega), ifT (by omega), ifF (by omega), ifT (by omega), w1]
  cases decide ((cl h c1 0).toInt < (cl h l 0).toInt) <;> cases decide ((cl h c1 1).toInt < (cl h l 1).toInt) <;> cases decide ((cl h l 1).toInt < (cl h c1 1).toInt) <;> cases decide ((cl h l 0).toInt < (cl h c1 0).toInt) <;>
   first | exact ⟨l, .inl rfl, rfl⟩ | exact ⟨c1, .inr ⟨rfl, q⟩, rfl⟩
 ·rw [ifF (by omega), w1]
  exact ⟨l, .inl rfl, rfl⟩
theorem Uz {n : Nat} (hn : n < 1000000) {v2 : Int} {v3 v6 : D} {b : Bool} : ∀ (k i : Nat) (h : D), n ≤ i + k → i ≤ n → len h = n → Wd h 2 → ∃ h', Rj (.int n) (.int i) (.int v2) v3 h (.bool b) v6 = .row [.int 1, h', .bool b] ∧ Wd h' 2 ∧ len h' = n ∧ (Eh h → Eh h') ∧ ∀ x y, In2 h x y → In2 h' x y := by
 intro k
 induction k with
 | zero =>
  intro i h hk hi hl w;have : i = n := by omega
  subst this;rw [YA, AH (a := 2 * (i : Int)) (by omega) (by omega), AH (by omega) (by omega), AH (by omega) (by omega)]
  obtain ⟨l1, c1, q1⟩ := Yw (n := i) (i := i) (l := i) (c1 := 2 * i + 1) (c2 := 2 * i + 2) (v4 := v2) (v5 := v3) (h := h) (v8 := v6) (b := b) hl (.inr (by omega))
  have c1 : l1 = i := by omega
  subst c1;obtain ⟨l2, c2, q2⟩ := Yk (n := l1) (i := l1) (l := l1) (c1 := 2 * l1 + 1) (c2 := 2 * l1 + 2) (v4 := v2) (v5 := v3) (h := h) (v8 := v6) (b := b) hl (.inr (by omega))
  have c2 : l2 = l1 := by omega
  subst c2;have E := q1.trans q2;refine ⟨h, ?_, w, hl, id, fun _ _ q => q⟩
  show BF (.int (l2 : Nat)) (.int (l2 : Nat)) (.int (l2 : Nat)) (.int 0) (.int v2) v3 h (.bool b) v6 (.int ((2 * l2 + 1 : Nat) : Int)) (.int ((2 * l2 + 2 : Nat) : Int)) = _;rw [E, RB, ifF (by omega), ifT rfl]
 | succ k ih =>
  intro i h hk hi hl w;rw [YA, AH (a := 2 * (i : Int)) (by omega) (by omega), AH (by omega) (by omega), AH (by omega) (by omega)]
  obtain ⟨l1, c1, q1⟩ := Yw (n := n) (i := i) (l := i) (c1 := 2 * i + 1) (c2 := 2 * i + 2) (v4 := v2) (v5 := v3) (h := h) (v8 := v6) (b := b) hl (by omega)
  obtain ⟨l2, c2, q2⟩ := Yk (n := n) (i := i) (l := l1) (c1 := 2 * i + 1) (c2 := 2 * i + 2) (v4 := v2) (v5 := v3) (h := h) (v8 := v6) (b := b) hl (by omega)
  have E := q1.trans q2;have E' : BF (.int (n : Nat)) (.int (i : Nat)) (.int (i : Nat)) (.int 0) (.int v2) v3 h (.bool b) v6 (.int (2 * (i : Int) + 1)) (.int (2 * (i : Int) + 2)) = BF (.int (n : Nat)) (.int (i : Nat)) (.int (l2 : Nat)) (.int 2) (.int v2) v3 h (.bool b) v6 (.int (2 * i + 1 : Nat)) (.int (2 * i + 2 : Nat)) := E;rw [E', RB, ifF (by omega)]
  by_cases q : l2 = i
  ·rw [ifT (by omega)]
   exact ⟨h, rfl, w, hl, id, fun _ _ q => q⟩
  ·rw [ifF (by omega), ifF (by omega), ifT (by omega), ifF (by omega), ifT (by omega)]
   obtain ⟨h', r1, r2, r3, r5, r4⟩ := ih l2 (swp h i l2) (by omega) (by omega) (by rw [GN]; exact hl) (TQ w)
   exact ⟨h', r1, r2, r3, fun hi => r5 (St w (by omega) (by omega) hi), fun x y hi => r4 x y (VY w (by omega) (by omega) hi)⟩
theorem Vg {v0 : Int} {v1 v2 h : D} {b : Bool} (w : Wd h 2) (h0 : 0 < len h) (h1 : len h < 1000000) : ∃ h', Gu (.int v0) v1 v2 h (.bool b) = .row [.int 1, h', .bool b] ∧ Wd h' 2 ∧ len h' = len h - 1 ∧ (Eh h → Eh h') ∧ ∀ x y, In2 h x y → ¬ ((cl h 0 0).toInt = x ∧ (cl h 0 1).toInt = y) → In2 h' x y := by
 have e : IntKind.wrap .i64 ((len h : Int) - 1) = ((len h - 1 : Nat) : Int) := by rw [AH (by omega) (by omega)]; omega
 generalize hm : len h - 1 = m at e;rw [bN, e, ifF (by omega), ifT (by omega), ifT (by omega), ifF (by simp only [D7]; omega)]
 have wa : Wd (upd h 0 0 (cl h m 0)) 2 := Es w;have wb : Wd (upd (upd h 0 0 (cl h m 0)) 0 1 (cl h m 1)) 2 := Es wa
 have C : ∀ (k c : Nat), c < 2 → cl (upd (upd h 0 0 (cl h m 0)) 0 1 (cl h m 1)) k c = if k = 0 then cl h m c else cl h k c := by
  intro k c hc;rw [ES wa (by omega) (by omega) (by simp only [D7]; omega) (by omega), ES w (by omega) (by omega) (by omega) (by omega)]
  match c, hc with
  | 0, _ =>
   by_cases q : k = 0
   ·rw [if_neg (by omega), if_pos (by omega), if_pos q]
   ·rw [if_neg (by omega), if_neg (by omega), if_neg q]
  | 1, _ =>
   by_cases q : k = 0
   ·rw [if_pos (by omega), if_pos q]
   ·rw [if_neg (by omega), if_neg (by omega), if_neg q]
 have lg : len (upd (upd h 0 0 (cl h m 0)) 0 1 (cl h m 1)) = len h := by simp only [D7]
 generalize upd (upd h 0 0 (cl h m 0)) 0 1 (cl h m 1) = g at wb C lg
 have ls : len (sb g 0 m) = m := by
  have := UL (a := g) (lo := 0) (hi := (m : Int)) (by omega) (by omega)
  omega
 obtain ⟨h', r1, r2, r3, r5, r4⟩ := Uz (n := m) (by omega) (v2 := v0) (v3 := v2) (v6 := v1) (b := b) m 0 (sb g 0 m) (by omega) (by omega) ls (gN wb)
 refine ⟨h', r1, r2, by omega, fun hi => r5 (fun j j1 => ?_), fun x y hi hne => r4 x y ?_⟩
 ·rw [KJ (by omega) (by omega), KJ (by omega) (by omega), C j 0 (by omega), C j 1 (by omega)]
  by_cases q : j = 0
  ·simp only [if_pos q]; exact hi m (by omega)
  ·simp only [if_neg q]; exact hi j (by omega)
 obtain ⟨j, j1, e0, e1⟩ := hi
 have j0 : j ≠ 0 := fun c => by
  subst c;exact hne ⟨e0, e1⟩
 by_cases q : j = m
 ·subst q;refine ⟨0, by omega, ?_, ?_⟩
  ·rw [KJ (by omega) (by omega), C 0 0 (by omega), if_pos rfl]; exact e0
  ·rw [KJ (by omega) (by omega), C 0 1 (by omega), if_pos rfl]; exact e1
 ·refine ⟨j, by omega, ?_, ?_⟩
  ·rw [KJ (by omega) (by omega), C j 0 (by omega), if_neg j0]; exact e0
  ·rw [KJ (by omega) (by omega), C j 1 (by omega), if_neg j0]; exact e1
theorem Yo {h : D} {x y : Int} : (∀ a b, In2 h a b → In2 (ad h (.row [.int x, .int y])) a b) ∧ In2 (ad h (.row [.int x, .int y])) x y := by
 refine ⟨fun a b hi => ?_, len h, by rw [B6]; omega, ?_, ?_⟩
 ·obtain ⟨j, j1, e0, e1⟩ := hi;refine ⟨j, by rw [B6]; omega, ?_, ?_⟩
  ·rw [Dc (by omega), if_neg (by omega)]; exact e0
  ·rw [Dc (by omega), if_neg (by omega)]; exact e1
 ·rw [Dc (by omega), if_pos rfl]; rfl
 ·rw [Dc (by omega), if_pos rfl]; rfl
theorem Wc {n : Nat} (hn : n < 1000000) {t : Int} {v2 v4 : D} {b : Bool} : ∀ (k i : Nat) (h : D), i ≤ k → i < n → len h = n → Wd h 2 → ∃ h', JS (.int i) (.int t) v2 h (.bool b) v4 = .row [.int 1, h', .bool b] ∧ Wd h' 2 ∧ len h' = n ∧ (Eh h → Eh h') ∧ ∀ x y, In2 h x y → In2 h' x y := by
 intro k
 induction k with
 | zero =>
  intro i h hk hi hl w;have : i = 0 := by omega
  subst this;rw [Yt, ifF (by omega)]
  exact ⟨h, rfl, w, hl, id, fun _ _ q => q⟩
 | succ k ih =>
  intro i h hk hi hl w;rw [Yt];by_cases q : 0 < (i : Int)
  ·have e : ari .quo .i64 (IntKind.wrap .i64 ((i : Int) - 1)) 2 = (((i - 1) / 2 : Nat) : Int) := by
    rw [AH (by omega) (by omega), Xk (by omega) (by omega)]; omega
   rw [e];generalize hu : (i - 1) / 2 = u
   have R : ∃ h', JS (.int u) (.int t) v2 (swp h u i) (.bool b) v4 = .row [.int 1, h', .bool b] ∧ Wd h' 2 ∧ len h' = n ∧ (Eh h → Eh h') ∧ ∀ x y, In2 h x y → In2 h' x y := by
    obtain ⟨h', r1, r2, r3, r5, r4⟩ := ih u (swp h u i) (by omega) (by omega) (by rw [GN]; exact hl) (TQ w)
    exact ⟨h', r1, r2, r3, fun hi => r5 (St w (by omega) (by omega) hi), fun x y hi => r4 x y (VY w (by omega) (by omega) hi)⟩
   have S : ∃ h', D.row [.int 1, h, .bool b] = .row [.int 1, h', .bool b] ∧ Wd h' 2 ∧ len h' = n ∧ (Eh h → Eh h') ∧ ∀ x y, In2 h x y → In2 h' x y := ⟨h, rfl, w, hl, id, fun _ _ q => q⟩
   rw [ifT q, ifF (by omega), ifT (by omega), ifT (by omega)]
   cases decide ((cl h u 0).toInt < (cl h i 0).toInt) <;> cases decide ((cl h u 1).toInt < (cl h i 1).toInt) <;> cases decide ((cl h i 1).toInt < (cl h u 1).toInt) <;> cases decide ((cl h i 0).toInt < (cl h u 0).toInt) <;> first | exact S | exact R
  ·rw [ifF q];exact ⟨h, rfl, w, hl, id, fun _ _ q => q⟩
theorem Zy {t x y : Int} {v1 v2 : D} {h : D} {b : Bool} (w : Wd h 2) (h1 : len h < 1000) : ∃ h', EE (.int t) v1 v2 h (.bool b) (.int x) (.int y) = .row [.int 1, h', .bool false] ∧ Wd h' 2 ∧ len h' = len h + 1 ∧ (Eh h → Eh h') ∧ (∀ a b, In2 h a b → In2 h' a b) ∧ In2 h' x y := by
 have e : IntKind.wrap .i64 ((len (ad h (.row [.int x, .int y])) : Int) - 1) = ((len h : Nat) : Int) := by rw [B6, AH (by omega) (by omega)]; omega
 rw [jh, ifT (by omega), e]
 have hw : Wd (ad h (.row [.int x, .int y])) 2 := Uv w rfl;obtain ⟨h', r1, r2, r3, r5, r4⟩ := Wc (n := len h + 1) (by omega) (t := t) (v2 := v2) (v4 := v1) (b := false) (len h) (len h) (ad h (.row [.int x, .int y])) (by omega) (by omega) (by rw [B6]) hw
 exact ⟨h', r1, r2, by omega, fun hi => r5 (Zf hi), fun a b hi => r4 a b (Yo.1 a b hi), r4 x y Yo.2⟩
end
end Mp
namespace Mp
open Go Go.AE
def Dm (due dn : D) : Option Int → Prop
 | none => due.rows = []
 | some d => due.rows = [.row [.int 0, .int d]] ∧ dn.toBool = false
structure CK (due dn hp : D) (b : Bool) (o : Option Int) : Prop where
 dm : Dm due dn o
 wd : Wd hp 2
 al : Eh hp
 nl : b = true → len hp = 0
 inn : ∀ d, o = some d → In2 hp d 0
theorem HW {a k : D} (h : a.rows = []) : mIx [.int .i64] a k = -1 := by unfold mIx; rw [h]; rfl
theorem Ox {a k : D} {d : Int} (h : a.rows = [.row [.int 0, .int d]]) : mIx [.int .i64] a (.row [k]) = if k.toInt = 0 then 0 else -1 := by
 unfold mIx;rw [h]
 show (match ((0 : Int) == k.toInt) && true with
  | true => ((0 : Nat) : Int)
  | false => -1) = _
 by_cases q : k.toInt = 0
 ·rw [if_pos q, q]; rfl
 ·rw [if_neg q]
  have : ((0 : Int) == k.toInt) = false := by
   cases e : ((0 : Int) == k.toInt) with
   | false => rfl
   | true => exact absurd (eq_of_beq e).symm q
  rw [this]; rfl
theorem Im {a : D} {d : Int} (h : a.rows = [.row [.int 0, .int d]]) : mIx [.int .i64] a (.row [.int 0]) = 0 := (Ox h).trans (if_pos rfl)
theorem VZ {a : D} {d t : Int} (h : a.rows = [.row [.int 0, .int d]]) (ht : t ≠ 0) : mIx [.int .i64] a (.row [.int t]) = -1 := (Ox h).trans (if_neg ht)
theorem Nu {a : D} {d : Int} (h : a.rows = [.row [.int 0, .int d]]) : cl a 0 1 = .int d := by
 unfold cl; rw [h]; rfl
theorem Lw {a : D} {d : Int} (h : a.rows = [.row [.int 0, .int d]]) : (J1 a 0).rows = [] := by
 show a.rows.eraseIdx 0 = [];rw [h]; rfl
section
variable [Am]
variable {due dn : D}
theorem LT {v0 : Int} (hd : due.rows = []) : ∀ (k : Nat) (hp : D) (b : Bool), len hp = k → k < 100000 → Wd hp 2 → Eh hp → (b = true → len hp = 0) → ∃ hp', Jl (.int v0) dn hp (.bool b) due = .row [.int 1, .int 0, .int 0, .bool false, hp', .bool b] ∧ Wd hp' 2 ∧ Eh hp' ∧ (b = true → len hp' = 0) ∧ len hp' ≤ k := by
 intro k
 induction k with
 | zero =>
  intro hp b hl hk w a n;rw [Vj, ifF (by omega)]
  exact ⟨hp, rfl, w, a, n, by omega⟩
 | succ k ih =>
  intro hp b hl hk w a n;obtain ⟨h', q1, q2, q3, q4, _⟩ := Vg (v0 := v0) (v1 := due) (v2 := dn) (b := b) w (by omega) (by omega)
  have hb : b = false := by
   cases b with
   | false => rfl
   | true => have := n rfl; omega
  obtain ⟨h2, r1, r2, r3, r4, r5⟩ := ih h' b (by omega) (by omega) q2 (q4 a) (fun c => by rw [hb] at c; cases c)
  rw [Vj, ifT (by omega)]
  simp only [q1, HW hd, AY, AX, Aw, AJ, decide_true, cond_true, r1];refine ⟨h2, ?_, r2, r3, r4, by omega⟩
  cases dn.toBool <;> rfl
theorem P6 {v0 d : Int} (hd : due.rows = [.row [.int 0, .int d]]) (hn : dn.toBool = false) : ∀ (k : Nat) (hp : D) (b : Bool), len hp = k → k < 100000 → Wd hp 2 → Eh hp → (b = true → len hp = 0) → In2 hp d 0 → ∃ hp', Jl (.int v0) dn hp (.bool b) due = .row [.int 1, .int d, .int 0, .bool true, hp', .bool b] ∧ Wd hp' 2 ∧ Eh hp' ∧ (b = true → len hp' = 0) ∧ len hp' ≤ k ∧ In2 hp' d 0 := by
 intro k
 induction k with
 | zero =>
  intro hp b hl hk w a n i;obtain ⟨j, j1, _⟩ := i;omega
 | succ k ih =>
  intro hp b hl hk w a n i;obtain ⟨h', q1, q2, q3, q4, q5⟩ := Vg (v0 := v0) (v1 := due) (v2 := dn) (b := b) w (by omega) (by omega)
  have hb : b = false := by
   cases b with
   | false => rfl
   | true => have := n rfl; omega
  obtain ⟨x, t, ex, et⟩ := a 0 (by omega)
  have ex : cl hp 0 0 = .int x := ex;have et : cl hp 0 1 = .int t := et
  have step : ¬ (x = d ∧ t = 0) → ∃ hp', Jl (.int v0) dn h' (.bool b) due = .row [.int 1, .int d, .int 0, .bool true, hp', .bool b] ∧ Wd hp' 2 ∧ Eh hp' ∧ (b = true → len hp' = 0) ∧ len hp' ≤ k + 1 ∧ In2 hp' d 0 := fun hne => by
   obtain ⟨h2, r1, r2, r3, r4, r5, r6⟩ := ih h' b (by omega) (by omega) q2 (q4 a) (fun c => by rw [hb] at c; cases c) (q5 d 0 i (fun c => by
    rw [ex, et] at c;exact hne c))
   exact ⟨h2, r1, r2, r3, r4, by omega, r6⟩
  rw [Vj, ifT (by omega), hn]
  simp only [q1, et, ex, AY, AX, Aw, AJ, decide_true, cond_true, cond_false];by_cases c : t = 0
  ·subst c;rw [Im hd, ifF (by omega), Nu hd]
   simp only [Aw];by_cases e : d = x
   ·subst e;simp only [eq_self, decide_true, cond_true];exact ⟨hp, rfl, w, a, n, by omega, i⟩
   ·simp only [e, decide_false, cond_false];exact step (fun c => e c.1.symm)
  ·rw [VZ hd c, ifT (by omega)]
   exact step (fun e => c e.2)
theorem CK.none_of {hp : D} {b : Bool} {o : Option Int} (h : CK due dn hp b o) {due' : D} (hd : due'.rows = []) (dn' : D) : CK due' dn' hp b none := ⟨hd, h.wd, h.al, h.nl, fun d c => by cases c⟩
theorem au {hp : D} {b : Bool} {o : Option Int} {now t : Int} (h : CK due dn hp b o) (hl : len hp < 100000) (h0 : now ≤ t) (h1 : t ≤ 1099511627776) :
  ∃ (out : D) (on : Bool) (hp' due' : D), Lb (.int now) due dn hp (.bool b) (.int t) = .row [.int 1, out, .bool on, .int 0, .int t, hp', .bool b, due'] ∧ len hp' ≤ len hp ∧
   ((∃ d, o = some d ∧ d ≤ t ∧ decide (0 < (len out : Int)) = true ∧ CK due' dn hp' b none) ∨ ((∀ d, o = some d → t < d) ∧ decide (0 < (len out : Int)) = false ∧ CK due' dn hp' b o)) := by
 have F : ∀ {x : D}, (∃ r, Br (.int t) due dn hp (.bool b) = r ∧ cond (decide ((sl r 0).toInt = 1)) (Lx Ar (.bool true) (sl r 3) (.int t) dn (sl r 4) (sl r 5) due (sl r 1) (sl r 2)) (.row []) = x) → Lb (.int now) due dn hp (.bool b) (.int t) = x := by
  intro x hx;obtain ⟨r, r1, r2⟩ := hx;rw [iG, ifF (by omega)]
  by_cases c : now < t
  ·rw [ifT c, r1]; exact r2
  ·have : now = t := by omega
   subst this;rw [ifF c, r1]; exact r2
 cases o with
 | none =>
  obtain ⟨h2, r1, r2, r3, r4, r5⟩ := LT (dn := dn) (v0 := t) h.dm (len hp) hp b rfl hl h.wd h.al h.nl;refine ⟨Ar, true, h2, due, F ⟨_, (R4 ..).trans r1, ?_⟩, r5, .inr ⟨(fun d c => by cases c), rfl, h.dm, r2, r3, r4, (fun d c => by cases c)⟩⟩
  simp only [AY, AX, Aw, decide_true, cond_true];rw [Sp]; rfl
 | some d =>
  obtain ⟨h2, r1, r2, r3, r4, r5, r6⟩ := P6 (v0 := t) h.dm.1 h.dm.2 (len hp) hp b rfl hl h.wd h.al h.nl (h.inn d rfl);by_cases c : t < d
  ·refine ⟨Ar, true, h2, due, F ⟨_, (R4 ..).trans r1, ?_⟩, r5, .inr ⟨(fun d' c' => (by cases c'; exact c)), rfl, h.dm, r2, r3, r4, (fun d' c' => (by cases c'; exact r6))⟩⟩
   simp only [AY, AX, Aw, decide_true, cond_true];rw [Sp, cT rfl, ifT c]
  ·obtain ⟨h3, s1, s2, s3, s4, s5⟩ := LT (due := J1 due 0) (dn := dn) (v0 := t) (Lw h.dm.1) (len h2) h2 b rfl (by omega) r2 r3 r4
   refine ⟨ad Ar (.row [.int 0]), false, h3, J1 due 0, F ⟨_, (R4 ..).trans r1, ?_⟩, by omega, .inl ⟨d, rfl, by omega, by rw [B6]; exact decide_eq_true (by omega), Lw h.dm.1, s2, s3, s4, (fun d' c' => by cases c')⟩⟩
   simp only [AY, AX, Aw, decide_true, cond_true];rw [Sp, cT rfl, ifF c, ifT (by rw [BZ]; omega), h.dm.2]
   simp only [Im h.dm.1, cond_false];rw [ifF (by omega), R4, s1]
   simp only [AY, AX, Aw, decide_true, cond_true];rw [Sp]; rfl
theorem WP {hp : D} {b : Bool} {o : Option Int} {now : Int} (h : CK due dn hp b o) : ∃ (e : Int) (due' : D), DS (.int now) due dn hp (.bool b) (.int 0) = .row [.int 1, .int e, due'] ∧ CK due' dn hp b none := by
 cases o with
 | none =>
  have hz : due.rows = [] := h.dm
  have g : Ha (.int now) due dn hp (.bool b) (.int 0) = .row [.int 1, .int 0, .int 9] := by
   rw [VQ, ifF (by omega), ifT (by omega), HW hz]
   cases dn.toBool
   ·rw [cF rfl, ifT (by omega)]
   ·rfl
  refine ⟨9, due, ?_, h.none_of hz dn⟩;rw [Yg, g];rfl
 | some d =>
  have hd := h.dm.1
  have g : Ha (.int now) due dn hp (.bool b) (.int 0) = .row [.int 1, .int (IntKind.wrap .i64 (d - now)), .int 0] := by
   rw [VQ, ifF (by omega), ifT (by omega), h.dm.2, cF rfl]
   simp only [Im hd];rw [Nu hd]; rfl
  refine ⟨0, J1 due 0, ?_, h.none_of (Lw hd) dn⟩;rw [Yg, g, h.dm.2, Im hd];rfl
theorem Vs {hp : D} {b : Bool} {now w : Int} (h : CK due dn hp b none) (hl : len hp < 1000) (n0 : 0 ≤ now) (n1 : now ≤ 1099511627776) (w0 : 0 ≤ w) (w1 : w ≤ 1048576) :
  ∃ (e : Int) (dn' hp' due' : D) (b' : Bool), FP (.int now) due dn hp (.bool b) (.int 0) (.int w) = .row [.int 1, .int e, dn', hp', .bool b', due'] ∧ len hp' ≤ len hp + 1 ∧
   CK due' dn' hp' b' (if now + w ≤ 1099511627776 then some (now + w) else none) := by
 rw [ca, ifF (by omega), ifT (by omega), ifF (by omega), AH (by omega) (by omega)]
 by_cases c : 1099511627776 - now < w
 ·rw [ifT c, if_neg (by omega)]
  exact ⟨3, dn, hp, due, b, rfl, by omega, h⟩
 rw [ifF c, if_pos (by omega), AH (by omega) (by omega), HW (show due.rows = [] from h.dm)]
 have R : ∀ (due0 dn0 dn1 : D), due0.rows = [] → dn1.toBool = false → ∃ (e : Int) (dn' hp' due' : D) (b' : Bool), cond (decide ((sl (EE (.int now) (ad due0 (.row [.int 0, .int (now + w)])) dn0 hp (.bool b) (.int (now + w)) (.int 0)) 0).toInt = 1))
   (D.row [.int 1, .int 0, dn1, sl (EE (.int now) (ad due0 (.row [.int 0, .int (now + w)])) dn0 hp (.bool b) (.int (now + w)) (.int 0)) 1, sl (EE (.int now) (ad due0 (.row [.int 0, .int (now + w)])) dn0 hp (.bool b) (.int (now + w)) (.int 0)) 2, ad due0 (D.row [.int 0, .int (now + w)])]) (D.row []) = D.row [.int 1, .int e, dn', hp', .bool b', due'] ∧ len hp' ≤ len hp + 1 ∧ CK due' dn' hp' b' (some (now + w)) := by
  intro due0 dn0 dn1 h0 h1;obtain ⟨h', r1, r2, r3, r4, r5, r6⟩ := Zy (t := now) (x := now + w) (y := 0) (v1 := ad due0 (.row [.int 0, .int (now + w)])) (v2 := dn0) (b := b) h.wd hl;simp only [r1, AY, AX, Aw, decide_true, cond_true];refine ⟨0, dn1, h', _, false, rfl, by omega, ⟨?_, h1⟩, r2, r4 h.al, fun c => (by cases c), fun d c => by cases c; exact r6⟩
  show due0.rows ++ [_] = _;rw [h0]; rfl
 cases hd : dn.toBool
 ·rw [cF rfl, ifT (by omega)]
  exact R due dn dn h.dm hd
 ·rw [cT rfl];exact R Au (.bool false) (.bool false) rfl rfl
theorem Sk {hp : D} {b : Bool} {o : Option Int} {now : Int} (h : CK due dn hp b o) (hl : len hp < 1000) :
  ∃ (dn' hp' due' : D) (b' : Bool), FO (.int now) due dn hp (.bool b) = .row [.int 1, .int now, dn', hp', .bool b', due'] ∧ len hp' = len hp ∧ CK due' dn' hp' b' o := by
 have g : ∃ (hp' : D) (b' : Bool), JO hp (.bool b) = .row [.int 1, hp', .bool b'] ∧ len hp' = len hp ∧ Wd hp' 2 ∧ Eh hp' ∧ (b' = true → len hp' = 0) ∧ ∀ x y, In2 hp x y → In2 hp' x y := by
  rw [fL];cases b with
  | true =>
   have n := h.nl rfl;exact ⟨Ar, true, rfl, by rw [n]; rfl, HK, fun j hj => by rw [BZ] at hj; omega, fun _ => rfl, fun x y ⟨j, hj, _⟩ => by omega⟩
  | false =>
   rw [cF rfl, ifT (by omega)]
   exact ⟨ct Au hp, false, rfl, rfl, h.wd, h.al, (fun c => by cases c), fun x y q => q⟩
 obtain ⟨hp', b', g1, g2, g3, g4, g5, g6⟩ := g;rw [f5];simp only [g1, AY, AX, Aw, decide_true, cond_true];cases hd : dn.toBool
 ·exact ⟨.bool false, hp', due, b', rfl, g2, by
   cases o with
   | none => exact h.dm
   | some d => exact ⟨h.dm.1, rfl⟩, g3, g4, g5, fun d c => g6 _ _ (h.inn d c)⟩
 ·refine ⟨.bool true, hp', Au, b', rfl, g2, ?_, g3, g4, g5, fun d c => g6 _ _ (h.inn d c)⟩
  cases o with
  | none => rfl
  | some d => have := h.dm.2; rw [hd] at this; cases this
end
end Mp

