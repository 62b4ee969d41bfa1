/- What is proved: what the plain functions over data say, whose trees the text before writes out: the law MachineOwns answers true. Conditions: those that each theorem states. -/
import Derived.Test.YthkffgljlhjggaaGreatMachineOwnsTree
set_option linter.unusedVariables false
set_option linter.unusedSectionVars false
set_option linter.unusedSimpArgs false
namespace Go.AE
section
variable [Ap]
def atV (Ts : List (List (Tr Plf))) (xs : List D) : Val := HX (Al Ts) xs
def fin (Ts : List (List (Tr Plf))) (k : Nat) (V : Val) : Plf → D
 | .stuck => .row []
 | .done s cs => .row (.int (s + 1 : Nat) :: cs.map (Ab V))
 | .next j θ => Al Ts k (.row (.int j :: θ.map (Ab V)))
def Rh (Ts : List (List (Tr Plf))) (k : Nat) (V : Val) (t : Tr Plf) : D := fin Ts k V (t.get V)
theorem kW {Ts : List (List (Tr Plf))} (h : DI 0 Ts = true) {k p : Nat} {T : List (Tr Plf)} {t : Tr Plf} {xs : List D} (hk : Ts[k]? = some T) (hp : T[p]? = some t) :
  Al Ts k (.row (.int (p : Nat) :: xs)) = Rh Ts k (atV Ts xs) t := by
 have hd : Bw T (Al Ts) (.row (.int (p : Nat) :: xs)) = Cc (atV Ts xs) (t.get (atV Ts xs)) := by
  show (match T[p]? with | some t => Cc _ (t.get _) | none => none) = _
  rw [hp];rfl
 unfold Rh fin;split
 ·rename_i e;rw [e] at hd;rw [Am h hk];rcases Ea (Bw T (Al Ts)) (.row (.int (p : Nat) :: xs)) with q | ⟨n, q⟩
  ·exact q
  ·cases n with
   | zero => cases q
   | succ n =>
    simp only [Fl, hd] at q;cases q
 ·rename_i e;rw [e] at hd;rw [Am h hk];exact PN hd
 ·rename_i e;rw [e] at hd;rw [Am h hk, PB hd, ← Am h hk]
theorem PS {Ts : List (List (Tr Plf))} {k : Nat} {V : Val} {e : SB} {a b : Tr Plf} : Rh Ts k V (.split e a b) = if Af V e = true then Rh Ts k V a else Rh Ts k V b := by
 unfold Rh;rw [show (Tr.split e a b).get V = match Af V e with | true => a.get V | false => b.get V from rfl]
 cases Af V e <;> rfl
end
theorem AH {a : Int} (h : -9223372036854775808 ≤ a) (h' : a < 9223372036854775808) : IntKind.wrap .i64 a = a := by
 show (if (true && decide (a % (2 ^ 64 : Int) ≥ 2 ^ 63)) = true then a % (2 ^ 64 : Int) - 2 ^ 64 else a % (2 ^ 64 : Int)) = a
 split
 ·rename_i q;simp only [Bool.true_and, decide_eq_true_eq] at q;omega
 ·rename_i q;simp only [Bool.true_and, decide_eq_true_eq] at q;omega
def len (d : D) : Nat := d.rows.length
def A5 (d : D) : Nat := d.toStr.data.toList.length
def cl (a : D) (i : Int) (j : Nat) : D := (a.rows.getD i.toNat default).cells.getD j default
def sl (a : D) (j : Nat) : D := a.cells.getD j default
def AB : D := .slc true []
def Ag : D := .slc false []
def ad (a r : D) : D := .slc false (a.rows ++ [r])
def upd (a : D) (i : Int) (j : Nat) (x : D) : D := .slc a.isNil (a.rows.modify i.toNat fun r => .row (r.cells.set j x))
def ct (a b : D) : D := .slc (a.isNil && b.rows.isEmpty) (a.rows ++ b.rows)
def sb (a : D) (lo hi : Int) : D := .slc a.isNil ((a.rows.drop lo.toNat).take (hi.toNat - lo.toNat))
def ni (a : D) (b : Bool) : D := .slc b a.rows
def Db (l b : Nat) : D := .str ⟨(C0 l b).toArray⟩
def XI (a b : D) : D := .str (a.toStr ++ b.toStr)
def OH (a : D) : D := .slc false (a.toStr.data.toList.map fun b => .row [.int b.toNat])
def mIx (ks : List Kd) (a k : D) : Int := Hc ks k.cells a.rows 0
def JU (a : D) (i : Int) : D := .slc a.isNil (a.rows.eraseIdx i.toNat)
def sAt (a : D) (i : Int) : Int := ((a.toStr.data.toList[i.toNat]?).getD 0).toNat
def eqC (a : D) (l b : Nat) : Bool := strEq a.toStr.data.toList.length (AC a.toStr.data.toList) l b
def ari (op : BinOp) (k : IntKind) (x y : Int) : Int := match Di op k x y with
 | some (.int _ n) => n
 | _ => 0
theorem ifT {α : Type} {p : Prop} [Decidable p] {a b : α} (h : p) : cond (decide p) a b = a := by rw [decide_eq_true h]; rfl
theorem ifF {α : Type} {p : Prop} [Decidable p] {a b : α} (h : ¬ p) : cond (decide p) a b = b := by rw [decide_eq_false h]; rfl
theorem cT {α : Type} {c : Bool} {a b : α} (h : c = true) : cond c a b = a := by rw [h]; rfl
theorem cF {α : Type} {c : Bool} {a b : α} (h : c = false) : cond c a b = b := by rw [h]; rfl
section
variable [Ap]
def DX (Ts : List (List (Tr Plf))) (k : Nat) (V : Val) : Tr Plf → D
 | .leaf l => fin Ts k V l
 | .split e a b => cond (Af V e) (DX Ts k V a) (DX Ts k V b)
theorem IH {Ts : List (List (Tr Plf))} {k : Nat} {V : Val} : ∀ t : Tr Plf, Rh Ts k V t = DX Ts k V t
 | .leaf l => rfl
 | .split e a b => by
  rw [PS, IH a, IH b, DX];cases Af V e <;> rfl
theorem Y8 {Ts : List (List (Tr Plf))} (h : DI 0 Ts = true) {k p : Nat} {T : List (Tr Plf)} {t : Tr Plf} {xs : List D} (hk : Ts[k]? = some T) (hp : T[p]? = some t) :
  Al Ts k (.row (.int (p : Nat) :: xs)) = DX Ts k (atV Ts xs) t := (kW h hk hp).trans (IH t)
theorem cg {Ts : List (List (Tr Plf))} {k : Nat} {V : Val} {e : SB} {a b : Tr Plf} {c : Bool} {x y : D} (h : Af V e = c) (ha : DX Ts k V a = x) (hb : DX Ts k V b = y) : DX Ts k V (.split e a b) = cond c x y := by
 rw [DX, h, ha, hb]
end
theorem lE {V : Val} {a b : SE} {x y : Int} (h : (Ab V a).toInt = x) (h' : (Ab V b).toInt = y) : Af V (.lss a b) = decide (x < y) := by rw [← h, ← h']; rfl
theorem qE {V : Val} {a b : SE} {x y : Int} (h : (Ab V a).toInt = x) (h' : (Ab V b).toInt = y) : Af V (.eql a b) = decide (x = y) := by rw [← h, ← h']; rfl
section
variable [Ap]
theorem cL {Ts : List (List (Tr Plf))} {k : Nat} {V : Val} {e f : SE} {a b : Tr Plf} {m n : Int} {x y : D} (ha : DX Ts k V a = x) (hb : DX Ts k V b = y) (h : (Ab V e).toInt = m := by rfl) (h' : (Ab V f).toInt = n := by rfl) : DX Ts k V (.split (.lss e f) a b) = cond (decide (m < n)) x y := cg (lE h h') ha hb
theorem cQ {Ts : List (List (Tr Plf))} {k : Nat} {V : Val} {e f : SE} {a b : Tr Plf} {m n : Int} {x y : D} (ha : DX Ts k V a = x) (hb : DX Ts k V b = y) (h : (Ab V e).toInt = m := by rfl) (h' : (Ab V f).toInt = n := by rfl) : DX Ts k V (.split (.eql e f) a b) = cond (decide (m = n)) x y := cg (qE h h') ha hb
end
theorem aE {V : Val} {a b : SE} {x y : Bool} (h : Af V a = x) (h' : Af V b = y) : Af V (.and a b) = (x && y) := by rw [← h, ← h']; rfl
theorem nE {V : Val} {a : SE} {x : Bool} (h : Af V a = x) : Af V (.neg a) = (!x) := by rw [← h]; rfl
def Wd (a : D) (n : Nat) : Prop := ∀ r ∈ a.rows, ∃ cs, r = .row cs ∧ cs.length = n
theorem A8 {a x : D} {i : Int} {j : Nat} : len (upd a i j x) = len a := by
 show (a.rows.modify _ _).length = _;simp [len]
theorem B0 {a r : D} : len (ad a r) = len a + 1 := by
 show (a.rows ++ [r]).length = _;simp [len]
theorem BX : len AB = 0 := rfl
theorem NO {a : D} {b : Bool} : len (ni a b) = len a := rfl
theorem V0 {a : D} {lo hi : Int} (h : lo.toNat ≤ hi.toNat) (h' : hi.toNat ≤ len a) : len (sb a lo hi) = hi.toNat - lo.toNat := by
 show ((a.rows.drop _).take _).length = _;have : hi.toNat ≤ a.rows.length := h';simp;omega
theorem AY {x : D} {l : List D} : sl (.row (x :: l)) 0 = x := rfl
theorem AX {x : D} {l : List D} {n : Nat} : sl (.row (x :: l)) (n + 1) = sl (.row l) n := rfl
theorem Av {n : Int} : (D.int n).toInt = n := rfl
theorem AJ {b : Bool} : (D.bool b).toBool = b := rfl
theorem Ix {n : Nat} : Wd AB n := fun r hr => (by cases hr)
theorem Ve {a : D} {cs : List D} {n : Nat} (h : Wd a n) (hc : cs.length = n) : Wd (ad a (.row cs)) n := by
 intro r hr;have hr : r ∈ a.rows ++ [.row cs] := hr;rcases List.mem_append.1 hr with q | q
 ·exact h r q
 ·exact ⟨cs, List.mem_singleton.1 q, hc⟩
theorem Er {a x : D} {i : Int} {j n : Nat} (h : Wd a n) : Wd (upd a i j x) n := by
 intro r hr;have hr' : r ∈ a.rows.modify i.toNat fun r => .row (r.cells.set j x) := hr
 obtain ⟨k, hk, e⟩ := List.getElem_of_mem hr';rw [List.getElem_modify] at e;have hk' : k < a.rows.length := by simpa using hk
 obtain ⟨cs, hc, hn⟩ := h _ (List.getElem_mem hk');split at e
 ·rw [hc] at e;exact ⟨_, e.symm, by simp [D.cells, hn]⟩
 ·exact ⟨cs, by rw [← e]; exact hc, hn⟩
theorem EV {a x : D} {i k : Int} {j j' n : Nat} (h : Wd a n) (hj : j < n) (hi : 0 ≤ i) (hi' : i < len a) (hk : 0 ≤ k) : cl (upd a i j x) k j' = if k = i ∧ j' = j then x else cl a k j' := by
 have hi2 : i.toNat < a.rows.length := by have : len a = a.rows.length := rfl; omega
 show ((a.rows.modify i.toNat fun r => D.row (r.cells.set j x))[k.toNat]?.getD default).cells.getD j' default = _
 rw [List.getElem?_modify];by_cases q : k = i
 ·subst q;obtain ⟨cs, hc, hn⟩ := h _ (List.getElem_mem hi2);rw [List.getElem?_eq_getElem hi2];show ((if k.toNat = k.toNat then D.row ((a.rows[k.toNat]).cells.set j x) else a.rows[k.toNat]).cells[j']?).getD default = _
  rw [if_pos rfl, hc];show ((cs.set j x)[j']?).getD default = _;rw [List.getElem?_set];by_cases q' : j = j'
  ·subst q';rw [if_pos rfl, if_pos (by omega), if_pos ⟨rfl, rfl⟩]
   rfl
  ·rw [if_neg q', if_neg (fun c => q' c.2.symm)]
   show _ = (a.rows[k.toNat]?.getD default).cells.getD j' default;rw [List.getElem?_eq_getElem hi2, Option.getD_some, hc];rfl
 ·have q2 : ¬ i.toNat = k.toNat := by omega
  rw [if_neg (fun c => q c.1)]
  simp [q2, cl]
theorem Dh {a r : D} {k : Int} {j : Nat} (hk : 0 ≤ k) : cl (ad a r) k j = if k = len a then sl r j else cl a k j := by
 have hl : len a = a.rows.length := rfl;show ((a.rows ++ [r])[k.toNat]?.getD default).cells.getD j default = _;by_cases q : k.toNat < a.rows.length
 ·rw [List.getElem?_append_left q, if_neg (by omega)]
  rfl
 ·by_cases q' : k = len a
  ·subst q';rw [if_pos rfl];have : ((len a : Int)).toNat = a.rows.length := by omega
   rw [this];simp [sl]
  ·rw [if_neg q', List.getElem?_eq_none (by simp; omega)]
   show _ = (a.rows[k.toNat]?.getD default).cells.getD j default;rw [List.getElem?_eq_none (by omega)]
theorem Vp {a : D} {b : Bool} {k : Int} {j : Nat} : cl (ni a b) k j = cl a k j := rfl
theorem Vx {P : Program} {ts : List TypeId} {xs : List D} {ks : List Kd} (h : HY P ts xs) (hk : AM (Env.of P) ts = some ks) : ks.length = xs.length ∧ LD (Env.of P).kinds 9 ks xs := by
 obtain ⟨ks', cs, M, e, hd, _, hc⟩ := h;rw [hk] at e;cases e;exact ⟨hd.len.2, hc⟩
theorem aD {x c : Int} {l : List D} (h : x ≠ c) : ¬ (sl (.row (.int x :: l)) 0).toInt = c := h
theorem FH.cell {K : TypeId → Option (List Kd)} {m j : Nat} {e : TypeId} {ks : List Kd} {kd : Kd} {d : D} {i : Int} (h : FH K (m + 1) (.slice e) d) (hk : K e = some ks) (h0 : 0 ≤ i) (hi : i < len d) (hj : ks[j]? = some kd) : FH K m kd (cl d i j) := by
 obtain ⟨nl, rows, rfl, _, q⟩ := h;have hi' : i.toNat < rows.length := by have : len (.slc nl rows) = rows.length := rfl; omega
 obtain ⟨cs, e1, _, e3⟩ := q ks hk _ (List.getElem_mem hi');show FH K m kd ((rows[i.toNat]?.getD default).cells.getD j default);rw [List.getElem?_eq_getElem hi', Option.getD_some, e1];exact e3 j kd hj
theorem FH.toI {K : TypeId → Option (List Kd)} {m : Nat} {k : IntKind} {d : D} (h : FH K m (.int k) d) : ∃ n, d = .int n := by cases m <;> exact h
theorem FH.toB {K : TypeId → Option (List Kd)} {m : Nat} {d : D} (h : FH K m .bool d) : ∃ b, d = .bool b := by cases m <;> exact h
theorem FH.wd {K : TypeId → Option (List Kd)} {m : Nat} {e : TypeId} {ks : List Kd} {d : D} (h : FH K (m + 1) (.slice e) d) (hk : K e = some ks) : Wd d ks.length := by
 obtain ⟨nl, rows, rfl, _, q⟩ := h;intro r hr;obtain ⟨cs, e1, e2, _⟩ := q ks hk r hr;exact ⟨cs, e1, e2⟩
def fdG (p : Nat → Bool) : Nat → Nat → Int
 | 0, _ => -1
 | k + 1, i => cond (p i) (i : Int) (fdG p k (i + 1))
theorem LJ {p : Nat → Bool} : ∀ {k i : Nat}, fdG p k i < i + k
 | 0, i => by show (-1 : Int) < _; omega
 | k + 1, i => by
  rw [fdG];have := LJ (p := p) (k := k) (i := i + 1);cases p i
  ·show fdG p k (i + 1) < _; omega
  ·show (i : Int) < _; omega
theorem Oh {p : Nat → Bool} : ∀ {k i : Nat}, fdG p k i = -1 ∨ (i : Int) ≤ fdG p k i
 | 0, i => .inl rfl
 | k + 1, i => by
  rw [fdG];cases p i
  ·show fdG p k (i + 1) = _ ∨ _ ≤ fdG p k (i + 1);rcases Oh (p := p) (k := k) (i := i + 1) with h | h
   ·exact .inl h
   ·exact .inr (by omega)
  ·exact .inr (Int.le_refl _)
theorem Nq {p : Nat → Bool} : ∀ {k i : Nat}, 0 ≤ fdG p k i → p (fdG p k i).toNat = true
 | 0, i => fun h => by simp [fdG] at h
 | k + 1, i => by
  rw [fdG];cases q : p i
  ·exact Nq (k := k)
  ·intro _;show p i = true;exact q
theorem Qg {p : Nat → Bool} : ∀ {k i j : Nat}, i ≤ j → j < i + k → p j = true → 0 ≤ fdG p k i ∧ fdG p k i ≤ j
 | 0, i, j => fun h h' => by omega
 | k + 1, i, j => by
  intro h h' hp;rw [fdG];cases q : p i
  ·have : i ≠ j := fun c => by rw [c, hp] at q; cases q
   exact Qg (k := k) (by omega) (by omega) hp
  ·show 0 ≤ (i : Int) ∧ (i : Int) ≤ j; omega
theorem NJ {p : Nat → Bool} {k i j : Nat} (h : i ≤ j) (h' : (j : Int) < fdG p k i ∨ (fdG p k i < 0 ∧ j < i + k)) : p j = false := by
 cases q : p j
 ·rfl
 ·have := LJ (p := p) (k := k) (i := i);have := Qg (p := p) (k := k) h (by omega) q
  omega
theorem W2 {p : Nat → Bool} {k i : Nat} (h : ∀ j, i ≤ j → j < i + k → p j = false) : fdG p k i = -1 := by
 rcases Oh (p := p) (k := k) (i := i) with q | q
 ·exact q
 ·have a := Nq (p := p) (k := k) (i := i) (by omega)
  rw [h _ (by omega) (by have := LJ (p := p) (k := k) (i := i); omega)] at a
  cases a
theorem IV {p q : Nat → Bool} : ∀ {k i : Nat}, (∀ j, i ≤ j → j < i + k → p j = q j) → fdG p k i = fdG q k i
 | 0, i, h => rfl
 | k + 1, i, h => by
  rw [fdG, fdG, h i (Nat.le_refl _) (by omega), IV fun j a b => h j (by omega) (by omega)]
theorem Yl {F : Nat → D} {bad : Nat → Bool} {B : Nat → D} {n : Nat} : ∀ {k i : Nat}, i + k = n → (∀ j, i ≤ j → j < n → F j = cond (bad j) (B j) (F (j + 1))) → F i = cond (decide (fdG bad k i < 0)) (F n) (B (fdG bad k i).toNat)
 | 0, i => fun h _ => by
  have : i = n := by omega
  subst this;rfl
 | k + 1, i => fun h hs => by
  rw [hs i (Nat.le_refl _) (by omega), fdG]
  cases bad i
  ·exact Yl (by omega) fun j a b => hs j (by omega) b
  ·show B i = cond (decide ((i : Int) < 0)) _ (B (i : Int).toNat);rw [ifF (by omega)]
   rfl
theorem K4 {F : Nat → D} {bad : Nat → Bool} {B : Nat → D} {n : Nat} (hs : ∀ j, j < n → F j = cond (bad j) (B j) (F (j + 1))) : F 0 = cond (decide (fdG bad n 0 < 0)) (F n) (B (fdG bad n 0).toNat) := Yl (by omega) fun j _ b => hs j b
theorem find {F : Nat → D} {bad : Nat → Bool} {n : Nat} (hs : ∀ j, j < n → F j = cond (bad j) (.row [.int 1, .int (j : Nat)]) (F (j + 1))) (hr : F n = .row [.int 1, .int (-1)]) : F 0 = .row [.int 1, .int (fdG bad n 0)] := by
 rw [K4 hs, hr];have h := Oh (p := bad) (k := n) (i := 0);by_cases q : fdG bad n 0 < 0
 ·rw [ifT q];rcases h with h | h
  ·rw [h]
  ·omega
 ·rw [ifF q];have : ((fdG bad n 0).toNat : Int) = fdG bad n 0 := by omega
  rw [this]
theorem Bf {i : Nat} (h : i < 4611686018427387904) : IntKind.wrap .i64 ((i : Int) + 1) = ((i + 1 : Nat) : Int) := by rw [AH (by omega) (by omega)]; omega
theorem KN {α : Type} {c : Bool} {a b x : α} (h1 : c = true → a = x) (h2 : c = false → b = x) : cond c a b = x := by
 cases c
 ·exact h2 rfl
 ·exact h1 rfl
theorem dT {p : Prop} [Decidable p] (h : decide p = true) : p := of_decide_eq_true h
theorem dF {p : Prop} [Decidable p] (h : decide p = false) : ¬ p := of_decide_eq_false h
theorem RD {x y : Int} : decide (x = y) = decide (y = x) := decide_eq_decide.2 eq_comm
theorem CY {a : D} : D.strEq a a = true := by
 show (Nat.beq _ _ && Nat.beq _ _) = true;simp
theorem BC {a b : D} : D.strEq a b = D.strEq b a := Mt (U := GE) _ _ _ _
theorem Ed {a : D} : eqC a 0 0 = decide (A5 a = 0) := by
 show (Nat.beq _ 0 && Nat.beq _ 0) = _;show _ = decide (a.toStr.data.toList.length = 0);cases a.toStr.data.toList <;> simp [AC]
theorem Uq {a b : D} : A5 (XI a b) = A5 a + A5 b := by
 show (a.toStr ++ b.toStr).data.toList.length = _;simp [A5]
theorem Rj {a b : D} : eqC (XI a b) 0 0 = (eqC a 0 0 && eqC b 0 0) := by
 rw [Ed, Ed, Ed, Uq, Bool.eq_iff_iff];simp
theorem Ee {a b : D} : D.strEq a b = true ↔ a.toStr = b.toStr := by
 show AE.strEq _ _ _ _ = true ↔ _;rw [Ca (U := GE)];constructor
 ·intro h;rw [ByteArray.toList_eq, ByteArray.toList_eq] at h;have : a.toStr.data.toList = b.toStr.data.toList := by simpa only [beq_iff_eq] using h
  exact ByteArray.ext (Array.toList_inj.1 this)
 ·intro h;rw [h];simp
theorem NE {a b c : D} (h : D.strEq a b = true) (h' : D.strEq b c = true) : D.strEq a c = true := Ee.2 ((Ee.1 h).trans (Ee.1 h'))
theorem Iu {a b c : D} (h : D.strEq a b = true) : D.strEq a c = D.strEq b c := by
 show AE.strEq _ _ _ _ = AE.strEq _ _ _ _;rw [Ee.1 h]
theorem Lz {a : D} {i : Nat} {j c : Nat} (hi : i ≤ len a) (hj : j < i) : cl (sb a 0 i) j c = cl a j c := by
 have hi' : i ≤ a.rows.length := hi;show (((a.rows.drop 0).take (i - 0)).getD j default).cells.getD c default = (a.rows.getD j default).cells.getD c default;rw [List.getD_eq_getElem?_getD, List.getD_eq_getElem?_getD, List.getElem?_take];simp [hj]
theorem ShK.cell {K : TypeId → Option (List Kd)} {o : Option Nat} {m j : Nat} {e : TypeId} {ks : List Kd} {kd : Kd} {d : D} {i : Nat} (h : ShK K o (m + 1) (.slice e) d) (hk : K e = some ks) (hi : i < len d) (hj : ks[j]? = some kd) : ShK K o m kd (cl d i j) := h.2 ks hk i hi j kd hj
theorem ShK.rows {K : TypeId → Option (List Kd)} {b m : Nat} {e : TypeId} {d : D} (h : ShK K (some b) (m + 1) (.slice e) d) : len d ≤ b := h.1 b rfl
theorem ShK.text {K : TypeId → Option (List Kd)} {b m : Nat} {d : D} (h : ShK K (some b) m .str d) : A5 d ≤ b := by
 have : leB (some b) (A5 d) := by cases m <;> exact h
 exact this b rfl
end Go.AE
set_option maxRecDepth 100000
namespace Mo
open Go Go.AE
theorem lt : DI 0 ts = true := by decide
theorem gw [Ap] {k p : Nat} {T : List (Tr Plf)} {t : Tr Plf} {xs : List D} {x : D} (hk : ts[k]? = some T) (hp : T[p]? = some t) (h : DX ts k (atV ts xs) t = x) : Al ts k (.row (.int (p : Nat) :: xs)) = x := (Y8 lt hk hp).trans h
section
variable [Ap]
def U8 (v0 v1 v2 v3 : D) : D := Al ts 0 (.row [.int (0 : Nat), v0, v1, v2, v3])
def We (v0 v1 v2 v3 v4 : D) : D := Al ts 0 (.row [.int (1 : Nat), v0, v1, v2, v3, v4])
def SV (v0 v1 v2 v3 v4 : D) : D := Al ts 0 (.row [.int (2 : Nat), v0, v1, v2, v3, v4])
def S4 (v0 v1 v2 v3 v4 : D) : D := Al ts 0 (.row [.int (3 : Nat), v0, v1, v2, v3, v4])
def Lr : D := Al ts 1 (.row [.int (0 : Nat)])
def FX (v0 : D) : D := Al ts 2 (.row [.int (0 : Nat), v0])
def PQ (v0 v1 v2 : D) : D := Al ts 2 (.row [.int (1 : Nat), v0, v1, v2])
def Vs (v0 v1 : D) : D := Al ts 3 (.row [.int (0 : Nat), v0, v1])
def Wu (v0 v1 v2 : D) : D := Al ts 3 (.row [.int (1 : Nat), v0, v1, v2])
def UE (v0 v1 v2 v3 v4 v5 v6 : D) : D := Al ts 4 (.row [.int (0 : Nat), v0, v1, v2, v3, v4, v5, v6])
def Ta (v0 v1 v2 v3 v4 v5 : D) : D := Al ts 4 (.row [.int (1 : Nat), v0, v1, v2, v3, v4, v5])
def Jb (v0 v1 : D) : D := Al ts 5 (.row [.int (0 : Nat), v0, v1])
def XN (v0 v1 v2 : D) : D := Al ts 5 (.row [.int (1 : Nat), v0, v1, v2])
def T1 (v0 v1 v2 v3 v4 v5 v6 : D) : D := Al ts 6 (.row [.int (0 : Nat), v0, v1, v2, v3, v4, v5, v6])
def TP (v0 v1 v2 v3 v4 v5 : D) : D := Al ts 6 (.row [.int (1 : Nat), v0, v1, v2, v3, v4, v5])
def ZE (v0 v1 v2 v3 v4 v5 v6 v7 v8 v9 : D) : D := Al ts 7 (.row [.int (0 : Nat), v0, v1, v2, v3, v4, v5, v6, v7, v8, v9])
def TO (v0 v1 v2 v3 v4 v5 v6 v7 v8 v9 v10 : D) : D := Al ts 7 (.row [.int (1 : Nat), v0, v1, v2, v3, v4, v5, v6, v7, v8, v9, v10])
def Up (v0 v1 v2 v3 v4 v5 v6 : D) : D := Al ts 8 (.row [.int (0 : Nat), v0, v1, v2, v3, v4, v5, v6])
def Hi (v0 v1 v2 v3 v4 v5 : D) : D := Al ts 8 (.row [.int (1 : Nat), v0, v1, v2, v3, v4, v5])
def Wm (v0 v1 v2 v3 : D) : D := Al ts 9 (.row [.int (0 : Nat), v0, v1, v2, v3])
def DD (v0 v1 v2 : D) : D := Al ts 10 (.row [.int (0 : Nat), v0, v1, v2])
def SJ (v0 v1 v2 v3 : D) : D := Al ts 10 (.row [.int (1 : Nat), v0, v1, v2, v3])
def CB (v0 v1 : D) : D := Al ts 11 (.row [.int (0 : Nat), v0, v1])
def R1 (v0 v1 v2 v3 v4 : D) : D := Al ts 11 (.row [.int (1 : Nat), v0, v1, v2, v3, v4])
def B5 (v0 v1 : D) : D := Al ts 12 (.row [.int (0 : Nat), v0, v1])
def B6 (v0 v1 : D) : D := Al ts 13 (.row [.int (0 : Nat), v0, v1])
def A3 (v0 v1 : D) : D := Al ts 14 (.row [.int (0 : Nat), v0, v1])
def DQ (v0 v1 v2 : D) : D := Al ts 15 (.row [.int (0 : Nat), v0, v1, v2])
def OG (v0 v1 v2 v3 v4 v5 : D) : D := Al ts 15 (.row [.int (1 : Nat), v0, v1, v2, v3, v4, v5])
def Ha (v0 v1 v2 v3 v4 v5 : D) : D := Al ts 16 (.row [.int (0 : Nat), v0, v1, v2, v3, v4, v5])
def Ip (v0 v1 v2 v3 v4 v5 : D) : D := Al ts 17 (.row [.int (0 : Nat), v0, v1, v2, v3, v4, v5])
def EJ (v0 v1 v2 v3 v4 v5 v6 : D) : D := Al ts 19 (.row [.int (0 : Nat), v0, v1, v2, v3, v4, v5, v6])
def JN (v0 v1 v2 v3 v4 v5 : D) : D := Al ts 19 (.row [.int (1 : Nat), v0, v1, v2, v3, v4, v5])
def Lw (v0 v1 v2 v3 v4 v5 v6 : D) : D := Al ts 20 (.row [.int (0 : Nat), v0, v1, v2, v3, v4, v5, v6])
def De (v0 v1 v2 v3 v4 v5 v6 v7 v8 v9 v10 v11 v12 v13 v14 v15 v16 v17 v18 v19 v20 : D) : D := Al ts 21 (.row [.int (0 : Nat), v0, v1, v2, v3, v4, v5, v6, v7, v8, v9, v10, v11, v12, v13, v14, v15, v16, v17, v18, v19, v20])
def B4 (v0 v1 v2 v3 v4 v5 v6 : D) : D := Al ts 22 (.row [.int (0 : Nat), v0, v1, v2, v3, v4, v5, v6])
def Dg (v0 : D) : D := Al ts 23 (.row [.int (0 : Nat), v0])
def JC (v0 v1 : D) : D := Al ts 23 (.row [.int (1 : Nat), v0, v1])
def H8 (v0 v1 v2 v3 v4 : D) : D := Al ts 24 (.row [.int (0 : Nat), v0, v1, v2, v3, v4])
def SK (v0 v1 v2 v3 v4 v5 : D) : D := Al ts 24 (.row [.int (1 : Nat), v0, v1, v2, v3, v4, v5])
def G2 (v0 v1 v2 v3 v4 : D) : D := Al ts 25 (.row [.int (0 : Nat), v0, v1, v2, v3, v4])
def St (v0 v1 v2 v3 v4 v5 : D) : D := Al ts 25 (.row [.int (1 : Nat), v0, v1, v2, v3, v4, v5])
def SN (v0 v1 v2 v3 v4 : D) : D := Al ts 26 (.row [.int (0 : Nat), v0, v1, v2, v3, v4])
def FO (v0 v1 v2 v3 v4 v5 v6 v7 v8 v9 v10 v11 v12 v13 v14 v15 : D) : D := Al ts 26 (.row [.int (1 : Nat), v0, v1, v2, v3, v4, v5, v6, v7, v8, v9, v10, v11, v12, v13, v14, v15])
def PE (v0 v1 v2 v3 : D) : D := Al ts 27 (.row [.int (0 : Nat), v0, v1, v2, v3])
def JB (v0 v1 v2 v3 v4 : D) : D := Al ts 27 (.row [.int (1 : Nat), v0, v1, v2, v3, v4])
def JK (v0 v1 v2 v3 v4 : D) : D := Al ts 27 (.row [.int (2 : Nat), v0, v1, v2, v3, v4])
def Ju (v0 v1 v2 v3 v4 : D) : D := Al ts 27 (.row [.int (3 : Nat), v0, v1, v2, v3, v4])
def PO (v0 : D) : D := Al ts 28 (.row [.int (0 : Nat), v0])
def OY (v0 v1 v2 v3 v4 v5 : D) : D := Al ts 28 (.row [.int (1 : Nat), v0, v1, v2, v3, v4, v5])
def SL (v0 v1 v2 v3 v4 v5 v6 : D) : D := Al ts 28 (.row [.int (2 : Nat), v0, v1, v2, v3, v4, v5, v6])
def DN (v0 v1 v2 v3 : D) : D := Al ts 29 (.row [.int (0 : Nat), v0, v1, v2, v3])
def C3 (v0 v1 v2 v3 v4 v5 v6 v7 v8 v9 v10 v11 v12 v13 v14 v15 v16 v17 v18 v19 : D) : D := Al ts 30 (.row [.int (0 : Nat), v0, v1, v2, v3, v4, v5, v6, v7, v8, v9, v10, v11, v12, v13, v14, v15, v16, v17, v18, v19])
def Ry (v0 v1 v2 v3 v4 v5 v6 v7 : D) : D := Al ts 31 (.row [.int (0 : Nat), v0, v1, v2, v3, v4, v5, v6, v7])
def Rz (v0 v1 v2 v3 v4 v5 v6 v7 v8 : D) : D := Al ts 31 (.row [.int (1 : Nat), v0, v1, v2, v3, v4, v5, v6, v7, v8])
def SM (v0 v1 v2 v3 v4 v5 v6 v7 v8 : D) : D := Al ts 31 (.row [.int (2 : Nat), v0, v1, v2, v3, v4, v5, v6, v7, v8])
def RP (v0 v1 v2 v3 v4 v5 v6 v7 v8 : D) : D := Al ts 31 (.row [.int (3 : Nat), v0, v1, v2, v3, v4, v5, v6, v7, v8])
def Jo (v0 v1 : D) : D := Al ts 33 (.row [.int (0 : Nat), v0, v1])
def FQ (v0 v1 v2 v3 v4 : D) : D := Al ts 34 (.row [.int (0 : Nat), v0, v1, v2, v3, v4])
def FZ (v0 v1 v2 v3 v4 : D) : D := Al ts 35 (.row [.int (0 : Nat), v0, v1, v2, v3, v4])
def Sb (v0 v1 v2 v3 v4 v5 v6 : D) : D := Al ts 35 (.row [.int (1 : Nat), v0, v1, v2, v3, v4, v5, v6])
def By (v0 v1 v2 v3 v4 v5 v6 v7 v8 v9 v10 : D) : D := Al ts 35 (.row [.int (2 : Nat), v0, v1, v2, v3, v4, v5, v6, v7, v8, v9, v10])
def Br (v0 v1 v2 v3 v4 : D) : D := Al ts 36 (.row [.int (0 : Nat), v0, v1, v2, v3, v4])
def JH (v0 v1 v2 v3 v4 : D) : D := Al ts 36 (.row [.int (1 : Nat), v0, v1, v2, v3, v4])
def K0 (v0 v1 v2 v3 v4 v5 : D) : D := Al ts 37 (.row [.int (0 : Nat), v0, v1, v2, v3, v4, v5])
def LN (v0 v1 v2 v3 v4 v5 v6 v7 v8 v9 : D) : D := Al ts 37 (.row [.int (1 : Nat), v0, v1, v2, v3, v4, v5, v6, v7, v8, v9])
def FqQ (v0 v1 v2 : D) : D := Al ts 38 (.row [.int (0 : Nat), v0, v1, v2])
def FN (v0 v1 v2 v3 v4 v5 v6 v7 v8 v9 v10 : D) : D := Al ts 39 (.row [.int (0 : Nat), v0, v1, v2, v3, v4, v5, v6, v7, v8, v9, v10])
def RG (v0 v1 v2 v3 v4 v5 v6 v7 v8 v9 v10 v11 v12 v13 v14 v15 v16 v17 v18 v19 v20 v21 v22 v23 v24 v25 v26 v27 v28 v29 : D) : D := Al ts 40 (.row [.int (0 : Nat), v0, v1, v2, v3, v4, v5, v6, v7, v8, v9, v10, v11, v12, v13, v14, v15, v16, v17, v18, v19, v20, v21, v22, v23, v24, v25, v26, v27, v28, v29])
def K3 (v0 v1 v2 v3 v4 v5 v6 v7 v8 v9 v10 v11 v12 v13 v14 v15 v16 v17 v18 v19 v20 v21 v22 v23 v24 v25 v26 v27 v28 v29 v30 : D) : D := Al ts 40 (.row [.int (1 : Nat), v0, v1, v2, v3, v4, v5, v6, v7, v8, v9, v10, v11, v12, v13, v14, v15, v16, v17, v18, v19, v20, v21, v22, v23, v24, v25, v26, v27, v28, v29, v30])
def Le (v0 v1 v2 v3 v4 v5 v6 v7 v8 v9 v10 v11 v12 v13 v14 v15 v16 v17 v18 v19 v20 v21 v22 v23 v24 v25 : D) : D := Al ts 41 (.row [.int (0 : Nat), v0, v1, v2, v3, v4, v5, v6, v7, v8, v9, v10, v11, v12, v13, v14, v15, v16, v17, v18, v19, v20, v21, v22, v23, v24, v25])
def MI (v0 v1 v2 v3 v4 v5 v6 v7 v8 v9 v10 v11 v12 v13 v14 v15 v16 v17 v18 v19 v20 v21 v22 v23 v24 v25 v26 : D) : D := Al ts 41 (.row [.int (1 : Nat), v0, v1, v2, v3, v4, v5, v6, v7, v8, v9, v10, v11, v12, v13, v14, v15, v16, v17, v18, v19, v20, v21, v22, v23, v24, v25, v26])
def OE (v0 v1 v2 v3 v4 v5 v6 v7 v8 v9 v10 v11 v12 v13 v14 v15 v16 v17 v18 v19 v20 : D) : D := Al ts 42 (.row [.int (0 : Nat), v0, v1, v2, v3, v4, v5, v6, v7, v8, v9, v10, v11, v12, v13, v14, v15, v16, v17, v18, v19, v20])
def DU (v0 v1 v2 : D) : D := Al ts 43 (.row [.int (0 : Nat), v0, v1, v2])
def SF (v0 v1 v2 v3 : D) : D := Al ts 43 (.row [.int (1 : Nat), v0, v1, v2, v3])
def Jz (v0 v1 v2 v3 v4 v5 v6 v7 v8 v9 v10 : D) : D := Al ts 44 (.row [.int (0 : Nat), v0, v1, v2, v3, v4, v5, v6, v7, v8, v9, v10])
def Hb (v0 v1 v2 v3 v4 : D) : D := Al ts 45 (.row [.int (0 : Nat), v0, v1, v2, v3, v4])
def MN (v0 v1 v2 v3 v4 v5 : D) : D := Al ts 45 (.row [.int (1 : Nat), v0, v1, v2, v3, v4, v5])
def G5 (v0 v1 v2 v3 v4 v5 v6 v7 v8 v9 v10 v11 : D) : D := Al ts 46 (.row [.int (0 : Nat), v0, v1, v2, v3, v4, v5, v6, v7, v8, v9, v10, v11])
def Rn (v0 v1 v2 v3 v4 v5 v6 v7 v8 v9 v10 : D) : D := Al ts 47 (.row [.int (0 : Nat), v0, v1, v2, v3, v4, v5, v6, v7, v8, v9, v10])
def OF (v0 v1 v2 v3 v4 v5 v6 v7 v8 v9 v10 v11 v12 : D) : D := Al ts 47 (.row [.int (1 : Nat), v0, v1, v2, v3, v4, v5, v6, v7, v8, v9, v10, v11, v12])
def JL (v0 v1 v2 v3 : D) : D := Al ts 48 (.row [.int (0 : Nat), v0, v1, v2, v3])
def Rw (v0 v1 v2 v3 v4 : D) : D := Al ts 48 (.row [.int (1 : Nat), v0, v1, v2, v3, v4])
def Rr (v0 v1 v2 v3 v4 v5 v6 v7 v8 v9 v10 v11 v12 v13 v14 v15 v16 v17 v18 v19 v20 v21 v22 v23 v24 v25 v26 v27 v28 v29 : D) : D := Al ts 52 (.row [.int (0 : Nat), v0, v1, v2, v3, v4, v5, v6, v7, v8, v9, v10, v11, v12, v13, v14, v15, v16, v17, v18, v19, v20, v21, v22, v23, v24, v25, v26, v27, v28, v29])
def Ln (v0 v1 v2 v3 v4 v5 v6 v7 v8 v9 v10 v11 v12 v13 v14 v15 v16 v17 v18 v19 v20 v21 v22 v23 v24 v25 v26 v27 v28 v29 v30 : D) : D := Al ts 52 (.row [.int (1 : Nat), v0, v1, v2, v3, v4, v5, v6, v7, v8, v9, v10, v11, v12, v13, v14, v15, v16, v17, v18, v19, v20, v21, v22, v23, v24, v25, v26, v27, v28, v29, v30])
def Ru (v0 v1 v2 v3 v4 v5 v6 v7 v8 v9 v10 v11 v12 v13 v14 v15 v16 v17 v18 v19 v20 v21 : D) : D := Al ts 53 (.row [.int (0 : Nat), v0, v1, v2, v3, v4, v5, v6, v7, v8, v9, v10, v11, v12, v13, v14, v15, v16, v17, v18, v19, v20, v21])
def Mq (v0 v1 v2 v3 v4 v5 v6 v7 v8 v9 v10 v11 v12 v13 v14 v15 v16 v17 v18 v19 v20 v21 v22 v23 v24 : D) : D := Al ts 53 (.row [.int (1 : Nat), v0, v1, v2, v3, v4, v5, v6, v7, v8, v9, v10, v11, v12, v13, v14, v15, v16, v17, v18, v19, v20, v21, v22, v23, v24])
def On (v0 v1 v2 v3 v4 v5 v6 v7 v8 v9 v10 v11 v12 v13 v14 v15 v16 v17 v18 v19 : D) : D := Al ts 54 (.row [.int (0 : Nat), v0, v1, v2, v3, v4, v5, v6, v7, v8, v9, v10, v11, v12, v13, v14, v15, v16, v17, v18, v19])
def LM (v0 v1 v2 v3 v4 v5 v6 v7 v8 v9 : D) : D := Al ts 55 (.row [.int (0 : Nat), v0, v1, v2, v3, v4, v5, v6, v7, v8, v9])
def Ih (v0 v1 v2 v3 v4 v5 v6 v7 v8 v9 v10 v11 : D) : D := Al ts 55 (.row [.int (1 : Nat), v0, v1, v2, v3, v4, v5, v6, v7, v8, v9, v10, v11])
def Fd (v0 v1 : D) : D := Al ts 56 (.row [.int (0 : Nat), v0, v1])
def Pr (v0 v1 v2 v3 v4 v5 v6 v7 v8 v9 v10 v11 v12 v13 : D) : D := Al ts 57 (.row [.int (0 : Nat), v0, v1, v2, v3, v4, v5, v6, v7, v8, v9, v10, v11, v12, v13])
def SI (v0 v1 v2 v3 v4 v5 v6 v7 v8 v9 v10 v11 v12 v13 v14 : D) : D := Al ts 57 (.row [.int (1 : Nat), v0, v1, v2, v3, v4, v5, v6, v7, v8, v9, v10, v11, v12, v13, v14])
def Gs (v0 v1 v2 v3 v4 v5 v6 v7 v8 v9 v10 v11 v12 v13 v14 v15 v16 v17 v18 v19 v20 v21 v22 v23 v24 v25 v26 v27 v28 v29 : D) : D := Al ts 58 (.row [.int (0 : Nat), v0, v1, v2, v3, v4, v5, v6, v7, v8, v9, v10, v11, v12, v13, v14, v15, v16, v17, v18, v19, v20, v21, v22, v23, v24, v25, v26, v27, v28, v29])
def M8 (v0 v1 v2 v3 v4 v5 v6 v7 v8 v9 v10 v11 v12 v13 v14 v15 v16 v17 v18 v19 v20 v21 v22 v23 v24 v25 v26 v27 v28 v29 v30 : D) : D := Al ts 58 (.row [.int (1 : Nat), v0, v1, v2, v3, v4, v5, v6, v7, v8, v9, v10, v11, v12, v13, v14, v15, v16, v17, v18, v19, v20, v21, v22, v23, v24, v25, v26, v27, v28, v29, v30])
def La (v0 v1 v2 v3 v4 v5 v6 v7 v8 v9 v10 v11 v12 v13 v14 v15 v16 v17 v18 v19 v20 v21 v22 v23 v24 v25 v26 v27 v28 v29 v30 v31 v32 v33 v34 : D) : D := Al ts 59 (.row [.int (0 : Nat), v0, v1, v2, v3, v4, v5, v6, v7, v8, v9, v10, v11, v12, v13, v14, v15, v16, v17, v18, v19, v20, v21, v22, v23, v24, v25, v26, v27, v28, v29, v30, v31, v32, v33, v34])
def K2 (v0 v1 v2 v3 v4 v5 v6 v7 v8 v9 v10 v11 v12 v13 v14 v15 v16 v17 v18 v19 v20 v21 v22 v23 v24 v25 v26 v27 v28 v29 v30 v31 v32 v33 v34 v35 : D) : D := Al ts 59 (.row [.int (1 : Nat), v0, v1, v2, v3, v4, v5, v6, v7, v8, v9, v10, v11, v12, v13, v14, v15, v16, v17, v18, v19, v20, v21, v22, v23, v24, v25, v26, v27, v28, v29, v30, v31, v32, v33, v34, v35])
def E4 (v0 v1 v2 v3 v4 v5 v6 v7 v8 v9 v10 : D) : D := Al ts 60 (.row [.int (0 : Nat), v0, v1, v2, v3, v4, v5, v6, v7, v8, v9, v10])
def Ml (v0 v1 v2 v3 v4 v5 v6 v7 v8 v9 v10 v11 v12 v13 v14 v15 v16 v17 v18 v19 v20 v21 v22 v23 v24 v25 v26 v27 : D) : D := Al ts 61 (.row [.int (0 : Nat), v0, v1, v2, v3, v4, v5, v6, v7, v8, v9, v10, v11, v12, v13, v14, v15, v16, v17, v18, v19, v20, v21, v22, v23, v24, v25, v26, v27])
def Cw (v0 v1 v2 v3 v4 v5 v6 v7 v8 v9 v10 v11 v12 v13 v14 v15 v16 v17 v18 v19 v20 v21 : D) : D := Al ts 62 (.row [.int (0 : Nat), v0, v1, v2, v3, v4, v5, v6, v7, v8, v9, v10, v11, v12, v13, v14, v15, v16, v17, v18, v19, v20, v21])
def OZ (v0 v1 v2 v3 v4 v5 v6 v7 v8 v9 v10 : D) : D := Al ts 63 (.row [.int (0 : Nat), v0, v1, v2, v3, v4, v5, v6, v7, v8, v9, v10])
def Cr (v0 v1 v2 v3 v4 v5 v6 v7 v8 v9 v10 v11 : D) : D := Al ts 64 (.row [.int (0 : Nat), v0, v1, v2, v3, v4, v5, v6, v7, v8, v9, v10, v11])
def Lm (v0 v1 v2 v3 v4 v5 v6 v7 v8 v9 v10 v11 v12 v13 v14 v15 v16 v17 v18 v19 v20 v21 v22 v23 v24 v25 v26 v27 v28 v29 v30 v31 : D) : D := Al ts 65 (.row [.int (0 : Nat), v0, v1, v2, v3, v4, v5, v6, v7, v8, v9, v10, v11, v12, v13, v14, v15, v16, v17, v18, v19, v20, v21, v22, v23, v24, v25, v26, v27, v28, v29, v30, v31])
def HK (v0 v1 v2 v3 v4 v5 v6 v7 v8 v9 v10 v11 v12 v13 v14 v15 v16 v17 v18 v19 v20 v21 v22 v23 v24 v25 v26 v27 v28 v29 v30 v31 v32 : D) : D := Al ts 65 (.row [.int (1 : Nat), v0, v1, v2, v3, v4, v5, v6, v7, v8, v9, v10, v11, v12, v13, v14, v15, v16, v17, v18, v19, v20, v21, v22, v23, v24, v25, v26, v27, v28, v29, v30, v31, v32])
def M4 (v0 v1 v2 v3 v4 v5 v6 v7 v8 v9 v10 v11 v12 v13 v14 v15 v16 v17 v18 v19 v20 v21 v22 : D) : D := Al ts 66 (.row [.int (0 : Nat), v0, v1, v2, v3, v4, v5, v6, v7, v8, v9, v10, v11, v12, v13, v14, v15, v16, v17, v18, v19, v20, v21, v22])
def Mg (v0 v1 v2 v3 v4 v5 v6 v7 v8 v9 v10 v11 v12 : D) : D := Al ts 67 (.row [.int (0 : Nat), v0, v1, v2, v3, v4, v5, v6, v7, v8, v9, v10, v11, v12])
def Jw (v0 v1 v2 v3 v4 v5 v6 v7 v8 v9 v10 v11 v12 v13 : D) : D := Al ts 67 (.row [.int (1 : Nat), v0, v1, v2, v3, v4, v5, v6, v7, v8, v9, v10, v11, v12, v13])
def Ow (v0 v1 : D) : D := Al ts 68 (.row [.int (0 : Nat), v0, v1])
def Pi (v0 v1 : D) : D := Al ts 69 (.row [.int (0 : Nat), v0, v1])
def Wl (v0 v1 v2 v3 v4 v5 v6 v7 v8 v9 v10 v11 v12 v13 v14 v15 v16 v17 v18 v19 : D) : D := Al ts 70 (.row [.int (0 : Nat), v0, v1, v2, v3, v4, v5, v6, v7, v8, v9, v10, v11, v12, v13, v14, v15, v16, v17, v18, v19])
def Vv (v0 v1 v2 v3 v4 v5 v6 v7 v8 v9 v10 v11 v12 v13 v14 v15 v16 v17 v18 v19 v20 v21 v22 v23 v24 v25 v26 v27 v28 v29 v30 v31 v32 v33 v34 : D) : D := Al ts 71 (.row [.int (0 : Nat), v0, v1, v2, v3, v4, v5, v6, v7, v8, v9, v10, v11, v12, v13, v14, v15, v16, v17, v18, v19, v20, v21, v22, v23, v24, v25, v26, v27, v28, v29, v30, v31, v32, v33, v34])
def RQ (v0 v1 v2 v3 v4 v5 v6 v7 v8 v9 v10 v11 v12 v13 v14 v15 v16 v17 v18 v19 v20 v21 v22 v23 v24 v25 v26 v27 v28 v29 v30 v31 v32 v33 v34 v35 v36 v37 v38 v39 v40 v41 v42 v43 v44 v45 v46 v47 : D) : D := Al ts 71 (.row [.int (1 : Nat), v0, v1, v2, v3, v4, v5, v6, v7, v8, v9, v10, v11, v12, v13, v14, v15, v16, v17, v18, v19, v20, v21, v22, v23, v24, v25, v26, v27, v28, v29, v30, v31, v32, v33, v34, v35, v36, v37, v38, v39, v40, v41, v42, v43, v44, v45, v46, v47])
def X3 (v0 v1 v2 v3 v4 : D) : D := Al ts 72 (.row [.int (0 : Nat), v0, v1, v2, v3, v4])
def Ss (v0 v1 v2 v3 v4 v5 v6 v7 v8 v9 v10 v11 v12 v13 v14 v15 v16 v17 v18 v19 v20 v21 v22 v23 v24 v25 v26 v27 v28 v29 v30 v31 v32 v33 v34 v35 v36 v37 v38 v39 v40 v41 v42 v43 v44 v45 : D) : D := Al ts 72 (.row [.int (1 : Nat), v0, v1, v2, v3, v4, v5, v6, v7, v8, v9, v10, v11, v12, v13, v14, v15, v16, v17, v18, v19, v20, v21, v22, v23, v24, v25, v26, v27, v28, v29, v30, v31, v32, v33, v34, v35, v36, v37, v38, v39, v40, v41, v42, v43, v44, v45])
def OR (v0 v1 v2 v3 v4 v5 v6 v7 v8 v9 v10 v11 v12 v13 v14 v15 v16 v17 v18 v19 v20 v21 v22 v23 v24 v25 v26 v27 v28 v29 v30 v31 v32 v33 v34 v35 v36 v37 v38 v39 v40 v41 v42 v43 v44 v45 : D) : D := Al ts 72 (.row [.int (2 : Nat), v0, v1, v2, v3, v4, v5, v6, v7, v8, v9, v10, v11, v12, v13, v14, v15, v16, v17, v18, v19, v20, v21, v22, v23, v24, v25, v26, v27, v28, v29, v30, v31, v32, v33, v34, v35, v36, v37, v38, v39, v40, v41, v42, v43, v44, v45])
def OB (v0 v1 v2 v3 v4 v5 v6 v7 v8 v9 v10 v11 v12 v13 v14 v15 v16 v17 v18 v19 v20 v21 v22 v23 v24 v25 v26 v27 v28 v29 v30 v31 v32 v33 v34 v35 v36 v37 v38 v39 v40 v41 v42 v43 v44 v45 : D) : D := Al ts 72 (.row [.int (3 : Nat), v0, v1, v2, v3, v4, v5, v6, v7, v8, v9, v10, v11, v12, v13, v14, v15, v16, v17, v18, v19, v20, v21, v22, v23, v24, v25, v26, v27, v28, v29, v30, v31, v32, v33, v34, v35, v36, v37, v38, v39, v40, v41, v42, v43, v44, v45])
def Ol (v0 v1 v2 v3 v4 v5 v6 v7 v8 v9 v10 v11 v12 v13 v14 v15 v16 v17 v18 v19 v20 v21 v22 v23 v24 v25 v26 v27 v28 v29 v30 v31 v32 v33 v34 v35 v36 v37 v38 v39 v40 v41 v42 : D) : D := Al ts 72 (.row [.int (4 : Nat), v0, v1, v2, v3, v4, v5, v6, v7, v8, v9, v10, v11, v12, v13, v14, v15, v16, v17, v18, v19, v20, v21, v22, v23, v24, v25, v26, v27, v28, v29, v30, v31, v32, v33, v34, v35, v36, v37, v38, v39, v40, v41, v42])
def OP (v0 v1 v2 v3 v4 v5 v6 v7 v8 v9 v10 v11 v12 v13 v14 v15 v16 v17 v18 v19 v20 v21 v22 v23 v24 v25 v26 v27 v28 v29 v30 v31 v32 v33 v34 v35 v36 v37 v38 v39 v40 v41 v42 : D) : D := Al ts 72 (.row [.int (5 : Nat), v0, v1, v2, v3, v4, v5, v6, v7, v8, v9, v10, v11, v12, v13, v14, v15, v16, v17, v18, v19, v20, v21, v22, v23, v24, v25, v26, v27, v28, v29, v30, v31, v32, v33, v34, v35, v36, v37, v38, v39, v40, v41, v42])
def MZ (v0 v1 v2 v3 v4 v5 v6 v7 v8 v9 v10 v11 v12 v13 v14 v15 v16 v17 v18 v19 v20 v21 v22 v23 v24 v25 v26 v27 v28 v29 v30 v31 v32 v33 v34 v35 v36 v37 v38 v39 v40 v41 v42 : D) : D := Al ts 72 (.row [.int (6 : Nat), v0, v1, v2, v3, v4, v5, v6, v7, v8, v9, v10, v11, v12, v13, v14, v15, v16, v17, v18, v19, v20, v21, v22, v23, v24, v25, v26, v27, v28, v29, v30, v31, v32, v33, v34, v35, v36, v37, v38, v39, v40, v41, v42])
def Rl (v0 v1 v2 v3 v4 v5 v6 v7 v8 v9 v10 v11 v12 v13 v14 v15 v16 v17 v18 v19 v20 v21 v22 v23 v24 v25 v26 v27 v28 v29 v30 v31 v32 : D) : D := Al ts 72 (.row [.int (7 : Nat), v0, v1, v2, v3, v4, v5, v6, v7, v8, v9, v10, v11, v12, v13, v14, v15, v16, v17, v18, v19, v20, v21, v22, v23, v24, v25, v26, v27, v28, v29, v30, v31, v32])
theorem kP (v0 v1 v2 v3 : D) : U8 v0 v1 v2 v3 =
  cond (6 < (len v2 : Int)) (
 .row [.int 1, (.bool true)]) (
 cond (8 < (len v1 : Int)) (
 .row [.int 1, (.bool true)]) (
 cond (14 < (len v3 : Int)) (
 .row [.int 1, (.bool true)]) (
 cond (60 < (A5 v0 : Int)) (
 .row [.int 1, (.bool true)]) (
 We (.int 0) v0 v1 v2 v3)))) := gw rfl rfl rfl
theorem gH (v0 : Int) (v1 v2 v3 v4 : D) : We (.int v0) v1 v2 v3 v4 =
  cond (v0 < len v3) (
 cond (v0 < 0) (
 .row []) (
 cond (60 < (A5 (cl v3 v0 0) : Int)) (
 .row [.int 1, (.bool true)]) (
 We (.int (IntKind.wrap .i64 (v0 + 1))) v1 v2 v3 v4))) (
 SV (.int 0) v1 v2 v3 v4) := gw rfl rfl rfl
theorem cy (v0 : Int) (v1 v2 v3 v4 : D) : SV (.int v0) v1 v2 v3 v4 =
  cond (v0 < len v2) (
 cond (v0 < 0) (
 .row []) (
 cond (60 < (A5 (cl v2 v0 0) : Int)) (
 .row [.int 1, (.bool true)]) (
 SV (.int (IntKind.wrap .i64 (v0 + 1))) v1 v2 v3 v4))) (
 S4 (.int 0) v1 v2 v3 v4) := gw rfl rfl rfl
theorem eA (v0 : Int) (v1 v2 v3 v4 : D) : S4 (.int v0) v1 v2 v3 v4 =
  cond (v0 < len v4) (
 cond (v0 < 0) (
 .row []) (
 cond (60 < (A5 (cl v4 v0 0) : Int)) (
 .row [.int 1, (.bool true)]) (
 cond (60 < (A5 (cl v4 v0 1) : Int)) (
 .row [.int 1, (.bool true)]) (
 cond (60 < (A5 (cl v4 v0 3) : Int)) (
 .row [.int 1, (.bool true)]) (
 cond (60 < (A5 (cl v4 v0 4) : Int)) (
 .row [.int 1, (.bool true)]) (
 cond (60 < (A5 (cl v4 v0 5) : Int)) (
 .row [.int 1, (.bool true)]) (
 S4 (.int (IntKind.wrap .i64 (v0 + 1))) v1 v2 v3 v4))))))) (
 .row [.int 1, (.bool false)]) := gw rfl rfl rfl
theorem lI : Lr =
 .row [.int 1] := gw rfl rfl rfl
theorem mb (v0 : D) : FX v0 =
  cond ((A5 v0 : Int) < 1) (
 .row [.int 1, (.bool false)]) (
 cond (32 < (A5 v0 : Int)) (
 .row [.int 1, (.bool false)]) (
 PQ (OH v0) (.int (len (OH v0) : Int)) (.int 0))) := gw rfl rfl rfl
theorem aL (v0 : D) (v1 v2 : Int) : PQ v0 (.int v1) (.int v2) =
  cond (v2 < v1) (
 cond (v2 < 0) (
 .row []) (
 cond (v2 < len v0) (
 cond ((IntKind.wrap .u8 (cl v0 v2 0).toInt) < 97) (
 cond ((IntKind.wrap .u8 (cl v0 v2 0).toInt) < 65) (
 cond (v2 = 0) (
 .row [.int 1, (.bool false)]) (
 cond ((IntKind.wrap .u8 (cl v0 v2 0).toInt) < 48) (
 .row [.int 1, (.bool false)]) (
 cond (57 < (IntKind.wrap .u8 (cl v0 v2 0).toInt)) (
 .row [.int 1, (.bool false)]) (
 PQ v0 (.int v1) (.int (IntKind.wrap .i64 (v2 + 1))))))) (
 cond (90 < (IntKind.wrap .u8 (cl v0 v2 0).toInt)) (
 cond (v2 = 0) (
 .row [.int 1, (.bool false)]) (
 cond ((IntKind.wrap .u8 (cl v0 v2 0).toInt) = 95) (
 PQ v0 (.int v1) (.int (IntKind.wrap .i64 (v2 + 1)))) (
 .row [.int 1, (.bool false)]))) (
 PQ v0 (.int v1) (.int (IntKind.wrap .i64 (v2 + 1)))))) (
 cond (122 < (IntKind.wrap .u8 (cl v0 v2 0).toInt)) (
 cond (v2 = 0) (
 .row [.int 1, (.bool false)]) (
 .row [.int 1, (.bool false)])) (
 PQ v0 (.int v1) (.int (IntKind.wrap .i64 (v2 + 1)))))) (
 .row []))) (
 .row [.int 1, (.bool true)]) := gw rfl rfl (cL (cL rfl (cL (cL (cL (cQ rfl rfl) (cL (cQ rfl (cQ rfl rfl)) rfl)) (cL (cQ rfl rfl) rfl)) rfl)) rfl)
theorem lP (v0 v1 : D) : Vs v0 v1 =
 Wu v0 (.int 0) v1 := gw rfl rfl rfl
theorem lQ (v0 : D) (v1 : Int) (v2 : D) : Wu v0 (.int v1) v2 =
  cond (v1 < len v0) (
 cond (v1 < 0) (
 .row []) (
 cond (D.strEq (cl v0 v1 0) v2) (
 .row [.int 1, (.int v1)]) (
 Wu v0 (.int (IntKind.wrap .i64 (v1 + 1))) v2))) (
 .row [.int 1, (.int (-1))]) := gw rfl rfl rfl
theorem k6 (v0 v1 v2 : Int) (v3 v4 v5 v6 : D) : UE (.int v0) (.int v1) (.int v2) v3 v4 v5 v6 =
  cond (v0 < v1) (
 .row [.int 1, (.int 0)]) (
 cond (v2 < v0) (
 .row [.int 1, (.int v2)]) (
 Ta (.int v0) (.int 0) v3 v4 v5 v6)) := gw rfl rfl rfl
theorem iR (v0 v1 : Int) (v2 v3 v4 v5 : D) : Ta (.int v0) (.int v1) v2 v3 v4 v5 =
  cond (v1 < v0) (
 cond (v1 < 0) (
 .row []) (
 cond (v1 < len v4) (
 cond ((sl (FX (cl v4 v1 0)) 0).toInt = 1) (
 cond ((sl (FX (cl v4 v1 0)) 1).toBool) (
 cond ((sl (Vs v4 (cl v4 v1 0)) 0).toInt = 1) (
 cond ((sl (Vs v4 (cl v4 v1 0)) 1).toInt < v1) (
 .row [.int 1, (.int v1)]) (
 cond ((cl v4 v1 1).toInt < 1) (
 .row [.int 1, (.int v1)]) (
 cond (1000 < (cl v4 v1 1).toInt) (
 .row [.int 1, (.int v1)]) (
 Ta (.int v0) (.int (IntKind.wrap .i64 (v1 + 1))) v2 v3 v4 v5)))) (
 .row [])) (
 .row [.int 1, (.int v1)])) (
 .row [])) (
 .row []))) (
 .row [.int 1, (.int (-1))]) := gw rfl rfl (cL (cL rfl (cL (cQ (cg rfl (cQ (cL rfl (cL rfl (cL rfl rfl))) rfl) rfl) rfl) rfl)) rfl)
theorem kQ (v0 v1 : D) : Jb v0 v1 =
 XN v0 (.int 0) v1 := gw rfl rfl rfl
theorem lJ (v0 : D) (v1 : Int) (v2 : D) : XN v0 (.int v1) v2 =
  cond (v1 < len v0) (
 cond (v1 < 0) (
 .row []) (
 cond (D.strEq (cl v0 v1 0) v2) (
 .row [.int 1, (.int v1)]) (
 XN v0 (.int (IntKind.wrap .i64 (v1 + 1))) v2))) (
 .row [.int 1, (.int (-1))]) := gw rfl rfl rfl
theorem k7 (v0 v1 v2 : Int) (v3 v4 v5 v6 : D) : T1 (.int v0) (.int v1) (.int v2) v3 v4 v5 v6 =
  cond (v0 < v1) (
 .row [.int 1, (.int 0)]) (
 cond (v2 < v0) (
 .row [.int 1, (.int v2)]) (
 TP (.int v0) (.int 0) v3 v4 v5 v6)) := gw rfl rfl rfl
theorem fu (v0 v1 : Int) (v2 v3 v4 v5 : D) : TP (.int v0) (.int v1) v2 v3 v4 v5 =
  cond (v1 < v0) (
 cond (v1 < 0) (
 .row []) (
 cond (v1 < len v3) (
 cond ((sl (FX (cl v3 v1 0)) 0).toInt = 1) (
 cond ((sl (FX (cl v3 v1 0)) 1).toBool) (
 cond ((sl (Jb v3 (cl v3 v1 0)) 0).toInt = 1) (
 cond ((sl (Jb v3 (cl v3 v1 0)) 1).toInt < v1) (
 .row [.int 1, (.int v1)]) (
 cond ((cl v3 v1 2).toInt < 0) (
 .row [.int 1, (.int v1)]) (
 cond (1048576 < (cl v3 v1 2).toInt) (
 .row [.int 1, (.int v1)]) (
 TP (.int v0) (.int (IntKind.wrap .i64 (v1 + 1))) v2 v3 v4 v5)))) (
 .row [])) (
 .row [.int 1, (.int v1)])) (
 .row [])) (
 .row []))) (
 .row [.int 1, (.int (-1))]) := gw rfl rfl (cL (cL rfl (cL (cQ (cg rfl (cQ (cL rfl (cL rfl (cL rfl rfl))) rfl) rfl) rfl) rfl)) rfl)
theorem kX (v0 v1 v2 : D) (v3 : Int) (v4 v5 v6 : D) (v7 v8 v9 : Int) : ZE v0 v1 v2 (.int v3) v4 v5 v6 (.int v7) (.int v8) (.int v9) =
 TO v0 (.int 0) v1 v2 (.int v3) v4 v5 v6 (.int v7) (.int v8) (.int v9) := gw rfl rfl rfl
theorem bi (v0 : D) (v1 : Int) (v2 v3 : D) (v4 : Int) (v5 v6 v7 : D) (v8 v9 v10 : Int) : TO v0 (.int v1) v2 v3 (.int v4) v5 v6 v7 (.int v8) (.int v9) (.int v10) =
  cond (v1 < len v0) (
 cond (v1 < 0) (
 .row []) (
 cond ((D.strEq v2 (cl v0 v1 0) && (D.strEq v3 (cl v0 v1 1) && (decide (v4 = (cl v0 v1 2).toInt) && (D.strEq v5 (cl v0 v1 3) && (D.strEq v6 (cl v0 v1 4) && (D.strEq v7 (cl v0 v1 5) && (decide (v8 = (cl v0 v1 6).toInt) && (decide (v9 = (cl v0 v1 7).toInt) && decide (v10 = (cl v0 v1 8).toInt)))))))))) (
 .row [.int 1, (.int v1)]) (
 TO v0 (.int (IntKind.wrap .i64 (v1 + 1))) v2 v3 (.int v4) v5 v6 v7 (.int v8) (.int v9) (.int v10)))) (
 .row [.int 1, (.int (-1))]) := gw rfl rfl (cL (cL rfl (cg (aE rfl (aE rfl (aE (qE rfl rfl) (aE rfl (aE rfl (aE rfl (aE (qE rfl rfl) (aE (qE rfl rfl) (qE rfl rfl))))))))) rfl rfl)) rfl)
theorem k8 (v0 v1 v2 : Int) (v3 v4 v5 v6 : D) : Up (.int v0) (.int v1) (.int v2) v3 v4 v5 v6 =
  cond (v0 < v1) (
 .row [.int 1, (.int 0)]) (
 cond (v2 < v0) (
 .row [.int 1, (.int v2)]) (
 Hi (.int v0) (.int 0) v3 v4 v5 v6)) := gw rfl rfl rfl
theorem eQ (v0 v1 : Int) (v2 v3 v4 v5 : D) {F0 F1 F2 : D} (h0 : ZE (sb v5 0 v1) (cl v5 v1 0) (cl v5 v1 1) (cl v5 v1 2) (cl v5 v1 3) (cl v5 v1 4) (cl v5 v1 5) (cl v5 v1 6) (cl v5 v1 7) (cl v5 v1 8) = F0) (h1 : Vs v4 (cl v5 v1 5) = F1) (h2 : Jb v3 (cl v5 v1 0) = F2) : Hi (.int v0) (.int v1) v2 v3 v4 v5 =
  cond (v1 < v0) (
 cond (v1 < 0) (
 .row []) (
 cond (v1 < len v5) (
 cond ((cl v5 v1 2).toInt = 1) (
 cond ((sl F2 0).toInt = 1) (
 cond ((sl F1 0).toInt = 1) (
 cond ((sl F2 1).toInt < 0) (
 .row [.int 1, (.int v1)]) (
 cond ((sl (Jb v3 (cl v5 v1 1)) 0).toInt = 1) (
 cond ((sl (Jb v3 (cl v5 v1 1)) 1).toInt < 0) (
 .row [.int 1, (.int v1)]) (
 cond (len v5 < v1) (
 .row []) (
 cond ((sl F0 0).toInt = 1) (
 cond ((sl F0 1).toInt < 0) (
 cond ((sl F2 1).toInt < len v3) (
 cond ((sl (FX (cl v5 v1 3)) 0).toInt = 1) (
 cond ((sl (FX (cl v5 v1 3)) 1).toBool) (
 cond ((sl (FX (cl v5 v1 4)) 0).toInt = 1) (
 cond ((sl (FX (cl v5 v1 4)) 1).toBool) (
 cond (D.strEq (cl v5 v1 4) v2) (
 .row [.int 1, (.int v1)]) (
 cond (eqC (cl v5 v1 5) 0 0) (
 cond ((cl v5 v1 6).toInt = 0) (
 cond ((cl v5 v1 7).toInt = 0) (
 cond ((cl v5 v1 8).toInt = 0) (
 Hi (.int v0) (.int (IntKind.wrap .i64 (v1 + 1))) v2 v3 v4 v5) (
 .row [.int 1, (.int v1)])) (
 .row [.int 1, (.int v1)])) (
 .row [.int 1, (.int v1)])) (
 cond ((sl F1 1).toInt < 0) (
 .row [.int 1, (.int v1)]) (
 cond ((cl v5 v1 6).toInt < 0) (
 .row [.int 1, (.int v1)]) (
 cond ((cl v5 v1 7).toInt < (cl v5 v1 6).toInt) (
 .row [.int 1, (.int v1)]) (
 cond ((cl v5 v1 8).toInt < (-1000)) (
 .row [.int 1, (.int v1)]) (
 cond (1000 < (cl v5 v1 8).toInt) (
 .row [.int 1, (.int v1)]) (
 cond ((sl F1 1).toInt < len v4) (
 cond ((cl v4 (sl F1 1).toInt 1).toInt < (cl v5 v1 7).toInt) (
 .row [.int 1, (.int v1)]) (
 cond ((IntKind.wrap .i64 ((cl v5 v1 6).toInt + (cl v5 v1 8).toInt)) < 0) (
 .row [.int 1, (.int v1)]) (
 cond ((cl v4 (sl F1 1).toInt 1).toInt < (IntKind.wrap .i64 ((cl v5 v1 7).toInt + (cl v5 v1 8).toInt))) (
 .row [.int 1, (.int v1)]) (
 Hi (.int v0) (.int (IntKind.wrap .i64 (v1 + 1))) v2 v3 v4 v5)))) (
 .row []))))))))) (
 .row [.int 1, (.int v1)])) (
 .row [])) (
 .row [.int 1, (.int v1)])) (
 .row [])) (
 .row [])) (
 .row [.int 1, (.int v1)])) (
 .row [])))) (
 .row []))) (
 .row [])) (
 .row [])) (
 cond ((cl v5 v1 2).toInt = 2) (
 cond ((sl F2 0).toInt = 1) (
 cond ((sl F1 0).toInt = 1) (
 cond ((sl F2 1).toInt < 0) (
 .row [.int 1, (.int v1)]) (
 cond ((sl (Jb v3 (cl v5 v1 1)) 0).toInt = 1) (
 cond ((sl (Jb v3 (cl v5 v1 1)) 1).toInt < 0) (
 .row [.int 1, (.int v1)]) (
 cond (len v5 < v1) (
 .row []) (
 cond ((sl F0 0).toInt = 1) (
 cond ((sl F0 1).toInt < 0) (
 cond ((sl F2 1).toInt < len v3) (
 cond ((sl (FX (cl v5 v1 3)) 0).toInt = 1) (
 cond ((sl (FX (cl v5 v1 3)) 1).toBool) (
 cond ((sl (FX (cl v5 v1 4)) 0).toInt = 1) (
 cond ((sl (FX (cl v5 v1 4)) 1).toBool) (
 cond (D.strEq (cl v5 v1 4) v2) (
 .row [.int 1, (.int v1)]) (
 cond (eqC (cl v5 v1 5) 0 0) (
 cond ((cl v5 v1 6).toInt = 0) (
 cond ((cl v5 v1 7).toInt = 0) (
 cond ((cl v5 v1 8).toInt = 0) (
 Hi (.int v0) (.int (IntKind.wrap .i64 (v1 + 1))) v2 v3 v4 v5) (
 .row [.int 1, (.int v1)])) (
 .row [.int 1, (.int v1)])) (
 .row [.int 1, (.int v1)])) (
 cond ((sl F1 1).toInt < 0) (
 .row [.int 1, (.int v1)]) (
 cond ((cl v5 v1 6).toInt < 0) (
 .row [.int 1, (.int v1)]) (
 cond ((cl v5 v1 7).toInt < (cl v5 v1 6).toInt) (
 .row [.int 1, (.int v1)]) (
 cond ((cl v5 v1 8).toInt < (-1000)) (
 .row [.int 1, (.int v1)]) (
 cond (1000 < (cl v5 v1 8).toInt) (
 .row [.int 1, (.int v1)]) (
 cond ((sl F1 1).toInt < len v4) (
 cond ((cl v4 (sl F1 1).toInt 1).toInt < (cl v5 v1 7).toInt) (
 .row [.int 1, (.int v1)]) (
 cond ((IntKind.wrap .i64 ((cl v5 v1 6).toInt + (cl v5 v1 8).toInt)) < 0) (
 .row [.int 1, (.int v1)]) (
 cond ((cl v4 (sl F1 1).toInt 1).toInt < (IntKind.wrap .i64 ((cl v5 v1 7).toInt + (cl v5 v1 8).toInt))) (
 .row [.int 1, (.int v1)]) (
 Hi (.int v0) (.int (IntKind.wrap .i64 (v1 + 1))) v2 v3 v4 v5)))) (
 .row []))))))))) (
 .row [.int 1, (.int v1)])) (
 .row [])) (
 .row [.int 1, (.int v1)])) (
 .row [])) (
 .row [])) (
 .row [.int 1, (.int v1)])) (
 .row [])))) (
 .row []))) (
 .row [])) (
 .row [])) (
 cond ((cl v5 v1 2).toInt = 3) (
 cond ((sl F2 0).toInt = 1) (
 cond ((sl F1 0).toInt = 1) (
 cond ((sl F2 1).toInt < 0) (
 .row [.int 1, (.int v1)]) (
 cond ((sl (Jb v3 (cl v5 v1 1)) 0).toInt = 1) (
 cond ((sl (Jb v3 (cl v5 v1 1)) 1).toInt < 0) (
 .row [.int 1, (.int v1)]) (
 cond (len v5 < v1) (
 .row []) (
 cond ((sl F0 0).toInt = 1) (
 cond ((sl F0 1).toInt < 0) (
 cond ((sl F2 1).toInt < len v3) (
 cond (0 < (cl v3 (sl F2 1).toInt 2).toInt) (
 cond ((A5 (cl v5 v1 3) : Int) < 4611686018427387904) (
 cond ((A5 (cl v5 v1 4) : Int) < 4611686018427387904) (
 cond (eqC (XI (cl v5 v1 3) (cl v5 v1 4)) 0 0) (
 cond (eqC (cl v5 v1 5) 0 0) (
 cond ((cl v5 v1 6).toInt = 0) (
 cond ((cl v5 v1 7).toInt = 0) (
 cond ((cl v5 v1 8).toInt = 0) (
 Hi (.int v0) (.int (IntKind.wrap .i64 (v1 + 1))) v2 v3 v4 v5) (
 .row [.int 1, (.int v1)])) (
 .row [.int 1, (.int v1)])) (
 .row [.int 1, (.int v1)])) (
 cond ((sl F1 1).toInt < 0) (
 .row [.int 1, (.int v1)]) (
 cond ((cl v5 v1 6).toInt < 0) (
 .row [.int 1, (.int v1)]) (
 cond ((cl v5 v1 7).toInt < (cl v5 v1 6).toInt) (
 .row [.int 1, (.int v1)]) (
 cond ((cl v5 v1 8).toInt < (-1000)) (
 .row [.int 1, (.int v1)]) (
 cond (1000 < (cl v5 v1 8).toInt) (
 .row [.int 1, (.int v1)]) (
 cond ((sl F1 1).toInt < len v4) (
 cond ((cl v4 (sl F1 1).toInt 1).toInt < (cl v5 v1 7).toInt) (
 .row [.int 1, (.int v1)]) (
 cond ((IntKind.wrap .i64 ((cl v5 v1 6).toInt + (cl v5 v1 8).toInt)) < 0) (
 .row [.int 1, (.int v1)]) (
 cond ((cl v4 (sl F1 1).toInt 1).toInt < (IntKind.wrap .i64 ((cl v5 v1 7).toInt + (cl v5 v1 8).toInt))) (
 .row [.int 1, (.int v1)]) (
 Hi (.int v0) (.int (IntKind.wrap .i64 (v1 + 1))) v2 v3 v4 v5)))) (
 .row [])))))))) (
 .row [.int 1, (.int v1)])) (
 .row [])) (
 .row [])) (
 .row [.int 1, (.int v1)])) (
 .row [])) (
 .row [.int 1, (.int v1)])) (
 .row [])))) (
 .row []))) (
 .row [])) (
 .row [])) (
 cond ((cl v5 v1 2).toInt = 4) (
 cond ((sl F2 0).toInt = 1) (
 cond ((sl F1 0).toInt = 1) (
 cond ((sl F2 1).toInt < 0) (
 .row [.int 1, (.int v1)]) (
 cond ((sl (Jb v3 (cl v5 v1 1)) 0).toInt = 1) (
 cond ((sl (Jb v3 (cl v5 v1 1)) 1).toInt < 0) (
 .row [.int 1, (.int v1)]) (
 cond (len v5 < v1) (
 .row []) (
 cond ((sl F0 0).toInt = 1) (
 cond ((sl F0 1).toInt < 0) (
 cond ((sl F2 1).toInt < len v3) (
 cond ((A5 (cl v5 v1 3) : Int) < 4611686018427387904) (
 cond ((A5 (cl v5 v1 4) : Int) < 4611686018427387904) (
 cond (eqC (XI (cl v5 v1 3) (cl v5 v1 4)) 0 0) (
 cond (eqC (cl v5 v1 5) 0 0) (
 cond ((cl v5 v1 6).toInt = 0) (
 cond ((cl v5 v1 7).toInt = 0) (
 cond ((cl v5 v1 8).toInt = 0) (
 Hi (.int v0) (.int (IntKind.wrap .i64 (v1 + 1))) v2 v3 v4 v5) (
 .row [.int 1, (.int v1)])) (
 .row [.int 1, (.int v1)])) (
 .row [.int 1, (.int v1)])) (
 cond ((sl F1 1).toInt < 0) (
 .row [.int 1, (.int v1)]) (
 cond ((cl v5 v1 6).toInt < 0) (
 .row [.int 1, (.int v1)]) (
 cond ((cl v5 v1 7).toInt < (cl v5 v1 6).toInt) (
 .row [.int 1, (.int v1)]) (
 cond ((cl v5 v1 8).toInt < (-1000)) (
 .row [.int 1, (.int v1)]) (
 cond (1000 < (cl v5 v1 8).toInt) (
 .row [.int 1, (.int v1)]) (
 cond ((sl F1 1).toInt < len v4) (
 cond ((cl v4 (sl F1 1).toInt 1).toInt < (cl v5 v1 7).toInt) (
 .row [.int 1, (.int v1)]) (
 cond ((IntKind.wrap .i64 ((cl v5 v1 6).toInt + (cl v5 v1 8).toInt)) < 0) (
 .row [.int 1, (.int v1)]) (
 cond ((cl v4 (sl F1 1).toInt 1).toInt < (IntKind.wrap .i64 ((cl v5 v1 7).toInt + (cl v5 v1 8).toInt))) (
 .row [.int 1, (.int v1)]) (
 Hi (.int v0) (.int (IntKind.wrap .i64 (v1 + 1))) v2 v3 v4 v5)))) (
 .row [])))))))) (
 .row [.int 1, (.int v1)])) (
 .row [])) (
 .row [])) (
 .row [])) (
 .row [.int 1, (.int v1)])) (
 .row [])))) (
 .row []))) (
 .row [])) (
 .row [])) (
 cond ((sl F2 0).toInt = 1) (
 cond ((sl F1 0).toInt = 1) (
 .row [.int 1, (.int v1)]) (
 .row [])) (
 .row [])))))) (
 .row []))) (
 .row [.int 1, (.int (-1))]) := by
  subst h0; subst h1; subst h2; exact gw rfl rfl (cL (cL rfl (cL (cQ (cQ (cQ (cL rfl (cQ (cL rfl (cL rfl (cQ (cL (cL (cQ (cg rfl (cQ (cg rfl (cg rfl rfl (cg rfl (cQ (cQ (cQ rfl rfl) rfl) rfl) (cL rfl (cL rfl (cL rfl (cL rfl (cL rfl rfl))))))) rfl) rfl) rfl) rfl) rfl) rfl) rfl))) rfl)) rfl) rfl) (cQ (cQ (cQ (cL rfl (cQ (cL rfl (cL rfl (cQ (cL (cL (cQ (cg rfl (cQ (cg rfl (cg rfl rfl (cg rfl (cQ (cQ (cQ rfl rfl) rfl) rfl) (cL rfl (cL rfl (cL rfl (cL rfl (cL rfl rfl))))))) rfl) rfl) rfl) rfl) rfl) rfl) rfl))) rfl)) rfl) rfl) (cQ (cQ (cQ (cL rfl (cQ (cL rfl (cL rfl (cQ (cL (cL (cL (cL (cL (cg rfl (cg rfl (cQ (cQ (cQ rfl rfl) rfl) rfl) (cL rfl (cL rfl (cL rfl (cL rfl (cL rfl rfl)))))) rfl) rfl) rfl) rfl) rfl) rfl) rfl))) rfl)) rfl) rfl) (cQ (cQ (cQ (cL rfl (cQ (cL rfl (cL rfl (cQ (cL (cL (cL (cL (cg rfl (cg rfl (cQ (cQ (cQ rfl rfl) rfl) rfl) (cL rfl (cL rfl (cL rfl (cL rfl (cL rfl rfl)))))) rfl) rfl) rfl) rfl) rfl) rfl))) rfl)) rfl) rfl) (cQ (cQ rfl rfl) rfl))))) rfl)) rfl)
theorem ma (v0 v1 v2 v3 : D) : Wm v0 v1 v2 v3 =
  cond ((sl (FX v0) 0).toInt = 1) (
 cond ((sl (FX v0) 1).toBool) (
 cond ((sl (UE (.int (len v2 : Int)) (.int 0) (.int 4) v0 v1 v2 v3) 0).toInt = 1) (
 cond ((sl (UE (.int (len v2 : Int)) (.int 0) (.int 4) v0 v1 v2 v3) 1).toInt < 0) (
 cond ((sl (T1 (.int (len v1 : Int)) (.int 1) (.int 24) v0 v1 v2 v3) 0).toInt = 1) (
 cond ((sl (T1 (.int (len v1 : Int)) (.int 1) (.int 24) v0 v1 v2 v3) 1).toInt < 0) (
 cond ((sl (Up (.int (len v3 : Int)) (.int 0) (.int 80) v0 v1 v2 v3) 0).toInt = 1) (
 cond ((sl (Up (.int (len v3 : Int)) (.int 0) (.int 80) v0 v1 v2 v3) 1).toInt < 0) (
 .row [.int 1, (.int 0), (.int 0)]) (
 .row [.int 1, (sl (Up (.int (len v3 : Int)) (.int 0) (.int 80) v0 v1 v2 v3) 1), (.int 293)])) (
 .row [])) (
 .row [.int 1, (sl (T1 (.int (len v1 : Int)) (.int 1) (.int 24) v0 v1 v2 v3) 1), (.int 292)])) (
 .row [])) (
 .row [.int 1, (sl (UE (.int (len v2 : Int)) (.int 0) (.int 4) v0 v1 v2 v3) 1), (.int 291)])) (
 .row [])) (
 .row [.int 1, (.int 0), (.int 290)])) (
 .row []) := gw rfl rfl (cQ (cg rfl (cQ (cL (cQ (cL (cQ rfl rfl) rfl) rfl) rfl) rfl) rfl) rfl)
theorem fF (v0 : D) (v1 : Bool) (v2 : D) : DD v0 (.bool v1) v2 =
 SJ v0 (.bool v1) (.int 0) v2 := gw rfl rfl rfl
theorem ce (v0 : D) (v1 : Bool) (v2 : Int) (v3 : D) : SJ v0 (.bool v1) (.int v2) v3 =
  cond (v2 < len v0) (
 cond (v2 < 0) (
 .row []) (
 cond (D.strEq (cl v0 v2 0) v3) (
 .row [.int 1, (.int v2)]) (
 SJ v0 (.bool v1) (.int (IntKind.wrap .i64 (v2 + 1))) v3))) (
 .row [.int 1, (.int (-1))]) := gw rfl rfl rfl
theorem dz (v0 : D) (v1 : Bool) : CB v0 (.bool v1) =
  cond (4 < (len v0 : Int)) (
 .row []) (
 R1 v0 (.bool v1) (.int 0) AB (.bool true)) := gw rfl rfl rfl
theorem Yn (v0 : D) (v1 : Bool) (v2 : Int) (v3 : D) (v4 : Bool) : R1 v0 (.bool v1) (.int v2) v3 (.bool v4) =
  cond (v2 < len v0) (
 cond (v2 < 0) (
 .row []) (
 cond (eqC (cl v0 v2 0) 0 0) (
 .row []) (
 cond ((cl v0 v2 1).toInt < 1) (
 .row []) (
 cond (1000 < (cl v0 v2 1).toInt) (
 .row []) (
 cond ((sl (DD v3 (.bool v4) (cl v0 v2 0)) 0).toInt = 1) (
 cond ((sl (DD v3 (.bool v4) (cl v0 v2 0)) 1).toInt < 0) (
 cond ((len v3 : Int) < 1073741824) (
 R1 v0 (.bool v1) (.int (IntKind.wrap .i64 (v2 + 1))) (ad v3 (.row [(cl v0 v2 0), (cl v0 v2 1), (.int 0)])) (.bool false)) (
 .row [])) (
 .row [])) (
 .row [])))))) (
 .row [.int 1, v3, (.bool v4)]) := gw rfl rfl (cL (cL rfl (cg rfl rfl (cL rfl (cL rfl (cQ (cL (cL rfl rfl) rfl) rfl))))) rfl)
theorem bF (v0 : D) (v1 : Bool) : B5 v0 (.bool v1) =
  cond (v1) (
 .row [.int 1, AB, (.bool true)]) (
 cond ((len v0 : Int) < 1048576) (
 .row [.int 1, (ct Ag v0), (.bool false)]) (
 .row [])) := gw rfl rfl (cg rfl rfl (cL rfl rfl))
theorem ii (v0 : D) (v1 : Bool) : B6 v0 (.bool v1) =
  cond (v1) (
 .row [.int 1, AB, (.bool true)]) (
 cond ((len v0 : Int) < 1048576) (
 .row [.int 1, (ct Ag v0), (.bool false)]) (
 .row [])) := gw rfl rfl (cg rfl rfl (cL rfl rfl))
theorem Yh (v0 : D) (v1 : Bool) : A3 v0 (.bool v1) =
  cond (v1) (
 .row [.int 1, AB, (.bool true)]) (
 cond ((len v0 : Int) < 1048576) (
 .row [.int 1, (ct Ag v0), (.bool false)]) (
 .row [])) := gw rfl rfl (cg rfl rfl (cL rfl rfl))
theorem eE (v0 : D) (v1 : Bool) (v2 : D) : DQ v0 (.bool v1) v2 =
 OG AB (.bool true) v0 (.bool v1) (.int 0) v2 := gw rfl rfl rfl
theorem Yx (v0 : D) (v1 : Bool) (v2 : D) (v3 : Bool) (v4 : Int) (v5 : D) : OG v0 (.bool v1) v2 (.bool v3) (.int v4) v5 =
  cond (v4 < len v2) (
 cond (v4 < 0) (
 .row []) (
 cond (D.strEq (cl v2 v4 0) v5) (
 cond ((len v0 : Int) < 1073741824) (
 OG (ad v0 (.row [(cl v2 v4 0), (cl v2 v4 1), (cl v2 v4 2)])) (.bool false) v2 (.bool v3) (.int (IntKind.wrap .i64 (v4 + 1))) v5) (
 .row [])) (
 OG v0 (.bool v1) v2 (.bool v3) (.int (IntKind.wrap .i64 (v4 + 1))) v5))) (
 .row [.int 1, v0, (.bool v1)]) := gw rfl rfl (cL (cL rfl (cg rfl (cL rfl rfl) rfl)) rfl)
theorem UK (v0 : Int) (v1 v2 v3 : D) (v4 : Bool) (v5 : Int) : Ha (.int v0) v1 v2 v3 (.bool v4) (.int v5) =
  cond (v5 < 0) (
 .row [.int 1, (.int 0), (.int 2)]) (
 cond (v5 < 256) (
 cond (v2.toBool) (
 .row [.int 1, (.int 0), (.int 9)]) (
 cond ((mIx [.int .i64] v1 (.row [(.int v5)])) < 0) (
 .row [.int 1, (.int 0), (.int 9)]) (
 .row [.int 1, (.int (IntKind.wrap .i64 ((cl v1 (mIx [.int .i64] v1 (.row [(.int v5)])) 1).toInt - v0))), (.int 0)]))) (
 .row [.int 1, (.int 0), (.int 2)])) := gw rfl rfl rfl
theorem Yy (v0 : Int) (v1 v2 v3 : D) (v4 : Bool) (v5 : Int) : Ip (.int v0) v1 v2 v3 (.bool v4) (.int v5) =
  cond ((sl (Ha (.int v0) v1 v2 v3 (.bool v4) (.int v5)) 0).toInt = 1) (
 cond ((sl (Ha (.int v0) v1 v2 v3 (.bool v4) (.int v5)) 2).toInt = 0) (
 cond (v2.toBool) (
 .row [.int 1, (.int 0), v1]) (
 cond ((mIx [.int .i64] v1 (.row [(.int v5)])) < 0) (
 .row [.int 1, (.int 0), v1]) (
 .row [.int 1, (.int 0), (JU v1 (mIx [.int .i64] v1 (.row [(.int v5)])))]))) (
 .row [.int 1, (sl (Ha (.int v0) v1 v2 v3 (.bool v4) (.int v5)) 2), v1])) (
 .row []) := gw rfl rfl (cQ (cQ rfl rfl) rfl)
theorem gJ (v0 : Int) (v1 v2 v3 : D) (v4 : Bool) (v5 v6 : Int) : EJ (.int v0) v1 v2 v3 (.bool v4) (.int v5) (.int v6) =
  cond ((len v3 : Int) < 1073741824) (
 JN (.int (IntKind.wrap .i64 ((len (ad v3 (.row [(.int v5), (.int v6)])) : Int) - 1))) (.int v0) v2 (ad v3 (.row [(.int v5), (.int v6)])) (.bool false) v1) (
 .row []) := gw rfl rfl (cL rfl rfl)
theorem YP (v0 v1 : Int) (v2 v3 : D) (v4 : Bool) (v5 : D) : JN (.int v0) (.int v1) v2 v3 (.bool v4) v5 =
  cond (0 < v0) (
 cond ((ari .quo .i64 (IntKind.wrap .i64 (v0 - 1)) 2) < 0) (
 .row []) (
 cond ((ari .quo .i64 (IntKind.wrap .i64 (v0 - 1)) 2) < (len v3 : Int)) (
 cond (v0 < len v3) (
 cond ((cl v3 (ari .quo .i64 (IntKind.wrap .i64 (v0 - 1)) 2) 0).toInt < (cl v3 v0 0).toInt) (
 cond ((cl v3 (ari .quo .i64 (IntKind.wrap .i64 (v0 - 1)) 2) 1).toInt < (cl v3 v0 1).toInt) (
 .row [.int 1, v3, (.bool v4)]) (
 cond ((cl v3 v0 1).toInt < (cl v3 (ari .quo .i64 (IntKind.wrap .i64 (v0 - 1)) 2) 1).toInt) (
 .row [.int 1, v3, (.bool v4)]) (
 .row [.int 1, v3, (.bool v4)]))) (
 cond ((cl v3 v0 0).toInt < (cl v3 (ari .quo .i64 (IntKind.wrap .i64 (v0 - 1)) 2) 0).toInt) (
 cond ((cl v3 (ari .quo .i64 (IntKind.wrap .i64 (v0 - 1)) 2) 1).toInt < (cl v3 v0 1).toInt) (
 JN (.int (ari .quo .i64 (IntKind.wrap .i64 (v0 - 1)) 2)) (.int v1) v2 (upd (upd (upd (upd v3 (ari .quo .i64 (IntKind.wrap .i64 (v0 - 1)) 2) 0 (cl v3 v0 0)) (ari .quo .i64 (IntKind.wrap .i64 (v0 - 1)) 2) 1 (cl v3 v0 1)) v0 0 (cl v3 (ari .quo .i64 (IntKind.wrap .i64 (v0 - 1)) 2) 0)) v0 1 (cl v3 (ari .quo .i64 (IntKind.wrap .i64 (v0 - 1)) 2) 1)) (.bool v4) v5) (
 cond ((cl v3 v0 1).toInt < (cl v3 (ari .quo .i64 (IntKind.wrap .i64 (v0 - 1)) 2) 1).toInt) (
 JN (.int (ari .quo .i64 (IntKind.wrap .i64 (v0 - 1)) 2)) (.int v1) v2 (upd (upd (upd (upd v3 (ari .quo .i64 (IntKind.wrap .i64 (v0 - 1)) 2) 0 (cl v3 v0 0)) (ari .quo .i64 (IntKind.wrap .i64 (v0 - 1)) 2) 1 (cl v3 v0 1)) v0 0 (cl v3 (ari .quo .i64 (IntKind.wrap .i64 (v0 - 1)) 2) 0)) v0 1 (cl v3 (ari .quo .i64 (IntKind.wrap .i64 (v0 - 1)) 2) 1)) (.bool v4) v5) (
 JN (.int (ari .quo .i64 (IntKind.wrap .i64 (v0 - 1)) 2)) (.int v1) v2 (upd (upd (upd (upd v3 (ari .quo .i64 (IntKind.wrap .i64 (v0 - 1)) 2) 0 (cl v3 v0 0)) (ari .quo .i64 (IntKind.wrap .i64 (v0 - 1)) 2) 1 (cl v3 v0 1)) v0 0 (cl v3 (ari .quo .i64 (IntKind.wrap .i64 (v0 - 1)) 2) 0)) v0 1 (cl v3 (ari .quo .i64 (IntKind.wrap .i64 (v0 - 1)) 2) 1)) (.bool v4) v5))) (
 cond ((cl v3 (ari .quo .i64 (IntKind.wrap .i64 (v0 - 1)) 2) 1).toInt < (cl v3 v0 1).toInt) (
 .row [.int 1, v3, (.bool v4)]) (
 cond ((cl v3 v0 1).toInt < (cl v3 (ari .quo .i64 (IntKind.wrap .i64 (v0 - 1)) 2) 1).toInt) (
 JN (.int (ari .quo .i64 (IntKind.wrap .i64 (v0 - 1)) 2)) (.int v1) v2 (upd (upd (upd (upd v3 (ari .quo .i64 (IntKind.wrap .i64 (v0 - 1)) 2) 0 (cl v3 v0 0)) (ari .quo .i64 (IntKind.wrap .i64 (v0 - 1)) 2) 1 (cl v3 v0 1)) v0 0 (cl v3 (ari .quo .i64 (IntKind.wrap .i64 (v0 - 1)) 2) 0)) v0 1 (cl v3 (ari .quo .i64 (IntKind.wrap .i64 (v0 - 1)) 2) 1)) (.bool v4) v5) (
 .row [.int 1, v3, (.bool v4)]))))) (
 .row [])) (
 .row []))) (
 .row [.int 1, v3, (.bool v4)]) := gw rfl rfl rfl
theorem eO (v0 : Int) (v1 v2 v3 : D) (v4 : Bool) (v5 v6 : Int) : Lw (.int v0) v1 v2 v3 (.bool v4) (.int v5) (.int v6) =
  cond (v5 < 0) (
 .row [.int 1, (.int 2), v2, v3, (.bool v4), v1]) (
 cond (v5 < 256) (
 cond (v6 < 0) (
 .row [.int 1, (.int 3), v2, v3, (.bool v4), v1]) (
 cond ((IntKind.wrap .i64 (1099511627776 - v0)) < v6) (
 .row [.int 1, (.int 3), v2, v3, (.bool v4), v1]) (
 cond (v2.toBool) (
 cond ((sl (EJ (.int v0) (ad Ag (.row [(.int v5), (.int (IntKind.wrap .i64 (v0 + v6)))])) (.bool false) v3 (.bool v4) (.int (IntKind.wrap .i64 (v0 + v6))) (.int v5)) 0).toInt = 1) (
 .row [.int 1, (.int 0), (.bool false), (sl (EJ (.int v0) (ad Ag (.row [(.int v5), (.int (IntKind.wrap .i64 (v0 + v6)))])) (.bool false) v3 (.bool v4) (.int (IntKind.wrap .i64 (v0 + v6))) (.int v5)) 1), (sl (EJ (.int v0) (ad Ag (.row [(.int v5), (.int (IntKind.wrap .i64 (v0 + v6)))])) (.bool false) v3 (.bool v4) (.int (IntKind.wrap .i64 (v0 + v6))) (.int v5)) 2), (ad Ag (.row [(.int v5), (.int (IntKind.wrap .i64 (v0 + v6)))]))]) (
 .row [])) (
 cond ((mIx [.int .i64] v1 (.row [(.int v5)])) < 0) (
 cond ((sl (EJ (.int v0) (ad v1 (.row [(.int v5), (.int (IntKind.wrap .i64 (v0 + v6)))])) v2 v3 (.bool v4) (.int (IntKind.wrap .i64 (v0 + v6))) (.int v5)) 0).toInt = 1) (
 .row [.int 1, (.int 0), v2, (sl (EJ (.int v0) (ad v1 (.row [(.int v5), (.int (IntKind.wrap .i64 (v0 + v6)))])) v2 v3 (.bool v4) (.int (IntKind.wrap .i64 (v0 + v6))) (.int v5)) 1), (sl (EJ (.int v0) (ad v1 (.row [(.int v5), (.int (IntKind.wrap .i64 (v0 + v6)))])) v2 v3 (.bool v4) (.int (IntKind.wrap .i64 (v0 + v6))) (.int v5)) 2), (ad v1 (.row [(.int v5), (.int (IntKind.wrap .i64 (v0 + v6)))]))]) (
 .row [])) (
 cond ((sl (EJ (.int v0) (upd v1 (mIx [.int .i64] v1 (.row [(.int v5)])) 1 (.int (IntKind.wrap .i64 (v0 + v6)))) v2 v3 (.bool v4) (.int (IntKind.wrap .i64 (v0 + v6))) (.int v5)) 0).toInt = 1) (
 .row [.int 1, (.int 0), v2, (sl (EJ (.int v0) (upd v1 (mIx [.int .i64] v1 (.row [(.int v5)])) 1 (.int (IntKind.wrap .i64 (v0 + v6)))) v2 v3 (.bool v4) (.int (IntKind.wrap .i64 (v0 + v6))) (.int v5)) 1), (sl (EJ (.int v0) (upd v1 (mIx [.int .i64] v1 (.row [(.int v5)])) 1 (.int (IntKind.wrap .i64 (v0 + v6)))) v2 v3 (.bool v4) (.int (IntKind.wrap .i64 (v0 + v6))) (.int v5)) 2), (upd v1 (mIx [.int .i64] v1 (.row [(.int v5)])) 1 (.int (IntKind.wrap .i64 (v0 + v6))))]) (
 .row [])))))) (
 .row [.int 1, (.int 2), v2, v3, (.bool v4), v1])) := gw rfl rfl (cL rfl (cL (cL rfl (cL rfl (cg rfl (cQ rfl rfl) (cL (cQ rfl rfl) (cQ rfl rfl))))) rfl))
theorem Ya (v0 : D) (v1 : Bool) (v2 v3 : D) (v4 : Bool) (v5 : D) (v6 : Bool) (v7 : D) (v8 : Bool) (v9 : D) (v10 : Bool) (v11 v12 : Int) (v13 v14 v15 : D) (v16 v17 : Bool) (v18 : D) (v19 : Bool) (v20 : D) : De v0 (.bool v1) v2 v3 (.bool v4) v5 (.bool v6) v7 (.bool v8) v9 (.bool v10) (.int v11) (.int v12) v13 v14 v15 (.bool v16) (.bool v17) v18 (.bool v19) v20 =
  cond ((sl (DQ v3 (.bool v4) v20) 0).toInt = 1) (
 cond (0 < (len (sl (DQ v3 (.bool v4) v20) 1) : Int)) (
 cond ((sl (Ip (.int v12) v13 v14 v15 (.bool v16) (.int 0)) 0).toInt = 1) (
 cond (0 < (cl (sl (DQ v3 (.bool v4) v20) 1) 0 2).toInt) (
 cond ((sl (Lw (.int v12) (sl (Ip (.int v12) v13 v14 v15 (.bool v16) (.int 0)) 2) v14 v15 (.bool v16) (.int 0) (cl (sl (DQ v3 (.bool v4) v20) 1) 0 2)) 0).toInt = 1) (
 .row [.int 1, (cl (sl (DQ v3 (.bool v4) v20) 1) 0 0), (cl (sl (DQ v3 (.bool v4) v20) 1) 0 1), (cl (sl (DQ v3 (.bool v4) v20) 1) 0 2), (sl (Lw (.int v12) (sl (Ip (.int v12) v13 v14 v15 (.bool v16) (.int 0)) 2) v14 v15 (.bool v16) (.int 0) (cl (sl (DQ v3 (.bool v4) v20) 1) 0 2)) 2), (sl (Lw (.int v12) (sl (Ip (.int v12) v13 v14 v15 (.bool v16) (.int 0)) 2) v14 v15 (.bool v16) (.int 0) (cl (sl (DQ v3 (.bool v4) v20) 1) 0 2)) 3), (sl (Lw (.int v12) (sl (Ip (.int v12) v13 v14 v15 (.bool v16) (.int 0)) 2) v14 v15 (.bool v16) (.int 0) (cl (sl (DQ v3 (.bool v4) v20) 1) 0 2)) 4), (sl (Lw (.int v12) (sl (Ip (.int v12) v13 v14 v15 (.bool v16) (.int 0)) 2) v14 v15 (.bool v16) (.int 0) (cl (sl (DQ v3 (.bool v4) v20) 1) 0 2)) 5)]) (
 .row [])) (
 .row [.int 1, (cl (sl (DQ v3 (.bool v4) v20) 1) 0 0), (cl (sl (DQ v3 (.bool v4) v20) 1) 0 1), (cl (sl (DQ v3 (.bool v4) v20) 1) 0 2), v14, v15, (.bool v16), (sl (Ip (.int v12) v13 v14 v15 (.bool v16) (.int 0)) 2)])) (
 .row [])) (
 .row [])) (
 .row []) := gw rfl rfl (cQ (cL (cQ (cL (cQ rfl rfl) rfl) rfl) rfl) rfl)
theorem YH (v0 v1 : D) (v2 : Bool) (v3 : D) (v4 : Bool) (v5 : D) (v6 : Bool) : B4 v0 v1 (.bool v2) v3 (.bool v4) v5 (.bool v6) =
  cond ((sl (Wm v0 (ni v1 v2) (ni v3 v4) (ni v5 v6)) 0).toInt = 1) (
 cond ((sl (Wm v0 (ni v1 v2) (ni v3 v4) (ni v5 v6)) 2).toInt = 0) (
 cond ((sl (CB v3 (.bool v4)) 0).toInt = 1) (
 cond ((sl (B5 v1 (.bool v2)) 0).toInt = 1) (
 cond ((sl (B6 v3 (.bool v4)) 0).toInt = 1) (
 cond ((sl (A3 v5 (.bool v6)) 0).toInt = 1) (
 cond (0 < (len v1 : Int)) (
 cond ((sl (De (sl (CB v3 (.bool v4)) 1) (sl (CB v3 (.bool v4)) 2) v0 (sl (B5 v1 (.bool v2)) 1) (sl (B5 v1 (.bool v2)) 2) (sl (B6 v3 (.bool v4)) 1) (sl (B6 v3 (.bool v4)) 2) (sl (A3 v5 (.bool v6)) 1) (sl (A3 v5 (.bool v6)) 2) (Db 0 0) (.bool false) (.int 0) (.int 0) Ag (.bool true) AB (.bool true) (.bool false) AB (.bool true) (cl v1 0 0)) 0).toInt = 1) (
 .row [.int 1, v0, (sl (B5 v1 (.bool v2)) 1), (sl (B5 v1 (.bool v2)) 2), (sl (B6 v3 (.bool v4)) 1), (sl (B6 v3 (.bool v4)) 2), (sl (A3 v5 (.bool v6)) 1), (sl (A3 v5 (.bool v6)) 2), (sl (De (sl (CB v3 (.bool v4)) 1) (sl (CB v3 (.bool v4)) 2) v0 (sl (B5 v1 (.bool v2)) 1) (sl (B5 v1 (.bool v2)) 2) (sl (B6 v3 (.bool v4)) 1) (sl (B6 v3 (.bool v4)) 2) (sl (A3 v5 (.bool v6)) 1) (sl (A3 v5 (.bool v6)) 2) (Db 0 0) (.bool false) (.int 0) (.int 0) Ag (.bool true) AB (.bool true) (.bool false) AB (.bool true) (cl v1 0 0)) 1), (sl (De (sl (CB v3 (.bool v4)) 1) (sl (CB v3 (.bool v4)) 2) v0 (sl (B5 v1 (.bool v2)) 1) (sl (B5 v1 (.bool v2)) 2) (sl (B6 v3 (.bool v4)) 1) (sl (B6 v3 (.bool v4)) 2) (sl (A3 v5 (.bool v6)) 1) (sl (A3 v5 (.bool v6)) 2) (Db 0 0) (.bool false) (.int 0) (.int 0) Ag (.bool true) AB (.bool true) (.bool false) AB (.bool true) (cl v1 0 0)) 2), (sl (De (sl (CB v3 (.bool v4)) 1) (sl (CB v3 (.bool v4)) 2) v0 (sl (B5 v1 (.bool v2)) 1) (sl (B5 v1 (.bool v2)) 2) (sl (B6 v3 (.bool v4)) 1) (sl (B6 v3 (.bool v4)) 2) (sl (A3 v5 (.bool v6)) 1) (sl (A3 v5 (.bool v6)) 2) (Db 0 0) (.bool false) (.int 0) (.int 0) Ag (.bool true) AB (.bool true) (.bool false) AB (.bool true) (cl v1 0 0)) 3), AB, (sl (CB v3 (.bool v4)) 1), (sl (CB v3 (.bool v4)) 2), (sl (De (sl (CB v3 (.bool v4)) 1) (sl (CB v3 (.bool v4)) 2) v0 (sl (B5 v1 (.bool v2)) 1) (sl (B5 v1 (.bool v2)) 2) (sl (B6 v3 (.bool v4)) 1) (sl (B6 v3 (.bool v4)) 2) (sl (A3 v5 (.bool v6)) 1) (sl (A3 v5 (.bool v6)) 2) (Db 0 0) (.bool false) (.int 0) (.int 0) Ag (.bool true) AB (.bool true) (.bool false) AB (.bool true) (cl v1 0 0)) 4), (sl (De (sl (CB v3 (.bool v4)) 1) (sl (CB v3 (.bool v4)) 2) v0 (sl (B5 v1 (.bool v2)) 1) (sl (B5 v1 (.bool v2)) 2) (sl (B6 v3 (.bool v4)) 1) (sl (B6 v3 (.bool v4)) 2) (sl (A3 v5 (.bool v6)) 1) (sl (A3 v5 (.bool v6)) 2) (Db 0 0) (.bool false) (.int 0) (.int 0) Ag (.bool true) AB (.bool true) (.bool false) AB (.bool true) (cl v1 0 0)) 5), (sl (De (sl (CB v3 (.bool v4)) 1) (sl (CB v3 (.bool v4)) 2) v0 (sl (B5 v1 (.bool v2)) 1) (sl (B5 v1 (.bool v2)) 2) (sl (B6 v3 (.bool v4)) 1) (sl (B6 v3 (.bool v4)) 2) (sl (A3 v5 (.bool v6)) 1) (sl (A3 v5 (.bool v6)) 2) (Db 0 0) (.bool false) (.int 0) (.int 0) Ag (.bool true) AB (.bool true) (.bool false) AB (.bool true) (cl v1 0 0)) 6), (sl (De (sl (CB v3 (.bool v4)) 1) (sl (CB v3 (.bool v4)) 2) v0 (sl (B5 v1 (.bool v2)) 1) (sl (B5 v1 (.bool v2)) 2) (sl (B6 v3 (.bool v4)) 1) (sl (B6 v3 (.bool v4)) 2) (sl (A3 v5 (.bool v6)) 1) (sl (A3 v5 (.bool v6)) 2) (Db 0 0) (.bool false) (.int 0) (.int 0) Ag (.bool true) AB (.bool true) (.bool false) AB (.bool true) (cl v1 0 0)) 7)]) (
 .row [])) (
 .row [])) (
 .row [])) (
 .row [])) (
 .row [])) (
 .row [])) (
 .row [.int 2, (sl (Wm v0 (ni v1 v2) (ni v3 v4) (ni v5 v6)) 2)])) (
 .row []) := gw rfl rfl (cQ (cQ (cQ (cQ (cQ (cQ (cL (cQ rfl rfl) rfl) rfl) rfl) rfl) rfl) rfl) rfl)
theorem Yi (v0 : D) : Dg v0 =
  cond ((A5 v0 : Int) < 1) (
 .row [.int 1, (.bool false)]) (
 cond (32 < (A5 v0 : Int)) (
 .row [.int 1, (.bool false)]) (
 cond ((sAt v0 0) = 95) (
 .row [.int 1, (.bool false)]) (
 cond ((sAt v0 0) < 48) (
 JC v0 (.int 0)) (
 cond (57 < (sAt v0 0)) (
 JC v0 (.int 0)) (
 .row [.int 1, (.bool false)]))))) := gw rfl rfl (cL rfl (cL rfl (cQ rfl rfl)))
theorem Uc (v0 : D) (v1 : Int) : JC v0 (.int v1) =
  cond (v1 < (A5 v0 : Int)) (
 cond (v1 < 0) (
 .row []) (
 cond ((sAt v0 v1) < 97) (
 cond ((sAt v0 v1) < 65) (
 cond ((sAt v0 v1) < 48) (
 .row [.int 1, (.bool false)]) (
 cond (57 < (sAt v0 v1)) (
 .row [.int 1, (.bool false)]) (
 JC v0 (.int (IntKind.wrap .i64 (v1 + 1)))))) (
 cond (90 < (sAt v0 v1)) (
 cond ((sAt v0 v1) = 95) (
 JC v0 (.int (IntKind.wrap .i64 (v1 + 1)))) (
 .row [.int 1, (.bool false)])) (
 JC v0 (.int (IntKind.wrap .i64 (v1 + 1)))))) (
 cond (122 < (sAt v0 v1)) (
 .row [.int 1, (.bool false)]) (
 JC v0 (.int (IntKind.wrap .i64 (v1 + 1))))))) (
 .row [.int 1, (.bool true)]) := gw rfl rfl (cL (cL rfl (cL (cL rfl (cL (cQ rfl rfl) rfl)) rfl)) rfl)
theorem ga (v0 v1 v2 v3 v4 : D) : H8 v0 v1 v2 v3 v4 =
 SK v4 (.int 0) v0 v1 v2 v3 := gw rfl rfl rfl
theorem fH (v0 : D) (v1 : Int) (v2 v3 v4 v5 : D) : SK v0 (.int v1) v2 v3 v4 v5 =
  cond (v1 < len v4) (
 cond (v1 < 0) (
 .row []) (
 cond (D.strEq (cl v4 v1 0) v0) (
 .row [.int 1, (.int v1)]) (
 SK v0 (.int (IntKind.wrap .i64 (v1 + 1))) v2 v3 v4 v5))) (
 .row [.int 1, (.int (-1))]) := gw rfl rfl rfl
theorem aW (v0 v1 v2 v3 v4 : D) : G2 v0 v1 v2 v3 v4 =
 St v4 (.int 0) v0 v1 v2 v3 := gw rfl rfl rfl
theorem jC (v0 : D) (v1 : Int) (v2 v3 v4 v5 : D) : St v0 (.int v1) v2 v3 v4 v5 =
  cond (v1 < len v3) (
 cond (v1 < 0) (
 .row []) (
 cond (D.strEq (cl v3 v1 0) v0) (
 .row [.int 1, (.int v1)]) (
 St v0 (.int (IntKind.wrap .i64 (v1 + 1))) v2 v3 v4 v5))) (
 .row [.int 1, (.int (-1))]) := gw rfl rfl rfl
theorem kb (v0 v1 v2 v3 : D) (v4 : Int) : SN v0 v1 v2 v3 (.int v4) =
  cond (v4 < 0) (
 .row []) (
 cond (v4 < len v3) (
 cond ((sl (G2 v0 v1 v2 v3 (cl v3 v4 0)) 0).toInt = 1) (
 cond ((sl (G2 v0 v1 v2 v3 (cl v3 v4 0)) 1).toInt < 0) (
 .row [.int 1, (.bool false)]) (
 cond ((sl (G2 v0 v1 v2 v3 (cl v3 v4 1)) 0).toInt = 1) (
 cond ((sl (G2 v0 v1 v2 v3 (cl v3 v4 1)) 1).toInt < 0) (
 .row [.int 1, (.bool false)]) (
 cond (eqC (cl v3 v4 5) 0 0) (
 cond ((cl v3 v4 6).toInt = 0) (
 cond ((cl v3 v4 7).toInt = 0) (
 cond ((cl v3 v4 8).toInt = 0) (
 FO (.int v4) (sl (G2 v0 v1 v2 v3 (cl v3 v4 0)) 1) (.int 0) v0 v1 v2 v3 (cl v3 v4 0) (cl v3 v4 1) (cl v3 v4 2) (cl v3 v4 3) (cl v3 v4 4) (cl v3 v4 5) (cl v3 v4 6) (cl v3 v4 7) (cl v3 v4 8)) (
 .row [.int 1, (.bool false)])) (
 .row [.int 1, (.bool false)])) (
 .row [.int 1, (.bool false)])) (
 cond ((sl (H8 v0 v1 v2 v3 (cl v3 v4 5)) 0).toInt = 1) (
 cond ((sl (H8 v0 v1 v2 v3 (cl v3 v4 5)) 1).toInt < 0) (
 .row [.int 1, (.bool false)]) (
 cond ((cl v3 v4 6).toInt < 0) (
 .row [.int 1, (.bool false)]) (
 cond ((cl v3 v4 7).toInt < (cl v3 v4 6).toInt) (
 .row [.int 1, (.bool false)]) (
 cond ((sl (H8 v0 v1 v2 v3 (cl v3 v4 5)) 1).toInt < len v2) (
 cond ((cl v2 (sl (H8 v0 v1 v2 v3 (cl v3 v4 5)) 1).toInt 1).toInt < (cl v3 v4 7).toInt) (
 .row [.int 1, (.bool false)]) (
 cond ((cl v3 v4 8).toInt < (-1000)) (
 .row [.int 1, (.bool false)]) (
 cond (1000 < (cl v3 v4 8).toInt) (
 .row [.int 1, (.bool false)]) (
 cond ((IntKind.wrap .i64 ((cl v3 v4 6).toInt + (cl v3 v4 8).toInt)) < 0) (
 .row [.int 1, (.bool false)]) (
 cond ((cl v2 (sl (H8 v0 v1 v2 v3 (cl v3 v4 5)) 1).toInt 1).toInt < (IntKind.wrap .i64 ((cl v3 v4 7).toInt + (cl v3 v4 8).toInt))) (
 .row [.int 1, (.bool false)]) (
 FO (.int v4) (sl (G2 v0 v1 v2 v3 (cl v3 v4 0)) 1) (.int 0) v0 v1 v2 v3 (cl v3 v4 0) (cl v3 v4 1) (cl v3 v4 2) (cl v3 v4 3) (cl v3 v4 4) (cl v3 v4 5) (cl v3 v4 6) (cl v3 v4 7) (cl v3 v4 8))))))) (
 .row []))))) (
 .row [])))) (
 .row []))) (
 .row [])) (
 .row [])) := gw rfl rfl (cL rfl (cL (cQ (cL rfl (cQ (cL rfl (cg rfl (cQ (cQ (cQ rfl rfl) rfl) rfl) (cQ (cL rfl (cL rfl (cL rfl (cL (cL rfl (cL rfl (cL rfl rfl))) rfl)))) rfl))) rfl)) rfl) rfl))
theorem YF (v0 v1 v2 : Int) (v3 v4 v5 v6 v7 v8 : D) (v9 : Int) (v10 v11 v12 : D) (v13 v14 v15 : Int) : FO (.int v0) (.int v1) (.int v2) v3 v4 v5 v6 v7 v8 (.int v9) v10 v11 v12 (.int v13) (.int v14) (.int v15) =
  cond (v2 < v0) (
 cond (v2 < 0) (
 .row []) (
 cond (v2 < len v6) (
 cond ((D.strEq (cl v6 v2 0) v7 && (D.strEq (cl v6 v2 1) v8 && (decide ((cl v6 v2 2).toInt = v9) && (D.strEq (cl v6 v2 3) v10 && (D.strEq (cl v6 v2 4) v11 && (D.strEq (cl v6 v2 5) v12 && (decide ((cl v6 v2 6).toInt = v13) && (decide ((cl v6 v2 7).toInt = v14) && decide ((cl v6 v2 8).toInt = v15)))))))))) (
 .row [.int 1, (.bool false)]) (
 FO (.int v0) (.int v1) (.int (IntKind.wrap .i64 (v2 + 1))) v3 v4 v5 v6 v7 v8 (.int v9) v10 v11 v12 (.int v13) (.int v14) (.int v15))) (
 .row []))) (
 cond (v9 = 1) (
 cond ((sl (Dg v10) 0).toInt = 1) (
 cond ((sl (Dg v10) 1).toBool) (
 cond ((sl (Dg v11) 0).toInt = 1) (
 cond ((sl (Dg v11) 1).toBool) (
 .row [.int 1, (.bool (!D.strEq v11 v3))]) (
 .row [.int 1, (.bool false)])) (
 .row [])) (
 .row [.int 1, (.bool false)])) (
 .row [])) (
 cond (v9 = 2) (
 cond ((sl (Dg v10) 0).toInt = 1) (
 cond ((sl (Dg v10) 1).toBool) (
 cond ((sl (Dg v11) 0).toInt = 1) (
 cond ((sl (Dg v11) 1).toBool) (
 .row [.int 1, (.bool (!D.strEq v11 v3))]) (
 .row [.int 1, (.bool false)])) (
 .row [])) (
 .row [.int 1, (.bool false)])) (
 .row [])) (
 cond (v9 = 3) (
 cond (eqC v10 0 0) (
 cond (eqC v11 0 0) (
 cond (v1 < 0) (
 .row []) (
 cond (v1 < len v4) (
 .row [.int 1, (.bool (decide (0 < (cl v4 v1 2).toInt)))]) (
 .row []))) (
 .row [.int 1, (.bool false)])) (
 .row [.int 1, (.bool false)])) (
 cond (v9 = 4) (
 cond (eqC v10 0 0) (
 .row [.int 1, (.bool (eqC v11 0 0))]) (
 .row [.int 1, (.bool false)])) (
 .row [.int 1, (.bool false)]))))) := gw rfl rfl (cL (cL rfl (cL (cg (aE rfl (aE rfl (aE (qE rfl rfl) (aE rfl (aE rfl (aE rfl (aE (qE rfl rfl) (aE (qE rfl rfl) (qE rfl rfl))))))))) rfl rfl) rfl)) (cQ (cQ (cg rfl (cQ rfl rfl) rfl) rfl) (cQ (cQ (cg rfl (cQ rfl rfl) rfl) rfl) (cQ rfl (cQ rfl rfl)))))
theorem jn (v0 v1 v2 v3 : D) : PE v0 v1 v2 v3 =
  cond ((sl (Dg v0) 0).toInt = 1) (
 cond ((sl (Dg v0) 1).toBool) (
 cond (4 < (len v2 : Int)) (
 .row [.int 1, (.int 4), (.int 291)]) (
 JB (.int 0) v0 v1 v2 v3)) (
 .row [.int 1, (.int 0), (.int 290)])) (
 .row []) := gw rfl rfl (cQ rfl rfl)
theorem Yd (v0 : Int) (v1 v2 v3 v4 : D) : JB (.int v0) v1 v2 v3 v4 =
  cond (v0 < len v3) (
 cond (v0 < 0) (
 .row []) (
 cond ((sl (Dg (cl v3 v0 0)) 0).toInt = 1) (
 cond ((sl (Dg (cl v3 v0 0)) 1).toBool) (
 cond ((sl (H8 v1 v2 v3 v4 (cl v3 v0 0)) 0).toInt = 1) (
 cond ((sl (H8 v1 v2 v3 v4 (cl v3 v0 0)) 1).toInt = v0) (
 cond ((cl v3 v0 1).toInt < 1) (
 .row [.int 1, (.int v0), (.int 291)]) (
 cond (1000 < (cl v3 v0 1).toInt) (
 .row [.int 1, (.int v0), (.int 291)]) (
 JB (.int (IntKind.wrap .i64 (v0 + 1))) v1 v2 v3 v4))) (
 .row [.int 1, (.int v0), (.int 291)])) (
 .row [])) (
 .row [.int 1, (.int v0), (.int 291)])) (
 .row []))) (
 cond ((len v2 : Int) = 0) (
 .row [.int 1, (.int 0), (.int 292)]) (
 cond (24 < (len v2 : Int)) (
 .row [.int 1, (.int 24), (.int 292)]) (
 JK (.int 0) v1 v2 v3 v4))) := gw rfl rfl (cL (cL rfl (cQ (cg rfl (cQ (cQ (cL rfl (cL rfl rfl)) rfl) rfl) rfl) rfl)) (cQ rfl rfl))
theorem YC (v0 : Int) (v1 v2 v3 v4 : D) : JK (.int v0) v1 v2 v3 v4 =
  cond (v0 < len v2) (
 cond (v0 < 0) (
 .row []) (
 cond ((sl (Dg (cl v2 v0 0)) 0).toInt = 1) (
 cond ((sl (Dg (cl v2 v0 0)) 1).toBool) (
 cond ((sl (G2 v1 v2 v3 v4 (cl v2 v0 0)) 0).toInt = 1) (
 cond ((sl (G2 v1 v2 v3 v4 (cl v2 v0 0)) 1).toInt = v0) (
 cond ((cl v2 v0 2).toInt < 0) (
 .row [.int 1, (.int v0), (.int 292)]) (
 cond (1048576 < (cl v2 v0 2).toInt) (
 .row [.int 1, (.int v0), (.int 292)]) (
 JK (.int (IntKind.wrap .i64 (v0 + 1))) v1 v2 v3 v4))) (
 .row [.int 1, (.int v0), (.int 292)])) (
 .row [])) (
 .row [.int 1, (.int v0), (.int 292)])) (
 .row []))) (
 cond (80 < (len v4 : Int)) (
 .row [.int 1, (.int 80), (.int 293)]) (
 Ju (.int 0) v1 v2 v3 v4)) := gw rfl rfl (cL (cL rfl (cQ (cg rfl (cQ (cQ (cL rfl (cL rfl rfl)) rfl) rfl) rfl) rfl)) rfl)
theorem Yp (v0 : Int) (v1 v2 v3 v4 : D) : Ju (.int v0) v1 v2 v3 v4 =
  cond (v0 < len v4) (
 cond ((sl (SN v1 v2 v3 v4 (.int v0)) 0).toInt = 1) (
 cond ((sl (SN v1 v2 v3 v4 (.int v0)) 1).toBool) (
 Ju (.int (IntKind.wrap .i64 (v0 + 1))) v1 v2 v3 v4) (
 .row [.int 1, (.int v0), (.int 293)])) (
 .row [])) (
 .row [.int 1, (.int 0), (.int 0)]) := gw rfl rfl (cL (cQ rfl rfl) rfl)
theorem ic (v0 : D) : PO v0 =
  cond (4 < (len v0 : Int)) (
 .row [.int 1, AB, AB, (.int 2)]) (
 OY v0 (.int 0) AB (.bool true) AB (.bool true)) := gw rfl rfl rfl
theorem YJ (v0 : D) (v1 : Int) (v2 : D) (v3 : Bool) (v4 : D) (v5 : Bool) : OY v0 (.int v1) v2 (.bool v3) v4 (.bool v5) =
  cond (v1 < len v0) (
 cond (v1 < 0) (
 .row []) (
 cond (eqC (cl v0 v1 0) 0 0) (
 .row [.int 1, AB, AB, (.int 2)]) (
 cond ((cl v0 v1 1).toInt < 1) (
 .row [.int 1, AB, AB, (.int 2)]) (
 cond (1000 < (cl v0 v1 1).toInt) (
 .row [.int 1, AB, AB, (.int 2)]) (
 SL v0 (.int v1) (.int 0) v2 (.bool v3) v4 (.bool v5)))))) (
 .row [.int 1, (ni v2 v3), (ni v4 v5), (.int 0)]) := gw rfl rfl (cL (cL rfl (cg rfl rfl (cL rfl (cL rfl rfl)))) rfl)
theorem YG (v0 : D) (v1 v2 : Int) (v3 : D) (v4 : Bool) (v5 : D) (v6 : Bool) : SL v0 (.int v1) (.int v2) v3 (.bool v4) v5 (.bool v6) =
  cond (v2 < v1) (
 cond (v2 < 0) (
 .row []) (
 cond (v2 < len v0) (
 cond (v1 < 0) (
 .row []) (
 cond (v1 < len v0) (
 cond (D.strEq (cl v0 v2 0) (cl v0 v1 0)) (
 .row [.int 1, AB, AB, (.int 2)]) (
 SL v0 (.int v1) (.int (IntKind.wrap .i64 (v2 + 1))) v3 (.bool v4) v5 (.bool v6))) (
 .row []))) (
 .row []))) (
 cond (v1 < 0) (
 .row []) (
 cond (v1 < len v0) (
 cond ((len v3 : Int) < 1073741824) (
 cond ((len v5 : Int) < 1073741824) (
 OY v0 (.int (IntKind.wrap .i64 (v1 + 1))) (ad v3 (.row [(cl v0 v1 0), (cl v0 v1 1)])) (.bool false) (ad v5 (.row [(.int 0)])) (.bool false)) (
 .row [])) (
 .row [])) (
 .row []))) := gw rfl rfl (cL rfl (cL rfl (cL (cL (cL rfl rfl) rfl) rfl)))
theorem YA (v0 v1 v2 v3 : D) : DN v0 v1 v2 v3 =
  cond ((sl (PE v0 v1 v2 v3) 0).toInt = 1) (
 cond ((sl (PE v0 v1 v2 v3) 2).toInt = 0) (
 cond ((sl (PO v2) 0).toInt = 1) (
 cond (0 < (len v1 : Int)) (
 .row [.int 1, v0, v1, v2, v3, (cl v1 0 0), (sl (PO v2) 1), (sl (PO v2) 2), (.int 0)]) (
 .row [])) (
 .row [])) (
 .row [.int 1, (Db 0 0), AB, AB, AB, (Db 0 0), AB, AB, (sl (PE v0 v1 v2 v3) 2)])) (
 .row []) := gw rfl rfl (cQ (cQ (cQ rfl rfl) rfl) rfl)
theorem hZ (v0 : D) (v1 : Bool) (v2 v3 : D) (v4 : Bool) (v5 : D) (v6 : Bool) (v7 : D) (v8 : Bool) (v9 : D) (v10 : Bool) (v11 v12 : Int) (v13 v14 v15 : D) (v16 v17 : Bool) (v18 : D) (v19 : Bool) : C3 v0 (.bool v1) v2 v3 (.bool v4) v5 (.bool v6) v7 (.bool v8) v9 (.bool v10) (.int v11) (.int v12) v13 v14 v15 (.bool v16) (.bool v17) v18 (.bool v19) =
  cond ((sl (B5 v3 (.bool v4)) 0).toInt = 1) (
 cond ((sl (B6 v5 (.bool v6)) 0).toInt = 1) (
 cond ((sl (A3 v7 (.bool v8)) 0).toInt = 1) (
 .row [.int 1, v2, (sl (B5 v3 (.bool v4)) 1), (sl (B5 v3 (.bool v4)) 2), (sl (B6 v5 (.bool v6)) 1), (sl (B6 v5 (.bool v6)) 2), (sl (A3 v7 (.bool v8)) 1), (sl (A3 v7 (.bool v8)) 2)]) (
 .row [])) (
 .row [])) (
 .row []) := gw rfl rfl (cQ (cQ (cQ rfl rfl) rfl) rfl)
theorem gq (v0 v1 v2 v3 v4 v5 v6 v7 : D) : Ry v0 v1 v2 v3 v4 v5 v6 v7 =
  cond (D.strEq v0 v4) (
 cond ((len v2 : Int) = (len v6 : Int)) (
 cond ((len v1 : Int) = (len v5 : Int)) (
 cond ((len v3 : Int) = (len v7 : Int)) (
 Rz (.int 0) v0 v1 v2 v3 v4 v5 v6 v7) (
 .row [.int 1, (.bool false)])) (
 .row [.int 1, (.bool false)])) (
 .row [.int 1, (.bool false)])) (
 .row [.int 1, (.bool false)]) := gw rfl rfl (cg rfl (cQ (cQ (cQ rfl rfl) rfl) rfl) rfl)
theorem YL (v0 : Int) (v1 v2 v3 v4 v5 v6 v7 v8 : D) : Rz (.int v0) v1 v2 v3 v4 v5 v6 v7 v8 =
  cond (v0 < len v3) (
 cond (v0 < 0) (
 .row []) (
 cond (v0 < len v7) (
 cond ((D.strEq (cl v3 v0 0) (cl v7 v0 0) && decide ((cl v3 v0 1).toInt = (cl v7 v0 1).toInt))) (
 Rz (.int (IntKind.wrap .i64 (v0 + 1))) v1 v2 v3 v4 v5 v6 v7 v8) (
 .row [.int 1, (.bool false)])) (
 .row []))) (
 SM (.int 0) v1 v2 v3 v4 v5 v6 v7 v8) := gw rfl rfl (cL (cL rfl (cL (cg (aE rfl (qE rfl rfl)) rfl rfl) rfl)) rfl)
theorem YW (v0 : Int) (v1 v2 v3 v4 v5 v6 v7 v8 : D) : SM (.int v0) v1 v2 v3 v4 v5 v6 v7 v8 =
  cond (v0 < len v2) (
 cond (v0 < 0) (
 .row []) (
 cond (v0 < len v6) (
 cond ((D.strEq (cl v2 v0 0) (cl v6 v0 0) && ((!((!(((cl v2 v0 1).toBool && true) && ((cl v6 v0 1).toBool && true))) && (!((!((cl v2 v0 1).toBool && true)) && (!((cl v6 v0 1).toBool && true)))))) && decide ((cl v2 v0 2).toInt = (cl v6 v0 2).toInt)))) (
 SM (.int (IntKind.wrap .i64 (v0 + 1))) v1 v2 v3 v4 v5 v6 v7 v8) (
 .row [.int 1, (.bool false)])) (
 .row []))) (
 RP (.int 0) v1 v2 v3 v4 v5 v6 v7 v8) := gw rfl rfl (cL (cL rfl (cL (cg (aE rfl (aE (nE (aE (nE (aE (aE rfl rfl) (aE rfl rfl))) (nE (aE (nE (aE rfl rfl)) (nE (aE rfl rfl)))))) (qE rfl rfl))) rfl rfl) rfl)) rfl)
theorem X2 (v0 : Int) (v1 v2 v3 v4 v5 v6 v7 v8 : D) : RP (.int v0) v1 v2 v3 v4 v5 v6 v7 v8 =
  cond (v0 < len v4) (
 cond (v0 < 0) (
 .row []) (
 cond (v0 < len v8) (
 cond ((D.strEq (cl v4 v0 0) (cl v8 v0 0) && (D.strEq (cl v4 v0 1) (cl v8 v0 1) && (decide ((cl v4 v0 2).toInt = (cl v8 v0 2).toInt) && (D.strEq (cl v4 v0 3) (cl v8 v0 3) && (D.strEq (cl v4 v0 4) (cl v8 v0 4) && (D.strEq (cl v4 v0 5) (cl v8 v0 5) && (decide ((cl v4 v0 6).toInt = (cl v8 v0 6).toInt) && (decide ((cl v4 v0 7).toInt = (cl v8 v0 7).toInt) && decide ((cl v4 v0 8).toInt = (cl v8 v0 8).toInt)))))))))) (
 RP (.int (IntKind.wrap .i64 (v0 + 1))) v1 v2 v3 v4 v5 v6 v7 v8) (
 .row [.int 1, (.bool false)])) (
 .row []))) (
 .row [.int 1, (.bool true)]) := gw rfl rfl (cL (cL rfl (cL (cg (aE rfl (aE rfl (aE (qE rfl rfl) (aE rfl (aE rfl (aE rfl (aE (qE rfl rfl) (aE (qE rfl rfl) (qE rfl rfl))))))))) rfl rfl) rfl)) rfl)
theorem kF (v0 : D) (v1 : Bool) : Jo v0 (.bool v1) =
  cond (v1) (
 .row [.int 1, AB, (.bool true)]) (
 cond ((len v0 : Int) < 1048576) (
 .row [.int 1, (ct Ag v0), (.bool false)]) (
 .row [])) := gw rfl rfl (cg rfl rfl (cL rfl rfl))
theorem jV (v0 : Int) (v1 v2 v3 : D) (v4 : Bool) : FQ (.int v0) v1 v2 v3 (.bool v4) =
  cond (v2.toBool) (
 cond ((sl (Jo v3 (.bool v4)) 0).toInt = 1) (
 .row [.int 1, (.int v0), (.bool true), (sl (Jo v3 (.bool v4)) 1), (sl (Jo v3 (.bool v4)) 2), Ag]) (
 .row [])) (
 cond ((sl (Jo v3 (.bool v4)) 0).toInt = 1) (
 .row [.int 1, (.int v0), (.bool false), (sl (Jo v3 (.bool v4)) 1), (sl (Jo v3 (.bool v4)) 2), v1]) (
 .row [])) := gw rfl rfl (cg rfl (cQ rfl rfl) (cQ rfl rfl))
theorem ig (v0 : Int) (v1 v2 v3 : D) (v4 : Bool) : FZ (.int v0) v1 v2 v3 (.bool v4) =
  cond ((IntKind.wrap .i64 ((len v3 : Int) - 1)) < 0) (
 .row []) (
 cond ((IntKind.wrap .i64 ((len v3 : Int) - 1)) < (len v3 : Int)) (
 cond (0 < (len v3 : Int)) (
 cond ((len (upd (upd v3 0 0 (cl v3 (IntKind.wrap .i64 ((len v3 : Int) - 1)) 0)) 0 1 (cl v3 (IntKind.wrap .i64 ((len v3 : Int) - 1)) 1)) : Int) < (IntKind.wrap .i64 ((len v3 : Int) - 1))) (
 .row []) (
 Sb (.int (IntKind.wrap .i64 ((len v3 : Int) - 1))) (.int 0) (.int v0) v2 (sb (upd (upd v3 0 0 (cl v3 (IntKind.wrap .i64 ((len v3 : Int) - 1)) 0)) 0 1 (cl v3 (IntKind.wrap .i64 ((len v3 : Int) - 1)) 1)) 0 (IntKind.wrap .i64 ((len v3 : Int) - 1))) (.bool v4) v1)) (
 .row [])) (
 .row [])) := gw rfl rfl rfl
theorem Yf (v0 v1 v2 : Int) (v3 v4 : D) (v5 : Bool) (v6 : D) : Sb (.int v0) (.int v1) (.int v2) v3 v4 (.bool v5) v6 =
 By (.int v0) (.int v1) (.int v1) (.int 0) (.int v2) v3 v4 (.bool v5) v6 (.int (IntKind.wrap .i64 ((IntKind.wrap .i64 (2 * v1)) + 1))) (.int (IntKind.wrap .i64 ((IntKind.wrap .i64 (2 * v1)) + 2))) := gw rfl rfl rfl
theorem Sk (v0 v1 v2 v3 v4 : Int) (v5 v6 : D) (v7 : Bool) (v8 : D) (v9 v10 : Int) : By (.int v0) (.int v1) (.int v2) (.int v3) (.int v4) v5 v6 (.bool v7) v8 (.int v9) (.int v10) =
  cond (v3 < 2) (
 cond (v3 = 0) (
 cond (v9 < v0) (
 cond (v9 < 0) (
 .row []) (
 cond (v9 < len v6) (
 cond (v2 < 0) (
 .row []) (
 cond (v2 < len v6) (
 cond ((cl v6 v9 0).toInt < (cl v6 v2 0).toInt) (
 cond ((cl v6 v9 1).toInt < (cl v6 v2 1).toInt) (
 By (.int v0) (.int v1) (.int v9) (.int (IntKind.wrap .i64 (v3 + 1))) (.int v4) v5 v6 (.bool v7) v8 (.int v9) (.int v10)) (
 cond ((cl v6 v2 1).toInt < (cl v6 v9 1).toInt) (
 By (.int v0) (.int v1) (.int v9) (.int (IntKind.wrap .i64 (v3 + 1))) (.int v4) v5 v6 (.bool v7) v8 (.int v9) (.int v10)) (
 By (.int v0) (.int v1) (.int v9) (.int (IntKind.wrap .i64 (v3 + 1))) (.int v4) v5 v6 (.bool v7) v8 (.int v9) (.int v10)))) (
 cond ((cl v6 v2 0).toInt < (cl v6 v9 0).toInt) (
 cond ((cl v6 v9 1).toInt < (cl v6 v2 1).toInt) (
 By (.int v0) (.int v1) (.int v2) (.int (IntKind.wrap .i64 (v3 + 1))) (.int v4) v5 v6 (.bool v7) v8 (.int v9) (.int v10)) (
 cond ((cl v6 v2 1).toInt < (cl v6 v9 1).toInt) (
 By (.int v0) (.int v1) (.int v2) (.int (IntKind.wrap .i64 (v3 + 1))) (.int v4) v5 v6 (.bool v7) v8 (.int v9) (.int v10)) (
 By (.int v0) (.int v1) (.int v2) (.int (IntKind.wrap .i64 (v3 + 1))) (.int v4) v5 v6 (.bool v7) v8 (.int v9) (.int v10)))) (
 cond ((cl v6 v9 1).toInt < (cl v6 v2 1).toInt) (
 By (.int v0) (.int v1) (.int v9) (.int (IntKind.wrap .i64 (v3 + 1))) (.int v4) v5 v6 (.bool v7) v8 (.int v9) (.int v10)) (
 cond ((cl v6 v2 1).toInt < (cl v6 v9 1).toInt) (
 By (.int v0) (.int v1) (.int v2) (.int (IntKind.wrap .i64 (v3 + 1))) (.int v4) v5 v6 (.bool v7) v8 (.int v9) (.int v10)) (
 By (.int v0) (.int v1) (.int v2) (.int (IntKind.wrap .i64 (v3 + 1))) (.int v4) v5 v6 (.bool v7) v8 (.int v9) (.int v10)))))) (
 .row []))) (
 .row []))) (
 By (.int v0) (.int v1) (.int v2) (.int (IntKind.wrap .i64 (v3 + 1))) (.int v4) v5 v6 (.bool v7) v8 (.int v9) (.int v10))) (
 cond (v3 = 1) (
 cond (v10 < v0) (
 cond (v10 < 0) (
 .row []) (
 cond (v10 < len v6) (
 cond (v2 < 0) (
 .row []) (
 cond (v2 < len v6) (
 cond ((cl v6 v10 0).toInt < (cl v6 v2 0).toInt) (
 cond ((cl v6 v10 1).toInt < (cl v6 v2 1).toInt) (
 By (.int v0) (.int v1) (.int v10) (.int (IntKind.wrap .i64 (v3 + 1))) (.int v4) v5 v6 (.bool v7) v8 (.int v9) (.int v10)) (
 cond ((cl v6 v2 1).toInt < (cl v6 v10 1).toInt) (
 By (.int v0) (.int v1) (.int v10) (.int (IntKind.wrap .i64 (v3 + 1))) (.int v4) v5 v6 (.bool v7) v8 (.int v9) (.int v10)) (
 By (.int v0) (.int v1) (.int v10) (.int (IntKind.wrap .i64 (v3 + 1))) (.int v4) v5 v6 (.bool v7) v8 (.int v9) (.int v10)))) (
 cond ((cl v6 v2 0).toInt < (cl v6 v10 0).toInt) (
 cond ((cl v6 v10 1).toInt < (cl v6 v2 1).toInt) (
 By (.int v0) (.int v1) (.int v2) (.int (IntKind.wrap .i64 (v3 + 1))) (.int v4) v5 v6 (.bool v7) v8 (.int v9) (.int v10)) (
 cond ((cl v6 v2 1).toInt < (cl v6 v10 1).toInt) (
 By (.int v0) (.int v1) (.int v2) (.int (IntKind.wrap .i64 (v3 + 1))) (.int v4) v5 v6 (.bool v7) v8 (.int v9) (.int v10)) (
 By (.int v0) (.int v1) (.int v2) (.int (IntKind.wrap .i64 (v3 + 1))) (.int v4) v5 v6 (.bool v7) v8 (.int v9) (.int v10)))) (
 cond ((cl v6 v10 1).toInt < (cl v6 v2 1).toInt) (
 By (.int v0) (.int v1) (.int v10) (.int (IntKind.wrap .i64 (v3 + 1))) (.int v4) v5 v6 (.bool v7) v8 (.int v9) (.int v10)) (
 cond ((cl v6 v2 1).toInt < (cl v6 v10 1).toInt) (
 By (.int v0) (.int v1) (.int v2) (.int (IntKind.wrap .i64 (v3 + 1))) (.int v4) v5 v6 (.bool v7) v8 (.int v9) (.int v10)) (
 By (.int v0) (.int v1) (.int v2) (.int (IntKind.wrap .i64 (v3 + 1))) (.int v4) v5 v6 (.bool v7) v8 (.int v9) (.int v10)))))) (
 .row []))) (
 .row []))) (
 By (.int v0) (.int v1) (.int v2) (.int (IntKind.wrap .i64 (v3 + 1))) (.int v4) v5 v6 (.bool v7) v8 (.int v9) (.int v10))) (
 .row []))) (
 cond (v2 = v1) (
 .row [.int 1, v6, (.bool v7)]) (
 cond (v2 < 0) (
 .row []) (
 cond (v2 < len v6) (
 cond (v1 < 0) (
 .row []) (
 cond (v1 < len v6) (
 Sb (.int v0) (.int v2) (.int v4) v5 (upd (upd (upd (upd v6 v1 0 (cl v6 v2 0)) v1 1 (cl v6 v2 1)) v2 0 (cl v6 v1 0)) v2 1 (cl v6 v1 1)) (.bool v7) v8) (
 .row []))) (
 .row [])))) := gw rfl rfl (cL (cQ rfl (cQ rfl rfl)) (cQ rfl rfl))
theorem Rp (v0 : Int) (v1 v2 v3 : D) (v4 : Bool) : Br (.int v0) v1 v2 v3 (.bool v4) =
 JH (.int v0) v2 v3 (.bool v4) v1 := gw rfl rfl rfl
theorem U3 (v0 : Int) (v1 v2 : D) (v3 : Bool) (v4 : D) : JH (.int v0) v1 v2 (.bool v3) v4 =
  cond (0 < (len v2 : Int)) (
 cond (v1.toBool) (
 cond ((sl (FZ (.int v0) v4 v1 v2 (.bool v3)) 0).toInt = 1) (
 JH (.int v0) v1 (sl (FZ (.int v0) v4 v1 v2 (.bool v3)) 1) (sl (FZ (.int v0) v4 v1 v2 (.bool v3)) 2) v4) (
 .row [])) (
 cond ((mIx [.int .i64] v4 (.row [(cl v2 0 1)])) < 0) (
 cond ((sl (FZ (.int v0) v4 v1 v2 (.bool v3)) 0).toInt = 1) (
 JH (.int v0) v1 (sl (FZ (.int v0) v4 v1 v2 (.bool v3)) 1) (sl (FZ (.int v0) v4 v1 v2 (.bool v3)) 2) v4) (
 .row [])) (
 cond ((cl v4 (mIx [.int .i64] v4 (.row [(cl v2 0 1)])) 1).toInt = (cl v2 0 0).toInt) (
 .row [.int 1, (cl v2 0 0), (cl v2 0 1), (.bool true), v2, (.bool v3)]) (
 cond ((sl (FZ (.int v0) v4 v1 v2 (.bool v3)) 0).toInt = 1) (
 JH (.int v0) v1 (sl (FZ (.int v0) v4 v1 v2 (.bool v3)) 1) (sl (FZ (.int v0) v4 v1 v2 (.bool v3)) 2) v4) (
 .row []))))) (
 .row [.int 1, (.int 0), (.int 0), (.bool false), v2, (.bool v3)]) := gw rfl rfl (cL (cg rfl (cQ rfl rfl) (cL (cQ rfl rfl) (cQ rfl (cQ rfl rfl)))) rfl)
theorem bK (v0 : Int) (v1 v2 v3 : D) (v4 : Bool) (v5 : Int) : K0 (.int v0) v1 v2 v3 (.bool v4) (.int v5) =
  cond (1099511627776 < v5) (
 .row [.int 1, AB, (.bool true), (.int 3), (.int v0), v3, (.bool v4), v1]) (
 cond (v0 < v5) (
 cond ((sl (Br (.int v5) v1 v2 v3 (.bool v4)) 0).toInt = 1) (
 LN AB (.bool true) (sl (Br (.int v5) v1 v2 v3 (.bool v4)) 3) (.int v5) v2 (sl (Br (.int v5) v1 v2 v3 (.bool v4)) 4) (sl (Br (.int v5) v1 v2 v3 (.bool v4)) 5) v1 (sl (Br (.int v5) v1 v2 v3 (.bool v4)) 1) (sl (Br (.int v5) v1 v2 v3 (.bool v4)) 2)) (
 .row [])) (
 cond ((sl (Br (.int v0) v1 v2 v3 (.bool v4)) 0).toInt = 1) (
 LN AB (.bool true) (sl (Br (.int v0) v1 v2 v3 (.bool v4)) 3) (.int v0) v2 (sl (Br (.int v0) v1 v2 v3 (.bool v4)) 4) (sl (Br (.int v0) v1 v2 v3 (.bool v4)) 5) v1 (sl (Br (.int v0) v1 v2 v3 (.bool v4)) 1) (sl (Br (.int v0) v1 v2 v3 (.bool v4)) 2)) (
 .row []))) := gw rfl rfl (cL rfl (cL (cQ rfl rfl) (cQ rfl rfl)))
theorem SH (v0 : D) (v1 v2 : Bool) (v3 : Int) (v4 v5 : D) (v6 : Bool) (v7 : D) (v8 v9 : Int) : LN v0 (.bool v1) (.bool v2) (.int v3) v4 v5 (.bool v6) v7 (.int v8) (.int v9) =
  cond (v2) (
 cond (v3 < v8) (
 .row [.int 1, v0, (.bool v1), (.int 0), (.int v3), v5, (.bool v6), v7]) (
 cond ((len v0 : Int) < 1073741824) (
 cond (v4.toBool) (
 cond ((sl (Br (.int v3) v7 v4 v5 (.bool v6)) 0).toInt = 1) (
 LN (ad v0 (.row [(.int v9)])) (.bool false) (sl (Br (.int v3) v7 v4 v5 (.bool v6)) 3) (.int v3) v4 (sl (Br (.int v3) v7 v4 v5 (.bool v6)) 4) (sl (Br (.int v3) v7 v4 v5 (.bool v6)) 5) v7 (sl (Br (.int v3) v7 v4 v5 (.bool v6)) 1) (sl (Br (.int v3) v7 v4 v5 (.bool v6)) 2)) (
 .row [])) (
 cond ((mIx [.int .i64] v7 (.row [(.int v9)])) < 0) (
 cond ((sl (Br (.int v3) v7 v4 v5 (.bool v6)) 0).toInt = 1) (
 LN (ad v0 (.row [(.int v9)])) (.bool false) (sl (Br (.int v3) v7 v4 v5 (.bool v6)) 3) (.int v3) v4 (sl (Br (.int v3) v7 v4 v5 (.bool v6)) 4) (sl (Br (.int v3) v7 v4 v5 (.bool v6)) 5) v7 (sl (Br (.int v3) v7 v4 v5 (.bool v6)) 1) (sl (Br (.int v3) v7 v4 v5 (.bool v6)) 2)) (
 .row [])) (
 cond ((sl (Br (.int v3) (JU v7 (mIx [.int .i64] v7 (.row [(.int v9)]))) v4 v5 (.bool v6)) 0).toInt = 1) (
 LN (ad v0 (.row [(.int v9)])) (.bool false) (sl (Br (.int v3) (JU v7 (mIx [.int .i64] v7 (.row [(.int v9)]))) v4 v5 (.bool v6)) 3) (.int v3) v4 (sl (Br (.int v3) (JU v7 (mIx [.int .i64] v7 (.row [(.int v9)]))) v4 v5 (.bool v6)) 4) (sl (Br (.int v3) (JU v7 (mIx [.int .i64] v7 (.row [(.int v9)]))) v4 v5 (.bool v6)) 5) (JU v7 (mIx [.int .i64] v7 (.row [(.int v9)]))) (sl (Br (.int v3) (JU v7 (mIx [.int .i64] v7 (.row [(.int v9)]))) v4 v5 (.bool v6)) 1) (sl (Br (.int v3) (JU v7 (mIx [.int .i64] v7 (.row [(.int v9)]))) v4 v5 (.bool v6)) 2)) (
 .row [])))) (
 .row []))) (
 .row [.int 1, v0, (.bool v1), (.int 0), (.int v3), v5, (.bool v6), v7]) := gw rfl rfl (cg rfl (cL rfl (cL (cg rfl (cQ rfl rfl) (cL (cQ rfl rfl) (cQ rfl rfl))) rfl)) rfl)
theorem fK (v0 : D) (v1 : Bool) (v2 : D) : FqQ v0 (.bool v1) v2 =
  cond ((sl (DD v0 (.bool v1) v2) 0).toInt = 1) (
 cond ((sl (DD v0 (.bool v1) v2) 1).toInt < 0) (
 .row [.int 1, (.int 0), (.int 9)]) (
 cond ((sl (DD v0 (.bool v1) v2) 1).toInt < len v0) (
 .row [.int 1, (cl v0 (sl (DD v0 (.bool v1) v2) 1).toInt 2), (.int 0)]) (
 .row []))) (
 .row []) := gw rfl rfl (cQ rfl rfl)
theorem km (v0 : D) (v1 : Bool) (v2 v3 : D) (v4 : Int) (v5 v6 v7 : D) (v8 v9 v10 : Int) : FN v0 (.bool v1) v2 v3 (.int v4) v5 v6 v7 (.int v8) (.int v9) (.int v10) =
  cond (eqC v7 0 0) (
 .row [.int 1, (.bool true), (.int 0)]) (
 cond ((sl (FqQ v0 (.bool v1) v7) 0).toInt = 1) (
 cond ((sl (FqQ v0 (.bool v1) v7) 2).toInt = 0) (
 cond ((sl (DD v0 (.bool v1) v7) 0).toInt = 1) (
 cond ((sl (DD v0 (.bool v1) v7) 1).toInt < 0) (
 .row []) (
 cond ((sl (DD v0 (.bool v1) v7) 1).toInt < len v0) (
 cond ((sl (FqQ v0 (.bool v1) v7) 1).toInt < v8) (
 .row [.int 1, (.bool false), (.int 0)]) (
 cond (v9 < (sl (FqQ v0 (.bool v1) v7) 1).toInt) (
 .row [.int 1, (.bool false), (.int 0)]) (
 cond (v10 < (IntKind.wrap .i64 (0 - (sl (FqQ v0 (.bool v1) v7) 1).toInt))) (
 .row [.int 1, (.bool false), (.int 0)]) (
 .row [.int 1, (.bool (!decide ((IntKind.wrap .i64 ((cl v0 (sl (DD v0 (.bool v1) v7) 1).toInt 1).toInt - (sl (FqQ v0 (.bool v1) v7) 1).toInt)) < v10))), (.int 0)])))) (
 .row []))) (
 .row [])) (
 .row [.int 1, (.bool false), (sl (FqQ v0 (.bool v1) v7) 2)])) (
 .row [])) := gw rfl rfl (cg rfl rfl (cQ (cQ (cQ rfl rfl) rfl) rfl))
theorem ci (v0 : D) (v1 : Bool) (v2 v3 : D) (v4 : Bool) (v5 : D) (v6 : Bool) (v7 : D) (v8 : Bool) (v9 : D) (v10 : Bool) (v11 v12 : Int) (v13 v14 v15 : D) (v16 v17 : Bool) (v18 : D) (v19 v20 : Bool) (v21 v22 : D) (v23 : Int) (v24 v25 v26 : D) (v27 v28 v29 : Int) : RG v0 (.bool v1) v2 v3 (.bool v4) v5 (.bool v6) v7 (.bool v8) v9 (.bool v10) (.int v11) (.int v12) v13 v14 v15 (.bool v16) (.bool v17) v18 (.bool v19) (.bool v20) v21 v22 (.int v23) v24 v25 v26 (.int v27) (.int v28) (.int v29) =
 K3 (.int 0) v2 v3 (.bool v4) v5 (.bool v6) v7 (.bool v8) v9 (.bool v10) (.int v11) (.bool v17) v18 (.bool v19) v0 (.bool v1) (.int v12) v14 v15 (.bool v16) v13 v21 v22 (.int v23) v24 v25 v26 (.int v27) (.int v28) (.int v29) (.bool v20) := gw rfl rfl rfl
theorem Ro (v0 : Int) (v1 v2 : D) (v3 : Bool) (v4 : D) (v5 : Bool) (v6 : D) (v7 : Bool) (v8 : D) (v9 : Bool) (v10 : Int) (v11 : Bool) (v12 : D) (v13 : Bool) (v14 : D) (v15 : Bool) (v16 : Int) (v17 v18 : D) (v19 : Bool) (v20 v21 v22 : D) (v23 : Int) (v24 v25 v26 : D) (v27 v28 v29 : Int) (v30 : Bool) : K3 (.int v0) v1 v2 (.bool v3) v4 (.bool v5) v6 (.bool v7) v8 (.bool v9) (.int v10) (.bool v11) v12 (.bool v13) v14 (.bool v15) (.int v16) v17 v18 (.bool v19) v20 v21 v22 (.int v23) v24 v25 v26 (.int v27) (.int v28) (.int v29) (.bool v30) =
  cond (v0 < 3) (
 cond (v0 = 0) (
 cond (D.strEq v21 v8) (
 K3 (.int (IntKind.wrap .i64 (v0 + 1))) v1 v2 (.bool v3) v4 (.bool v5) v6 (.bool v7) v8 (.bool v9) (.int v10) (.bool v11) v12 (.bool v13) v14 (.bool v15) (.int v16) v17 v18 (.bool v19) v20 v21 v22 (.int v23) v24 v25 v26 (.int v27) (.int v28) (.int v29) (.bool v30)) (
 .row [.int 1, (.bool false)])) (
 cond (v0 = 1) (
 cond ((sl (FN v14 (.bool v15) v21 v22 (.int v23) v24 v25 v26 (.int v27) (.int v28) (.int v29)) 0).toInt = 1) (
 cond ((sl (FN v14 (.bool v15) v21 v22 (.int v23) v24 v25 v26 (.int v27) (.int v28) (.int v29)) 1).toBool) (
 K3 (.int (IntKind.wrap .i64 (v0 + 1))) v1 v2 (.bool v3) v4 (.bool v5) v6 (.bool v7) v8 (.bool v9) (.int v10) (.bool v11) v12 (.bool v13) v14 (.bool v15) (.int v16) v17 v18 (.bool v19) v20 v21 v22 (.int v23) v24 v25 v26 (.int v27) (.int v28) (.int v29) (.bool v30)) (
 .row [.int 1, (.bool false)])) (
 .row [])) (
 cond (v0 = 2) (
 cond (v23 = 3) (
 cond (v30) (
 K3 (.int (IntKind.wrap .i64 (v0 + 1))) v1 v2 (.bool v3) v4 (.bool v5) v6 (.bool v7) v8 (.bool v9) (.int v10) (.bool v11) v12 (.bool v13) v14 (.bool v15) (.int v16) v17 v18 (.bool v19) v20 v21 v22 (.int v23) v24 v25 v26 (.int v27) (.int v28) (.int v29) (.bool v30)) (
 .row [.int 1, (.bool false)])) (
 K3 (.int (IntKind.wrap .i64 (v0 + 1))) v1 v2 (.bool v3) v4 (.bool v5) v6 (.bool v7) v8 (.bool v9) (.int v10) (.bool v11) v12 (.bool v13) v14 (.bool v15) (.int v16) v17 v18 (.bool v19) v20 v21 v22 (.int v23) v24 v25 v26 (.int v27) (.int v28) (.int v29) (.bool v30))) (
 .row [])))) (
 .row [.int 1, (.bool true)]) := gw rfl rfl (cL (cQ rfl (cQ (cQ rfl rfl) (cQ (cQ rfl rfl) rfl))) rfl)
theorem bX (v0 : D) (v1 : Bool) (v2 : D) (v3 : Bool) (v4 v5 : D) (v6 : Bool) (v7 : D) (v8 : Bool) (v9 : D) (v10 : Bool) (v11 : D) (v12 : Bool) (v13 v14 : Int) (v15 v16 v17 : D) (v18 v19 : Bool) (v20 : D) (v21 v22 : Bool) (v23 : D) (v24 : Bool) (v25 : D) : Le v0 (.bool v1) v2 (.bool v3) v4 v5 (.bool v6) v7 (.bool v8) v9 (.bool v10) v11 (.bool v12) (.int v13) (.int v14) v15 v16 v17 (.bool v18) (.bool v19) v20 (.bool v21) (.bool v22) v23 (.bool v24) v25 =
 MI v23 (.bool v24) (.int 0) v0 (.bool v1) (.bool v22) v4 v5 (.bool v6) v7 (.bool v8) v9 (.bool v10) v11 (.bool v12) (.int v13) (.bool v19) v20 (.bool v21) v2 (.bool v3) (.int v14) v16 v17 (.bool v18) v15 v25 := gw rfl rfl rfl
theorem X8 (v0 : D) (v1 : Bool) (v2 : Int) (v3 : D) (v4 v5 : Bool) (v6 v7 : D) (v8 : Bool) (v9 : D) (v10 : Bool) (v11 : D) (v12 : Bool) (v13 : D) (v14 : Bool) (v15 : Int) (v16 : Bool) (v17 : D) (v18 : Bool) (v19 : D) (v20 : Bool) (v21 : Int) (v22 v23 : D) (v24 : Bool) (v25 v26 : D) : MI v0 (.bool v1) (.int v2) v3 (.bool v4) (.bool v5) v6 v7 (.bool v8) v9 (.bool v10) v11 (.bool v12) v13 (.bool v14) (.int v15) (.bool v16) v17 (.bool v18) v19 (.bool v20) (.int v21) v22 v23 (.bool v24) v25 v26 =
  cond (v2 < len v0) (
 cond (v2 < 0) (
 .row []) (
 cond (D.strEq (cl v0 v2 0) v26) (
 cond ((sl (RG v19 (.bool v20) v6 v7 (.bool v8) v9 (.bool v10) v11 (.bool v12) v13 (.bool v14) (.int v15) (.int v21) v25 v22 v23 (.bool v24) (.bool v16) v17 (.bool v18) (.bool v5) (cl v0 v2 0) (cl v0 v2 1) (cl v0 v2 2) (cl v0 v2 3) (cl v0 v2 4) (cl v0 v2 5) (cl v0 v2 6) (cl v0 v2 7) (cl v0 v2 8)) 0).toInt = 1) (
 cond ((sl (RG v19 (.bool v20) v6 v7 (.bool v8) v9 (.bool v10) v11 (.bool v12) v13 (.bool v14) (.int v15) (.int v21) v25 v22 v23 (.bool v24) (.bool v16) v17 (.bool v18) (.bool v5) (cl v0 v2 0) (cl v0 v2 1) (cl v0 v2 2) (cl v0 v2 3) (cl v0 v2 4) (cl v0 v2 5) (cl v0 v2 6) (cl v0 v2 7) (cl v0 v2 8)) 1).toBool) (
 cond ((len v3 : Int) < 1073741824) (
 MI v0 (.bool v1) (.int (IntKind.wrap .i64 (v2 + 1))) (ad v3 (.row [(.int v2)])) (.bool false) (.bool v5) v6 v7 (.bool v8) v9 (.bool v10) v11 (.bool v12) v13 (.bool v14) (.int v15) (.bool v16) v17 (.bool v18) v19 (.bool v20) (.int v21) v22 v23 (.bool v24) v25 v26) (
 .row [])) (
 MI v0 (.bool v1) (.int (IntKind.wrap .i64 (v2 + 1))) v3 (.bool v4) (.bool v5) v6 v7 (.bool v8) v9 (.bool v10) v11 (.bool v12) v13 (.bool v14) (.int v15) (.bool v16) v17 (.bool v18) v19 (.bool v20) (.int v21) v22 v23 (.bool v24) v25 v26)) (
 .row [])) (
 MI v0 (.bool v1) (.int (IntKind.wrap .i64 (v2 + 1))) v3 (.bool v4) (.bool v5) v6 v7 (.bool v8) v9 (.bool v10) v11 (.bool v12) v13 (.bool v14) (.int v15) (.bool v16) v17 (.bool v18) v19 (.bool v20) (.int v21) v22 v23 (.bool v24) v25 v26))) (
 .row [.int 1, v3, (.bool v4)]) := gw rfl rfl (cL (cL rfl (cg rfl (cQ (cg rfl (cL rfl rfl) rfl) rfl) rfl)) rfl)
theorem VJ (v0 : D) (v1 : Bool) (v2 v3 : D) (v4 : Bool) (v5 : D) (v6 : Bool) (v7 : D) (v8 : Bool) (v9 : D) (v10 : Bool) (v11 v12 : Int) (v13 v14 v15 : D) (v16 v17 : Bool) (v18 : D) (v19 : Bool) (v20 : Int) {F0 F1 : D} (h0 : FQ (.int v12) v13 v14 v15 (.bool v16) = F0) (h1 : K0 (sl F0 1) (sl F0 5) (sl F0 2) (sl F0 3) (sl F0 4) (.int v20) = F1) : OE v0 (.bool v1) v2 v3 (.bool v4) v5 (.bool v6) v7 (.bool v8) v9 (.bool v10) (.int v11) (.int v12) v13 v14 v15 (.bool v16) (.bool v17) v18 (.bool v19) (.int v20) =
  cond (v20 < v12) (
 .row [.int 1, AB, (.bool true), (.int 3), (.bool v17), (.int v12), v14, v15, (.bool v16), v13]) (
 cond (1099511627776 < v20) (
 .row [.int 1, AB, (.bool true), (.int 3), (.bool v17), (.int v12), v14, v15, (.bool v16), v13]) (
 cond ((sl F0 0).toInt = 1) (
 cond ((sl F1 0).toInt = 1) (
 cond (v17) (
 cond ((sl (A3 v7 (.bool v8)) 0).toInt = 1) (
 cond ((sl (Le AB (.bool true) v0 (.bool v1) v2 v3 (.bool v4) v5 (.bool v6) v7 (.bool v8) v9 (.bool v10) (.int v11) (sl F1 4) (sl F1 7) (sl F0 2) (sl F1 5) (sl F1 6) (.bool true) v18 (.bool v19) (.bool true) (sl (A3 v7 (.bool v8)) 1) (sl (A3 v7 (.bool v8)) 2) v9) 0).toInt = 1) (
 .row [.int 1, (sl (Le AB (.bool true) v0 (.bool v1) v2 v3 (.bool v4) v5 (.bool v6) v7 (.bool v8) v9 (.bool v10) (.int v11) (sl F1 4) (sl F1 7) (sl F0 2) (sl F1 5) (sl F1 6) (.bool true) v18 (.bool v19) (.bool true) (sl (A3 v7 (.bool v8)) 1) (sl (A3 v7 (.bool v8)) 2) v9) 1), (sl (Le AB (.bool true) v0 (.bool v1) v2 v3 (.bool v4) v5 (.bool v6) v7 (.bool v8) v9 (.bool v10) (.int v11) (sl F1 4) (sl F1 7) (sl F0 2) (sl F1 5) (sl F1 6) (.bool true) v18 (.bool v19) (.bool true) (sl (A3 v7 (.bool v8)) 1) (sl (A3 v7 (.bool v8)) 2) v9) 2), (.int 0), (.bool true), (sl F1 4), (sl F0 2), (sl F1 5), (sl F1 6), (sl F1 7)]) (
 .row [])) (
 .row [])) (
 cond ((sl (A3 v7 (.bool v8)) 0).toInt = 1) (
 cond ((sl (Le AB (.bool true) v0 (.bool v1) v2 v3 (.bool v4) v5 (.bool v6) v7 (.bool v8) v9 (.bool v10) (.int v11) (sl F1 4) (sl F1 7) (sl F0 2) (sl F1 5) (sl F1 6) (.bool (decide (0 < (len (sl F1 1) : Int)))) v18 (.bool v19) (.bool (decide (0 < (len (sl F1 1) : Int)))) (sl (A3 v7 (.bool v8)) 1) (sl (A3 v7 (.bool v8)) 2) v9) 0).toInt = 1) (
 .row [.int 1, (sl (Le AB (.bool true) v0 (.bool v1) v2 v3 (.bool v4) v5 (.bool v6) v7 (.bool v8) v9 (.bool v10) (.int v11) (sl F1 4) (sl F1 7) (sl F0 2) (sl F1 5) (sl F1 6) (.bool (decide (0 < (len (sl F1 1) : Int)))) v18 (.bool v19) (.bool (decide (0 < (len (sl F1 1) : Int)))) (sl (A3 v7 (.bool v8)) 1) (sl (A3 v7 (.bool v8)) 2) v9) 1), (sl (Le AB (.bool true) v0 (.bool v1) v2 v3 (.bool v4) v5 (.bool v6) v7 (.bool v8) v9 (.bool v10) (.int v11) (sl F1 4) (sl F1 7) (sl F0 2) (sl F1 5) (sl F1 6) (.bool (decide (0 < (len (sl F1 1) : Int)))) v18 (.bool v19) (.bool (decide (0 < (len (sl F1 1) : Int)))) (sl (A3 v7 (.bool v8)) 1) (sl (A3 v7 (.bool v8)) 2) v9) 2), (.int 0), (.bool (decide (0 < (len (sl F1 1) : Int)))), (sl F1 4), (sl F0 2), (sl F1 5), (sl F1 6), (sl F1 7)]) (
 .row [])) (
 .row []))) (
 .row [])) (
 .row []))) := by
  subst h0; subst h1; exact gw rfl rfl (cL rfl (cL rfl (cQ (cQ (cg rfl (cQ (cQ rfl rfl) rfl) (cQ (cQ rfl rfl) rfl)) rfl) rfl)))
theorem kM (v0 v1 v2 : D) : DU v0 v1 v2 =
 SF v2 (.int 0) v0 v1 := gw rfl rfl rfl
theorem cO (v0 : D) (v1 : Int) (v2 v3 : D) : SF v0 (.int v1) v2 v3 =
  cond (v1 < len v2) (
 cond (v1 < 0) (
 .row []) (
 cond (D.strEq (cl v2 v1 0) v0) (
 .row [.int 1, (.int v1)]) (
 SF v0 (.int (IntKind.wrap .i64 (v1 + 1))) v2 v3))) (
 .row [.int 1, (.int (-1))]) := gw rfl rfl rfl
theorem dg (v0 v1 v2 v3 : D) (v4 : Int) (v5 v6 v7 : D) (v8 v9 v10 : Int) : Jz v0 v1 v2 v3 (.int v4) v5 v6 v7 (.int v8) (.int v9) (.int v10) =
  cond (eqC v7 0 0) (
 .row [.int 1, (.bool true), (.int 0)]) (
 cond ((sl (DU v0 v1 v7) 0).toInt = 1) (
 cond ((sl (DU v0 v1 v7) 1).toInt < 0) (
 .row [.int 1, (.bool false), (.int 9)]) (
 cond ((sl (DU v0 v1 v7) 1).toInt < len v0) (
 cond ((sl (DU v0 v1 v7) 1).toInt < len v1) (
 cond ((cl v1 (sl (DU v0 v1 v7) 1).toInt 0).toInt < v8) (
 .row [.int 1, (.bool false), (.int 0)]) (
 cond (v9 < (cl v1 (sl (DU v0 v1 v7) 1).toInt 0).toInt) (
 .row [.int 1, (.bool false), (.int 0)]) (
 cond (v10 < (-1000)) (
 .row [.int 1, (.bool false), (.int 0)]) (
 cond (1000 < v10) (
 .row [.int 1, (.bool false), (.int 0)]) (
 cond ((IntKind.wrap .i64 ((cl v1 (sl (DU v0 v1 v7) 1).toInt 0).toInt + v10)) < 0) (
 .row [.int 1, (.bool false), (.int 0)]) (
 cond ((cl v0 (sl (DU v0 v1 v7) 1).toInt 1).toInt < (IntKind.wrap .i64 ((cl v1 (sl (DU v0 v1 v7) 1).toInt 0).toInt + v10))) (
 .row [.int 1, (.bool false), (.int 0)]) (
 .row [.int 1, (.bool true), (.int 0)]))))))) (
 .row [])) (
 .row []))) (
 .row [])) := gw rfl rfl (cg rfl rfl (cQ (cL rfl (cL (cL (cL rfl (cL rfl (cL rfl (cL rfl rfl)))) rfl) rfl)) rfl))
theorem iZ (v0 v1 v2 v3 v4 : D) : Hb v0 v1 v2 v3 v4 =
 MN v4 (.int 0) v0 v1 v2 v3 := gw rfl rfl rfl
theorem fM (v0 : D) (v1 : Int) (v2 v3 v4 v5 : D) : MN v0 (.int v1) v2 v3 v4 v5 =
  cond (v1 < len v3) (
 cond (v1 < 0) (
 .row []) (
 cond (D.strEq (cl v3 v1 0) v0) (
 .row [.int 1, (cl v3 v1 0), (cl v3 v1 1), (cl v3 v1 2)]) (
 MN v0 (.int (IntKind.wrap .i64 (v1 + 1))) v2 v3 v4 v5))) (
 .row [.int 1, (Db 0 0), (.bool false), (.int 0)]) := gw rfl rfl rfl
theorem jo (v0 v1 v2 v3 v4 : D) (v5 : Int) (v6 v7 : D) (v8 : Int) (v9 : D) (v10 v11 : Int) : G5 v0 v1 v2 v3 v4 (.int v5) v6 v7 (.int v8) v9 (.int v10) (.int v11) =
  cond (v11 < 0) (
 .row []) (
 cond (v11 < len v3) (
 cond ((sl (Jz v6 v7 (cl v3 v11 0) (cl v3 v11 1) (cl v3 v11 2) (cl v3 v11 3) (cl v3 v11 4) (cl v3 v11 5) (cl v3 v11 6) (cl v3 v11 7) (cl v3 v11 8)) 0).toInt = 1) (
 cond (D.strEq (cl v3 v11 0) v4) (
 cond ((sl (Jz v6 v7 (cl v3 v11 0) (cl v3 v11 1) (cl v3 v11 2) (cl v3 v11 3) (cl v3 v11 4) (cl v3 v11 5) (cl v3 v11 6) (cl v3 v11 7) (cl v3 v11 8)) 1).toBool) (
 cond ((cl v3 v11 2).toInt = 3) (
 cond ((sl (Hb v0 v1 v2 v3 v4) 0).toInt = 1) (
 .row [.int 1, (.bool (!decide ((IntKind.wrap .i64 (v10 - v5)) < (sl (Hb v0 v1 v2 v3 v4) 3).toInt)))]) (
 .row [])) (
 .row [.int 1, (.bool true)])) (
 .row [.int 1, (.bool false)])) (
 .row [.int 1, (.bool false)])) (
 .row [])) (
 .row [])) := gw rfl rfl (cL rfl (cL (cQ (cg rfl (cg rfl (cQ (cQ rfl rfl) rfl) rfl) rfl) rfl) rfl))
theorem Wj (v0 v1 v2 v3 v4 : D) (v5 : Int) (v6 v7 : D) (v8 : Int) (v9 : D) (v10 : Int) : Rn v0 v1 v2 v3 v4 (.int v5) v6 v7 (.int v8) v9 (.int v10) =
  cond (v10 < v8) (
 .row [.int 1, v0, v1, v2, v3, v4, (.int v5), v6, v7, (.int v8), v9, AB, (.bool true), (.int 3)]) (
 cond (1099511627776 < v10) (
 .row [.int 1, v0, v1, v2, v3, v4, (.int v5), v6, v7, (.int v8), v9, AB, (.bool true), (.int 3)]) (
 OF (.int v10) AB (.bool true) (.int 0) v0 v1 v2 v3 v4 (.int v5) v6 v7 v9)) := gw rfl rfl (cL rfl (cL rfl rfl))
theorem Yk (v0 : Int) (v1 : D) (v2 : Bool) (v3 : Int) (v4 v5 v6 v7 v8 : D) (v9 : Int) (v10 v11 v12 : D) : OF (.int v0) v1 (.bool v2) (.int v3) v4 v5 v6 v7 v8 (.int v9) v10 v11 v12 =
  cond (v3 < len v7) (
 cond ((sl (G5 v4 v5 v6 v7 v8 (.int v9) v10 v11 (.int v0) v12 (.int v0) (.int v3)) 0).toInt = 1) (
 cond ((sl (G5 v4 v5 v6 v7 v8 (.int v9) v10 v11 (.int v0) v12 (.int v0) (.int v3)) 1).toBool) (
 cond ((len v1 : Int) < 1073741824) (
 OF (.int v0) (ad v1 (.row [(.int v3)])) (.bool false) (.int (IntKind.wrap .i64 (v3 + 1))) v4 v5 v6 v7 v8 (.int v9) v10 v11 v12) (
 .row [])) (
 OF (.int v0) v1 (.bool v2) (.int (IntKind.wrap .i64 (v3 + 1))) v4 v5 v6 v7 v8 (.int v9) v10 v11 v12)) (
 .row [])) (
 .row [.int 1, v4, v5, v6, v7, v8, (.int v9), v10, v11, (.int v0), v12, v1, (.bool v2), (.int 0)]) := gw rfl rfl (cL (cQ (cg rfl (cL rfl rfl) rfl) rfl) rfl)
theorem kh (v0 : D) (v1 : Bool) (v2 : D) (v3 : Bool) : JL v0 (.bool v1) v2 (.bool v3) =
  cond ((len v0 : Int) = (len v2 : Int)) (
 Rw v0 (.bool v1) v2 (.bool v3) (.int 0)) (
 .row [.int 1, (.bool false)]) := gw rfl rfl (cQ rfl rfl)
theorem Yr (v0 : D) (v1 : Bool) (v2 : D) (v3 : Bool) (v4 : Int) : Rw v0 (.bool v1) v2 (.bool v3) (.int v4) =
  cond (v4 < len v0) (
 cond (v4 < 0) (
 .row []) (
 cond (v4 < len v2) (
 cond ((cl v0 v4 0).toInt = (cl v2 v4 0).toInt) (
 Rw v0 (.bool v1) v2 (.bool v3) (.int (IntKind.wrap .i64 (v4 + 1)))) (
 .row [.int 1, (.bool false)])) (
 .row []))) (
 .row [.int 1, (.bool true)]) := gw rfl rfl (cL (cL rfl (cL (cQ rfl rfl) rfl)) rfl)
theorem kA (v0 : D) (v1 : Bool) (v2 v3 : D) (v4 : Bool) (v5 : D) (v6 : Bool) (v7 : D) (v8 : Bool) (v9 : D) (v10 : Bool) (v11 v12 : Int) (v13 v14 v15 : D) (v16 v17 : Bool) (v18 : D) (v19 v20 : Bool) (v21 v22 : D) (v23 : Int) (v24 v25 v26 : D) (v27 v28 v29 : Int) : Rr v0 (.bool v1) v2 v3 (.bool v4) v5 (.bool v6) v7 (.bool v8) v9 (.bool v10) (.int v11) (.int v12) v13 v14 v15 (.bool v16) (.bool v17) v18 (.bool v19) (.bool v20) v21 v22 (.int v23) v24 v25 v26 (.int v27) (.int v28) (.int v29) =
 Ln (.int 0) v2 v3 (.bool v4) v5 (.bool v6) v7 (.bool v8) v9 (.bool v10) (.int v11) (.bool v17) v18 (.bool v19) v0 (.bool v1) (.int v12) v14 v15 (.bool v16) v13 v21 v22 (.int v23) v24 v25 v26 (.int v27) (.int v28) (.int v29) (.bool v20) := gw rfl rfl rfl
theorem RY (v0 : Int) (v1 v2 : D) (v3 : Bool) (v4 : D) (v5 : Bool) (v6 : D) (v7 : Bool) (v8 : D) (v9 : Bool) (v10 : Int) (v11 : Bool) (v12 : D) (v13 : Bool) (v14 : D) (v15 : Bool) (v16 : Int) (v17 v18 : D) (v19 : Bool) (v20 v21 v22 : D) (v23 : Int) (v24 v25 v26 : D) (v27 v28 v29 : Int) (v30 : Bool) : Ln (.int v0) v1 v2 (.bool v3) v4 (.bool v5) v6 (.bool v7) v8 (.bool v9) (.int v10) (.bool v11) v12 (.bool v13) v14 (.bool v15) (.int v16) v17 v18 (.bool v19) v20 v21 v22 (.int v23) v24 v25 v26 (.int v27) (.int v28) (.int v29) (.bool v30) =
  cond (v0 < 3) (
 cond (v0 = 0) (
 cond (D.strEq v21 v8) (
 Ln (.int (IntKind.wrap .i64 (v0 + 1))) v1 v2 (.bool v3) v4 (.bool v5) v6 (.bool v7) v8 (.bool v9) (.int v10) (.bool v11) v12 (.bool v13) v14 (.bool v15) (.int v16) v17 v18 (.bool v19) v20 v21 v22 (.int v23) v24 v25 v26 (.int v27) (.int v28) (.int v29) (.bool v30)) (
 .row [.int 1, (.bool false)])) (
 cond (v0 = 1) (
 cond ((sl (FN v14 (.bool v15) v21 v22 (.int v23) v24 v25 v26 (.int v27) (.int v28) (.int v29)) 0).toInt = 1) (
 cond ((sl (FN v14 (.bool v15) v21 v22 (.int v23) v24 v25 v26 (.int v27) (.int v28) (.int v29)) 1).toBool) (
 Ln (.int (IntKind.wrap .i64 (v0 + 1))) v1 v2 (.bool v3) v4 (.bool v5) v6 (.bool v7) v8 (.bool v9) (.int v10) (.bool v11) v12 (.bool v13) v14 (.bool v15) (.int v16) v17 v18 (.bool v19) v20 v21 v22 (.int v23) v24 v25 v26 (.int v27) (.int v28) (.int v29) (.bool v30)) (
 .row [.int 1, (.bool false)])) (
 .row [])) (
 cond (v0 = 2) (
 cond (v23 = 3) (
 cond (v30) (
 Ln (.int (IntKind.wrap .i64 (v0 + 1))) v1 v2 (.bool v3) v4 (.bool v5) v6 (.bool v7) v8 (.bool v9) (.int v10) (.bool v11) v12 (.bool v13) v14 (.bool v15) (.int v16) v17 v18 (.bool v19) v20 v21 v22 (.int v23) v24 v25 v26 (.int v27) (.int v28) (.int v29) (.bool v30)) (
 .row [.int 1, (.bool false)])) (
 Ln (.int (IntKind.wrap .i64 (v0 + 1))) v1 v2 (.bool v3) v4 (.bool v5) v6 (.bool v7) v8 (.bool v9) (.int v10) (.bool v11) v12 (.bool v13) v14 (.bool v15) (.int v16) v17 v18 (.bool v19) v20 v21 v22 (.int v23) v24 v25 v26 (.int v27) (.int v28) (.int v29) (.bool v30))) (
 .row [])))) (
 .row [.int 1, (.bool true)]) := gw rfl rfl (cL (cQ rfl (cQ (cQ rfl rfl) (cQ (cQ rfl rfl) rfl))) rfl)
theorem dN (v0 : D) (v1 : Bool) (v2 : D) (v3 : Bool) (v4 v5 : D) (v6 : Bool) (v7 : D) (v8 v9 : Bool) (v10 : D) (v11 : Bool) (v12 v13 : Int) (v14 v15 v16 : D) (v17 v18 : Bool) (v19 : D) (v20 v21 : Bool) : Ru v0 (.bool v1) v2 (.bool v3) v4 v5 (.bool v6) v7 (.bool v8) (.bool v9) v10 (.bool v11) (.int v12) (.int v13) v14 v15 v16 (.bool v17) (.bool v18) v19 (.bool v20) (.bool v21) =
 Mq AB (.bool true) v0 (.bool v1) (.int 0) (.bool v21) v4 v5 (.bool v6) v7 (.bool v8) (.bool v9) v10 (.bool v11) (.int v12) (.bool v18) v19 (.bool v20) v2 (.bool v3) (.int v13) v15 v16 (.bool v17) v14 := gw rfl rfl rfl
theorem YS (v0 : D) (v1 : Bool) (v2 : D) (v3 : Bool) (v4 : Int) (v5 : Bool) (v6 v7 : D) (v8 : Bool) (v9 : D) (v10 v11 : Bool) (v12 : D) (v13 : Bool) (v14 : Int) (v15 : Bool) (v16 : D) (v17 : Bool) (v18 : D) (v19 : Bool) (v20 : Int) (v21 v22 : D) (v23 : Bool) (v24 : D) : Mq v0 (.bool v1) v2 (.bool v3) (.int v4) (.bool v5) v6 v7 (.bool v8) v9 (.bool v10) (.bool v11) v12 (.bool v13) (.int v14) (.bool v15) v16 (.bool v17) v18 (.bool v19) (.int v20) v21 v22 (.bool v23) v24 =
  cond (v4 < len v2) (
 cond (v4 < 0) (
 .row []) (
 cond ((cl v2 v4 2).toInt = 3) (
 cond ((sl (Rr v18 (.bool v19) v6 v7 (.bool v8) v9 (.bool v10) v2 (.bool v11) v12 (.bool v13) (.int v14) (.int v20) v24 v21 v22 (.bool v23) (.bool v15) v16 (.bool v17) (.bool v5) (cl v2 v4 0) (cl v2 v4 1) (cl v2 v4 2) (cl v2 v4 3) (cl v2 v4 4) (cl v2 v4 5) (cl v2 v4 6) (cl v2 v4 7) (cl v2 v4 8)) 0).toInt = 1) (
 cond ((sl (Rr v18 (.bool v19) v6 v7 (.bool v8) v9 (.bool v10) v2 (.bool v11) v12 (.bool v13) (.int v14) (.int v20) v24 v21 v22 (.bool v23) (.bool v15) v16 (.bool v17) (.bool v5) (cl v2 v4 0) (cl v2 v4 1) (cl v2 v4 2) (cl v2 v4 3) (cl v2 v4 4) (cl v2 v4 5) (cl v2 v4 6) (cl v2 v4 7) (cl v2 v4 8)) 1).toBool) (
 cond ((len v0 : Int) < 1073741824) (
 Mq (ad v0 (.row [(cl v2 v4 0), (cl v2 v4 1), (cl v2 v4 2), (cl v2 v4 3), (cl v2 v4 4), (cl v2 v4 5), (cl v2 v4 6), (cl v2 v4 7), (cl v2 v4 8)])) (.bool false) v2 (.bool v3) (.int (IntKind.wrap .i64 (v4 + 1))) (.bool v5) v6 v7 (.bool v8) v9 (.bool v10) (.bool v11) v12 (.bool v13) (.int v14) (.bool v15) v16 (.bool v17) v18 (.bool v19) (.int v20) v21 v22 (.bool v23) v24) (
 .row [])) (
 Mq v0 (.bool v1) v2 (.bool v3) (.int (IntKind.wrap .i64 (v4 + 1))) (.bool v5) v6 v7 (.bool v8) v9 (.bool v10) (.bool v11) v12 (.bool v13) (.int v14) (.bool v15) v16 (.bool v17) v18 (.bool v19) (.int v20) v21 v22 (.bool v23) v24)) (
 .row [])) (
 Mq v0 (.bool v1) v2 (.bool v3) (.int (IntKind.wrap .i64 (v4 + 1))) (.bool v5) v6 v7 (.bool v8) v9 (.bool v10) (.bool v11) v12 (.bool v13) (.int v14) (.bool v15) v16 (.bool v17) v18 (.bool v19) (.int v20) v21 v22 (.bool v23) v24))) (
 .row [.int 1, v0, (.bool v1)]) := gw rfl rfl (cL (cL rfl (cQ (cQ (cg rfl (cL rfl rfl) rfl) rfl) rfl)) rfl)
theorem dZ (v0 : D) (v1 : Bool) (v2 v3 : D) (v4 : Bool) (v5 : D) (v6 : Bool) (v7 : D) (v8 : Bool) (v9 : D) (v10 : Bool) (v11 v12 : Int) (v13 v14 v15 : D) (v16 v17 : Bool) (v18 : D) (v19 : Bool) : On v0 (.bool v1) v2 v3 (.bool v4) v5 (.bool v6) v7 (.bool v8) v9 (.bool v10) (.int v11) (.int v12) v13 v14 v15 (.bool v16) (.bool v17) v18 (.bool v19) =
  cond ((sl (Ha (.int v12) v13 v14 v15 (.bool v16) (.int 0)) 0).toInt = 1) (
 cond ((sl (Ru v7 (.bool v8) v0 (.bool v1) v2 v3 (.bool v4) v5 (.bool v6) (.bool v8) v9 (.bool v10) (.int v11) (.int v12) v13 v14 v15 (.bool v16) (.bool v17) v18 (.bool v19) (.bool true)) 0).toInt = 1) (
 cond ((len (sl (Ru v7 (.bool v8) v0 (.bool v1) v2 v3 (.bool v4) v5 (.bool v6) (.bool v8) v9 (.bool v10) (.int v11) (.int v12) v13 v14 v15 (.bool v16) (.bool v17) v18 (.bool v19) (.bool true)) 1) : Int) = 0) (
 .row [.int 1, (.int 0), (.int 9)]) (
 cond (v17) (
 .row [.int 1, (.int v12), (.int 0)]) (
 cond ((sl (Ha (.int v12) v13 v14 v15 (.bool v16) (.int 0)) 2).toInt = 0) (
 .row [.int 1, (.int (IntKind.wrap .i64 (v12 + (sl (Ha (.int v12) v13 v14 v15 (.bool v16) (.int 0)) 1).toInt))), (.int 0)]) (
 .row [.int 1, (.int 0), (.int 9)])))) (
 .row [])) (
 .row []) := gw rfl rfl (cQ (cQ (cQ rfl (cg rfl rfl (cQ rfl rfl))) rfl) rfl)
theorem iL (v0 v1 v2 v3 v4 : D) (v5 : Int) (v6 v7 : D) (v8 : Int) (v9 : D) : LM v0 v1 v2 v3 v4 (.int v5) v6 v7 (.int v8) v9 =
  cond ((sl (Hb v0 v1 v2 v3 v4) 0).toInt = 1) (
 cond ((IntKind.wrap .i64 (v5 + (sl (Hb v0 v1 v2 v3 v4) 3).toInt)) < v8) (
 Ih (.int v8) (.int 0) v0 v1 v2 v3 v4 (.int v5) v6 v7 (.int v8) v9) (
 Ih (.int (IntKind.wrap .i64 (v5 + (sl (Hb v0 v1 v2 v3 v4) 3).toInt))) (.int 0) v0 v1 v2 v3 v4 (.int v5) v6 v7 (.int v8) v9)) (
 .row []) := gw rfl rfl (cQ rfl rfl)
theorem X9 (v0 v1 : Int) (v2 v3 v4 v5 v6 : D) (v7 : Int) (v8 v9 : D) (v10 : Int) (v11 : D) : Ih (.int v0) (.int v1) v2 v3 v4 v5 v6 (.int v7) v8 v9 (.int v10) v11 =
  cond (v1 < len v5) (
 cond (v1 < 0) (
 .row []) (
 cond ((cl v5 v1 2).toInt = 3) (
 cond (1099511627776 < v0) (
 Ih (.int v0) (.int (IntKind.wrap .i64 (v1 + 1))) v2 v3 v4 v5 v6 (.int v7) v8 v9 (.int v10) v11) (
 cond ((sl (G5 v2 v3 v4 v5 v6 (.int v7) v8 v9 (.int v10) v11 (.int v0) (.int v1)) 0).toInt = 1) (
 cond ((sl (G5 v2 v3 v4 v5 v6 (.int v7) v8 v9 (.int v10) v11 (.int v0) (.int v1)) 1).toBool) (
 .row [.int 1, (.int v0), (.int 0)]) (
 Ih (.int v0) (.int (IntKind.wrap .i64 (v1 + 1))) v2 v3 v4 v5 v6 (.int v7) v8 v9 (.int v10) v11)) (
 .row []))) (
 Ih (.int v0) (.int (IntKind.wrap .i64 (v1 + 1))) v2 v3 v4 v5 v6 (.int v7) v8 v9 (.int v10) v11))) (
 .row [.int 1, (.int 0), (.int 9)]) := gw rfl rfl (cL (cL rfl (cQ (cL rfl (cQ rfl rfl)) rfl)) rfl)
theorem X7 (v0 : D) (v1 : Bool) : Fd v0 (.bool v1) =
  cond (v1) (
 .row [.int 1, AB, (.bool true)]) (
 cond ((len v0 : Int) < 1048576) (
 .row [.int 1, (ct Ag v0), (.bool false)]) (
 .row [])) := gw rfl rfl (cg rfl rfl (cL rfl rfl))
theorem bM (v0 v1 v2 v3 v4 : D) (v5 : Int) (v6 v7 : D) (v8 : Int) (v9 : D) (v10 : Bool) (v11 : Int) (v12 : D) (v13 : Bool) : Pr v0 v1 v2 v3 v4 (.int v5) v6 v7 (.int v8) v9 (.bool v10) (.int v11) v12 (.bool v13) =
 SI v12 (.bool v13) (.int 0) v0 v1 v2 v3 v4 (.int v5) v6 v7 (.int v8) v9 (.bool v10) (.int v11) := gw rfl rfl rfl
theorem Yb (v0 : D) (v1 : Bool) (v2 : Int) (v3 v4 v5 v6 v7 : D) (v8 : Int) (v9 v10 : D) (v11 : Int) (v12 : D) (v13 : Bool) (v14 : Int) : SI v0 (.bool v1) (.int v2) v3 v4 v5 v6 v7 (.int v8) v9 v10 (.int v11) v12 (.bool v13) (.int v14) =
  cond (v2 < len v0) (
 cond (v2 < 0) (
 .row []) (
 cond (v2 = v14) (
 cond (v14 < len v12) (
 cond (v14 < 0) (
 .row []) (
 cond ((cl v0 v2 0).toInt = (cl v12 v14 0).toInt) (
 cond ((cl v0 v2 1).toInt = (cl v12 v14 1).toInt) (
 SI v0 (.bool v1) (.int (IntKind.wrap .i64 (v2 + 1))) v3 v4 v5 v6 v7 (.int v8) v9 v10 (.int v11) v12 (.bool v13) (.int (IntKind.wrap .i64 (v14 + 1)))) (
 .row [.int 1, (.int v14)])) (
 .row [.int 1, (.int v14)]))) (
 .row [.int 1, (.int v14)])) (
 .row [.int 1, (.int v14)]))) (
 .row [.int 2, (.int v14)]) := gw rfl rfl (cL (cL rfl (cQ (cL (cL rfl (cQ (cQ rfl rfl) rfl)) rfl) rfl)) rfl)
theorem fJ (v0 : D) (v1 : Bool) (v2 v3 : D) (v4 : Bool) (v5 : D) (v6 : Bool) (v7 : D) (v8 : Bool) (v9 : D) (v10 : Bool) (v11 v12 : Int) (v13 v14 v15 : D) (v16 v17 : Bool) (v18 : D) (v19 : Bool) (v20 v21 v22 v23 v24 : D) (v25 : Int) (v26 v27 : D) (v28 : Int) (v29 : D) : Gs v0 (.bool v1) v2 v3 (.bool v4) v5 (.bool v6) v7 (.bool v8) v9 (.bool v10) (.int v11) (.int v12) v13 v14 v15 (.bool v16) (.bool v17) v18 (.bool v19) v20 v21 v22 v23 v24 (.int v25) v26 v27 (.int v28) v29 =
  cond (D.strEq v9 v24) (
 cond ((sl (Hb v20 v21 v22 v23 v24) 0).toInt = 1) (
 cond (v10) (
 cond ((sl (Hb v20 v21 v22 v23 v24) 2).toBool) (
 cond (v12 = v28) (
 M8 (.int 0) v2 v3 (.bool v4) v5 (.bool v6) v7 (.bool v8) v9 (.bool v10) (.int v11) (.bool v17) v18 (.bool v19) v0 (.bool v1) (.int v12) v14 v15 (.bool v16) v13 v20 v21 v22 v23 v24 (.int v25) v26 v27 (.int v28) v29) (
 .row [.int 1, (.bool false)])) (
 .row [.int 1, (.bool false)])) (
 cond ((sl (Hb v20 v21 v22 v23 v24) 2).toBool) (
 .row [.int 1, (.bool false)]) (
 cond (v12 = v28) (
 M8 (.int 0) v2 v3 (.bool v4) v5 (.bool v6) v7 (.bool v8) v9 (.bool v10) (.int v11) (.bool v17) v18 (.bool v19) v0 (.bool v1) (.int v12) v14 v15 (.bool v16) v13 v20 v21 v22 v23 v24 (.int v25) v26 v27 (.int v28) v29) (
 .row [.int 1, (.bool false)])))) (
 .row [])) (
 .row [.int 1, (.bool false)]) := gw rfl rfl (cg rfl (cQ (cg rfl (cg rfl (cQ rfl rfl) rfl) (cg rfl rfl (cQ rfl rfl))) rfl) rfl)
theorem YK (v0 : Int) (v1 v2 : D) (v3 : Bool) (v4 : D) (v5 : Bool) (v6 : D) (v7 : Bool) (v8 : D) (v9 : Bool) (v10 : Int) (v11 : Bool) (v12 : D) (v13 : Bool) (v14 : D) (v15 : Bool) (v16 : Int) (v17 v18 : D) (v19 : Bool) (v20 v21 v22 v23 v24 v25 : D) (v26 : Int) (v27 v28 : D) (v29 : Int) (v30 : D) : M8 (.int v0) v1 v2 (.bool v3) v4 (.bool v5) v6 (.bool v7) v8 (.bool v9) (.int v10) (.bool v11) v12 (.bool v13) v14 (.bool v15) (.int v16) v17 v18 (.bool v19) v20 v21 v22 v23 v24 v25 (.int v26) v27 v28 (.int v29) v30 =
  cond (v0 < len v27) (
 cond (v0 < 0) (
 .row []) (
 cond ((sl (FqQ v14 (.bool v15) (cl v27 v0 0)) 0).toInt = 1) (
 cond (v0 < len v28) (
 cond ((sl (FqQ v14 (.bool v15) (cl v27 v0 0)) 1).toInt = (cl v28 v0 0).toInt) (
 cond ((sl (FqQ v14 (.bool v15) (cl v27 v0 0)) 2).toInt = 0) (
 M8 (.int (IntKind.wrap .i64 (v0 + 1))) v1 v2 (.bool v3) v4 (.bool v5) v6 (.bool v7) v8 (.bool v9) (.int v10) (.bool v11) v12 (.bool v13) v14 (.bool v15) (.int v16) v17 v18 (.bool v19) v20 v21 v22 v23 v24 v25 (.int v26) v27 v28 (.int v29) v30) (
 .row [.int 1, (.bool false)])) (
 .row [.int 1, (.bool false)])) (
 .row [])) (
 .row []))) (
 cond ((sl (On v14 (.bool v15) v1 v2 (.bool v3) v4 (.bool v5) v6 (.bool v7) v8 (.bool v9) (.int v10) (.int v16) v20 v17 v18 (.bool v19) (.bool v11) v12 (.bool v13)) 0).toInt = 1) (
 cond ((sl (LM v21 v22 v23 v24 v25 (.int v26) v27 v28 (.int v29) v30) 0).toInt = 1) (
 cond ((sl (On v14 (.bool v15) v1 v2 (.bool v3) v4 (.bool v5) v6 (.bool v7) v8 (.bool v9) (.int v10) (.int v16) v20 v17 v18 (.bool v19) (.bool v11) v12 (.bool v13)) 1).toInt = (sl (LM v21 v22 v23 v24 v25 (.int v26) v27 v28 (.int v29) v30) 1).toInt) (
 cond ((sl (On v14 (.bool v15) v1 v2 (.bool v3) v4 (.bool v5) v6 (.bool v7) v8 (.bool v9) (.int v10) (.int v16) v20 v17 v18 (.bool v19) (.bool v11) v12 (.bool v13)) 2).toInt = (sl (LM v21 v22 v23 v24 v25 (.int v26) v27 v28 (.int v29) v30) 2).toInt) (
 cond ((sl (Fd v12 (.bool v13)) 0).toInt = 1) (
 cond ((sl (Pr v21 v22 v23 v24 v25 (.int v26) v27 v28 (.int v29) v30 (.bool false) (.int 0) (sl (Fd v12 (.bool v13)) 1) (sl (Fd v12 (.bool v13)) 2)) 0).toInt = 1) (
 .row [.int 1, (.bool false)]) (
 cond ((sl (Pr v21 v22 v23 v24 v25 (.int v26) v27 v28 (.int v29) v30 (.bool false) (.int 0) (sl (Fd v12 (.bool v13)) 1) (sl (Fd v12 (.bool v13)) 2)) 0).toInt = 2) (
 .row [.int 1, (.bool (decide ((sl (Pr v21 v22 v23 v24 v25 (.int v26) v27 v28 (.int v29) v30 (.bool false) (.int 0) (sl (Fd v12 (.bool v13)) 1) (sl (Fd v12 (.bool v13)) 2)) 1).toInt = (len v30 : Int))))]) (
 .row []))) (
 .row [])) (
 .row [.int 1, (.bool false)])) (
 .row [.int 1, (.bool false)])) (
 .row [])) (
 .row [])) := gw rfl rfl (cL (cL rfl (cQ (cL (cQ (cQ rfl rfl) rfl) rfl) rfl)) (cQ (cQ (cQ (cQ (cQ (cQ rfl (cQ rfl rfl)) rfl) rfl) rfl) rfl) rfl))
theorem dy (v0 : D) (v1 : Bool) (v2 v3 : D) (v4 : Bool) (v5 : D) (v6 : Bool) (v7 : D) (v8 : Bool) (v9 : D) (v10 : Bool) (v11 v12 : Int) (v13 v14 v15 : D) (v16 v17 : Bool) (v18 : D) (v19 : Bool) (v20 : Int) (v21 v22 v23 : D) (v24 v25 : Bool) (v26 v27 : D) (v28 : Int) (v29 v30 v31 : D) (v32 v33 v34 : Int) : La v0 (.bool v1) v2 v3 (.bool v4) v5 (.bool v6) v7 (.bool v8) v9 (.bool v10) (.int v11) (.int v12) v13 v14 v15 (.bool v16) (.bool v17) v18 (.bool v19) (.int v20) v21 v22 v23 (.bool v24) (.bool v25) v26 v27 (.int v28) v29 v30 v31 (.int v32) (.int v33) (.int v34) =
 K2 (.int 0) v2 v3 (.bool v4) v5 (.bool v6) v7 (.bool v8) v9 (.bool v10) (.int v11) (.bool v17) v18 (.bool v19) v0 (.bool v1) (.int v12) v14 v15 (.bool v16) v13 (.int v20) v22 v23 (.bool v24) v21 v26 v27 (.int v28) v29 v30 v31 (.int v32) (.int v33) (.int v34) (.bool v25) := gw rfl rfl rfl
theorem RI (v0 : Int) (v1 v2 : D) (v3 : Bool) (v4 : D) (v5 : Bool) (v6 : D) (v7 : Bool) (v8 : D) (v9 : Bool) (v10 : Int) (v11 : Bool) (v12 : D) (v13 : Bool) (v14 : D) (v15 : Bool) (v16 : Int) (v17 v18 : D) (v19 : Bool) (v20 : D) (v21 : Int) (v22 v23 : D) (v24 : Bool) (v25 v26 v27 : D) (v28 : Int) (v29 v30 v31 : D) (v32 v33 v34 : Int) (v35 : Bool) : K2 (.int v0) v1 v2 (.bool v3) v4 (.bool v5) v6 (.bool v7) v8 (.bool v9) (.int v10) (.bool v11) v12 (.bool v13) v14 (.bool v15) (.int v16) v17 v18 (.bool v19) v20 (.int v21) v22 v23 (.bool v24) v25 v26 v27 (.int v28) v29 v30 v31 (.int v32) (.int v33) (.int v34) (.bool v35) =
  cond (v0 < 3) (
 cond (v0 = 0) (
 cond (D.strEq v26 v8) (
 K2 (.int (IntKind.wrap .i64 (v0 + 1))) v1 v2 (.bool v3) v4 (.bool v5) v6 (.bool v7) v8 (.bool v9) (.int v10) (.bool v11) v12 (.bool v13) v14 (.bool v15) (.int v16) v17 v18 (.bool v19) v20 (.int v21) v22 v23 (.bool v24) v25 v26 v27 (.int v28) v29 v30 v31 (.int v32) (.int v33) (.int v34) (.bool v35)) (
 .row [.int 1, (.bool false)])) (
 cond (v0 = 1) (
 cond ((sl (FN v14 (.bool v15) v26 v27 (.int v28) v29 v30 v31 (.int v32) (.int v33) (.int v34)) 0).toInt = 1) (
 cond ((sl (FN v14 (.bool v15) v26 v27 (.int v28) v29 v30 v31 (.int v32) (.int v33) (.int v34)) 1).toBool) (
 K2 (.int (IntKind.wrap .i64 (v0 + 1))) v1 v2 (.bool v3) v4 (.bool v5) v6 (.bool v7) v8 (.bool v9) (.int v10) (.bool v11) v12 (.bool v13) v14 (.bool v15) (.int v16) v17 v18 (.bool v19) v20 (.int v21) v22 v23 (.bool v24) v25 v26 v27 (.int v28) v29 v30 v31 (.int v32) (.int v33) (.int v34) (.bool v35)) (
 .row [.int 1, (.bool false)])) (
 .row [])) (
 cond (v0 = 2) (
 cond (v28 = 3) (
 cond (v35) (
 K2 (.int (IntKind.wrap .i64 (v0 + 1))) v1 v2 (.bool v3) v4 (.bool v5) v6 (.bool v7) v8 (.bool v9) (.int v10) (.bool v11) v12 (.bool v13) v14 (.bool v15) (.int v16) v17 v18 (.bool v19) v20 (.int v21) v22 v23 (.bool v24) v25 v26 v27 (.int v28) v29 v30 v31 (.int v32) (.int v33) (.int v34) (.bool v35)) (
 .row [.int 1, (.bool false)])) (
 K2 (.int (IntKind.wrap .i64 (v0 + 1))) v1 v2 (.bool v3) v4 (.bool v5) v6 (.bool v7) v8 (.bool v9) (.int v10) (.bool v11) v12 (.bool v13) v14 (.bool v15) (.int v16) v17 v18 (.bool v19) v20 (.int v21) v22 v23 (.bool v24) v25 v26 v27 (.int v28) v29 v30 v31 (.int v32) (.int v33) (.int v34) (.bool v35))) (
 .row [])))) (
 .row [.int 1, (.bool true)]) := gw rfl rfl (cL (cQ rfl (cQ (cQ rfl rfl) (cQ (cQ rfl rfl) rfl))) rfl)
theorem YT (v0 : D) (v1 : Bool) (v2 v3 : D) (v4 : Int) (v5 v6 v7 : D) (v8 v9 v10 : Int) : E4 v0 (.bool v1) v2 v3 (.int v4) v5 v6 v7 (.int v8) (.int v9) (.int v10) =
  cond ((sl (FN v0 (.bool v1) v2 v3 (.int v4) v5 v6 v7 (.int v8) (.int v9) (.int v10)) 0).toInt = 1) (
 cond ((sl (FN v0 (.bool v1) v2 v3 (.int v4) v5 v6 v7 (.int v8) (.int v9) (.int v10)) 2).toInt = 0) (
 cond ((sl (FN v0 (.bool v1) v2 v3 (.int v4) v5 v6 v7 (.int v8) (.int v9) (.int v10)) 1).toBool) (
 cond (eqC v7 0 0) (
 .row [.int 1, (.int 0), v0]) (
 cond ((sl (DD v0 (.bool v1) v7) 0).toInt = 1) (
 cond ((sl (DD v0 (.bool v1) v7) 1).toInt < 0) (
 .row []) (
 cond ((sl (DD v0 (.bool v1) v7) 1).toInt < len v0) (
 .row [.int 1, (.int 0), (upd v0 (sl (DD v0 (.bool v1) v7) 1).toInt 2 (.int (IntKind.wrap .i64 ((cl v0 (sl (DD v0 (.bool v1) v7) 1).toInt 2).toInt + v10))))]) (
 .row []))) (
 .row []))) (
 .row [.int 1, (.int 8), v0])) (
 .row [.int 1, (sl (FN v0 (.bool v1) v2 v3 (.int v4) v5 v6 v7 (.int v8) (.int v9) (.int v10)) 2), v0])) (
 .row []) := gw rfl rfl (cQ (cQ (cg rfl (cg rfl rfl (cQ rfl rfl)) rfl) rfl) rfl)
theorem bN (v0 : D) (v1 : Bool) (v2 v3 : D) (v4 : Bool) (v5 : D) (v6 : Bool) (v7 : D) (v8 : Bool) (v9 : D) (v10 : Bool) (v11 v12 : Int) (v13 v14 v15 : D) (v16 v17 : Bool) (v18 : D) (v19 : Bool) (v20 : Int) (v21 v22 v23 : D) (v24 v25 : Bool) (v26 v27 : Int) : Ml v0 (.bool v1) v2 v3 (.bool v4) v5 (.bool v6) v7 (.bool v8) v9 (.bool v10) (.int v11) (.int v12) v13 v14 v15 (.bool v16) (.bool v17) v18 (.bool v19) (.int v20) v21 v22 v23 (.bool v24) (.bool v25) (.int v26) (.int v27) =
  cond ((len v18 : Int) < 100000) (
 cond (v27 < 0) (
 .row []) (
 cond (v27 < len v7) (
 cond ((sl (E4 v0 (.bool v1) (cl v7 v27 0) (cl v7 v27 1) (cl v7 v27 2) (cl v7 v27 3) (cl v7 v27 4) (cl v7 v27 5) (cl v7 v27 6) (cl v7 v27 7) (cl v7 v27 8)) 0).toInt = 1) (
 cond ((len (sl (E4 v0 (.bool v1) (cl v7 v27 0) (cl v7 v27 1) (cl v7 v27 2) (cl v7 v27 3) (cl v7 v27 4) (cl v7 v27 5) (cl v7 v27 6) (cl v7 v27 7) (cl v7 v27 8)) 2) : Int) = (len v0 : Int)) (
 cond ((sl (De (sl (E4 v0 (.bool v1) (cl v7 v27 0) (cl v7 v27 1) (cl v7 v27 2) (cl v7 v27 3) (cl v7 v27 4) (cl v7 v27 5) (cl v7 v27 6) (cl v7 v27 7) (cl v7 v27 8)) 2) (.bool v1) v2 v3 (.bool v4) v5 (.bool v6) v7 (.bool v8) v9 (.bool v10) (.int v11) (.int v20) v21 v22 v23 (.bool v24) (.bool v25) v18 (.bool v19) (cl v7 v27 1)) 0).toInt = 1) (
 .row [.int 1, (sl (De (sl (E4 v0 (.bool v1) (cl v7 v27 0) (cl v7 v27 1) (cl v7 v27 2) (cl v7 v27 3) (cl v7 v27 4) (cl v7 v27 5) (cl v7 v27 6) (cl v7 v27 7) (cl v7 v27 8)) 2) (.bool v1) v2 v3 (.bool v4) v5 (.bool v6) v7 (.bool v8) v9 (.bool v10) (.int v11) (.int v20) v21 v22 v23 (.bool v24) (.bool v25) v18 (.bool v19) (cl v7 v27 1)) 1), (sl (De (sl (E4 v0 (.bool v1) (cl v7 v27 0) (cl v7 v27 1) (cl v7 v27 2) (cl v7 v27 3) (cl v7 v27 4) (cl v7 v27 5) (cl v7 v27 6) (cl v7 v27 7) (cl v7 v27 8)) 2) (.bool v1) v2 v3 (.bool v4) v5 (.bool v6) v7 (.bool v8) v9 (.bool v10) (.int v11) (.int v20) v21 v22 v23 (.bool v24) (.bool v25) v18 (.bool v19) (cl v7 v27 1)) 2), (sl (De (sl (E4 v0 (.bool v1) (cl v7 v27 0) (cl v7 v27 1) (cl v7 v27 2) (cl v7 v27 3) (cl v7 v27 4) (cl v7 v27 5) (cl v7 v27 6) (cl v7 v27 7) (cl v7 v27 8)) 2) (.bool v1) v2 v3 (.bool v4) v5 (.bool v6) v7 (.bool v8) v9 (.bool v10) (.int v11) (.int v20) v21 v22 v23 (.bool v24) (.bool v25) v18 (.bool v19) (cl v7 v27 1)) 3), (ad v18 (.row [(.int v27), (.int v26)])), (.bool false), (sl (E4 v0 (.bool v1) (cl v7 v27 0) (cl v7 v27 1) (cl v7 v27 2) (cl v7 v27 3) (cl v7 v27 4) (cl v7 v27 5) (cl v7 v27 6) (cl v7 v27 7) (cl v7 v27 8)) 2), (.bool v1), (.int v12), v14, v15, (.bool v16), v13, (.int v20), (sl (De (sl (E4 v0 (.bool v1) (cl v7 v27 0) (cl v7 v27 1) (cl v7 v27 2) (cl v7 v27 3) (cl v7 v27 4) (cl v7 v27 5) (cl v7 v27 6) (cl v7 v27 7) (cl v7 v27 8)) 2) (.bool v1) v2 v3 (.bool v4) v5 (.bool v6) v7 (.bool v8) v9 (.bool v10) (.int v11) (.int v20) v21 v22 v23 (.bool v24) (.bool v25) v18 (.bool v19) (cl v7 v27 1)) 4), (sl (De (sl (E4 v0 (.bool v1) (cl v7 v27 0) (cl v7 v27 1) (cl v7 v27 2) (cl v7 v27 3) (cl v7 v27 4) (cl v7 v27 5) (cl v7 v27 6) (cl v7 v27 7) (cl v7 v27 8)) 2) (.bool v1) v2 v3 (.bool v4) v5 (.bool v6) v7 (.bool v8) v9 (.bool v10) (.int v11) (.int v20) v21 v22 v23 (.bool v24) (.bool v25) v18 (.bool v19) (cl v7 v27 1)) 5), (sl (De (sl (E4 v0 (.bool v1) (cl v7 v27 0) (cl v7 v27 1) (cl v7 v27 2) (cl v7 v27 3) (cl v7 v27 4) (cl v7 v27 5) (cl v7 v27 6) (cl v7 v27 7) (cl v7 v27 8)) 2) (.bool v1) v2 v3 (.bool v4) v5 (.bool v6) v7 (.bool v8) v9 (.bool v10) (.int v11) (.int v20) v21 v22 v23 (.bool v24) (.bool v25) v18 (.bool v19) (cl v7 v27 1)) 6), (sl (De (sl (E4 v0 (.bool v1) (cl v7 v27 0) (cl v7 v27 1) (cl v7 v27 2) (cl v7 v27 3) (cl v7 v27 4) (cl v7 v27 5) (cl v7 v27 6) (cl v7 v27 7) (cl v7 v27 8)) 2) (.bool v1) v2 v3 (.bool v4) v5 (.bool v6) v7 (.bool v8) v9 (.bool v10) (.int v11) (.int v20) v21 v22 v23 (.bool v24) (.bool v25) v18 (.bool v19) (cl v7 v27 1)) 7)]) (
 .row [])) (
 .row [])) (
 .row [])) (
 .row []))) (
 .row []) := gw rfl rfl (cL (cL rfl (cL (cQ (cQ (cQ rfl rfl) rfl) rfl) rfl)) rfl)
theorem Jp (v0 : D) (v1 : Bool) (v2 v3 : D) (v4 : Bool) (v5 : D) (v6 : Bool) (v7 : D) (v8 : Bool) (v9 : D) (v10 : Bool) (v11 v12 : Int) (v13 v14 v15 : D) (v16 v17 : Bool) (v18 : D) (v19 : Bool) (v20 v21 : Int) {F0 F1 F2 F3 F4 F5 : D} (h0 : FQ (.int v12) v13 v14 v15 (.bool v16) = F0) (h1 : K0 (sl F0 1) (sl F0 5) (sl F0 2) (sl F0 3) (sl F0 4) (.int v20) = F1) (h2 : Ml v0 (.bool v1) v2 v3 (.bool v4) v5 (.bool v6) v7 (.bool v8) v9 (.bool v10) (.int v11) (.int v12) v13 v14 v15 (.bool v16) (.bool false) v18 (.bool v19) (sl F1 4) (sl F1 7) (sl F0 2) (sl F1 5) (sl F1 6) (.bool (decide (0 < (len (sl F1 1) : Int)))) (.int v20) (.int v21) = F2) (h3 : Ml v0 (.bool v1) v2 v3 (.bool v4) v5 (.bool v6) v7 (.bool v8) v9 (.bool v10) (.int v11) (.int v12) v13 v14 v15 (.bool v16) (.bool true) v18 (.bool v19) (sl F1 4) (sl F1 7) (sl F0 2) (sl F1 5) (sl F1 6) (.bool true) (.int v20) (.int v21) = F3) (h4 : La v0 (.bool v1) v2 v3 (.bool v4) v5 (.bool v6) v7 (.bool v8) v9 (.bool v10) (.int v11) (.int v12) v13 v14 v15 (.bool v16) (.bool v17) v18 (.bool v19) (sl F1 4) (sl F1 7) (sl F0 2) (sl F1 5) (sl F1 6) (.bool (decide (0 < (len (sl F1 1) : Int)))) (cl v7 v21 0) (cl v7 v21 1) (cl v7 v21 2) (cl v7 v21 3) (cl v7 v21 4) (cl v7 v21 5) (cl v7 v21 6) (cl v7 v21 7) (cl v7 v21 8) = F4) (h5 : La v0 (.bool v1) v2 v3 (.bool v4) v5 (.bool v6) v7 (.bool v8) v9 (.bool v10) (.int v11) (.int v12) v13 v14 v15 (.bool v16) (.bool v17) v18 (.bool v19) (sl F1 4) (sl F1 7) (sl F0 2) (sl F1 5) (sl F1 6) (.bool true) (cl v7 v21 0) (cl v7 v21 1) (cl v7 v21 2) (cl v7 v21 3) (cl v7 v21 4) (cl v7 v21 5) (cl v7 v21 6) (cl v7 v21 7) (cl v7 v21 8) = F5) : Cw v0 (.bool v1) v2 v3 (.bool v4) v5 (.bool v6) v7 (.bool v8) v9 (.bool v10) (.int v11) (.int v12) v13 v14 v15 (.bool v16) (.bool v17) v18 (.bool v19) (.int v20) (.int v21) =
  cond (v21 < 0) (
 .row [.int 1, (.int 2), v9, (.bool v10), (.int v11), (.bool v17), v18, (.bool v19), v0, (.bool v1), (.int v12), v14, v15, (.bool v16), v13]) (
 cond (v21 < len v7) (
 cond (v20 < v12) (
 .row [.int 1, (.int 3), v9, (.bool v10), (.int v11), (.bool v17), v18, (.bool v19), v0, (.bool v1), (.int v12), v14, v15, (.bool v16), v13]) (
 cond (1099511627776 < v20) (
 .row [.int 1, (.int 3), v9, (.bool v10), (.int v11), (.bool v17), v18, (.bool v19), v0, (.bool v1), (.int v12), v14, v15, (.bool v16), v13]) (
 cond ((sl F0 0).toInt = 1) (
 cond ((sl F1 0).toInt = 1) (
 cond (v17) (
 cond ((sl F5 0).toInt = 1) (
 cond ((sl F5 1).toBool) (
 cond ((sl F3 0).toInt = 1) (
 .row [.int 1, (.int 0), (sl F3 1), (sl F3 2), (sl F3 3), (.bool false), (sl F3 4), (sl F3 5), (sl F3 6), (sl F3 7), (sl F3 13), (sl F3 14), (sl F3 15), (sl F3 16), (sl F3 17)]) (
 .row [])) (
 .row [.int 1, (.int 8), v9, (.bool v10), (.int v11), (.bool true), v18, (.bool v19), v0, (.bool v1), (.int v12), v14, v15, (.bool v16), v13])) (
 .row [])) (
 cond ((sl F4 0).toInt = 1) (
 cond ((sl F4 1).toBool) (
 cond ((sl F2 0).toInt = 1) (
 .row [.int 1, (.int 0), (sl F2 1), (sl F2 2), (sl F2 3), (.bool false), (sl F2 4), (sl F2 5), (sl F2 6), (sl F2 7), (sl F2 13), (sl F2 14), (sl F2 15), (sl F2 16), (sl F2 17)]) (
 .row [])) (
 .row [.int 1, (.int 8), v9, (.bool v10), (.int v11), (.bool false), v18, (.bool v19), v0, (.bool v1), (.int v12), v14, v15, (.bool v16), v13])) (
 .row []))) (
 .row [])) (
 .row [])))) (
 .row [.int 1, (.int 2), v9, (.bool v10), (.int v11), (.bool v17), v18, (.bool v19), v0, (.bool v1), (.int v12), v14, v15, (.bool v16), v13])) := by
  subst h0; subst h1; subst h2; subst h3; subst h4; subst h5; exact gw rfl rfl (cL rfl (cL (cL rfl (cL rfl (cQ (cQ (cg rfl (cQ (cg rfl (cQ rfl rfl) rfl) rfl) (cQ (cg rfl (cQ rfl rfl) rfl) rfl)) rfl) rfl))) rfl))
theorem Yo (v0 v1 v2 v3 : D) (v4 : Int) (v5 v6 v7 : D) (v8 v9 v10 : Int) : OZ v0 v1 v2 v3 (.int v4) v5 v6 v7 (.int v8) (.int v9) (.int v10) =
  cond ((sl (Jz v0 v1 v2 v3 (.int v4) v5 v6 v7 (.int v8) (.int v9) (.int v10)) 0).toInt = 1) (
 cond ((sl (Jz v0 v1 v2 v3 (.int v4) v5 v6 v7 (.int v8) (.int v9) (.int v10)) 2).toInt = 0) (
 cond ((sl (Jz v0 v1 v2 v3 (.int v4) v5 v6 v7 (.int v8) (.int v9) (.int v10)) 1).toBool) (
 cond (eqC v7 0 0) (
 .row [.int 1, v0, v1, (.int 0)]) (
 cond ((sl (DU v0 v1 v7) 0).toInt = 1) (
 cond ((len v1 : Int) < 1048576) (
 cond ((sl (DU v0 v1 v7) 1).toInt < 0) (
 .row []) (
 cond ((sl (DU v0 v1 v7) 1).toInt < len (ct Ag v1)) (
 .row [.int 1, v0, (ni (upd (ct Ag v1) (sl (DU v0 v1 v7) 1).toInt 0 (.int (IntKind.wrap .i64 ((cl (ct Ag v1) (sl (DU v0 v1 v7) 1).toInt 0).toInt + v10)))) false), (.int 0)]) (
 .row []))) (
 .row [])) (
 .row []))) (
 .row [.int 1, v0, v1, (.int 8)])) (
 .row [.int 1, v0, v1, (sl (Jz v0 v1 v2 v3 (.int v4) v5 v6 v7 (.int v8) (.int v9) (.int v10)) 2)])) (
 .row []) := gw rfl rfl (cQ (cQ (cg rfl (cg rfl rfl (cQ (cL rfl rfl) rfl)) rfl) rfl) rfl)
theorem M1 (v0 v1 v2 v3 v4 : D) (v5 : Int) (v6 v7 : D) (v8 : Int) (v9 : D) (v10 v11 : Int) : Cr v0 v1 v2 v3 v4 (.int v5) v6 v7 (.int v8) v9 (.int v10) (.int v11) =
  cond (v11 < 0) (
 .row [.int 1, v0, v1, v2, v3, v4, (.int v5), v6, v7, (.int v8), v9, (.int 2)]) (
 cond (v11 < len v3) (
 cond (v10 < v8) (
 .row [.int 1, v0, v1, v2, v3, v4, (.int v5), v6, v7, (.int v8), v9, (.int 3)]) (
 cond (1099511627776 < v10) (
 .row [.int 1, v0, v1, v2, v3, v4, (.int v5), v6, v7, (.int v8), v9, (.int 3)]) (
 cond ((sl (G5 v0 v1 v2 v3 v4 (.int v5) v6 v7 (.int v8) v9 (.int v10) (.int v11)) 0).toInt = 1) (
 cond ((sl (G5 v0 v1 v2 v3 v4 (.int v5) v6 v7 (.int v8) v9 (.int v10) (.int v11)) 1).toBool) (
 cond ((sl (OZ v6 v7 (cl v3 v11 0) (cl v3 v11 1) (cl v3 v11 2) (cl v3 v11 3) (cl v3 v11 4) (cl v3 v11 5) (cl v3 v11 6) (cl v3 v11 7) (cl v3 v11 8)) 0).toInt = 1) (
 cond ((len v9 : Int) < 1048576) (
 cond ((len (ct Ag v9) : Int) < 1073741824) (
 .row [.int 1, v0, v1, v2, v3, (cl v3 v11 1), (.int v10), (sl (OZ v6 v7 (cl v3 v11 0) (cl v3 v11 1) (cl v3 v11 2) (cl v3 v11 3) (cl v3 v11 4) (cl v3 v11 5) (cl v3 v11 6) (cl v3 v11 7) (cl v3 v11 8)) 1), (sl (OZ v6 v7 (cl v3 v11 0) (cl v3 v11 1) (cl v3 v11 2) (cl v3 v11 3) (cl v3 v11 4) (cl v3 v11 5) (cl v3 v11 6) (cl v3 v11 7) (cl v3 v11 8)) 2), (.int v10), (ni (ad (ct Ag v9) (.row [(.int v11), (.int v10)])) false), (.int 0)]) (
 .row [])) (
 .row [])) (
 .row [])) (
 .row [.int 1, v0, v1, v2, v3, v4, (.int v5), v6, v7, (.int v8), v9, (.int 8)])) (
 .row [])))) (
 .row [.int 1, v0, v1, v2, v3, v4, (.int v5), v6, v7, (.int v8), v9, (.int 2)])) := gw rfl rfl (cL rfl (cL (cL rfl (cL rfl (cQ (cg rfl (cQ (cL (cL rfl rfl) rfl) rfl) rfl) rfl))) rfl))
theorem Rt (v0 v1 : D) (v2 : Int) (v3 : D) (v4 : Bool) (v5 v6 : D) (v7 : Bool) (v8 : D) (v9 : Bool) (v10 : D) (v11 : Bool) (v12 : D) (v13 : Bool) (v14 v15 : Int) (v16 v17 v18 : D) (v19 v20 : Bool) (v21 : D) (v22 : Bool) (v23 : Int) (v24 v25 v26 : D) (v27 v28 : Bool) (v29 : D) (v30 : Bool) (v31 : D) : Lm v0 v1 (.int v2) v3 (.bool v4) v5 v6 (.bool v7) v8 (.bool v9) v10 (.bool v11) v12 (.bool v13) (.int v14) (.int v15) v16 v17 v18 (.bool v19) (.bool v20) v21 (.bool v22) (.int v23) v24 v25 v26 (.bool v27) (.bool v28) v29 (.bool v30) v31 =
 HK v29 (.bool v30) (.int 0) v0 v1 (.int v2) (.bool v28) v5 v6 (.bool v7) v8 (.bool v9) v10 (.bool v11) v12 (.bool v13) (.int v14) (.bool v20) v21 (.bool v22) v3 (.bool v4) (.int v15) v17 v18 (.bool v19) v16 (.int v23) v25 v26 (.bool v27) v24 v31 := gw rfl rfl rfl
theorem YQ (v0 : D) (v1 : Bool) (v2 : Int) (v3 v4 : D) (v5 : Int) (v6 : Bool) (v7 v8 : D) (v9 : Bool) (v10 : D) (v11 : Bool) (v12 : D) (v13 : Bool) (v14 : D) (v15 : Bool) (v16 : Int) (v17 : Bool) (v18 : D) (v19 : Bool) (v20 : D) (v21 : Bool) (v22 : Int) (v23 v24 : D) (v25 : Bool) (v26 : D) (v27 : Int) (v28 v29 : D) (v30 : Bool) (v31 v32 : D) : HK v0 (.bool v1) (.int v2) v3 v4 (.int v5) (.bool v6) v7 v8 (.bool v9) v10 (.bool v11) v12 (.bool v13) v14 (.bool v15) (.int v16) (.bool v17) v18 (.bool v19) v20 (.bool v21) (.int v22) v23 v24 (.bool v25) v26 (.int v27) v28 v29 (.bool v30) v31 v32 =
  cond (v2 < len v0) (
 cond (v2 < 0) (
 .row []) (
 cond (D.strEq (cl v0 v2 0) v32) (
 cond ((cl v0 v2 2).toInt = 2) (
 cond (D.strEq (cl v0 v2 3) v3) (
 cond (D.strEq (cl v0 v2 4) v4) (
 cond ((sl (La v20 (.bool v21) v7 v8 (.bool v9) v10 (.bool v11) v12 (.bool v13) v14 (.bool v15) (.int v16) (.int v22) v26 v23 v24 (.bool v25) (.bool v17) v18 (.bool v19) (.int v27) v31 v28 v29 (.bool v30) (.bool v6) (cl v0 v2 0) (cl v0 v2 1) (cl v0 v2 2) (cl v0 v2 3) (cl v0 v2 4) (cl v0 v2 5) (cl v0 v2 6) (cl v0 v2 7) (cl v0 v2 8)) 0).toInt = 1) (
 cond ((sl (La v20 (.bool v21) v7 v8 (.bool v9) v10 (.bool v11) v12 (.bool v13) v14 (.bool v15) (.int v16) (.int v22) v26 v23 v24 (.bool v25) (.bool v17) v18 (.bool v19) (.int v27) v31 v28 v29 (.bool v30) (.bool v6) (cl v0 v2 0) (cl v0 v2 1) (cl v0 v2 2) (cl v0 v2 3) (cl v0 v2 4) (cl v0 v2 5) (cl v0 v2 6) (cl v0 v2 7) (cl v0 v2 8)) 1).toBool) (
 .row [.int 1, (.int v2)]) (
 HK v0 (.bool v1) (.int (IntKind.wrap .i64 (v2 + 1))) v3 v4 (.int v5) (.bool v6) v7 v8 (.bool v9) v10 (.bool v11) v12 (.bool v13) v14 (.bool v15) (.int v16) (.bool v17) v18 (.bool v19) v20 (.bool v21) (.int v22) v23 v24 (.bool v25) v26 (.int v27) v28 v29 (.bool v30) v31 v32)) (
 .row [])) (
 HK v0 (.bool v1) (.int (IntKind.wrap .i64 (v2 + 1))) v3 v4 (.int v5) (.bool v6) v7 v8 (.bool v9) v10 (.bool v11) v12 (.bool v13) v14 (.bool v15) (.int v16) (.bool v17) v18 (.bool v19) v20 (.bool v21) (.int v22) v23 v24 (.bool v25) v26 (.int v27) v28 v29 (.bool v30) v31 v32)) (
 HK v0 (.bool v1) (.int (IntKind.wrap .i64 (v2 + 1))) v3 v4 (.int v5) (.bool v6) v7 v8 (.bool v9) v10 (.bool v11) v12 (.bool v13) v14 (.bool v15) (.int v16) (.bool v17) v18 (.bool v19) v20 (.bool v21) (.int v22) v23 v24 (.bool v25) v26 (.int v27) v28 v29 (.bool v30) v31 v32)) (
 HK v0 (.bool v1) (.int (IntKind.wrap .i64 (v2 + 1))) v3 v4 (.int v5) (.bool v6) v7 v8 (.bool v9) v10 (.bool v11) v12 (.bool v13) v14 (.bool v15) (.int v16) (.bool v17) v18 (.bool v19) v20 (.bool v21) (.int v22) v23 v24 (.bool v25) v26 (.int v27) v28 v29 (.bool v30) v31 v32)) (
 HK v0 (.bool v1) (.int (IntKind.wrap .i64 (v2 + 1))) v3 v4 (.int v5) (.bool v6) v7 v8 (.bool v9) v10 (.bool v11) v12 (.bool v13) v14 (.bool v15) (.int v16) (.bool v17) v18 (.bool v19) v20 (.bool v21) (.int v22) v23 v24 (.bool v25) v26 (.int v27) v28 v29 (.bool v30) v31 v32))) (
 .row [.int 2]) := gw rfl rfl (cL (cL rfl (cg rfl (cQ (cg rfl (cg rfl (cQ rfl rfl) rfl) rfl) rfl) rfl)) rfl)
theorem MB (v0 : D) (v1 : Bool) (v2 v3 : D) (v4 : Bool) (v5 : D) (v6 : Bool) (v7 : D) (v8 : Bool) (v9 : D) (v10 : Bool) (v11 v12 : Int) (v13 v14 v15 : D) (v16 v17 : Bool) (v18 : D) (v19 : Bool) (v20 : Int) (v21 v22 : D) {F0 F1 F2 F3 F4 F5 F6 : D} (h0 : FQ (.int v12) v13 v14 v15 (.bool v16) = F0) (h1 : K0 (sl F0 1) (sl F0 5) (sl F0 2) (sl F0 3) (sl F0 4) (.int v20) = F1) (h2 : A3 v7 (.bool v8) = F2) (h3 : Lm v21 v22 (.int (-1)) v0 (.bool v1) v2 v3 (.bool v4) v5 (.bool v6) v7 (.bool v8) v9 (.bool v10) (.int v11) (.int v12) v13 v14 v15 (.bool v16) (.bool v17) v18 (.bool v19) (sl F1 4) (sl F1 7) (sl F0 2) (sl F1 5) (sl F1 6) (.bool (decide (0 < (len (sl F1 1) : Int)))) (sl F2 1) (sl F2 2) v9 = F3) (h4 : Lm v21 v22 (.int (-1)) v0 (.bool v1) v2 v3 (.bool v4) v5 (.bool v6) v7 (.bool v8) v9 (.bool v10) (.int v11) (.int v12) v13 v14 v15 (.bool v16) (.bool v17) v18 (.bool v19) (sl F1 4) (sl F1 7) (sl F0 2) (sl F1 5) (sl F1 6) (.bool true) (sl F2 1) (sl F2 2) v9 = F4) (h5 : Ml v0 (.bool v1) v2 v3 (.bool v4) v5 (.bool v6) v7 (.bool v8) v9 (.bool v10) (.int v11) (.int v12) v13 v14 v15 (.bool v16) (.bool false) v18 (.bool v19) (sl F1 4) (sl F1 7) (sl F0 2) (sl F1 5) (sl F1 6) (.bool (decide (0 < (len (sl F1 1) : Int)))) (.int v20) (sl F3 1) = F5) (h6 : Ml v0 (.bool v1) v2 v3 (.bool v4) v5 (.bool v6) v7 (.bool v8) v9 (.bool v10) (.int v11) (.int v12) v13 v14 v15 (.bool v16) (.bool true) v18 (.bool v19) (sl F1 4) (sl F1 7) (sl F0 2) (sl F1 5) (sl F1 6) (.bool true) (.int v20) (sl F4 1) = F6) : M4 v0 (.bool v1) v2 v3 (.bool v4) v5 (.bool v6) v7 (.bool v8) v9 (.bool v10) (.int v11) (.int v12) v13 v14 v15 (.bool v16) (.bool v17) v18 (.bool v19) (.int v20) v21 v22 =
  cond (v20 < v12) (
 .row [.int 1, (.int 0), (.int 3), v9, (.bool v10), (.int v11), (.bool v17), v18, (.bool v19), v0, (.bool v1), (.int v12), v14, v15, (.bool v16), v13]) (
 cond (1099511627776 < v20) (
 .row [.int 1, (.int 0), (.int 3), v9, (.bool v10), (.int v11), (.bool v17), v18, (.bool v19), v0, (.bool v1), (.int v12), v14, v15, (.bool v16), v13]) (
 cond ((sl F0 0).toInt = 1) (
 cond ((sl F1 0).toInt = 1) (
 cond (v17) (
 cond ((sl F2 0).toInt = 1) (
 cond ((sl F4 0).toInt = 1) (
 cond ((sl F4 1).toInt < 0) (
 .row [.int 1, (.int 0), (.int 9), v9, (.bool v10), (.int v11), (.bool true), v18, (.bool v19), v0, (.bool v1), (.int v12), v14, v15, (.bool v16), v13]) (
 cond ((sl F6 0).toInt = 1) (
 .row [.int 1, (sl F4 1), (.int 0), (sl F6 1), (sl F6 2), (sl F6 3), (.bool false), (sl F6 4), (sl F6 5), (sl F6 6), (sl F6 7), (sl F6 13), (sl F6 14), (sl F6 15), (sl F6 16), (sl F6 17)]) (
 .row []))) (
 cond ((sl F4 0).toInt = 2) (
 .row [.int 1, (.int 0), (.int 9), v9, (.bool v10), (.int v11), (.bool true), v18, (.bool v19), v0, (.bool v1), (.int v12), v14, v15, (.bool v16), v13]) (
 .row []))) (
 .row [])) (
 cond ((sl F2 0).toInt = 1) (
 cond ((sl F3 0).toInt = 1) (
 cond ((sl F3 1).toInt < 0) (
 .row [.int 1, (.int 0), (.int 9), v9, (.bool v10), (.int v11), (.bool false), v18, (.bool v19), v0, (.bool v1), (.int v12), v14, v15, (.bool v16), v13]) (
 cond ((sl F5 0).toInt = 1) (
 .row [.int 1, (sl F3 1), (.int 0), (sl F5 1), (sl F5 2), (sl F5 3), (.bool false), (sl F5 4), (sl F5 5), (sl F5 6), (sl F5 7), (sl F5 13), (sl F5 14), (sl F5 15), (sl F5 16), (sl F5 17)]) (
 .row []))) (
 cond ((sl F3 0).toInt = 2) (
 .row [.int 1, (.int 0), (.int 9), v9, (.bool v10), (.int v11), (.bool false), v18, (.bool v19), v0, (.bool v1), (.int v12), v14, v15, (.bool v16), v13]) (
 .row []))) (
 .row []))) (
 .row [])) (
 .row []))) := by
  subst h0; subst h1; subst h2; subst h3; subst h4; subst h5; subst h6; exact gw rfl rfl (cL rfl (cL rfl (cQ (cQ (cg rfl (cQ (cQ (cL rfl (cQ rfl rfl)) (cQ rfl rfl)) rfl) (cQ (cQ (cL rfl (cQ rfl rfl)) (cQ rfl rfl)) rfl)) rfl) rfl)))
theorem Oz (v0 v1 v2 v3 v4 : D) (v5 : Int) (v6 v7 : D) (v8 : Int) (v9 : D) (v10 : Int) (v11 v12 : D) : Mg v0 v1 v2 v3 v4 (.int v5) v6 v7 (.int v8) v9 (.int v10) v11 v12 =
  cond (v10 < v8) (
 .row [.int 1, v0, v1, v2, v3, v4, (.int v5), v6, v7, (.int v8), v9, (.int 0), (.int 3)]) (
 cond (1099511627776 < v10) (
 .row [.int 1, v0, v1, v2, v3, v4, (.int v5), v6, v7, (.int v8), v9, (.int 0), (.int 3)]) (
 Jw (.int v10) v11 v12 (.int 0) v0 v1 v2 v3 v4 (.int v5) v6 v7 (.int v8) v9)) := gw rfl rfl (cL rfl (cL rfl rfl))
theorem YO (v0 : Int) (v1 v2 : D) (v3 : Int) (v4 v5 v6 v7 v8 : D) (v9 : Int) (v10 v11 : D) (v12 : Int) (v13 : D) : Jw (.int v0) v1 v2 (.int v3) v4 v5 v6 v7 v8 (.int v9) v10 v11 (.int v12) v13 =
  cond (v3 < len v7) (
 cond (v3 < 0) (
 .row []) (
 cond ((cl v7 v3 2).toInt = 2) (
 cond (D.strEq (cl v7 v3 3) v1) (
 cond (D.strEq (cl v7 v3 4) v2) (
 cond ((sl (G5 v4 v5 v6 v7 v8 (.int v9) v10 v11 (.int v12) v13 (.int v0) (.int v3)) 0).toInt = 1) (
 cond ((sl (G5 v4 v5 v6 v7 v8 (.int v9) v10 v11 (.int v12) v13 (.int v0) (.int v3)) 1).toBool) (
 cond ((sl (Cr v4 v5 v6 v7 v8 (.int v9) v10 v11 (.int v12) v13 (.int v0) (.int v3)) 0).toInt = 1) (
 .row [.int 1, (sl (Cr v4 v5 v6 v7 v8 (.int v9) v10 v11 (.int v12) v13 (.int v0) (.int v3)) 1), (sl (Cr v4 v5 v6 v7 v8 (.int v9) v10 v11 (.int v12) v13 (.int v0) (.int v3)) 2), (sl (Cr v4 v5 v6 v7 v8 (.int v9) v10 v11 (.int v12) v13 (.int v0) (.int v3)) 3), (sl (Cr v4 v5 v6 v7 v8 (.int v9) v10 v11 (.int v12) v13 (.int v0) (.int v3)) 4), (sl (Cr v4 v5 v6 v7 v8 (.int v9) v10 v11 (.int v12) v13 (.int v0) (.int v3)) 5), (sl (Cr v4 v5 v6 v7 v8 (.int v9) v10 v11 (.int v12) v13 (.int v0) (.int v3)) 6), (sl (Cr v4 v5 v6 v7 v8 (.int v9) v10 v11 (.int v12) v13 (.int v0) (.int v3)) 7), (sl (Cr v4 v5 v6 v7 v8 (.int v9) v10 v11 (.int v12) v13 (.int v0) (.int v3)) 8), (sl (Cr v4 v5 v6 v7 v8 (.int v9) v10 v11 (.int v12) v13 (.int v0) (.int v3)) 9), (sl (Cr v4 v5 v6 v7 v8 (.int v9) v10 v11 (.int v12) v13 (.int v0) (.int v3)) 10), (.int v3), (.int 0)]) (
 .row [])) (
 Jw (.int v0) v1 v2 (.int (IntKind.wrap .i64 (v3 + 1))) v4 v5 v6 v7 v8 (.int v9) v10 v11 (.int v12) v13)) (
 .row [])) (
 Jw (.int v0) v1 v2 (.int (IntKind.wrap .i64 (v3 + 1))) v4 v5 v6 v7 v8 (.int v9) v10 v11 (.int v12) v13)) (
 Jw (.int v0) v1 v2 (.int (IntKind.wrap .i64 (v3 + 1))) v4 v5 v6 v7 v8 (.int v9) v10 v11 (.int v12) v13)) (
 Jw (.int v0) v1 v2 (.int (IntKind.wrap .i64 (v3 + 1))) v4 v5 v6 v7 v8 (.int v9) v10 v11 (.int v12) v13))) (
 .row [.int 1, v4, v5, v6, v7, v8, (.int v9), v10, v11, (.int v12), v13, (.int 0), (.int 9)]) := gw rfl rfl (cL (cL rfl (cQ (cg rfl (cg rfl (cQ (cg rfl (cQ rfl rfl) rfl) rfl) rfl) rfl) rfl)) rfl)
theorem cR (v0 : D) (v1 : Bool) : Ow v0 (.bool v1) =
  cond (v1) (
 .row [.int 1, AB, (.bool true)]) (
 cond ((len v0 : Int) < 1048576) (
 .row [.int 1, (ct Ag v0), (.bool false)]) (
 .row [])) := gw rfl rfl (cg rfl rfl (cL rfl rfl))
theorem bU (v0 : D) (v1 : Bool) : Pi v0 (.bool v1) =
  cond ((sl (Ow v0 (.bool v1)) 0).toInt = 1) (
 .row [.int 1, (sl (Ow v0 (.bool v1)) 1), (sl (Ow v0 (.bool v1)) 2)]) (
 .row []) := gw rfl rfl (cQ rfl rfl)
theorem jH (v0 : D) (v1 : Bool) (v2 v3 : D) (v4 : Bool) (v5 : D) (v6 : Bool) (v7 : D) (v8 : Bool) (v9 : D) (v10 : Bool) (v11 v12 : Int) (v13 v14 v15 : D) (v16 v17 : Bool) (v18 : D) (v19 : Bool) : Wl v0 (.bool v1) v2 v3 (.bool v4) v5 (.bool v6) v7 (.bool v8) v9 (.bool v10) (.int v11) (.int v12) v13 v14 v15 (.bool v16) (.bool v17) v18 (.bool v19) =
  cond ((sl (Pi v0 (.bool v1)) 0).toInt = 1) (
 cond ((sl (FQ (.int v12) v13 v14 v15 (.bool v16)) 0).toInt = 1) (
 cond ((sl (Fd v18 (.bool v19)) 0).toInt = 1) (
 .row [.int 1, v3, v5, v7, v2, (.bool v4), (.bool v6), (.bool v8), v9, (.bool v10), (.int v11), (.bool v17), (sl (Fd v18 (.bool v19)) 1), (sl (Fd v18 (.bool v19)) 2), (sl (Pi v0 (.bool v1)) 1), (sl (Pi v0 (.bool v1)) 2), (sl (FQ (.int v12) v13 v14 v15 (.bool v16)) 1), (sl (FQ (.int v12) v13 v14 v15 (.bool v16)) 2), (sl (FQ (.int v12) v13 v14 v15 (.bool v16)) 3), (sl (FQ (.int v12) v13 v14 v15 (.bool v16)) 4), (sl (FQ (.int v12) v13 v14 v15 (.bool v16)) 5)]) (
 .row [])) (
 .row [])) (
 .row []) := gw rfl rfl (cQ (cQ (cQ rfl rfl) rfl) rfl)
theorem H0 (v0 : D) (v1 : Bool) (v2 v3 : D) (v4 : Bool) (v5 : D) (v6 : Bool) (v7 : D) (v8 : Bool) (v9 : D) (v10 : Bool) (v11 v12 : Int) (v13 v14 v15 : D) (v16 v17 : Bool) (v18 : D) (v19 : Bool) (v20 v21 v22 v23 v24 : D) (v25 : Int) (v26 v27 : D) (v28 : Int) (v29 : D) (v30 v31 v32 : Int) (v33 v34 : D) {F0 F1 F2 F3 F4 F5 F6 F7 F8 F9 F10 F11 F12 F13 F14 : D} (h0 : Cw v0 (.bool v1) v2 v3 (.bool v4) v5 (.bool v6) v7 (.bool v8) v9 (.bool v10) (.int v11) (.int v12) v13 v14 v15 (.bool v16) (.bool v17) v18 (.bool v19) (.int v31) (.int v32) = F0) (h1 : M4 v0 (.bool v1) v2 v3 (.bool v4) v5 (.bool v6) v7 (.bool v8) v9 (.bool v10) (.int v11) (.int v12) v13 v14 v15 (.bool v16) (.bool v17) v18 (.bool v19) (.int v31) v33 v34 = F1) (h2 : OE v0 (.bool v1) v2 v3 (.bool v4) v5 (.bool v6) v7 (.bool v8) v9 (.bool v10) (.int v11) (.int v12) v13 v14 v15 (.bool v16) (.bool v17) v18 (.bool v19) (.int v31) = F2) (h3 : Cr v20 v21 v22 v23 v24 (.int v25) v26 v27 (.int v28) v29 (.int v31) (.int v32) = F3) (h4 : Mg v20 v21 v22 v23 v24 (.int v25) v26 v27 (.int v28) v29 (.int v31) v33 v34 = F4) (h5 : Rn v20 v21 v22 v23 v24 (.int v25) v26 v27 (.int v28) v29 (.int v31) = F5) (h6 : Wl v0 (.bool v1) v2 v3 (.bool v4) v5 (.bool v6) v7 (.bool v8) v9 (.bool v10) (.int v11) (.int v12) v13 v14 v15 (.bool v16) (.bool v17) v18 (.bool v19) = F6) (h7 : LM v20 v21 v22 v23 v24 (.int v25) v26 v27 (.int v28) v29 = F7) (h8 : Cw v0 (.bool v1) v2 v3 (.bool v4) v5 (.bool v6) v7 (.bool v8) v9 (.bool v10) (.int v11) (.int v12) v13 v14 v15 (.bool v16) (.bool v17) v18 (.bool v19) (sl F7 1) (.int v32) = F8) (h9 : Cr v20 v21 v22 v23 v24 (.int v25) v26 v27 (.int v28) v29 (sl F7 1) (.int v32) = F9) (h10 : Gs (sl F0 8) (sl F0 9) v2 v3 (.bool v4) v5 (.bool v6) v7 (.bool v8) (sl F0 2) (sl F0 3) (sl F0 4) (sl F0 10) (sl F0 14) (sl F0 11) (sl F0 12) (sl F0 13) (sl F0 5) (sl F0 6) (sl F0 7) (sl F3 1) (sl F3 2) (sl F3 3) (sl F3 4) (sl F3 5) (sl F3 6) (sl F3 7) (sl F3 8) (sl F3 9) (sl F3 10) = F10) (h11 : OE v0 (.bool v1) v2 (sl F6 1) (.bool v4) (sl F6 2) (.bool v6) (sl F6 3) (.bool v8) v9 (.bool v10) (.int v11) (.int v12) v13 v14 v15 (.bool v16) (.bool v17) v18 (.bool v19) (.int 1099511627776) = F11) (h12 : Gs (sl F1 9) (sl F1 10) v2 v3 (.bool v4) v5 (.bool v6) v7 (.bool v8) (sl F1 3) (sl F1 4) (sl F1 5) (sl F1 11) (sl F1 15) (sl F1 12) (sl F1 13) (sl F1 14) (sl F1 6) (sl F1 7) (sl F1 8) (sl F4 1) (sl F4 2) (sl F4 3) (sl F4 4) (sl F4 5) (sl F4 6) (sl F4 7) (sl F4 8) (sl F4 9) (sl F4 10) = F12) (h13 : Gs v0 (.bool v1) v2 v3 (.bool v4) v5 (.bool v6) v7 (.bool v8) v9 (.bool v10) (.int v11) (sl F2 5) (sl F2 9) (sl F2 6) (sl F2 7) (sl F2 8) (sl F2 4) v18 (.bool v19) (sl F5 1) (sl F5 2) (sl F5 3) (sl F5 4) (sl F5 5) (sl F5 6) (sl F5 7) (sl F5 8) (sl F5 9) (sl F5 10) = F13) (h14 : Gs (sl F8 8) (sl F8 9) v2 v3 (.bool v4) v5 (.bool v6) v7 (.bool v8) (sl F8 2) (sl F8 3) (sl F8 4) (sl F8 10) (sl F8 14) (sl F8 11) (sl F8 12) (sl F8 13) (sl F8 5) (sl F8 6) (sl F8 7) (sl F9 1) (sl F9 2) (sl F9 3) (sl F9 4) (sl F9 5) (sl F9 6) (sl F9 7) (sl F9 8) (sl F9 9) (sl F9 10) = F14) : Vv v0 (.bool v1) v2 v3 (.bool v4) v5 (.bool v6) v7 (.bool v8) v9 (.bool v10) (.int v11) (.int v12) v13 v14 v15 (.bool v16) (.bool v17) v18 (.bool v19) v20 v21 v22 v23 v24 (.int v25) v26 v27 (.int v28) v29 (.int v30) (.int v31) (.int v32) v33 v34 =
  cond (v30 = 0) (
 cond ((sl F2 0).toInt = 1) (
 cond ((sl F5 0).toInt = 1) (
 cond ((sl (JL (sl F2 1) (sl F2 2) (sl F5 11) (sl F5 12)) 0).toInt = 1) (
 cond ((sl (JL (sl F2 1) (sl F2 2) (sl F5 11) (sl F5 12)) 1).toBool) (
 cond ((sl F2 3).toInt = (sl F5 13).toInt) (
 cond ((sl F13 0).toInt = 1) (
 .row [.int 1, (sl F5 1), (sl F5 2), (sl F5 3), (sl F5 4), (sl F5 5), (sl F5 6), (sl F5 7), (sl F5 8), (sl F5 9), (sl F5 10), (sl F13 1), v3, v5, v7, (sl F2 5), (sl F2 6), (sl F2 7), (sl F2 8), (sl F2 9), v18, v2, (.bool v4), (.bool v6), (.bool v8), v9, (.bool v10), (.int v11), (sl F2 4), (.bool v19), v0, (.bool v1)]) (
 .row [])) (
 .row [.int 1, (sl F5 1), (sl F5 2), (sl F5 3), (sl F5 4), (sl F5 5), (sl F5 6), (sl F5 7), (sl F5 8), (sl F5 9), (sl F5 10), (.bool false), v3, v5, v7, (sl F2 5), (sl F2 6), (sl F2 7), (sl F2 8), (sl F2 9), v18, v2, (.bool v4), (.bool v6), (.bool v8), v9, (.bool v10), (.int v11), (sl F2 4), (.bool v19), v0, (.bool v1)])) (
 .row [.int 1, (sl F5 1), (sl F5 2), (sl F5 3), (sl F5 4), (sl F5 5), (sl F5 6), (sl F5 7), (sl F5 8), (sl F5 9), (sl F5 10), (.bool false), v3, v5, v7, (sl F2 5), (sl F2 6), (sl F2 7), (sl F2 8), (sl F2 9), v18, v2, (.bool v4), (.bool v6), (.bool v8), v9, (.bool v10), (.int v11), (sl F2 4), (.bool v19), v0, (.bool v1)])) (
 .row [])) (
 .row [])) (
 .row [])) (
 cond (v30 = 1) (
 cond ((sl F2 0).toInt = 1) (
 cond ((sl F5 0).toInt = 1) (
 cond ((sl (JL (sl F2 1) (sl F2 2) (sl F5 11) (sl F5 12)) 0).toInt = 1) (
 cond ((sl (JL (sl F2 1) (sl F2 2) (sl F5 11) (sl F5 12)) 1).toBool) (
 cond ((sl F2 3).toInt = (sl F5 13).toInt) (
 cond ((sl F13 0).toInt = 1) (
 .row [.int 1, (sl F5 1), (sl F5 2), (sl F5 3), (sl F5 4), (sl F5 5), (sl F5 6), (sl F5 7), (sl F5 8), (sl F5 9), (sl F5 10), (sl F13 1), v3, v5, v7, (sl F2 5), (sl F2 6), (sl F2 7), (sl F2 8), (sl F2 9), v18, v2, (.bool v4), (.bool v6), (.bool v8), v9, (.bool v10), (.int v11), (sl F2 4), (.bool v19), v0, (.bool v1)]) (
 .row [])) (
 .row [.int 1, (sl F5 1), (sl F5 2), (sl F5 3), (sl F5 4), (sl F5 5), (sl F5 6), (sl F5 7), (sl F5 8), (sl F5 9), (sl F5 10), (.bool false), v3, v5, v7, (sl F2 5), (sl F2 6), (sl F2 7), (sl F2 8), (sl F2 9), v18, v2, (.bool v4), (.bool v6), (.bool v8), v9, (.bool v10), (.int v11), (sl F2 4), (.bool v19), v0, (.bool v1)])) (
 .row [.int 1, (sl F5 1), (sl F5 2), (sl F5 3), (sl F5 4), (sl F5 5), (sl F5 6), (sl F5 7), (sl F5 8), (sl F5 9), (sl F5 10), (.bool false), v3, v5, v7, (sl F2 5), (sl F2 6), (sl F2 7), (sl F2 8), (sl F2 9), v18, v2, (.bool v4), (.bool v6), (.bool v8), v9, (.bool v10), (.int v11), (sl F2 4), (.bool v19), v0, (.bool v1)])) (
 .row [])) (
 .row [])) (
 .row [])) (
 cond (v30 = 2) (
 cond ((sl F0 0).toInt = 1) (
 cond ((sl F3 0).toInt = 1) (
 cond ((sl F0 1).toInt = (sl F3 11).toInt) (
 cond ((sl F10 0).toInt = 1) (
 .row [.int 1, (sl F3 1), (sl F3 2), (sl F3 3), (sl F3 4), (sl F3 5), (sl F3 6), (sl F3 7), (sl F3 8), (sl F3 9), (sl F3 10), (sl F10 1), v3, v5, v7, (sl F0 10), (sl F0 11), (sl F0 12), (sl F0 13), (sl F0 14), (sl F0 6), v2, (.bool v4), (.bool v6), (.bool v8), (sl F0 2), (sl F0 3), (sl F0 4), (sl F0 5), (sl F0 7), (sl F0 8), (sl F0 9)]) (
 .row [])) (
 .row [.int 1, (sl F3 1), (sl F3 2), (sl F3 3), (sl F3 4), (sl F3 5), (sl F3 6), (sl F3 7), (sl F3 8), (sl F3 9), (sl F3 10), (.bool false), v3, v5, v7, (sl F0 10), (sl F0 11), (sl F0 12), (sl F0 13), (sl F0 14), (sl F0 6), v2, (.bool v4), (.bool v6), (.bool v8), (sl F0 2), (sl F0 3), (sl F0 4), (sl F0 5), (sl F0 7), (sl F0 8), (sl F0 9)])) (
 .row [])) (
 .row [])) (
 cond (v30 = 3) (
 cond ((sl F0 0).toInt = 1) (
 cond ((sl F3 0).toInt = 1) (
 cond ((sl F0 1).toInt = (sl F3 11).toInt) (
 cond ((sl F10 0).toInt = 1) (
 .row [.int 1, (sl F3 1), (sl F3 2), (sl F3 3), (sl F3 4), (sl F3 5), (sl F3 6), (sl F3 7), (sl F3 8), (sl F3 9), (sl F3 10), (sl F10 1), v3, v5, v7, (sl F0 10), (sl F0 11), (sl F0 12), (sl F0 13), (sl F0 14), (sl F0 6), v2, (.bool v4), (.bool v6), (.bool v8), (sl F0 2), (sl F0 3), (sl F0 4), (sl F0 5), (sl F0 7), (sl F0 8), (sl F0 9)]) (
 .row [])) (
 .row [.int 1, (sl F3 1), (sl F3 2), (sl F3 3), (sl F3 4), (sl F3 5), (sl F3 6), (sl F3 7), (sl F3 8), (sl F3 9), (sl F3 10), (.bool false), v3, v5, v7, (sl F0 10), (sl F0 11), (sl F0 12), (sl F0 13), (sl F0 14), (sl F0 6), v2, (.bool v4), (.bool v6), (.bool v8), (sl F0 2), (sl F0 3), (sl F0 4), (sl F0 5), (sl F0 7), (sl F0 8), (sl F0 9)])) (
 .row [])) (
 .row [])) (
 cond (v30 = 4) (
 cond ((sl F0 0).toInt = 1) (
 cond ((sl F3 0).toInt = 1) (
 cond ((sl F0 1).toInt = (sl F3 11).toInt) (
 cond ((sl F10 0).toInt = 1) (
 .row [.int 1, (sl F3 1), (sl F3 2), (sl F3 3), (sl F3 4), (sl F3 5), (sl F3 6), (sl F3 7), (sl F3 8), (sl F3 9), (sl F3 10), (sl F10 1), v3, v5, v7, (sl F0 10), (sl F0 11), (sl F0 12), (sl F0 13), (sl F0 14), (sl F0 6), v2, (.bool v4), (.bool v6), (.bool v8), (sl F0 2), (sl F0 3), (sl F0 4), (sl F0 5), (sl F0 7), (sl F0 8), (sl F0 9)]) (
 .row [])) (
 .row [.int 1, (sl F3 1), (sl F3 2), (sl F3 3), (sl F3 4), (sl F3 5), (sl F3 6), (sl F3 7), (sl F3 8), (sl F3 9), (sl F3 10), (.bool false), v3, v5, v7, (sl F0 10), (sl F0 11), (sl F0 12), (sl F0 13), (sl F0 14), (sl F0 6), v2, (.bool v4), (.bool v6), (.bool v8), (sl F0 2), (sl F0 3), (sl F0 4), (sl F0 5), (sl F0 7), (sl F0 8), (sl F0 9)])) (
 .row [])) (
 .row [])) (
 cond (v30 = 5) (
 cond ((sl F1 0).toInt = 1) (
 cond ((sl F4 0).toInt = 1) (
 cond ((sl F1 1).toInt = (sl F4 11).toInt) (
 cond ((sl F1 2).toInt = (sl F4 12).toInt) (
 cond ((sl F12 0).toInt = 1) (
 .row [.int 1, (sl F4 1), (sl F4 2), (sl F4 3), (sl F4 4), (sl F4 5), (sl F4 6), (sl F4 7), (sl F4 8), (sl F4 9), (sl F4 10), (sl F12 1), v3, v5, v7, (sl F1 11), (sl F1 12), (sl F1 13), (sl F1 14), (sl F1 15), (sl F1 7), v2, (.bool v4), (.bool v6), (.bool v8), (sl F1 3), (sl F1 4), (sl F1 5), (sl F1 6), (sl F1 8), (sl F1 9), (sl F1 10)]) (
 .row [])) (
 .row [.int 1, (sl F4 1), (sl F4 2), (sl F4 3), (sl F4 4), (sl F4 5), (sl F4 6), (sl F4 7), (sl F4 8), (sl F4 9), (sl F4 10), (.bool false), v3, v5, v7, (sl F1 11), (sl F1 12), (sl F1 13), (sl F1 14), (sl F1 15), (sl F1 7), v2, (.bool v4), (.bool v6), (.bool v8), (sl F1 3), (sl F1 4), (sl F1 5), (sl F1 6), (sl F1 8), (sl F1 9), (sl F1 10)])) (
 .row [.int 1, (sl F4 1), (sl F4 2), (sl F4 3), (sl F4 4), (sl F4 5), (sl F4 6), (sl F4 7), (sl F4 8), (sl F4 9), (sl F4 10), (.bool false), v3, v5, v7, (sl F1 11), (sl F1 12), (sl F1 13), (sl F1 14), (sl F1 15), (sl F1 7), v2, (.bool v4), (.bool v6), (.bool v8), (sl F1 3), (sl F1 4), (sl F1 5), (sl F1 6), (sl F1 8), (sl F1 9), (sl F1 10)])) (
 .row [])) (
 .row [])) (
 cond (v30 = 6) (
 cond ((sl F1 0).toInt = 1) (
 cond ((sl F4 0).toInt = 1) (
 cond ((sl F1 1).toInt = (sl F4 11).toInt) (
 cond ((sl F1 2).toInt = (sl F4 12).toInt) (
 cond ((sl F12 0).toInt = 1) (
 .row [.int 1, (sl F4 1), (sl F4 2), (sl F4 3), (sl F4 4), (sl F4 5), (sl F4 6), (sl F4 7), (sl F4 8), (sl F4 9), (sl F4 10), (sl F12 1), v3, v5, v7, (sl F1 11), (sl F1 12), (sl F1 13), (sl F1 14), (sl F1 15), (sl F1 7), v2, (.bool v4), (.bool v6), (.bool v8), (sl F1 3), (sl F1 4), (sl F1 5), (sl F1 6), (sl F1 8), (sl F1 9), (sl F1 10)]) (
 .row [])) (
 .row [.int 1, (sl F4 1), (sl F4 2), (sl F4 3), (sl F4 4), (sl F4 5), (sl F4 6), (sl F4 7), (sl F4 8), (sl F4 9), (sl F4 10), (.bool false), v3, v5, v7, (sl F1 11), (sl F1 12), (sl F1 13), (sl F1 14), (sl F1 15), (sl F1 7), v2, (.bool v4), (.bool v6), (.bool v8), (sl F1 3), (sl F1 4), (sl F1 5), (sl F1 6), (sl F1 8), (sl F1 9), (sl F1 10)])) (
 .row [.int 1, (sl F4 1), (sl F4 2), (sl F4 3), (sl F4 4), (sl F4 5), (sl F4 6), (sl F4 7), (sl F4 8), (sl F4 9), (sl F4 10), (.bool false), v3, v5, v7, (sl F1 11), (sl F1 12), (sl F1 13), (sl F1 14), (sl F1 15), (sl F1 7), v2, (.bool v4), (.bool v6), (.bool v8), (sl F1 3), (sl F1 4), (sl F1 5), (sl F1 6), (sl F1 8), (sl F1 9), (sl F1 10)])) (
 .row [])) (
 .row [])) (
 cond (v30 = 7) (
 cond ((sl F6 0).toInt = 1) (
 cond ((len (sl F6 2) : Int) = (len v5 : Int)) (
 cond ((len (sl F6 1) : Int) = (len v3 : Int)) (
 cond ((len (sl F6 3) : Int) = (len v7 : Int)) (
 cond ((sl F11 0).toInt = 1) (
 RQ (.int 0) v2 (sl F6 1) (.bool v4) (sl F6 2) (.bool v6) (sl F6 3) (.bool v8) v9 (.bool v10) (.int v11) (sl F11 4) v18 (.bool v19) v0 (.bool v1) v20 v21 v22 v23 v24 (.int v25) v26 v27 (.int v28) v29 (sl F6 4) (sl F6 5) (sl F6 6) (sl F6 7) (sl F6 8) (sl F6 9) (sl F6 10) (sl F6 11) (sl F6 12) (sl F6 13) (sl F6 14) (sl F6 15) (sl F6 16) (sl F6 17) (sl F6 18) (sl F6 19) (sl F6 20) (sl F11 5) (sl F11 6) (sl F11 7) (sl F11 8) (sl F11 9)) (
 .row [])) (
 .row [])) (
 .row [])) (
 .row [])) (
 .row [])) (
 cond ((sl F7 0).toInt = 1) (
 cond ((sl F8 0).toInt = 1) (
 cond ((sl F9 0).toInt = 1) (
 cond ((sl F8 1).toInt = (sl F9 11).toInt) (
 cond ((sl F14 0).toInt = 1) (
 .row [.int 1, (sl F9 1), (sl F9 2), (sl F9 3), (sl F9 4), (sl F9 5), (sl F9 6), (sl F9 7), (sl F9 8), (sl F9 9), (sl F9 10), (sl F14 1), v3, v5, v7, (sl F8 10), (sl F8 11), (sl F8 12), (sl F8 13), (sl F8 14), (sl F8 6), v2, (.bool v4), (.bool v6), (.bool v8), (sl F8 2), (sl F8 3), (sl F8 4), (sl F8 5), (sl F8 7), (sl F8 8), (sl F8 9)]) (
 .row [])) (
 .row [.int 1, (sl F9 1), (sl F9 2), (sl F9 3), (sl F9 4), (sl F9 5), (sl F9 6), (sl F9 7), (sl F9 8), (sl F9 9), (sl F9 10), (.bool false), v3, v5, v7, (sl F8 10), (sl F8 11), (sl F8 12), (sl F8 13), (sl F8 14), (sl F8 6), v2, (.bool v4), (.bool v6), (.bool v8), (sl F8 2), (sl F8 3), (sl F8 4), (sl F8 5), (sl F8 7), (sl F8 8), (sl F8 9)])) (
 .row [])) (
 .row [])) (
 .row []))))))))) := by
  subst h0; subst h1; subst h2; subst h3; subst h4; subst h5; subst h6; subst h7; subst h8; subst h9; subst h10; subst h11; subst h12; subst h13; subst h14; exact gw rfl rfl (cQ (cQ (cQ (cQ (cg rfl (cQ (cQ rfl rfl) rfl) rfl) rfl) rfl) rfl) (cQ (cQ (cQ (cQ (cg rfl (cQ (cQ rfl rfl) rfl) rfl) rfl) rfl) rfl) (cQ (cQ (cQ (cQ (cQ rfl rfl) rfl) rfl) rfl) (cQ (cQ (cQ (cQ (cQ rfl rfl) rfl) rfl) rfl) (cQ (cQ (cQ (cQ (cQ rfl rfl) rfl) rfl) rfl) (cQ (cQ (cQ (cQ (cQ (cQ rfl rfl) rfl) rfl) rfl) rfl) (cQ (cQ (cQ (cQ (cQ (cQ rfl rfl) rfl) rfl) rfl) rfl) (cQ (cQ (cQ (cQ (cQ (cQ rfl rfl) rfl) rfl) rfl) rfl) (cQ (cQ (cQ (cQ (cQ rfl rfl) rfl) rfl) rfl) rfl)))))))))
theorem X6 (v0 : Int) (v1 v2 : D) (v3 : Bool) (v4 : D) (v5 : Bool) (v6 : D) (v7 : Bool) (v8 : D) (v9 : Bool) (v10 : Int) (v11 : Bool) (v12 : D) (v13 : Bool) (v14 : D) (v15 : Bool) (v16 v17 v18 v19 v20 : D) (v21 : Int) (v22 v23 : D) (v24 : Int) (v25 v26 : D) (v27 v28 v29 : Bool) (v30 : D) (v31 : Bool) (v32 : Int) (v33 : Bool) (v34 : D) (v35 : Bool) (v36 : D) (v37 : Bool) (v38 : Int) (v39 v40 : D) (v41 : Bool) (v42 : D) (v43 : Int) (v44 v45 : D) (v46 : Bool) (v47 : D) : RQ (.int v0) v1 v2 (.bool v3) v4 (.bool v5) v6 (.bool v7) v8 (.bool v9) (.int v10) (.bool v11) v12 (.bool v13) v14 (.bool v15) v16 v17 v18 v19 v20 (.int v21) v22 v23 (.int v24) v25 v26 (.bool v27) (.bool v28) (.bool v29) v30 (.bool v31) (.int v32) (.bool v33) v34 (.bool v35) v36 (.bool v37) (.int v38) v39 v40 (.bool v41) v42 (.int v43) v44 v45 (.bool v46) v47 =
  cond (v0 < len v19) (
 cond ((sl (Cw v14 (.bool v15) v1 v2 (.bool v3) v4 (.bool v5) v6 (.bool v7) v8 (.bool v9) (.int v10) (.int v43) v47 v44 v45 (.bool v46) (.bool v11) v12 (.bool v13) (.int 1099511627776) (.int v0)) 0).toInt = 1) (
 RQ (.int (IntKind.wrap .i64 (v0 + 1))) v1 v2 (.bool v3) v4 (.bool v5) v6 (.bool v7) (sl (Cw v14 (.bool v15) v1 v2 (.bool v3) v4 (.bool v5) v6 (.bool v7) v8 (.bool v9) (.int v10) (.int v43) v47 v44 v45 (.bool v46) (.bool v11) v12 (.bool v13) (.int 1099511627776) (.int v0)) 2) (sl (Cw v14 (.bool v15) v1 v2 (.bool v3) v4 (.bool v5) v6 (.bool v7) v8 (.bool v9) (.int v10) (.int v43) v47 v44 v45 (.bool v46) (.bool v11) v12 (.bool v13) (.int 1099511627776) (.int v0)) 3) (sl (Cw v14 (.bool v15) v1 v2 (.bool v3) v4 (.bool v5) v6 (.bool v7) v8 (.bool v9) (.int v10) (.int v43) v47 v44 v45 (.bool v46) (.bool v11) v12 (.bool v13) (.int 1099511627776) (.int v0)) 4) (sl (Cw v14 (.bool v15) v1 v2 (.bool v3) v4 (.bool v5) v6 (.bool v7) v8 (.bool v9) (.int v10) (.int v43) v47 v44 v45 (.bool v46) (.bool v11) v12 (.bool v13) (.int 1099511627776) (.int v0)) 5) (sl (Cw v14 (.bool v15) v1 v2 (.bool v3) v4 (.bool v5) v6 (.bool v7) v8 (.bool v9) (.int v10) (.int v43) v47 v44 v45 (.bool v46) (.bool v11) v12 (.bool v13) (.int 1099511627776) (.int v0)) 6) (sl (Cw v14 (.bool v15) v1 v2 (.bool v3) v4 (.bool v5) v6 (.bool v7) v8 (.bool v9) (.int v10) (.int v43) v47 v44 v45 (.bool v46) (.bool v11) v12 (.bool v13) (.int 1099511627776) (.int v0)) 7) (sl (Cw v14 (.bool v15) v1 v2 (.bool v3) v4 (.bool v5) v6 (.bool v7) v8 (.bool v9) (.int v10) (.int v43) v47 v44 v45 (.bool v46) (.bool v11) v12 (.bool v13) (.int 1099511627776) (.int v0)) 8) (sl (Cw v14 (.bool v15) v1 v2 (.bool v3) v4 (.bool v5) v6 (.bool v7) v8 (.bool v9) (.int v10) (.int v43) v47 v44 v45 (.bool v46) (.bool v11) v12 (.bool v13) (.int 1099511627776) (.int v0)) 9) v16 v17 v18 v19 v20 (.int v21) v22 v23 (.int v24) v25 v26 (.bool v27) (.bool v28) (.bool v29) v30 (.bool v31) (.int v32) (.bool v33) v34 (.bool v35) v36 (.bool v37) (.int v38) v39 v40 (.bool v41) v42 (sl (Cw v14 (.bool v15) v1 v2 (.bool v3) v4 (.bool v5) v6 (.bool v7) v8 (.bool v9) (.int v10) (.int v43) v47 v44 v45 (.bool v46) (.bool v11) v12 (.bool v13) (.int 1099511627776) (.int v0)) 10) (sl (Cw v14 (.bool v15) v1 v2 (.bool v3) v4 (.bool v5) v6 (.bool v7) v8 (.bool v9) (.int v10) (.int v43) v47 v44 v45 (.bool v46) (.bool v11) v12 (.bool v13) (.int 1099511627776) (.int v0)) 11) (sl (Cw v14 (.bool v15) v1 v2 (.bool v3) v4 (.bool v5) v6 (.bool v7) v8 (.bool v9) (.int v10) (.int v43) v47 v44 v45 (.bool v46) (.bool v11) v12 (.bool v13) (.int 1099511627776) (.int v0)) 12) (sl (Cw v14 (.bool v15) v1 v2 (.bool v3) v4 (.bool v5) v6 (.bool v7) v8 (.bool v9) (.int v10) (.int v43) v47 v44 v45 (.bool v46) (.bool v11) v12 (.bool v13) (.int 1099511627776) (.int v0)) 13) (sl (Cw v14 (.bool v15) v1 v2 (.bool v3) v4 (.bool v5) v6 (.bool v7) v8 (.bool v9) (.int v10) (.int v43) v47 v44 v45 (.bool v46) (.bool v11) v12 (.bool v13) (.int 1099511627776) (.int v0)) 14)) (
 .row [])) (
 cond ((sl (Gs v36 (.bool v37) v26 v2 (.bool v27) v4 (.bool v28) v6 (.bool v29) v30 (.bool v31) (.int v32) (.int v38) v42 v39 v40 (.bool v41) (.bool v33) v34 (.bool v35) v16 v17 v18 v19 v20 (.int v21) v22 v23 (.int v24) v25) 0).toInt = 1) (
 .row [.int 1, v16, v17, v18, v19, v20, (.int v21), v22, v23, (.int v24), v25, (sl (Gs v36 (.bool v37) v26 v2 (.bool v27) v4 (.bool v28) v6 (.bool v29) v30 (.bool v31) (.int v32) (.int v38) v42 v39 v40 (.bool v41) (.bool v33) v34 (.bool v35) v16 v17 v18 v19 v20 (.int v21) v22 v23 (.int v24) v25) 1), v2, v4, v6, (.int v38), v39, v40, (.bool v41), v42, v34, v26, (.bool v27), (.bool v28), (.bool v29), v30, (.bool v31), (.int v32), (.bool v33), (.bool v35), v36, (.bool v37)]) (
 .row [])) := gw rfl rfl (cL (cQ rfl rfl) (cQ rfl rfl))
theorem Sr (v0 v1 v2 v3 v4 : D) {F0 F1 : D} (h0 : B4 v0 (ct Ag v1) (.bool false) (ct Ag v2) (.bool false) (ct Ag v3) (.bool false) = F0) (h1 : C3 (sl F0 12) (sl F0 13) (sl F0 1) (sl F0 2) (sl F0 3) (sl F0 4) (sl F0 5) (sl F0 6) (sl F0 7) (sl F0 8) (sl F0 9) (sl F0 10) (.int 0) (sl F0 17) (sl F0 14) (sl F0 15) (sl F0 16) (.bool false) (sl F0 11) (.bool true) = F1) : X3 v0 v1 v2 v3 v4 =
  cond ((sl (U8 v0 v1 v2 v3) 0).toInt = 1) (
 cond ((sl (U8 v0 v1 v2 v3) 1).toBool) (
 cond ((sl (Lr) 0).toInt = 1) (
 .row [.int 1, (.bool true)]) (
 .row [])) (
 cond (60 < (len v4 : Int)) (
 cond ((sl (Lr) 0).toInt = 1) (
 .row [.int 1, (.bool true)]) (
 .row [])) (
 cond ((len v2 : Int) < 1048576) (
 cond ((len v1 : Int) < 1048576) (
 cond ((len v3 : Int) < 1048576) (
 cond ((sl (B4 v0 (ct Ag v1) (.bool (false && decide ((len v1 : Int) = 0))) (ct Ag v2) (.bool (false && decide ((len v2 : Int) = 0))) (ct Ag v3) (.bool (false && decide ((len v3 : Int) = 0)))) 0).toInt = 1) (
 cond ((sl (DN v0 v1 v2 v3) 0).toInt = 1) (
 cond (0 = (sl (DN v0 v1 v2 v3) 8).toInt) (
 cond ((sl (DN v0 v1 v2 v3) 8).toInt = 0) (
 cond ((sl (C3 (sl (B4 v0 (ct Ag v1) (.bool (false && decide ((len v1 : Int) = 0))) (ct Ag v2) (.bool (false && decide ((len v2 : Int) = 0))) (ct Ag v3) (.bool (false && decide ((len v3 : Int) = 0)))) 12) (sl (B4 v0 (ct Ag v1) (.bool (false && decide ((len v1 : Int) = 0))) (ct Ag v2) (.bool (false && decide ((len v2 : Int) = 0))) (ct Ag v3) (.bool (false && decide ((len v3 : Int) = 0)))) 13) (sl (B4 v0 (ct Ag v1) (.bool (false && decide ((len v1 : Int) = 0))) (ct Ag v2) (.bool (false && decide ((len v2 : Int) = 0))) (ct Ag v3) (.bool (false && decide ((len v3 : Int) = 0)))) 1) (sl (B4 v0 (ct Ag v1) (.bool (false && decide ((len v1 : Int) = 0))) (ct Ag v2) (.bool (false && decide ((len v2 : Int) = 0))) (ct Ag v3) (.bool (false && decide ((len v3 : Int) = 0)))) 2) (sl (B4 v0 (ct Ag v1) (.bool (false && decide ((len v1 : Int) = 0))) (ct Ag v2) (.bool (false && decide ((len v2 : Int) = 0))) (ct Ag v3) (.bool (false && decide ((len v3 : Int) = 0)))) 3) (sl (B4 v0 (ct Ag v1) (.bool (false && decide ((len v1 : Int) = 0))) (ct Ag v2) (.bool (false && decide ((len v2 : Int) = 0))) (ct Ag v3) (.bool (false && decide ((len v3 : Int) = 0)))) 4) (sl (B4 v0 (ct Ag v1) (.bool (false && decide ((len v1 : Int) = 0))) (ct Ag v2) (.bool (false && decide ((len v2 : Int) = 0))) (ct Ag v3) (.bool (false && decide ((len v3 : Int) = 0)))) 5) (sl (B4 v0 (ct Ag v1) (.bool (false && decide ((len v1 : Int) = 0))) (ct Ag v2) (.bool (false && decide ((len v2 : Int) = 0))) (ct Ag v3) (.bool (false && decide ((len v3 : Int) = 0)))) 6) (sl (B4 v0 (ct Ag v1) (.bool (false && decide ((len v1 : Int) = 0))) (ct Ag v2) (.bool (false && decide ((len v2 : Int) = 0))) (ct Ag v3) (.bool (false && decide ((len v3 : Int) = 0)))) 7) (sl (B4 v0 (ct Ag v1) (.bool (false && decide ((len v1 : Int) = 0))) (ct Ag v2) (.bool (false && decide ((len v2 : Int) = 0))) (ct Ag v3) (.bool (false && decide ((len v3 : Int) = 0)))) 8) (sl (B4 v0 (ct Ag v1) (.bool (false && decide ((len v1 : Int) = 0))) (ct Ag v2) (.bool (false && decide ((len v2 : Int) = 0))) (ct Ag v3) (.bool (false && decide ((len v3 : Int) = 0)))) 9) (sl (B4 v0 (ct Ag v1) (.bool (false && decide ((len v1 : Int) = 0))) (ct Ag v2) (.bool (false && decide ((len v2 : Int) = 0))) (ct Ag v3) (.bool (false && decide ((len v3 : Int) = 0)))) 10) (.int 0) (sl (B4 v0 (ct Ag v1) (.bool (false && decide ((len v1 : Int) = 0))) (ct Ag v2) (.bool (false && decide ((len v2 : Int) = 0))) (ct Ag v3) (.bool (false && decide ((len v3 : Int) = 0)))) 17) (sl (B4 v0 (ct Ag v1) (.bool (false && decide ((len v1 : Int) = 0))) (ct Ag v2) (.bool (false && decide ((len v2 : Int) = 0))) (ct Ag v3) (.bool (false && decide ((len v3 : Int) = 0)))) 14) (sl (B4 v0 (ct Ag v1) (.bool (false && decide ((len v1 : Int) = 0))) (ct Ag v2) (.bool (false && decide ((len v2 : Int) = 0))) (ct Ag v3) (.bool (false && decide ((len v3 : Int) = 0)))) 15) (sl (B4 v0 (ct Ag v1) (.bool (false && decide ((len v1 : Int) = 0))) (ct Ag v2) (.bool (false && decide ((len v2 : Int) = 0))) (ct Ag v3) (.bool (false && decide ((len v3 : Int) = 0)))) 16) (.bool false) (sl (B4 v0 (ct Ag v1) (.bool (false && decide ((len v1 : Int) = 0))) (ct Ag v2) (.bool (false && decide ((len v2 : Int) = 0))) (ct Ag v3) (.bool (false && decide ((len v3 : Int) = 0)))) 11) (.bool true)) 0).toInt = 1) (
 Ss v4 (.int 0) v0 v1 v2 v3 (sl (DN v0 v1 v2 v3) 1) (sl (DN v0 v1 v2 v3) 2) (sl (DN v0 v1 v2 v3) 3) (sl (DN v0 v1 v2 v3) 4) (sl (DN v0 v1 v2 v3) 5) (sl (DN v0 v1 v2 v3) 6) (sl (DN v0 v1 v2 v3) 7) (ct Ag v1) (.bool false) (ct Ag v2) (.bool false) (ct Ag v3) (.bool false) (.bool false) (.bool false) (.bool false) (sl F1 1) (sl F1 2) (sl F1 3) (sl F1 4) (sl F1 5) (sl F1 6) (sl F1 7) (sl F0 1) (sl F0 2) (sl F0 3) (sl F0 4) (sl F0 5) (sl F0 6) (sl F0 7) (sl F0 8) (sl F0 9) (sl F0 10) (sl F0 11) (sl F0 12) (sl F0 13) (sl F0 14) (sl F0 15) (sl F0 16) (sl F0 17)) (
 .row [])) (
 cond ((sl (Lr) 0).toInt = 1) (
 .row [.int 1, (.bool true)]) (
 .row []))) (
 .row [.int 1, (.bool false)])) (
 .row [])) (
 cond ((sl (B4 v0 (ct Ag v1) (.bool (false && decide ((len v1 : Int) = 0))) (ct Ag v2) (.bool (false && decide ((len v2 : Int) = 0))) (ct Ag v3) (.bool (false && decide ((len v3 : Int) = 0)))) 0).toInt = 2) (
 cond ((sl (DN v0 v1 v2 v3) 0).toInt = 1) (
 cond ((sl (B4 v0 (ct Ag v1) (.bool (false && decide ((len v1 : Int) = 0))) (ct Ag v2) (.bool (false && decide ((len v2 : Int) = 0))) (ct Ag v3) (.bool (false && decide ((len v3 : Int) = 0)))) 1).toInt = (sl (DN v0 v1 v2 v3) 8).toInt) (
 cond ((sl (DN v0 v1 v2 v3) 8).toInt = 0) (
 .row []) (
 cond ((sl (Lr) 0).toInt = 1) (
 .row [.int 1, (.bool true)]) (
 .row []))) (
 .row [.int 1, (.bool false)])) (
 .row [])) (
 .row []))) (
 .row [])) (
 .row [])) (
 .row [])))) (
 .row []) := by
  subst h0; subst h1; exact gw rfl rfl (cQ (cg rfl (cQ rfl rfl) (cL (cQ rfl rfl) (cL (cL (cL (cQ (cQ (cQ (cQ (cQ rfl rfl) (cQ rfl rfl)) rfl) rfl) (cQ (cQ (cQ (cQ rfl (cQ rfl rfl)) rfl) rfl) rfl)) rfl) rfl) rfl))) rfl)
theorem YU (v0 : D) (v1 : Int) (v2 v3 v4 v5 v6 v7 v8 v9 v10 v11 v12 v13 : D) (v14 : Bool) (v15 : D) (v16 : Bool) (v17 : D) (v18 v19 v20 v21 : Bool) (v22 v23 : D) (v24 : Bool) (v25 : D) (v26 : Bool) (v27 : D) (v28 : Bool) (v29 v30 : D) (v31 : Bool) (v32 : D) (v33 : Bool) (v34 : D) (v35 : Bool) (v36 : D) (v37 : Bool) (v38 : Int) (v39 v40 : D) (v41 : Bool) (v42 v43 : D) (v44 : Bool) (v45 : D) : Ss v0 (.int v1) v2 v3 v4 v5 v6 v7 v8 v9 v10 v11 v12 v13 (.bool v14) v15 (.bool v16) v17 (.bool v18) (.bool v19) (.bool v20) (.bool v21) v22 v23 (.bool v24) v25 (.bool v26) v27 (.bool v28) v29 v30 (.bool v31) v32 (.bool v33) v34 (.bool v35) v36 (.bool v37) (.int v38) v39 v40 (.bool v41) v42 v43 (.bool v44) v45 =
  cond (v1 < len v13) (
 cond (v1 < 0) (
 .row []) (
 Ss v0 (.int (IntKind.wrap .i64 (v1 + 1))) v2 v3 v4 v5 v6 v7 v8 v9 v10 v11 v12 (upd (upd (upd v13 v1 0 (Db 1 63)) v1 1 (.bool false)) v1 2 (.int 3)) (.bool v14) v15 (.bool v16) v17 (.bool v18) (.bool v19) (.bool v20) (.bool v21) v22 v23 (.bool v24) v25 (.bool v26) v27 (.bool v28) v29 v30 (.bool v31) v32 (.bool v33) v34 (.bool v35) v36 (.bool v37) (.int v38) v39 v40 (.bool v41) v42 v43 (.bool v44) v45)) (
 OR v0 (.int 0) v2 v3 v4 v5 v6 v7 v8 v9 v10 v11 v12 v13 (.bool v14) v15 (.bool v16) v17 (.bool v18) (.bool v19) (.bool v20) (.bool v21) v22 v23 (.bool v24) v25 (.bool v26) v27 (.bool v28) v29 v30 (.bool v31) v32 (.bool v33) v34 (.bool v35) v36 (.bool v37) (.int v38) v39 v40 (.bool v41) v42 v43 (.bool v44) v45) := gw rfl rfl rfl
theorem X4 (v0 : D) (v1 : Int) (v2 v3 v4 v5 v6 v7 v8 v9 v10 v11 v12 v13 : D) (v14 : Bool) (v15 : D) (v16 : Bool) (v17 : D) (v18 v19 v20 v21 : Bool) (v22 v23 : D) (v24 : Bool) (v25 : D) (v26 : Bool) (v27 : D) (v28 : Bool) (v29 v30 : D) (v31 : Bool) (v32 : D) (v33 : Bool) (v34 : D) (v35 : Bool) (v36 : D) (v37 : Bool) (v38 : Int) (v39 v40 : D) (v41 : Bool) (v42 v43 : D) (v44 : Bool) (v45 : D) : OR v0 (.int v1) v2 v3 v4 v5 v6 v7 v8 v9 v10 v11 v12 v13 (.bool v14) v15 (.bool v16) v17 (.bool v18) (.bool v19) (.bool v20) (.bool v21) v22 v23 (.bool v24) v25 (.bool v26) v27 (.bool v28) v29 v30 (.bool v31) v32 (.bool v33) v34 (.bool v35) v36 (.bool v37) (.int v38) v39 v40 (.bool v41) v42 v43 (.bool v44) v45 =
  cond (v1 < len v15) (
 cond (v1 < 0) (
 .row []) (
 OR v0 (.int (IntKind.wrap .i64 (v1 + 1))) v2 v3 v4 v5 v6 v7 v8 v9 v10 v11 v12 v13 (.bool v14) (upd (upd v15 v1 0 (Db 1 63)) v1 1 (.int 0)) (.bool v16) v17 (.bool v18) (.bool v19) (.bool v20) (.bool v21) v22 v23 (.bool v24) v25 (.bool v26) v27 (.bool v28) v29 v30 (.bool v31) v32 (.bool v33) v34 (.bool v35) v36 (.bool v37) (.int v38) v39 v40 (.bool v41) v42 v43 (.bool v44) v45)) (
 OB v0 (.int 0) v2 v3 v4 v5 v6 v7 v8 v9 v10 v11 v12 v13 (.bool v14) v15 (.bool v16) v17 (.bool v18) (.bool v19) (.bool v20) (.bool v21) v22 v23 (.bool v24) v25 (.bool v26) v27 (.bool v28) v29 v30 (.bool v31) v32 (.bool v33) v34 (.bool v35) v36 (.bool v37) (.int v38) v39 v40 (.bool v41) v42 v43 (.bool v44) v45) := gw rfl rfl rfl
theorem Yj (v0 : D) (v1 : Int) (v2 v3 v4 v5 v6 v7 v8 v9 v10 v11 v12 v13 : D) (v14 : Bool) (v15 : D) (v16 : Bool) (v17 : D) (v18 v19 v20 v21 : Bool) (v22 v23 : D) (v24 : Bool) (v25 : D) (v26 : Bool) (v27 : D) (v28 : Bool) (v29 v30 : D) (v31 : Bool) (v32 : D) (v33 : Bool) (v34 : D) (v35 : Bool) (v36 : D) (v37 : Bool) (v38 : Int) (v39 v40 : D) (v41 : Bool) (v42 v43 : D) (v44 : Bool) (v45 : D) : OB v0 (.int v1) v2 v3 v4 v5 v6 v7 v8 v9 v10 v11 v12 v13 (.bool v14) v15 (.bool v16) v17 (.bool v18) (.bool v19) (.bool v20) (.bool v21) v22 v23 (.bool v24) v25 (.bool v26) v27 (.bool v28) v29 v30 (.bool v31) v32 (.bool v33) v34 (.bool v35) v36 (.bool v37) (.int v38) v39 v40 (.bool v41) v42 v43 (.bool v44) v45 =
  cond (v1 < len v17) (
 cond (v1 < 0) (
 .row []) (
 OB v0 (.int (IntKind.wrap .i64 (v1 + 1))) v2 v3 v4 v5 v6 v7 v8 v9 v10 v11 v12 v13 (.bool v14) v15 (.bool v16) (upd (upd (upd (upd (upd (upd (upd (upd (upd v17 v1 0 (Db 0 0)) v1 1 (Db 0 0)) v1 2 (.int 0)) v1 3 (Db 0 0)) v1 4 (Db 0 0)) v1 5 (Db 0 0)) v1 6 (.int 0)) v1 7 (.int 0)) v1 8 (.int 0)) (.bool v18) (.bool v19) (.bool v20) (.bool v21) v22 v23 (.bool v24) v25 (.bool v26) v27 (.bool v28) v29 v30 (.bool v31) v32 (.bool v33) v34 (.bool v35) v36 (.bool v37) (.int v38) v39 v40 (.bool v41) v42 v43 (.bool v44) v45)) (
 Ol v0 (.int 0) v2 v3 v4 v5 v6 v7 v8 v9 v10 v11 v12 v22 v23 (.bool v24) v25 (.bool v26) v27 (.bool v28) v13 (.bool v19) v15 (.bool v20) v17 (.bool v21) v29 v30 (.bool v31) v32 (.bool v33) v34 (.bool v35) v36 (.bool v37) (.int v38) v39 v40 (.bool v41) v42 v43 (.bool v44) v45) := gw rfl rfl rfl
theorem YE (v0 : D) (v1 : Int) (v2 v3 v4 v5 v6 v7 v8 v9 v10 v11 v12 v13 v14 : D) (v15 : Bool) (v16 : D) (v17 : Bool) (v18 : D) (v19 : Bool) (v20 : D) (v21 : Bool) (v22 : D) (v23 : Bool) (v24 : D) (v25 : Bool) (v26 v27 : D) (v28 : Bool) (v29 : D) (v30 : Bool) (v31 : D) (v32 : Bool) (v33 : D) (v34 : Bool) (v35 : Int) (v36 v37 : D) (v38 : Bool) (v39 v40 : D) (v41 : Bool) (v42 : D) : Ol v0 (.int v1) v2 v3 v4 v5 v6 v7 v8 v9 v10 v11 v12 v13 v14 (.bool v15) v16 (.bool v17) v18 (.bool v19) v20 (.bool v21) v22 (.bool v23) v24 (.bool v25) v26 v27 (.bool v28) v29 (.bool v30) v31 (.bool v32) v33 (.bool v34) (.int v35) v36 v37 (.bool v38) v39 v40 (.bool v41) v42 =
  cond (v1 < len v14) (
 cond (v1 < 0) (
 .row []) (
 Ol v0 (.int (IntKind.wrap .i64 (v1 + 1))) v2 v3 v4 v5 v6 v7 v8 v9 v10 v11 v12 v13 (upd (upd (upd v14 v1 0 (Db 1 63)) v1 1 (.bool false)) v1 2 (.int 3)) (.bool v15) v16 (.bool v17) v18 (.bool v19) v20 (.bool v21) v22 (.bool v23) v24 (.bool v25) v26 v27 (.bool v28) v29 (.bool v30) v31 (.bool v32) v33 (.bool v34) (.int v35) v36 v37 (.bool v38) v39 v40 (.bool v41) v42)) (
 OP v0 (.int 0) v2 v3 v4 v5 v6 v7 v8 v9 v10 v11 v12 v13 v14 (.bool v15) v16 (.bool v17) v18 (.bool v19) v20 (.bool v21) v22 (.bool v23) v24 (.bool v25) v26 v27 (.bool v28) v29 (.bool v30) v31 (.bool v32) v33 (.bool v34) (.int v35) v36 v37 (.bool v38) v39 v40 (.bool v41) v42) := gw rfl rfl rfl
theorem Yt (v0 : D) (v1 : Int) (v2 v3 v4 v5 v6 v7 v8 v9 v10 v11 v12 v13 v14 : D) (v15 : Bool) (v16 : D) (v17 : Bool) (v18 : D) (v19 : Bool) (v20 : D) (v21 : Bool) (v22 : D) (v23 : Bool) (v24 : D) (v25 : Bool) (v26 v27 : D) (v28 : Bool) (v29 : D) (v30 : Bool) (v31 : D) (v32 : Bool) (v33 : D) (v34 : Bool) (v35 : Int) (v36 v37 : D) (v38 : Bool) (v39 v40 : D) (v41 : Bool) (v42 : D) : OP v0 (.int v1) v2 v3 v4 v5 v6 v7 v8 v9 v10 v11 v12 v13 v14 (.bool v15) v16 (.bool v17) v18 (.bool v19) v20 (.bool v21) v22 (.bool v23) v24 (.bool v25) v26 v27 (.bool v28) v29 (.bool v30) v31 (.bool v32) v33 (.bool v34) (.int v35) v36 v37 (.bool v38) v39 v40 (.bool v41) v42 =
  cond (v1 < len v16) (
 cond (v1 < 0) (
 .row []) (
 OP v0 (.int (IntKind.wrap .i64 (v1 + 1))) v2 v3 v4 v5 v6 v7 v8 v9 v10 v11 v12 v13 v14 (.bool v15) (upd (upd v16 v1 0 (Db 1 63)) v1 1 (.int 0)) (.bool v17) v18 (.bool v19) v20 (.bool v21) v22 (.bool v23) v24 (.bool v25) v26 v27 (.bool v28) v29 (.bool v30) v31 (.bool v32) v33 (.bool v34) (.int v35) v36 v37 (.bool v38) v39 v40 (.bool v41) v42)) (
 MZ v0 (.int 0) v2 v3 v4 v5 v6 v7 v8 v9 v10 v11 v12 v13 v14 (.bool v15) v16 (.bool v17) v18 (.bool v19) v20 (.bool v21) v22 (.bool v23) v24 (.bool v25) v26 v27 (.bool v28) v29 (.bool v30) v31 (.bool v32) v33 (.bool v34) (.int v35) v36 v37 (.bool v38) v39 v40 (.bool v41) v42) := gw rfl rfl rfl
theorem Yg (v0 : D) (v1 : Int) (v2 v3 v4 v5 v6 v7 v8 v9 v10 v11 v12 v13 v14 : D) (v15 : Bool) (v16 : D) (v17 : Bool) (v18 : D) (v19 : Bool) (v20 : D) (v21 : Bool) (v22 : D) (v23 : Bool) (v24 : D) (v25 : Bool) (v26 v27 : D) (v28 : Bool) (v29 : D) (v30 : Bool) (v31 : D) (v32 : Bool) (v33 : D) (v34 : Bool) (v35 : Int) (v36 v37 : D) (v38 : Bool) (v39 v40 : D) (v41 : Bool) (v42 : D) : MZ v0 (.int v1) v2 v3 v4 v5 v6 v7 v8 v9 v10 v11 v12 v13 v14 (.bool v15) v16 (.bool v17) v18 (.bool v19) v20 (.bool v21) v22 (.bool v23) v24 (.bool v25) v26 v27 (.bool v28) v29 (.bool v30) v31 (.bool v32) v33 (.bool v34) (.int v35) v36 v37 (.bool v38) v39 v40 (.bool v41) v42 =
  cond (v1 < len v18) (
 cond (v1 < 0) (
 .row []) (
 MZ v0 (.int (IntKind.wrap .i64 (v1 + 1))) v2 v3 v4 v5 v6 v7 v8 v9 v10 v11 v12 v13 v14 (.bool v15) v16 (.bool v17) (upd (upd (upd (upd (upd (upd (upd (upd (upd v18 v1 0 (Db 0 0)) v1 1 (Db 0 0)) v1 2 (.int 0)) v1 3 (Db 0 0)) v1 4 (Db 0 0)) v1 5 (Db 0 0)) v1 6 (.int 0)) v1 7 (.int 0)) v1 8 (.int 0)) (.bool v19) v20 (.bool v21) v22 (.bool v23) v24 (.bool v25) v26 v27 (.bool v28) v29 (.bool v30) v31 (.bool v32) v33 (.bool v34) (.int v35) v36 v37 (.bool v38) v39 v40 (.bool v41) v42)) (
 cond ((sl (C3 v37 (.bool v38) v26 v27 (.bool v28) v29 (.bool v30) v31 (.bool v32) v33 (.bool v34) (.int v35) (.int 0) v42 v39 v40 (.bool v41) (.bool false) v36 (.bool true)) 0).toInt = 1) (
 cond ((sl (Ry (sl (C3 v37 (.bool v38) v26 v27 (.bool v28) v29 (.bool v30) v31 (.bool v32) v33 (.bool v34) (.int v35) (.int 0) v42 v39 v40 (.bool v41) (.bool false) v36 (.bool true)) 1) (ni (sl (C3 v37 (.bool v38) v26 v27 (.bool v28) v29 (.bool v30) v31 (.bool v32) v33 (.bool v34) (.int v35) (.int 0) v42 v39 v40 (.bool v41) (.bool false) v36 (.bool true)) 2) ((sl (C3 v37 (.bool v38) v26 v27 (.bool v28) v29 (.bool v30) v31 (.bool v32) v33 (.bool v34) (.int v35) (.int 0) v42 v39 v40 (.bool v41) (.bool false) v36 (.bool true)) 3).toBool)) (ni (sl (C3 v37 (.bool v38) v26 v27 (.bool v28) v29 (.bool v30) v31 (.bool v32) v33 (.bool v34) (.int v35) (.int 0) v42 v39 v40 (.bool v41) (.bool false) v36 (.bool true)) 4) ((sl (C3 v37 (.bool v38) v26 v27 (.bool v28) v29 (.bool v30) v31 (.bool v32) v33 (.bool v34) (.int v35) (.int 0) v42 v39 v40 (.bool v41) (.bool false) v36 (.bool true)) 5).toBool)) (ni (sl (C3 v37 (.bool v38) v26 v27 (.bool v28) v29 (.bool v30) v31 (.bool v32) v33 (.bool v34) (.int v35) (.int 0) v42 v39 v40 (.bool v41) (.bool false) v36 (.bool true)) 6) ((sl (C3 v37 (.bool v38) v26 v27 (.bool v28) v29 (.bool v30) v31 (.bool v32) v33 (.bool v34) (.int v35) (.int 0) v42 v39 v40 (.bool v41) (.bool false) v36 (.bool true)) 7).toBool)) v2 v3 v4 v5) 0).toInt = 1) (
 Rl v0 (sl (Ry (sl (C3 v37 (.bool v38) v26 v27 (.bool v28) v29 (.bool v30) v31 (.bool v32) v33 (.bool v34) (.int v35) (.int 0) v42 v39 v40 (.bool v41) (.bool false) v36 (.bool true)) 1) (ni (sl (C3 v37 (.bool v38) v26 v27 (.bool v28) v29 (.bool v30) v31 (.bool v32) v33 (.bool v34) (.int v35) (.int 0) v42 v39 v40 (.bool v41) (.bool false) v36 (.bool true)) 2) ((sl (C3 v37 (.bool v38) v26 v27 (.bool v28) v29 (.bool v30) v31 (.bool v32) v33 (.bool v34) (.int v35) (.int 0) v42 v39 v40 (.bool v41) (.bool false) v36 (.bool true)) 3).toBool)) (ni (sl (C3 v37 (.bool v38) v26 v27 (.bool v28) v29 (.bool v30) v31 (.bool v32) v33 (.bool v34) (.int v35) (.int 0) v42 v39 v40 (.bool v41) (.bool false) v36 (.bool true)) 4) ((sl (C3 v37 (.bool v38) v26 v27 (.bool v28) v29 (.bool v30) v31 (.bool v32) v33 (.bool v34) (.int v35) (.int 0) v42 v39 v40 (.bool v41) (.bool false) v36 (.bool true)) 5).toBool)) (ni (sl (C3 v37 (.bool v38) v26 v27 (.bool v28) v29 (.bool v30) v31 (.bool v32) v33 (.bool v34) (.int v35) (.int 0) v42 v39 v40 (.bool v41) (.bool false) v36 (.bool true)) 6) ((sl (C3 v37 (.bool v38) v26 v27 (.bool v28) v29 (.bool v30) v31 (.bool v32) v33 (.bool v34) (.int v35) (.int 0) v42 v39 v40 (.bool v41) (.bool false) v36 (.bool true)) 7).toBool)) v2 v3 v4 v5) 1) (.int 0) v6 v7 v8 v9 v10 (.int 0) v11 v12 (.int 0) AB v26 v27 (.bool v28) v29 (.bool v30) v31 (.bool v32) v33 (.bool v34) (.int v35) (.bool false) v36 (.bool true) v37 (.bool v38) (.int 0) v39 v40 (.bool v41) v42) (
 .row [])) (
 .row [])) := gw rfl rfl (cL rfl (cQ (cQ rfl rfl) rfl))
theorem Ye (v0 : D) (v1 : Bool) (v2 : Int) (v3 v4 v5 v6 v7 : D) (v8 : Int) (v9 v10 : D) (v11 : Int) (v12 v13 v14 : D) (v15 : Bool) (v16 : D) (v17 : Bool) (v18 : D) (v19 : Bool) (v20 : D) (v21 : Bool) (v22 : Int) (v23 : Bool) (v24 : D) (v25 : Bool) (v26 : D) (v27 : Bool) (v28 : Int) (v29 v30 : D) (v31 : Bool) (v32 : D) {F0 : D} (h0 : Vv v26 (.bool v27) v13 v14 (.bool v15) v16 (.bool v17) v18 (.bool v19) v20 (.bool v21) (.int v22) (.int v28) v32 v29 v30 (.bool v31) (.bool v23) v24 (.bool v25) v3 v4 v5 v6 v7 (.int v8) v9 v10 (.int v11) v12 (cl v0 v2 0) (cl v0 v2 1) (cl v0 v2 2) (cl v0 v2 3) (cl v0 v2 4) = F0) : Rl v0 (.bool v1) (.int v2) v3 v4 v5 v6 v7 (.int v8) v9 v10 (.int v11) v12 v13 v14 (.bool v15) v16 (.bool v17) v18 (.bool v19) v20 (.bool v21) (.int v22) (.bool v23) v24 (.bool v25) v26 (.bool v27) (.int v28) v29 v30 (.bool v31) v32 =
  cond (v2 < len v0) (
 cond (v1) (
 cond (v2 < 0) (
 .row []) (
 cond (60 < (A5 (cl v0 v2 3) : Int)) (
 cond ((sl (Lr) 0).toInt = 1) (
 .row [.int 1, (.bool true)]) (
 .row [])) (
 cond (60 < (A5 (cl v0 v2 4) : Int)) (
 cond ((sl (Lr) 0).toInt = 1) (
 .row [.int 1, (.bool true)]) (
 .row [])) (
 cond ((sl F0 0).toInt = 1) (
 Rl v0 (sl F0 11) (.int (IntKind.wrap .i64 (v2 + 1))) (sl F0 1) (sl F0 2) (sl F0 3) (sl F0 4) (sl F0 5) (sl F0 6) (sl F0 7) (sl F0 8) (sl F0 9) (sl F0 10) (sl F0 21) (sl F0 12) (sl F0 22) (sl F0 13) (sl F0 23) (sl F0 14) (sl F0 24) (sl F0 25) (sl F0 26) (sl F0 27) (sl F0 28) (sl F0 20) (sl F0 29) (sl F0 30) (sl F0 31) (sl F0 15) (sl F0 16) (sl F0 17) (sl F0 18) (sl F0 19)) (
 .row []))))) (
 .row [.int 1, (.bool false)])) (
 cond (v1) (
 cond ((sl (Lr) 0).toInt = 1) (
 .row [.int 1, (.bool true)]) (
 .row [])) (
 .row [.int 1, (.bool false)])) := by
  subst h0; exact gw rfl rfl (cL (cg rfl (cL rfl (cL (cQ rfl rfl) (cL (cQ rfl rfl) (cQ rfl rfl)))) rfl) (cg rfl (cQ rfl rfl) rfl))
end
end Mo
namespace Mo
open Go Go.AE
theorem MM (v : D) (i : Int) : 0 ≤ sAt v i ∧ sAt v i < 256 := by
 unfold sAt;have := ((v.toStr.data.toList[i.toNat]?).getD 0).toNat_lt;omega
theorem LW {v : D} : len (OH v) = A5 v := by
 show (List.map _ _).length = _;simp [A5]
theorem Sv {v : D} {i : Nat} (h : i < A5 v) : (cl (OH v) i 0).toInt = sAt v i := by
 unfold cl sAt OH;have h' : i < v.toStr.data.toList.length := h;simp [D.rows, List.getD_eq_getElem?_getD, List.getElem?_eq_getElem h', D.cells, D.toInt]
theorem SA {x : Int} (h0 : 0 ≤ x) (h1 : x < 256) : IntKind.wrap .u8 x = x := by
 simp only [IntKind.wrap, IntKind.bits, IntKind.signed];have := Int.emod_eq_of_lt h0 h1
 simp_all
section
variable [Ap]
theorem MF {v : D} (hs : A5 v ≤ 32) : ∀ (k i : Nat), i + k = A5 v → 1 ≤ i → ∃ b, PQ (OH v) (.int (A5 v : Nat)) (.int i) = .row [.int 1, .bool b] ∧ JC v (.int i) = .row [.int 1, .bool b]
 | 0, i, hi, h1 => by
  refine ⟨true, ?_, ?_⟩
  ·rw [aL, ifF (by omega)]
  ·rw [Uc, ifF (by omega)]
 | k + 1, i, hi, h1 => by
  obtain ⟨b, q1, q2⟩ := MF hs k (i + 1) (by omega) (by omega)
  have hr := MM v i;have hc := Sv (v := v) (i := i) (by omega)
  have A := aL (OH v) (A5 v : Nat) (i : Int);have B := Uc v (i : Int);rw [hc, SA hr.1 hr.2, LW, AH (by omega) (by omega), show (i : Int) + 1 = ((i + 1 : Nat) : Int) by omega, q1, ifT (by omega), ifF (by omega), ifT (by omega)] at A
  rw [AH (by omega) (by omega), show (i : Int) + 1 = ((i + 1 : Nat) : Int) by omega, q2, ifT (by omega), ifF (by omega)] at B
  rw [A, B];have hi0 : decide ((i : Int) = 0) = false := decide_eq_false (by omega)
  rw [hi0];simp only [cond_false];generalize sAt v i = c;by_cases c1 : c < 97
  ·simp only [ifT c1];by_cases c2 : c < 65
   ·simp only [ifT c2];by_cases c3 : c < 48
    ·simp only [ifT c3]; exact ⟨_, rfl, rfl⟩
    ·simp only [ifF c3];by_cases c4 : 57 < c
     ·simp only [ifT c4]; exact ⟨_, rfl, rfl⟩
     ·simp only [ifF c4]; exact ⟨_, rfl, rfl⟩
   ·simp only [ifF c2];by_cases c3 : 90 < c
    ·simp only [ifT c3];by_cases c4 : c = 95
     ·simp only [ifT c4]; exact ⟨_, rfl, rfl⟩
     ·simp only [ifF c4]; exact ⟨_, rfl, rfl⟩
    ·simp only [ifF c3]; exact ⟨_, rfl, rfl⟩
  ·simp only [ifF c1];by_cases c2 : 122 < c
   ·simp only [ifT c2]; exact ⟨_, by cases decide ((i : Int) = 0) <;> rfl, rfl⟩
   ·simp only [ifF c2]; exact ⟨_, rfl, rfl⟩
theorem RO (v : D) : ∃ b, FX v = .row [.int 1, .bool b] ∧ Dg v = .row [.int 1, .bool b] := by
 rw [mb, Yi];by_cases c1 : (A5 v : Int) < 1
 ·simp only [ifT c1]; exact ⟨_, rfl, rfl⟩
 simp only [ifF c1];by_cases c2 : 32 < (A5 v : Int)
 ·simp only [ifT c2]; exact ⟨_, rfl, rfl⟩
 simp only [ifF c2];obtain ⟨b, q1, q2⟩ := MF (v := v) (by omega) (A5 v - 1) 1 (by omega) (Nat.le_refl _)
 have hr := MM v (0 : Nat);have hc := Sv (v := v) (i := 0) (by omega)
 have A := aL (OH v) (A5 v : Nat) ((0 : Nat) : Int);have B := Uc v ((0 : Nat) : Int);rw [hc, SA hr.1 hr.2, LW, AH (by omega) (by omega), show ((0 : Nat) : Int) + 1 = ((1 : Nat) : Int) by omega, q1, ifT (by omega), ifF (by omega), ifT (by omega)] at A
 rw [AH (by omega) (by omega), show ((0 : Nat) : Int) + 1 = ((1 : Nat) : Int) by omega, q2, ifT (by omega), ifF (by omega)] at B
 have z : ((0 : Nat) : Int) = 0 := rfl;rw [z] at A B hr;rw [LW, A, B];generalize sAt v 0 = c;have hi0 : decide ((0 : Int) = 0) = true := rfl;rw [hi0];simp only [cond_true];by_cases c3 : c = 95
 ·subst c3;exact ⟨false, rfl, rfl⟩
 simp only [ifF c3];by_cases c4 : c < 97
 ·simp only [ifT c4];by_cases c5 : c < 65
  ·simp only [ifT c5];by_cases c6 : c < 48
   ·simp only [ifT c6]; exact ⟨_, rfl, rfl⟩
   ·simp only [ifF c6];by_cases c7 : 57 < c
    ·simp only [ifT c7]; exact ⟨_, rfl, rfl⟩
    ·simp only [ifF c7]; exact ⟨_, rfl, rfl⟩
  ·have c6 : ¬ c < 48 := by omega
   have c7 : 57 < c := by omega
   simp only [ifF c5, ifF c6, ifT c7];by_cases c8 : 90 < c
   ·simp only [ifT c8]; exact ⟨_, rfl, rfl⟩
   ·simp only [ifF c8]; exact ⟨_, rfl, rfl⟩
 ·have c6 : ¬ c < 48 := by omega
  have c7 : 57 < c := by omega
  simp only [ifF c4, ifF c6, ifT c7];by_cases c5 : 122 < c
  ·simp only [ifT c5]; exact ⟨_, rfl, rfl⟩
  ·simp only [ifF c5]; exact ⟨_, rfl, rfl⟩
end
end Mo
namespace Mo
open Go Go.AE
def fd (l key : D) : Int := fdG (fun j => D.strEq (cl l j 0) key) (len l) 0
theorem Il {l key : D} : fd l key < len l := by
 have := LJ (p := fun j => D.strEq (cl l j 0) key) (k := len l) (i := 0)
 unfold fd; omega
theorem kn {l key : D} : fd l key = -1 ∨ 0 ≤ fd l key := by
 have := Oh (p := fun j => D.strEq (cl l j 0) key) (k := len l) (i := 0)
 unfold fd; omega
theorem Kc {l : D} {i : Nat} (h : i < len l) : 0 ≤ fd l (cl l i 0) ∧ fd l (cl l i 0) ≤ i := Qg (p := fun j => D.strEq (cl l j 0) (cl l i 0)) (Nat.zero_le _) (by omega) CY
theorem YV {l key : D} (h : 0 ≤ fd l key) : D.strEq (cl l (fd l key) 0) key = true := by
 have := Nq (p := fun j => D.strEq (cl l j 0) key) (k := len l) (i := 0) h
 have e : ((fd l key).toNat : Int) = fd l key := by omega
 rw [← e];exact this
theorem Eb {F : Int → D} {l key : D} (hn : len l < 4611686018427387904) (h : ∀ i : Int, F i = cond (decide (i < (len l : Int))) (cond (decide (i < 0)) (.row []) (cond (D.strEq (cl l i 0) key) (.row [.int 1, .int i]) (F (IntKind.wrap .i64 (i + 1))))) (.row [.int 1, .int (-1)])) : F 0 = .row [.int 1, .int (fd l key)] := by
 refine find (F := fun i => F (i : Int)) (n := len l) (bad := fun j => D.strEq (cl l j 0) key) (fun j hj => ?_) ?_
 ·show F (j : Int) = _;rw [h, ifT (by omega), ifF (by omega), Bf (by omega)]
 ·show F (len l : Int) = _;rw [h, ifF (by omega)]
section
variable [Ap]
variable {v0 v1 v2 v3 v4 v5 : D}
theorem Yu (hn : len v0 < 4611686018427387904) (k : D) : Vs v0 k = .row [.int 1, .int (fd v0 k)] := (lP ..).trans (Eb (F := fun i => Wu v0 (.int i) k) hn fun i => lQ ..)
theorem X0 (hn : len v0 < 4611686018427387904) (k : D) : Jb v0 k = .row [.int 1, .int (fd v0 k)] := (kQ ..).trans (Eb (F := fun i => XN v0 (.int i) k) hn fun i => lJ ..)
theorem Vt (hn : len v2 < 4611686018427387904) (k : D) : H8 v0 v1 v2 v3 k = .row [.int 1, .int (fd v2 k)] := (ga ..).trans (Eb (F := fun i => SK k (.int i) v0 v1 v2 v3) hn fun i => fH ..)
theorem U0 (hn : len v1 < 4611686018427387904) (k : D) : G2 v0 v1 v2 v3 k = .row [.int 1, .int (fd v1 k)] := (aW ..).trans (Eb (F := fun i => St k (.int i) v0 v1 v2 v3) hn fun i => jC ..)
def nm (v : D) : Bool := (sl (Dg v) 1).toBool
theorem SG (v : D) : FX v = .row [.int 1, .bool (nm v)] := by
 obtain ⟨b, q1, q2⟩ := RO v;rw [q1];unfold nm;rw [q2];rfl
theorem NK (v : D) : Dg v = .row [.int 1, .bool (nm v)] := by
 obtain ⟨b, q1, q2⟩ := RO v;unfold nm;rw [q2];rfl
def KJ (v2 : D) (i : Nat) : Bool := !nm (cl v2 i 0) || decide (fd v2 (cl v2 i 0) < i) || decide ((cl v2 i 1).toInt < 1) || decide (1000 < (cl v2 i 1).toInt)
def Jd (v1 : D) (i : Nat) : Bool := !nm (cl v1 i 0) || decide (fd v1 (cl v1 i 0) < i) || decide ((cl v1 i 2).toInt < 0) || decide (1048576 < (cl v1 i 2).toInt)
theorem cp (hn : len v2 < 1000) (v0 v1 v3 : D) : UE (.int (len v2 : Nat)) (.int 0) (.int 4) v0 v1 v2 v3 = .row [.int 1, .int (cond (decide (4 < (len v2 : Int))) 4 (fdG (KJ v2) (len v2) 0))] := by
 rw [k6, ifF (by omega)]
 by_cases c : 4 < (len v2 : Int)
 ·rw [ifT c, ifT c]
 rw [ifF c, ifF c];refine find (F := fun i => Ta (.int (len v2 : Nat)) (.int (i : Nat)) v0 v1 v2 v3) (n := len v2) (bad := KJ v2) (fun j hj => ?_) ?_
 ·show Ta _ (.int (j : Nat)) _ _ _ _ = _;rw [iR, ifT (by omega), ifF (by omega), ifT (by omega)]
  simp only [SG, Yu (v0 := v2) (by omega), AY, AX, Av, AJ, decide_true, cond_true, Bf (i := j) (by omega)]
  unfold KJ;cases nm (cl v2 j 0) <;> cases decide (fd v2 (cl v2 j 0) < j) <;> cases decide ((cl v2 j 1).toInt < 1) <;> cases decide (1000 < (cl v2 j 1).toInt) <;> rfl
 ·show Ta _ (.int (len v2 : Nat)) _ _ _ _ = _;rw [iR, ifF (by omega)]
theorem jZ (hn : len v1 < 1000) (v0 v2 v3 : D) : T1 (.int (len v1 : Nat)) (.int 1) (.int 24) v0 v1 v2 v3 = .row [.int 1, .int (cond (decide ((len v1 : Int) < 1)) 0 (cond (decide (24 < (len v1 : Int))) 24 (fdG (Jd v1) (len v1) 0)))] := by
 rw [k7];by_cases c : (len v1 : Int) < 1
 ·rw [ifT c, ifT c]
 rw [ifF c, ifF c];by_cases c : 24 < (len v1 : Int)
 ·rw [ifT c, ifT c]
 rw [ifF c, ifF c];refine find (F := fun i => TP (.int (len v1 : Nat)) (.int (i : Nat)) v0 v1 v2 v3) (n := len v1) (bad := Jd v1) (fun j hj => ?_) ?_
 ·show TP _ (.int (j : Nat)) _ _ _ _ = _;rw [fu, ifT (by omega), ifF (by omega), ifT (by omega)]
  simp only [SG, X0 (v0 := v1) (by omega), AY, AX, Av, AJ, decide_true, cond_true, Bf (i := j) (by omega)]
  unfold Jd;cases nm (cl v1 j 0) <;> cases decide (fd v1 (cl v1 j 0) < j) <;> cases decide ((cl v1 j 2).toInt < 0) <;> cases decide (1048576 < (cl v1 j 2).toInt) <;> rfl
 ·show TP _ (.int (len v1 : Nat)) _ _ _ _ = _;rw [fu, ifF (by omega)]
end
end Mo
namespace Mo
open Go Go.AE
def DP (v3 : D) (i j : Nat) : Bool := D.strEq (cl v3 j 0) (cl v3 i 0) && (D.strEq (cl v3 j 1) (cl v3 i 1) && (decide ((cl v3 j 2).toInt = (cl v3 i 2).toInt) && (D.strEq (cl v3 j 3) (cl v3 i 3) && (D.strEq (cl v3 j 4) (cl v3 i 4) && (D.strEq (cl v3 j 5) (cl v3 i 5) && (decide ((cl v3 j 6).toInt = (cl v3 i 6).toInt) && (decide ((cl v3 j 7).toInt = (cl v3 i 7).toInt) && decide ((cl v3 j 8).toInt = (cl v3 i 8).toInt))))))))
def dup (v3 : D) (i : Nat) : Bool := !decide (fdG (DP v3 i) i 0 < 0)
def WS (v2 v3 : D) (i : Nat) : Bool := cond (eqC (cl v3 i 5) 0 0) (cond (decide ((cl v3 i 6).toInt = 0)) (cond (decide ((cl v3 i 7).toInt = 0)) (cond (decide ((cl v3 i 8).toInt = 0)) false true) true) true)
 (cond (decide (fd v2 (cl v3 i 5) < 0)) true (cond (decide ((cl v3 i 6).toInt < 0)) true (cond (decide ((cl v3 i 7).toInt < (cl v3 i 6).toInt)) true (cond (decide ((cl v3 i 8).toInt < (-1000))) true (cond (decide (1000 < (cl v3 i 8).toInt)) true
  (cond (decide ((cl v2 (fd v2 (cl v3 i 5)) 1).toInt < (cl v3 i 7).toInt)) true (cond (decide (IntKind.wrap .i64 ((cl v3 i 6).toInt + (cl v3 i 8).toInt) < 0)) true (cond (decide ((cl v2 (fd v2 (cl v3 i 5)) 1).toInt < IntKind.wrap .i64 ((cl v3 i 7).toInt + (cl v3 i 8).toInt))) true false))))))))
def Dl (v3 : D) : Prop := ∀ i : Nat, i < len v3 → (∃ n, cl v3 i 2 = .int n) ∧ (∃ n, cl v3 i 6 = .int n) ∧ (∃ n, cl v3 i 7 = .int n) ∧ (∃ n, cl v3 i 8 = .int n) ∧ A5 (cl v3 i 3) < 4611686018427387904 ∧ A5 (cl v3 i 4) < 4611686018427387904
section
variable [Ap]
def O3 (v0 v1 v3 : D) (i : Nat) : Bool := cond (decide ((cl v3 i 2).toInt = 1)) (cond (nm (cl v3 i 3)) (cond (nm (cl v3 i 4)) (D.strEq (cl v3 i 4) v0) true) true)
 (cond (decide ((cl v3 i 2).toInt = 2)) (cond (nm (cl v3 i 3)) (cond (nm (cl v3 i 4)) (D.strEq (cl v3 i 4) v0) true) true)
 (cond (decide ((cl v3 i 2).toInt = 3)) (cond (eqC (cl v3 i 3) 0 0) (cond (eqC (cl v3 i 4) 0 0) (!decide (0 < (cl v1 (fd v1 (cl v3 i 0)) 2).toInt)) true) true)
 (cond (decide ((cl v3 i 2).toInt = 4)) (cond (eqC (cl v3 i 3) 0 0) (cond (eqC (cl v3 i 4) 0 0) false true) true) true)))
def Gy (v0 v1 v2 v3 : D) (i : Nat) : Bool := decide (fd v1 (cl v3 i 0) < 0) || (decide (fd v1 (cl v3 i 1) < 0) || (dup v3 i || (O3 v0 v1 v3 i || WS v2 v3 i)))
variable {v0 v1 v2 v3 : D}
theorem aZ (hs : Dl v3) (hn : len v3 < 1000) {i : Nat} (hi : i < len v3) : ∃ n : Int, ZE (sb v3 0 i) (cl v3 i 0) (cl v3 i 1) (cl v3 i 2) (cl v3 i 3) (cl v3 i 4) (cl v3 i 5) (cl v3 i 6) (cl v3 i 7) (cl v3 i 8) = .row [.int 1, .int n] ∧ decide (n < 0) = !dup v3 i := by
 obtain ⟨⟨n2, h2⟩, ⟨n6, h6⟩, ⟨n7, h7⟩, ⟨n8, h8⟩, _⟩ := hs i hi;refine ⟨fdG (DP v3 i) i 0, ?_, by unfold dup; rw [Bool.not_not]⟩
 have hl : len (sb v3 0 i) = i := by
  have := V0 (a := v3) (lo := 0) (hi := (i : Int)) (by omega) (by omega)
  omega
 rw [h2, h6, h7, h8, kX];refine find (F := fun j => TO (sb v3 0 i) (.int (j : Nat)) (cl v3 i 0) (cl v3 i 1) (.int n2) (cl v3 i 3) (cl v3 i 4) (cl v3 i 5) (.int n6) (.int n7) (.int n8)) (n := i) (bad := DP v3 i) (fun j hj => ?_) ?_
 ·show TO (sb v3 0 i) (.int (j : Nat)) (cl v3 i 0) (cl v3 i 1) (.int n2) (cl v3 i 3) (cl v3 i 4) (cl v3 i 5) (.int n6) (.int n7) (.int n8) = _;rw [bi, hl, ifT (by omega), ifF (by omega), Bf (by omega)]
  simp only [Lz (a := v3) (i := i) (j := j) (by omega) hj]
  have e : (D.strEq (cl v3 i 0) (cl v3 j 0) && (D.strEq (cl v3 i 1) (cl v3 j 1) && (decide (n2 = (cl v3 j 2).toInt) && (D.strEq (cl v3 i 3) (cl v3 j 3) && (D.strEq (cl v3 i 4) (cl v3 j 4) && (D.strEq (cl v3 i 5) (cl v3 j 5) && (decide (n6 = (cl v3 j 6).toInt) && (decide (n7 = (cl v3 j 7).toInt) && decide (n8 = (cl v3 j 8).toInt))))))))) = DP v3 i j := by
   unfold DP;rw [h2, h6, h7, h8];simp only [Av];rw [BC (a := cl v3 i 0), BC (a := cl v3 i 1), BC (a := cl v3 i 3), BC (a := cl v3 i 4), BC (a := cl v3 i 5)];rw [RD (x := n2), RD (x := n6), RD (x := n7), RD (x := n8)];rfl
  rw [e]
 ·show TO (sb v3 0 i) (.int (i : Nat)) (cl v3 i 0) (cl v3 i 1) (.int n2) (cl v3 i 3) (cl v3 i 4) (cl v3 i 5) (.int n6) (.int n7) (.int n8) = _;rw [bi, hl, ifF (by omega)]
theorem XF (hs : Dl v3) (hn : len v3 < 1000) (hn1 : len v1 < 1000) (hn2 : len v2 < 1000) {i : Nat} (hi : i < len v3) : Hi (.int (len v3 : Nat)) (.int (i : Nat)) v0 v1 v2 v3 = cond (Gy v0 v1 v2 v3 i) (.row [.int 1, .int (i : Nat)]) (Hi (.int (len v3 : Nat)) (.int (i + 1 : Nat)) v0 v1 v2 v3) := by
 obtain ⟨n, h6, hd⟩ := aZ hs hn hi;obtain ⟨_, _, _, _, h3, h4⟩ := hs i hi;rw [eQ (h0 := rfl) (h1 := rfl) (h2 := rfl), ifT (by omega), ifF (by omega), ifT (by omega)]
 have a1 := Il (l := v1) (key := cl v3 i 0);have a2 := Il (l := v2) (key := cl v3 i 5);have d1 : decide ((A5 (cl v3 i 3) : Int) < 4611686018427387904) = true := decide_eq_true (by omega)
 have d2 : decide ((A5 (cl v3 i 4) : Int) < 4611686018427387904) = true := decide_eq_true (by omega)
 have d3 : decide ((len v3 : Int) < i) = false := decide_eq_false (by omega)
 simp only [h6, hd, SG, Yu (v0 := v2) (by omega), X0 (v0 := v1) (by omega), AY, AX, Av, AJ, decide_true, cond_true, cond_false, Bf (i := i) (by omega), decide_eq_true a1, decide_eq_true a2, d1, d2, d3, Rj]
 unfold Gy O3;generalize Hi (.int (len v3 : Nat)) (.int (i + 1 : Nat)) v0 v1 v2 v3 = X;generalize hY : (D.row [.int 1, .int (i : Nat)]) = Y;cases decide (fd v1 (cl v3 i 0) < 0) <;> cases decide (fd v1 (cl v3 i 1) < 0) <;> cases dup v3 i <;> simp only [cond_true, cond_false, Bool.true_or, Bool.false_or, Bool.not_true, Bool.not_false, Bool.cond_self]
 unfold WS;by_cases k1 : (cl v3 i 2).toInt = 1
 ·simp only [ifT k1];cases nm (cl v3 i 3) <;> cases nm (cl v3 i 4) <;> cases D.strEq (cl v3 i 4) v0 <;> simp only [cond_true, cond_false, Bool.true_or, Bool.false_or]
  repeat' (refine KN (fun h => ?_) (fun h => ?_)) <;> simp only [*, cond_true, cond_false]
 simp only [ifF k1];by_cases k2 : (cl v3 i 2).toInt = 2
 ·simp only [ifT k2];cases nm (cl v3 i 3) <;> cases nm (cl v3 i 4) <;> cases D.strEq (cl v3 i 4) v0 <;> simp only [cond_true, cond_false, Bool.true_or, Bool.false_or]
  repeat' (refine KN (fun h => ?_) (fun h => ?_)) <;> simp only [*, cond_true, cond_false]
 simp only [ifF k2];by_cases k3 : (cl v3 i 2).toInt = 3
 ·simp only [ifT k3];cases eqC (cl v3 i 3) 0 0 <;> cases eqC (cl v3 i 4) 0 0 <;> cases decide (0 < (cl v1 (fd v1 (cl v3 i 0)) 2).toInt) <;> simp only [cond_true, cond_false, Bool.true_or, Bool.false_or, Bool.and_true, Bool.true_and, Bool.and_false, Bool.false_and, Bool.not_true, Bool.not_false]
  repeat' (refine KN (fun h => ?_) (fun h => ?_)) <;> simp only [*, cond_true, cond_false]
 simp only [ifF k3];by_cases k4 : (cl v3 i 2).toInt = 4
 ·simp only [ifT k4];cases eqC (cl v3 i 3) 0 0 <;> cases eqC (cl v3 i 4) 0 0 <;> simp only [cond_true, cond_false, Bool.true_or, Bool.false_or, Bool.and_true, Bool.true_and, Bool.and_false, Bool.false_and, Bool.not_true, Bool.not_false]
  repeat' (refine KN (fun h => ?_) (fun h => ?_)) <;> simp only [*, cond_true, cond_false]
 simp only [ifF k4, cond_true, Bool.true_or]
theorem iC (hs : Dl v3) (hn : len v3 < 1000) (hn1 : len v1 < 1000) (hn2 : len v2 < 1000) (v0 : D) : Up (.int (len v3 : Nat)) (.int 0) (.int 80) v0 v1 v2 v3 = .row [.int 1, .int (cond (decide (80 < (len v3 : Int))) 80 (fdG (Gy v0 v1 v2 v3) (len v3) 0))] := by
 rw [k8, ifF (by omega)]
 by_cases c : 80 < (len v3 : Int)
 ·rw [ifT c, ifT c]
 rw [ifF c, ifF c];refine find (F := fun i => Hi (.int (len v3 : Nat)) (.int (i : Nat)) v0 v1 v2 v3) (n := len v3) (bad := Gy v0 v1 v2 v3) (fun j hj => XF hs hn hn1 hn2 hj) ?_
 show Hi _ (.int (len v3 : Nat)) _ _ _ _ = _;rw [eQ (h0 := rfl) (h1 := rfl) (h2 := rfl), ifF (by omega)]
theorem VT (hs : Dl v3) (hn : len v3 < 1000) (hn1 : len v1 < 1000) (hn2 : len v2 < 1000) {i : Nat} (hi : i < len v3) (hf : 0 ≤ fd v1 (cl v3 i 0)) : FO (.int (i : Nat)) (.int (fd v1 (cl v3 i 0))) (.int 0) v0 v1 v2 v3 (cl v3 i 0) (cl v3 i 1) (cl v3 i 2) (cl v3 i 3) (cl v3 i 4) (cl v3 i 5) (cl v3 i 6) (cl v3 i 7) (cl v3 i 8) = .row [.int 1, .bool (!(dup v3 i || O3 v0 v1 v3 i))] := by
 obtain ⟨⟨n2, h2⟩, ⟨n6, h6⟩, ⟨n7, h7⟩, ⟨n8, h8⟩, h3, h4⟩ := hs i hi
 have L := K4 (F := fun j => FO (.int (i : Nat)) (.int (fd v1 (cl v3 i 0))) (.int (j : Nat)) v0 v1 v2 v3 (cl v3 i 0) (cl v3 i 1) (cl v3 i 2) (cl v3 i 3) (cl v3 i 4) (cl v3 i 5) (cl v3 i 6) (cl v3 i 7) (cl v3 i 8)) (n := i) (bad := DP v3 i) (B := fun _ => .row [.int 1, .bool false]) (fun j hj => by
  show FO (.int (i : Nat)) (.int (fd v1 (cl v3 i 0))) (.int (j : Nat)) v0 v1 v2 v3 (cl v3 i 0) (cl v3 i 1) (cl v3 i 2) (cl v3 i 3) (cl v3 i 4) (cl v3 i 5) (cl v3 i 6) (cl v3 i 7) (cl v3 i 8) = cond _ _ (FO (.int (i : Nat)) (.int (fd v1 (cl v3 i 0))) (.int (j + 1 : Nat)) v0 v1 v2 v3 (cl v3 i 0) (cl v3 i 1) (cl v3 i 2) (cl v3 i 3) (cl v3 i 4) (cl v3 i 5) (cl v3 i 6) (cl v3 i 7) (cl v3 i 8))
  have e : (D.strEq (cl v3 j 0) (cl v3 i 0) && (D.strEq (cl v3 j 1) (cl v3 i 1) && (decide ((cl v3 j 2).toInt = n2) && (D.strEq (cl v3 j 3) (cl v3 i 3) && (D.strEq (cl v3 j 4) (cl v3 i 4) && (D.strEq (cl v3 j 5) (cl v3 i 5) && (decide ((cl v3 j 6).toInt = n6) && (decide ((cl v3 j 7).toInt = n7) && decide ((cl v3 j 8).toInt = n8))))))))) = DP v3 i j := by
   unfold DP;rw [h2, h6, h7, h8];rfl
  rw [← e, h2, h6, h7, h8, YF, ifT (by omega), ifF (by omega), ifT (by omega), Bf (by omega)])
 have L : FO (.int (i : Nat)) (.int (fd v1 (cl v3 i 0))) (.int 0) v0 v1 v2 v3 (cl v3 i 0) (cl v3 i 1) (cl v3 i 2) (cl v3 i 3) (cl v3 i 4) (cl v3 i 5) (cl v3 i 6) (cl v3 i 7) (cl v3 i 8) = cond (decide (fdG (DP v3 i) i 0 < 0)) (FO (.int (i : Nat)) (.int (fd v1 (cl v3 i 0))) (.int (i : Nat)) v0 v1 v2 v3 (cl v3 i 0) (cl v3 i 1) (cl v3 i 2) (cl v3 i 3) (cl v3 i 4) (cl v3 i 5) (cl v3 i 6) (cl v3 i 7) (cl v3 i 8)) (.row [.int 1, .bool false]) := L;rw [L];have e : decide (fdG (DP v3 i) i 0 < 0) = !dup v3 i := by unfold dup; rw [Bool.not_not]
 rw [e];cases dup v3 i
 ·show FO (.int (i : Nat)) (.int (fd v1 (cl v3 i 0))) (.int (i : Nat)) v0 v1 v2 v3 (cl v3 i 0) (cl v3 i 1) (cl v3 i 2) (cl v3 i 3) (cl v3 i 4) (cl v3 i 5) (cl v3 i 6) (cl v3 i 7) (cl v3 i 8) = .row [.int 1, .bool (!O3 v0 v1 v3 i)];have a1 := Il (l := v1) (key := cl v3 i 0);have t2 : (cl v3 i 2).toInt = n2 := by rw [h2]; rfl
  have R : FO (.int (i : Nat)) (.int (fd v1 (cl v3 i 0))) (.int (i : Nat)) v0 v1 v2 v3 (cl v3 i 0) (cl v3 i 1) (.int n2) (cl v3 i 3) (cl v3 i 4) (cl v3 i 5) (.int n6) (.int n7) (.int n8) = .row [.int 1, .bool (!O3 v0 v1 v3 i)] := by
   rw [YF, ifF (by omega)]
   simp only [NK, AY, AX, Av, AJ, decide_true, cond_true, decide_eq_true a1, decide_eq_false (show ¬ fd v1 (cl v3 i 0) < 0 by omega), cond_false]
   unfold O3;by_cases k1 : n2 = 1
   ·rw [ifT k1, ifT (t2.trans k1)];cases nm (cl v3 i 3) <;> cases nm (cl v3 i 4) <;> rfl
   rw [ifF k1, ifF (p := (cl v3 i 2).toInt = 1) (by omega)]
   by_cases k2 : n2 = 2
   ·rw [ifT k2, ifT (t2.trans k2)];cases nm (cl v3 i 3) <;> cases nm (cl v3 i 4) <;> rfl
   rw [ifF k2, ifF (p := (cl v3 i 2).toInt = 2) (by omega)]
   by_cases k3 : n2 = 3
   ·rw [ifT k3, ifT (t2.trans k3)];cases eqC (cl v3 i 3) 0 0 <;> cases eqC (cl v3 i 4) 0 0 <;> simp only [cond_true, cond_false, Bool.not_true, Bool.not_false, Bool.not_not]
   rw [ifF k3, ifF (p := (cl v3 i 2).toInt = 3) (by omega)]
   by_cases k4 : n2 = 4
   ·rw [ifT k4, ifT (t2.trans k4)];cases eqC (cl v3 i 3) 0 0 <;> cases eqC (cl v3 i 4) 0 0 <;> rfl
   rw [ifF k4, ifF (p := (cl v3 i 2).toInt = 4) (by omega)]
   rfl
  rw [h2, h6, h7, h8];exact R
 ·rfl
theorem Z6 (hs : Dl v3) (hn : len v3 < 1000) (hn1 : len v1 < 1000) (hn2 : len v2 < 1000) {i : Nat} (hi : i < len v3) : SN v0 v1 v2 v3 (.int (i : Nat)) = .row [.int 1, .bool (!Gy v0 v1 v2 v3 i)] := by
 rw [kb, ifF (by omega), ifT (by omega)]
 have a1 := Il (l := v1) (key := cl v3 i 0);have a2 := Il (l := v2) (key := cl v3 i 5);simp only [Vt (v0 := v0) (v1 := v1) (v2 := v2) (v3 := v3) (by omega), U0 (v0 := v0) (v1 := v1) (v2 := v2) (v3 := v3) (by omega), AY, AX, Av, AJ, decide_true, cond_true, decide_eq_true a2]
 unfold Gy;by_cases c : fd v1 (cl v3 i 0) < 0
 ·rw [ifT c, decide_eq_true c]; rfl
 rw [ifF c, decide_eq_false c, VT hs hn hn1 hn2 hi (by omega)]
 unfold WS;cases decide (fd v1 (cl v3 i 1) < 0) <;> cases dup v3 i <;> cases O3 v0 v1 v3 i <;> simp only [cond_true, cond_false, Bool.true_or, Bool.false_or, Bool.not_true, Bool.not_false]
 all_goals (repeat' (refine KN (fun h => ?_) (fun h => ?_))) <;> simp only [*, cond_true, cond_false, Bool.not_true, Bool.not_false, Bool.cond_self]
end
end Mo
namespace Mo
open Go Go.AE
section
variable [Ap]
variable {v0 v1 v2 v3 : D}
def I5 (v2 : D) : Int := cond (decide (4 < (len v2 : Int))) 4 (fdG (KJ v2) (len v2) 0)
def Hf (v1 : D) : Int := cond (decide ((len v1 : Int) < 1)) 0 (cond (decide (24 < (len v1 : Int))) 24 (fdG (Jd v1) (len v1) 0))
def IQ (v0 v1 v2 v3 : D) : Int := cond (decide (80 < (len v3 : Int))) 80 (fdG (Gy v0 v1 v2 v3) (len v3) 0)
def rok (v0 v1 v2 v3 : D) : Bool := nm v0 && (decide (I5 v2 < 0) && (decide (Hf v1 < 0) && decide (IQ v0 v1 v2 v3 < 0)))
theorem lB (hn : len v2 < 1000) : JB (.int 0) v0 v1 v2 v3 = cond (decide (fdG (KJ v2) (len v2) 0 < 0)) (JB (.int (len v2 : Nat)) v0 v1 v2 v3) (.row [.int 1, .int (fdG (KJ v2) (len v2) 0).toNat, .int 291]) :=
 K4 (F := fun j => JB (.int (j : Nat)) v0 v1 v2 v3) (n := len v2) (bad := KJ v2) (B := fun j => .row [.int 1, .int (j : Nat), .int 291]) fun j hj => by
  show JB (.int (j : Nat)) v0 v1 v2 v3 = cond _ _ (JB (.int (j + 1 : Nat)) v0 v1 v2 v3);have a := Kc hj;rw [Yd, ifT (by omega), ifF (by omega), Bf (by omega)]
  simp only [NK, Vt (v0 := v0) (v1 := v1) (v2 := v2) (v3 := v3) (by omega), AY, AX, Av, AJ, decide_true, cond_true]
  unfold KJ;by_cases q : fd v2 (cl v2 j 0) < j
  ·rw [ifF (by omega), decide_eq_true q]
   cases nm (cl v2 j 0) <;> rfl
  ·rw [ifT (by omega), decide_eq_false q]
   cases nm (cl v2 j 0) <;> cases decide ((cl v2 j 1).toInt < 1) <;> cases decide (1000 < (cl v2 j 1).toInt) <;> rfl
theorem lU (hn : len v1 < 1000) : JK (.int 0) v0 v1 v2 v3 = cond (decide (fdG (Jd v1) (len v1) 0 < 0)) (JK (.int (len v1 : Nat)) v0 v1 v2 v3) (.row [.int 1, .int (fdG (Jd v1) (len v1) 0).toNat, .int 292]) :=
 K4 (F := fun j => JK (.int (j : Nat)) v0 v1 v2 v3) (n := len v1) (bad := Jd v1) (B := fun j => .row [.int 1, .int (j : Nat), .int 292]) fun j hj => by
  show JK (.int (j : Nat)) v0 v1 v2 v3 = cond _ _ (JK (.int (j + 1 : Nat)) v0 v1 v2 v3);have a := Kc hj;rw [YC, ifT (by omega), ifF (by omega), Bf (by omega)]
  simp only [NK, U0 (v0 := v0) (v1 := v1) (v2 := v2) (v3 := v3) (by omega), AY, AX, Av, AJ, decide_true, cond_true]
  unfold Jd;by_cases q : fd v1 (cl v1 j 0) < j
  ·rw [ifF (by omega), decide_eq_true q]
   cases nm (cl v1 j 0) <;> rfl
  ·rw [ifT (by omega), decide_eq_false q]
   cases nm (cl v1 j 0) <;> cases decide ((cl v1 j 2).toInt < 0) <;> cases decide (1048576 < (cl v1 j 2).toInt) <;> rfl
theorem lj (hs : Dl v3) (hn : len v3 < 1000) (hn1 : len v1 < 1000) (hn2 : len v2 < 1000) : Ju (.int 0) v0 v1 v2 v3 = cond (decide (fdG (Gy v0 v1 v2 v3) (len v3) 0 < 0)) (Ju (.int (len v3 : Nat)) v0 v1 v2 v3) (.row [.int 1, .int (fdG (Gy v0 v1 v2 v3) (len v3) 0).toNat, .int 293]) :=
 K4 (F := fun j => Ju (.int (j : Nat)) v0 v1 v2 v3) (n := len v3) (bad := Gy v0 v1 v2 v3) (B := fun j => .row [.int 1, .int (j : Nat), .int 293]) fun j hj => by
  show Ju (.int (j : Nat)) v0 v1 v2 v3 = cond _ _ (Ju (.int (j + 1 : Nat)) v0 v1 v2 v3);rw [Yp, ifT (by omega), Bf (by omega)]
  simp only [Z6 hs hn hn1 hn2 hj, AY, AX, Av, AJ, decide_true, cond_true];cases Gy v0 v1 v2 v3 j <;> rfl
end
end Mo
namespace Mo
open Go Go.AE
section
variable [Ap]
variable {v0 v1 v2 v3 : D}
def Ez (v0 v1 v2 v3 : D) : Int := cond (nm v0) (cond (decide (I5 v2 < 0)) (cond (decide (Hf v1 < 0)) (cond (decide (IQ v0 v1 v2 v3 < 0)) 0 293) 292) 291) 290
theorem U6 : decide (Ez v0 v1 v2 v3 = 0) = rok v0 v1 v2 v3 := by
 unfold Ez rok;cases nm v0
 ·rfl
 cases decide (I5 v2 < 0)
 ·rfl
 cases decide (Hf v1 < 0)
 ·rfl
 cases decide (IQ v0 v1 v2 v3 < 0) <;> rfl
theorem Ym (hs : Dl v3) (hn : len v3 < 1000) (hn1 : len v1 < 1000) (hn2 : len v2 < 1000) (v0 : D) : ∃ a, Wm v0 v1 v2 v3 = .row [.int 1, .int a, .int (Ez v0 v1 v2 v3)] := by
 rw [ma];simp only [SG, cp hn2, jZ hn1, iC hs hn hn1 hn2, AY, AX, Av, AJ, decide_true, cond_true];unfold Ez;cases nm v0
 ·exact ⟨_, rfl⟩
 simp only [cond_true];by_cases c1 : I5 v2 < 0;rotate_left
 ·have c1' := c1;unfold I5 at c1;rw [ifF c1, ifF c1'];exact ⟨_, rfl⟩
 rw [ifT c1];unfold I5 at c1;rw [ifT c1];by_cases c2 : Hf v1 < 0;rotate_left
 ·have c2' := c2;unfold Hf at c2;rw [ifF c2, ifF c2'];exact ⟨_, rfl⟩
 rw [ifT c2];unfold Hf at c2;rw [ifT c2];by_cases c3 : IQ v0 v1 v2 v3 < 0;rotate_left
 ·have c3' := c3;unfold IQ at c3;rw [ifF c3, ifF c3'];exact ⟨_, rfl⟩
 rw [ifT c3];unfold IQ at c3;rw [ifT c3];exact ⟨_, rfl⟩
theorem Po (hs : Dl v3) (hn : len v3 < 1000) (hn1 : len v1 < 1000) (hn2 : len v2 < 1000) (v0 : D) : ∃ a, PE v0 v1 v2 v3 = .row [.int 1, .int a, .int (Ez v0 v1 v2 v3)] := by
 rw [jn];simp only [NK, AY, AX, Av, AJ, decide_true, cond_true];unfold Ez;cases c0 : nm v0
 ·exact ⟨_, rfl⟩
 simp only [cond_true];by_cases c1 : 4 < (len v2 : Int)
 ·rw [ifT c1, ifF (show ¬ I5 v2 < 0 by unfold I5; rw [ifT c1]; omega)]
  exact ⟨_, rfl⟩
 rw [ifF c1, lB hn2];by_cases c2 : fdG (KJ v2) (len v2) 0 < 0;rotate_left
 ·rw [ifF c2, ifF (show ¬ I5 v2 < 0 by unfold I5; rw [ifF c1]; exact c2)]
  exact ⟨_, rfl⟩
 rw [ifT c2, Yd, ifF (by omega), ifT (show I5 v2 < 0 by unfold I5; rw [ifF c1]; exact c2)]
 by_cases c3 : (len v1 : Int) = 0
 ·rw [ifT c3, ifF (show ¬ Hf v1 < 0 by unfold Hf; rw [ifT (by omega)]; omega)]
  exact ⟨_, rfl⟩
 rw [ifF c3];by_cases c4 : 24 < (len v1 : Int)
 ·rw [ifT c4, ifF (show ¬ Hf v1 < 0 by unfold Hf; rw [ifF (by omega), ifT c4]; omega)]
  exact ⟨_, rfl⟩
 rw [ifF c4, lU hn1];by_cases c5 : fdG (Jd v1) (len v1) 0 < 0;rotate_left
 ·rw [ifF c5, ifF (show ¬ Hf v1 < 0 by unfold Hf; rw [ifF (by omega), ifF c4]; exact c5)]
  exact ⟨_, rfl⟩
 rw [ifT c5, YC, ifF (by omega), ifT (show Hf v1 < 0 by unfold Hf; rw [ifF (by omega), ifF c4]; exact c5)]
 by_cases c6 : 80 < (len v3 : Int)
 ·rw [ifT c6, ifF (show ¬ IQ v0 v1 v2 v3 < 0 by unfold IQ; rw [ifT c6]; omega)]
  exact ⟨_, rfl⟩
 rw [ifF c6, lj hs hn hn1 hn2];by_cases c7 : fdG (Gy v0 v1 v2 v3) (len v3) 0 < 0;rotate_left
 ·rw [ifF c7, ifF (show ¬ IQ v0 v1 v2 v3 < 0 by unfold IQ; rw [ifF c6]; exact c7)]
  exact ⟨_, rfl⟩
 rw [ifT c7, Yp, ifF (by omega), ifT (show IQ v0 v1 v2 v3 < 0 by unfold IQ; rw [ifF c6]; exact c7)]
 exact ⟨_, rfl⟩
theorem UI {v : D} (h : nm v = true) : 1 ≤ A5 v := by
 rcases Nat.lt_or_ge 0 (A5 v) with q | q
 ·exact q
 unfold nm at h;rw [Yi, ifT (by omega)] at h
 cases h
end
structure Rk (S C T : D) : Prop where
 s0 : 0 < len S
 s1 : len S < 1000
 c1 : len C ≤ 4
 t1 : len T ≤ 20
 wt : ∀ i : Nat, i < len S → 0 ≤ (cl S i 2).toInt ∧ (cl S i 2).toInt ≤ 1048576
 tmo : ∀ i : Nat, i < len T → (cl T i 2).toInt = 3 → 0 < (cl S (fd S (cl T i 0)) 2).toInt
 sne : ∀ i : Nat, i < len S → eqC (cl S i 0) 0 0 = false
 sid : ∀ i : Nat, i < len S → fd S (cl S i 0) = i
 cid : ∀ i : Nat, i < len C → fd C (cl C i 0) = i
 lim : ∀ i : Nat, i < len C → 1 ≤ (cl C i 1).toInt ∧ (cl C i 1).toInt ≤ 1000
 cne : ∀ i : Nat, i < len C → eqC (cl C i 0) 0 0 = false
 cI : ∀ i : Nat, i < len C → ∃ m, cl C i 1 = .int m
 tI : Dl T
 frm : ∀ i : Nat, i < len T → 0 ≤ fd S (cl T i 0)
 to : ∀ i : Nat, i < len T → 0 ≤ fd S (cl T i 1)
 ctr : ∀ i : Nat, i < len T → (eqC (cl T i 5) 0 0 = true ∧ fd C (cl T i 5) = -1) ∨ (eqC (cl T i 5) 0 0 = false ∧ 0 ≤ fd C (cl T i 5) ∧ 0 ≤ (cl T i 6).toInt ∧ (cl T i 6).toInt ≤ (cl T i 7).toInt ∧
  (cl T i 7).toInt ≤ (cl C (fd C (cl T i 5)) 1).toInt ∧ -1000 ≤ (cl T i 8).toInt ∧ (cl T i 8).toInt ≤ 1000 ∧ 0 ≤ (cl T i 6).toInt + (cl T i 8).toInt ∧ (cl T i 7).toInt + (cl T i 8).toInt ≤ (cl C (fd C (cl T i 5)) 1).toInt)
section
variable [Ap]
theorem Y0 {v0 S C T : D} (h : rok v0 S C T = true) (hc : ∀ i : Nat, i < len C → ∃ m, cl C i 1 = .int m) (ht : Dl T) (hS : len S ≤ 8) (hT : len T ≤ 20) : Rk S C T := by
 unfold rok at h;simp only [Bool.and_eq_true] at h;obtain ⟨_, h1, h2, h3⟩ := h;unfold I5 at h1;unfold Hf at h2;unfold IQ at h3;by_cases c1 : 4 < (len C : Int)
 ·rw [ifT c1] at h1; cases h1
 rw [ifF c1] at h1;by_cases c2 : (len S : Int) < 1
 ·rw [ifT c2] at h2; cases h2
 rw [ifF c2, ifF (by omega)] at h2
 rw [ifF (by omega)] at h3
 have B1 : ∀ i, i < len C → KJ C i = false := fun i hi => NJ (k := len C) (i := 0) (by omega) (.inr ⟨dT h1, by omega⟩)
 have B2 : ∀ i, i < len S → Jd S i = false := fun i hi => NJ (k := len S) (i := 0) (by omega) (.inr ⟨dT h2, by omega⟩)
 have B3 : ∀ i, i < len T → Gy v0 S C T i = false := fun i hi => NJ (k := len T) (i := 0) (by omega) (.inr ⟨dT h3, by omega⟩)
 have E1 : ∀ i, i < len C → nm (cl C i 0) = true ∧ fd C (cl C i 0) = i ∧ 1 ≤ (cl C i 1).toInt ∧ (cl C i 1).toInt ≤ 1000 := fun i hi => by
  have b := B1 i hi;unfold KJ at b;simp only [Bool.or_eq_false_iff, Bool.not_eq_false'] at b;have s := Kc hi;have b2 := dF b.1.1.2;have b3 := dF b.1.2;have b4 := dF b.2;exact ⟨b.1.1.1, by omega, by omega, by omega⟩
 have ne : ∀ i, i < len C → eqC (cl C i 0) 0 0 = false := fun i hi => by
  rw [Ed];have := UI (E1 i hi).1;exact decide_eq_false (by omega)
 refine ⟨by omega, by omega, by omega, hT, fun i hi => ?_, fun i hi h3 => ?_, fun i hi => ?_, fun i hi => ?_, fun i hi => (E1 i hi).2.1, fun i hi => (E1 i hi).2.2, ne, hc, ht, fun i hi => ?_, fun i hi => ?_, fun i hi => ?_⟩
 ·have b := B2 i hi;unfold Jd at b;simp only [Bool.or_eq_false_iff] at b;have b2 := dF b.1.2;have b3 := dF b.2;omega
 ·have b := B3 i hi;unfold Gy at b;simp only [Bool.or_eq_false_iff] at b;have b := b.2.2.2.1;unfold O3 at b;rw [ifF (by omega), ifF (by omega), ifT h3] at b
  cases q1 : eqC (cl T i 3) 0 0
  ·rw [q1] at b; cases b
  cases q2 : eqC (cl T i 4) 0 0
  ·rw [q1, q2] at b; cases b
  rw [q1, q2] at b;simp only [cond_true, Bool.not_eq_false'] at b;exact dT b
 ·have b := B2 i hi;unfold Jd at b;simp only [Bool.or_eq_false_iff, Bool.not_eq_false'] at b;rw [Ed];have := UI b.1.1.1;exact decide_eq_false (by omega)
 ·have b := B2 i hi;unfold Jd at b;simp only [Bool.or_eq_false_iff] at b;have s := Kc hi;have b2 := dF b.1.1.2;omega
 ·have b := B3 i hi;unfold Gy at b;simp only [Bool.or_eq_false_iff] at b;exact Int.not_lt.1 (dF b.1)
 ·have b := B3 i hi;unfold Gy at b;simp only [Bool.or_eq_false_iff] at b;exact Int.not_lt.1 (dF b.2.1)
 ·have b := B3 i hi;unfold Gy at b;simp only [Bool.or_eq_false_iff] at b;have b := b.2.2.2.2;unfold WS at b;cases hz : eqC (cl T i 5) 0 0
  ·right;rw [hz] at b;simp only [cond_false] at b;by_cases d1 : fd C (cl T i 5) < 0
   ·rw [ifT d1] at b; cases b
   rw [ifF d1] at b;by_cases d2 : (cl T i 6).toInt < 0
   ·rw [ifT d2] at b; cases b
   rw [ifF d2] at b;by_cases d3 : (cl T i 7).toInt < (cl T i 6).toInt
   ·rw [ifT d3] at b; cases b
   rw [ifF d3] at b;by_cases d4 : (cl T i 8).toInt < -1000
   ·rw [ifT d4] at b; cases b
   rw [ifF d4] at b;by_cases d5 : 1000 < (cl T i 8).toInt
   ·rw [ifT d5] at b; cases b
   rw [ifF d5] at b;by_cases d6 : (cl C (fd C (cl T i 5)) 1).toInt < (cl T i 7).toInt
   ·rw [ifT d6] at b; cases b
   rw [ifF d6] at b;have lt := Il (l := C) (key := cl T i 5);have l := E1 (fd C (cl T i 5)).toNat (by omega)
   rw [show (((fd C (cl T i 5)).toNat : Nat) : Int) = fd C (cl T i 5) by omega] at l
   rw [AH (by omega) (by omega), AH (by omega) (by omega)] at b
   by_cases d7 : (cl T i 6).toInt + (cl T i 8).toInt < 0
   ·rw [ifT d7] at b; cases b
   rw [ifF d7] at b;by_cases d8 : (cl C (fd C (cl T i 5)) 1).toInt < (cl T i 7).toInt + (cl T i 8).toInt
   ·rw [ifT d8] at b; cases b
   exact ⟨rfl, by omega, by omega, by omega, by omega, by omega, by omega, by omega, by omega⟩
  ·left;refine ⟨rfl, ?_⟩;rcases kn (l := C) (key := cl T i 5) with g | g
   ·exact g
   exfalso
   have lt := Il (l := C) (key := cl T i 5);have s := YV g
   have e : eqC (cl C (fd C (cl T i 5)) 0) 0 0 = eqC (cl T i 5) 0 0 := by
    rw [Ed, Ed];unfold A5;rw [Ee.1 s]
   have l := ne (fd C (cl T i 5)).toNat (by omega)
   rw [show (((fd C (cl T i 5)).toNat : Nat) : Int) = fd C (cl T i 5) by omega] at l
   rw [e, hz] at l;cases l
end
end Mo
namespace Mo
open Go Go.AE
def In2 (h : D) (x y : Int) : Prop := ∃ j : Nat, j < len h ∧ (cl h j 0).toInt = x ∧ (cl h j 1).toInt = y
def swp (h : D) (a b : Int) : D := upd (upd (upd (upd h a 0 (cl h b 0)) a 1 (cl h b 1)) b 0 (cl h a 0)) b 1 (cl h a 1)
theorem GS {h : D} {a b : Int} : len (swp h a b) = len h := by unfold swp; simp only [A8]
theorem Uz {h : D} {a b : Int} (w : Wd h 2) : Wd (swp h a b) 2 := by unfold swp; exact Er (Er (Er (Er w)))
theorem Vz {h : D} {a b k : Int} {c : Nat} (w : Wd h 2) (a0 : 0 ≤ a) (a1 : a < len h) (b0 : 0 ≤ b) (b1 : b < len h) (k0 : 0 ≤ k) (hc : c < 2) : cl (swp h a b) k c = if k = b then cl h a c else if k = a then cl h b c else cl h k c := by
 have w1 : Wd (upd h a 0 (cl h b 0)) 2 := Er w;have w2 : Wd (upd (upd h a 0 (cl h b 0)) a 1 (cl h b 1)) 2 := Er w1;have w3 : Wd (upd (upd (upd h a 0 (cl h b 0)) a 1 (cl h b 1)) b 0 (cl h a 0)) 2 := Er w2;unfold swp;rw [EV w3 (by omega) b0 (by simp only [A8]; exact b1) k0, EV w2 (by omega) b0 (by simp only [A8]; exact b1) k0, EV w1 (by omega) a0 (by simp only [A8]; exact a1) k0, EV w (by omega) a0 a1 k0]
 match c, hc with
 | 0, _ =>
  by_cases q : k = b
  ·rw [if_neg (by omega), if_pos ⟨q, rfl⟩, if_pos q]
  ·rw [if_neg (by omega), if_neg (fun c => q c.1), if_neg (by omega), if_neg q]
   by_cases r : k = a
   ·rw [if_pos ⟨r, rfl⟩, if_pos r]
   ·rw [if_neg (fun c => r c.1), if_neg r]
 | 1, _ =>
  by_cases q : k = b
  ·rw [if_pos ⟨q, rfl⟩, if_pos q]
  ·rw [if_neg (fun c => q c.1), if_neg (by omega), if_neg q]
   by_cases r : k = a
   ·rw [if_pos ⟨r, rfl⟩, if_pos r]
   ·rw [if_neg (fun c => r c.1), if_neg (by omega), if_neg r]
theorem U9 {h : D} {a b : Nat} {x y : Int} (w : Wd h 2) (a1 : a < len h) (b1 : b < len h) (hi : In2 h x y) : In2 (swp h a b) x y := by
 obtain ⟨j, j1, e0, e1⟩ := hi;have C : ∀ (k : Nat) (c : Nat), c < 2 → cl (swp h a b) k c = if (k : Int) = b then cl h a c else if (k : Int) = a then cl h b c else cl h k c := fun k c hc => Vz w (by omega) (by omega) (by omega) (by omega) (by omega) hc
 by_cases q : j = a
 ·subst q;exact ⟨b, by rw [GS]; exact b1, by rw [C b 0 (by omega), if_pos rfl]; exact e0, by rw [C b 1 (by omega), if_pos rfl]; exact e1⟩
 by_cases r : j = b
 ·subst r;refine ⟨a, by rw [GS]; exact a1, ?_, ?_⟩
  ·rw [C a 0 (by omega), if_neg (by omega), if_pos rfl]; exact e0
  ·rw [C a 1 (by omega), if_neg (by omega), if_pos rfl]; exact e1
 refine ⟨j, by rw [GS]; exact j1, ?_, ?_⟩
 ·rw [C j 0 (by omega), if_neg (by omega), if_neg (by omega)]; exact e0
 ·rw [C j 1 (by omega), if_neg (by omega), if_neg (by omega)]; exact e1
def En (h : D) : Prop := ∀ j : Nat, j < len h → ∃ x y, cl h j 0 = .int x ∧ cl h j 1 = .int y
theorem RB {h : D} {a b : Nat} (w : Wd h 2) (a1 : a < len h) (b1 : b < len h) (hi : En h) : En (swp h a b) := by
 have C : ∀ (k : Nat) (c : Nat), c < 2 → cl (swp h a b) k c = if (k : Int) = b then cl h a c else if (k : Int) = a then cl h b c else cl h k c := fun k c hc => Vz w (by omega) (by omega) (by omega) (by omega) (by omega) hc
 intro j j1;rw [GS] at j1;rw [C j 0 (by omega), C j 1 (by omega)]
 by_cases q : (j : Int) = b
 ·simp only [if_pos q]; exact hi a a1
 ·simp only [if_neg q];by_cases r : (j : Int) = a
  ·simp only [if_pos r]; exact hi b b1
  ·simp only [if_neg r]; exact hi j j1
theorem YX {h : D} {x y : Int} (hi : En h) : En (ad h (.row [.int x, .int y])) := by
 intro j j1;rw [B0] at j1;rw [Dh (by omega), Dh (by omega)]
 by_cases q : (j : Int) = len h
 ·simp only [if_pos q]; exact ⟨x, y, rfl, rfl⟩
 ·simp only [if_neg q]; exact hi j (by omega)
theorem bT {a : D} {lo hi : Int} {n : Nat} (h : Wd a n) : Wd (sb a lo hi) n := fun r hr => h r (List.mem_of_mem_drop (List.mem_of_mem_take hr))
theorem w1 : IntKind.wrap .i64 (0 + 1) = 1 := rfl
theorem w2 : IntKind.wrap .i64 (1 + 1) = 2 := rfl
theorem WO {x : Int} (h0 : 0 ≤ x) (h1 : x < 4611686018427387904) : ari .quo .i64 x 2 = x / 2 := by
 have e : ari .quo .i64 x 2 = IntKind.wrap .i64 (x.tdiv 2) := by unfold ari; rfl
 rw [e, Int.tdiv_eq_ediv_of_nonneg h0, AH (by omega) (by omega)]
section
variable [Ap]
theorem YR {n i l c1 c2 : Nat} {v4 : Int} {v5 h v8 : D} {b : Bool} (hn : len h = n) (hl : l < n ∨ c2 ≥ n) : ∃ l' : Nat, (l' = l ∨ l' = c2 ∧ c2 < n) ∧ By (.int n) (.int i) (.int l) (.int 1) (.int v4) v5 h (.bool b) v8 (.int c1) (.int c2) = By (.int n) (.int i) (.int l') (.int 2) (.int v4) v5 h (.bool b) v8 (.int c1) (.int c2) := by
 rw [Sk, ifT (by omega), ifF (by omega), ifT rfl]
 by_cases q : c2 < n
 ·rw [ifT (by omega), ifF (by omega), ifT (by omega), ifF (by omega), ifT (by omega), w2]
  cases decide ((cl h c2 0).toInt < (cl h l 0).toInt) <;> cases decide ((cl h c2 1).toInt < (cl h l 1).toInt) <;> cases decide ((cl h l 1).toInt < (cl h c2 1).toInt) <;> cases decide ((cl h l 0).toInt < (cl h c2 0).toInt) <;>
   first | exact ⟨l, .inl rfl, rfl⟩ | exact ⟨c2, .inr ⟨rfl, q⟩, rfl⟩
 ·rw [ifF (by omega), w2]
  exact ⟨l, .inl rfl, rfl⟩
theorem YM {n i l c1 c2 : Nat} {v4 : Int} {v5 h v8 : D} {b : Bool} (hn : len h = n) (hl : l < n ∨ c1 ≥ n) : ∃ l' : Nat, (l' = l ∨ l' = c1 ∧ c1 < n) ∧ By (.int n) (.int i) (.int l) (.int 0) (.int v4) v5 h (.bool b) v8 (.int c1) (.int c2) = By (.int n) (.int i) (.int l') (.int 1) (.int v4) v5 h (.bool b) v8 (.int c1) (.int c2) := by
 rw [Sk, ifT (by omega), ifT rfl]
 by_cases q : c1 < n
 ·rw [ifT (by omega), ifF (by omega), ifT (by omega), ifF (by omega), ifT (by omega), w1]
  cases decide ((cl h c1 0).toInt < (cl h l 0).toInt) <;> cases decide ((cl h c1 1).toInt < (cl h l 1).toInt) <;> cases decide ((cl h l 1).toInt < (cl h c1 1).toInt) <;> cases decide ((cl h l 0).toInt < (cl h c1 0).toInt) <;>
   first | exact ⟨l, .inl rfl, rfl⟩ | exact ⟨c1, .inr ⟨rfl, q⟩, rfl⟩
 ·rw [ifF (by omega), w1]
  exact ⟨l, .inl rfl, rfl⟩
theorem VU {n : Nat} (hn : n < 1000000) {v2 : Int} {v3 v6 : D} {b : Bool} : ∀ (k i : Nat) (h : D), n ≤ i + k → i ≤ n → len h = n → Wd h 2 → ∃ h', Sb (.int n) (.int i) (.int v2) v3 h (.bool b) v6 = .row [.int 1, h', .bool b] ∧ Wd h' 2 ∧ len h' = n ∧ (En h → En h') ∧ ∀ x y, In2 h x y → In2 h' x y := by
 intro k
 induction k with
 | zero =>
  intro i h hk hi hl w;have : i = n := by omega
  subst this;rw [Yf, AH (a := 2 * (i : Int)) (by omega) (by omega), AH (by omega) (by omega), AH (by omega) (by omega)]
  obtain ⟨l1, c1, q1⟩ := YM (n := i) (i := i) (l := i) (c1 := 2 * i + 1) (c2 := 2 * i + 2) (v4 := v2) (v5 := v3) (h := h) (v8 := v6) (b := b) hl (.inr (by omega))
  have c1 : l1 = i := by omega
  subst c1;obtain ⟨l2, c2, q2⟩ := YR (n := l1) (i := l1) (l := l1) (c1 := 2 * l1 + 1) (c2 := 2 * l1 + 2) (v4 := v2) (v5 := v3) (h := h) (v8 := v6) (b := b) hl (.inr (by omega))
  have c2 : l2 = l1 := by omega
  subst c2;have E := q1.trans q2;refine ⟨h, ?_, w, hl, id, fun _ _ q => q⟩
  show By (.int (l2 : Nat)) (.int (l2 : Nat)) (.int (l2 : Nat)) (.int 0) (.int v2) v3 h (.bool b) v6 (.int ((2 * l2 + 1 : Nat) : Int)) (.int ((2 * l2 + 2 : Nat) : Int)) = _;rw [E, Sk, ifF (by omega), ifT rfl]
 | succ k ih =>
  intro i h hk hi hl w;rw [Yf, AH (a := 2 * (i : Int)) (by omega) (by omega), AH (by omega) (by omega), AH (by omega) (by omega)]
  obtain ⟨l1, c1, q1⟩ := YM (n := n) (i := i) (l := i) (c1 := 2 * i + 1) (c2 := 2 * i + 2) (v4 := v2) (v5 := v3) (h := h) (v8 := v6) (b := b) hl (by omega)
  obtain ⟨l2, c2, q2⟩ := YR (n := n) (i := i) (l := l1) (c1 := 2 * i + 1) (c2 := 2 * i + 2) (v4 := v2) (v5 := v3) (h := h) (v8 := v6) (b := b) hl (by omega)
  have E := q1.trans q2;have E' : By (.int (n : Nat)) (.int (i : Nat)) (.int (i : Nat)) (.int 0) (.int v2) v3 h (.bool b) v6 (.int (2 * (i : Int) + 1)) (.int (2 * (i : Int) + 2)) = By (.int (n : Nat)) (.int (i : Nat)) (.int (l2 : Nat)) (.int 2) (.int v2) v3 h (.bool b) v6 (.int (2 * i + 1 : Nat)) (.int (2 * i + 2 : Nat)) := E;rw [E', Sk, ifF (by omega)]
  by_cases q : l2 = i
  ·rw [ifT (by omega)]
   exact ⟨h, rfl, w, hl, id, fun _ _ q => q⟩
  ·rw [ifF (by omega), ifF (by omega), ifT (by omega), ifF (by omega), ifT (by omega)]
   obtain ⟨h', r1, r2, r3, r5, r4⟩ := ih l2 (swp h i l2) (by omega) (by omega) (by rw [GS]; exact hl) (Uz w)
   exact ⟨h', r1, r2, r3, fun hi => r5 (RB w (by omega) (by omega) hi), fun x y hi => r4 x y (U9 w (by omega) (by omega) hi)⟩
theorem VV {v0 : Int} {v1 v2 h : D} {b : Bool} (w : Wd h 2) (h0 : 0 < len h) (h1 : len h < 1000000) : ∃ h', FZ (.int v0) v1 v2 h (.bool b) = .row [.int 1, h', .bool b] ∧ Wd h' 2 ∧ len h' = len h - 1 ∧ (En h → En h') ∧ ∀ x y, In2 h x y → ¬ ((cl h 0 0).toInt = x ∧ (cl h 0 1).toInt = y) → In2 h' x y := by
 have e : IntKind.wrap .i64 ((len h : Int) - 1) = ((len h - 1 : Nat) : Int) := by rw [AH (by omega) (by omega)]; omega
 generalize hm : len h - 1 = m at e;rw [ig, e, ifF (by omega), ifT (by omega), ifT (by omega), ifF (by simp only [A8]; omega)]
 have wa : Wd (upd h 0 0 (cl h m 0)) 2 := Er w;have wb : Wd (upd (upd h 0 0 (cl h m 0)) 0 1 (cl h m 1)) 2 := Er wa
 have C : ∀ (k c : Nat), c < 2 → cl (upd (upd h 0 0 (cl h m 0)) 0 1 (cl h m 1)) k c = if k = 0 then cl h m c else cl h k c := by
  intro k c hc;rw [EV wa (by omega) (by omega) (by simp only [A8]; omega) (by omega), EV w (by omega) (by omega) (by omega) (by omega)]
  match c, hc with
  | 0, _ =>
   by_cases q : k = 0
   ·rw [if_neg (by omega), if_pos (by omega), if_pos q]
   ·rw [if_neg (by omega), if_neg (by omega), if_neg q]
  | 1, _ =>
   by_cases q : k = 0
   ·rw [if_pos (by omega), if_pos q]
   ·rw [if_neg (by omega), if_neg (by omega), if_neg q]
 have lg : len (upd (upd h 0 0 (cl h m 0)) 0 1 (cl h m 1)) = len h := by simp only [A8]
 generalize upd (upd h 0 0 (cl h m 0)) 0 1 (cl h m 1) = g at wb C lg
 have ls : len (sb g 0 m) = m := by
  have := V0 (a := g) (lo := 0) (hi := (m : Int)) (by omega) (by omega)
  omega
 obtain ⟨h', r1, r2, r3, r5, r4⟩ := VU (n := m) (by omega) (v2 := v0) (v3 := v2) (v6 := v1) (b := b) m 0 (sb g 0 m) (by omega) (by omega) ls (bT wb)
 refine ⟨h', r1, r2, by omega, fun hi => r5 (fun j j1 => ?_), fun x y hi hne => r4 x y ?_⟩
 ·rw [Lz (by omega) (by omega), Lz (by omega) (by omega), C j 0 (by omega), C j 1 (by omega)]
  by_cases q : j = 0
  ·simp only [if_pos q]; exact hi m (by omega)
  ·simp only [if_neg q]; exact hi j (by omega)
 obtain ⟨j, j1, e0, e1⟩ := hi
 have j0 : j ≠ 0 := fun c => by
  subst c;exact hne ⟨e0, e1⟩
 by_cases q : j = m
 ·subst q;refine ⟨0, by omega, ?_, ?_⟩
  ·rw [Lz (by omega) (by omega), C 0 0 (by omega), if_pos rfl]; exact e0
  ·rw [Lz (by omega) (by omega), C 0 1 (by omega), if_pos rfl]; exact e1
 ·refine ⟨j, by omega, ?_, ?_⟩
  ·rw [Lz (by omega) (by omega), C j 0 (by omega), if_neg j0]; exact e0
  ·rw [Lz (by omega) (by omega), C j 1 (by omega), if_neg j0]; exact e1
theorem YN {h : D} {x y : Int} : (∀ a b, In2 h a b → In2 (ad h (.row [.int x, .int y])) a b) ∧ In2 (ad h (.row [.int x, .int y])) x y := by
 refine ⟨fun a b hi => ?_, len h, by rw [B0]; omega, ?_, ?_⟩
 ·obtain ⟨j, j1, e0, e1⟩ := hi;refine ⟨j, by rw [B0]; omega, ?_, ?_⟩
  ·rw [Dh (by omega), if_neg (by omega)]; exact e0
  ·rw [Dh (by omega), if_neg (by omega)]; exact e1
 ·rw [Dh (by omega), if_pos rfl]; rfl
 ·rw [Dh (by omega), if_pos rfl]; rfl
theorem UQ {n : Nat} (hn : n < 1000000) {t : Int} {v2 v4 : D} {b : Bool} : ∀ (k i : Nat) (h : D), i ≤ k → i < n → len h = n → Wd h 2 → ∃ h', JN (.int i) (.int t) v2 h (.bool b) v4 = .row [.int 1, h', .bool b] ∧ Wd h' 2 ∧ len h' = n ∧ (En h → En h') ∧ ∀ x y, In2 h x y → In2 h' x y := by
 intro k
 induction k with
 | zero =>
  intro i h hk hi hl w;have : i = 0 := by omega
  subst this;rw [YP, ifF (by omega)]
  exact ⟨h, rfl, w, hl, id, fun _ _ q => q⟩
 | succ k ih =>
  intro i h hk hi hl w;rw [YP];by_cases q : 0 < (i : Int)
  ·have e : ari .quo .i64 (IntKind.wrap .i64 ((i : Int) - 1)) 2 = (((i - 1) / 2 : Nat) : Int) := by
    rw [AH (by omega) (by omega), WO (by omega) (by omega)]; omega
   rw [e];generalize hu : (i - 1) / 2 = u
   have R : ∃ h', JN (.int u) (.int t) v2 (swp h u i) (.bool b) v4 = .row [.int 1, h', .bool b] ∧ Wd h' 2 ∧ len h' = n ∧ (En h → En h') ∧ ∀ x y, In2 h x y → In2 h' x y := by
    obtain ⟨h', r1, r2, r3, r5, r4⟩ := ih u (swp h u i) (by omega) (by omega) (by rw [GS]; exact hl) (Uz w)
    exact ⟨h', r1, r2, r3, fun hi => r5 (RB w (by omega) (by omega) hi), fun x y hi => r4 x y (U9 w (by omega) (by omega) hi)⟩
   have S : ∃ h', D.row [.int 1, h, .bool b] = .row [.int 1, h', .bool b] ∧ Wd h' 2 ∧ len h' = n ∧ (En h → En h') ∧ ∀ x y, In2 h x y → In2 h' x y := ⟨h, rfl, w, hl, id, fun _ _ q => q⟩
   rw [ifT q, ifF (by omega), ifT (by omega), ifT (by omega)]
   cases decide ((cl h u 0).toInt < (cl h i 0).toInt) <;> cases decide ((cl h u 1).toInt < (cl h i 1).toInt) <;> cases decide ((cl h i 1).toInt < (cl h u 1).toInt) <;> cases decide ((cl h i 0).toInt < (cl h u 0).toInt) <;> first | exact S | exact R
  ·rw [ifF q];exact ⟨h, rfl, w, hl, id, fun _ _ q => q⟩
theorem Zu {t x y : Int} {v1 v2 : D} {h : D} {b : Bool} (w : Wd h 2) (h1 : len h < 1000) : ∃ h', EJ (.int t) v1 v2 h (.bool b) (.int x) (.int y) = .row [.int 1, h', .bool false] ∧ Wd h' 2 ∧ len h' = len h + 1 ∧ (En h → En h') ∧ (∀ a b, In2 h a b → In2 h' a b) ∧ In2 h' x y := by
 have e : IntKind.wrap .i64 ((len (ad h (.row [.int x, .int y])) : Int) - 1) = ((len h : Nat) : Int) := by rw [B0, AH (by omega) (by omega)]; omega
 rw [gJ, ifT (by omega), e]
 have hw : Wd (ad h (.row [.int x, .int y])) 2 := Ve w rfl;obtain ⟨h', r1, r2, r3, r5, r4⟩ := UQ (n := len h + 1) (by omega) (t := t) (v2 := v2) (v4 := v1) (b := false) (len h) (len h) (ad h (.row [.int x, .int y])) (by omega) (by omega) (by rw [B0]) hw
 exact ⟨h', r1, r2, by omega, fun hi => r5 (YX hi), fun a b hi => r4 a b (YN.1 a b hi), r4 x y YN.2⟩
end
end Mo

