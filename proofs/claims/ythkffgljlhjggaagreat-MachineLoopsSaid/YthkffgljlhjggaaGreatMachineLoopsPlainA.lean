/- What is proved: what the plain functions over data say, whose trees the text before writes out: the law MachineLoops answers true. Conditions: those that each theorem states. -/
import Derived.Test.YthkffgljlhjggaaGreatMachineLoopsTree
set_option linter.unusedVariables false
set_option linter.unusedSectionVars false
set_option linter.unusedSimpArgs false
namespace Go.AE
section
variable [An]
def atV (Ts : List (List (Tr Plf))) (xs : List D) : Val := Ih (Ak Ts) xs
def fin (Ts : List (List (Tr Plf))) (k : Nat) (V : Val) : Plf → D
 | .stuck => .row []
 | .done s cs => .row (.int (s + 1 : Nat) :: cs.map (Ab V))
 | .next j θ => Ak Ts k (.row (.int j :: θ.map (Ab V)))
def Qe (Ts : List (List (Tr Plf))) (k : Nat) (V : Val) (t : Tr Plf) : D := fin Ts k V (t.get V)
theorem kD {Ts : List (List (Tr Plf))} (h : DH 0 Ts = true) {k p : Nat} {T : List (Tr Plf)} {t : Tr Plf} {xs : List D} (hk : Ts[k]? = some T) (hp : T[p]? = some t) :
  Ak Ts k (.row (.int (p : Nat) :: xs)) = Qe Ts k (atV Ts xs) t := by
 have hd : Bu T (Ak Ts) (.row (.int (p : Nat) :: xs)) = B8 (atV Ts xs) (t.get (atV Ts xs)) := by
  show (match T[p]? with | some t => B8 _ (t.get _) | none => none) = _
  rw [hp];rfl
 unfold Qe fin;split
 ·rename_i e;rw [e] at hd;rw [Al h hk];rcases D6 (Bu T (Ak Ts)) (.row (.int (p : Nat) :: xs)) with q | ⟨n, q⟩
  ·exact q
  ·cases n with
   | zero => cases q
   | succ n =>
    simp only [Fl, hd] at q;cases q
 ·rename_i e;rw [e] at hd;rw [Al h hk];exact Pr hd
 ·rename_i e;rw [e] at hd;rw [Al h hk, OS hd, ← Al h hk]
theorem P5 {Ts : List (List (Tr Plf))} {k : Nat} {V : Val} {e : SB} {a b : Tr Plf} : Qe Ts k V (.split e a b) = if Af V e = true then Qe Ts k V a else Qe Ts k V b := by
 unfold Qe;rw [show (Tr.split e a b).get V = match Af V e with | true => a.get V | false => b.get V from rfl]
 cases Af V e <;> rfl
end
theorem AG {a : Int} (h : -9223372036854775808 ≤ a) (h' : a < 9223372036854775808) : IntKind.wrap .i64 a = a := by
 show (if (true && decide (a % (2 ^ 64 : Int) ≥ 2 ^ 63)) = true then a % (2 ^ 64 : Int) - 2 ^ 64 else a % (2 ^ 64 : Int)) = a
 split
 ·rename_i q;simp only [Bool.true_and, decide_eq_true_eq] at q;omega
 ·rename_i q;simp only [Bool.true_and, decide_eq_true_eq] at q;omega
def len (d : D) : Nat := d.rows.length
def A3 (d : D) : Nat := d.toStr.data.toList.length
def cl (a : D) (i : Int) (j : Nat) : D := (a.rows.getD i.toNat default).cells.getD j default
def sl (a : D) (j : Nat) : D := a.cells.getD j default
def Ay : D := .slc true []
def Ax : D := .slc false []
def ad (a r : D) : D := .slc false (a.rows ++ [r])
def upd (a : D) (i : Int) (j : Nat) (x : D) : D := .slc a.isNil (a.rows.modify i.toNat fun r => .row (r.cells.set j x))
def ct (a b : D) : D := .slc (a.isNil && b.rows.isEmpty) (a.rows ++ b.rows)
def sb (a : D) (lo hi : Int) : D := .slc a.isNil ((a.rows.drop lo.toNat).take (hi.toNat - lo.toNat))
def ni (a : D) (b : Bool) : D := .slc b a.rows
def HZ (l b : Nat) : D := .str ⟨(C3 l b).toArray⟩
def WW (a b : D) : D := .str (a.toStr ++ b.toStr)
def OH (a : D) : D := .slc false (a.toStr.data.toList.map fun b => .row [.int b.toNat])
def mIx (ks : List Kd) (a k : D) : Int := G8 ks k.cells a.rows 0
def JU (a : D) (i : Int) : D := .slc a.isNil (a.rows.eraseIdx i.toNat)
def sAt (a : D) (i : Int) : Int := ((a.toStr.data.toList[i.toNat]?).getD 0).toNat
def eqC (a : D) (l b : Nat) : Bool := strEq a.toStr.data.toList.length (AC a.toStr.data.toList) l b
def ari (op : BinOp) (k : IntKind) (x y : Int) : Int := match Dq op k x y with
 | some (.int _ n) => n
 | _ => 0
theorem ifT {α : Type} {p : Prop} [Decidable p] {a b : α} (h : p) : cond (decide p) a b = a := by rw [decide_eq_true h]; rfl
theorem ifF {α : Type} {p : Prop} [Decidable p] {a b : α} (h : ¬ p) : cond (decide p) a b = b := by rw [decide_eq_false h]; rfl
theorem cT {α : Type} {c : Bool} {a b : α} (h : c = true) : cond c a b = a := by rw [h]; rfl
theorem cF {α : Type} {c : Bool} {a b : α} (h : c = false) : cond c a b = b := by rw [h]; rfl
section
variable [An]
def DM (Ts : List (List (Tr Plf))) (k : Nat) (V : Val) : Tr Plf → D
 | .leaf l => fin Ts k V l
 | .split e a b => cond (Af V e) (DM Ts k V a) (DM Ts k V b)
theorem Je {Ts : List (List (Tr Plf))} {k : Nat} {V : Val} : ∀ t : Tr Plf, Qe Ts k V t = DM Ts k V t
 | .leaf l => rfl
 | .split e a b => by
  rw [P5, Je a, Je b, DM];cases Af V e <;> rfl
theorem Y5 {Ts : List (List (Tr Plf))} (h : DH 0 Ts = true) {k p : Nat} {T : List (Tr Plf)} {t : Tr Plf} {xs : List D} (hk : Ts[k]? = some T) (hp : T[p]? = some t) :
  Ak Ts k (.row (.int (p : Nat) :: xs)) = DM Ts k (atV Ts xs) t := (kD h hk hp).trans (Je t)
theorem cg {Ts : List (List (Tr Plf))} {k : Nat} {V : Val} {e : SB} {a b : Tr Plf} {c : Bool} {x y : D} (h : Af V e = c) (ha : DM Ts k V a = x) (hb : DM Ts k V b = y) : DM Ts k V (.split e a b) = cond c x y := by
 rw [DM, h, ha, hb]
end
theorem lE {V : Val} {a b : SE} {x y : Int} (h : (Ab V a).toInt = x) (h' : (Ab V b).toInt = y) : Af V (.lss a b) = decide (x < y) := by rw [← h, ← h']; rfl
theorem qE {V : Val} {a b : SE} {x y : Int} (h : (Ab V a).toInt = x) (h' : (Ab V b).toInt = y) : Af V (.eql a b) = decide (x = y) := by rw [← h, ← h']; rfl
section
variable [An]
theorem cL {Ts : List (List (Tr Plf))} {k : Nat} {V : Val} {e f : SE} {a b : Tr Plf} {m n : Int} {x y : D} (ha : DM Ts k V a = x) (hb : DM Ts k V b = y) (h : (Ab V e).toInt = m := by rfl) (h' : (Ab V f).toInt = n := by rfl) : DM Ts k V (.split (.lss e f) a b) = cond (decide (m < n)) x y := cg (lE h h') ha hb
theorem cQ {Ts : List (List (Tr Plf))} {k : Nat} {V : Val} {e f : SE} {a b : Tr Plf} {m n : Int} {x y : D} (ha : DM Ts k V a = x) (hb : DM Ts k V b = y) (h : (Ab V e).toInt = m := by rfl) (h' : (Ab V f).toInt = n := by rfl) : DM Ts k V (.split (.eql e f) a b) = cond (decide (m = n)) x y := cg (qE h h') ha hb
end
theorem aE {V : Val} {a b : SE} {x y : Bool} (h : Af V a = x) (h' : Af V b = y) : Af V (.and a b) = (x && y) := by rw [← h, ← h']; rfl
def Wd (a : D) (n : Nat) : Prop := ∀ r ∈ a.rows, ∃ cs, r = .row cs ∧ cs.length = n
theorem D0 {a x : D} {i : Int} {j : Nat} : len (upd a i j x) = len a := by
 show (a.rows.modify _ _).length = _;simp [len]
theorem BZ {a r : D} : len (ad a r) = len a + 1 := by
 show (a.rows ++ [r]).length = _;simp [len]
theorem BO : len Ay = 0 := rfl
theorem NC {a : D} {b : Bool} : len (ni a b) = len a := rfl
theorem T7 {a : D} {lo hi : Int} (h : lo.toNat ≤ hi.toNat) (h' : hi.toNat ≤ len a) : len (sb a lo hi) = hi.toNat - lo.toNat := by
 show ((a.rows.drop _).take _).length = _;have : hi.toNat ≤ a.rows.length := h';simp;omega
theorem AX {x : D} {l : List D} : sl (.row (x :: l)) 0 = x := rfl
theorem AW {x : D} {l : List D} {n : Nat} : sl (.row (x :: l)) (n + 1) = sl (.row l) n := rfl
theorem Av {n : Int} : (D.int n).toInt = n := rfl
theorem AH {b : Bool} : (D.bool b).toBool = b := rfl
theorem Ic {n : Nat} : Wd Ay n := fun r hr => (by cases hr)
theorem Vk {a : D} {cs : List D} {n : Nat} (h : Wd a n) (hc : cs.length = n) : Wd (ad a (.row cs)) n := by
 intro r hr;have hr : r ∈ a.rows ++ [.row cs] := hr;rcases List.mem_append.1 hr with q | q
 ·exact h r q
 ·exact ⟨cs, List.mem_singleton.1 q, hc⟩
theorem Ea {a x : D} {i : Int} {j n : Nat} (h : Wd a n) : Wd (upd a i j x) n := by
 intro r hr;have hr' : r ∈ a.rows.modify i.toNat fun r => .row (r.cells.set j x) := hr
 obtain ⟨k, hk, e⟩ := List.getElem_of_mem hr';rw [List.getElem_modify] at e;have hk' : k < a.rows.length := by simpa using hk
 obtain ⟨cs, hc, hn⟩ := h _ (List.getElem_mem hk');split at e
 ·rw [hc] at e;exact ⟨_, e.symm, by simp [D.cells, hn]⟩
 ·exact ⟨cs, by rw [← e]; exact hc, hn⟩
theorem ES {a x : D} {i k : Int} {j j' n : Nat} (h : Wd a n) (hj : j < n) (hi : 0 ≤ i) (hi' : i < len a) (hk : 0 ≤ k) : cl (upd a i j x) k j' = if k = i ∧ j' = j then x else cl a k j' := by
 have hi2 : i.toNat < a.rows.length := by have : len a = a.rows.length := rfl; omega
 show ((a.rows.modify i.toNat fun r => D.row (r.cells.set j x))[k.toNat]?.getD default).cells.getD j' default = _
 rw [List.getElem?_modify];by_cases q : k = i
 ·subst q;obtain ⟨cs, hc, hn⟩ := h _ (List.getElem_mem hi2);rw [List.getElem?_eq_getElem hi2];show ((if k.toNat = k.toNat then D.row ((a.rows[k.toNat]).cells.set j x) else a.rows[k.toNat]).cells[j']?).getD default = _
  rw [if_pos rfl, hc];show ((cs.set j x)[j']?).getD default = _;rw [List.getElem?_set];by_cases q' : j = j'
  ·subst q';rw [if_pos rfl, if_pos (by omega), if_pos ⟨rfl, rfl⟩]
   rfl
  ·rw [if_neg q', if_neg (fun c => q' c.2.symm)]
   show _ = (a.rows[k.toNat]?.getD default).cells.getD j' default;rw [List.getElem?_eq_getElem hi2, Option.getD_some, hc];rfl
 ·have q2 : ¬ i.toNat = k.toNat := by omega
  rw [if_neg (fun c => q c.1)]
  simp [q2, cl]
theorem C9 {a r : D} {k : Int} {j : Nat} (hk : 0 ≤ k) : cl (ad a r) k j = if k = len a then sl r j else cl a k j := by
 have hl : len a = a.rows.length := rfl;show ((a.rows ++ [r])[k.toNat]?.getD default).cells.getD j default = _;by_cases q : k.toNat < a.rows.length
 ·rw [List.getElem?_append_left q, if_neg (by omega)]
  rfl
 ·by_cases q' : k = len a
  ·subst q';rw [if_pos rfl];have : ((len a : Int)).toNat = a.rows.length := by omega
   rw [this];simp [sl]
  ·rw [if_neg q', List.getElem?_eq_none (by simp; omega)]
   show _ = (a.rows[k.toNat]?.getD default).cells.getD j default;rw [List.getElem?_eq_none (by omega)]
theorem TK {a : D} {b : Bool} {k : Int} {j : Nat} : cl (ni a b) k j = cl a k j := rfl
theorem VN {P : Program} {ts : List TypeId} {xs : List D} {ks : List Kd} (h : HU P ts xs) (hk : AM (Env.of P) ts = some ks) : ks.length = xs.length ∧ LL (Env.of P).kinds 9 ks xs := by
 obtain ⟨ks', cs, M, e, hd, _, hc⟩ := h;rw [hk] at e;cases e;exact ⟨hd.len.2, hc⟩
theorem KU {x c : Int} {l : List D} (h : x ≠ c) : ¬ (sl (.row (.int x :: l)) 0).toInt = c := h
theorem EJ.cell {K : TypeId → Option (List Kd)} {m j : Nat} {e : TypeId} {ks : List Kd} {kd : Kd} {d : D} {i : Int} (h : EJ K (m + 1) (.slice e) d) (hk : K e = some ks) (h0 : 0 ≤ i) (hi : i < len d) (hj : ks[j]? = some kd) : EJ K m kd (cl d i j) := by
 obtain ⟨nl, rows, rfl, _, q⟩ := h;have hi' : i.toNat < rows.length := by have : len (.slc nl rows) = rows.length := rfl; omega
 obtain ⟨cs, e1, _, e3⟩ := q ks hk _ (List.getElem_mem hi');show EJ K m kd ((rows[i.toNat]?.getD default).cells.getD j default);rw [List.getElem?_eq_getElem hi', Option.getD_some, e1];exact e3 j kd hj
theorem EJ.toI {K : TypeId → Option (List Kd)} {m : Nat} {k : IntKind} {d : D} (h : EJ K m (.int k) d) : ∃ n, d = .int n := by cases m <;> exact h
theorem EJ.toB {K : TypeId → Option (List Kd)} {m : Nat} {d : D} (h : EJ K m .bool d) : ∃ b, d = .bool b := by cases m <;> exact h
theorem EJ.wd {K : TypeId → Option (List Kd)} {m : Nat} {e : TypeId} {ks : List Kd} {d : D} (h : EJ K (m + 1) (.slice e) d) (hk : K e = some ks) : Wd d ks.length := by
 obtain ⟨nl, rows, rfl, _, q⟩ := h;intro r hr;obtain ⟨cs, e1, e2, _⟩ := q ks hk r hr;exact ⟨cs, e1, e2⟩
def fdG (p : Nat → Bool) : Nat → Nat → Int
 | 0, _ => -1
 | k + 1, i => cond (p i) (i : Int) (fdG p k (i + 1))
theorem LW {p : Nat → Bool} : ∀ {k i : Nat}, fdG p k i < i + k
 | 0, i => by show (-1 : Int) < _; omega
 | k + 1, i => by
  rw [fdG];have := LW (p := p) (k := k) (i := i + 1);cases p i
  ·show fdG p k (i + 1) < _; omega
  ·show (i : Int) < _; omega
theorem Nw {p : Nat → Bool} : ∀ {k i : Nat}, fdG p k i = -1 ∨ (i : Int) ≤ fdG p k i
 | 0, i => .inl rfl
 | k + 1, i => by
  rw [fdG];cases p i
  ·show fdG p k (i + 1) = _ ∨ _ ≤ fdG p k (i + 1);rcases Nw (p := p) (k := k) (i := i + 1) with h | h
   ·exact .inl h
   ·exact .inr (by omega)
  ·exact .inr (Int.le_refl _)
theorem NW {p : Nat → Bool} : ∀ {k i : Nat}, 0 ≤ fdG p k i → p (fdG p k i).toNat = true
 | 0, i => fun h => by simp [fdG] at h
 | k + 1, i => by
  rw [fdG];cases q : p i
  ·exact NW (k := k)
  ·intro _;show p i = true;exact q
theorem QW {p : Nat → Bool} : ∀ {k i j : Nat}, i ≤ j → j < i + k → p j = true → 0 ≤ fdG p k i ∧ fdG p k i ≤ j
 | 0, i, j => fun h h' => by omega
 | k + 1, i, j => by
  intro h h' hp;rw [fdG];cases q : p i
  ·have : i ≠ j := fun c => by rw [c, hp] at q; cases q
   exact QW (k := k) (by omega) (by omega) hp
  ·show 0 ≤ (i : Int) ∧ (i : Int) ≤ j; omega
theorem NU {p : Nat → Bool} {k i j : Nat} (h : i ≤ j) (h' : (j : Int) < fdG p k i ∨ (fdG p k i < 0 ∧ j < i + k)) : p j = false := by
 cases q : p j
 ·rfl
 ·have := LW (p := p) (k := k) (i := i);have := QW (p := p) (k := k) h (by omega) q
  omega
theorem XF {p : Nat → Bool} {k i : Nat} (h : ∀ j, i ≤ j → j < i + k → p j = false) : fdG p k i = -1 := by
 rcases Nw (p := p) (k := k) (i := i) with q | q
 ·exact q
 ·have a := NW (p := p) (k := k) (i := i) (by omega)
  rw [h _ (by omega) (by have := LW (p := p) (k := k) (i := i); omega)] at a
  cases a
theorem I2 {p q : Nat → Bool} : ∀ {k i : Nat}, (∀ j, i ≤ j → j < i + k → p j = q j) → fdG p k i = fdG q k i
 | 0, i, h => rfl
 | k + 1, i, h => by
  rw [fdG, fdG, h i (Nat.le_refl _) (by omega), I2 fun j a b => h j (by omega) (by omega)]
theorem Yc {F : Nat → D} {bad : Nat → Bool} {B : Nat → D} {n : Nat} : ∀ {k i : Nat}, i + k = n → (∀ j, i ≤ j → j < n → F j = cond (bad j) (B j) (F (j + 1))) → F i = cond (decide (fdG bad k i < 0)) (F n) (B (fdG bad k i).toNat)
 | 0, i => fun h _ => by
  have : i = n := by omega
  subst this;rfl
 | k + 1, i => fun h hs => by
  rw [hs i (Nat.le_refl _) (by omega), fdG]
  cases bad i
  ·exact Yc (by omega) fun j a b => hs j (by omega) b
  ·show B i = cond (decide ((i : Int) < 0)) _ (B (i : Int).toNat);rw [ifF (by omega)]
   rfl
theorem KH {F : Nat → D} {bad : Nat → Bool} {B : Nat → D} {n : Nat} (hs : ∀ j, j < n → F j = cond (bad j) (B j) (F (j + 1))) : F 0 = cond (decide (fdG bad n 0 < 0)) (F n) (B (fdG bad n 0).toNat) := Yc (by omega) fun j _ b => hs j b
theorem find {F : Nat → D} {bad : Nat → Bool} {n : Nat} (hs : ∀ j, j < n → F j = cond (bad j) (.row [.int 1, .int (j : Nat)]) (F (j + 1))) (hr : F n = .row [.int 1, .int (-1)]) : F 0 = .row [.int 1, .int (fdG bad n 0)] := by
 rw [KH hs, hr];have h := Nw (p := bad) (k := n) (i := 0);by_cases q : fdG bad n 0 < 0
 ·rw [ifT q];rcases h with h | h
  ·rw [h]
  ·omega
 ·rw [ifF q];have : ((fdG bad n 0).toNat : Int) = fdG bad n 0 := by omega
  rw [this]
theorem BE {i : Nat} (h : i < 4611686018427387904) : IntKind.wrap .i64 ((i : Int) + 1) = ((i + 1 : Nat) : Int) := by rw [AG (by omega) (by omega)]; omega
theorem Kv {α : Type} {c : Bool} {a b x : α} (h1 : c = true → a = x) (h2 : c = false → b = x) : cond c a b = x := by
 cases c
 ·exact h2 rfl
 ·exact h1 rfl
theorem dT {p : Prop} [Decidable p] (h : decide p = true) : p := of_decide_eq_true h
theorem dF {p : Prop} [Decidable p] (h : decide p = false) : ¬ p := of_decide_eq_false h
theorem RX {x y : Int} : decide (x = y) = decide (y = x) := decide_eq_decide.2 eq_comm
theorem Jj {a : D} : D.strEq a a = true := by
 show (Nat.beq _ _ && Nat.beq _ _) = true;simp
theorem Bx {a b : D} : D.strEq a b = D.strEq b a := Mv (U := FT) _ _ _ _
theorem Ek {a : D} : eqC a 0 0 = decide (A3 a = 0) := by
 show (Nat.beq _ 0 && Nat.beq _ 0) = _;show _ = decide (a.toStr.data.toList.length = 0);cases a.toStr.data.toList <;> simp [AC]
theorem TL {a b : D} : A3 (WW a b) = A3 a + A3 b := by
 show (a.toStr ++ b.toStr).data.toList.length = _;simp [A3]
theorem Q5 {a b : D} : eqC (WW a b) 0 0 = (eqC a 0 0 && eqC b 0 0) := by
 rw [Ek, Ek, Ek, TL, Bool.eq_iff_iff];simp
theorem Em {a b : D} : D.strEq a b = true ↔ a.toStr = b.toStr := by
 show AE.strEq _ _ _ _ = true ↔ _;rw [B0 (U := FT)];constructor
 ·intro h;rw [ByteArray.toList_eq, ByteArray.toList_eq] at h;have : a.toStr.data.toList = b.toStr.data.toList := by simpa only [beq_iff_eq] using h
  exact ByteArray.ext (Array.toList_inj.1 this)
 ·intro h;rw [h];simp
theorem N1 {a b c : D} (h : D.strEq a b = true) (h' : D.strEq b c = true) : D.strEq a c = true := Em.2 ((Em.1 h).trans (Em.1 h'))
theorem HW {a b c : D} (h : D.strEq a b = true) : D.strEq a c = D.strEq b c := by
 show AE.strEq _ _ _ _ = AE.strEq _ _ _ _;rw [Em.1 h]
theorem LD {a : D} {i : Nat} {j c : Nat} (hi : i ≤ len a) (hj : j < i) : cl (sb a 0 i) j c = cl a j c := by
 have hi' : i ≤ a.rows.length := hi;show (((a.rows.drop 0).take (i - 0)).getD j default).cells.getD c default = (a.rows.getD j default).cells.getD c default;rw [List.getD_eq_getElem?_getD, List.getD_eq_getElem?_getD, List.getElem?_take];simp [hj]
theorem ShK.cell {K : TypeId → Option (List Kd)} {o : Option Nat} {m j : Nat} {e : TypeId} {ks : List Kd} {kd : Kd} {d : D} {i : Nat} (h : ShK K o (m + 1) (.slice e) d) (hk : K e = some ks) (hi : i < len d) (hj : ks[j]? = some kd) : ShK K o m kd (cl d i j) := h.2 ks hk i hi j kd hj
theorem ShK.rows {K : TypeId → Option (List Kd)} {b m : Nat} {e : TypeId} {d : D} (h : ShK K (some b) (m + 1) (.slice e) d) : len d ≤ b := h.1 b rfl
theorem ShK.text {K : TypeId → Option (List Kd)} {b m : Nat} {d : D} (h : ShK K (some b) m .str d) : A3 d ≤ b := by
 have : leB (some b) (A3 d) := by cases m <;> exact h
 exact this b rfl
end Go.AE
set_option maxRecDepth 100000
namespace Ml
open Go Go.AE
theorem lt : DH 0 ts = true := by decide
theorem gw [An] {k p : Nat} {T : List (Tr Plf)} {t : Tr Plf} {xs : List D} {x : D} (hk : ts[k]? = some T) (hp : T[p]? = some t) (h : DM ts k (atV ts xs) t = x) : Ak ts k (.row (.int (p : Nat) :: xs)) = x := (Y5 lt hk hp).trans h
section
variable [An]
def VA (v0 v1 v2 v3 : D) : D := Ak ts 0 (.row [.int (0 : Nat), v0, v1, v2, v3])
def Vc (v0 v1 v2 v3 v4 : D) : D := Ak ts 0 (.row [.int (1 : Nat), v0, v1, v2, v3, v4])
def SI (v0 v1 v2 v3 v4 : D) : D := Ak ts 0 (.row [.int (2 : Nat), v0, v1, v2, v3, v4])
def SW (v0 v1 v2 v3 v4 : D) : D := Ak ts 0 (.row [.int (3 : Nat), v0, v1, v2, v3, v4])
def JY : D := Ak ts 1 (.row [.int (0 : Nat)])
def Gj (v0 : D) : D := Ak ts 2 (.row [.int (0 : Nat), v0])
def Q9 (v0 v1 v2 : D) : D := Ak ts 2 (.row [.int (1 : Nat), v0, v1, v2])
def VJ (v0 v1 : D) : D := Ak ts 3 (.row [.int (0 : Nat), v0, v1])
def Xo (v0 v1 v2 : D) : D := Ak ts 3 (.row [.int (1 : Nat), v0, v1, v2])
def UZ (v0 v1 v2 v3 v4 v5 v6 : D) : D := Ak ts 4 (.row [.int (0 : Nat), v0, v1, v2, v3, v4, v5, v6])
def Tq (v0 v1 v2 v3 v4 v5 : D) : D := Ak ts 4 (.row [.int (1 : Nat), v0, v1, v2, v3, v4, v5])
def I3 (v0 v1 : D) : D := Ak ts 5 (.row [.int (0 : Nat), v0, v1])
def WN (v0 v1 v2 : D) : D := Ak ts 5 (.row [.int (1 : Nat), v0, v1, v2])
def Vq (v0 v1 v2 v3 v4 v5 v6 : D) : D := Ak ts 6 (.row [.int (0 : Nat), v0, v1, v2, v3, v4, v5, v6])
def S0 (v0 v1 v2 v3 v4 v5 : D) : D := Ak ts 6 (.row [.int (1 : Nat), v0, v1, v2, v3, v4, v5])
def YL (v0 v1 v2 v3 v4 v5 v6 v7 v8 v9 : D) : D := Ak ts 7 (.row [.int (0 : Nat), v0, v1, v2, v3, v4, v5, v6, v7, v8, v9])
def SA (v0 v1 v2 v3 v4 v5 v6 v7 v8 v9 v10 : D) : D := Ak ts 7 (.row [.int (1 : Nat), v0, v1, v2, v3, v4, v5, v6, v7, v8, v9, v10])
def VP (v0 v1 v2 v3 v4 v5 v6 : D) : D := Ak ts 8 (.row [.int (0 : Nat), v0, v1, v2, v3, v4, v5, v6])
def Hw (v0 v1 v2 v3 v4 v5 : D) : D := Ak ts 8 (.row [.int (1 : Nat), v0, v1, v2, v3, v4, v5])
def V8 (v0 v1 v2 v3 : D) : D := Ak ts 9 (.row [.int (0 : Nat), v0, v1, v2, v3])
def DB (v0 v1 v2 : D) : D := Ak ts 10 (.row [.int (0 : Nat), v0, v1, v2])
def RZ (v0 v1 v2 v3 : D) : D := Ak ts 10 (.row [.int (1 : Nat), v0, v1, v2, v3])
def Cy (v0 : D) : D := Ak ts 11 (.row [.int (0 : Nat), v0])
def Rq (v0 v1 v2 v3 : D) : D := Ak ts 11 (.row [.int (1 : Nat), v0, v1, v2, v3])
def Ct (v0 : D) : D := Ak ts 12 (.row [.int (0 : Nat), v0])
def Cz (v0 : D) : D := Ak ts 13 (.row [.int (0 : Nat), v0])
def Cw (v0 : D) : D := Ak ts 14 (.row [.int (0 : Nat), v0])
def DJ (v0 v1 v2 : D) : D := Ak ts 15 (.row [.int (0 : Nat), v0, v1, v2])
def PJ (v0 v1 v2 v3 v4 v5 : D) : D := Ak ts 15 (.row [.int (1 : Nat), v0, v1, v2, v3, v4, v5])
def G1 (v0 v1 v2 v3 v4 v5 : D) : D := Ak ts 16 (.row [.int (0 : Nat), v0, v1, v2, v3, v4, v5])
def If (v0 v1 v2 v3 v4 v5 : D) : D := Ak ts 17 (.row [.int (0 : Nat), v0, v1, v2, v3, v4, v5])
def Ew (v0 v1 v2 v3 v4 v5 v6 : D) : D := Ak ts 19 (.row [.int (0 : Nat), v0, v1, v2, v3, v4, v5, v6])
def Jx (v0 v1 v2 v3 v4 v5 : D) : D := Ak ts 19 (.row [.int (1 : Nat), v0, v1, v2, v3, v4, v5])
def LE (v0 v1 v2 v3 v4 v5 v6 : D) : D := Ak ts 20 (.row [.int (0 : Nat), v0, v1, v2, v3, v4, v5, v6])
def Da (v0 v1 v2 v3 v4 v5 v6 v7 v8 v9 v10 v11 v12 v13 v14 v15 v16 v17 v18 v19 v20 : D) : D := Ak ts 21 (.row [.int (0 : Nat), v0, v1, v2, v3, v4, v5, v6, v7, v8, v9, v10, v11, v12, v13, v14, v15, v16, v17, v18, v19, v20])
def Ca (v0 v1 v2 v3 : D) : D := Ak ts 22 (.row [.int (0 : Nat), v0, v1, v2, v3])
def Dc (v0 : D) : D := Ak ts 23 (.row [.int (0 : Nat), v0])
def Jy (v0 v1 : D) : D := Ak ts 23 (.row [.int (1 : Nat), v0, v1])
def HI (v0 v1 v2 v3 v4 : D) : D := Ak ts 24 (.row [.int (0 : Nat), v0, v1, v2, v3, v4])
def RE (v0 v1 v2 v3 v4 v5 : D) : D := Ak ts 24 (.row [.int (1 : Nat), v0, v1, v2, v3, v4, v5])
def G9 (v0 v1 v2 v3 v4 : D) : D := Ak ts 25 (.row [.int (0 : Nat), v0, v1, v2, v3, v4])
def R1 (v0 v1 v2 v3 v4 v5 : D) : D := Ak ts 25 (.row [.int (1 : Nat), v0, v1, v2, v3, v4, v5])
def RM (v0 v1 v2 v3 v4 : D) : D := Ak ts 26 (.row [.int (0 : Nat), v0, v1, v2, v3, v4])
def FL (v0 v1 v2 v3 v4 v5 v6 v7 v8 v9 v10 v11 v12 v13 v14 v15 : D) : D := Ak ts 26 (.row [.int (1 : Nat), v0, v1, v2, v3, v4, v5, v6, v7, v8, v9, v10, v11, v12, v13, v14, v15])
def PK (v0 v1 v2 v3 : D) : D := Ak ts 27 (.row [.int (0 : Nat), v0, v1, v2, v3])
def JO (v0 v1 v2 v3 v4 : D) : D := Ak ts 27 (.row [.int (1 : Nat), v0, v1, v2, v3, v4])
def Jn (v0 v1 v2 v3 v4 : D) : D := Ak ts 27 (.row [.int (2 : Nat), v0, v1, v2, v3, v4])
def JP (v0 v1 v2 v3 v4 : D) : D := Ak ts 27 (.row [.int (3 : Nat), v0, v1, v2, v3, v4])
def O1 (v0 : D) : D := Ak ts 28 (.row [.int (0 : Nat), v0])
def OA (v0 v1 v2 v3 v4 v5 : D) : D := Ak ts 28 (.row [.int (1 : Nat), v0, v1, v2, v3, v4, v5])
def RU (v0 v1 v2 v3 v4 v5 v6 : D) : D := Ak ts 28 (.row [.int (2 : Nat), v0, v1, v2, v3, v4, v5, v6])
def DU (v0 v1 v2 v3 : D) : D := Ak ts 29 (.row [.int (0 : Nat), v0, v1, v2, v3])
def JG (v0 v1 : D) : D := Ak ts 31 (.row [.int (0 : Nat), v0, v1])
def FM (v0 v1 v2 v3 v4 : D) : D := Ak ts 32 (.row [.int (0 : Nat), v0, v1, v2, v3, v4])
def FY (v0 v1 v2 v3 v4 : D) : D := Ak ts 33 (.row [.int (0 : Nat), v0, v1, v2, v3, v4])
def RF (v0 v1 v2 v3 v4 v5 v6 : D) : D := Ak ts 33 (.row [.int (1 : Nat), v0, v1, v2, v3, v4, v5, v6])
def Bz (v0 v1 v2 v3 v4 v5 v6 v7 v8 v9 v10 : D) : D := Ak ts 33 (.row [.int (2 : Nat), v0, v1, v2, v3, v4, v5, v6, v7, v8, v9, v10])
def Bo (v0 v1 v2 v3 v4 : D) : D := Ak ts 34 (.row [.int (0 : Nat), v0, v1, v2, v3, v4])
def JL (v0 v1 v2 v3 v4 : D) : D := Ak ts 34 (.row [.int (1 : Nat), v0, v1, v2, v3, v4])
def LU (v0 v1 v2 v3 v4 v5 : D) : D := Ak ts 35 (.row [.int (0 : Nat), v0, v1, v2, v3, v4, v5])
def Lg (v0 v1 v2 v3 v4 v5 v6 v7 v8 v9 : D) : D := Ak ts 35 (.row [.int (1 : Nat), v0, v1, v2, v3, v4, v5, v6, v7, v8, v9])
def Dy (v0 v1 : D) : D := Ak ts 36 (.row [.int (0 : Nat), v0, v1])
def FN (v0 v1 v2 : D) : D := Ak ts 37 (.row [.int (0 : Nat), v0, v1, v2])
def FO (v0 v1 v2 v3 v4 v5 v6 v7 v8 v9 v10 : D) : D := Ak ts 38 (.row [.int (0 : Nat), v0, v1, v2, v3, v4, v5, v6, v7, v8, v9, v10])
def R6 (v0 v1 v2 v3 v4 v5 v6 v7 v8 v9 v10 v11 v12 v13 v14 v15 v16 v17 v18 v19 v20 v21 v22 v23 v24 v25 v26 v27 v28 v29 : D) : D := Ak ts 39 (.row [.int (0 : Nat), v0, v1, v2, v3, v4, v5, v6, v7, v8, v9, v10, v11, v12, v13, v14, v15, v16, v17, v18, v19, v20, v21, v22, v23, v24, v25, v26, v27, v28, v29])
def KL (v0 v1 v2 v3 v4 v5 v6 v7 v8 v9 v10 v11 v12 v13 v14 v15 v16 v17 v18 v19 v20 v21 v22 v23 v24 v25 v26 v27 v28 v29 v30 : D) : D := Ak ts 39 (.row [.int (1 : Nat), v0, v1, v2, v3, v4, v5, v6, v7, v8, v9, v10, v11, v12, v13, v14, v15, v16, v17, v18, v19, v20, v21, v22, v23, v24, v25, v26, v27, v28, v29, v30])
def LK (v0 v1 v2 v3 v4 v5 v6 v7 v8 v9 v10 v11 v12 v13 v14 v15 v16 v17 v18 v19 v20 v21 v22 v23 v24 v25 : D) : D := Ak ts 40 (.row [.int (0 : Nat), v0, v1, v2, v3, v4, v5, v6, v7, v8, v9, v10, v11, v12, v13, v14, v15, v16, v17, v18, v19, v20, v21, v22, v23, v24, v25])
def M6 (v0 v1 v2 v3 v4 v5 v6 v7 v8 v9 v10 v11 v12 v13 v14 v15 v16 v17 v18 v19 v20 v21 v22 v23 v24 v25 v26 : D) : D := Ak ts 40 (.row [.int (1 : Nat), v0, v1, v2, v3, v4, v5, v6, v7, v8, v9, v10, v11, v12, v13, v14, v15, v16, v17, v18, v19, v20, v21, v22, v23, v24, v25, v26])
def PA (v0 v1 v2 v3 v4 v5 v6 v7 v8 v9 v10 v11 v12 v13 v14 v15 v16 v17 v18 v19 v20 : D) : D := Ak ts 41 (.row [.int (0 : Nat), v0, v1, v2, v3, v4, v5, v6, v7, v8, v9, v10, v11, v12, v13, v14, v15, v16, v17, v18, v19, v20])
def DN (v0 v1 v2 : D) : D := Ak ts 42 (.row [.int (0 : Nat), v0, v1, v2])
def RW (v0 v1 v2 v3 : D) : D := Ak ts 42 (.row [.int (1 : Nat), v0, v1, v2, v3])
def Jl (v0 v1 v2 v3 v4 v5 v6 v7 v8 v9 v10 : D) : D := Ak ts 43 (.row [.int (0 : Nat), v0, v1, v2, v3, v4, v5, v6, v7, v8, v9, v10])
def G4 (v0 v1 v2 v3 v4 : D) : D := Ak ts 44 (.row [.int (0 : Nat), v0, v1, v2, v3, v4])
def M7 (v0 v1 v2 v3 v4 v5 : D) : D := Ak ts 44 (.row [.int (1 : Nat), v0, v1, v2, v3, v4, v5])
def G6 (v0 v1 v2 v3 v4 v5 v6 v7 v8 v9 v10 v11 : D) : D := Ak ts 45 (.row [.int (0 : Nat), v0, v1, v2, v3, v4, v5, v6, v7, v8, v9, v10, v11])
def R8 (v0 v1 v2 v3 v4 v5 v6 v7 v8 v9 v10 : D) : D := Ak ts 46 (.row [.int (0 : Nat), v0, v1, v2, v3, v4, v5, v6, v7, v8, v9, v10])
def Pc (v0 v1 v2 v3 v4 v5 v6 v7 v8 v9 v10 v11 v12 : D) : D := Ak ts 46 (.row [.int (1 : Nat), v0, v1, v2, v3, v4, v5, v6, v7, v8, v9, v10, v11, v12])
def Jk (v0 v1 v2 v3 : D) : D := Ak ts 47 (.row [.int (0 : Nat), v0, v1, v2, v3])
def Se (v0 v1 v2 v3 v4 : D) : D := Ak ts 47 (.row [.int (1 : Nat), v0, v1, v2, v3, v4])
def Sw (v0 v1 v2 v3 v4 v5 v6 v7 v8 v9 v10 v11 v12 v13 v14 v15 v16 v17 v18 v19 v20 v21 v22 v23 v24 v25 v26 v27 v28 v29 : D) : D := Ak ts 51 (.row [.int (0 : Nat), v0, v1, v2, v3, v4, v5, v6, v7, v8, v9, v10, v11, v12, v13, v14, v15, v16, v17, v18, v19, v20, v21, v22, v23, v24, v25, v26, v27, v28, v29])
def K7 (v0 v1 v2 v3 v4 v5 v6 v7 v8 v9 v10 v11 v12 v13 v14 v15 v16 v17 v18 v19 v20 v21 v22 v23 v24 v25 v26 v27 v28 v29 v30 : D) : D := Ak ts 51 (.row [.int (1 : Nat), v0, v1, v2, v3, v4, v5, v6, v7, v8, v9, v10, v11, v12, v13, v14, v15, v16, v17, v18, v19, v20, v21, v22, v23, v24, v25, v26, v27, v28, v29, v30])
def Rp (v0 v1 v2 v3 v4 v5 v6 v7 v8 v9 v10 v11 v12 v13 v14 v15 v16 v17 v18 v19 v20 v21 : D) : D := Ak ts 52 (.row [.int (0 : Nat), v0, v1, v2, v3, v4, v5, v6, v7, v8, v9, v10, v11, v12, v13, v14, v15, v16, v17, v18, v19, v20, v21])
def Mw (v0 v1 v2 v3 v4 v5 v6 v7 v8 v9 v10 v11 v12 v13 v14 v15 v16 v17 v18 v19 v20 v21 v22 v23 v24 : D) : D := Ak ts 52 (.row [.int (1 : Nat), v0, v1, v2, v3, v4, v5, v6, v7, v8, v9, v10, v11, v12, v13, v14, v15, v16, v17, v18, v19, v20, v21, v22, v23, v24])
def Ot (v0 v1 v2 v3 v4 v5 v6 v7 v8 v9 v10 v11 v12 v13 v14 v15 v16 v17 v18 v19 : D) : D := Ak ts 53 (.row [.int (0 : Nat), v0, v1, v2, v3, v4, v5, v6, v7, v8, v9, v10, v11, v12, v13, v14, v15, v16, v17, v18, v19])
def LV (v0 v1 v2 v3 v4 v5 v6 v7 v8 v9 : D) : D := Ak ts 54 (.row [.int (0 : Nat), v0, v1, v2, v3, v4, v5, v6, v7, v8, v9])
def H8 (v0 v1 v2 v3 v4 v5 v6 v7 v8 v9 v10 v11 : D) : D := Ak ts 54 (.row [.int (1 : Nat), v0, v1, v2, v3, v4, v5, v6, v7, v8, v9, v10, v11])
def Db (v0 v1 : D) : D := Ak ts 55 (.row [.int (0 : Nat), v0, v1])
def Pk (v0 v1 v2 v3 v4 v5 v6 v7 v8 v9 v10 v11 v12 v13 : D) : D := Ak ts 56 (.row [.int (0 : Nat), v0, v1, v2, v3, v4, v5, v6, v7, v8, v9, v10, v11, v12, v13])
def R7 (v0 v1 v2 v3 v4 v5 v6 v7 v8 v9 v10 v11 v12 v13 v14 : D) : D := Ak ts 56 (.row [.int (1 : Nat), v0, v1, v2, v3, v4, v5, v6, v7, v8, v9, v10, v11, v12, v13, v14])
def GD (v0 v1 v2 v3 v4 v5 v6 v7 v8 v9 v10 v11 v12 v13 v14 v15 v16 v17 v18 v19 v20 v21 v22 v23 v24 v25 v26 v27 v28 v29 : D) : D := Ak ts 57 (.row [.int (0 : Nat), v0, v1, v2, v3, v4, v5, v6, v7, v8, v9, v10, v11, v12, v13, v14, v15, v16, v17, v18, v19, v20, v21, v22, v23, v24, v25, v26, v27, v28, v29])
def Nc (v0 v1 v2 v3 v4 v5 v6 v7 v8 v9 v10 v11 v12 v13 v14 v15 v16 v17 v18 v19 v20 v21 v22 v23 v24 v25 v26 v27 v28 v29 v30 : D) : D := Ak ts 57 (.row [.int (1 : Nat), v0, v1, v2, v3, v4, v5, v6, v7, v8, v9, v10, v11, v12, v13, v14, v15, v16, v17, v18, v19, v20, v21, v22, v23, v24, v25, v26, v27, v28, v29, v30])
def Ky (v0 v1 v2 v3 v4 v5 v6 v7 v8 v9 v10 v11 v12 v13 v14 v15 v16 v17 v18 v19 v20 v21 v22 v23 v24 v25 v26 v27 v28 v29 v30 v31 v32 v33 v34 : D) : D := Ak ts 58 (.row [.int (0 : Nat), v0, v1, v2, v3, v4, v5, v6, v7, v8, v9, v10, v11, v12, v13, v14, v15, v16, v17, v18, v19, v20, v21, v22, v23, v24, v25, v26, v27, v28, v29, v30, v31, v32, v33, v34])
def KM (v0 v1 v2 v3 v4 v5 v6 v7 v8 v9 v10 v11 v12 v13 v14 v15 v16 v17 v18 v19 v20 v21 v22 v23 v24 v25 v26 v27 v28 v29 v30 v31 v32 v33 v34 v35 : D) : D := Ak ts 58 (.row [.int (1 : Nat), v0, v1, v2, v3, v4, v5, v6, v7, v8, v9, v10, v11, v12, v13, v14, v15, v16, v17, v18, v19, v20, v21, v22, v23, v24, v25, v26, v27, v28, v29, v30, v31, v32, v33, v34, v35])
def E7 (v0 v1 v2 v3 v4 v5 v6 v7 v8 v9 v10 : D) : D := Ak ts 59 (.row [.int (0 : Nat), v0, v1, v2, v3, v4, v5, v6, v7, v8, v9, v10])
def Mj (v0 v1 v2 v3 v4 v5 v6 v7 v8 v9 v10 v11 v12 v13 v14 v15 v16 v17 v18 v19 v20 v21 v22 v23 v24 v25 v26 v27 : D) : D := Ak ts 60 (.row [.int (0 : Nat), v0, v1, v2, v3, v4, v5, v6, v7, v8, v9, v10, v11, v12, v13, v14, v15, v16, v17, v18, v19, v20, v21, v22, v23, v24, v25, v26, v27])
def Ba (v0 v1 v2 v3 v4 v5 v6 v7 v8 v9 v10 v11 v12 v13 v14 v15 v16 v17 v18 v19 v20 v21 : D) : D := Ak ts 61 (.row [.int (0 : Nat), v0, v1, v2, v3, v4, v5, v6, v7, v8, v9, v10, v11, v12, v13, v14, v15, v16, v17, v18, v19, v20, v21])
def OC (v0 v1 v2 v3 v4 v5 v6 v7 v8 v9 v10 : D) : D := Ak ts 62 (.row [.int (0 : Nat), v0, v1, v2, v3, v4, v5, v6, v7, v8, v9, v10])
def Cp (v0 v1 v2 v3 v4 v5 v6 v7 v8 v9 v10 v11 : D) : D := Ak ts 63 (.row [.int (0 : Nat), v0, v1, v2, v3, v4, v5, v6, v7, v8, v9, v10, v11])
def KR (v0 v1 v2 v3 v4 v5 v6 v7 v8 v9 v10 v11 v12 v13 v14 v15 v16 v17 v18 v19 v20 v21 v22 v23 v24 v25 v26 v27 v28 v29 v30 v31 : D) : D := Ak ts 64 (.row [.int (0 : Nat), v0, v1, v2, v3, v4, v5, v6, v7, v8, v9, v10, v11, v12, v13, v14, v15, v16, v17, v18, v19, v20, v21, v22, v23, v24, v25, v26, v27, v28, v29, v30, v31])
def IC (v0 v1 v2 v3 v4 v5 v6 v7 v8 v9 v10 v11 v12 v13 v14 v15 v16 v17 v18 v19 v20 v21 v22 v23 v24 v25 v26 v27 v28 v29 v30 v31 v32 : D) : D := Ak ts 64 (.row [.int (1 : Nat), v0, v1, v2, v3, v4, v5, v6, v7, v8, v9, v10, v11, v12, v13, v14, v15, v16, v17, v18, v19, v20, v21, v22, v23, v24, v25, v26, v27, v28, v29, v30, v31, v32])
def MB (v0 v1 v2 v3 v4 v5 v6 v7 v8 v9 v10 v11 v12 v13 v14 v15 v16 v17 v18 v19 v20 v21 v22 : D) : D := Ak ts 65 (.row [.int (0 : Nat), v0, v1, v2, v3, v4, v5, v6, v7, v8, v9, v10, v11, v12, v13, v14, v15, v16, v17, v18, v19, v20, v21, v22])
def MA (v0 v1 v2 v3 v4 v5 v6 v7 v8 v9 v10 v11 v12 : D) : D := Ak ts 66 (.row [.int (0 : Nat), v0, v1, v2, v3, v4, v5, v6, v7, v8, v9, v10, v11, v12])
def Jv (v0 v1 v2 v3 v4 v5 v6 v7 v8 v9 v10 v11 v12 v13 : D) : D := Ak ts 66 (.row [.int (1 : Nat), v0, v1, v2, v3, v4, v5, v6, v7, v8, v9, v10, v11, v12, v13])
def OE (v0 v1 : D) : D := Ak ts 67 (.row [.int (0 : Nat), v0, v1])
def Py (v0 v1 : D) : D := Ak ts 68 (.row [.int (0 : Nat), v0, v1])
def V4 (v0 v1 v2 v3 v4 v5 v6 v7 v8 v9 v10 v11 v12 v13 v14 v15 v16 v17 v18 v19 : D) : D := Ak ts 69 (.row [.int (0 : Nat), v0, v1, v2, v3, v4, v5, v6, v7, v8, v9, v10, v11, v12, v13, v14, v15, v16, v17, v18, v19])
def TH (v0 v1 v2 v3 v4 v5 v6 v7 v8 v9 v10 v11 v12 v13 v14 v15 v16 v17 v18 v19 v20 v21 v22 v23 v24 v25 v26 v27 v28 v29 v30 v31 v32 v33 v34 : D) : D := Ak ts 70 (.row [.int (0 : Nat), v0, v1, v2, v3, v4, v5, v6, v7, v8, v9, v10, v11, v12, v13, v14, v15, v16, v17, v18, v19, v20, v21, v22, v23, v24, v25, v26, v27, v28, v29, v30, v31, v32, v33, v34])
def Sv (v0 v1 v2 v3 v4 v5 v6 v7 v8 v9 v10 v11 v12 v13 v14 v15 v16 v17 v18 v19 v20 v21 v22 v23 v24 v25 v26 v27 v28 v29 v30 v31 v32 v33 v34 v35 v36 v37 v38 v39 v40 v41 v42 v43 v44 v45 v46 v47 : D) : D := Ak ts 70 (.row [.int (1 : Nat), v0, v1, v2, v3, v4, v5, v6, v7, v8, v9, v10, v11, v12, v13, v14, v15, v16, v17, v18, v19, v20, v21, v22, v23, v24, v25, v26, v27, v28, v29, v30, v31, v32, v33, v34, v35, v36, v37, v38, v39, v40, v41, v42, v43, v44, v45, v46, v47])
def B6 (v0 v1 v2 v3 v4 v5 v6 v7 v8 v9 v10 v11 v12 v13 v14 v15 : D) : D := Ak ts 71 (.row [.int (0 : Nat), v0, v1, v2, v3, v4, v5, v6, v7, v8, v9, v10, v11, v12, v13, v14, v15])
def FW (v0 v1 v2 v3 v4 v5 v6 v7 v8 v9 v10 v11 v12 v13 v14 v15 v16 : D) : D := Ak ts 71 (.row [.int (1 : Nat), v0, v1, v2, v3, v4, v5, v6, v7, v8, v9, v10, v11, v12, v13, v14, v15, v16])
def XR (v0 v1 v2 v3 v4 v5 : D) : D := Ak ts 72 (.row [.int (0 : Nat), v0, v1, v2, v3, v4, v5])
def Ri (v0 v1 v2 v3 v4 v5 v6 v7 v8 v9 v10 v11 v12 v13 v14 v15 v16 v17 v18 v19 v20 v21 v22 v23 v24 v25 v26 v27 v28 v29 v30 v31 v32 v33 v34 v35 v36 v37 : D) : D := Ak ts 72 (.row [.int (1 : Nat), v0, v1, v2, v3, v4, v5, v6, v7, v8, v9, v10, v11, v12, v13, v14, v15, v16, v17, v18, v19, v20, v21, v22, v23, v24, v25, v26, v27, v28, v29, v30, v31, v32, v33, v34, v35, v36, v37])
def RC (v0 v1 v2 v3 v4 v5 v6 v7 v8 v9 v10 v11 v12 v13 v14 v15 v16 v17 v18 v19 v20 v21 v22 v23 v24 v25 v26 v27 v28 v29 v30 v31 v32 v33 v34 v35 v36 v37 : D) : D := Ak ts 72 (.row [.int (2 : Nat), v0, v1, v2, v3, v4, v5, v6, v7, v8, v9, v10, v11, v12, v13, v14, v15, v16, v17, v18, v19, v20, v21, v22, v23, v24, v25, v26, v27, v28, v29, v30, v31, v32, v33, v34, v35, v36, v37])
def Sr (v0 v1 v2 v3 v4 v5 v6 v7 v8 v9 v10 v11 v12 : D) : D := Ak ts 72 (.row [.int (3 : Nat), v0, v1, v2, v3, v4, v5, v6, v7, v8, v9, v10, v11, v12])
def G0 (v0 v1 v2 v3 v4 v5 v6 v7 v8 v9 v10 v11 v12 : D) : D := Ak ts 72 (.row [.int (4 : Nat), v0, v1, v2, v3, v4, v5, v6, v7, v8, v9, v10, v11, v12])
def Ue (v0 v1 v2 v3 v4 v5 v6 v7 v8 v9 v10 v11 v12 : D) : D := Ak ts 72 (.row [.int (5 : Nat), v0, v1, v2, v3, v4, v5, v6, v7, v8, v9, v10, v11, v12])
theorem kI (v0 v1 v2 v3 : D) : VA v0 v1 v2 v3 =
  cond (6 < (len v2 : Int)) (
 .row [.int 1, (.bool true)]) (
 cond (8 < (len v1 : Int)) (
 .row [.int 1, (.bool true)]) (
 cond (14 < (len v3 : Int)) (
 .row [.int 1, (.bool true)]) (
 cond (60 < (A3 v0 : Int)) (
 .row [.int 1, (.bool true)]) (
 Vc (.int 0) v0 v1 v2 v3)))) := gw rfl rfl rfl
theorem b9 (v0 : Int) (v1 v2 v3 v4 : D) : Vc (.int v0) v1 v2 v3 v4 =
  cond (v0 < len v3) (
 cond (v0 < 0) (
 .row []) (
 cond (60 < (A3 (cl v3 v0 0) : Int)) (
 .row [.int 1, (.bool true)]) (
 Vc (.int (IntKind.wrap .i64 (v0 + 1))) v1 v2 v3 v4))) (
 SI (.int 0) v1 v2 v3 v4) := gw rfl rfl rfl
theorem eV (v0 : Int) (v1 v2 v3 v4 : D) : SI (.int v0) v1 v2 v3 v4 =
  cond (v0 < len v2) (
 cond (v0 < 0) (
 .row []) (
 cond (60 < (A3 (cl v2 v0 0) : Int)) (
 .row [.int 1, (.bool true)]) (
 SI (.int (IntKind.wrap .i64 (v0 + 1))) v1 v2 v3 v4))) (
 SW (.int 0) v1 v2 v3 v4) := gw rfl rfl rfl
theorem dE (v0 : Int) (v1 v2 v3 v4 : D) : SW (.int v0) v1 v2 v3 v4 =
  cond (v0 < len v4) (
 cond (v0 < 0) (
 .row []) (
 cond (60 < (A3 (cl v4 v0 0) : Int)) (
 .row [.int 1, (.bool true)]) (
 cond (60 < (A3 (cl v4 v0 1) : Int)) (
 .row [.int 1, (.bool true)]) (
 cond (60 < (A3 (cl v4 v0 3) : Int)) (
 .row [.int 1, (.bool true)]) (
 cond (60 < (A3 (cl v4 v0 4) : Int)) (
 .row [.int 1, (.bool true)]) (
 cond (60 < (A3 (cl v4 v0 5) : Int)) (
 .row [.int 1, (.bool true)]) (
 SW (.int (IntKind.wrap .i64 (v0 + 1))) v1 v2 v3 v4))))))) (
 .row [.int 1, (.bool false)]) := gw rfl rfl rfl
theorem kB : JY =
 .row [.int 1] := gw rfl rfl rfl
theorem kT (v0 : D) : Gj v0 =
  cond ((A3 v0 : Int) < 1) (
 .row [.int 1, (.bool false)]) (
 cond (32 < (A3 v0 : Int)) (
 .row [.int 1, (.bool false)]) (
 Q9 (OH v0) (.int (len (OH v0) : Int)) (.int 0))) := gw rfl rfl rfl
theorem YO (v0 : D) (v1 v2 : Int) : Q9 v0 (.int v1) (.int v2) =
  cond (v2 < v1) (
 cond (v2 < 0) (
 .row []) (
 cond (v2 < len v0) (
 cond ((IntKind.wrap .u8 (cl v0 v2 0).toInt) < 97) (
 cond ((IntKind.wrap .u8 (cl v0 v2 0).toInt) < 65) (
 cond (v2 = 0) (
 .row [.int 1, (.bool false)]) (
 cond ((IntKind.wrap .u8 (cl v0 v2 0).toInt) < 48) (
 .row [.int 1, (.bool false)]) (
 cond (57 < (IntKind.wrap .u8 (cl v0 v2 0).toInt)) (
 .row [.int 1, (.bool false)]) (
 Q9 v0 (.int v1) (.int (IntKind.wrap .i64 (v2 + 1))))))) (
 cond (90 < (IntKind.wrap .u8 (cl v0 v2 0).toInt)) (
 cond (v2 = 0) (
 .row [.int 1, (.bool false)]) (
 cond ((IntKind.wrap .u8 (cl v0 v2 0).toInt) = 95) (
 Q9 v0 (.int v1) (.int (IntKind.wrap .i64 (v2 + 1)))) (
 .row [.int 1, (.bool false)]))) (
 Q9 v0 (.int v1) (.int (IntKind.wrap .i64 (v2 + 1)))))) (
 cond (122 < (IntKind.wrap .u8 (cl v0 v2 0).toInt)) (
 cond (v2 = 0) (
 .row [.int 1, (.bool false)]) (
 .row [.int 1, (.bool false)])) (
 Q9 v0 (.int v1) (.int (IntKind.wrap .i64 (v2 + 1)))))) (
 .row []))) (
 .row [.int 1, (.bool true)]) := gw rfl rfl (cL (cL rfl (cL (cL (cL (cQ rfl rfl) (cL (cQ rfl (cQ rfl rfl)) rfl)) (cL (cQ rfl rfl) rfl)) rfl)) rfl)
theorem kH (v0 v1 : D) : VJ v0 v1 =
 Xo v0 (.int 0) v1 := gw rfl rfl rfl
theorem kG (v0 : D) (v1 : Int) (v2 : D) : Xo v0 (.int v1) v2 =
  cond (v1 < len v0) (
 cond (v1 < 0) (
 .row []) (
 cond (D.strEq (cl v0 v1 0) v2) (
 .row [.int 1, (.int v1)]) (
 Xo v0 (.int (IntKind.wrap .i64 (v1 + 1))) v2))) (
 .row [.int 1, (.int (-1))]) := gw rfl rfl rfl
theorem ln (v0 v1 v2 : Int) (v3 v4 v5 v6 : D) : UZ (.int v0) (.int v1) (.int v2) v3 v4 v5 v6 =
  cond (v0 < v1) (
 .row [.int 1, (.int 0)]) (
 cond (v2 < v0) (
 .row [.int 1, (.int v2)]) (
 Tq (.int v0) (.int 0) v3 v4 v5 v6)) := gw rfl rfl rfl
theorem fX (v0 v1 : Int) (v2 v3 v4 v5 : D) : Tq (.int v0) (.int v1) v2 v3 v4 v5 =
  cond (v1 < v0) (
 cond (v1 < 0) (
 .row []) (
 cond (v1 < len v4) (
 cond ((sl (Gj (cl v4 v1 0)) 0).toInt = 1) (
 cond ((sl (Gj (cl v4 v1 0)) 1).toBool) (
 cond ((sl (VJ v4 (cl v4 v1 0)) 0).toInt = 1) (
 cond ((sl (VJ v4 (cl v4 v1 0)) 1).toInt < v1) (
 .row [.int 1, (.int v1)]) (
 cond ((cl v4 v1 1).toInt < 1) (
 .row [.int 1, (.int v1)]) (
 cond (1000 < (cl v4 v1 1).toInt) (
 .row [.int 1, (.int v1)]) (
 Tq (.int v0) (.int (IntKind.wrap .i64 (v1 + 1))) v2 v3 v4 v5)))) (
 .row [])) (
 .row [.int 1, (.int v1)])) (
 .row [])) (
 .row []))) (
 .row [.int 1, (.int (-1))]) := gw rfl rfl (cL (cL rfl (cL (cQ (cg rfl (cQ (cL rfl (cL rfl (cL rfl rfl))) rfl) rfl) rfl) rfl)) rfl)
theorem lF (v0 v1 : D) : I3 v0 v1 =
 WN v0 (.int 0) v1 := gw rfl rfl rfl
theorem kJ (v0 : D) (v1 : Int) (v2 : D) : WN v0 (.int v1) v2 =
  cond (v1 < len v0) (
 cond (v1 < 0) (
 .row []) (
 cond (D.strEq (cl v0 v1 0) v2) (
 .row [.int 1, (.int v1)]) (
 WN v0 (.int (IntKind.wrap .i64 (v1 + 1))) v2))) (
 .row [.int 1, (.int (-1))]) := gw rfl rfl rfl
theorem kR (v0 v1 v2 : Int) (v3 v4 v5 v6 : D) : Vq (.int v0) (.int v1) (.int v2) v3 v4 v5 v6 =
  cond (v0 < v1) (
 .row [.int 1, (.int 0)]) (
 cond (v2 < v0) (
 .row [.int 1, (.int v2)]) (
 S0 (.int v0) (.int 0) v3 v4 v5 v6)) := gw rfl rfl rfl
theorem bl (v0 v1 : Int) (v2 v3 v4 v5 : D) : S0 (.int v0) (.int v1) v2 v3 v4 v5 =
  cond (v1 < v0) (
 cond (v1 < 0) (
 .row []) (
 cond (v1 < len v3) (
 cond ((sl (Gj (cl v3 v1 0)) 0).toInt = 1) (
 cond ((sl (Gj (cl v3 v1 0)) 1).toBool) (
 cond ((sl (I3 v3 (cl v3 v1 0)) 0).toInt = 1) (
 cond ((sl (I3 v3 (cl v3 v1 0)) 1).toInt < v1) (
 .row [.int 1, (.int v1)]) (
 cond ((cl v3 v1 2).toInt < 0) (
 .row [.int 1, (.int v1)]) (
 cond (1048576 < (cl v3 v1 2).toInt) (
 .row [.int 1, (.int v1)]) (
 S0 (.int v0) (.int (IntKind.wrap .i64 (v1 + 1))) v2 v3 v4 v5)))) (
 .row [])) (
 .row [.int 1, (.int v1)])) (
 .row [])) (
 .row []))) (
 .row [.int 1, (.int (-1))]) := gw rfl rfl (cL (cL rfl (cL (cQ (cg rfl (cQ (cL rfl (cL rfl (cL rfl rfl))) rfl) rfl) rfl) rfl)) rfl)
theorem lh (v0 v1 v2 : D) (v3 : Int) (v4 v5 v6 : D) (v7 v8 v9 : Int) : YL v0 v1 v2 (.int v3) v4 v5 v6 (.int v7) (.int v8) (.int v9) =
 SA v0 (.int 0) v1 v2 (.int v3) v4 v5 v6 (.int v7) (.int v8) (.int v9) := gw rfl rfl rfl
theorem ez (v0 : D) (v1 : Int) (v2 v3 : D) (v4 : Int) (v5 v6 v7 : D) (v8 v9 v10 : Int) : SA v0 (.int v1) v2 v3 (.int v4) v5 v6 v7 (.int v8) (.int v9) (.int v10) =
  cond (v1 < len v0) (
 cond (v1 < 0) (
 .row []) (
 cond ((D.strEq v2 (cl v0 v1 0) && (D.strEq v3 (cl v0 v1 1) && (decide (v4 = (cl v0 v1 2).toInt) && (D.strEq v5 (cl v0 v1 3) && (D.strEq v6 (cl v0 v1 4) && (D.strEq v7 (cl v0 v1 5) && (decide (v8 = (cl v0 v1 6).toInt) && (decide (v9 = (cl v0 v1 7).toInt) && decide (v10 = (cl v0 v1 8).toInt)))))))))) (
 .row [.int 1, (.int v1)]) (
 SA v0 (.int (IntKind.wrap .i64 (v1 + 1))) v2 v3 (.int v4) v5 v6 v7 (.int v8) (.int v9) (.int v10)))) (
 .row [.int 1, (.int (-1))]) := gw rfl rfl (cL (cL rfl (cg (aE rfl (aE rfl (aE (qE rfl rfl) (aE rfl (aE rfl (aE rfl (aE (qE rfl rfl) (aE (qE rfl rfl) (qE rfl rfl))))))))) rfl rfl)) rfl)
theorem kZ (v0 v1 v2 : Int) (v3 v4 v5 v6 : D) : VP (.int v0) (.int v1) (.int v2) v3 v4 v5 v6 =
  cond (v0 < v1) (
 .row [.int 1, (.int 0)]) (
 cond (v2 < v0) (
 .row [.int 1, (.int v2)]) (
 Hw (.int v0) (.int 0) v3 v4 v5 v6)) := gw rfl rfl rfl
theorem fV (v0 v1 : Int) (v2 v3 v4 v5 : D) {F0 F1 F2 : D} (h0 : YL (sb v5 0 v1) (cl v5 v1 0) (cl v5 v1 1) (cl v5 v1 2) (cl v5 v1 3) (cl v5 v1 4) (cl v5 v1 5) (cl v5 v1 6) (cl v5 v1 7) (cl v5 v1 8) = F0) (h1 : VJ v4 (cl v5 v1 5) = F1) (h2 : I3 v3 (cl v5 v1 0) = F2) : Hw (.int v0) (.int v1) v2 v3 v4 v5 =
  cond (v1 < v0) (
 cond (v1 < 0) (
 .row []) (
 cond (v1 < len v5) (
 cond ((cl v5 v1 2).toInt = 1) (
 cond ((sl F2 0).toInt = 1) (
 cond ((sl F1 0).toInt = 1) (
 cond ((sl F2 1).toInt < 0) (
 .row [.int 1, (.int v1)]) (
 cond ((sl (I3 v3 (cl v5 v1 1)) 0).toInt = 1) (
 cond ((sl (I3 v3 (cl v5 v1 1)) 1).toInt < 0) (
 .row [.int 1, (.int v1)]) (
 cond (len v5 < v1) (
 .row []) (
 cond ((sl F0 0).toInt = 1) (
 cond ((sl F0 1).toInt < 0) (
 cond ((sl F2 1).toInt < len v3) (
 cond ((sl (Gj (cl v5 v1 3)) 0).toInt = 1) (
 cond ((sl (Gj (cl v5 v1 3)) 1).toBool) (
 cond ((sl (Gj (cl v5 v1 4)) 0).toInt = 1) (
 cond ((sl (Gj (cl v5 v1 4)) 1).toBool) (
 cond (D.strEq (cl v5 v1 4) v2) (
 .row [.int 1, (.int v1)]) (
 cond (eqC (cl v5 v1 5) 0 0) (
 cond ((cl v5 v1 6).toInt = 0) (
 cond ((cl v5 v1 7).toInt = 0) (
 cond ((cl v5 v1 8).toInt = 0) (
 Hw (.int v0) (.int (IntKind.wrap .i64 (v1 + 1))) v2 v3 v4 v5) (
 .row [.int 1, (.int v1)])) (
 .row [.int 1, (.int v1)])) (
 .row [.int 1, (.int v1)])) (
 cond ((sl F1 1).toInt < 0) (
 .row [.int 1, (.int v1)]) (
 cond ((cl v5 v1 6).toInt < 0) (
 .row [.int 1, (.int v1)]) (
 cond ((cl v5 v1 7).toInt < (cl v5 v1 6).toInt) (
 .row [.int 1, (.int v1)]) (
 cond ((cl v5 v1 8).toInt < (-1000)) (
 .row [.int 1, (.int v1)]) (
 cond (1000 < (cl v5 v1 8).toInt) (
 .row [.int 1, (.int v1)]) (
 cond ((sl F1 1).toInt < len v4) (
 cond ((cl v4 (sl F1 1).toInt 1).toInt < (cl v5 v1 7).toInt) (
 .row [.int 1, (.int v1)]) (
 cond ((IntKind.wrap .i64 ((cl v5 v1 6).toInt + (cl v5 v1 8).toInt)) < 0) (
 .row [.int 1, (.int v1)]) (
 cond ((cl v4 (sl F1 1).toInt 1).toInt < (IntKind.wrap .i64 ((cl v5 v1 7).toInt + (cl v5 v1 8).toInt))) (
 .row [.int 1, (.int v1)]) (
 Hw (.int v0) (.int (IntKind.wrap .i64 (v1 + 1))) v2 v3 v4 v5)))) (
 .row []))))))))) (
 .row [.int 1, (.int v1)])) (
 .row [])) (
 .row [.int 1, (.int v1)])) (
 .row [])) (
 .row [])) (
 .row [.int 1, (.int v1)])) (
 .row [])))) (
 .row []))) (
 .row [])) (
 .row [])) (
 cond ((cl v5 v1 2).toInt = 2) (
 cond ((sl F2 0).toInt = 1) (
 cond ((sl F1 0).toInt = 1) (
 cond ((sl F2 1).toInt < 0) (
 .row [.int 1, (.int v1)]) (
 cond ((sl (I3 v3 (cl v5 v1 1)) 0).toInt = 1) (
 cond ((sl (I3 v3 (cl v5 v1 1)) 1).toInt < 0) (
 .row [.int 1, (.int v1)]) (
 cond (len v5 < v1) (
 .row []) (
 cond ((sl F0 0).toInt = 1) (
 cond ((sl F0 1).toInt < 0) (
 cond ((sl F2 1).toInt < len v3) (
 cond ((sl (Gj (cl v5 v1 3)) 0).toInt = 1) (
 cond ((sl (Gj (cl v5 v1 3)) 1).toBool) (
 cond ((sl (Gj (cl v5 v1 4)) 0).toInt = 1) (
 cond ((sl (Gj (cl v5 v1 4)) 1).toBool) (
 cond (D.strEq (cl v5 v1 4) v2) (
 .row [.int 1, (.int v1)]) (
 cond (eqC (cl v5 v1 5) 0 0) (
 cond ((cl v5 v1 6).toInt = 0) (
 cond ((cl v5 v1 7).toInt = 0) (
 cond ((cl v5 v1 8).toInt = 0) (
 Hw (.int v0) (.int (IntKind.wrap .i64 (v1 + 1))) v2 v3 v4 v5) (
 .row [.int 1, (.int v1)])) (
 .row [.int 1, (.int v1)])) (
 .row [.int 1, (.int v1)])) (
 cond ((sl F1 1).toInt < 0) (
 .row [.int 1, (.int v1)]) (
 cond ((cl v5 v1 6).toInt < 0) (
 .row [.int 1, (.int v1)]) (
 cond ((cl v5 v1 7).toInt < (cl v5 v1 6).toInt) (
 .row [.int 1, (.int v1)]) (
 cond ((cl v5 v1 8).toInt < (-1000)) (
 .row [.int 1, (.int v1)]) (
 cond (1000 < (cl v5 v1 8).toInt) (
 .row [.int 1, (.int v1)]) (
 cond ((sl F1 1).toInt < len v4) (
 cond ((cl v4 (sl F1 1).toInt 1).toInt < (cl v5 v1 7).toInt) (
 .row [.int 1, (.int v1)]) (
 cond ((IntKind.wrap .i64 ((cl v5 v1 6).toInt + (cl v5 v1 8).toInt)) < 0) (
 .row [.int 1, (.int v1)]) (
 cond ((cl v4 (sl F1 1).toInt 1).toInt < (IntKind.wrap .i64 ((cl v5 v1 7).toInt + (cl v5 v1 8).toInt))) (
 .row [.int 1, (.int v1)]) (
 Hw (.int v0) (.int (IntKind.wrap .i64 (v1 + 1))) v2 v3 v4 v5)))) (
 .row []))))))))) (
 .row [.int 1, (.int v1)])) (
 .row [])) (
 .row [.int 1, (.int v1)])) (
 .row [])) (
 .row [])) (
 .row [.int 1, (.int v1)])) (
 .row [])))) (
 .row []))) (
 .row [])) (
 .row [])) (
 cond ((cl v5 v1 2).toInt = 3) (
 cond ((sl F2 0).toInt = 1) (
 cond ((sl F1 0).toInt = 1) (
 cond ((sl F2 1).toInt < 0) (
 .row [.int 1, (.int v1)]) (
 cond ((sl (I3 v3 (cl v5 v1 1)) 0).toInt = 1) (
 cond ((sl (I3 v3 (cl v5 v1 1)) 1).toInt < 0) (
 .row [.int 1, (.int v1)]) (
 cond (len v5 < v1) (
 .row []) (
 cond ((sl F0 0).toInt = 1) (
 cond ((sl F0 1).toInt < 0) (
 cond ((sl F2 1).toInt < len v3) (
 cond (0 < (cl v3 (sl F2 1).toInt 2).toInt) (
 cond ((A3 (cl v5 v1 3) : Int) < 4611686018427387904) (
 cond ((A3 (cl v5 v1 4) : Int) < 4611686018427387904) (
 cond (eqC (WW (cl v5 v1 3) (cl v5 v1 4)) 0 0) (
 cond (eqC (cl v5 v1 5) 0 0) (
 cond ((cl v5 v1 6).toInt = 0) (
 cond ((cl v5 v1 7).toInt = 0) (
 cond ((cl v5 v1 8).toInt = 0) (
 Hw (.int v0) (.int (IntKind.wrap .i64 (v1 + 1))) v2 v3 v4 v5) (
 .row [.int 1, (.int v1)])) (
 .row [.int 1, (.int v1)])) (
 .row [.int 1, (.int v1)])) (
 cond ((sl F1 1).toInt < 0) (
 .row [.int 1, (.int v1)]) (
 cond ((cl v5 v1 6).toInt < 0) (
 .row [.int 1, (.int v1)]) (
 cond ((cl v5 v1 7).toInt < (cl v5 v1 6).toInt) (
 .row [.int 1, (.int v1)]) (
 cond ((cl v5 v1 8).toInt < (-1000)) (
 .row [.int 1, (.int v1)]) (
 cond (1000 < (cl v5 v1 8).toInt) (
 .row [.int 1, (.int v1)]) (
 cond ((sl F1 1).toInt < len v4) (
 cond ((cl v4 (sl F1 1).toInt 1).toInt < (cl v5 v1 7).toInt) (
 .row [.int 1, (.int v1)]) (
 cond ((IntKind.wrap .i64 ((cl v5 v1 6).toInt + (cl v5 v1 8).toInt)) < 0) (
 .row [.int 1, (.int v1)]) (
 cond ((cl v4 (sl F1 1).toInt 1).toInt < (IntKind.wrap .i64 ((cl v5 v1 7).toInt + (cl v5 v1 8).toInt))) (
 .row [.int 1, (.int v1)]) (
 Hw (.int v0) (.int (IntKind.wrap .i64 (v1 + 1))) v2 v3 v4 v5)))) (
 .row [])))))))) (
 .row [.int 1, (.int v1)])) (
 .row [])) (
 .row [])) (
 .row [.int 1, (.int v1)])) (
 .row [])) (
 .row [.int 1, (.int v1)])) (
 .row [])))) (
 .row []))) (
 .row [])) (
 .row [])) (
 cond ((cl v5 v1 2).toInt = 4) (
 cond ((sl F2 0).toInt = 1) (
 cond ((sl F1 0).toInt = 1) (
 cond ((sl F2 1).toInt < 0) (
 .row [.int 1, (.int v1)]) (
 cond ((sl (I3 v3 (cl v5 v1 1)) 0).toInt = 1) (
 cond ((sl (I3 v3 (cl v5 v1 1)) 1).toInt < 0) (
 .row [.int 1, (.int v1)]) (
 cond (len v5 < v1) (
 .row []) (
 cond ((sl F0 0).toInt = 1) (
 cond ((sl F0 1).toInt < 0) (
 cond ((sl F2 1).toInt < len v3) (
 cond ((A3 (cl v5 v1 3) : Int) < 4611686018427387904) (
 cond ((A3 (cl v5 v1 4) : Int) < 4611686018427387904) (
 cond (eqC (WW (cl v5 v1 3) (cl v5 v1 4)) 0 0) (
 cond (eqC (cl v5 v1 5) 0 0) (
 cond ((cl v5 v1 6).toInt = 0) (
 cond ((cl v5 v1 7).toInt = 0) (
 cond ((cl v5 v1 8).toInt = 0) (
 Hw (.int v0) (.int (IntKind.wrap .i64 (v1 + 1))) v2 v3 v4 v5) (
 .row [.int 1, (.int v1)])) (
 .row [.int 1, (.int v1)])) (
 .row [.int 1, (.int v1)])) (
 cond ((sl F1 1).toInt < 0) (
 .row [.int 1, (.int v1)]) (
 cond ((cl v5 v1 6).toInt < 0) (
 .row [.int 1, (.int v1)]) (
 cond ((cl v5 v1 7).toInt < (cl v5 v1 6).toInt) (
 .row [.int 1, (.int v1)]) (
 cond ((cl v5 v1 8).toInt < (-1000)) (
 .row [.int 1, (.int v1)]) (
 cond (1000 < (cl v5 v1 8).toInt) (
 .row [.int 1, (.int v1)]) (
 cond ((sl F1 1).toInt < len v4) (
 cond ((cl v4 (sl F1 1).toInt 1).toInt < (cl v5 v1 7).toInt) (
 .row [.int 1, (.int v1)]) (
 cond ((IntKind.wrap .i64 ((cl v5 v1 6).toInt + (cl v5 v1 8).toInt)) < 0) (
 .row [.int 1, (.int v1)]) (
 cond ((cl v4 (sl F1 1).toInt 1).toInt < (IntKind.wrap .i64 ((cl v5 v1 7).toInt + (cl v5 v1 8).toInt))) (
 .row [.int 1, (.int v1)]) (
 Hw (.int v0) (.int (IntKind.wrap .i64 (v1 + 1))) v2 v3 v4 v5)))) (
 .row [])))))))) (
 .row [.int 1, (.int v1)])) (
 .row [])) (
 .row [])) (
 .row [])) (
 .row [.int 1, (.int v1)])) (
 .row [])))) (
 .row []))) (
 .row [])) (
 .row [])) (
 cond ((sl F2 0).toInt = 1) (
 cond ((sl F1 0).toInt = 1) (
 .row [.int 1, (.int v1)]) (
 .row [])) (
 .row [])))))) (
 .row []))) (
 .row [.int 1, (.int (-1))]) := by
  subst h0; subst h1; subst h2; exact gw rfl rfl (cL (cL rfl (cL (cQ (cQ (cQ (cL rfl (cQ (cL rfl (cL rfl (cQ (cL (cL (cQ (cg rfl (cQ (cg rfl (cg rfl rfl (cg rfl (cQ (cQ (cQ rfl rfl) rfl) rfl) (cL rfl (cL rfl (cL rfl (cL rfl (cL rfl rfl))))))) rfl) rfl) rfl) rfl) rfl) rfl) rfl))) rfl)) rfl) rfl) (cQ (cQ (cQ (cL rfl (cQ (cL rfl (cL rfl (cQ (cL (cL (cQ (cg rfl (cQ (cg rfl (cg rfl rfl (cg rfl (cQ (cQ (cQ rfl rfl) rfl) rfl) (cL rfl (cL rfl (cL rfl (cL rfl (cL rfl rfl))))))) rfl) rfl) rfl) rfl) rfl) rfl) rfl))) rfl)) rfl) rfl) (cQ (cQ (cQ (cL rfl (cQ (cL rfl (cL rfl (cQ (cL (cL (cL (cL (cL (cg rfl (cg rfl (cQ (cQ (cQ rfl rfl) rfl) rfl) (cL rfl (cL rfl (cL rfl (cL rfl (cL rfl rfl)))))) rfl) rfl) rfl) rfl) rfl) rfl) rfl))) rfl)) rfl) rfl) (cQ (cQ (cQ (cL rfl (cQ (cL rfl (cL rfl (cQ (cL (cL (cL (cL (cg rfl (cg rfl (cQ (cQ (cQ rfl rfl) rfl) rfl) (cL rfl (cL rfl (cL rfl (cL rfl (cL rfl rfl)))))) rfl) rfl) rfl) rfl) rfl) rfl))) rfl)) rfl) rfl) (cQ (cQ rfl rfl) rfl))))) rfl)) rfl)
theorem lA (v0 v1 v2 v3 : D) : V8 v0 v1 v2 v3 =
  cond ((sl (Gj v0) 0).toInt = 1) (
 cond ((sl (Gj v0) 1).toBool) (
 cond ((sl (UZ (.int (len v2 : Int)) (.int 0) (.int 4) v0 v1 v2 v3) 0).toInt = 1) (
 cond ((sl (UZ (.int (len v2 : Int)) (.int 0) (.int 4) v0 v1 v2 v3) 1).toInt < 0) (
 cond ((sl (Vq (.int (len v1 : Int)) (.int 1) (.int 24) v0 v1 v2 v3) 0).toInt = 1) (
 cond ((sl (Vq (.int (len v1 : Int)) (.int 1) (.int 24) v0 v1 v2 v3) 1).toInt < 0) (
 cond ((sl (VP (.int (len v3 : Int)) (.int 0) (.int 80) v0 v1 v2 v3) 0).toInt = 1) (
 cond ((sl (VP (.int (len v3 : Int)) (.int 0) (.int 80) v0 v1 v2 v3) 1).toInt < 0) (
 .row [.int 1, (.int 0), (.int 0)]) (
 .row [.int 1, (sl (VP (.int (len v3 : Int)) (.int 0) (.int 80) v0 v1 v2 v3) 1), (.int 293)])) (
 .row [])) (
 .row [.int 1, (sl (Vq (.int (len v1 : Int)) (.int 1) (.int 24) v0 v1 v2 v3) 1), (.int 292)])) (
 .row [])) (
 .row [.int 1, (sl (UZ (.int (len v2 : Int)) (.int 0) (.int 4) v0 v1 v2 v3) 1), (.int 291)])) (
 .row [])) (
 .row [.int 1, (.int 0), (.int 290)])) (
 .row []) := gw rfl rfl (cQ (cg rfl (cQ (cL (cQ (cL (cQ rfl rfl) rfl) rfl) rfl) rfl) rfl) rfl)
theorem fe (v0 : D) (v1 : Bool) (v2 : D) : DB v0 (.bool v1) v2 =
 RZ v0 (.bool v1) (.int 0) v2 := gw rfl rfl rfl
theorem eR (v0 : D) (v1 : Bool) (v2 : Int) (v3 : D) : RZ v0 (.bool v1) (.int v2) v3 =
  cond (v2 < len v0) (
 cond (v2 < 0) (
 .row []) (
 cond (D.strEq (cl v0 v2 0) v3) (
 .row [.int 1, (.int v2)]) (
 RZ v0 (.bool v1) (.int (IntKind.wrap .i64 (v2 + 1))) v3))) (
 .row [.int 1, (.int (-1))]) := gw rfl rfl rfl
theorem g0 (v0 : D) : Cy v0 =
  cond (4 < (len v0 : Int)) (
 .row []) (
 Rq v0 (.int 0) Ay (.bool true)) := gw rfl rfl rfl
theorem XV (v0 : D) (v1 : Int) (v2 : D) (v3 : Bool) : Rq v0 (.int v1) v2 (.bool v3) =
  cond (v1 < len v0) (
 cond (v1 < 0) (
 .row []) (
 cond (eqC (cl v0 v1 0) 0 0) (
 .row []) (
 cond ((cl v0 v1 1).toInt < 1) (
 .row []) (
 cond (1000 < (cl v0 v1 1).toInt) (
 .row []) (
 cond ((sl (DB v2 (.bool v3) (cl v0 v1 0)) 0).toInt = 1) (
 cond ((sl (DB v2 (.bool v3) (cl v0 v1 0)) 1).toInt < 0) (
 cond ((len v2 : Int) < 1073741824) (
 Rq v0 (.int (IntKind.wrap .i64 (v1 + 1))) (ad v2 (.row [(cl v0 v1 0), (cl v0 v1 1), (.int 0)])) (.bool false)) (
 .row [])) (
 .row [])) (
 .row [])))))) (
 .row [.int 1, v2, (.bool v3)]) := gw rfl rfl (cL (cL rfl (cg rfl rfl (cL rfl (cL rfl (cQ (cL (cL rfl rfl) rfl) rfl))))) rfl)
theorem fj (v0 : D) : Ct v0 =
  cond (v0.isNil) (
 .row [.int 1, Ay, (.bool true)]) (
 cond ((len v0 : Int) < 1048576) (
 .row [.int 1, (ct Ax v0), (.bool false)]) (
 .row [])) := gw rfl rfl (cg rfl rfl (cL rfl rfl))
theorem cD (v0 : D) : Cz v0 =
  cond (v0.isNil) (
 .row [.int 1, Ay, (.bool true)]) (
 cond ((len v0 : Int) < 1048576) (
 .row [.int 1, (ct Ax v0), (.bool false)]) (
 .row [])) := gw rfl rfl (cg rfl rfl (cL rfl rfl))
theorem ip (v0 : D) : Cw v0 =
  cond (v0.isNil) (
 .row [.int 1, Ay, (.bool true)]) (
 cond ((len v0 : Int) < 1048576) (
 .row [.int 1, (ct Ax v0), (.bool false)]) (
 .row [])) := gw rfl rfl (cg rfl rfl (cL rfl rfl))
theorem gK (v0 : D) (v1 : Bool) (v2 : D) : DJ v0 (.bool v1) v2 =
 PJ Ay (.bool true) v0 (.bool v1) (.int 0) v2 := gw rfl rfl rfl
theorem Ym (v0 : D) (v1 : Bool) (v2 : D) (v3 : Bool) (v4 : Int) (v5 : D) : PJ v0 (.bool v1) v2 (.bool v3) (.int v4) v5 =
  cond (v4 < len v2) (
 cond (v4 < 0) (
 .row []) (
 cond (D.strEq (cl v2 v4 0) v5) (
 cond ((len v0 : Int) < 1073741824) (
 PJ (ad v0 (.row [(cl v2 v4 0), (cl v2 v4 1), (cl v2 v4 2)])) (.bool false) v2 (.bool v3) (.int (IntKind.wrap .i64 (v4 + 1))) v5) (
 .row [])) (
 PJ v0 (.bool v1) v2 (.bool v3) (.int (IntKind.wrap .i64 (v4 + 1))) v5))) (
 .row [.int 1, v0, (.bool v1)]) := gw rfl rfl (cL (cL rfl (cg rfl (cL rfl rfl) rfl)) rfl)
theorem VS (v0 : Int) (v1 v2 v3 : D) (v4 : Bool) (v5 : Int) : G1 (.int v0) v1 v2 v3 (.bool v4) (.int v5) =
  cond (v5 < 0) (
 .row [.int 1, (.int 0), (.int 2)]) (
 cond (v5 < 256) (
 cond (v2.toBool) (
 .row [.int 1, (.int 0), (.int 9)]) (
 cond ((mIx [.int .i64] v1 (.row [(.int v5)])) < 0) (
 .row [.int 1, (.int 0), (.int 9)]) (
 .row [.int 1, (.int (IntKind.wrap .i64 ((cl v1 (mIx [.int .i64] v1 (.row [(.int v5)])) 1).toInt - v0))), (.int 0)]))) (
 .row [.int 1, (.int 0), (.int 2)])) := gw rfl rfl rfl
theorem XS (v0 : Int) (v1 v2 v3 : D) (v4 : Bool) (v5 : Int) : If (.int v0) v1 v2 v3 (.bool v4) (.int v5) =
  cond ((sl (G1 (.int v0) v1 v2 v3 (.bool v4) (.int v5)) 0).toInt = 1) (
 cond ((sl (G1 (.int v0) v1 v2 v3 (.bool v4) (.int v5)) 2).toInt = 0) (
 cond (v2.toBool) (
 .row [.int 1, (.int 0), v1]) (
 cond ((mIx [.int .i64] v1 (.row [(.int v5)])) < 0) (
 .row [.int 1, (.int 0), v1]) (
 .row [.int 1, (.int 0), (JU v1 (mIx [.int .i64] v1 (.row [(.int v5)])))]))) (
 .row [.int 1, (sl (G1 (.int v0) v1 v2 v3 (.bool v4) (.int v5)) 2), v1])) (
 .row []) := gw rfl rfl (cQ (cQ rfl rfl) rfl)
theorem dI (v0 : Int) (v1 v2 v3 : D) (v4 : Bool) (v5 v6 : Int) : Ew (.int v0) v1 v2 v3 (.bool v4) (.int v5) (.int v6) =
  cond ((len v3 : Int) < 1073741824) (
 Jx (.int (IntKind.wrap .i64 ((len (ad v3 (.row [(.int v5), (.int v6)])) : Int) - 1))) (.int v0) v2 (ad v3 (.row [(.int v5), (.int v6)])) (.bool false) v1) (
 .row []) := gw rfl rfl (cL rfl rfl)
theorem X4 (v0 v1 : Int) (v2 v3 : D) (v4 : Bool) (v5 : D) : Jx (.int v0) (.int v1) v2 v3 (.bool v4) v5 =
  cond (0 < v0) (
 cond ((ari .quo .i64 (IntKind.wrap .i64 (v0 - 1)) 2) < 0) (
 .row []) (
 cond ((ari .quo .i64 (IntKind.wrap .i64 (v0 - 1)) 2) < (len v3 : Int)) (
 cond (v0 < len v3) (
 cond ((cl v3 (ari .quo .i64 (IntKind.wrap .i64 (v0 - 1)) 2) 0).toInt < (cl v3 v0 0).toInt) (
 cond ((cl v3 (ari .quo .i64 (IntKind.wrap .i64 (v0 - 1)) 2) 1).toInt < (cl v3 v0 1).toInt) (
 .row [.int 1, v3, (.bool v4)]) (
 cond ((cl v3 v0 1).toInt < (cl v3 (ari .quo .i64 (IntKind.wrap .i64 (v0 - 1)) 2) 1).toInt) (
 .row [.int 1, v3, (.bool v4)]) (
 .row [.int 1, v3, (.bool v4)]))) (
 cond ((cl v3 v0 0).toInt < (cl v3 (ari .quo .i64 (IntKind.wrap .i64 (v0 - 1)) 2) 0).toInt) (
 cond ((cl v3 (ari .quo .i64 (IntKind.wrap .i64 (v0 - 1)) 2) 1).toInt < (cl v3 v0 1).toInt) (
 Jx (.int (ari .quo .i64 (IntKind.wrap .i64 (v0 - 1)) 2)) (.int v1) v2 (upd (upd (upd (upd v3 (ari .quo .i64 (IntKind.wrap .i64 (v0 - 1)) 2) 0 (cl v3 v0 0)) (ari .quo .i64 (IntKind.wrap .i64 (v0 - 1)) 2) 1 (cl v3 v0 1)) v0 0 (cl v3 (ari .quo .i64 (IntKind.wrap .i64 (v0 - 1)) 2) 0)) v0 1 (cl v3 (ari .quo .i64 (IntKind.wrap .i64 (v0 - 1)) 2) 1)) (.bool v4) v5) (
 cond ((cl v3 v0 1).toInt < (cl v3 (ari .quo .i64 (IntKind.wrap .i64 (v0 - 1)) 2) 1).toInt) (
 Jx (.int (ari .quo .i64 (IntKind.wrap .i64 (v0 - 1)) 2)) (.int v1) v2 (upd (upd (upd (upd v3 (ari .quo .i64 (IntKind.wrap .i64 (v0 - 1)) 2) 0 (cl v3 v0 0)) (ari .quo .i64 (IntKind.wrap .i64 (v0 - 1)) 2) 1 (cl v3 v0 1)) v0 0 (cl v3 (ari .quo .i64 (IntKind.wrap .i64 (v0 - 1)) 2) 0)) v0 1 (cl v3 (ari .quo .i64 (IntKind.wrap .i64 (v0 - 1)) 2) 1)) (.bool v4) v5) (
 Jx (.int (ari .quo .i64 (IntKind.wrap .i64 (v0 - 1)) 2)) (.int v1) v2 (upd (upd (upd (upd v3 (ari .quo .i64 (IntKind.wrap .i64 (v0 - 1)) 2) 0 (cl v3 v0 0)) (ari .quo .i64 (IntKind.wrap .i64 (v0 - 1)) 2) 1 (cl v3 v0 1)) v0 0 (cl v3 (ari .quo .i64 (IntKind.wrap .i64 (v0 - 1)) 2) 0)) v0 1 (cl v3 (ari .quo .i64 (IntKind.wrap .i64 (v0 - 1)) 2) 1)) (.bool v4) v5))) (
 cond ((cl v3 (ari .quo .i64 (IntKind.wrap .i64 (v0 - 1)) 2) 1).toInt < (cl v3 v0 1).toInt) (
 .row [.int 1, v3, (.bool v4)]) (
 cond ((cl v3 v0 1).toInt < (cl v3 (ari .quo .i64 (IntKind.wrap .i64 (v0 - 1)) 2) 1).toInt) (
 Jx (.int (ari .quo .i64 (IntKind.wrap .i64 (v0 - 1)) 2)) (.int v1) v2 (upd (upd (upd (upd v3 (ari .quo .i64 (IntKind.wrap .i64 (v0 - 1)) 2) 0 (cl v3 v0 0)) (ari .quo .i64 (IntKind.wrap .i64 (v0 - 1)) 2) 1 (cl v3 v0 1)) v0 0 (cl v3 (ari .quo .i64 (IntKind.wrap .i64 (v0 - 1)) 2) 0)) v0 1 (cl v3 (ari .quo .i64 (IntKind.wrap .i64 (v0 - 1)) 2) 1)) (.bool v4) v5) (
 .row [.int 1, v3, (.bool v4)]))))) (
 .row [])) (
 .row []))) (
 .row [.int 1, v3, (.bool v4)]) := gw rfl rfl rfl
theorem cZ (v0 : Int) (v1 v2 v3 : D) (v4 : Bool) (v5 v6 : Int) : LE (.int v0) v1 v2 v3 (.bool v4) (.int v5) (.int v6) =
  cond (v5 < 0) (
 .row [.int 1, (.int 2), v2, v3, (.bool v4), v1]) (
 cond (v5 < 256) (
 cond (v6 < 0) (
 .row [.int 1, (.int 3), v2, v3, (.bool v4), v1]) (
 cond ((IntKind.wrap .i64 (1099511627776 - v0)) < v6) (
 .row [.int 1, (.int 3), v2, v3, (.bool v4), v1]) (
 cond (v2.toBool) (
 cond ((sl (Ew (.int v0) (ad Ax (.row [(.int v5), (.int (IntKind.wrap .i64 (v0 + v6)))])) (.bool false) v3 (.bool v4) (.int (IntKind.wrap .i64 (v0 + v6))) (.int v5)) 0).toInt = 1) (
 .row [.int 1, (.int 0), (.bool false), (sl (Ew (.int v0) (ad Ax (.row [(.int v5), (.int (IntKind.wrap .i64 (v0 + v6)))])) (.bool false) v3 (.bool v4) (.int (IntKind.wrap .i64 (v0 + v6))) (.int v5)) 1), (sl (Ew (.int v0) (ad Ax (.row [(.int v5), (.int (IntKind.wrap .i64 (v0 + v6)))])) (.bool false) v3 (.bool v4) (.int (IntKind.wrap .i64 (v0 + v6))) (.int v5)) 2), (ad Ax (.row [(.int v5), (.int (IntKind.wrap .i64 (v0 + v6)))]))]) (
 .row [])) (
 cond ((mIx [.int .i64] v1 (.row [(.int v5)])) < 0) (
 cond ((sl (Ew (.int v0) (ad v1 (.row [(.int v5), (.int (IntKind.wrap .i64 (v0 + v6)))])) v2 v3 (.bool v4) (.int (IntKind.wrap .i64 (v0 + v6))) (.int v5)) 0).toInt = 1) (
 .row [.int 1, (.int 0), v2, (sl (Ew (.int v0) (ad v1 (.row [(.int v5), (.int (IntKind.wrap .i64 (v0 + v6)))])) v2 v3 (.bool v4) (.int (IntKind.wrap .i64 (v0 + v6))) (.int v5)) 1), (sl (Ew (.int v0) (ad v1 (.row [(.int v5), (.int (IntKind.wrap .i64 (v0 + v6)))])) v2 v3 (.bool v4) (.int (IntKind.wrap .i64 (v0 + v6))) (.int v5)) 2), (ad v1 (.row [(.int v5), (.int (IntKind.wrap .i64 (v0 + v6)))]))]) (
 .row [])) (
 cond ((sl (Ew (.int v0) (upd v1 (mIx [.int .i64] v1 (.row [(.int v5)])) 1 (.int (IntKind.wrap .i64 (v0 + v6)))) v2 v3 (.bool v4) (.int (IntKind.wrap .i64 (v0 + v6))) (.int v5)) 0).toInt = 1) (
 .row [.int 1, (.int 0), v2, (sl (Ew (.int v0) (upd v1 (mIx [.int .i64] v1 (.row [(.int v5)])) 1 (.int (IntKind.wrap .i64 (v0 + v6)))) v2 v3 (.bool v4) (.int (IntKind.wrap .i64 (v0 + v6))) (.int v5)) 1), (sl (Ew (.int v0) (upd v1 (mIx [.int .i64] v1 (.row [(.int v5)])) 1 (.int (IntKind.wrap .i64 (v0 + v6)))) v2 v3 (.bool v4) (.int (IntKind.wrap .i64 (v0 + v6))) (.int v5)) 2), (upd v1 (mIx [.int .i64] v1 (.row [(.int v5)])) 1 (.int (IntKind.wrap .i64 (v0 + v6))))]) (
 .row [])))))) (
 .row [.int 1, (.int 2), v2, v3, (.bool v4), v1])) := gw rfl rfl (cL rfl (cL (cL rfl (cL rfl (cg rfl (cQ rfl rfl) (cL (cQ rfl rfl) (cQ rfl rfl))))) rfl))
theorem X9 (v0 : D) (v1 : Bool) (v2 v3 : D) (v4 : Bool) (v5 : D) (v6 : Bool) (v7 : D) (v8 : Bool) (v9 : D) (v10 : Bool) (v11 v12 : Int) (v13 v14 v15 : D) (v16 v17 : Bool) (v18 : D) (v19 : Bool) (v20 : D) : Da v0 (.bool v1) v2 v3 (.bool v4) v5 (.bool v6) v7 (.bool v8) v9 (.bool v10) (.int v11) (.int v12) v13 v14 v15 (.bool v16) (.bool v17) v18 (.bool v19) v20 =
  cond ((sl (DJ v3 (.bool v4) v20) 0).toInt = 1) (
 cond (0 < (len (sl (DJ v3 (.bool v4) v20) 1) : Int)) (
 cond ((sl (If (.int v12) v13 v14 v15 (.bool v16) (.int 0)) 0).toInt = 1) (
 cond (0 < (cl (sl (DJ v3 (.bool v4) v20) 1) 0 2).toInt) (
 cond ((sl (LE (.int v12) (sl (If (.int v12) v13 v14 v15 (.bool v16) (.int 0)) 2) v14 v15 (.bool v16) (.int 0) (cl (sl (DJ v3 (.bool v4) v20) 1) 0 2)) 0).toInt = 1) (
 .row [.int 1, (cl (sl (DJ v3 (.bool v4) v20) 1) 0 0), (cl (sl (DJ v3 (.bool v4) v20) 1) 0 1), (cl (sl (DJ v3 (.bool v4) v20) 1) 0 2), (sl (LE (.int v12) (sl (If (.int v12) v13 v14 v15 (.bool v16) (.int 0)) 2) v14 v15 (.bool v16) (.int 0) (cl (sl (DJ v3 (.bool v4) v20) 1) 0 2)) 2), (sl (LE (.int v12) (sl (If (.int v12) v13 v14 v15 (.bool v16) (.int 0)) 2) v14 v15 (.bool v16) (.int 0) (cl (sl (DJ v3 (.bool v4) v20) 1) 0 2)) 3), (sl (LE (.int v12) (sl (If (.int v12) v13 v14 v15 (.bool v16) (.int 0)) 2) v14 v15 (.bool v16) (.int 0) (cl (sl (DJ v3 (.bool v4) v20) 1) 0 2)) 4), (sl (LE (.int v12) (sl (If (.int v12) v13 v14 v15 (.bool v16) (.int 0)) 2) v14 v15 (.bool v16) (.int 0) (cl (sl (DJ v3 (.bool v4) v20) 1) 0 2)) 5)]) (
 .row [])) (
 .row [.int 1, (cl (sl (DJ v3 (.bool v4) v20) 1) 0 0), (cl (sl (DJ v3 (.bool v4) v20) 1) 0 1), (cl (sl (DJ v3 (.bool v4) v20) 1) 0 2), v14, v15, (.bool v16), (sl (If (.int v12) v13 v14 v15 (.bool v16) (.int 0)) 2)])) (
 .row [])) (
 .row [])) (
 .row []) := gw rfl rfl (cQ (cL (cQ (cL (cQ rfl rfl) rfl) rfl) rfl) rfl)
theorem Yn (v0 v1 v2 v3 : D) : Ca v0 v1 v2 v3 =
  cond ((sl (V8 v0 v1 v2 v3) 0).toInt = 1) (
 cond ((sl (V8 v0 v1 v2 v3) 2).toInt = 0) (
 cond ((sl (Cy v2) 0).toInt = 1) (
 cond ((sl (Ct v1) 0).toInt = 1) (
 cond ((sl (Cz v2) 0).toInt = 1) (
 cond ((sl (Cw v3) 0).toInt = 1) (
 cond (0 < (len v1 : Int)) (
 cond ((sl (Da (sl (Cy v2) 1) (sl (Cy v2) 2) v0 (sl (Ct v1) 1) (sl (Ct v1) 2) (sl (Cz v2) 1) (sl (Cz v2) 2) (sl (Cw v3) 1) (sl (Cw v3) 2) (HZ 0 0) (.bool false) (.int 0) (.int 0) Ax (.bool true) Ay (.bool true) (.bool false) Ay (.bool true) (cl v1 0 0)) 0).toInt = 1) (
 .row [.int 1, v0, (sl (Ct v1) 1), (sl (Ct v1) 2), (sl (Cz v2) 1), (sl (Cz v2) 2), (sl (Cw v3) 1), (sl (Cw v3) 2), (sl (Da (sl (Cy v2) 1) (sl (Cy v2) 2) v0 (sl (Ct v1) 1) (sl (Ct v1) 2) (sl (Cz v2) 1) (sl (Cz v2) 2) (sl (Cw v3) 1) (sl (Cw v3) 2) (HZ 0 0) (.bool false) (.int 0) (.int 0) Ax (.bool true) Ay (.bool true) (.bool false) Ay (.bool true) (cl v1 0 0)) 1), (sl (Da (sl (Cy v2) 1) (sl (Cy v2) 2) v0 (sl (Ct v1) 1) (sl (Ct v1) 2) (sl (Cz v2) 1) (sl (Cz v2) 2) (sl (Cw v3) 1) (sl (Cw v3) 2) (HZ 0 0) (.bool false) (.int 0) (.int 0) Ax (.bool true) Ay (.bool true) (.bool false) Ay (.bool true) (cl v1 0 0)) 2), (sl (Da (sl (Cy v2) 1) (sl (Cy v2) 2) v0 (sl (Ct v1) 1) (sl (Ct v1) 2) (sl (Cz v2) 1) (sl (Cz v2) 2) (sl (Cw v3) 1) (sl (Cw v3) 2) (HZ 0 0) (.bool false) (.int 0) (.int 0) Ax (.bool true) Ay (.bool true) (.bool false) Ay (.bool true) (cl v1 0 0)) 3), Ay, (sl (Cy v2) 1), (sl (Cy v2) 2), (sl (Da (sl (Cy v2) 1) (sl (Cy v2) 2) v0 (sl (Ct v1) 1) (sl (Ct v1) 2) (sl (Cz v2) 1) (sl (Cz v2) 2) (sl (Cw v3) 1) (sl (Cw v3) 2) (HZ 0 0) (.bool false) (.int 0) (.int 0) Ax (.bool true) Ay (.bool true) (.bool false) Ay (.bool true) (cl v1 0 0)) 4), (sl (Da (sl (Cy v2) 1) (sl (Cy v2) 2) v0 (sl (Ct v1) 1) (sl (Ct v1) 2) (sl (Cz v2) 1) (sl (Cz v2) 2) (sl (Cw v3) 1) (sl (Cw v3) 2) (HZ 0 0) (.bool false) (.int 0) (.int 0) Ax (.bool true) Ay (.bool true) (.bool false) Ay (.bool true) (cl v1 0 0)) 5), (sl (Da (sl (Cy v2) 1) (sl (Cy v2) 2) v0 (sl (Ct v1) 1) (sl (Ct v1) 2) (sl (Cz v2) 1) (sl (Cz v2) 2) (sl (Cw v3) 1) (sl (Cw v3) 2) (HZ 0 0) (.bool false) (.int 0) (.int 0) Ax (.bool true) Ay (.bool true) (.bool false) Ay (.bool true) (cl v1 0 0)) 6), (sl (Da (sl (Cy v2) 1) (sl (Cy v2) 2) v0 (sl (Ct v1) 1) (sl (Ct v1) 2) (sl (Cz v2) 1) (sl (Cz v2) 2) (sl (Cw v3) 1) (sl (Cw v3) 2) (HZ 0 0) (.bool false) (.int 0) (.int 0) Ax (.bool true) Ay (.bool true) (.bool false) Ay (.bool true) (cl v1 0 0)) 7)]) (
 .row [])) (
 .row [])) (
 .row [])) (
 .row [])) (
 .row [])) (
 .row [])) (
 .row [.int 2, (sl (V8 v0 v1 v2 v3) 2)])) (
 .row []) := gw rfl rfl (cQ (cQ (cQ (cQ (cQ (cQ (cL (cQ rfl rfl) rfl) rfl) rfl) rfl) rfl) rfl) rfl)
theorem Yx (v0 : D) : Dc v0 =
  cond ((A3 v0 : Int) < 1) (
 .row [.int 1, (.bool false)]) (
 cond (32 < (A3 v0 : Int)) (
 .row [.int 1, (.bool false)]) (
 cond ((sAt v0 0) = 95) (
 .row [.int 1, (.bool false)]) (
 cond ((sAt v0 0) < 48) (
 Jy v0 (.int 0)) (
 cond (57 < (sAt v0 0)) (
 Jy v0 (.int 0)) (
 .row [.int 1, (.bool false)]))))) := gw rfl rfl (cL rfl (cL rfl (cQ rfl rfl)))
theorem Vh (v0 : D) (v1 : Int) : Jy v0 (.int v1) =
  cond (v1 < (A3 v0 : Int)) (
 cond (v1 < 0) (
 .row []) (
 cond ((sAt v0 v1) < 97) (
 cond ((sAt v0 v1) < 65) (
 cond ((sAt v0 v1) < 48) (
 .row [.int 1, (.bool false)]) (
 cond (57 < (sAt v0 v1)) (
 .row [.int 1, (.bool false)]) (
 Jy v0 (.int (IntKind.wrap .i64 (v1 + 1)))))) (
 cond (90 < (sAt v0 v1)) (
 cond ((sAt v0 v1) = 95) (
 Jy v0 (.int (IntKind.wrap .i64 (v1 + 1)))) (
 .row [.int 1, (.bool false)])) (
 Jy v0 (.int (IntKind.wrap .i64 (v1 + 1)))))) (
 cond (122 < (sAt v0 v1)) (
 .row [.int 1, (.bool false)]) (
 Jy v0 (.int (IntKind.wrap .i64 (v1 + 1))))))) (
 .row [.int 1, (.bool true)]) := gw rfl rfl (cL (cL rfl (cL (cL rfl (cL (cQ rfl rfl) rfl)) rfl)) rfl)
theorem cz (v0 v1 v2 v3 v4 : D) : HI v0 v1 v2 v3 v4 =
 RE v4 (.int 0) v0 v1 v2 v3 := gw rfl rfl rfl
theorem gj (v0 : D) (v1 : Int) (v2 v3 v4 v5 : D) : RE v0 (.int v1) v2 v3 v4 v5 =
  cond (v1 < len v4) (
 cond (v1 < 0) (
 .row []) (
 cond (D.strEq (cl v4 v1 0) v0) (
 .row [.int 1, (.int v1)]) (
 RE v0 (.int (IntKind.wrap .i64 (v1 + 1))) v2 v3 v4 v5))) (
 .row [.int 1, (.int (-1))]) := gw rfl rfl rfl
theorem dz (v0 v1 v2 v3 v4 : D) : G9 v0 v1 v2 v3 v4 =
 R1 v4 (.int 0) v0 v1 v2 v3 := gw rfl rfl rfl
theorem io (v0 : D) (v1 : Int) (v2 v3 v4 v5 : D) : R1 v0 (.int v1) v2 v3 v4 v5 =
  cond (v1 < len v3) (
 cond (v1 < 0) (
 .row []) (
 cond (D.strEq (cl v3 v1 0) v0) (
 .row [.int 1, (.int v1)]) (
 R1 v0 (.int (IntKind.wrap .i64 (v1 + 1))) v2 v3 v4 v5))) (
 .row [.int 1, (.int (-1))]) := gw rfl rfl rfl
theorem ej (v0 v1 v2 v3 : D) (v4 : Int) : RM v0 v1 v2 v3 (.int v4) =
  cond (v4 < 0) (
 .row []) (
 cond (v4 < len v3) (
 cond ((sl (G9 v0 v1 v2 v3 (cl v3 v4 0)) 0).toInt = 1) (
 cond ((sl (G9 v0 v1 v2 v3 (cl v3 v4 0)) 1).toInt < 0) (
 .row [.int 1, (.bool false)]) (
 cond ((sl (G9 v0 v1 v2 v3 (cl v3 v4 1)) 0).toInt = 1) (
 cond ((sl (G9 v0 v1 v2 v3 (cl v3 v4 1)) 1).toInt < 0) (
 .row [.int 1, (.bool false)]) (
 cond (eqC (cl v3 v4 5) 0 0) (
 cond ((cl v3 v4 6).toInt = 0) (
 cond ((cl v3 v4 7).toInt = 0) (
 cond ((cl v3 v4 8).toInt = 0) (
 FL (.int v4) (sl (G9 v0 v1 v2 v3 (cl v3 v4 0)) 1) (.int 0) v0 v1 v2 v3 (cl v3 v4 0) (cl v3 v4 1) (cl v3 v4 2) (cl v3 v4 3) (cl v3 v4 4) (cl v3 v4 5) (cl v3 v4 6) (cl v3 v4 7) (cl v3 v4 8)) (
 .row [.int 1, (.bool false)])) (
 .row [.int 1, (.bool false)])) (
 .row [.int 1, (.bool false)])) (
 cond ((sl (HI v0 v1 v2 v3 (cl v3 v4 5)) 0).toInt = 1) (
 cond ((sl (HI v0 v1 v2 v3 (cl v3 v4 5)) 1).toInt < 0) (
 .row [.int 1, (.bool false)]) (
 cond ((cl v3 v4 6).toInt < 0) (
 .row [.int 1, (.bool false)]) (
 cond ((cl v3 v4 7).toInt < (cl v3 v4 6).toInt) (
 .row [.int 1, (.bool false)]) (
 cond ((sl (HI v0 v1 v2 v3 (cl v3 v4 5)) 1).toInt < len v2) (
 cond ((cl v2 (sl (HI v0 v1 v2 v3 (cl v3 v4 5)) 1).toInt 1).toInt < (cl v3 v4 7).toInt) (
 .row [.int 1, (.bool false)]) (
 cond ((cl v3 v4 8).toInt < (-1000)) (
 .row [.int 1, (.bool false)]) (
 cond (1000 < (cl v3 v4 8).toInt) (
 .row [.int 1, (.bool false)]) (
 cond ((IntKind.wrap .i64 ((cl v3 v4 6).toInt + (cl v3 v4 8).toInt)) < 0) (
 .row [.int 1, (.bool false)]) (
 cond ((cl v2 (sl (HI v0 v1 v2 v3 (cl v3 v4 5)) 1).toInt 1).toInt < (IntKind.wrap .i64 ((cl v3 v4 7).toInt + (cl v3 v4 8).toInt))) (
 .row [.int 1, (.bool false)]) (
 FL (.int v4) (sl (G9 v0 v1 v2 v3 (cl v3 v4 0)) 1) (.int 0) v0 v1 v2 v3 (cl v3 v4 0) (cl v3 v4 1) (cl v3 v4 2) (cl v3 v4 3) (cl v3 v4 4) (cl v3 v4 5) (cl v3 v4 6) (cl v3 v4 7) (cl v3 v4 8))))))) (
 .row []))))) (
 .row [])))) (
 .row []))) (
 .row [])) (
 .row [])) := gw rfl rfl (cL rfl (cL (cQ (cL rfl (cQ (cL rfl (cg rfl (cQ (cQ (cQ rfl rfl) rfl) rfl) (cQ (cL rfl (cL rfl (cL rfl (cL (cL rfl (cL rfl (cL rfl rfl))) rfl)))) rfl))) rfl)) rfl) rfl))
theorem Yg (v0 v1 v2 : Int) (v3 v4 v5 v6 v7 v8 : D) (v9 : Int) (v10 v11 v12 : D) (v13 v14 v15 : Int) : FL (.int v0) (.int v1) (.int v2) v3 v4 v5 v6 v7 v8 (.int v9) v10 v11 v12 (.int v13) (.int v14) (.int v15) =
  cond (v2 < v0) (
 cond (v2 < 0) (
 .row []) (
 cond (v2 < len v6) (
 cond ((D.strEq (cl v6 v2 0) v7 && (D.strEq (cl v6 v2 1) v8 && (decide ((cl v6 v2 2).toInt = v9) && (D.strEq (cl v6 v2 3) v10 && (D.strEq (cl v6 v2 4) v11 && (D.strEq (cl v6 v2 5) v12 && (decide ((cl v6 v2 6).toInt = v13) && (decide ((cl v6 v2 7).toInt = v14) && decide ((cl v6 v2 8).toInt = v15)))))))))) (
 .row [.int 1, (.bool false)]) (
 FL (.int v0) (.int v1) (.int (IntKind.wrap .i64 (v2 + 1))) v3 v4 v5 v6 v7 v8 (.int v9) v10 v11 v12 (.int v13) (.int v14) (.int v15))) (
 .row []))) (
 cond (v9 = 1) (
 cond ((sl (Dc v10) 0).toInt = 1) (
 cond ((sl (Dc v10) 1).toBool) (
 cond ((sl (Dc v11) 0).toInt = 1) (
 cond ((sl (Dc v11) 1).toBool) (
 .row [.int 1, (.bool (!D.strEq v11 v3))]) (
 .row [.int 1, (.bool false)])) (
 .row [])) (
 .row [.int 1, (.bool false)])) (
 .row [])) (
 cond (v9 = 2) (
 cond ((sl (Dc v10) 0).toInt = 1) (
 cond ((sl (Dc v10) 1).toBool) (
 cond ((sl (Dc v11) 0).toInt = 1) (
 cond ((sl (Dc v11) 1).toBool) (
 .row [.int 1, (.bool (!D.strEq v11 v3))]) (
 .row [.int 1, (.bool false)])) (
 .row [])) (
 .row [.int 1, (.bool false)])) (
 .row [])) (
 cond (v9 = 3) (
 cond (eqC v10 0 0) (
 cond (eqC v11 0 0) (
 cond (v1 < 0) (
 .row []) (
 cond (v1 < len v4) (
 .row [.int 1, (.bool (decide (0 < (cl v4 v1 2).toInt)))]) (
 .row []))) (
 .row [.int 1, (.bool false)])) (
 .row [.int 1, (.bool false)])) (
 cond (v9 = 4) (
 cond (eqC v10 0 0) (
 .row [.int 1, (.bool (eqC v11 0 0))]) (
 .row [.int 1, (.bool false)])) (
 .row [.int 1, (.bool false)]))))) := gw rfl rfl (cL (cL rfl (cL (cg (aE rfl (aE rfl (aE (qE rfl rfl) (aE rfl (aE rfl (aE rfl (aE (qE rfl rfl) (aE (qE rfl rfl) (qE rfl rfl))))))))) rfl rfl) rfl)) (cQ (cQ (cg rfl (cQ rfl rfl) rfl) rfl) (cQ (cQ (cg rfl (cQ rfl rfl) rfl) rfl) (cQ rfl (cQ rfl rfl)))))
theorem aO (v0 v1 v2 v3 : D) : PK v0 v1 v2 v3 =
  cond ((sl (Dc v0) 0).toInt = 1) (
 cond ((sl (Dc v0) 1).toBool) (
 cond (4 < (len v2 : Int)) (
 .row [.int 1, (.int 4), (.int 291)]) (
 JO (.int 0) v0 v1 v2 v3)) (
 .row [.int 1, (.int 0), (.int 290)])) (
 .row []) := gw rfl rfl (cQ rfl rfl)
theorem XT (v0 : Int) (v1 v2 v3 v4 : D) : JO (.int v0) v1 v2 v3 v4 =
  cond (v0 < len v3) (
 cond (v0 < 0) (
 .row []) (
 cond ((sl (Dc (cl v3 v0 0)) 0).toInt = 1) (
 cond ((sl (Dc (cl v3 v0 0)) 1).toBool) (
 cond ((sl (HI v1 v2 v3 v4 (cl v3 v0 0)) 0).toInt = 1) (
 cond ((sl (HI v1 v2 v3 v4 (cl v3 v0 0)) 1).toInt = v0) (
 cond ((cl v3 v0 1).toInt < 1) (
 .row [.int 1, (.int v0), (.int 291)]) (
 cond (1000 < (cl v3 v0 1).toInt) (
 .row [.int 1, (.int v0), (.int 291)]) (
 JO (.int (IntKind.wrap .i64 (v0 + 1))) v1 v2 v3 v4))) (
 .row [.int 1, (.int v0), (.int 291)])) (
 .row [])) (
 .row [.int 1, (.int v0), (.int 291)])) (
 .row []))) (
 cond ((len v2 : Int) = 0) (
 .row [.int 1, (.int 0), (.int 292)]) (
 cond (24 < (len v2 : Int)) (
 .row [.int 1, (.int 24), (.int 292)]) (
 Jn (.int 0) v1 v2 v3 v4))) := gw rfl rfl (cL (cL rfl (cQ (cg rfl (cQ (cQ (cL rfl (cL rfl rfl)) rfl) rfl) rfl) rfl)) (cQ rfl rfl))
theorem Yv (v0 : Int) (v1 v2 v3 v4 : D) : Jn (.int v0) v1 v2 v3 v4 =
  cond (v0 < len v2) (
 cond (v0 < 0) (
 .row []) (
 cond ((sl (Dc (cl v2 v0 0)) 0).toInt = 1) (
 cond ((sl (Dc (cl v2 v0 0)) 1).toBool) (
 cond ((sl (G9 v1 v2 v3 v4 (cl v2 v0 0)) 0).toInt = 1) (
 cond ((sl (G9 v1 v2 v3 v4 (cl v2 v0 0)) 1).toInt = v0) (
 cond ((cl v2 v0 2).toInt < 0) (
 .row [.int 1, (.int v0), (.int 292)]) (
 cond (1048576 < (cl v2 v0 2).toInt) (
 .row [.int 1, (.int v0), (.int 292)]) (
 Jn (.int (IntKind.wrap .i64 (v0 + 1))) v1 v2 v3 v4))) (
 .row [.int 1, (.int v0), (.int 292)])) (
 .row [])) (
 .row [.int 1, (.int v0), (.int 292)])) (
 .row []))) (
 cond (80 < (len v4 : Int)) (
 .row [.int 1, (.int 80), (.int 293)]) (
 JP (.int 0) v1 v2 v3 v4)) := gw rfl rfl (cL (cL rfl (cQ (cg rfl (cQ (cQ (cL rfl (cL rfl rfl)) rfl) rfl) rfl) rfl)) rfl)
theorem Yk (v0 : Int) (v1 v2 v3 v4 : D) : JP (.int v0) v1 v2 v3 v4 =
  cond (v0 < len v4) (
 cond ((sl (RM v1 v2 v3 v4 (.int v0)) 0).toInt = 1) (
 cond ((sl (RM v1 v2 v3 v4 (.int v0)) 1).toBool) (
 JP (.int (IntKind.wrap .i64 (v0 + 1))) v1 v2 v3 v4) (
 .row [.int 1, (.int v0), (.int 293)])) (
 .row [])) (
 .row [.int 1, (.int 0), (.int 0)]) := gw rfl rfl (cL (cQ rfl rfl) rfl)
theorem cr (v0 : D) : O1 v0 =
  cond (4 < (len v0 : Int)) (
 .row [.int 1, Ay, Ay, (.int 2)]) (
 OA v0 (.int 0) Ay (.bool true) Ay (.bool true)) := gw rfl rfl rfl
theorem X8 (v0 : D) (v1 : Int) (v2 : D) (v3 : Bool) (v4 : D) (v5 : Bool) : OA v0 (.int v1) v2 (.bool v3) v4 (.bool v5) =
  cond (v1 < len v0) (
 cond (v1 < 0) (
 .row []) (
 cond (eqC (cl v0 v1 0) 0 0) (
 .row [.int 1, Ay, Ay, (.int 2)]) (
 cond ((cl v0 v1 1).toInt < 1) (
 .row [.int 1, Ay, Ay, (.int 2)]) (
 cond (1000 < (cl v0 v1 1).toInt) (
 .row [.int 1, Ay, Ay, (.int 2)]) (
 RU v0 (.int v1) (.int 0) v2 (.bool v3) v4 (.bool v5)))))) (
 .row [.int 1, (ni v2 v3), (ni v4 v5), (.int 0)]) := gw rfl rfl (cL (cL rfl (cg rfl rfl (cL rfl (cL rfl rfl)))) rfl)
theorem Yj (v0 : D) (v1 v2 : Int) (v3 : D) (v4 : Bool) (v5 : D) (v6 : Bool) : RU v0 (.int v1) (.int v2) v3 (.bool v4) v5 (.bool v6) =
  cond (v2 < v1) (
 cond (v2 < 0) (
 .row []) (
 cond (v2 < len v0) (
 cond (v1 < 0) (
 .row []) (
 cond (v1 < len v0) (
 cond (D.strEq (cl v0 v2 0) (cl v0 v1 0)) (
 .row [.int 1, Ay, Ay, (.int 2)]) (
 RU v0 (.int v1) (.int (IntKind.wrap .i64 (v2 + 1))) v3 (.bool v4) v5 (.bool v6))) (
 .row []))) (
 .row []))) (
 cond (v1 < 0) (
 .row []) (
 cond (v1 < len v0) (
 cond ((len v3 : Int) < 1073741824) (
 cond ((len v5 : Int) < 1073741824) (
 OA v0 (.int (IntKind.wrap .i64 (v1 + 1))) (ad v3 (.row [(cl v0 v1 0), (cl v0 v1 1)])) (.bool false) (ad v5 (.row [(.int 0)])) (.bool false)) (
 .row [])) (
 .row [])) (
 .row []))) := gw rfl rfl (cL rfl (cL rfl (cL (cL (cL rfl rfl) rfl) rfl)))
theorem XP (v0 v1 v2 v3 : D) : DU v0 v1 v2 v3 =
  cond ((sl (PK v0 v1 v2 v3) 0).toInt = 1) (
 cond ((sl (PK v0 v1 v2 v3) 2).toInt = 0) (
 cond ((sl (O1 v2) 0).toInt = 1) (
 cond (0 < (len v1 : Int)) (
 .row [.int 1, v0, v1, v2, v3, (cl v1 0 0), (sl (O1 v2) 1), (sl (O1 v2) 2), (.int 0)]) (
 .row [])) (
 .row [])) (
 .row [.int 1, (HZ 0 0), Ay, Ay, Ay, (HZ 0 0), Ay, Ay, (sl (PK v0 v1 v2 v3) 2)])) (
 .row []) := gw rfl rfl (cQ (cQ (cQ rfl rfl) rfl) rfl)
theorem cS (v0 : D) (v1 : Bool) : JG v0 (.bool v1) =
  cond (v1) (
 .row [.int 1, Ay, (.bool true)]) (
 cond ((len v0 : Int) < 1048576) (
 .row [.int 1, (ct Ax v0), (.bool false)]) (
 .row [])) := gw rfl rfl (cg rfl rfl (cL rfl rfl))
theorem aN (v0 : Int) (v1 v2 v3 : D) (v4 : Bool) : FM (.int v0) v1 v2 v3 (.bool v4) =
  cond (v2.toBool) (
 cond ((sl (JG v3 (.bool v4)) 0).toInt = 1) (
 .row [.int 1, (.int v0), (.bool true), (sl (JG v3 (.bool v4)) 1), (sl (JG v3 (.bool v4)) 2), Ax]) (
 .row [])) (
 cond ((sl (JG v3 (.bool v4)) 0).toInt = 1) (
 .row [.int 1, (.int v0), (.bool false), (sl (JG v3 (.bool v4)) 1), (sl (JG v3 (.bool v4)) 2), v1]) (
 .row [])) := gw rfl rfl (cg rfl (cQ rfl rfl) (cQ rfl rfl))
theorem i7 (v0 : Int) (v1 v2 v3 : D) (v4 : Bool) : FY (.int v0) v1 v2 v3 (.bool v4) =
  cond ((IntKind.wrap .i64 ((len v3 : Int) - 1)) < 0) (
 .row []) (
 cond ((IntKind.wrap .i64 ((len v3 : Int) - 1)) < (len v3 : Int)) (
 cond (0 < (len v3 : Int)) (
 cond ((len (upd (upd v3 0 0 (cl v3 (IntKind.wrap .i64 ((len v3 : Int) - 1)) 0)) 0 1 (cl v3 (IntKind.wrap .i64 ((len v3 : Int) - 1)) 1)) : Int) < (IntKind.wrap .i64 ((len v3 : Int) - 1))) (
 .row []) (
 RF (.int (IntKind.wrap .i64 ((len v3 : Int) - 1))) (.int 0) (.int v0) v2 (sb (upd (upd v3 0 0 (cl v3 (IntKind.wrap .i64 ((len v3 : Int) - 1)) 0)) 0 1 (cl v3 (IntKind.wrap .i64 ((len v3 : Int) - 1)) 1)) 0 (IntKind.wrap .i64 ((len v3 : Int) - 1))) (.bool v4) v1)) (
 .row [])) (
 .row [])) := gw rfl rfl rfl
theorem Yl (v0 v1 v2 : Int) (v3 v4 : D) (v5 : Bool) (v6 : D) : RF (.int v0) (.int v1) (.int v2) v3 v4 (.bool v5) v6 =
 Bz (.int v0) (.int v1) (.int v1) (.int 0) (.int v2) v3 v4 (.bool v5) v6 (.int (IntKind.wrap .i64 ((IntKind.wrap .i64 (2 * v1)) + 1))) (.int (IntKind.wrap .i64 ((IntKind.wrap .i64 (2 * v1)) + 2))) := gw rfl rfl rfl
theorem Rf (v0 v1 v2 v3 v4 : Int) (v5 v6 : D) (v7 : Bool) (v8 : D) (v9 v10 : Int) : Bz (.int v0) (.int v1) (.int v2) (.int v3) (.int v4) v5 v6 (.bool v7) v8 (.int v9) (.int v10) =
  cond (v3 < 2) (
 cond (v3 = 0) (
 cond (v9 < v0) (
 cond (v9 < 0) (
 .row []) (
 cond (v9 < len v6) (
 cond (v2 < 0) (
 .row []) (
 cond (v2 < len v6) (
 cond ((cl v6 v9 0).toInt < (cl v6 v2 0).toInt) (
 cond ((cl v6 v9 1).toInt < (cl v6 v2 1).toInt) (
 Bz (.int v0) (.int v1) (.int v9) (.int (IntKind.wrap .i64 (v3 + 1))) (.int v4) v5 v6 (.bool v7) v8 (.int v9) (.int v10)) (
 cond ((cl v6 v2 1).toInt < (cl v6 v9 1).toInt) (
 Bz (.int v0) (.int v1) (.int v9) (.int (IntKind.wrap .i64 (v3 + 1))) (.int v4) v5 v6 (.bool v7) v8 (.int v9) (.int v10)) (
 Bz (.int v0) (.int v1) (.int v9) (.int (IntKind.wrap .i64 (v3 + 1))) (.int v4) v5 v6 (.bool v7) v8 (.int v9) (.int v10)))) (
 cond ((cl v6 v2 0).toInt < (cl v6 v9 0).toInt) (
 cond ((cl v6 v9 1).toInt < (cl v6 v2 1).toInt) (
 Bz (.int v0) (.int v1) (.int v2) (.int (IntKind.wrap .i64 (v3 + 1))) (.int v4) v5 v6 (.bool v7) v8 (.int v9) (.int v10)) (
 cond ((cl v6 v2 1).toInt < (cl v6 v9 1).toInt) (
 Bz (.int v0) (.int v1) (.int v2) (.int (IntKind.wrap .i64 (v3 + 1))) (.int v4) v5 v6 (.bool v7) v8 (.int v9) (.int v10)) (
 Bz (.int v0) (.int v1) (.int v2) (.int (IntKind.wrap .i64 (v3 + 1))) (.int v4) v5 v6 (.bool v7) v8 (.int v9) (.int v10)))) (
 cond ((cl v6 v9 1).toInt < (cl v6 v2 1).toInt) (
 Bz (.int v0) (.int v1) (.int v9) (.int (IntKind.wrap .i64 (v3 + 1))) (.int v4) v5 v6 (.bool v7) v8 (.int v9) (.int v10)) (
 cond ((cl v6 v2 1).toInt < (cl v6 v9 1).toInt) (
 Bz (.int v0) (.int v1) (.int v2) (.int (IntKind.wrap .i64 (v3 + 1))) (.int v4) v5 v6 (.bool v7) v8 (.int v9) (.int v10)) (
 Bz (.int v0) (.int v1) (.int v2) (.int (IntKind.wrap .i64 (v3 + 1))) (.int v4) v5 v6 (.bool v7) v8 (.int v9) (.int v10)))))) (
 .row []))) (
 .row []))) (
 Bz (.int v0) (.int v1) (.int v2) (.int (IntKind.wrap .i64 (v3 + 1))) (.int v4) v5 v6 (.bool v7) v8 (.int v9) (.int v10))) (
 cond (v3 = 1) (
 cond (v10 < v0) (
 cond (v10 < 0) (
 .row []) (
 cond (v10 < len v6) (
 cond (v2 < 0) (
 .row []) (
 cond (v2 < len v6) (
 cond ((cl v6 v10 0).toInt < (cl v6 v2 0).toInt) (
 cond ((cl v6 v10 1).toInt < (cl v6 v2 1).toInt) (
 Bz (.int v0) (.int v1) (.int v10) (.int (IntKind.wrap .i64 (v3 + 1))) (.int v4) v5 v6 (.bool v7) v8 (.int v9) (.int v10)) (
 cond ((cl v6 v2 1).toInt < (cl v6 v10 1).toInt) (
 Bz (.int v0) (.int v1) (.int v10) (.int (IntKind.wrap .i64 (v3 + 1))) (.int v4) v5 v6 (.bool v7) v8 (.int v9) (.int v10)) (
 Bz (.int v0) (.int v1) (.int v10) (.int (IntKind.wrap .i64 (v3 + 1))) (.int v4) v5 v6 (.bool v7) v8 (.int v9) (.int v10)))) (
 cond ((cl v6 v2 0).toInt < (cl v6 v10 0).toInt) (
 cond ((cl v6 v10 1).toInt < (cl v6 v2 1).toInt) (
 Bz (.int v0) (.int v1) (.int v2) (.int (IntKind.wrap .i64 (v3 + 1))) (.int v4) v5 v6 (.bool v7) v8 (.int v9) (.int v10)) (
 cond ((cl v6 v2 1).toInt < (cl v6 v10 1).toInt) (
 Bz (.int v0) (.int v1) (.int v2) (.int (IntKind.wrap .i64 (v3 + 1))) (.int v4) v5 v6 (.bool v7) v8 (.int v9) (.int v10)) (
 Bz (.int v0) (.int v1) (.int v2) (.int (IntKind.wrap .i64 (v3 + 1))) (.int v4) v5 v6 (.bool v7) v8 (.int v9) (.int v10)))) (
 cond ((cl v6 v10 1).toInt < (cl v6 v2 1).toInt) (
 Bz (.int v0) (.int v1) (.int v10) (.int (IntKind.wrap .i64 (v3 + 1))) (.int v4) v5 v6 (.bool v7) v8 (.int v9) (.int v10)) (
 cond ((cl v6 v2 1).toInt < (cl v6 v10 1).toInt) (
 Bz (.int v0) (.int v1) (.int v2) (.int (IntKind.wrap .i64 (v3 + 1))) (.int v4) v5 v6 (.bool v7) v8 (.int v9) (.int v10)) (
 Bz (.int v0) (.int v1) (.int v2) (.int (IntKind.wrap .i64 (v3 + 1))) (.int v4) v5 v6 (.bool v7) v8 (.int v9) (.int v10)))))) (
 .row []))) (
 .row []))) (
 Bz (.int v0) (.int v1) (.int v2) (.int (IntKind.wrap .i64 (v3 + 1))) (.int v4) v5 v6 (.bool v7) v8 (.int v9) (.int v10))) (
 .row []))) (
 cond (v2 = v1) (
 .row [.int 1, v6, (.bool v7)]) (
 cond (v2 < 0) (
 .row []) (
 cond (v2 < len v6) (
 cond (v1 < 0) (
 .row []) (
 cond (v1 < len v6) (
 RF (.int v0) (.int v2) (.int v4) v5 (upd (upd (upd (upd v6 v1 0 (cl v6 v2 0)) v1 1 (cl v6 v2 1)) v2 0 (cl v6 v1 0)) v2 1 (cl v6 v1 1)) (.bool v7) v8) (
 .row []))) (
 .row [])))) := gw rfl rfl (cL (cQ rfl (cQ rfl rfl)) (cQ rfl rfl))
theorem Rg (v0 : Int) (v1 v2 v3 : D) (v4 : Bool) : Bo (.int v0) v1 v2 v3 (.bool v4) =
 JL (.int v0) v2 v3 (.bool v4) v1 := gw rfl rfl rfl
theorem UX (v0 : Int) (v1 v2 : D) (v3 : Bool) (v4 : D) : JL (.int v0) v1 v2 (.bool v3) v4 =
  cond (0 < (len v2 : Int)) (
 cond (v1.toBool) (
 cond ((sl (FY (.int v0) v4 v1 v2 (.bool v3)) 0).toInt = 1) (
 JL (.int v0) v1 (sl (FY (.int v0) v4 v1 v2 (.bool v3)) 1) (sl (FY (.int v0) v4 v1 v2 (.bool v3)) 2) v4) (
 .row [])) (
 cond ((mIx [.int .i64] v4 (.row [(cl v2 0 1)])) < 0) (
 cond ((sl (FY (.int v0) v4 v1 v2 (.bool v3)) 0).toInt = 1) (
 JL (.int v0) v1 (sl (FY (.int v0) v4 v1 v2 (.bool v3)) 1) (sl (FY (.int v0) v4 v1 v2 (.bool v3)) 2) v4) (
 .row [])) (
 cond ((cl v4 (mIx [.int .i64] v4 (.row [(cl v2 0 1)])) 1).toInt = (cl v2 0 0).toInt) (
 .row [.int 1, (cl v2 0 0), (cl v2 0 1), (.bool true), v2, (.bool v3)]) (
 cond ((sl (FY (.int v0) v4 v1 v2 (.bool v3)) 0).toInt = 1) (
 JL (.int v0) v1 (sl (FY (.int v0) v4 v1 v2 (.bool v3)) 1) (sl (FY (.int v0) v4 v1 v2 (.bool v3)) 2) v4) (
 .row []))))) (
 .row [.int 1, (.int 0), (.int 0), (.bool false), v2, (.bool v3)]) := gw rfl rfl (cL (cg rfl (cQ rfl rfl) (cL (cQ rfl rfl) (cQ rfl (cQ rfl rfl)))) rfl)
theorem bP (v0 : Int) (v1 v2 v3 : D) (v4 : Bool) (v5 : Int) : LU (.int v0) v1 v2 v3 (.bool v4) (.int v5) =
  cond (1099511627776 < v5) (
 .row [.int 1, Ay, (.bool true), (.int 3), (.int v0), v3, (.bool v4), v1]) (
 cond (v0 < v5) (
 cond ((sl (Bo (.int v5) v1 v2 v3 (.bool v4)) 0).toInt = 1) (
 Lg Ay (.bool true) (sl (Bo (.int v5) v1 v2 v3 (.bool v4)) 3) (.int v5) v2 (sl (Bo (.int v5) v1 v2 v3 (.bool v4)) 4) (sl (Bo (.int v5) v1 v2 v3 (.bool v4)) 5) v1 (sl (Bo (.int v5) v1 v2 v3 (.bool v4)) 1) (sl (Bo (.int v5) v1 v2 v3 (.bool v4)) 2)) (
 .row [])) (
 cond ((sl (Bo (.int v0) v1 v2 v3 (.bool v4)) 0).toInt = 1) (
 Lg Ay (.bool true) (sl (Bo (.int v0) v1 v2 v3 (.bool v4)) 3) (.int v0) v2 (sl (Bo (.int v0) v1 v2 v3 (.bool v4)) 4) (sl (Bo (.int v0) v1 v2 v3 (.bool v4)) 5) v1 (sl (Bo (.int v0) v1 v2 v3 (.bool v4)) 1) (sl (Bo (.int v0) v1 v2 v3 (.bool v4)) 2)) (
 .row []))) := gw rfl rfl (cL rfl (cL (cQ rfl rfl) (cQ rfl rfl)))
theorem Rh (v0 : D) (v1 v2 : Bool) (v3 : Int) (v4 v5 : D) (v6 : Bool) (v7 : D) (v8 v9 : Int) : Lg v0 (.bool v1) (.bool v2) (.int v3) v4 v5 (.bool v6) v7 (.int v8) (.int v9) =
  cond (v2) (
 cond (v3 < v8) (
 .row [.int 1, v0, (.bool v1), (.int 0), (.int v3), v5, (.bool v6), v7]) (
 cond ((len v0 : Int) < 1073741824) (
 cond (v4.toBool) (
 cond ((sl (Bo (.int v3) v7 v4 v5 (.bool v6)) 0).toInt = 1) (
 Lg (ad v0 (.row [(.int v9)])) (.bool false) (sl (Bo (.int v3) v7 v4 v5 (.bool v6)) 3) (.int v3) v4 (sl (Bo (.int v3) v7 v4 v5 (.bool v6)) 4) (sl (Bo (.int v3) v7 v4 v5 (.bool v6)) 5) v7 (sl (Bo (.int v3) v7 v4 v5 (.bool v6)) 1) (sl (Bo (.int v3) v7 v4 v5 (.bool v6)) 2)) (
 .row [])) (
 cond ((mIx [.int .i64] v7 (.row [(.int v9)])) < 0) (
 cond ((sl (Bo (.int v3) v7 v4 v5 (.bool v6)) 0).toInt = 1) (
 Lg (ad v0 (.row [(.int v9)])) (.bool false) (sl (Bo (.int v3) v7 v4 v5 (.bool v6)) 3) (.int v3) v4 (sl (Bo (.int v3) v7 v4 v5 (.bool v6)) 4) (sl (Bo (.int v3) v7 v4 v5 (.bool v6)) 5) v7 (sl (Bo (.int v3) v7 v4 v5 (.bool v6)) 1) (sl (Bo (.int v3) v7 v4 v5 (.bool v6)) 2)) (
 .row [])) (
 cond ((sl (Bo (.int v3) (JU v7 (mIx [.int .i64] v7 (.row [(.int v9)]))) v4 v5 (.bool v6)) 0).toInt = 1) (
 Lg (ad v0 (.row [(.int v9)])) (.bool false) (sl (Bo (.int v3) (JU v7 (mIx [.int .i64] v7 (.row [(.int v9)]))) v4 v5 (.bool v6)) 3) (.int v3) v4 (sl (Bo (.int v3) (JU v7 (mIx [.int .i64] v7 (.row [(.int v9)]))) v4 v5 (.bool v6)) 4) (sl (Bo (.int v3) (JU v7 (mIx [.int .i64] v7 (.row [(.int v9)]))) v4 v5 (.bool v6)) 5) (JU v7 (mIx [.int .i64] v7 (.row [(.int v9)]))) (sl (Bo (.int v3) (JU v7 (mIx [.int .i64] v7 (.row [(.int v9)]))) v4 v5 (.bool v6)) 1) (sl (Bo (.int v3) (JU v7 (mIx [.int .i64] v7 (.row [(.int v9)]))) v4 v5 (.bool v6)) 2)) (
 .row [])))) (
 .row []))) (
 .row [.int 1, v0, (.bool v1), (.int 0), (.int v3), v5, (.bool v6), v7]) := gw rfl rfl (cg rfl (cL rfl (cL (cg rfl (cQ rfl rfl) (cL (cQ rfl rfl) (cQ rfl rfl))) rfl)) rfl)
theorem dQ (v0 : D) (v1 : Bool) : Dy v0 (.bool v1) =
  cond (v1) (
 .row [.int 1, Ay, (.bool true)]) (
 cond ((len v0 : Int) < 1048576) (
 .row [.int 1, (ct Ax v0), (.bool false)]) (
 .row [])) := gw rfl rfl (cg rfl rfl (cL rfl rfl))
theorem gM (v0 : D) (v1 : Bool) (v2 : D) : FN v0 (.bool v1) v2 =
  cond ((sl (DB v0 (.bool v1) v2) 0).toInt = 1) (
 cond ((sl (DB v0 (.bool v1) v2) 1).toInt < 0) (
 .row [.int 1, (.int 0), (.int 9)]) (
 cond ((sl (DB v0 (.bool v1) v2) 1).toInt < len v0) (
 .row [.int 1, (cl v0 (sl (DB v0 (.bool v1) v2) 1).toInt 2), (.int 0)]) (
 .row []))) (
 .row []) := gw rfl rfl (cQ rfl rfl)
theorem gd (v0 : D) (v1 : Bool) (v2 v3 : D) (v4 : Int) (v5 v6 v7 : D) (v8 v9 v10 : Int) : FO v0 (.bool v1) v2 v3 (.int v4) v5 v6 v7 (.int v8) (.int v9) (.int v10) =
  cond (eqC v7 0 0) (
 .row [.int 1, (.bool true), (.int 0)]) (
 cond ((sl (FN v0 (.bool v1) v7) 0).toInt = 1) (
 cond ((sl (FN v0 (.bool v1) v7) 2).toInt = 0) (
 cond ((sl (DB v0 (.bool v1) v7) 0).toInt = 1) (
 cond ((sl (DB v0 (.bool v1) v7) 1).toInt < 0) (
 .row []) (
 cond ((sl (DB v0 (.bool v1) v7) 1).toInt < len v0) (
 cond ((sl (FN v0 (.bool v1) v7) 1).toInt < v8) (
 .row [.int 1, (.bool false), (.int 0)]) (
 cond (v9 < (sl (FN v0 (.bool v1) v7) 1).toInt) (
 .row [.int 1, (.bool false), (.int 0)]) (
 cond (v10 < (IntKind.wrap .i64 (0 - (sl (FN v0 (.bool v1) v7) 1).toInt))) (
 .row [.int 1, (.bool false), (.int 0)]) (
 .row [.int 1, (.bool (!decide ((IntKind.wrap .i64 ((cl v0 (sl (DB v0 (.bool v1) v7) 1).toInt 1).toInt - (sl (FN v0 (.bool v1) v7) 1).toInt)) < v10))), (.int 0)])))) (
 .row []))) (
 .row [])) (
 .row [.int 1, (.bool false), (sl (FN v0 (.bool v1) v7) 2)])) (
 .row [])) := gw rfl rfl (cg rfl rfl (cQ (cQ (cQ rfl rfl) rfl) rfl))
theorem bx (v0 : D) (v1 : Bool) (v2 v3 : D) (v4 : Bool) (v5 : D) (v6 : Bool) (v7 : D) (v8 : Bool) (v9 : D) (v10 : Bool) (v11 v12 : Int) (v13 v14 v15 : D) (v16 v17 : Bool) (v18 : D) (v19 v20 : Bool) (v21 v22 : D) (v23 : Int) (v24 v25 v26 : D) (v27 v28 v29 : Int) : R6 v0 (.bool v1) v2 v3 (.bool v4) v5 (.bool v6) v7 (.bool v8) v9 (.bool v10) (.int v11) (.int v12) v13 v14 v15 (.bool v16) (.bool v17) v18 (.bool v19) (.bool v20) v21 v22 (.int v23) v24 v25 v26 (.int v27) (.int v28) (.int v29) =
 KL (.int 0) v2 v3 (.bool v4) v5 (.bool v6) v7 (.bool v8) v9 (.bool v10) (.int v11) (.bool v17) v18 (.bool v19) v0 (.bool v1) (.int v12) v14 v15 (.bool v16) v13 v21 v22 (.int v23) v24 v25 v26 (.int v27) (.int v28) (.int v29) (.bool v20) := gw rfl rfl rfl
theorem St (v0 : Int) (v1 v2 : D) (v3 : Bool) (v4 : D) (v5 : Bool) (v6 : D) (v7 : Bool) (v8 : D) (v9 : Bool) (v10 : Int) (v11 : Bool) (v12 : D) (v13 : Bool) (v14 : D) (v15 : Bool) (v16 : Int) (v17 v18 : D) (v19 : Bool) (v20 v21 v22 : D) (v23 : Int) (v24 v25 v26 : D) (v27 v28 v29 : Int) (v30 : Bool) : KL (.int v0) v1 v2 (.bool v3) v4 (.bool v5) v6 (.bool v7) v8 (.bool v9) (.int v10) (.bool v11) v12 (.bool v13) v14 (.bool v15) (.int v16) v17 v18 (.bool v19) v20 v21 v22 (.int v23) v24 v25 v26 (.int v27) (.int v28) (.int v29) (.bool v30) =
  cond (v0 < 3) (
 cond (v0 = 0) (
 cond (D.strEq v21 v8) (
 KL (.int (IntKind.wrap .i64 (v0 + 1))) v1 v2 (.bool v3) v4 (.bool v5) v6 (.bool v7) v8 (.bool v9) (.int v10) (.bool v11) v12 (.bool v13) v14 (.bool v15) (.int v16) v17 v18 (.bool v19) v20 v21 v22 (.int v23) v24 v25 v26 (.int v27) (.int v28) (.int v29) (.bool v30)) (
 .row [.int 1, (.bool false)])) (
 cond (v0 = 1) (
 cond ((sl (FO v14 (.bool v15) v21 v22 (.int v23) v24 v25 v26 (.int v27) (.int v28) (.int v29)) 0).toInt = 1) (
 cond ((sl (FO v14 (.bool v15) v21 v22 (.int v23) v24 v25 v26 (.int v27) (.int v28) (.int v29)) 1).toBool) (
 KL (.int (IntKind.wrap .i64 (v0 + 1))) v1 v2 (.bool v3) v4 (.bool v5) v6 (.bool v7) v8 (.bool v9) (.int v10) (.bool v11) v12 (.bool v13) v14 (.bool v15) (.int v16) v17 v18 (.bool v19) v20 v21 v22 (.int v23) v24 v25 v26 (.int v27) (.int v28) (.int v29) (.bool v30)) (
 .row [.int 1, (.bool false)])) (
 .row [])) (
 cond (v0 = 2) (
 cond (v23 = 3) (
 cond (v30) (
 KL (.int (IntKind.wrap .i64 (v0 + 1))) v1 v2 (.bool v3) v4 (.bool v5) v6 (.bool v7) v8 (.bool v9) (.int v10) (.bool v11) v12 (.bool v13) v14 (.bool v15) (.int v16) v17 v18 (.bool v19) v20 v21 v22 (.int v23) v24 v25 v26 (.int v27) (.int v28) (.int v29) (.bool v30)) (
 .row [.int 1, (.bool false)])) (
 KL (.int (IntKind.wrap .i64 (v0 + 1))) v1 v2 (.bool v3) v4 (.bool v5) v6 (.bool v7) v8 (.bool v9) (.int v10) (.bool v11) v12 (.bool v13) v14 (.bool v15) (.int v16) v17 v18 (.bool v19) v20 v21 v22 (.int v23) v24 v25 v26 (.int v27) (.int v28) (.int v29) (.bool v30))) (
 .row [])))) (
 .row [.int 1, (.bool true)]) := gw rfl rfl (cL (cQ rfl (cQ (cQ rfl rfl) (cQ (cQ rfl rfl) rfl))) rfl)
theorem bb (v0 : D) (v1 : Bool) (v2 : D) (v3 : Bool) (v4 v5 : D) (v6 : Bool) (v7 : D) (v8 : Bool) (v9 : D) (v10 : Bool) (v11 : D) (v12 : Bool) (v13 v14 : Int) (v15 v16 v17 : D) (v18 v19 : Bool) (v20 : D) (v21 v22 : Bool) (v23 : D) (v24 : Bool) (v25 : D) : LK v0 (.bool v1) v2 (.bool v3) v4 v5 (.bool v6) v7 (.bool v8) v9 (.bool v10) v11 (.bool v12) (.int v13) (.int v14) v15 v16 v17 (.bool v18) (.bool v19) v20 (.bool v21) (.bool v22) v23 (.bool v24) v25 =
 M6 v23 (.bool v24) (.int 0) v0 (.bool v1) (.bool v22) v4 v5 (.bool v6) v7 (.bool v8) v9 (.bool v10) v11 (.bool v12) (.int v13) (.bool v19) v20 (.bool v21) v2 (.bool v3) (.int v14) v16 v17 (.bool v18) v15 v25 := gw rfl rfl rfl
theorem Yq (v0 : D) (v1 : Bool) (v2 : Int) (v3 : D) (v4 v5 : Bool) (v6 v7 : D) (v8 : Bool) (v9 : D) (v10 : Bool) (v11 : D) (v12 : Bool) (v13 : D) (v14 : Bool) (v15 : Int) (v16 : Bool) (v17 : D) (v18 : Bool) (v19 : D) (v20 : Bool) (v21 : Int) (v22 v23 : D) (v24 : Bool) (v25 v26 : D) : M6 v0 (.bool v1) (.int v2) v3 (.bool v4) (.bool v5) v6 v7 (.bool v8) v9 (.bool v10) v11 (.bool v12) v13 (.bool v14) (.int v15) (.bool v16) v17 (.bool v18) v19 (.bool v20) (.int v21) v22 v23 (.bool v24) v25 v26 =
  cond (v2 < len v0) (
 cond (v2 < 0) (
 .row []) (
 cond (D.strEq (cl v0 v2 0) v26) (
 cond ((sl (R6 v19 (.bool v20) v6 v7 (.bool v8) v9 (.bool v10) v11 (.bool v12) v13 (.bool v14) (.int v15) (.int v21) v25 v22 v23 (.bool v24) (.bool v16) v17 (.bool v18) (.bool v5) (cl v0 v2 0) (cl v0 v2 1) (cl v0 v2 2) (cl v0 v2 3) (cl v0 v2 4) (cl v0 v2 5) (cl v0 v2 6) (cl v0 v2 7) (cl v0 v2 8)) 0).toInt = 1) (
 cond ((sl (R6 v19 (.bool v20) v6 v7 (.bool v8) v9 (.bool v10) v11 (.bool v12) v13 (.bool v14) (.int v15) (.int v21) v25 v22 v23 (.bool v24) (.bool v16) v17 (.bool v18) (.bool v5) (cl v0 v2 0) (cl v0 v2 1) (cl v0 v2 2) (cl v0 v2 3) (cl v0 v2 4) (cl v0 v2 5) (cl v0 v2 6) (cl v0 v2 7) (cl v0 v2 8)) 1).toBool) (
 cond ((len v3 : Int) < 1073741824) (
 M6 v0 (.bool v1) (.int (IntKind.wrap .i64 (v2 + 1))) (ad v3 (.row [(.int v2)])) (.bool false) (.bool v5) v6 v7 (.bool v8) v9 (.bool v10) v11 (.bool v12) v13 (.bool v14) (.int v15) (.bool v16) v17 (.bool v18) v19 (.bool v20) (.int v21) v22 v23 (.bool v24) v25 v26) (
 .row [])) (
 M6 v0 (.bool v1) (.int (IntKind.wrap .i64 (v2 + 1))) v3 (.bool v4) (.bool v5) v6 v7 (.bool v8) v9 (.bool v10) v11 (.bool v12) v13 (.bool v14) (.int v15) (.bool v16) v17 (.bool v18) v19 (.bool v20) (.int v21) v22 v23 (.bool v24) v25 v26)) (
 .row [])) (
 M6 v0 (.bool v1) (.int (IntKind.wrap .i64 (v2 + 1))) v3 (.bool v4) (.bool v5) v6 v7 (.bool v8) v9 (.bool v10) v11 (.bool v12) v13 (.bool v14) (.int v15) (.bool v16) v17 (.bool v18) v19 (.bool v20) (.int v21) v22 v23 (.bool v24) v25 v26))) (
 .row [.int 1, v3, (.bool v4)]) := gw rfl rfl (cL (cL rfl (cg rfl (cQ (cg rfl (cL rfl rfl) rfl) rfl) rfl)) rfl)
theorem TW (v0 : D) (v1 : Bool) (v2 v3 : D) (v4 : Bool) (v5 : D) (v6 : Bool) (v7 : D) (v8 : Bool) (v9 : D) (v10 : Bool) (v11 v12 : Int) (v13 v14 v15 : D) (v16 v17 : Bool) (v18 : D) (v19 : Bool) (v20 : Int) {F0 F1 : D} (h0 : FM (.int v12) v13 v14 v15 (.bool v16) = F0) (h1 : LU (sl F0 1) (sl F0 5) (sl F0 2) (sl F0 3) (sl F0 4) (.int v20) = F1) : PA v0 (.bool v1) v2 v3 (.bool v4) v5 (.bool v6) v7 (.bool v8) v9 (.bool v10) (.int v11) (.int v12) v13 v14 v15 (.bool v16) (.bool v17) v18 (.bool v19) (.int v20) =
  cond (v20 < v12) (
 .row [.int 1, Ay, (.bool true), (.int 3), (.bool v17), (.int v12), v14, v15, (.bool v16), v13]) (
 cond (1099511627776 < v20) (
 .row [.int 1, Ay, (.bool true), (.int 3), (.bool v17), (.int v12), v14, v15, (.bool v16), v13]) (
 cond ((sl F0 0).toInt = 1) (
 cond ((sl F1 0).toInt = 1) (
 cond (v17) (
 cond ((sl (Dy v7 (.bool v8)) 0).toInt = 1) (
 cond ((sl (LK Ay (.bool true) v0 (.bool v1) v2 v3 (.bool v4) v5 (.bool v6) v7 (.bool v8) v9 (.bool v10) (.int v11) (sl F1 4) (sl F1 7) (sl F0 2) (sl F1 5) (sl F1 6) (.bool true) v18 (.bool v19) (.bool true) (sl (Dy v7 (.bool v8)) 1) (sl (Dy v7 (.bool v8)) 2) v9) 0).toInt = 1) (
 .row [.int 1, (sl (LK Ay (.bool true) v0 (.bool v1) v2 v3 (.bool v4) v5 (.bool v6) v7 (.bool v8) v9 (.bool v10) (.int v11) (sl F1 4) (sl F1 7) (sl F0 2) (sl F1 5) (sl F1 6) (.bool true) v18 (.bool v19) (.bool true) (sl (Dy v7 (.bool v8)) 1) (sl (Dy v7 (.bool v8)) 2) v9) 1), (sl (LK Ay (.bool true) v0 (.bool v1) v2 v3 (.bool v4) v5 (.bool v6) v7 (.bool v8) v9 (.bool v10) (.int v11) (sl F1 4) (sl F1 7) (sl F0 2) (sl F1 5) (sl F1 6) (.bool true) v18 (.bool v19) (.bool true) (sl (Dy v7 (.bool v8)) 1) (sl (Dy v7 (.bool v8)) 2) v9) 2), (.int 0), (.bool true), (sl F1 4), (sl F0 2), (sl F1 5), (sl F1 6), (sl F1 7)]) (
 .row [])) (
 .row [])) (
 cond ((sl (Dy v7 (.bool v8)) 0).toInt = 1) (
 cond ((sl (LK Ay (.bool true) v0 (.bool v1) v2 v3 (.bool v4) v5 (.bool v6) v7 (.bool v8) v9 (.bool v10) (.int v11) (sl F1 4) (sl F1 7) (sl F0 2) (sl F1 5) (sl F1 6) (.bool (decide (0 < (len (sl F1 1) : Int)))) v18 (.bool v19) (.bool (decide (0 < (len (sl F1 1) : Int)))) (sl (Dy v7 (.bool v8)) 1) (sl (Dy v7 (.bool v8)) 2) v9) 0).toInt = 1) (
 .row [.int 1, (sl (LK Ay (.bool true) v0 (.bool v1) v2 v3 (.bool v4) v5 (.bool v6) v7 (.bool v8) v9 (.bool v10) (.int v11) (sl F1 4) (sl F1 7) (sl F0 2) (sl F1 5) (sl F1 6) (.bool (decide (0 < (len (sl F1 1) : Int)))) v18 (.bool v19) (.bool (decide (0 < (len (sl F1 1) : Int)))) (sl (Dy v7 (.bool v8)) 1) (sl (Dy v7 (.bool v8)) 2) v9) 1), (sl (LK Ay (.bool true) v0 (.bool v1) v2 v3 (.bool v4) v5 (.bool v6) v7 (.bool v8) v9 (.bool v10) (.int v11) (sl F1 4) (sl F1 7) (sl F0 2) (sl F1 5) (sl F1 6) (.bool (decide (0 < (len (sl F1 1) : Int)))) v18 (.bool v19) (.bool (decide (0 < (len (sl F1 1) : Int)))) (sl (Dy v7 (.bool v8)) 1) (sl (Dy v7 (.bool v8)) 2) v9) 2), (.int 0), (.bool (decide (0 < (len (sl F1 1) : Int)))), (sl F1 4), (sl F0 2), (sl F1 5), (sl F1 6), (sl F1 7)]) (
 .row [])) (
 .row []))) (
 .row [])) (
 .row []))) := by
  subst h0; subst h1; exact gw rfl rfl (cL rfl (cL rfl (cQ (cQ (cg rfl (cQ (cQ rfl rfl) rfl) (cQ (cQ rfl rfl) rfl)) rfl) rfl)))
theorem aS (v0 v1 v2 : D) : DN v0 v1 v2 =
 RW v2 (.int 0) v0 v1 := gw rfl rfl rfl
theorem dN (v0 : D) (v1 : Int) (v2 v3 : D) : RW v0 (.int v1) v2 v3 =
  cond (v1 < len v2) (
 cond (v1 < 0) (
 .row []) (
 cond (D.strEq (cl v2 v1 0) v0) (
 .row [.int 1, (.int v1)]) (
 RW v0 (.int (IntKind.wrap .i64 (v1 + 1))) v2 v3))) (
 .row [.int 1, (.int (-1))]) := gw rfl rfl rfl
theorem jE (v0 v1 v2 v3 : D) (v4 : Int) (v5 v6 v7 : D) (v8 v9 v10 : Int) : Jl v0 v1 v2 v3 (.int v4) v5 v6 v7 (.int v8) (.int v9) (.int v10) =
  cond (eqC v7 0 0) (
 .row [.int 1, (.bool true), (.int 0)]) (
 cond ((sl (DN v0 v1 v7) 0).toInt = 1) (
 cond ((sl (DN v0 v1 v7) 1).toInt < 0) (
 .row [.int 1, (.bool false), (.int 9)]) (
 cond ((sl (DN v0 v1 v7) 1).toInt < len v0) (
 cond ((sl (DN v0 v1 v7) 1).toInt < len v1) (
 cond ((cl v1 (sl (DN v0 v1 v7) 1).toInt 0).toInt < v8) (
 .row [.int 1, (.bool false), (.int 0)]) (
 cond (v9 < (cl v1 (sl (DN v0 v1 v7) 1).toInt 0).toInt) (
 .row [.int 1, (.bool false), (.int 0)]) (
 cond (v10 < (-1000)) (
 .row [.int 1, (.bool false), (.int 0)]) (
 cond (1000 < v10) (
 .row [.int 1, (.bool false), (.int 0)]) (
 cond ((IntKind.wrap .i64 ((cl v1 (sl (DN v0 v1 v7) 1).toInt 0).toInt + v10)) < 0) (
 .row [.int 1, (.bool false), (.int 0)]) (
 cond ((cl v0 (sl (DN v0 v1 v7) 1).toInt 1).toInt < (IntKind.wrap .i64 ((cl v1 (sl (DN v0 v1 v7) 1).toInt 0).toInt + v10))) (
 .row [.int 1, (.bool false), (.int 0)]) (
 .row [.int 1, (.bool true), (.int 0)]))))))) (
 .row [])) (
 .row []))) (
 .row [])) := gw rfl rfl (cg rfl rfl (cQ (cL rfl (cL (cL (cL rfl (cL rfl (cL rfl (cL rfl rfl)))) rfl) rfl)) rfl))
theorem cK (v0 v1 v2 v3 v4 : D) : G4 v0 v1 v2 v3 v4 =
 M7 v4 (.int 0) v0 v1 v2 v3 := gw rfl rfl rfl
theorem jg (v0 : D) (v1 : Int) (v2 v3 v4 v5 : D) : M7 v0 (.int v1) v2 v3 v4 v5 =
  cond (v1 < len v3) (
 cond (v1 < 0) (
 .row []) (
 cond (D.strEq (cl v3 v1 0) v0) (
 .row [.int 1, (cl v3 v1 0), (cl v3 v1 1), (cl v3 v1 2)]) (
 M7 v0 (.int (IntKind.wrap .i64 (v1 + 1))) v2 v3 v4 v5))) (
 .row [.int 1, (HZ 0 0), (.bool false), (.int 0)]) := gw rfl rfl rfl
theorem jo (v0 v1 v2 v3 v4 : D) (v5 : Int) (v6 v7 : D) (v8 : Int) (v9 : D) (v10 v11 : Int) : G6 v0 v1 v2 v3 v4 (.int v5) v6 v7 (.int v8) v9 (.int v10) (.int v11) =
  cond (v11 < 0) (
 .row []) (
 cond (v11 < len v3) (
 cond ((sl (Jl v6 v7 (cl v3 v11 0) (cl v3 v11 1) (cl v3 v11 2) (cl v3 v11 3) (cl v3 v11 4) (cl v3 v11 5) (cl v3 v11 6) (cl v3 v11 7) (cl v3 v11 8)) 0).toInt = 1) (
 cond (D.strEq (cl v3 v11 0) v4) (
 cond ((sl (Jl v6 v7 (cl v3 v11 0) (cl v3 v11 1) (cl v3 v11 2) (cl v3 v11 3) (cl v3 v11 4) (cl v3 v11 5) (cl v3 v11 6) (cl v3 v11 7) (cl v3 v11 8)) 1).toBool) (
 cond ((cl v3 v11 2).toInt = 3) (
 cond ((sl (G4 v0 v1 v2 v3 v4) 0).toInt = 1) (
 .row [.int 1, (.bool (!decide ((IntKind.wrap .i64 (v10 - v5)) < (sl (G4 v0 v1 v2 v3 v4) 3).toInt)))]) (
 .row [])) (
 .row [.int 1, (.bool true)])) (
 .row [.int 1, (.bool false)])) (
 .row [.int 1, (.bool false)])) (
 .row [])) (
 .row [])) := gw rfl rfl (cL rfl (cL (cQ (cg rfl (cg rfl (cQ (cQ rfl rfl) rfl) rfl) rfl) rfl) rfl))
theorem TS (v0 v1 v2 v3 v4 : D) (v5 : Int) (v6 v7 : D) (v8 : Int) (v9 : D) (v10 : Int) : R8 v0 v1 v2 v3 v4 (.int v5) v6 v7 (.int v8) v9 (.int v10) =
  cond (v10 < v8) (
 .row [.int 1, v0, v1, v2, v3, v4, (.int v5), v6, v7, (.int v8), v9, Ay, (.bool true), (.int 3)]) (
 cond (1099511627776 < v10) (
 .row [.int 1, v0, v1, v2, v3, v4, (.int v5), v6, v7, (.int v8), v9, Ay, (.bool true), (.int 3)]) (
 Pc (.int v10) Ay (.bool true) (.int 0) v0 v1 v2 v3 v4 (.int v5) v6 v7 v9)) := gw rfl rfl (cL rfl (cL rfl rfl))
theorem YH (v0 : Int) (v1 : D) (v2 : Bool) (v3 : Int) (v4 v5 v6 v7 v8 : D) (v9 : Int) (v10 v11 v12 : D) : Pc (.int v0) v1 (.bool v2) (.int v3) v4 v5 v6 v7 v8 (.int v9) v10 v11 v12 =
  cond (v3 < len v7) (
 cond ((sl (G6 v4 v5 v6 v7 v8 (.int v9) v10 v11 (.int v0) v12 (.int v0) (.int v3)) 0).toInt = 1) (
 cond ((sl (G6 v4 v5 v6 v7 v8 (.int v9) v10 v11 (.int v0) v12 (.int v0) (.int v3)) 1).toBool) (
 cond ((len v1 : Int) < 1073741824) (
 Pc (.int v0) (ad v1 (.row [(.int v3)])) (.bool false) (.int (IntKind.wrap .i64 (v3 + 1))) v4 v5 v6 v7 v8 (.int v9) v10 v11 v12) (
 .row [])) (
 Pc (.int v0) v1 (.bool v2) (.int (IntKind.wrap .i64 (v3 + 1))) v4 v5 v6 v7 v8 (.int v9) v10 v11 v12)) (
 .row [])) (
 .row [.int 1, v4, v5, v6, v7, v8, (.int v9), v10, v11, (.int v0), v12, v1, (.bool v2), (.int 0)]) := gw rfl rfl (cL (cQ (cg rfl (cL rfl rfl) rfl) rfl) rfl)
theorem jq (v0 : D) (v1 : Bool) (v2 : D) (v3 : Bool) : Jk v0 (.bool v1) v2 (.bool v3) =
  cond ((len v0 : Int) = (len v2 : Int)) (
 Se v0 (.bool v1) v2 (.bool v3) (.int 0)) (
 .row [.int 1, (.bool false)]) := gw rfl rfl (cQ rfl rfl)
theorem Yh (v0 : D) (v1 : Bool) (v2 : D) (v3 : Bool) (v4 : Int) : Se v0 (.bool v1) v2 (.bool v3) (.int v4) =
  cond (v4 < len v0) (
 cond (v4 < 0) (
 .row []) (
 cond (v4 < len v2) (
 cond ((cl v0 v4 0).toInt = (cl v2 v4 0).toInt) (
 Se v0 (.bool v1) v2 (.bool v3) (.int (IntKind.wrap .i64 (v4 + 1)))) (
 .row [.int 1, (.bool false)])) (
 .row []))) (
 .row [.int 1, (.bool true)]) := gw rfl rfl (cL (cL rfl (cL (cQ rfl rfl) rfl)) rfl)
theorem fO (v0 : D) (v1 : Bool) (v2 v3 : D) (v4 : Bool) (v5 : D) (v6 : Bool) (v7 : D) (v8 : Bool) (v9 : D) (v10 : Bool) (v11 v12 : Int) (v13 v14 v15 : D) (v16 v17 : Bool) (v18 : D) (v19 v20 : Bool) (v21 v22 : D) (v23 : Int) (v24 v25 v26 : D) (v27 v28 v29 : Int) : Sw v0 (.bool v1) v2 v3 (.bool v4) v5 (.bool v6) v7 (.bool v8) v9 (.bool v10) (.int v11) (.int v12) v13 v14 v15 (.bool v16) (.bool v17) v18 (.bool v19) (.bool v20) v21 v22 (.int v23) v24 v25 v26 (.int v27) (.int v28) (.int v29) =
 K7 (.int 0) v2 v3 (.bool v4) v5 (.bool v6) v7 (.bool v8) v9 (.bool v10) (.int v11) (.bool v17) v18 (.bool v19) v0 (.bool v1) (.int v12) v14 v15 (.bool v16) v13 v21 v22 (.int v23) v24 v25 v26 (.int v27) (.int v28) (.int v29) (.bool v20) := gw rfl rfl rfl
theorem Rr (v0 : Int) (v1 v2 : D) (v3 : Bool) (v4 : D) (v5 : Bool) (v6 : D) (v7 : Bool) (v8 : D) (v9 : Bool) (v10 : Int) (v11 : Bool) (v12 : D) (v13 : Bool) (v14 : D) (v15 : Bool) (v16 : Int) (v17 v18 : D) (v19 : Bool) (v20 v21 v22 : D) (v23 : Int) (v24 v25 v26 : D) (v27 v28 v29 : Int) (v30 : Bool) : K7 (.int v0) v1 v2 (.bool v3) v4 (.bool v5) v6 (.bool v7) v8 (.bool v9) (.int v10) (.bool v11) v12 (.bool v13) v14 (.bool v15) (.int v16) v17 v18 (.bool v19) v20 v21 v22 (.int v23) v24 v25 v26 (.int v27) (.int v28) (.int v29) (.bool v30) =
  cond (v0 < 3) (
 cond (v0 = 0) (
 cond (D.strEq v21 v8) (
 K7 (.int (IntKind.wrap .i64 (v0 + 1))) v1 v2 (.bool v3) v4 (.bool v5) v6 (.bool v7) v8 (.bool v9) (.int v10) (.bool v11) v12 (.bool v13) v14 (.bool v15) (.int v16) v17 v18 (.bool v19) v20 v21 v22 (.int v23) v24 v25 v26 (.int v27) (.int v28) (.int v29) (.bool v30)) (
 .row [.int 1, (.bool false)])) (
 cond (v0 = 1) (
 cond ((sl (FO v14 (.bool v15) v21 v22 (.int v23) v24 v25 v26 (.int v27) (.int v28) (.int v29)) 0).toInt = 1) (
 cond ((sl (FO v14 (.bool v15) v21 v22 (.int v23) v24 v25 v26 (.int v27) (.int v28) (.int v29)) 1).toBool) (
 K7 (.int (IntKind.wrap .i64 (v0 + 1))) v1 v2 (.bool v3) v4 (.bool v5) v6 (.bool v7) v8 (.bool v9) (.int v10) (.bool v11) v12 (.bool v13) v14 (.bool v15) (.int v16) v17 v18 (.bool v19) v20 v21 v22 (.int v23) v24 v25 v26 (.int v27) (.int v28) (.int v29) (.bool v30)) (
 .row [.int 1, (.bool false)])) (
 .row [])) (
 cond (v0 = 2) (
 cond (v23 = 3) (
 cond (v30) (
 K7 (.int (IntKind.wrap .i64 (v0 + 1))) v1 v2 (.bool v3) v4 (.bool v5) v6 (.bool v7) v8 (.bool v9) (.int v10) (.bool v11) v12 (.bool v13) v14 (.bool v15) (.int v16) v17 v18 (.bool v19) v20 v21 v22 (.int v23) v24 v25 v26 (.int v27) (.int v28) (.int v29) (.bool v30)) (
 .row [.int 1, (.bool false)])) (
 K7 (.int (IntKind.wrap .i64 (v0 + 1))) v1 v2 (.bool v3) v4 (.bool v5) v6 (.bool v7) v8 (.bool v9) (.int v10) (.bool v11) v12 (.bool v13) v14 (.bool v15) (.int v16) v17 v18 (.bool v19) v20 v21 v22 (.int v23) v24 v25 v26 (.int v27) (.int v28) (.int v29) (.bool v30))) (
 .row [])))) (
 .row [.int 1, (.bool true)]) := gw rfl rfl (cL (cQ rfl (cQ (cQ rfl rfl) (cQ (cQ rfl rfl) rfl))) rfl)
theorem bA (v0 : D) (v1 : Bool) (v2 : D) (v3 : Bool) (v4 v5 : D) (v6 : Bool) (v7 : D) (v8 v9 : Bool) (v10 : D) (v11 : Bool) (v12 v13 : Int) (v14 v15 v16 : D) (v17 v18 : Bool) (v19 : D) (v20 v21 : Bool) : Rp v0 (.bool v1) v2 (.bool v3) v4 v5 (.bool v6) v7 (.bool v8) (.bool v9) v10 (.bool v11) (.int v12) (.int v13) v14 v15 v16 (.bool v17) (.bool v18) v19 (.bool v20) (.bool v21) =
 Mw Ay (.bool true) v0 (.bool v1) (.int 0) (.bool v21) v4 v5 (.bool v6) v7 (.bool v8) (.bool v9) v10 (.bool v11) (.int v12) (.bool v18) v19 (.bool v20) v2 (.bool v3) (.int v13) v15 v16 (.bool v17) v14 := gw rfl rfl rfl
theorem YA (v0 : D) (v1 : Bool) (v2 : D) (v3 : Bool) (v4 : Int) (v5 : Bool) (v6 v7 : D) (v8 : Bool) (v9 : D) (v10 v11 : Bool) (v12 : D) (v13 : Bool) (v14 : Int) (v15 : Bool) (v16 : D) (v17 : Bool) (v18 : D) (v19 : Bool) (v20 : Int) (v21 v22 : D) (v23 : Bool) (v24 : D) : Mw v0 (.bool v1) v2 (.bool v3) (.int v4) (.bool v5) v6 v7 (.bool v8) v9 (.bool v10) (.bool v11) v12 (.bool v13) (.int v14) (.bool v15) v16 (.bool v17) v18 (.bool v19) (.int v20) v21 v22 (.bool v23) v24 =
  cond (v4 < len v2) (
 cond (v4 < 0) (
 .row []) (
 cond ((cl v2 v4 2).toInt = 3) (
 cond ((sl (Sw v18 (.bool v19) v6 v7 (.bool v8) v9 (.bool v10) v2 (.bool v11) v12 (.bool v13) (.int v14) (.int v20) v24 v21 v22 (.bool v23) (.bool v15) v16 (.bool v17) (.bool v5) (cl v2 v4 0) (cl v2 v4 1) (cl v2 v4 2) (cl v2 v4 3) (cl v2 v4 4) (cl v2 v4 5) (cl v2 v4 6) (cl v2 v4 7) (cl v2 v4 8)) 0).toInt = 1) (
 cond ((sl (Sw v18 (.bool v19) v6 v7 (.bool v8) v9 (.bool v10) v2 (.bool v11) v12 (.bool v13) (.int v14) (.int v20) v24 v21 v22 (.bool v23) (.bool v15) v16 (.bool v17) (.bool v5) (cl v2 v4 0) (cl v2 v4 1) (cl v2 v4 2) (cl v2 v4 3) (cl v2 v4 4) (cl v2 v4 5) (cl v2 v4 6) (cl v2 v4 7) (cl v2 v4 8)) 1).toBool) (
 cond ((len v0 : Int) < 1073741824) (
 Mw (ad v0 (.row [(cl v2 v4 0), (cl v2 v4 1), (cl v2 v4 2), (cl v2 v4 3), (cl v2 v4 4), (cl v2 v4 5), (cl v2 v4 6), (cl v2 v4 7), (cl v2 v4 8)])) (.bool false) v2 (.bool v3) (.int (IntKind.wrap .i64 (v4 + 1))) (.bool v5) v6 v7 (.bool v8) v9 (.bool v10) (.bool v11) v12 (.bool v13) (.int v14) (.bool v15) v16 (.bool v17) v18 (.bool v19) (.int v20) v21 v22 (.bool v23) v24) (
 .row [])) (
 Mw v0 (.bool v1) v2 (.bool v3) (.int (IntKind.wrap .i64 (v4 + 1))) (.bool v5) v6 v7 (.bool v8) v9 (.bool v10) (.bool v11) v12 (.bool v13) (.int v14) (.bool v15) v16 (.bool v17) v18 (.bool v19) (.int v20) v21 v22 (.bool v23) v24)) (
 .row [])) (
 Mw v0 (.bool v1) v2 (.bool v3) (.int (IntKind.wrap .i64 (v4 + 1))) (.bool v5) v6 v7 (.bool v8) v9 (.bool v10) (.bool v11) v12 (.bool v13) (.int v14) (.bool v15) v16 (.bool v17) v18 (.bool v19) (.int v20) v21 v22 (.bool v23) v24))) (
 .row [.int 1, v0, (.bool v1)]) := gw rfl rfl (cL (cL rfl (cQ (cQ (cg rfl (cL rfl rfl) rfl) rfl) rfl)) rfl)
theorem dY (v0 : D) (v1 : Bool) (v2 v3 : D) (v4 : Bool) (v5 : D) (v6 : Bool) (v7 : D) (v8 : Bool) (v9 : D) (v10 : Bool) (v11 v12 : Int) (v13 v14 v15 : D) (v16 v17 : Bool) (v18 : D) (v19 : Bool) : Ot v0 (.bool v1) v2 v3 (.bool v4) v5 (.bool v6) v7 (.bool v8) v9 (.bool v10) (.int v11) (.int v12) v13 v14 v15 (.bool v16) (.bool v17) v18 (.bool v19) =
  cond ((sl (G1 (.int v12) v13 v14 v15 (.bool v16) (.int 0)) 0).toInt = 1) (
 cond ((sl (Rp v7 (.bool v8) v0 (.bool v1) v2 v3 (.bool v4) v5 (.bool v6) (.bool v8) v9 (.bool v10) (.int v11) (.int v12) v13 v14 v15 (.bool v16) (.bool v17) v18 (.bool v19) (.bool true)) 0).toInt = 1) (
 cond ((len (sl (Rp v7 (.bool v8) v0 (.bool v1) v2 v3 (.bool v4) v5 (.bool v6) (.bool v8) v9 (.bool v10) (.int v11) (.int v12) v13 v14 v15 (.bool v16) (.bool v17) v18 (.bool v19) (.bool true)) 1) : Int) = 0) (
 .row [.int 1, (.int 0), (.int 9)]) (
 cond (v17) (
 .row [.int 1, (.int v12), (.int 0)]) (
 cond ((sl (G1 (.int v12) v13 v14 v15 (.bool v16) (.int 0)) 2).toInt = 0) (
 .row [.int 1, (.int (IntKind.wrap .i64 (v12 + (sl (G1 (.int v12) v13 v14 v15 (.bool v16) (.int 0)) 1).toInt))), (.int 0)]) (
 .row [.int 1, (.int 0), (.int 9)])))) (
 .row [])) (
 .row []) := gw rfl rfl (cQ (cQ (cQ rfl (cg rfl rfl (cQ rfl rfl))) rfl) rfl)
theorem gT (v0 v1 v2 v3 v4 : D) (v5 : Int) (v6 v7 : D) (v8 : Int) (v9 : D) : LV v0 v1 v2 v3 v4 (.int v5) v6 v7 (.int v8) v9 =
  cond ((sl (G4 v0 v1 v2 v3 v4) 0).toInt = 1) (
 cond ((IntKind.wrap .i64 (v5 + (sl (G4 v0 v1 v2 v3 v4) 3).toInt)) < v8) (
 H8 (.int v8) (.int 0) v0 v1 v2 v3 v4 (.int v5) v6 v7 (.int v8) v9) (
 H8 (.int (IntKind.wrap .i64 (v5 + (sl (G4 v0 v1 v2 v3 v4) 3).toInt))) (.int 0) v0 v1 v2 v3 v4 (.int v5) v6 v7 (.int v8) v9)) (
 .row []) := gw rfl rfl (cQ rfl rfl)
theorem Yu (v0 v1 : Int) (v2 v3 v4 v5 v6 : D) (v7 : Int) (v8 v9 : D) (v10 : Int) (v11 : D) : H8 (.int v0) (.int v1) v2 v3 v4 v5 v6 (.int v7) v8 v9 (.int v10) v11 =
  cond (v1 < len v5) (
 cond (v1 < 0) (
 .row []) (
 cond ((cl v5 v1 2).toInt = 3) (
 cond (1099511627776 < v0) (
 H8 (.int v0) (.int (IntKind.wrap .i64 (v1 + 1))) v2 v3 v4 v5 v6 (.int v7) v8 v9 (.int v10) v11) (
 cond ((sl (G6 v2 v3 v4 v5 v6 (.int v7) v8 v9 (.int v10) v11 (.int v0) (.int v1)) 0).toInt = 1) (
 cond ((sl (G6 v2 v3 v4 v5 v6 (.int v7) v8 v9 (.int v10) v11 (.int v0) (.int v1)) 1).toBool) (
 .row [.int 1, (.int v0), (.int 0)]) (
 H8 (.int v0) (.int (IntKind.wrap .i64 (v1 + 1))) v2 v3 v4 v5 v6 (.int v7) v8 v9 (.int v10) v11)) (
 .row []))) (
 H8 (.int v0) (.int (IntKind.wrap .i64 (v1 + 1))) v2 v3 v4 v5 v6 (.int v7) v8 v9 (.int v10) v11))) (
 .row [.int 1, (.int 0), (.int 9)]) := gw rfl rfl (cL (cL rfl (cQ (cL rfl (cQ rfl rfl)) rfl)) rfl)
theorem TN (v0 : D) (v1 : Bool) : Db v0 (.bool v1) =
  cond (v1) (
 .row [.int 1, Ay, (.bool true)]) (
 cond ((len v0 : Int) < 1048576) (
 .row [.int 1, (ct Ax v0), (.bool false)]) (
 .row [])) := gw rfl rfl (cg rfl rfl (cL rfl rfl))
theorem cE (v0 v1 v2 v3 v4 : D) (v5 : Int) (v6 v7 : D) (v8 : Int) (v9 : D) (v10 : Bool) (v11 : Int) (v12 : D) (v13 : Bool) : Pk v0 v1 v2 v3 v4 (.int v5) v6 v7 (.int v8) v9 (.bool v10) (.int v11) v12 (.bool v13) =
 R7 v12 (.bool v13) (.int 0) v0 v1 v2 v3 v4 (.int v5) v6 v7 (.int v8) v9 (.bool v10) (.int v11) := gw rfl rfl rfl
theorem X7 (v0 : D) (v1 : Bool) (v2 : Int) (v3 v4 v5 v6 v7 : D) (v8 : Int) (v9 v10 : D) (v11 : Int) (v12 : D) (v13 : Bool) (v14 : Int) : R7 v0 (.bool v1) (.int v2) v3 v4 v5 v6 v7 (.int v8) v9 v10 (.int v11) v12 (.bool v13) (.int v14) =
  cond (v2 < len v0) (
 cond (v2 < 0) (
 .row []) (
 cond (v2 = v14) (
 cond (v14 < len v12) (
 cond (v14 < 0) (
 .row []) (
 cond ((cl v0 v2 0).toInt = (cl v12 v14 0).toInt) (
 cond ((cl v0 v2 1).toInt = (cl v12 v14 1).toInt) (
 R7 v0 (.bool v1) (.int (IntKind.wrap .i64 (v2 + 1))) v3 v4 v5 v6 v7 (.int v8) v9 v10 (.int v11) v12 (.bool v13) (.int (IntKind.wrap .i64 (v14 + 1)))) (
 .row [.int 1, (.int v14)])) (
 .row [.int 1, (.int v14)]))) (
 .row [.int 1, (.int v14)])) (
 .row [.int 1, (.int v14)]))) (
 .row [.int 2, (.int v14)]) := gw rfl rfl (cL (cL rfl (cQ (cL (cL rfl (cQ (cQ rfl rfl) rfl)) rfl) rfl)) rfl)
theorem iR (v0 : D) (v1 : Bool) (v2 v3 : D) (v4 : Bool) (v5 : D) (v6 : Bool) (v7 : D) (v8 : Bool) (v9 : D) (v10 : Bool) (v11 v12 : Int) (v13 v14 v15 : D) (v16 v17 : Bool) (v18 : D) (v19 : Bool) (v20 v21 v22 v23 v24 : D) (v25 : Int) (v26 v27 : D) (v28 : Int) (v29 : D) : GD v0 (.bool v1) v2 v3 (.bool v4) v5 (.bool v6) v7 (.bool v8) v9 (.bool v10) (.int v11) (.int v12) v13 v14 v15 (.bool v16) (.bool v17) v18 (.bool v19) v20 v21 v22 v23 v24 (.int v25) v26 v27 (.int v28) v29 =
  cond (D.strEq v9 v24) (
 cond ((sl (G4 v20 v21 v22 v23 v24) 0).toInt = 1) (
 cond (v10) (
 cond ((sl (G4 v20 v21 v22 v23 v24) 2).toBool) (
 cond (v12 = v28) (
 Nc (.int 0) v2 v3 (.bool v4) v5 (.bool v6) v7 (.bool v8) v9 (.bool v10) (.int v11) (.bool v17) v18 (.bool v19) v0 (.bool v1) (.int v12) v14 v15 (.bool v16) v13 v20 v21 v22 v23 v24 (.int v25) v26 v27 (.int v28) v29) (
 .row [.int 1, (.bool false)])) (
 .row [.int 1, (.bool false)])) (
 cond ((sl (G4 v20 v21 v22 v23 v24) 2).toBool) (
 .row [.int 1, (.bool false)]) (
 cond (v12 = v28) (
 Nc (.int 0) v2 v3 (.bool v4) v5 (.bool v6) v7 (.bool v8) v9 (.bool v10) (.int v11) (.bool v17) v18 (.bool v19) v0 (.bool v1) (.int v12) v14 v15 (.bool v16) v13 v20 v21 v22 v23 v24 (.int v25) v26 v27 (.int v28) v29) (
 .row [.int 1, (.bool false)])))) (
 .row [])) (
 .row [.int 1, (.bool false)]) := gw rfl rfl (cg rfl (cQ (cg rfl (cg rfl (cQ rfl rfl) rfl) (cg rfl rfl (cQ rfl rfl))) rfl) rfl)
theorem XW (v0 : Int) (v1 v2 : D) (v3 : Bool) (v4 : D) (v5 : Bool) (v6 : D) (v7 : Bool) (v8 : D) (v9 : Bool) (v10 : Int) (v11 : Bool) (v12 : D) (v13 : Bool) (v14 : D) (v15 : Bool) (v16 : Int) (v17 v18 : D) (v19 : Bool) (v20 v21 v22 v23 v24 v25 : D) (v26 : Int) (v27 v28 : D) (v29 : Int) (v30 : D) : Nc (.int v0) v1 v2 (.bool v3) v4 (.bool v5) v6 (.bool v7) v8 (.bool v9) (.int v10) (.bool v11) v12 (.bool v13) v14 (.bool v15) (.int v16) v17 v18 (.bool v19) v20 v21 v22 v23 v24 v25 (.int v26) v27 v28 (.int v29) v30 =
  cond (v0 < len v27) (
 cond (v0 < 0) (
 .row []) (
 cond ((sl (FN v14 (.bool v15) (cl v27 v0 0)) 0).toInt = 1) (
 cond (v0 < len v28) (
 cond ((sl (FN v14 (.bool v15) (cl v27 v0 0)) 1).toInt = (cl v28 v0 0).toInt) (
 cond ((sl (FN v14 (.bool v15) (cl v27 v0 0)) 2).toInt = 0) (
 Nc (.int (IntKind.wrap .i64 (v0 + 1))) v1 v2 (.bool v3) v4 (.bool v5) v6 (.bool v7) v8 (.bool v9) (.int v10) (.bool v11) v12 (.bool v13) v14 (.bool v15) (.int v16) v17 v18 (.bool v19) v20 v21 v22 v23 v24 v25 (.int v26) v27 v28 (.int v29) v30) (
 .row [.int 1, (.bool false)])) (
 .row [.int 1, (.bool false)])) (
 .row [])) (
 .row []))) (
 cond ((sl (Ot v14 (.bool v15) v1 v2 (.bool v3) v4 (.bool v5) v6 (.bool v7) v8 (.bool v9) (.int v10) (.int v16) v20 v17 v18 (.bool v19) (.bool v11) v12 (.bool v13)) 0).toInt = 1) (
 cond ((sl (LV v21 v22 v23 v24 v25 (.int v26) v27 v28 (.int v29) v30) 0).toInt = 1) (
 cond ((sl (Ot v14 (.bool v15) v1 v2 (.bool v3) v4 (.bool v5) v6 (.bool v7) v8 (.bool v9) (.int v10) (.int v16) v20 v17 v18 (.bool v19) (.bool v11) v12 (.bool v13)) 1).toInt = (sl (LV v21 v22 v23 v24 v25 (.int v26) v27 v28 (.int v29) v30) 1).toInt) (
 cond ((sl (Ot v14 (.bool v15) v1 v2 (.bool v3) v4 (.bool v5) v6 (.bool v7) v8 (.bool v9) (.int v10) (.int v16) v20 v17 v18 (.bool v19) (.bool v11) v12 (.bool v13)) 2).toInt = (sl (LV v21 v22 v23 v24 v25 (.int v26) v27 v28 (.int v29) v30) 2).toInt) (
 cond ((sl (Db v12 (.bool v13)) 0).toInt = 1) (
 cond ((sl (Pk v21 v22 v23 v24 v25 (.int v26) v27 v28 (.int v29) v30 (.bool false) (.int 0) (sl (Db v12 (.bool v13)) 1) (sl (Db v12 (.bool v13)) 2)) 0).toInt = 1) (
 .row [.int 1, (.bool false)]) (
 cond ((sl (Pk v21 v22 v23 v24 v25 (.int v26) v27 v28 (.int v29) v30 (.bool false) (.int 0) (sl (Db v12 (.bool v13)) 1) (sl (Db v12 (.bool v13)) 2)) 0).toInt = 2) (
 .row [.int 1, (.bool (decide ((sl (Pk v21 v22 v23 v24 v25 (.int v26) v27 v28 (.int v29) v30 (.bool false) (.int 0) (sl (Db v12 (.bool v13)) 1) (sl (Db v12 (.bool v13)) 2)) 1).toInt = (len v30 : Int))))]) (
 .row []))) (
 .row [])) (
 .row [.int 1, (.bool false)])) (
 .row [.int 1, (.bool false)])) (
 .row [])) (
 .row [])) := gw rfl rfl (cL (cL rfl (cQ (cL (cQ (cQ rfl rfl) rfl) rfl) rfl)) (cQ (cQ (cQ (cQ (cQ (cQ rfl (cQ rfl rfl)) rfl) rfl) rfl) rfl) rfl))
theorem jU (v0 : D) (v1 : Bool) (v2 v3 : D) (v4 : Bool) (v5 : D) (v6 : Bool) (v7 : D) (v8 : Bool) (v9 : D) (v10 : Bool) (v11 v12 : Int) (v13 v14 v15 : D) (v16 v17 : Bool) (v18 : D) (v19 : Bool) (v20 : Int) (v21 v22 v23 : D) (v24 v25 : Bool) (v26 v27 : D) (v28 : Int) (v29 v30 v31 : D) (v32 v33 v34 : Int) : Ky v0 (.bool v1) v2 v3 (.bool v4) v5 (.bool v6) v7 (.bool v8) v9 (.bool v10) (.int v11) (.int v12) v13 v14 v15 (.bool v16) (.bool v17) v18 (.bool v19) (.int v20) v21 v22 v23 (.bool v24) (.bool v25) v26 v27 (.int v28) v29 v30 v31 (.int v32) (.int v33) (.int v34) =
 KM (.int 0) v2 v3 (.bool v4) v5 (.bool v6) v7 (.bool v8) v9 (.bool v10) (.int v11) (.bool v17) v18 (.bool v19) v0 (.bool v1) (.int v12) v14 v15 (.bool v16) v13 (.int v20) v22 v23 (.bool v24) v21 v26 v27 (.int v28) v29 v30 v31 (.int v32) (.int v33) (.int v34) (.bool v25) := gw rfl rfl rfl
theorem Sg (v0 : Int) (v1 v2 : D) (v3 : Bool) (v4 : D) (v5 : Bool) (v6 : D) (v7 : Bool) (v8 : D) (v9 : Bool) (v10 : Int) (v11 : Bool) (v12 : D) (v13 : Bool) (v14 : D) (v15 : Bool) (v16 : Int) (v17 v18 : D) (v19 : Bool) (v20 : D) (v21 : Int) (v22 v23 : D) (v24 : Bool) (v25 v26 v27 : D) (v28 : Int) (v29 v30 v31 : D) (v32 v33 v34 : Int) (v35 : Bool) : KM (.int v0) v1 v2 (.bool v3) v4 (.bool v5) v6 (.bool v7) v8 (.bool v9) (.int v10) (.bool v11) v12 (.bool v13) v14 (.bool v15) (.int v16) v17 v18 (.bool v19) v20 (.int v21) v22 v23 (.bool v24) v25 v26 v27 (.int v28) v29 v30 v31 (.int v32) (.int v33) (.int v34) (.bool v35) =
  cond (v0 < 3) (
 cond (v0 = 0) (
 cond (D.strEq v26 v8) (
 KM (.int (IntKind.wrap .i64 (v0 + 1))) v1 v2 (.bool v3) v4 (.bool v5) v6 (.bool v7) v8 (.bool v9) (.int v10) (.bool v11) v12 (.bool v13) v14 (.bool v15) (.int v16) v17 v18 (.bool v19) v20 (.int v21) v22 v23 (.bool v24) v25 v26 v27 (.int v28) v29 v30 v31 (.int v32) (.int v33) (.int v34) (.bool v35)) (
 .row [.int 1, (.bool false)])) (
 cond (v0 = 1) (
 cond ((sl (FO v14 (.bool v15) v26 v27 (.int v28) v29 v30 v31 (.int v32) (.int v33) (.int v34)) 0).toInt = 1) (
 cond ((sl (FO v14 (.bool v15) v26 v27 (.int v28) v29 v30 v31 (.int v32) (.int v33) (.int v34)) 1).toBool) (
 KM (.int (IntKind.wrap .i64 (v0 + 1))) v1 v2 (.bool v3) v4 (.bool v5) v6 (.bool v7) v8 (.bool v9) (.int v10) (.bool v11) v12 (.bool v13) v14 (.bool v15) (.int v16) v17 v18 (.bool v19) v20 (.int v21) v22 v23 (.bool v24) v25 v26 v27 (.int v28) v29 v30 v31 (.int v32) (.int v33) (.int v34) (.bool v35)) (
 .row [.int 1, (.bool false)])) (
 .row [])) (
 cond (v0 = 2) (
 cond (v28 = 3) (
 cond (v35) (
 KM (.int (IntKind.wrap .i64 (v0 + 1))) v1 v2 (.bool v3) v4 (.bool v5) v6 (.bool v7) v8 (.bool v9) (.int v10) (.bool v11) v12 (.bool v13) v14 (.bool v15) (.int v16) v17 v18 (.bool v19) v20 (.int v21) v22 v23 (.bool v24) v25 v26 v27 (.int v28) v29 v30 v31 (.int v32) (.int v33) (.int v34) (.bool v35)) (
 .row [.int 1, (.bool false)])) (
 KM (.int (IntKind.wrap .i64 (v0 + 1))) v1 v2 (.bool v3) v4 (.bool v5) v6 (.bool v7) v8 (.bool v9) (.int v10) (.bool v11) v12 (.bool v13) v14 (.bool v15) (.int v16) v17 v18 (.bool v19) v20 (.int v21) v22 v23 (.bool v24) v25 v26 v27 (.int v28) v29 v30 v31 (.int v32) (.int v33) (.int v34) (.bool v35))) (
 .row [])))) (
 .row [.int 1, (.bool true)]) := gw rfl rfl (cL (cQ rfl (cQ (cQ rfl rfl) (cQ (cQ rfl rfl) rfl))) rfl)
theorem XZ (v0 : D) (v1 : Bool) (v2 v3 : D) (v4 : Int) (v5 v6 v7 : D) (v8 v9 v10 : Int) : E7 v0 (.bool v1) v2 v3 (.int v4) v5 v6 v7 (.int v8) (.int v9) (.int v10) =
  cond ((sl (FO v0 (.bool v1) v2 v3 (.int v4) v5 v6 v7 (.int v8) (.int v9) (.int v10)) 0).toInt = 1) (
 cond ((sl (FO v0 (.bool v1) v2 v3 (.int v4) v5 v6 v7 (.int v8) (.int v9) (.int v10)) 2).toInt = 0) (
 cond ((sl (FO v0 (.bool v1) v2 v3 (.int v4) v5 v6 v7 (.int v8) (.int v9) (.int v10)) 1).toBool) (
 cond (eqC v7 0 0) (
 .row [.int 1, (.int 0), v0]) (
 cond ((sl (DB v0 (.bool v1) v7) 0).toInt = 1) (
 cond ((sl (DB v0 (.bool v1) v7) 1).toInt < 0) (
 .row []) (
 cond ((sl (DB v0 (.bool v1) v7) 1).toInt < len v0) (
 .row [.int 1, (.int 0), (upd v0 (sl (DB v0 (.bool v1) v7) 1).toInt 2 (.int (IntKind.wrap .i64 ((cl v0 (sl (DB v0 (.bool v1) v7) 1).toInt 2).toInt + v10))))]) (
 .row []))) (
 .row []))) (
 .row [.int 1, (.int 8), v0])) (
 .row [.int 1, (sl (FO v0 (.bool v1) v2 v3 (.int v4) v5 v6 v7 (.int v8) (.int v9) (.int v10)) 2), v0])) (
 .row []) := gw rfl rfl (cQ (cQ (cg rfl (cg rfl rfl (cQ rfl rfl)) rfl) rfl) rfl)
theorem gD (v0 : D) (v1 : Bool) (v2 v3 : D) (v4 : Bool) (v5 : D) (v6 : Bool) (v7 : D) (v8 : Bool) (v9 : D) (v10 : Bool) (v11 v12 : Int) (v13 v14 v15 : D) (v16 v17 : Bool) (v18 : D) (v19 : Bool) (v20 : Int) (v21 v22 v23 : D) (v24 v25 : Bool) (v26 v27 : Int) : Mj v0 (.bool v1) v2 v3 (.bool v4) v5 (.bool v6) v7 (.bool v8) v9 (.bool v10) (.int v11) (.int v12) v13 v14 v15 (.bool v16) (.bool v17) v18 (.bool v19) (.int v20) v21 v22 v23 (.bool v24) (.bool v25) (.int v26) (.int v27) =
  cond ((len v18 : Int) < 100000) (
 cond (v27 < 0) (
 .row []) (
 cond (v27 < len v7) (
 cond ((sl (E7 v0 (.bool v1) (cl v7 v27 0) (cl v7 v27 1) (cl v7 v27 2) (cl v7 v27 3) (cl v7 v27 4) (cl v7 v27 5) (cl v7 v27 6) (cl v7 v27 7) (cl v7 v27 8)) 0).toInt = 1) (
 cond ((len (sl (E7 v0 (.bool v1) (cl v7 v27 0) (cl v7 v27 1) (cl v7 v27 2) (cl v7 v27 3) (cl v7 v27 4) (cl v7 v27 5) (cl v7 v27 6) (cl v7 v27 7) (cl v7 v27 8)) 2) : Int) = (len v0 : Int)) (
 cond ((sl (Da (sl (E7 v0 (.bool v1) (cl v7 v27 0) (cl v7 v27 1) (cl v7 v27 2) (cl v7 v27 3) (cl v7 v27 4) (cl v7 v27 5) (cl v7 v27 6) (cl v7 v27 7) (cl v7 v27 8)) 2) (.bool v1) v2 v3 (.bool v4) v5 (.bool v6) v7 (.bool v8) v9 (.bool v10) (.int v11) (.int v20) v21 v22 v23 (.bool v24) (.bool v25) v18 (.bool v19) (cl v7 v27 1)) 0).toInt = 1) (
 .row [.int 1, (sl (Da (sl (E7 v0 (.bool v1) (cl v7 v27 0) (cl v7 v27 1) (cl v7 v27 2) (cl v7 v27 3) (cl v7 v27 4) (cl v7 v27 5) (cl v7 v27 6) (cl v7 v27 7) (cl v7 v27 8)) 2) (.bool v1) v2 v3 (.bool v4) v5 (.bool v6) v7 (.bool v8) v9 (.bool v10) (.int v11) (.int v20) v21 v22 v23 (.bool v24) (.bool v25) v18 (.bool v19) (cl v7 v27 1)) 1), (sl (Da (sl (E7 v0 (.bool v1) (cl v7 v27 0) (cl v7 v27 1) (cl v7 v27 2) (cl v7 v27 3) (cl v7 v27 4) (cl v7 v27 5) (cl v7 v27 6) (cl v7 v27 7) (cl v7 v27 8)) 2) (.bool v1) v2 v3 (.bool v4) v5 (.bool v6) v7 (.bool v8) v9 (.bool v10) (.int v11) (.int v20) v21 v22 v23 (.bool v24) (.bool v25) v18 (.bool v19) (cl v7 v27 1)) 2), (sl (Da (sl (E7 v0 (.bool v1) (cl v7 v27 0) (cl v7 v27 1) (cl v7 v27 2) (cl v7 v27 3) (cl v7 v27 4) (cl v7 v27 5) (cl v7 v27 6) (cl v7 v27 7) (cl v7 v27 8)) 2) (.bool v1) v2 v3 (.bool v4) v5 (.bool v6) v7 (.bool v8) v9 (.bool v10) (.int v11) (.int v20) v21 v22 v23 (.bool v24) (.bool v25) v18 (.bool v19) (cl v7 v27 1)) 3), (ad v18 (.row [(.int v27), (.int v26)])), (.bool false), (sl (E7 v0 (.bool v1) (cl v7 v27 0) (cl v7 v27 1) (cl v7 v27 2) (cl v7 v27 3) (cl v7 v27 4) (cl v7 v27 5) (cl v7 v27 6) (cl v7 v27 7) (cl v7 v27 8)) 2), (.bool v1), (.int v12), v14, v15, (.bool v16), v13, (.int v20), (sl (Da (sl (E7 v0 (.bool v1) (cl v7 v27 0) (cl v7 v27 1) (cl v7 v27 2) (cl v7 v27 3) (cl v7 v27 4) (cl v7 v27 5) (cl v7 v27 6) (cl v7 v27 7) (cl v7 v27 8)) 2) (.bool v1) v2 v3 (.bool v4) v5 (.bool v6) v7 (.bool v8) v9 (.bool v10) (.int v11) (.int v20) v21 v22 v23 (.bool v24) (.bool v25) v18 (.bool v19) (cl v7 v27 1)) 4), (sl (Da (sl (E7 v0 (.bool v1) (cl v7 v27 0) (cl v7 v27 1) (cl v7 v27 2) (cl v7 v27 3) (cl v7 v27 4) (cl v7 v27 5) (cl v7 v27 6) (cl v7 v27 7) (cl v7 v27 8)) 2) (.bool v1) v2 v3 (.bool v4) v5 (.bool v6) v7 (.bool v8) v9 (.bool v10) (.int v11) (.int v20) v21 v22 v23 (.bool v24) (.bool v25) v18 (.bool v19) (cl v7 v27 1)) 5), (sl (Da (sl (E7 v0 (.bool v1) (cl v7 v27 0) (cl v7 v27 1) (cl v7 v27 2) (cl v7 v27 3) (cl v7 v27 4) (cl v7 v27 5) (cl v7 v27 6) (cl v7 v27 7) (cl v7 v27 8)) 2) (.bool v1) v2 v3 (.bool v4) v5 (.bool v6) v7 (.bool v8) v9 (.bool v10) (.int v11) (.int v20) v21 v22 v23 (.bool v24) (.bool v25) v18 (.bool v19) (cl v7 v27 1)) 6), (sl (Da (sl (E7 v0 (.bool v1) (cl v7 v27 0) (cl v7 v27 1) (cl v7 v27 2) (cl v7 v27 3) (cl v7 v27 4) (cl v7 v27 5) (cl v7 v27 6) (cl v7 v27 7) (cl v7 v27 8)) 2) (.bool v1) v2 v3 (.bool v4) v5 (.bool v6) v7 (.bool v8) v9 (.bool v10) (.int v11) (.int v20) v21 v22 v23 (.bool v24) (.bool v25) v18 (.bool v19) (cl v7 v27 1)) 7)]) (
 .row [])) (
 .row [])) (
 .row [])) (
 .row []))) (
 .row []) := gw rfl rfl (cL (cL rfl (cL (cQ (cQ (cQ rfl rfl) rfl) rfl) rfl)) rfl)
theorem JN (v0 : D) (v1 : Bool) (v2 v3 : D) (v4 : Bool) (v5 : D) (v6 : Bool) (v7 : D) (v8 : Bool) (v9 : D) (v10 : Bool) (v11 v12 : Int) (v13 v14 v15 : D) (v16 v17 : Bool) (v18 : D) (v19 : Bool) (v20 v21 : Int) {F0 F1 F2 F3 F4 F5 : D} (h0 : FM (.int v12) v13 v14 v15 (.bool v16) = F0) (h1 : LU (sl F0 1) (sl F0 5) (sl F0 2) (sl F0 3) (sl F0 4) (.int v20) = F1) (h2 : Mj v0 (.bool v1) v2 v3 (.bool v4) v5 (.bool v6) v7 (.bool v8) v9 (.bool v10) (.int v11) (.int v12) v13 v14 v15 (.bool v16) (.bool false) v18 (.bool v19) (sl F1 4) (sl F1 7) (sl F0 2) (sl F1 5) (sl F1 6) (.bool (decide (0 < (len (sl F1 1) : Int)))) (.int v20) (.int v21) = F2) (h3 : Mj v0 (.bool v1) v2 v3 (.bool v4) v5 (.bool v6) v7 (.bool v8) v9 (.bool v10) (.int v11) (.int v12) v13 v14 v15 (.bool v16) (.bool true) v18 (.bool v19) (sl F1 4) (sl F1 7) (sl F0 2) (sl F1 5) (sl F1 6) (.bool true) (.int v20) (.int v21) = F3) (h4 : Ky v0 (.bool v1) v2 v3 (.bool v4) v5 (.bool v6) v7 (.bool v8) v9 (.bool v10) (.int v11) (.int v12) v13 v14 v15 (.bool v16) (.bool v17) v18 (.bool v19) (sl F1 4) (sl F1 7) (sl F0 2) (sl F1 5) (sl F1 6) (.bool (decide (0 < (len (sl F1 1) : Int)))) (cl v7 v21 0) (cl v7 v21 1) (cl v7 v21 2) (cl v7 v21 3) (cl v7 v21 4) (cl v7 v21 5) (cl v7 v21 6) (cl v7 v21 7) (cl v7 v21 8) = F4) (h5 : Ky v0 (.bool v1) v2 v3 (.bool v4) v5 (.bool v6) v7 (.bool v8) v9 (.bool v10) (.int v11) (.int v12) v13 v14 v15 (.bool v16) (.bool v17) v18 (.bool v19) (sl F1 4) (sl F1 7) (sl F0 2) (sl F1 5) (sl F1 6) (.bool true) (cl v7 v21 0) (cl v7 v21 1) (cl v7 v21 2) (cl v7 v21 3) (cl v7 v21 4) (cl v7 v21 5) (cl v7 v21 6) (cl v7 v21 7) (cl v7 v21 8) = F5) : Ba v0 (.bool v1) v2 v3 (.bool v4) v5 (.bool v6) v7 (.bool v8) v9 (.bool v10) (.int v11) (.int v12) v13 v14 v15 (.bool v16) (.bool v17) v18 (.bool v19) (.int v20) (.int v21) =
  cond (v21 < 0) (
 .row [.int 1, (.int 2), v9, (.bool v10), (.int v11), (.bool v17), v18, (.bool v19), v0, (.bool v1), (.int v12), v14, v15, (.bool v16), v13]) (
 cond (v21 < len v7) (
 cond (v20 < v12) (
 .row [.int 1, (.int 3), v9, (.bool v10), (.int v11), (.bool v17), v18, (.bool v19), v0, (.bool v1), (.int v12), v14, v15, (.bool v16), v13]) (
 cond (1099511627776 < v20) (
 .row [.int 1, (.int 3), v9, (.bool v10), (.int v11), (.bool v17), v18, (.bool v19), v0, (.bool v1), (.int v12), v14, v15, (.bool v16), v13]) (
 cond ((sl F0 0).toInt = 1) (
 cond ((sl F1 0).toInt = 1) (
 cond (v17) (
 cond ((sl F5 0).toInt = 1) (
 cond ((sl F5 1).toBool) (
 cond ((sl F3 0).toInt = 1) (
 .row [.int 1, (.int 0), (sl F3 1), (sl F3 2), (sl F3 3), (.bool false), (sl F3 4), (sl F3 5), (sl F3 6), (sl F3 7), (sl F3 13), (sl F3 14), (sl F3 15), (sl F3 16), (sl F3 17)]) (
 .row [])) (
 .row [.int 1, (.int 8), v9, (.bool v10), (.int v11), (.bool true), v18, (.bool v19), v0, (.bool v1), (.int v12), v14, v15, (.bool v16), v13])) (
 .row [])) (
 cond ((sl F4 0).toInt = 1) (
 cond ((sl F4 1).toBool) (
 cond ((sl F2 0).toInt = 1) (
 .row [.int 1, (.int 0), (sl F2 1), (sl F2 2), (sl F2 3), (.bool false), (sl F2 4), (sl F2 5), (sl F2 6), (sl F2 7), (sl F2 13), (sl F2 14), (sl F2 15), (sl F2 16), (sl F2 17)]) (
 .row [])) (
 .row [.int 1, (.int 8), v9, (.bool v10), (.int v11), (.bool false), v18, (.bool v19), v0, (.bool v1), (.int v12), v14, v15, (.bool v16), v13])) (
 .row []))) (
 .row [])) (
 .row [])))) (
 .row [.int 1, (.int 2), v9, (.bool v10), (.int v11), (.bool v17), v18, (.bool v19), v0, (.bool v1), (.int v12), v14, v15, (.bool v16), v13])) := by
  subst h0; subst h1; subst h2; subst h3; subst h4; subst h5; exact gw rfl rfl (cL rfl (cL (cL rfl (cL rfl (cQ (cQ (cg rfl (cQ (cg rfl (cQ rfl rfl) rfl) rfl) (cQ (cg rfl (cQ rfl rfl) rfl) rfl)) rfl) rfl))) rfl))
theorem X6 (v0 v1 v2 v3 : D) (v4 : Int) (v5 v6 v7 : D) (v8 v9 v10 : Int) : OC v0 v1 v2 v3 (.int v4) v5 v6 v7 (.int v8) (.int v9) (.int v10) =
  cond ((sl (Jl v0 v1 v2 v3 (.int v4) v5 v6 v7 (.int v8) (.int v9) (.int v10)) 0).toInt = 1) (
 cond ((sl (Jl v0 v1 v2 v3 (.int v4) v5 v6 v7 (.int v8) (.int v9) (.int v10)) 2).toInt = 0) (
 cond ((sl (Jl v0 v1 v2 v3 (.int v4) v5 v6 v7 (.int v8) (.int v9) (.int v10)) 1).toBool) (
 cond (eqC v7 0 0) (
 .row [.int 1, v0, v1, (.int 0)]) (
 cond ((sl (DN v0 v1 v7) 0).toInt = 1) (
 cond ((len v1 : Int) < 1048576) (
 cond ((sl (DN v0 v1 v7) 1).toInt < 0) (
 .row []) (
 cond ((sl (DN v0 v1 v7) 1).toInt < len (ct Ax v1)) (
 .row [.int 1, v0, (ni (upd (ct Ax v1) (sl (DN v0 v1 v7) 1).toInt 0 (.int (IntKind.wrap .i64 ((cl (ct Ax v1) (sl (DN v0 v1 v7) 1).toInt 0).toInt + v10)))) false), (.int 0)]) (
 .row []))) (
 .row [])) (
 .row []))) (
 .row [.int 1, v0, v1, (.int 8)])) (
 .row [.int 1, v0, v1, (sl (Jl v0 v1 v2 v3 (.int v4) v5 v6 v7 (.int v8) (.int v9) (.int v10)) 2)])) (
 .row []) := gw rfl rfl (cQ (cQ (cg rfl (cg rfl rfl (cQ (cL rfl rfl) rfl)) rfl) rfl) rfl)
theorem Ms (v0 v1 v2 v3 v4 : D) (v5 : Int) (v6 v7 : D) (v8 : Int) (v9 : D) (v10 v11 : Int) : Cp v0 v1 v2 v3 v4 (.int v5) v6 v7 (.int v8) v9 (.int v10) (.int v11) =
  cond (v11 < 0) (
 .row [.int 1, v0, v1, v2, v3, v4, (.int v5), v6, v7, (.int v8), v9, (.int 2)]) (
 cond (v11 < len v3) (
 cond (v10 < v8) (
 .row [.int 1, v0, v1, v2, v3, v4, (.int v5), v6, v7, (.int v8), v9, (.int 3)]) (
 cond (1099511627776 < v10) (
 .row [.int 1, v0, v1, v2, v3, v4, (.int v5), v6, v7, (.int v8), v9, (.int 3)]) (
 cond ((sl (G6 v0 v1 v2 v3 v4 (.int v5) v6 v7 (.int v8) v9 (.int v10) (.int v11)) 0).toInt = 1) (
 cond ((sl (G6 v0 v1 v2 v3 v4 (.int v5) v6 v7 (.int v8) v9 (.int v10) (.int v11)) 1).toBool) (
 cond ((sl (OC v6 v7 (cl v3 v11 0) (cl v3 v11 1) (cl v3 v11 2) (cl v3 v11 3) (cl v3 v11 4) (cl v3 v11 5) (cl v3 v11 6) (cl v3 v11 7) (cl v3 v11 8)) 0).toInt = 1) (
 cond ((len v9 : Int) < 1048576) (
 cond ((len (ct Ax v9) : Int) < 1073741824) (
 .row [.int 1, v0, v1, v2, v3, (cl v3 v11 1), (.int v10), (sl (OC v6 v7 (cl v3 v11 0) (cl v3 v11 1) (cl v3 v11 2) (cl v3 v11 3) (cl v3 v11 4) (cl v3 v11 5) (cl v3 v11 6) (cl v3 v11 7) (cl v3 v11 8)) 1), (sl (OC v6 v7 (cl v3 v11 0) (cl v3 v11 1) (cl v3 v11 2) (cl v3 v11 3) (cl v3 v11 4) (cl v3 v11 5) (cl v3 v11 6) (cl v3 v11 7) (cl v3 v11 8)) 2), (.int v10), (ni (ad (ct Ax v9) (.row [(.int v11), (.int v10)])) false), (.int 0)]) (
 .row [])) (
 .row [])) (
 .row [])) (
 .row [.int 1, v0, v1, v2, v3, v4, (.int v5), v6, v7, (.int v8), v9, (.int 8)])) (
 .row [])))) (
 .row [.int 1, v0, v1, v2, v3, v4, (.int v5), v6, v7, (.int v8), v9, (.int 2)])) := gw rfl rfl (cL rfl (cL (cL rfl (cL rfl (cQ (cg rfl (cQ (cL (cL rfl rfl) rfl) rfl) rfl) rfl))) rfl))
theorem Rv (v0 v1 : D) (v2 : Int) (v3 : D) (v4 : Bool) (v5 v6 : D) (v7 : Bool) (v8 : D) (v9 : Bool) (v10 : D) (v11 : Bool) (v12 : D) (v13 : Bool) (v14 v15 : Int) (v16 v17 v18 : D) (v19 v20 : Bool) (v21 : D) (v22 : Bool) (v23 : Int) (v24 v25 v26 : D) (v27 v28 : Bool) (v29 : D) (v30 : Bool) (v31 : D) : KR v0 v1 (.int v2) v3 (.bool v4) v5 v6 (.bool v7) v8 (.bool v9) v10 (.bool v11) v12 (.bool v13) (.int v14) (.int v15) v16 v17 v18 (.bool v19) (.bool v20) v21 (.bool v22) (.int v23) v24 v25 v26 (.bool v27) (.bool v28) v29 (.bool v30) v31 =
 IC v29 (.bool v30) (.int 0) v0 v1 (.int v2) (.bool v28) v5 v6 (.bool v7) v8 (.bool v9) v10 (.bool v11) v12 (.bool v13) (.int v14) (.bool v20) v21 (.bool v22) v3 (.bool v4) (.int v15) v17 v18 (.bool v19) v16 (.int v23) v25 v26 (.bool v27) v24 v31 := gw rfl rfl rfl
theorem YE (v0 : D) (v1 : Bool) (v2 : Int) (v3 v4 : D) (v5 : Int) (v6 : Bool) (v7 v8 : D) (v9 : Bool) (v10 : D) (v11 : Bool) (v12 : D) (v13 : Bool) (v14 : D) (v15 : Bool) (v16 : Int) (v17 : Bool) (v18 : D) (v19 : Bool) (v20 : D) (v21 : Bool) (v22 : Int) (v23 v24 : D) (v25 : Bool) (v26 : D) (v27 : Int) (v28 v29 : D) (v30 : Bool) (v31 v32 : D) : IC v0 (.bool v1) (.int v2) v3 v4 (.int v5) (.bool v6) v7 v8 (.bool v9) v10 (.bool v11) v12 (.bool v13) v14 (.bool v15) (.int v16) (.bool v17) v18 (.bool v19) v20 (.bool v21) (.int v22) v23 v24 (.bool v25) v26 (.int v27) v28 v29 (.bool v30) v31 v32 =
  cond (v2 < len v0) (
 cond (v2 < 0) (
 .row []) (
 cond (D.strEq (cl v0 v2 0) v32) (
 cond ((cl v0 v2 2).toInt = 2) (
 cond (D.strEq (cl v0 v2 3) v3) (
 cond (D.strEq (cl v0 v2 4) v4) (
 cond ((sl (Ky v20 (.bool v21) v7 v8 (.bool v9) v10 (.bool v11) v12 (.bool v13) v14 (.bool v15) (.int v16) (.int v22) v26 v23 v24 (.bool v25) (.bool v17) v18 (.bool v19) (.int v27) v31 v28 v29 (.bool v30) (.bool v6) (cl v0 v2 0) (cl v0 v2 1) (cl v0 v2 2) (cl v0 v2 3) (cl v0 v2 4) (cl v0 v2 5) (cl v0 v2 6) (cl v0 v2 7) (cl v0 v2 8)) 0).toInt = 1) (
 cond ((sl (Ky v20 (.bool v21) v7 v8 (.bool v9) v10 (.bool v11) v12 (.bool v13) v14 (.bool v15) (.int v16) (.int v22) v26 v23 v24 (.bool v25) (.bool v17) v18 (.bool v19) (.int v27) v31 v28 v29 (.bool v30) (.bool v6) (cl v0 v2 0) (cl v0 v2 1) (cl v0 v2 2) (cl v0 v2 3) (cl v0 v2 4) (cl v0 v2 5) (cl v0 v2 6) (cl v0 v2 7) (cl v0 v2 8)) 1).toBool) (
 .row [.int 1, (.int v2)]) (
 IC v0 (.bool v1) (.int (IntKind.wrap .i64 (v2 + 1))) v3 v4 (.int v5) (.bool v6) v7 v8 (.bool v9) v10 (.bool v11) v12 (.bool v13) v14 (.bool v15) (.int v16) (.bool v17) v18 (.bool v19) v20 (.bool v21) (.int v22) v23 v24 (.bool v25) v26 (.int v27) v28 v29 (.bool v30) v31 v32)) (
 .row [])) (
 IC v0 (.bool v1) (.int (IntKind.wrap .i64 (v2 + 1))) v3 v4 (.int v5) (.bool v6) v7 v8 (.bool v9) v10 (.bool v11) v12 (.bool v13) v14 (.bool v15) (.int v16) (.bool v17) v18 (.bool v19) v20 (.bool v21) (.int v22) v23 v24 (.bool v25) v26 (.int v27) v28 v29 (.bool v30) v31 v32)) (
 IC v0 (.bool v1) (.int (IntKind.wrap .i64 (v2 + 1))) v3 v4 (.int v5) (.bool v6) v7 v8 (.bool v9) v10 (.bool v11) v12 (.bool v13) v14 (.bool v15) (.int v16) (.bool v17) v18 (.bool v19) v20 (.bool v21) (.int v22) v23 v24 (.bool v25) v26 (.int v27) v28 v29 (.bool v30) v31 v32)) (
 IC v0 (.bool v1) (.int (IntKind.wrap .i64 (v2 + 1))) v3 v4 (.int v5) (.bool v6) v7 v8 (.bool v9) v10 (.bool v11) v12 (.bool v13) v14 (.bool v15) (.int v16) (.bool v17) v18 (.bool v19) v20 (.bool v21) (.int v22) v23 v24 (.bool v25) v26 (.int v27) v28 v29 (.bool v30) v31 v32)) (
 IC v0 (.bool v1) (.int (IntKind.wrap .i64 (v2 + 1))) v3 v4 (.int v5) (.bool v6) v7 v8 (.bool v9) v10 (.bool v11) v12 (.bool v13) v14 (.bool v15) (.int v16) (.bool v17) v18 (.bool v19) v20 (.bool v21) (.int v22) v23 v24 (.bool v25) v26 (.int v27) v28 v29 (.bool v30) v31 v32))) (
 .row [.int 2]) := gw rfl rfl (cL (cL rfl (cg rfl (cQ (cg rfl (cg rfl (cQ rfl rfl) rfl) rfl) rfl) rfl)) rfl)
theorem MN (v0 : D) (v1 : Bool) (v2 v3 : D) (v4 : Bool) (v5 : D) (v6 : Bool) (v7 : D) (v8 : Bool) (v9 : D) (v10 : Bool) (v11 v12 : Int) (v13 v14 v15 : D) (v16 v17 : Bool) (v18 : D) (v19 : Bool) (v20 : Int) (v21 v22 : D) {F0 F1 F2 F3 F4 F5 F6 : D} (h0 : FM (.int v12) v13 v14 v15 (.bool v16) = F0) (h1 : LU (sl F0 1) (sl F0 5) (sl F0 2) (sl F0 3) (sl F0 4) (.int v20) = F1) (h2 : Dy v7 (.bool v8) = F2) (h3 : KR v21 v22 (.int (-1)) v0 (.bool v1) v2 v3 (.bool v4) v5 (.bool v6) v7 (.bool v8) v9 (.bool v10) (.int v11) (.int v12) v13 v14 v15 (.bool v16) (.bool v17) v18 (.bool v19) (sl F1 4) (sl F1 7) (sl F0 2) (sl F1 5) (sl F1 6) (.bool (decide (0 < (len (sl F1 1) : Int)))) (sl F2 1) (sl F2 2) v9 = F3) (h4 : KR v21 v22 (.int (-1)) v0 (.bool v1) v2 v3 (.bool v4) v5 (.bool v6) v7 (.bool v8) v9 (.bool v10) (.int v11) (.int v12) v13 v14 v15 (.bool v16) (.bool v17) v18 (.bool v19) (sl F1 4) (sl F1 7) (sl F0 2) (sl F1 5) (sl F1 6) (.bool true) (sl F2 1) (sl F2 2) v9 = F4) (h5 : Mj v0 (.bool v1) v2 v3 (.bool v4) v5 (.bool v6) v7 (.bool v8) v9 (.bool v10) (.int v11) (.int v12) v13 v14 v15 (.bool v16) (.bool false) v18 (.bool v19) (sl F1 4) (sl F1 7) (sl F0 2) (sl F1 5) (sl F1 6) (.bool (decide (0 < (len (sl F1 1) : Int)))) (.int v20) (sl F3 1) = F5) (h6 : Mj v0 (.bool v1) v2 v3 (.bool v4) v5 (.bool v6) v7 (.bool v8) v9 (.bool v10) (.int v11) (.int v12) v13 v14 v15 (.bool v16) (.bool true) v18 (.bool v19) (sl F1 4) (sl F1 7) (sl F0 2) (sl F1 5) (sl F1 6) (.bool true) (.int v20) (sl F4 1) = F6) : MB v0 (.bool v1) v2 v3 (.bool v4) v5 (.bool v6) v7 (.bool v8) v9 (.bool v10) (.int v11) (.int v12) v13 v14 v15 (.bool v16) (.bool v17) v18 (.bool v19) (.int v20) v21 v22 =
  cond (v20 < v12) (
 .row [.int 1, (.int 0), (.int 3), v9, (.bool v10), (.int v11), (.bool v17), v18, (.bool v19), v0, (.bool v1), (.int v12), v14, v15, (.bool v16), v13]) (
 cond (1099511627776 < v20) (
 .row [.int 1, (.int 0), (.int 3), v9, (.bool v10), (.int v11), (.bool v17), v18, (.bool v19), v0, (.bool v1), (.int v12), v14, v15, (.bool v16), v13]) (
 cond ((sl F0 0).toInt = 1) (
 cond ((sl F1 0).toInt = 1) (
 cond (v17) (
 cond ((sl F2 0).toInt = 1) (
 cond ((sl F4 0).toInt = 1) (
 cond ((sl F4 1).toInt < 0) (
 .row [.int 1, (.int 0), (.int 9), v9, (.bool v10), (.int v11), (.bool true), v18, (.bool v19), v0, (.bool v1), (.int v12), v14, v15, (.bool v16), v13]) (
 cond ((sl F6 0).toInt = 1) (
 .row [.int 1, (sl F4 1), (.int 0), (sl F6 1), (sl F6 2), (sl F6 3), (.bool false), (sl F6 4), (sl F6 5), (sl F6 6), (sl F6 7), (sl F6 13), (sl F6 14), (sl F6 15), (sl F6 16), (sl F6 17)]) (
 .row []))) (
 cond ((sl F4 0).toInt = 2) (
 .row [.int 1, (.int 0), (.int 9), v9, (.bool v10), (.int v11), (.bool true), v18, (.bool v19), v0, (.bool v1), (.int v12), v14, v15, (.bool v16), v13]) (
 .row []))) (
 .row [])) (
 cond ((sl F2 0).toInt = 1) (
 cond ((sl F3 0).toInt = 1) (
 cond ((sl F3 1).toInt < 0) (
 .row [.int 1, (.int 0), (.int 9), v9, (.bool v10), (.int v11), (.bool false), v18, (.bool v19), v0, (.bool v1), (.int v12), v14, v15, (.bool v16), v13]) (
 cond ((sl F5 0).toInt = 1) (
 .row [.int 1, (sl F3 1), (.int 0), (sl F5 1), (sl F5 2), (sl F5 3), (.bool false), (sl F5 4), (sl F5 5), (sl F5 6), (sl F5 7), (sl F5 13), (sl F5 14), (sl F5 15), (sl F5 16), (sl F5 17)]) (
 .row []))) (
 cond ((sl F3 0).toInt = 2) (
 .row [.int 1, (.int 0), (.int 9), v9, (.bool v10), (.int v11), (.bool false), v18, (.bool v19), v0, (.bool v1), (.int v12), v14, v15, (.bool v16), v13]) (
 .row []))) (
 .row []))) (
 .row [])) (
 .row []))) := by
  subst h0; subst h1; subst h2; subst h3; subst h4; subst h5; subst h6; exact gw rfl rfl (cL rfl (cL rfl (cQ (cQ (cg rfl (cQ (cQ (cL rfl (cQ rfl rfl)) (cQ rfl rfl)) rfl) (cQ (cQ (cL rfl (cQ rfl rfl)) (cQ rfl rfl)) rfl)) rfl) rfl)))
theorem O7 (v0 v1 v2 v3 v4 : D) (v5 : Int) (v6 v7 : D) (v8 : Int) (v9 : D) (v10 : Int) (v11 v12 : D) : MA v0 v1 v2 v3 v4 (.int v5) v6 v7 (.int v8) v9 (.int v10) v11 v12 =
  cond (v10 < v8) (
 .row [.int 1, v0, v1, v2, v3, v4, (.int v5), v6, v7, (.int v8), v9, (.int 0), (.int 3)]) (
 cond (1099511627776 < v10) (
 .row [.int 1, v0, v1, v2, v3, v4, (.int v5), v6, v7, (.int v8), v9, (.int 0), (.int 3)]) (
 Jv (.int v10) v11 v12 (.int 0) v0 v1 v2 v3 v4 (.int v5) v6 v7 (.int v8) v9)) := gw rfl rfl (cL rfl (cL rfl rfl))
theorem X5 (v0 : Int) (v1 v2 : D) (v3 : Int) (v4 v5 v6 v7 v8 : D) (v9 : Int) (v10 v11 : D) (v12 : Int) (v13 : D) : Jv (.int v0) v1 v2 (.int v3) v4 v5 v6 v7 v8 (.int v9) v10 v11 (.int v12) v13 =
  cond (v3 < len v7) (
 cond (v3 < 0) (
 .row []) (
 cond ((cl v7 v3 2).toInt = 2) (
 cond (D.strEq (cl v7 v3 3) v1) (
 cond (D.strEq (cl v7 v3 4) v2) (
 cond ((sl (G6 v4 v5 v6 v7 v8 (.int v9) v10 v11 (.int v12) v13 (.int v0) (.int v3)) 0).toInt = 1) (
 cond ((sl (G6 v4 v5 v6 v7 v8 (.int v9) v10 v11 (.int v12) v13 (.int v0) (.int v3)) 1).toBool) (
 cond ((sl (Cp v4 v5 v6 v7 v8 (.int v9) v10 v11 (.int v12) v13 (.int v0) (.int v3)) 0).toInt = 1) (
 .row [.int 1, (sl (Cp v4 v5 v6 v7 v8 (.int v9) v10 v11 (.int v12) v13 (.int v0) (.int v3)) 1), (sl (Cp v4 v5 v6 v7 v8 (.int v9) v10 v11 (.int v12) v13 (.int v0) (.int v3)) 2), (sl (Cp v4 v5 v6 v7 v8 (.int v9) v10 v11 (.int v12) v13 (.int v0) (.int v3)) 3), (sl (Cp v4 v5 v6 v7 v8 (.int v9) v10 v11 (.int v12) v13 (.int v0) (.int v3)) 4), (sl (Cp v4 v5 v6 v7 v8 (.int v9) v10 v11 (.int v12) v13 (.int v0) (.int v3)) 5), (sl (Cp v4 v5 v6 v7 v8 (.int v9) v10 v11 (.int v12) v13 (.int v0) (.int v3)) 6), (sl (Cp v4 v5 v6 v7 v8 (.int v9) v10 v11 (.int v12) v13 (.int v0) (.int v3)) 7), (sl (Cp v4 v5 v6 v7 v8 (.int v9) v10 v11 (.int v12) v13 (.int v0) (.int v3)) 8), (sl (Cp v4 v5 v6 v7 v8 (.int v9) v10 v11 (.int v12) v13 (.int v0) (.int v3)) 9), (sl (Cp v4 v5 v6 v7 v8 (.int v9) v10 v11 (.int v12) v13 (.int v0) (.int v3)) 10), (.int v3), (.int 0)]) (
 .row [])) (
 Jv (.int v0) v1 v2 (.int (IntKind.wrap .i64 (v3 + 1))) v4 v5 v6 v7 v8 (.int v9) v10 v11 (.int v12) v13)) (
 .row [])) (
 Jv (.int v0) v1 v2 (.int (IntKind.wrap .i64 (v3 + 1))) v4 v5 v6 v7 v8 (.int v9) v10 v11 (.int v12) v13)) (
 Jv (.int v0) v1 v2 (.int (IntKind.wrap .i64 (v3 + 1))) v4 v5 v6 v7 v8 (.int v9) v10 v11 (.int v12) v13)) (
 Jv (.int v0) v1 v2 (.int (IntKind.wrap .i64 (v3 + 1))) v4 v5 v6 v7 v8 (.int v9) v10 v11 (.int v12) v13))) (
 .row [.int 1, v4, v5, v6, v7, v8, (.int v9), v10, v11, (.int v12), v13, (.int 0), (.int 9)]) := gw rfl rfl (cL (cL rfl (cQ (cg rfl (cg rfl (cQ (cg rfl (cQ rfl rfl) rfl) rfl) rfl) rfl) rfl)) rfl)
theorem fJ (v0 : D) (v1 : Bool) : OE v0 (.bool v1) =
  cond (v1) (
 .row [.int 1, Ay, (.bool true)]) (
 cond ((len v0 : Int) < 1048576) (
 .row [.int 1, (ct Ax v0), (.bool false)]) (
 .row [])) := gw rfl rfl (cg rfl rfl (cL rfl rfl))
theorem kg (v0 : D) (v1 : Bool) : Py v0 (.bool v1) =
  cond ((sl (OE v0 (.bool v1)) 0).toInt = 1) (
 .row [.int 1, (sl (OE v0 (.bool v1)) 1), (sl (OE v0 (.bool v1)) 2)]) (
 .row []) := gw rfl rfl (cQ rfl rfl)
theorem iL (v0 : D) (v1 : Bool) (v2 v3 : D) (v4 : Bool) (v5 : D) (v6 : Bool) (v7 : D) (v8 : Bool) (v9 : D) (v10 : Bool) (v11 v12 : Int) (v13 v14 v15 : D) (v16 v17 : Bool) (v18 : D) (v19 : Bool) : V4 v0 (.bool v1) v2 v3 (.bool v4) v5 (.bool v6) v7 (.bool v8) v9 (.bool v10) (.int v11) (.int v12) v13 v14 v15 (.bool v16) (.bool v17) v18 (.bool v19) =
  cond ((sl (Py v0 (.bool v1)) 0).toInt = 1) (
 cond ((sl (FM (.int v12) v13 v14 v15 (.bool v16)) 0).toInt = 1) (
 cond ((sl (Db v18 (.bool v19)) 0).toInt = 1) (
 .row [.int 1, v3, v5, v7, v2, (.bool v4), (.bool v6), (.bool v8), v9, (.bool v10), (.int v11), (.bool v17), (sl (Db v18 (.bool v19)) 1), (sl (Db v18 (.bool v19)) 2), (sl (Py v0 (.bool v1)) 1), (sl (Py v0 (.bool v1)) 2), (sl (FM (.int v12) v13 v14 v15 (.bool v16)) 1), (sl (FM (.int v12) v13 v14 v15 (.bool v16)) 2), (sl (FM (.int v12) v13 v14 v15 (.bool v16)) 3), (sl (FM (.int v12) v13 v14 v15 (.bool v16)) 4), (sl (FM (.int v12) v13 v14 v15 (.bool v16)) 5)]) (
 .row [])) (
 .row [])) (
 .row []) := gw rfl rfl (cQ (cQ (cQ rfl rfl) rfl) rfl)
theorem H0 (v0 : D) (v1 : Bool) (v2 v3 : D) (v4 : Bool) (v5 : D) (v6 : Bool) (v7 : D) (v8 : Bool) (v9 : D) (v10 : Bool) (v11 v12 : Int) (v13 v14 v15 : D) (v16 v17 : Bool) (v18 : D) (v19 : Bool) (v20 v21 v22 v23 v24 : D) (v25 : Int) (v26 v27 : D) (v28 : Int) (v29 : D) (v30 v31 v32 : Int) (v33 v34 : D) {F0 F1 F2 F3 F4 F5 F6 F7 F8 F9 F10 F11 F12 F13 F14 : D} (h0 : Ba v0 (.bool v1) v2 v3 (.bool v4) v5 (.bool v6) v7 (.bool v8) v9 (.bool v10) (.int v11) (.int v12) v13 v14 v15 (.bool v16) (.bool v17) v18 (.bool v19) (.int v31) (.int v32) = F0) (h1 : MB v0 (.bool v1) v2 v3 (.bool v4) v5 (.bool v6) v7 (.bool v8) v9 (.bool v10) (.int v11) (.int v12) v13 v14 v15 (.bool v16) (.bool v17) v18 (.bool v19) (.int v31) v33 v34 = F1) (h2 : PA v0 (.bool v1) v2 v3 (.bool v4) v5 (.bool v6) v7 (.bool v8) v9 (.bool v10) (.int v11) (.int v12) v13 v14 v15 (.bool v16) (.bool v17) v18 (.bool v19) (.int v31) = F2) (h3 : Cp v20 v21 v22 v23 v24 (.int v25) v26 v27 (.int v28) v29 (.int v31) (.int v32) = F3) (h4 : MA v20 v21 v22 v23 v24 (.int v25) v26 v27 (.int v28) v29 (.int v31) v33 v34 = F4) (h5 : R8 v20 v21 v22 v23 v24 (.int v25) v26 v27 (.int v28) v29 (.int v31) = F5) (h6 : V4 v0 (.bool v1) v2 v3 (.bool v4) v5 (.bool v6) v7 (.bool v8) v9 (.bool v10) (.int v11) (.int v12) v13 v14 v15 (.bool v16) (.bool v17) v18 (.bool v19) = F6) (h7 : LV v20 v21 v22 v23 v24 (.int v25) v26 v27 (.int v28) v29 = F7) (h8 : Ba v0 (.bool v1) v2 v3 (.bool v4) v5 (.bool v6) v7 (.bool v8) v9 (.bool v10) (.int v11) (.int v12) v13 v14 v15 (.bool v16) (.bool v17) v18 (.bool v19) (sl F7 1) (.int v32) = F8) (h9 : Cp v20 v21 v22 v23 v24 (.int v25) v26 v27 (.int v28) v29 (sl F7 1) (.int v32) = F9) (h10 : GD (sl F0 8) (sl F0 9) v2 v3 (.bool v4) v5 (.bool v6) v7 (.bool v8) (sl F0 2) (sl F0 3) (sl F0 4) (sl F0 10) (sl F0 14) (sl F0 11) (sl F0 12) (sl F0 13) (sl F0 5) (sl F0 6) (sl F0 7) (sl F3 1) (sl F3 2) (sl F3 3) (sl F3 4) (sl F3 5) (sl F3 6) (sl F3 7) (sl F3 8) (sl F3 9) (sl F3 10) = F10) (h11 : PA v0 (.bool v1) v2 (sl F6 1) (.bool v4) (sl F6 2) (.bool v6) (sl F6 3) (.bool v8) v9 (.bool v10) (.int v11) (.int v12) v13 v14 v15 (.bool v16) (.bool v17) v18 (.bool v19) (.int 1099511627776) = F11) (h12 : GD (sl F1 9) (sl F1 10) v2 v3 (.bool v4) v5 (.bool v6) v7 (.bool v8) (sl F1 3) (sl F1 4) (sl F1 5) (sl F1 11) (sl F1 15) (sl F1 12) (sl F1 13) (sl F1 14) (sl F1 6) (sl F1 7) (sl F1 8) (sl F4 1) (sl F4 2) (sl F4 3) (sl F4 4) (sl F4 5) (sl F4 6) (sl F4 7) (sl F4 8) (sl F4 9) (sl F4 10) = F12) (h13 : GD v0 (.bool v1) v2 v3 (.bool v4) v5 (.bool v6) v7 (.bool v8) v9 (.bool v10) (.int v11) (sl F2 5) (sl F2 9) (sl F2 6) (sl F2 7) (sl F2 8) (sl F2 4) v18 (.bool v19) (sl F5 1) (sl F5 2) (sl F5 3) (sl F5 4) (sl F5 5) (sl F5 6) (sl F5 7) (sl F5 8) (sl F5 9) (sl F5 10) = F13) (h14 : GD (sl F8 8) (sl F8 9) v2 v3 (.bool v4) v5 (.bool v6) v7 (.bool v8) (sl F8 2) (sl F8 3) (sl F8 4) (sl F8 10) (sl F8 14) (sl F8 11) (sl F8 12) (sl F8 13) (sl F8 5) (sl F8 6) (sl F8 7) (sl F9 1) (sl F9 2) (sl F9 3) (sl F9 4) (sl F9 5) (sl F9 6) (sl F9 7) (sl F9 8) (sl F9 9) (sl F9 10) = F14) : TH v0 (.bool v1) v2 v3 (.bool v4) v5 (.bool v6) v7 (.bool v8) v9 (.bool v10) (.int v11) (.int v12) v13 v14 v15 (.bool v16) (.bool v17) v18 (.bool v19) v20 v21 v22 v23 v24 (.int v25) v26 v27 (.int v28) v29 (.int v30) (.int v31) (.int v32) v33 v34 =
  cond (v30 = 0) (
 cond ((sl F2 0).toInt = 1) (
 cond ((sl F5 0).toInt = 1) (
 cond ((sl (Jk (sl F2 1) (sl F2 2) (sl F5 11) (sl F5 12)) 0).toInt = 1) (
 cond ((sl (Jk (sl F2 1) (sl F2 2) (sl F5 11) (sl F5 12)) 1).toBool) (
 cond ((sl F2 3).toInt = (sl F5 13).toInt) (
 cond ((sl F13 0).toInt = 1) (
 .row [.int 1, (sl F5 1), (sl F5 2), (sl F5 3), (sl F5 4), (sl F5 5), (sl F5 6), (sl F5 7), (sl F5 8), (sl F5 9), (sl F5 10), (sl F13 1), v3, v5, v7, (sl F2 5), (sl F2 6), (sl F2 7), (sl F2 8), (sl F2 9), v18, v2, (.bool v4), (.bool v6), (.bool v8), v9, (.bool v10), (.int v11), (sl F2 4), (.bool v19), v0, (.bool v1)]) (
 .row [])) (
 .row [.int 1, (sl F5 1), (sl F5 2), (sl F5 3), (sl F5 4), (sl F5 5), (sl F5 6), (sl F5 7), (sl F5 8), (sl F5 9), (sl F5 10), (.bool false), v3, v5, v7, (sl F2 5), (sl F2 6), (sl F2 7), (sl F2 8), (sl F2 9), v18, v2, (.bool v4), (.bool v6), (.bool v8), v9, (.bool v10), (.int v11), (sl F2 4), (.bool v19), v0, (.bool v1)])) (
 .row [.int 1, (sl F5 1), (sl F5 2), (sl F5 3), (sl F5 4), (sl F5 5), (sl F5 6), (sl F5 7), (sl F5 8), (sl F5 9), (sl F5 10), (.bool false), v3, v5, v7, (sl F2 5), (sl F2 6), (sl F2 7), (sl F2 8), (sl F2 9), v18, v2, (.bool v4), (.bool v6), (.bool v8), v9, (.bool v10), (.int v11), (sl F2 4), (.bool v19), v0, (.bool v1)])) (
 .row [])) (
 .row [])) (
 .row [])) (
 cond (v30 = 1) (
 cond ((sl F2 0).toInt = 1) (
 cond ((sl F5 0).toInt = 1) (
 cond ((sl (Jk (sl F2 1) (sl F2 2) (sl F5 11) (sl F5 12)) 0).toInt = 1) (
 cond ((sl (Jk (sl F2 1) (sl F2 2) (sl F5 11) (sl F5 12)) 1).toBool) (
 cond ((sl F2 3).toInt = (sl F5 13).toInt) (
 cond ((sl F13 0).toInt = 1) (
 .row [.int 1, (sl F5 1), (sl F5 2), (sl F5 3), (sl F5 4), (sl F5 5), (sl F5 6), (sl F5 7), (sl F5 8), (sl F5 9), (sl F5 10), (sl F13 1), v3, v5, v7, (sl F2 5), (sl F2 6), (sl F2 7), (sl F2 8), (sl F2 9), v18, v2, (.bool v4), (.bool v6), (.bool v8), v9, (.bool v10), (.int v11), (sl F2 4), (.bool v19), v0, (.bool v1)]) (
 .row [])) (
 .row [.int 1, (sl F5 1), (sl F5 2), (sl F5 3), (sl F5 4), (sl F5 5), (sl F5 6), (sl F5 7), (sl F5 8), (sl F5 9), (sl F5 10), (.bool false), v3, v5, v7, (sl F2 5), (sl F2 6), (sl F2 7), (sl F2 8), (sl F2 9), v18, v2, (.bool v4), (.bool v6), (.bool v8), v9, (.bool v10), (.int v11), (sl F2 4), (.bool v19), v0, (.bool v1)])) (
 .row [.int 1, (sl F5 1), (sl F5 2), (sl F5 3), (sl F5 4), (sl F5 5), (sl F5 6), (sl F5 7), (sl F5 8), (sl F5 9), (sl F5 10), (.bool false), v3, v5, v7, (sl F2 5), (sl F2 6), (sl F2 7), (sl F2 8), (sl F2 9), v18, v2, (.bool v4), (.bool v6), (.bool v8), v9, (.bool v10), (.int v11), (sl F2 4), (.bool v19), v0, (.bool v1)])) (
 .row [])) (
 .row [])) (
 .row [])) (
 cond (v30 = 2) (
 cond ((sl F0 0).toInt = 1) (
 cond ((sl F3 0).toInt = 1) (
 cond ((sl F0 1).toInt = (sl F3 11).toInt) (
 cond ((sl F10 0).toInt = 1) (
 .row [.int 1, (sl F3 1), (sl F3 2), (sl F3 3), (sl F3 4), (sl F3 5), (sl F3 6), (sl F3 7), (sl F3 8), (sl F3 9), (sl F3 10), (sl F10 1), v3, v5, v7, (sl F0 10), (sl F0 11), (sl F0 12), (sl F0 13), (sl F0 14), (sl F0 6), v2, (.bool v4), (.bool v6), (.bool v8), (sl F0 2), (sl F0 3), (sl F0 4), (sl F0 5), (sl F0 7), (sl F0 8), (sl F0 9)]) (
 .row [])) (
 .row [.int 1, (sl F3 1), (sl F3 2), (sl F3 3), (sl F3 4), (sl F3 5), (sl F3 6), (sl F3 7), (sl F3 8), (sl F3 9), (sl F3 10), (.bool false), v3, v5, v7, (sl F0 10), (sl F0 11), (sl F0 12), (sl F0 13), (sl F0 14), (sl F0 6), v2, (.bool v4), (.bool v6), (.bool v8), (sl F0 2), (sl F0 3), (sl F0 4), (sl F0 5), (sl F0 7), (sl F0 8), (sl F0 9)])) (
 .row [])) (
 .row [])) (
 cond (v30 = 3) (
 cond ((sl F0 0).toInt = 1) (
 cond ((sl F3 0).toInt = 1) (
 cond ((sl F0 1).toInt = (sl F3 11).toInt) (
 cond ((sl F10 0).toInt = 1) (
 .row [.int 1, (sl F3 1), (sl F3 2), (sl F3 3), (sl F3 4), (sl F3 5), (sl F3 6), (sl F3 7), (sl F3 8), (sl F3 9), (sl F3 10), (sl F10 1), v3, v5, v7, (sl F0 10), (sl F0 11), (sl F0 12), (sl F0 13), (sl F0 14), (sl F0 6), v2, (.bool v4), (.bool v6), (.bool v8), (sl F0 2), (sl F0 3), (sl F0 4), (sl F0 5), (sl F0 7), (sl F0 8), (sl F0 9)]) (
 .row [])) (
 .row [.int 1, (sl F3 1), (sl F3 2), (sl F3 3), (sl F3 4), (sl F3 5), (sl F3 6), (sl F3 7), (sl F3 8), (sl F3 9), (sl F3 10), (.bool false), v3, v5, v7, (sl F0 10), (sl F0 11), (sl F0 12), (sl F0 13), (sl F0 14), (sl F0 6), v2, (.bool v4), (.bool v6), (.bool v8), (sl F0 2), (sl F0 3), (sl F0 4), (sl F0 5), (sl F0 7), (sl F0 8), (sl F0 9)])) (
 .row [])) (
 .row [])) (
 cond (v30 = 4) (
 cond ((sl F0 0).toInt = 1) (
 cond ((sl F3 0).toInt = 1) (
 cond ((sl F0 1).toInt = (sl F3 11).toInt) (
 cond ((sl F10 0).toInt = 1) (
 .row [.int 1, (sl F3 1), (sl F3 2), (sl F3 3), (sl F3 4), (sl F3 5), (sl F3 6), (sl F3 7), (sl F3 8), (sl F3 9), (sl F3 10), (sl F10 1), v3, v5, v7, (sl F0 10), (sl F0 11), (sl F0 12), (sl F0 13), (sl F0 14), (sl F0 6), v2, (.bool v4), (.bool v6), (.bool v8), (sl F0 2), (sl F0 3), (sl F0 4), (sl F0 5), (sl F0 7), (sl F0 8), (sl F0 9)]) (
 .row [])) (
 .row [.int 1, (sl F3 1), (sl F3 2), (sl F3 3), (sl F3 4), (sl F3 5), (sl F3 6), (sl F3 7), (sl F3 8), (sl F3 9), (sl F3 10), (.bool false), v3, v5, v7, (sl F0 10), (sl F0 11), (sl F0 12), (sl F0 13), (sl F0 14), (sl F0 6), v2, (.bool v4), (.bool v6), (.bool v8), (sl F0 2), (sl F0 3), (sl F0 4), (sl F0 5), (sl F0 7), (sl F0 8), (sl F0 9)])) (
 .row [])) (
 .row [])) (
 cond (v30 = 5) (
 cond ((sl F1 0).toInt = 1) (
 cond ((sl F4 0).toInt = 1) (
 cond ((sl F1 1).toInt = (sl F4 11).toInt) (
 cond ((sl F1 2).toInt = (sl F4 12).toInt) (
 cond ((sl F12 0).toInt = 1) (
 .row [.int 1, (sl F4 1), (sl F4 2), (sl F4 3), (sl F4 4), (sl F4 5), (sl F4 6), (sl F4 7), (sl F4 8), (sl F4 9), (sl F4 10), (sl F12 1), v3, v5, v7, (sl F1 11), (sl F1 12), (sl F1 13), (sl F1 14), (sl F1 15), (sl F1 7), v2, (.bool v4), (.bool v6), (.bool v8), (sl F1 3), (sl F1 4), (sl F1 5), (sl F1 6), (sl F1 8), (sl F1 9), (sl F1 10)]) (
 .row [])) (
 .row [.int 1, (sl F4 1), (sl F4 2), (sl F4 3), (sl F4 4), (sl F4 5), (sl F4 6), (sl F4 7), (sl F4 8), (sl F4 9), (sl F4 10), (.bool false), v3, v5, v7, (sl F1 11), (sl F1 12), (sl F1 13), (sl F1 14), (sl F1 15), (sl F1 7), v2, (.bool v4), (.bool v6), (.bool v8), (sl F1 3), (sl F1 4), (sl F1 5), (sl F1 6), (sl F1 8), (sl F1 9), (sl F1 10)])) (
 .row [.int 1, (sl F4 1), (sl F4 2), (sl F4 3), (sl F4 4), (sl F4 5), (sl F4 6), (sl F4 7), (sl F4 8), (sl F4 9), (sl F4 10), (.bool false), v3, v5, v7, (sl F1 11), (sl F1 12), (sl F1 13), (sl F1 14), (sl F1 15), (sl F1 7), v2, (.bool v4), (.bool v6), (.bool v8), (sl F1 3), (sl F1 4), (sl F1 5), (sl F1 6), (sl F1 8), (sl F1 9), (sl F1 10)])) (
 .row [])) (
 .row [])) (
 cond (v30 = 6) (
 cond ((sl F1 0).toInt = 1) (
 cond ((sl F4 0).toInt = 1) (
 cond ((sl F1 1).toInt = (sl F4 11).toInt) (
 cond ((sl F1 2).toInt = (sl F4 12).toInt) (
 cond ((sl F12 0).toInt = 1) (
 .row [.int 1, (sl F4 1), (sl F4 2), (sl F4 3), (sl F4 4), (sl F4 5), (sl F4 6), (sl F4 7), (sl F4 8), (sl F4 9), (sl F4 10), (sl F12 1), v3, v5, v7, (sl F1 11), (sl F1 12), (sl F1 13), (sl F1 14), (sl F1 15), (sl F1 7), v2, (.bool v4), (.bool v6), (.bool v8), (sl F1 3), (sl F1 4), (sl F1 5), (sl F1 6), (sl F1 8), (sl F1 9), (sl F1 10)]) (
 .row [])) (
 .row [.int 1, (sl F4 1), (sl F4 2), (sl F4 3), (sl F4 4), (sl F4 5), (sl F4 6), (sl F4 7), (sl F4 8), (sl F4 9), (sl F4 10), (.bool false), v3, v5, v7, (sl F1 11), (sl F1 12), (sl F1 13), (sl F1 14), (sl F1 15), (sl F1 7), v2, (.bool v4), (.bool v6), (.bool v8), (sl F1 3), (sl F1 4), (sl F1 5), (sl F1 6), (sl F1 8), (sl F1 9), (sl F1 10)])) (
 .row [.int 1, (sl F4 1), (sl F4 2), (sl F4 3), (sl F4 4), (sl F4 5), (sl F4 6), (sl F4 7), (sl F4 8), (sl F4 9), (sl F4 10), (.bool false), v3, v5, v7, (sl F1 11), (sl F1 12), (sl F1 13), (sl F1 14), (sl F1 15), (sl F1 7), v2, (.bool v4), (.bool v6), (.bool v8), (sl F1 3), (sl F1 4), (sl F1 5), (sl F1 6), (sl F1 8), (sl F1 9), (sl F1 10)])) (
 .row [])) (
 .row [])) (
 cond (v30 = 7) (
 cond ((sl F6 0).toInt = 1) (
 cond ((len (sl F6 2) : Int) = (len v5 : Int)) (
 cond ((len (sl F6 1) : Int) = (len v3 : Int)) (
 cond ((len (sl F6 3) : Int) = (len v7 : Int)) (
 cond ((sl F11 0).toInt = 1) (
 Sv (.int 0) v2 (sl F6 1) (.bool v4) (sl F6 2) (.bool v6) (sl F6 3) (.bool v8) v9 (.bool v10) (.int v11) (sl F11 4) v18 (.bool v19) v0 (.bool v1) v20 v21 v22 v23 v24 (.int v25) v26 v27 (.int v28) v29 (sl F6 4) (sl F6 5) (sl F6 6) (sl F6 7) (sl F6 8) (sl F6 9) (sl F6 10) (sl F6 11) (sl F6 12) (sl F6 13) (sl F6 14) (sl F6 15) (sl F6 16) (sl F6 17) (sl F6 18) (sl F6 19) (sl F6 20) (sl F11 5) (sl F11 6) (sl F11 7) (sl F11 8) (sl F11 9)) (
 .row [])) (
 .row [])) (
 .row [])) (
 .row [])) (
 .row [])) (
 cond ((sl F7 0).toInt = 1) (
 cond ((sl F8 0).toInt = 1) (
 cond ((sl F9 0).toInt = 1) (
 cond ((sl F8 1).toInt = (sl F9 11).toInt) (
 cond ((sl F14 0).toInt = 1) (
 .row [.int 1, (sl F9 1), (sl F9 2), (sl F9 3), (sl F9 4), (sl F9 5), (sl F9 6), (sl F9 7), (sl F9 8), (sl F9 9), (sl F9 10), (sl F14 1), v3, v5, v7, (sl F8 10), (sl F8 11), (sl F8 12), (sl F8 13), (sl F8 14), (sl F8 6), v2, (.bool v4), (.bool v6), (.bool v8), (sl F8 2), (sl F8 3), (sl F8 4), (sl F8 5), (sl F8 7), (sl F8 8), (sl F8 9)]) (
 .row [])) (
 .row [.int 1, (sl F9 1), (sl F9 2), (sl F9 3), (sl F9 4), (sl F9 5), (sl F9 6), (sl F9 7), (sl F9 8), (sl F9 9), (sl F9 10), (.bool false), v3, v5, v7, (sl F8 10), (sl F8 11), (sl F8 12), (sl F8 13), (sl F8 14), (sl F8 6), v2, (.bool v4), (.bool v6), (.bool v8), (sl F8 2), (sl F8 3), (sl F8 4), (sl F8 5), (sl F8 7), (sl F8 8), (sl F8 9)])) (
 .row [])) (
 .row [])) (
 .row []))))))))) := by
  subst h0; subst h1; subst h2; subst h3; subst h4; subst h5; subst h6; subst h7; subst h8; subst h9; subst h10; subst h11; subst h12; subst h13; subst h14; exact gw rfl rfl (cQ (cQ (cQ (cQ (cg rfl (cQ (cQ rfl rfl) rfl) rfl) rfl) rfl) rfl) (cQ (cQ (cQ (cQ (cg rfl (cQ (cQ rfl rfl) rfl) rfl) rfl) rfl) rfl) (cQ (cQ (cQ (cQ (cQ rfl rfl) rfl) rfl) rfl) (cQ (cQ (cQ (cQ (cQ rfl rfl) rfl) rfl) rfl) (cQ (cQ (cQ (cQ (cQ rfl rfl) rfl) rfl) rfl) (cQ (cQ (cQ (cQ (cQ (cQ rfl rfl) rfl) rfl) rfl) rfl) (cQ (cQ (cQ (cQ (cQ (cQ rfl rfl) rfl) rfl) rfl) rfl) (cQ (cQ (cQ (cQ (cQ (cQ rfl rfl) rfl) rfl) rfl) rfl) (cQ (cQ (cQ (cQ (cQ rfl rfl) rfl) rfl) rfl) rfl)))))))))
theorem Ys (v0 : Int) (v1 v2 : D) (v3 : Bool) (v4 : D) (v5 : Bool) (v6 : D) (v7 : Bool) (v8 : D) (v9 : Bool) (v10 : Int) (v11 : Bool) (v12 : D) (v13 : Bool) (v14 : D) (v15 : Bool) (v16 v17 v18 v19 v20 : D) (v21 : Int) (v22 v23 : D) (v24 : Int) (v25 v26 : D) (v27 v28 v29 : Bool) (v30 : D) (v31 : Bool) (v32 : Int) (v33 : Bool) (v34 : D) (v35 : Bool) (v36 : D) (v37 : Bool) (v38 : Int) (v39 v40 : D) (v41 : Bool) (v42 : D) (v43 : Int) (v44 v45 : D) (v46 : Bool) (v47 : D) : Sv (.int v0) v1 v2 (.bool v3) v4 (.bool v5) v6 (.bool v7) v8 (.bool v9) (.int v10) (.bool v11) v12 (.bool v13) v14 (.bool v15) v16 v17 v18 v19 v20 (.int v21) v22 v23 (.int v24) v25 v26 (.bool v27) (.bool v28) (.bool v29) v30 (.bool v31) (.int v32) (.bool v33) v34 (.bool v35) v36 (.bool v37) (.int v38) v39 v40 (.bool v41) v42 (.int v43) v44 v45 (.bool v46) v47 =
  cond (v0 < len v19) (
 cond ((sl (Ba v14 (.bool v15) v1 v2 (.bool v3) v4 (.bool v5) v6 (.bool v7) v8 (.bool v9) (.int v10) (.int v43) v47 v44 v45 (.bool v46) (.bool v11) v12 (.bool v13) (.int 1099511627776) (.int v0)) 0).toInt = 1) (
 Sv (.int (IntKind.wrap .i64 (v0 + 1))) v1 v2 (.bool v3) v4 (.bool v5) v6 (.bool v7) (sl (Ba v14 (.bool v15) v1 v2 (.bool v3) v4 (.bool v5) v6 (.bool v7) v8 (.bool v9) (.int v10) (.int v43) v47 v44 v45 (.bool v46) (.bool v11) v12 (.bool v13) (.int 1099511627776) (.int v0)) 2) (sl (Ba v14 (.bool v15) v1 v2 (.bool v3) v4 (.bool v5) v6 (.bool v7) v8 (.bool v9) (.int v10) (.int v43) v47 v44 v45 (.bool v46) (.bool v11) v12 (.bool v13) (.int 1099511627776) (.int v0)) 3) (sl (Ba v14 (.bool v15) v1 v2 (.bool v3) v4 (.bool v5) v6 (.bool v7) v8 (.bool v9) (.int v10) (.int v43) v47 v44 v45 (.bool v46) (.bool v11) v12 (.bool v13) (.int 1099511627776) (.int v0)) 4) (sl (Ba v14 (.bool v15) v1 v2 (.bool v3) v4 (.bool v5) v6 (.bool v7) v8 (.bool v9) (.int v10) (.int v43) v47 v44 v45 (.bool v46) (.bool v11) v12 (.bool v13) (.int 1099511627776) (.int v0)) 5) (sl (Ba v14 (.bool v15) v1 v2 (.bool v3) v4 (.bool v5) v6 (.bool v7) v8 (.bool v9) (.int v10) (.int v43) v47 v44 v45 (.bool v46) (.bool v11) v12 (.bool v13) (.int 1099511627776) (.int v0)) 6) (sl (Ba v14 (.bool v15) v1 v2 (.bool v3) v4 (.bool v5) v6 (.bool v7) v8 (.bool v9) (.int v10) (.int v43) v47 v44 v45 (.bool v46) (.bool v11) v12 (.bool v13) (.int 1099511627776) (.int v0)) 7) (sl (Ba v14 (.bool v15) v1 v2 (.bool v3) v4 (.bool v5) v6 (.bool v7) v8 (.bool v9) (.int v10) (.int v43) v47 v44 v45 (.bool v46) (.bool v11) v12 (.bool v13) (.int 1099511627776) (.int v0)) 8) (sl (Ba v14 (.bool v15) v1 v2 (.bool v3) v4 (.bool v5) v6 (.bool v7) v8 (.bool v9) (.int v10) (.int v43) v47 v44 v45 (.bool v46) (.bool v11) v12 (.bool v13) (.int 1099511627776) (.int v0)) 9) v16 v17 v18 v19 v20 (.int v21) v22 v23 (.int v24) v25 v26 (.bool v27) (.bool v28) (.bool v29) v30 (.bool v31) (.int v32) (.bool v33) v34 (.bool v35) v36 (.bool v37) (.int v38) v39 v40 (.bool v41) v42 (sl (Ba v14 (.bool v15) v1 v2 (.bool v3) v4 (.bool v5) v6 (.bool v7) v8 (.bool v9) (.int v10) (.int v43) v47 v44 v45 (.bool v46) (.bool v11) v12 (.bool v13) (.int 1099511627776) (.int v0)) 10) (sl (Ba v14 (.bool v15) v1 v2 (.bool v3) v4 (.bool v5) v6 (.bool v7) v8 (.bool v9) (.int v10) (.int v43) v47 v44 v45 (.bool v46) (.bool v11) v12 (.bool v13) (.int 1099511627776) (.int v0)) 11) (sl (Ba v14 (.bool v15) v1 v2 (.bool v3) v4 (.bool v5) v6 (.bool v7) v8 (.bool v9) (.int v10) (.int v43) v47 v44 v45 (.bool v46) (.bool v11) v12 (.bool v13) (.int 1099511627776) (.int v0)) 12) (sl (Ba v14 (.bool v15) v1 v2 (.bool v3) v4 (.bool v5) v6 (.bool v7) v8 (.bool v9) (.int v10) (.int v43) v47 v44 v45 (.bool v46) (.bool v11) v12 (.bool v13) (.int 1099511627776) (.int v0)) 13) (sl (Ba v14 (.bool v15) v1 v2 (.bool v3) v4 (.bool v5) v6 (.bool v7) v8 (.bool v9) (.int v10) (.int v43) v47 v44 v45 (.bool v46) (.bool v11) v12 (.bool v13) (.int 1099511627776) (.int v0)) 14)) (
 .row [])) (
 cond ((sl (GD v36 (.bool v37) v26 v2 (.bool v27) v4 (.bool v28) v6 (.bool v29) v30 (.bool v31) (.int v32) (.int v38) v42 v39 v40 (.bool v41) (.bool v33) v34 (.bool v35) v16 v17 v18 v19 v20 (.int v21) v22 v23 (.int v24) v25) 0).toInt = 1) (
 .row [.int 1, v16, v17, v18, v19, v20, (.int v21), v22, v23, (.int v24), v25, (sl (GD v36 (.bool v37) v26 v2 (.bool v27) v4 (.bool v28) v6 (.bool v29) v30 (.bool v31) (.int v32) (.int v38) v42 v39 v40 (.bool v41) (.bool v33) v34 (.bool v35) v16 v17 v18 v19 v20 (.int v21) v22 v23 (.int v24) v25) 1), v2, v4, v6, (.int v38), v39, v40, (.bool v41), v42, v34, v26, (.bool v27), (.bool v28), (.bool v29), v30, (.bool v31), (.int v32), (.bool v33), (.bool v35), v36, (.bool v37)]) (
 .row [])) := gw rfl rfl (cL (cQ rfl rfl) (cQ rfl rfl))
theorem Us (v0 : Int) (v1 : Bool) (v2 v3 v4 v5 v6 : D) (v7 : Int) (v8 v9 : D) (v10 : Int) (v11 : D) (v12 v13 : Int) (v14 : D) (v15 : Bool) : B6 (.int v0) (.bool v1) v2 v3 v4 v5 v6 (.int v7) v8 v9 (.int v10) v11 (.int v12) (.int v13) v14 (.bool v15) =
 FW v14 (.bool v15) (.int 0) (.int v0) (.bool v1) v2 v3 v4 v5 v6 (.int v7) v8 v9 (.int v10) v11 (.int v12) (.int v13) := gw rfl rfl rfl
theorem Yp (v0 : D) (v1 : Bool) (v2 v3 : Int) (v4 : Bool) (v5 v6 v7 v8 v9 : D) (v10 : Int) (v11 v12 : D) (v13 : Int) (v14 : D) (v15 v16 : Int) : FW v0 (.bool v1) (.int v2) (.int v3) (.bool v4) v5 v6 v7 v8 v9 (.int v10) v11 v12 (.int v13) v14 (.int v15) (.int v16) =
  cond (v2 < len v0) (
 cond (v2 < 0) (
 .row []) (
 cond (v2 = v16) (
 cond (v16 < len v14) (
 cond (v16 < 0) (
 .row []) (
 cond ((cl v0 v2 0).toInt = (cl v14 v16 0).toInt) (
 cond ((cl v0 v2 1).toInt = (cl v14 v16 1).toInt) (
 cond (v15 = 0) (
 cond ((IntKind.wrap .i64 (v16 + 1)) < v3) (
 FW v0 (.bool v1) (.int (IntKind.wrap .i64 (v2 + 1))) (.int v3) (.bool v4) v5 v6 v7 v8 v9 (.int v10) v11 v12 (.int v13) v14 (.int v15) (.int (IntKind.wrap .i64 (v16 + 1)))) (
 .row [.int 1, (.int (IntKind.wrap .i64 (v16 + 1)))])) (
 FW v0 (.bool v1) (.int (IntKind.wrap .i64 (v2 + 1))) (.int v3) (.bool v4) v5 v6 v7 v8 v9 (.int v10) v11 v12 (.int v13) v14 (.int v15) (.int (IntKind.wrap .i64 (v16 + 1))))) (
 .row [.int 2, (.int v16)])) (
 .row [.int 2, (.int v16)]))) (
 .row [.int 2, (.int v16)])) (
 .row [.int 2, (.int v16)]))) (
 .row [.int 3, (.int v16)]) := gw rfl rfl (cL (cL rfl (cQ (cL (cL rfl (cQ (cQ (cQ rfl rfl) rfl) rfl)) rfl) rfl)) rfl)
theorem fa (v0 v1 v2 v3 v4 : D) (v5 : Int) : XR v0 v1 v2 v3 v4 (.int v5) =
  cond ((sl (VA v0 v1 v2 v3) 0).toInt = 1) (
 cond ((sl (VA v0 v1 v2 v3) 1).toBool) (
 cond ((sl (JY) 0).toInt = 1) (
 .row [.int 1, (.bool true)]) (
 .row [])) (
 cond (60 < (len v4 : Int)) (
 cond ((sl (JY) 0).toInt = 1) (
 .row [.int 1, (.bool true)]) (
 .row [])) (
 cond ((sl (Ca v0 v1 v2 v3) 0).toInt = 1) (
 cond ((sl (DU v0 v1 v2 v3) 0).toInt = 1) (
 cond (0 = (sl (DU v0 v1 v2 v3) 8).toInt) (
 cond ((sl (DU v0 v1 v2 v3) 8).toInt = 0) (
 Ri v4 (.bool true) (.int 0) v0 v1 v2 v3 (.int v5) (sl (DU v0 v1 v2 v3) 1) (sl (DU v0 v1 v2 v3) 2) (sl (DU v0 v1 v2 v3) 3) (sl (DU v0 v1 v2 v3) 4) (sl (DU v0 v1 v2 v3) 5) (.int 0) (sl (DU v0 v1 v2 v3) 6) (sl (DU v0 v1 v2 v3) 7) (.int 0) Ay (sl (Ca v0 v1 v2 v3) 1) (sl (Ca v0 v1 v2 v3) 2) (sl (Ca v0 v1 v2 v3) 3) (sl (Ca v0 v1 v2 v3) 4) (sl (Ca v0 v1 v2 v3) 5) (sl (Ca v0 v1 v2 v3) 6) (sl (Ca v0 v1 v2 v3) 7) (sl (Ca v0 v1 v2 v3) 8) (sl (Ca v0 v1 v2 v3) 9) (sl (Ca v0 v1 v2 v3) 10) (.bool false) (sl (Ca v0 v1 v2 v3) 11) (.bool true) (sl (Ca v0 v1 v2 v3) 12) (sl (Ca v0 v1 v2 v3) 13) (.int 0) (sl (Ca v0 v1 v2 v3) 14) (sl (Ca v0 v1 v2 v3) 15) (sl (Ca v0 v1 v2 v3) 16) (sl (Ca v0 v1 v2 v3) 17)) (
 cond ((sl (JY) 0).toInt = 1) (
 .row [.int 1, (.bool true)]) (
 .row []))) (
 .row [.int 1, (.bool false)])) (
 .row [])) (
 cond ((sl (Ca v0 v1 v2 v3) 0).toInt = 2) (
 cond ((sl (DU v0 v1 v2 v3) 0).toInt = 1) (
 cond ((sl (Ca v0 v1 v2 v3) 1).toInt = (sl (DU v0 v1 v2 v3) 8).toInt) (
 cond ((sl (DU v0 v1 v2 v3) 8).toInt = 0) (
 .row []) (
 cond ((sl (JY) 0).toInt = 1) (
 .row [.int 1, (.bool true)]) (
 .row []))) (
 .row [.int 1, (.bool false)])) (
 .row [])) (
 .row []))))) (
 .row []) := gw rfl rfl (cQ (cg rfl (cQ rfl rfl) (cL (cQ rfl rfl) (cQ (cQ (cQ (cQ rfl (cQ rfl rfl)) rfl) rfl) (cQ (cQ (cQ (cQ rfl (cQ rfl rfl)) rfl) rfl) rfl)))) rfl)
theorem Yt (v0 : D) (v1 : Bool) (v2 : Int) (v3 v4 v5 v6 : D) (v7 : Int) (v8 v9 v10 v11 v12 : D) (v13 : Int) (v14 v15 : D) (v16 : Int) (v17 v18 v19 : D) (v20 : Bool) (v21 : D) (v22 : Bool) (v23 : D) (v24 : Bool) (v25 : D) (v26 : Bool) (v27 : Int) (v28 : Bool) (v29 : D) (v30 : Bool) (v31 : D) (v32 : Bool) (v33 : Int) (v34 v35 : D) (v36 : Bool) (v37 : D) {F0 : D} (h0 : TH v31 (.bool v32) v18 v19 (.bool v20) v21 (.bool v22) v23 (.bool v24) v25 (.bool v26) (.int v27) (.int v33) v37 v34 v35 (.bool v36) (.bool v28) v29 (.bool v30) v8 v9 v10 v11 v12 (.int v13) v14 v15 (.int v16) v17 (cl v0 v2 0) (cl v0 v2 1) (cl v0 v2 2) (cl v0 v2 3) (cl v0 v2 4) = F0) : Ri v0 (.bool v1) (.int v2) v3 v4 v5 v6 (.int v7) v8 v9 v10 v11 v12 (.int v13) v14 v15 (.int v16) v17 v18 v19 (.bool v20) v21 (.bool v22) v23 (.bool v24) v25 (.bool v26) (.int v27) (.bool v28) v29 (.bool v30) v31 (.bool v32) (.int v33) v34 v35 (.bool v36) v37 =
  cond (v2 < len v0) (
 cond (v1) (
 cond (v2 < 0) (
 .row []) (
 cond (60 < (A3 (cl v0 v2 3) : Int)) (
 cond ((sl (JY) 0).toInt = 1) (
 .row [.int 1, (.bool true)]) (
 .row [])) (
 cond (60 < (A3 (cl v0 v2 4) : Int)) (
 cond ((sl (JY) 0).toInt = 1) (
 .row [.int 1, (.bool true)]) (
 .row [])) (
 cond ((sl F0 0).toInt = 1) (
 Ri v0 (sl F0 11) (.int (IntKind.wrap .i64 (v2 + 1))) v3 v4 v5 v6 (.int v7) (sl F0 1) (sl F0 2) (sl F0 3) (sl F0 4) (sl F0 5) (sl F0 6) (sl F0 7) (sl F0 8) (sl F0 9) (sl F0 10) (sl F0 21) (sl F0 12) (sl F0 22) (sl F0 13) (sl F0 23) (sl F0 14) (sl F0 24) (sl F0 25) (sl F0 26) (sl F0 27) (sl F0 28) (sl F0 20) (sl F0 29) (sl F0 30) (sl F0 31) (sl F0 15) (sl F0 16) (sl F0 17) (sl F0 18) (sl F0 19)) (
 .row []))))) (
 cond ((sl (Db v29 (.bool v30)) 0).toInt = 1) (
 .row [.int 1, (.bool false)]) (
 .row []))) (
 cond ((sl (Db v29 (.bool v30)) 0).toInt = 1) (
 cond (v1) (
 RC (.int 0) v3 v4 v5 v6 (.int v7) v8 v9 v10 v11 v12 (.int v13) v14 v15 (.int v16) v17 (sl (Db v29 (.bool v30)) 1) (sl (Db v29 (.bool v30)) 2) v18 v19 (.bool v20) v21 (.bool v22) v23 (.bool v24) v25 (.bool v26) (.int v27) (.bool v28) v29 (.bool v30) v31 (.bool v32) (.int v33) v34 v35 (.bool v36) v37) (
 .row [.int 1, (.bool false)])) (
 .row [])) := by
  subst h0; exact gw rfl rfl (cL (cg rfl (cL rfl (cL (cQ rfl rfl) (cL (cQ rfl rfl) (cQ rfl rfl)))) (cQ rfl rfl)) (cQ rfl rfl))
theorem YG (v0 : Int) (v1 v2 v3 v4 : D) (v5 : Int) (v6 v7 v8 v9 v10 : D) (v11 : Int) (v12 v13 : D) (v14 : Int) (v15 v16 : D) (v17 : Bool) (v18 v19 : D) (v20 : Bool) (v21 : D) (v22 : Bool) (v23 : D) (v24 : Bool) (v25 : D) (v26 : Bool) (v27 : Int) (v28 : Bool) (v29 : D) (v30 : Bool) (v31 : D) (v32 : Bool) (v33 : Int) (v34 v35 : D) (v36 : Bool) (v37 : D) : RC (.int v0) v1 v2 v3 v4 (.int v5) v6 v7 v8 v9 v10 (.int v11) v12 v13 (.int v14) v15 v16 (.bool v17) v18 v19 (.bool v20) v21 (.bool v22) v23 (.bool v24) v25 (.bool v26) (.int v27) (.bool v28) v29 (.bool v30) v31 (.bool v32) (.int v33) v34 v35 (.bool v36) v37 =
  cond (v0 < len v4) (
 cond ((sl (Ba v31 (.bool v32) v18 v19 (.bool v20) v21 (.bool v22) v23 (.bool v24) v25 (.bool v26) (.int v27) (.int v33) v37 v34 v35 (.bool v36) (.bool v28) v29 (.bool v30) (.int 1099511627776) (.int v0)) 0).toInt = 1) (
 RC (.int (IntKind.wrap .i64 (v0 + 1))) v1 v2 v3 v4 (.int v5) v6 v7 v8 v9 v10 (.int v11) v12 v13 (.int v14) v15 v16 (.bool v17) v18 v19 (.bool v20) v21 (.bool v22) v23 (.bool v24) (sl (Ba v31 (.bool v32) v18 v19 (.bool v20) v21 (.bool v22) v23 (.bool v24) v25 (.bool v26) (.int v27) (.int v33) v37 v34 v35 (.bool v36) (.bool v28) v29 (.bool v30) (.int 1099511627776) (.int v0)) 2) (sl (Ba v31 (.bool v32) v18 v19 (.bool v20) v21 (.bool v22) v23 (.bool v24) v25 (.bool v26) (.int v27) (.int v33) v37 v34 v35 (.bool v36) (.bool v28) v29 (.bool v30) (.int 1099511627776) (.int v0)) 3) (sl (Ba v31 (.bool v32) v18 v19 (.bool v20) v21 (.bool v22) v23 (.bool v24) v25 (.bool v26) (.int v27) (.int v33) v37 v34 v35 (.bool v36) (.bool v28) v29 (.bool v30) (.int 1099511627776) (.int v0)) 4) (sl (Ba v31 (.bool v32) v18 v19 (.bool v20) v21 (.bool v22) v23 (.bool v24) v25 (.bool v26) (.int v27) (.int v33) v37 v34 v35 (.bool v36) (.bool v28) v29 (.bool v30) (.int 1099511627776) (.int v0)) 5) (sl (Ba v31 (.bool v32) v18 v19 (.bool v20) v21 (.bool v22) v23 (.bool v24) v25 (.bool v26) (.int v27) (.int v33) v37 v34 v35 (.bool v36) (.bool v28) v29 (.bool v30) (.int 1099511627776) (.int v0)) 6) (sl (Ba v31 (.bool v32) v18 v19 (.bool v20) v21 (.bool v22) v23 (.bool v24) v25 (.bool v26) (.int v27) (.int v33) v37 v34 v35 (.bool v36) (.bool v28) v29 (.bool v30) (.int 1099511627776) (.int v0)) 7) (sl (Ba v31 (.bool v32) v18 v19 (.bool v20) v21 (.bool v22) v23 (.bool v24) v25 (.bool v26) (.int v27) (.int v33) v37 v34 v35 (.bool v36) (.bool v28) v29 (.bool v30) (.int 1099511627776) (.int v0)) 8) (sl (Ba v31 (.bool v32) v18 v19 (.bool v20) v21 (.bool v22) v23 (.bool v24) v25 (.bool v26) (.int v27) (.int v33) v37 v34 v35 (.bool v36) (.bool v28) v29 (.bool v30) (.int 1099511627776) (.int v0)) 9) (sl (Ba v31 (.bool v32) v18 v19 (.bool v20) v21 (.bool v22) v23 (.bool v24) v25 (.bool v26) (.int v27) (.int v33) v37 v34 v35 (.bool v36) (.bool v28) v29 (.bool v30) (.int 1099511627776) (.int v0)) 10) (sl (Ba v31 (.bool v32) v18 v19 (.bool v20) v21 (.bool v22) v23 (.bool v24) v25 (.bool v26) (.int v27) (.int v33) v37 v34 v35 (.bool v36) (.bool v28) v29 (.bool v30) (.int 1099511627776) (.int v0)) 11) (sl (Ba v31 (.bool v32) v18 v19 (.bool v20) v21 (.bool v22) v23 (.bool v24) v25 (.bool v26) (.int v27) (.int v33) v37 v34 v35 (.bool v36) (.bool v28) v29 (.bool v30) (.int 1099511627776) (.int v0)) 12) (sl (Ba v31 (.bool v32) v18 v19 (.bool v20) v21 (.bool v22) v23 (.bool v24) v25 (.bool v26) (.int v27) (.int v33) v37 v34 v35 (.bool v36) (.bool v28) v29 (.bool v30) (.int 1099511627776) (.int v0)) 13) (sl (Ba v31 (.bool v32) v18 v19 (.bool v20) v21 (.bool v22) v23 (.bool v24) v25 (.bool v26) (.int v27) (.int v33) v37 v34 v35 (.bool v36) (.bool v28) v29 (.bool v30) (.int 1099511627776) (.int v0)) 14)) (
 .row [])) (
 Sr (.int v5) v6 v7 v8 v9 v10 (.int v11) v12 v13 (.int v14) v15 v16 (.bool v17)) := gw rfl rfl (cL (cQ rfl rfl) rfl)
theorem Ye (v0 : Int) (v1 v2 v3 v4 v5 : D) (v6 : Int) (v7 v8 : D) (v9 : Int) (v10 v11 : D) (v12 : Bool) : Sr (.int v0) v1 v2 v3 v4 v5 (.int v6) v7 v8 (.int v9) v10 v11 (.bool v12) =
  cond ((sl (B6 (.int v0) (.bool false) v1 v2 v3 v4 v5 (.int v6) v7 v8 (.int v9) v10 (.int 0) (.int 0) v11 (.bool v12)) 0).toInt = 1) (
 cond (1 < v0) (
 cond (v0 < len v10) (
 cond ((sl (B6 (.int v0) (.bool false) v1 v2 v3 v4 v5 (.int v6) v7 v8 (.int v9) v10 (.int 0) (.int 0) v11 (.bool v12)) 1).toInt = v0) (
 G0 (.int v0) v1 v2 v3 v4 v5 (.int v6) v7 v8 (.int v9) v10 v11 (.bool v12)) (
 .row [.int 1, (.bool false)])) (
 cond ((sl (B6 (.int v0) (.bool false) v1 v2 v3 v4 v5 (.int v6) v7 v8 (.int v9) v10 (.int 0) (.int 0) v11 (.bool v12)) 1).toInt = len v10) (
 G0 (.int v0) v1 v2 v3 v4 v5 (.int v6) v7 v8 (.int v9) v10 v11 (.bool v12)) (
 .row [.int 1, (.bool false)]))) (
 cond (1 < (len v10 : Int)) (
 cond ((sl (B6 (.int v0) (.bool false) v1 v2 v3 v4 v5 (.int v6) v7 v8 (.int v9) v10 (.int 0) (.int 0) v11 (.bool v12)) 1).toInt = 1) (
 G0 (.int v0) v1 v2 v3 v4 v5 (.int v6) v7 v8 (.int v9) v10 v11 (.bool v12)) (
 .row [.int 1, (.bool false)])) (
 cond ((sl (B6 (.int v0) (.bool false) v1 v2 v3 v4 v5 (.int v6) v7 v8 (.int v9) v10 (.int 0) (.int 0) v11 (.bool v12)) 1).toInt = len v10) (
 G0 (.int v0) v1 v2 v3 v4 v5 (.int v6) v7 v8 (.int v9) v10 v11 (.bool v12)) (
 .row [.int 1, (.bool false)])))) (
 cond ((sl (B6 (.int v0) (.bool false) v1 v2 v3 v4 v5 (.int v6) v7 v8 (.int v9) v10 (.int 0) (.int 0) v11 (.bool v12)) 0).toInt = 2) (
 .row [.int 1, (.bool false)]) (
 cond ((sl (B6 (.int v0) (.bool false) v1 v2 v3 v4 v5 (.int v6) v7 v8 (.int v9) v10 (.int 0) (.int 0) v11 (.bool v12)) 0).toInt = 3) (
 cond (1 < v0) (
 cond (v0 < len v10) (
 cond ((sl (B6 (.int v0) (.bool false) v1 v2 v3 v4 v5 (.int v6) v7 v8 (.int v9) v10 (.int 0) (.int 0) v11 (.bool v12)) 1).toInt = v0) (
 G0 (.int v0) v1 v2 v3 v4 v5 (.int v6) v7 v8 (.int v9) v10 v11 (.bool v12)) (
 .row [.int 1, (.bool false)])) (
 cond ((sl (B6 (.int v0) (.bool false) v1 v2 v3 v4 v5 (.int v6) v7 v8 (.int v9) v10 (.int 0) (.int 0) v11 (.bool v12)) 1).toInt = len v10) (
 G0 (.int v0) v1 v2 v3 v4 v5 (.int v6) v7 v8 (.int v9) v10 v11 (.bool v12)) (
 .row [.int 1, (.bool false)]))) (
 cond (1 < (len v10 : Int)) (
 cond ((sl (B6 (.int v0) (.bool false) v1 v2 v3 v4 v5 (.int v6) v7 v8 (.int v9) v10 (.int 0) (.int 0) v11 (.bool v12)) 1).toInt = 1) (
 G0 (.int v0) v1 v2 v3 v4 v5 (.int v6) v7 v8 (.int v9) v10 v11 (.bool v12)) (
 .row [.int 1, (.bool false)])) (
 cond ((sl (B6 (.int v0) (.bool false) v1 v2 v3 v4 v5 (.int v6) v7 v8 (.int v9) v10 (.int 0) (.int 0) v11 (.bool v12)) 1).toInt = len v10) (
 G0 (.int v0) v1 v2 v3 v4 v5 (.int v6) v7 v8 (.int v9) v10 v11 (.bool v12)) (
 .row [.int 1, (.bool false)])))) (
 .row []))) := gw rfl rfl (cQ (cL (cL (cQ rfl rfl) (cQ rfl rfl)) (cL (cQ rfl rfl) (cQ rfl rfl))) (cQ rfl (cQ (cL (cL (cQ rfl rfl) (cQ rfl rfl)) (cL (cQ rfl rfl) (cQ rfl rfl))) rfl)))
theorem aI (v0 : Int) (v1 v2 v3 v4 v5 : D) (v6 : Int) (v7 v8 : D) (v9 : Int) (v10 v11 : D) (v12 : Bool) : G0 (.int v0) v1 v2 v3 v4 v5 (.int v6) v7 v8 (.int v9) v10 v11 (.bool v12) =
  cond ((sl (B6 (.int v0) (.bool false) v1 v2 v3 v4 v5 (.int v6) v7 v8 (.int v9) v10 (.int 1) (.int 0) v11 (.bool v12)) 0).toInt = 1) (
 cond ((sl (B6 (.int v0) (.bool false) v1 v2 v3 v4 v5 (.int v6) v7 v8 (.int v9) v10 (.int 1) (.int 0) v11 (.bool v12)) 1).toInt = len v10) (
 Ue (.int v0) v1 v2 v3 v4 v5 (.int v6) v7 v8 (.int v9) v10 v11 (.bool v12)) (
 .row [.int 1, (.bool false)])) (
 cond ((sl (B6 (.int v0) (.bool false) v1 v2 v3 v4 v5 (.int v6) v7 v8 (.int v9) v10 (.int 1) (.int 0) v11 (.bool v12)) 0).toInt = 2) (
 .row [.int 1, (.bool false)]) (
 cond ((sl (B6 (.int v0) (.bool false) v1 v2 v3 v4 v5 (.int v6) v7 v8 (.int v9) v10 (.int 1) (.int 0) v11 (.bool v12)) 0).toInt = 3) (
 cond ((sl (B6 (.int v0) (.bool false) v1 v2 v3 v4 v5 (.int v6) v7 v8 (.int v9) v10 (.int 1) (.int 0) v11 (.bool v12)) 1).toInt = len v10) (
 Ue (.int v0) v1 v2 v3 v4 v5 (.int v6) v7 v8 (.int v9) v10 v11 (.bool v12)) (
 .row [.int 1, (.bool false)])) (
 .row []))) := gw rfl rfl (cQ (cQ rfl rfl) (cQ rfl (cQ (cQ rfl rfl) rfl)))
theorem eH (v0 : Int) (v1 v2 v3 v4 v5 : D) (v6 : Int) (v7 v8 : D) (v9 : Int) (v10 v11 : D) (v12 : Bool) : Ue (.int v0) v1 v2 v3 v4 v5 (.int v6) v7 v8 (.int v9) v10 v11 (.bool v12) =
  cond ((sl (JY) 0).toInt = 1) (
 .row [.int 1, (.bool true)]) (
 .row []) := gw rfl rfl (cQ rfl rfl)
end
end Ml
namespace Ml
open Go Go.AE
theorem MX (v : D) (i : Int) : 0 ≤ sAt v i ∧ sAt v i < 256 := by
 unfold sAt;have := ((v.toStr.data.toList[i.toNat]?).getD 0).toNat_lt;omega
theorem KD {v : D} : len (OH v) = A3 v := by
 show (List.map _ _).length = _;simp [A3]
theorem R2 {v : D} {i : Nat} (h : i < A3 v) : (cl (OH v) i 0).toInt = sAt v i := by
 unfold cl sAt OH;have h' : i < v.toStr.data.toList.length := h;simp [D.rows, List.getD_eq_getElem?_getD, List.getElem?_eq_getElem h', D.cells, D.toInt]
theorem RG {x : Int} (h0 : 0 ≤ x) (h1 : x < 256) : IntKind.wrap .u8 x = x := by
 simp only [IntKind.wrap, IntKind.bits, IntKind.signed];have := Int.emod_eq_of_lt h0 h1
 simp_all
section
variable [An]
theorem M1 {v : D} (hs : A3 v ≤ 32) : ∀ (k i : Nat), i + k = A3 v → 1 ≤ i → ∃ b, Q9 (OH v) (.int (A3 v : Nat)) (.int i) = .row [.int 1, .bool b] ∧ Jy v (.int i) = .row [.int 1, .bool b]
 | 0, i, hi, h1 => by
  refine ⟨true, ?_, ?_⟩
  ·rw [YO, ifF (by omega)]
  ·rw [Vh, ifF (by omega)]
 | k + 1, i, hi, h1 => by
  obtain ⟨b, q1, q2⟩ := M1 hs k (i + 1) (by omega) (by omega)
  have hr := MX v i;have hc := R2 (v := v) (i := i) (by omega)
  have A := YO (OH v) (A3 v : Nat) (i : Int);have B := Vh v (i : Int);rw [hc, RG hr.1 hr.2, KD, AG (by omega) (by omega), show (i : Int) + 1 = ((i + 1 : Nat) : Int) by omega, q1, ifT (by omega), ifF (by omega), ifT (by omega)] at A
  rw [AG (by omega) (by omega), show (i : Int) + 1 = ((i + 1 : Nat) : Int) by omega, q2, ifT (by omega), ifF (by omega)] at B
  rw [A, B];have hi0 : decide ((i : Int) = 0) = false := decide_eq_false (by omega)
  rw [hi0];simp only [cond_false];generalize sAt v i = c;by_cases c1 : c < 97
  ·simp only [ifT c1];by_cases c2 : c < 65
   ·simp only [ifT c2];by_cases c3 : c < 48
    ·simp only [ifT c3]; exact ⟨_, rfl, rfl⟩
    ·simp only [ifF c3];by_cases c4 : 57 < c
     ·simp only [ifT c4]; exact ⟨_, rfl, rfl⟩
     ·simp only [ifF c4]; exact ⟨_, rfl, rfl⟩
   ·simp only [ifF c2];by_cases c3 : 90 < c
    ·simp only [ifT c3];by_cases c4 : c = 95
     ·simp only [ifT c4]; exact ⟨_, rfl, rfl⟩
     ·simp only [ifF c4]; exact ⟨_, rfl, rfl⟩
    ·simp only [ifF c3]; exact ⟨_, rfl, rfl⟩
  ·simp only [ifF c1];by_cases c2 : 122 < c
   ·simp only [ifT c2]; exact ⟨_, by cases decide ((i : Int) = 0) <;> rfl, rfl⟩
   ·simp only [ifF c2]; exact ⟨_, rfl, rfl⟩
theorem Rw (v : D) : ∃ b, Gj v = .row [.int 1, .bool b] ∧ Dc v = .row [.int 1, .bool b] := by
 rw [kT, Yx];by_cases c1 : (A3 v : Int) < 1
 ·simp only [ifT c1]; exact ⟨_, rfl, rfl⟩
 simp only [ifF c1];by_cases c2 : 32 < (A3 v : Int)
 ·simp only [ifT c2]; exact ⟨_, rfl, rfl⟩
 simp only [ifF c2];obtain ⟨b, q1, q2⟩ := M1 (v := v) (by omega) (A3 v - 1) 1 (by omega) (Nat.le_refl _)
 have hr := MX v (0 : Nat);have hc := R2 (v := v) (i := 0) (by omega)
 have A := YO (OH v) (A3 v : Nat) ((0 : Nat) : Int);have B := Vh v ((0 : Nat) : Int);rw [hc, RG hr.1 hr.2, KD, AG (by omega) (by omega), show ((0 : Nat) : Int) + 1 = ((1 : Nat) : Int) by omega, q1, ifT (by omega), ifF (by omega), ifT (by omega)] at A
 rw [AG (by omega) (by omega), show ((0 : Nat) : Int) + 1 = ((1 : Nat) : Int) by omega, q2, ifT (by omega), ifF (by omega)] at B
 have z : ((0 : Nat) : Int) = 0 := rfl;rw [z] at A B hr;rw [KD, A, B];generalize sAt v 0 = c;have hi0 : decide ((0 : Int) = 0) = true := rfl;rw [hi0];simp only [cond_true];by_cases c3 : c = 95
 ·subst c3;exact ⟨false, rfl, rfl⟩
 simp only [ifF c3];by_cases c4 : c < 97
 ·simp only [ifT c4];by_cases c5 : c < 65
  ·simp only [ifT c5];by_cases c6 : c < 48
   ·simp only [ifT c6]; exact ⟨_, rfl, rfl⟩
   ·simp only [ifF c6];by_cases c7 : 57 < c
    ·simp only [ifT c7]; exact ⟨_, rfl, rfl⟩
    ·simp only [ifF c7]; exact ⟨_, rfl, rfl⟩
  ·have c6 : ¬ c < 48 := by omega
   have c7 : 57 < c := by omega
   simp only [ifF c5, ifF c6, ifT c7];by_cases c8 : 90 < c
   ·simp only [ifT c8]; exact ⟨_, rfl, rfl⟩
   ·simp only [ifF c8]; exact ⟨_, rfl, rfl⟩
 ·have c6 : ¬ c < 48 := by omega
  have c7 : 57 < c := by omega
  simp only [ifF c4, ifF c6, ifT c7];by_cases c5 : 122 < c
  ·simp only [ifT c5]; exact ⟨_, rfl, rfl⟩
  ·simp only [ifF c5]; exact ⟨_, rfl, rfl⟩
end
end Ml
namespace Ml
open Go Go.AE
def fd (l key : D) : Int := fdG (fun j => D.strEq (cl l j 0) key) (len l) 0
theorem IE {l key : D} : fd l key < len l := by
 have := LW (p := fun j => D.strEq (cl l j 0) key) (k := len l) (i := 0)
 unfold fd; omega
theorem ju {l key : D} : fd l key = -1 ∨ 0 ≤ fd l key := by
 have := Nw (p := fun j => D.strEq (cl l j 0) key) (k := len l) (i := 0)
 unfold fd; omega
theorem Kn {l : D} {i : Nat} (h : i < len l) : 0 ≤ fd l (cl l i 0) ∧ fd l (cl l i 0) ≤ i := QW (p := fun j => D.strEq (cl l j 0) (cl l i 0)) (Nat.zero_le _) (by omega) Jj
theorem Ya {l key : D} (h : 0 ≤ fd l key) : D.strEq (cl l (fd l key) 0) key = true := by
 have := NW (p := fun j => D.strEq (cl l j 0) key) (k := len l) (i := 0) h
 have e : ((fd l key).toNat : Int) = fd l key := by omega
 rw [← e];exact this
theorem D7 {F : Int → D} {l key : D} (hn : len l < 4611686018427387904) (h : ∀ i : Int, F i = cond (decide (i < (len l : Int))) (cond (decide (i < 0)) (.row []) (cond (D.strEq (cl l i 0) key) (.row [.int 1, .int i]) (F (IntKind.wrap .i64 (i + 1))))) (.row [.int 1, .int (-1)])) : F 0 = .row [.int 1, .int (fd l key)] := by
 refine find (F := fun i => F (i : Int)) (n := len l) (bad := fun j => D.strEq (cl l j 0) key) (fun j hj => ?_) ?_
 ·show F (j : Int) = _;rw [h, ifT (by omega), ifF (by omega), BE (by omega)]
 ·show F (len l : Int) = _;rw [h, ifF (by omega)]
section
variable [An]
variable {v0 v1 v2 v3 v4 v5 : D}
theorem Yb (hn : len v0 < 4611686018427387904) (k : D) : VJ v0 k = .row [.int 1, .int (fd v0 k)] := (kH ..).trans (D7 (F := fun i => Xo v0 (.int i) k) hn fun i => kG ..)
theorem XQ (hn : len v0 < 4611686018427387904) (k : D) : I3 v0 k = .row [.int 1, .int (fd v0 k)] := (lF ..).trans (D7 (F := fun i => WN v0 (.int i) k) hn fun i => kJ ..)
theorem Ul (hn : len v2 < 4611686018427387904) (k : D) : HI v0 v1 v2 v3 k = .row [.int 1, .int (fd v2 k)] := (cz ..).trans (D7 (F := fun i => RE k (.int i) v0 v1 v2 v3) hn fun i => gj ..)
theorem TG (hn : len v1 < 4611686018427387904) (k : D) : G9 v0 v1 v2 v3 k = .row [.int 1, .int (fd v1 k)] := (dz ..).trans (D7 (F := fun i => R1 k (.int i) v0 v1 v2 v3) hn fun i => io ..)
def nm (v : D) : Bool := (sl (Dc v) 1).toBool
theorem RJ (v : D) : Gj v = .row [.int 1, .bool (nm v)] := by
 obtain ⟨b, q1, q2⟩ := Rw v;rw [q1];unfold nm;rw [q2];rfl
theorem ND (v : D) : Dc v = .row [.int 1, .bool (nm v)] := by
 obtain ⟨b, q1, q2⟩ := Rw v;unfold nm;rw [q2];rfl
def Lx (v2 : D) (i : Nat) : Bool := !nm (cl v2 i 0) || decide (fd v2 (cl v2 i 0) < i) || decide ((cl v2 i 1).toInt < 1) || decide (1000 < (cl v2 i 1).toInt)
def IY (v1 : D) (i : Nat) : Bool := !nm (cl v1 i 0) || decide (fd v1 (cl v1 i 0) < i) || decide ((cl v1 i 2).toInt < 0) || decide (1048576 < (cl v1 i 2).toInt)
theorem hJ (hn : len v2 < 1000) (v0 v1 v3 : D) : UZ (.int (len v2 : Nat)) (.int 0) (.int 4) v0 v1 v2 v3 = .row [.int 1, .int (cond (decide (4 < (len v2 : Int))) 4 (fdG (Lx v2) (len v2) 0))] := by
 rw [ln, ifF (by omega)]
 by_cases c : 4 < (len v2 : Int)
 ·rw [ifT c, ifT c]
 rw [ifF c, ifF c];refine find (F := fun i => Tq (.int (len v2 : Nat)) (.int (i : Nat)) v0 v1 v2 v3) (n := len v2) (bad := Lx v2) (fun j hj => ?_) ?_
 ·show Tq _ (.int (j : Nat)) _ _ _ _ = _;rw [fX, ifT (by omega), ifF (by omega), ifT (by omega)]
  simp only [RJ, Yb (v0 := v2) (by omega), AX, AW, Av, AH, decide_true, cond_true, BE (i := j) (by omega)]
  unfold Lx;cases nm (cl v2 j 0) <;> cases decide (fd v2 (cl v2 j 0) < j) <;> cases decide ((cl v2 j 1).toInt < 1) <;> cases decide (1000 < (cl v2 j 1).toInt) <;> rfl
 ·show Tq _ (.int (len v2 : Nat)) _ _ _ _ = _;rw [fX, ifF (by omega)]
theorem j4 (hn : len v1 < 1000) (v0 v2 v3 : D) : Vq (.int (len v1 : Nat)) (.int 1) (.int 24) v0 v1 v2 v3 = .row [.int 1, .int (cond (decide ((len v1 : Int) < 1)) 0 (cond (decide (24 < (len v1 : Int))) 24 (fdG (IY v1) (len v1) 0)))] := by
 rw [kR];by_cases c : (len v1 : Int) < 1
 ·rw [ifT c, ifT c]
 rw [ifF c, ifF c];by_cases c : 24 < (len v1 : Int)
 ·rw [ifT c, ifT c]
 rw [ifF c, ifF c];refine find (F := fun i => S0 (.int (len v1 : Nat)) (.int (i : Nat)) v0 v1 v2 v3) (n := len v1) (bad := IY v1) (fun j hj => ?_) ?_
 ·show S0 _ (.int (j : Nat)) _ _ _ _ = _;rw [bl, ifT (by omega), ifF (by omega), ifT (by omega)]
  simp only [RJ, XQ (v0 := v1) (by omega), AX, AW, Av, AH, decide_true, cond_true, BE (i := j) (by omega)]
  unfold IY;cases nm (cl v1 j 0) <;> cases decide (fd v1 (cl v1 j 0) < j) <;> cases decide ((cl v1 j 2).toInt < 0) <;> cases decide (1048576 < (cl v1 j 2).toInt) <;> rfl
 ·show S0 _ (.int (len v1 : Nat)) _ _ _ _ = _;rw [bl, ifF (by omega)]
end
end Ml
namespace Ml
open Go Go.AE
def DP (v3 : D) (i j : Nat) : Bool := D.strEq (cl v3 j 0) (cl v3 i 0) && (D.strEq (cl v3 j 1) (cl v3 i 1) && (decide ((cl v3 j 2).toInt = (cl v3 i 2).toInt) && (D.strEq (cl v3 j 3) (cl v3 i 3) && (D.strEq (cl v3 j 4) (cl v3 i 4) && (D.strEq (cl v3 j 5) (cl v3 i 5) && (decide ((cl v3 j 6).toInt = (cl v3 i 6).toInt) && (decide ((cl v3 j 7).toInt = (cl v3 i 7).toInt) && decide ((cl v3 j 8).toInt = (cl v3 i 8).toInt))))))))
def dup (v3 : D) (i : Nat) : Bool := !decide (fdG (DP v3 i) i 0 < 0)
def W0 (v2 v3 : D) (i : Nat) : Bool := cond (eqC (cl v3 i 5) 0 0) (cond (decide ((cl v3 i 6).toInt = 0)) (cond (decide ((cl v3 i 7).toInt = 0)) (cond (decide ((cl v3 i 8).toInt = 0)) false true) true) true)
 (cond (decide (fd v2 (cl v3 i 5) < 0)) true (cond (decide ((cl v3 i 6).toInt < 0)) true (cond (decide ((cl v3 i 7).toInt < (cl v3 i 6).toInt)) true (cond (decide ((cl v3 i 8).toInt < (-1000))) true (cond (decide (1000 < (cl v3 i 8).toInt)) true
  (cond (decide ((cl v2 (fd v2 (cl v3 i 5)) 1).toInt < (cl v3 i 7).toInt)) true (cond (decide (IntKind.wrap .i64 ((cl v3 i 6).toInt + (cl v3 i 8).toInt) < 0)) true (cond (decide ((cl v2 (fd v2 (cl v3 i 5)) 1).toInt < IntKind.wrap .i64 ((cl v3 i 7).toInt + (cl v3 i 8).toInt))) true false))))))))
def En (v3 : D) : Prop := ∀ i : Nat, i < len v3 → (∃ n, cl v3 i 2 = .int n) ∧ (∃ n, cl v3 i 6 = .int n) ∧ (∃ n, cl v3 i 7 = .int n) ∧ (∃ n, cl v3 i 8 = .int n) ∧ A3 (cl v3 i 3) < 4611686018427387904 ∧ A3 (cl v3 i 4) < 4611686018427387904
section
variable [An]
def Oz (v0 v1 v3 : D) (i : Nat) : Bool := cond (decide ((cl v3 i 2).toInt = 1)) (cond (nm (cl v3 i 3)) (cond (nm (cl v3 i 4)) (D.strEq (cl v3 i 4) v0) true) true)
 (cond (decide ((cl v3 i 2).toInt = 2)) (cond (nm (cl v3 i 3)) (cond (nm (cl v3 i 4)) (D.strEq (cl v3 i 4) v0) true) true)
 (cond (decide ((cl v3 i 2).toInt = 3)) (cond (eqC (cl v3 i 3) 0 0) (cond (eqC (cl v3 i 4) 0 0) (!decide (0 < (cl v1 (fd v1 (cl v3 i 0)) 2).toInt)) true) true)
 (cond (decide ((cl v3 i 2).toInt = 4)) (cond (eqC (cl v3 i 3) 0 0) (cond (eqC (cl v3 i 4) 0 0) false true) true) true)))
def Gh (v0 v1 v2 v3 : D) (i : Nat) : Bool := decide (fd v1 (cl v3 i 0) < 0) || (decide (fd v1 (cl v3 i 1) < 0) || (dup v3 i || (Oz v0 v1 v3 i || W0 v2 v3 i)))
variable {v0 v1 v2 v3 : D}
theorem dw (hs : En v3) (hn : len v3 < 1000) {i : Nat} (hi : i < len v3) : ∃ n : Int, YL (sb v3 0 i) (cl v3 i 0) (cl v3 i 1) (cl v3 i 2) (cl v3 i 3) (cl v3 i 4) (cl v3 i 5) (cl v3 i 6) (cl v3 i 7) (cl v3 i 8) = .row [.int 1, .int n] ∧ decide (n < 0) = !dup v3 i := by
 obtain ⟨⟨n2, h2⟩, ⟨n6, h6⟩, ⟨n7, h7⟩, ⟨n8, h8⟩, _⟩ := hs i hi;refine ⟨fdG (DP v3 i) i 0, ?_, by unfold dup; rw [Bool.not_not]⟩
 have hl : len (sb v3 0 i) = i := by
  have := T7 (a := v3) (lo := 0) (hi := (i : Int)) (by omega) (by omega)
  omega
 rw [h2, h6, h7, h8, lh];refine find (F := fun j => SA (sb v3 0 i) (.int (j : Nat)) (cl v3 i 0) (cl v3 i 1) (.int n2) (cl v3 i 3) (cl v3 i 4) (cl v3 i 5) (.int n6) (.int n7) (.int n8)) (n := i) (bad := DP v3 i) (fun j hj => ?_) ?_
 ·show SA (sb v3 0 i) (.int (j : Nat)) (cl v3 i 0) (cl v3 i 1) (.int n2) (cl v3 i 3) (cl v3 i 4) (cl v3 i 5) (.int n6) (.int n7) (.int n8) = _;rw [ez, hl, ifT (by omega), ifF (by omega), BE (by omega)]
  simp only [LD (a := v3) (i := i) (j := j) (by omega) hj]
  have e : (D.strEq (cl v3 i 0) (cl v3 j 0) && (D.strEq (cl v3 i 1) (cl v3 j 1) && (decide (n2 = (cl v3 j 2).toInt) && (D.strEq (cl v3 i 3) (cl v3 j 3) && (D.strEq (cl v3 i 4) (cl v3 j 4) && (D.strEq (cl v3 i 5) (cl v3 j 5) && (decide (n6 = (cl v3 j 6).toInt) && (decide (n7 = (cl v3 j 7).toInt) && decide (n8 = (cl v3 j 8).toInt))))))))) = DP v3 i j := by
   unfold DP;rw [h2, h6, h7, h8];simp only [Av];rw [Bx (a := cl v3 i 0), Bx (a := cl v3 i 1), Bx (a := cl v3 i 3), Bx (a := cl v3 i 4), Bx (a := cl v3 i 5)];rw [RX (x := n2), RX (x := n6), RX (x := n7), RX (x := n8)];rfl
  rw [e]
 ·show SA (sb v3 0 i) (.int (i : Nat)) (cl v3 i 0) (cl v3 i 1) (.int n2) (cl v3 i 3) (cl v3 i 4) (cl v3 i 5) (.int n6) (.int n7) (.int n8) = _;rw [ez, hl, ifF (by omega)]
theorem WQ (hs : En v3) (hn : len v3 < 1000) (hn1 : len v1 < 1000) (hn2 : len v2 < 1000) {i : Nat} (hi : i < len v3) : Hw (.int (len v3 : Nat)) (.int (i : Nat)) v0 v1 v2 v3 = cond (Gh v0 v1 v2 v3 i) (.row [.int 1, .int (i : Nat)]) (Hw (.int (len v3 : Nat)) (.int (i + 1 : Nat)) v0 v1 v2 v3) := by
 obtain ⟨n, h6, hd⟩ := dw hs hn hi;obtain ⟨_, _, _, _, h3, h4⟩ := hs i hi;rw [fV (h0 := rfl) (h1 := rfl) (h2 := rfl), ifT (by omega), ifF (by omega), ifT (by omega)]
 have a1 := IE (l := v1) (key := cl v3 i 0);have a2 := IE (l := v2) (key := cl v3 i 5);have d1 : decide ((A3 (cl v3 i 3) : Int) < 4611686018427387904) = true := decide_eq_true (by omega)
 have d2 : decide ((A3 (cl v3 i 4) : Int) < 4611686018427387904) = true := decide_eq_true (by omega)
 have d3 : decide ((len v3 : Int) < i) = false := decide_eq_false (by omega)
 simp only [h6, hd, RJ, Yb (v0 := v2) (by omega), XQ (v0 := v1) (by omega), AX, AW, Av, AH, decide_true, cond_true, cond_false, BE (i := i) (by omega), decide_eq_true a1, decide_eq_true a2, d1, d2, d3, Q5]
 unfold Gh Oz;generalize Hw (.int (len v3 : Nat)) (.int (i + 1 : Nat)) v0 v1 v2 v3 = X;generalize hY : (D.row [.int 1, .int (i : Nat)]) = Y;cases decide (fd v1 (cl v3 i 0) < 0) <;> cases decide (fd v1 (cl v3 i 1) < 0) <;> cases dup v3 i <;> simp only [cond_true, cond_false, Bool.true_or, Bool.false_or, Bool.not_true, Bool.not_false, Bool.cond_self]
 unfold W0;by_cases k1 : (cl v3 i 2).toInt = 1
 ·simp only [ifT k1];cases nm (cl v3 i 3) <;> cases nm (cl v3 i 4) <;> cases D.strEq (cl v3 i 4) v0 <;> simp only [cond_true, cond_false, Bool.true_or, Bool.false_or]
  repeat' (refine Kv (fun h => ?_) (fun h => ?_)) <;> simp only [*, cond_true, cond_false]
 simp only [ifF k1];by_cases k2 : (cl v3 i 2).toInt = 2
 ·simp only [ifT k2];cases nm (cl v3 i 3) <;> cases nm (cl v3 i 4) <;> cases D.strEq (cl v3 i 4) v0 <;> simp only [cond_true, cond_false, Bool.true_or, Bool.false_or]
  repeat' (refine Kv (fun h => ?_) (fun h => ?_)) <;> simp only [*, cond_true, cond_false]
 simp only [ifF k2];by_cases k3 : (cl v3 i 2).toInt = 3
 ·simp only [ifT k3];cases eqC (cl v3 i 3) 0 0 <;> cases eqC (cl v3 i 4) 0 0 <;> cases decide (0 < (cl v1 (fd v1 (cl v3 i 0)) 2).toInt) <;> simp only [cond_true, cond_false, Bool.true_or, Bool.false_or, Bool.and_true, Bool.true_and, Bool.and_false, Bool.false_and, Bool.not_true, Bool.not_false]
  repeat' (refine Kv (fun h => ?_) (fun h => ?_)) <;> simp only [*, cond_true, cond_false]
 simp only [ifF k3];by_cases k4 : (cl v3 i 2).toInt = 4
 ·simp only [ifT k4];cases eqC (cl v3 i 3) 0 0 <;> cases eqC (cl v3 i 4) 0 0 <;> simp only [cond_true, cond_false, Bool.true_or, Bool.false_or, Bool.and_true, Bool.true_and, Bool.and_false, Bool.false_and, Bool.not_true, Bool.not_false]
  repeat' (refine Kv (fun h => ?_) (fun h => ?_)) <;> simp only [*, cond_true, cond_false]
 simp only [ifF k4, cond_true, Bool.true_or]
theorem eZ (hs : En v3) (hn : len v3 < 1000) (hn1 : len v1 < 1000) (hn2 : len v2 < 1000) (v0 : D) : VP (.int (len v3 : Nat)) (.int 0) (.int 80) v0 v1 v2 v3 = .row [.int 1, .int (cond (decide (80 < (len v3 : Int))) 80 (fdG (Gh v0 v1 v2 v3) (len v3) 0))] := by
 rw [kZ, ifF (by omega)]
 by_cases c : 80 < (len v3 : Int)
 ·rw [ifT c, ifT c]
 rw [ifF c, ifF c];refine find (F := fun i => Hw (.int (len v3 : Nat)) (.int (i : Nat)) v0 v1 v2 v3) (n := len v3) (bad := Gh v0 v1 v2 v3) (fun j hj => WQ hs hn hn1 hn2 hj) ?_
 show Hw _ (.int (len v3 : Nat)) _ _ _ _ = _;rw [fV (h0 := rfl) (h1 := rfl) (h2 := rfl), ifF (by omega)]
theorem U1 (hs : En v3) (hn : len v3 < 1000) (hn1 : len v1 < 1000) (hn2 : len v2 < 1000) {i : Nat} (hi : i < len v3) (hf : 0 ≤ fd v1 (cl v3 i 0)) : FL (.int (i : Nat)) (.int (fd v1 (cl v3 i 0))) (.int 0) v0 v1 v2 v3 (cl v3 i 0) (cl v3 i 1) (cl v3 i 2) (cl v3 i 3) (cl v3 i 4) (cl v3 i 5) (cl v3 i 6) (cl v3 i 7) (cl v3 i 8) = .row [.int 1, .bool (!(dup v3 i || Oz v0 v1 v3 i))] := by
 obtain ⟨⟨n2, h2⟩, ⟨n6, h6⟩, ⟨n7, h7⟩, ⟨n8, h8⟩, h3, h4⟩ := hs i hi
 have L := KH (F := fun j => FL (.int (i : Nat)) (.int (fd v1 (cl v3 i 0))) (.int (j : Nat)) v0 v1 v2 v3 (cl v3 i 0) (cl v3 i 1) (cl v3 i 2) (cl v3 i 3) (cl v3 i 4) (cl v3 i 5) (cl v3 i 6) (cl v3 i 7) (cl v3 i 8)) (n := i) (bad := DP v3 i) (B := fun _ => .row [.int 1, .bool false]) (fun j hj => by
  show FL (.int (i : Nat)) (.int (fd v1 (cl v3 i 0))) (.int (j : Nat)) v0 v1 v2 v3 (cl v3 i 0) (cl v3 i 1) (cl v3 i 2) (cl v3 i 3) (cl v3 i 4) (cl v3 i 5) (cl v3 i 6) (cl v3 i 7) (cl v3 i 8) = cond _ _ (FL (.int (i : Nat)) (.int (fd v1 (cl v3 i 0))) (.int (j + 1 : Nat)) v0 v1 v2 v3 (cl v3 i 0) (cl v3 i 1) (cl v3 i 2) (cl v3 i 3) (cl v3 i 4) (cl v3 i 5) (cl v3 i 6) (cl v3 i 7) (cl v3 i 8))
  have e : (D.strEq (cl v3 j 0) (cl v3 i 0) && (D.strEq (cl v3 j 1) (cl v3 i 1) && (decide ((cl v3 j 2).toInt = n2) && (D.strEq (cl v3 j 3) (cl v3 i 3) && (D.strEq (cl v3 j 4) (cl v3 i 4) && (D.strEq (cl v3 j 5) (cl v3 i 5) && (decide ((cl v3 j 6).toInt = n6) && (decide ((cl v3 j 7).toInt = n7) && decide ((cl v3 j 8).toInt = n8))))))))) = DP v3 i j := by
   unfold DP;rw [h2, h6, h7, h8];rfl
  rw [← e, h2, h6, h7, h8, Yg, ifT (by omega), ifF (by omega), ifT (by omega), BE (by omega)])
 have L : FL (.int (i : Nat)) (.int (fd v1 (cl v3 i 0))) (.int 0) v0 v1 v2 v3 (cl v3 i 0) (cl v3 i 1) (cl v3 i 2) (cl v3 i 3) (cl v3 i 4) (cl v3 i 5) (cl v3 i 6) (cl v3 i 7) (cl v3 i 8) = cond (decide (fdG (DP v3 i) i 0 < 0)) (FL (.int (i : Nat)) (.int (fd v1 (cl v3 i 0))) (.int (i : Nat)) v0 v1 v2 v3 (cl v3 i 0) (cl v3 i 1) (cl v3 i 2) (cl v3 i 3) (cl v3 i 4) (cl v3 i 5) (cl v3 i 6) (cl v3 i 7) (cl v3 i 8)) (.row [.int 1, .bool false]) := L;rw [L];have e : decide (fdG (DP v3 i) i 0 < 0) = !dup v3 i := by unfold dup; rw [Bool.not_not]
 rw [e];cases dup v3 i
 ·show FL (.int (i : Nat)) (.int (fd v1 (cl v3 i 0))) (.int (i : Nat)) v0 v1 v2 v3 (cl v3 i 0) (cl v3 i 1) (cl v3 i 2) (cl v3 i 3) (cl v3 i 4) (cl v3 i 5) (cl v3 i 6) (cl v3 i 7) (cl v3 i 8) = .row [.int 1, .bool (!Oz v0 v1 v3 i)];have a1 := IE (l := v1) (key := cl v3 i 0);have t2 : (cl v3 i 2).toInt = n2 := by rw [h2]; rfl
  have R : FL (.int (i : Nat)) (.int (fd v1 (cl v3 i 0))) (.int (i : Nat)) v0 v1 v2 v3 (cl v3 i 0) (cl v3 i 1) (.int n2) (cl v3 i 3) (cl v3 i 4) (cl v3 i 5) (.int n6) (.int n7) (.int n8) = .row [.int 1, .bool (!Oz v0 v1 v3 i)] := by
   rw [Yg, ifF (by omega)]
   simp only [ND, AX, AW, Av, AH, decide_true, cond_true, decide_eq_true a1, decide_eq_false (show ¬ fd v1 (cl v3 i 0) < 0 by omega), cond_false]
   unfold Oz;by_cases k1 : n2 = 1
   ·rw [ifT k1, ifT (t2.trans k1)];cases nm (cl v3 i 3) <;> cases nm (cl v3 i 4) <;> rfl
   rw [ifF k1, ifF (p := (cl v3 i 2).toInt = 1) (by omega)]
   by_cases k2 : n2 = 2
   ·rw [ifT k2, ifT (t2.trans k2)];cases nm (cl v3 i 3) <;> cases nm (cl v3 i 4) <;> rfl
   rw [ifF k2, ifF (p := (cl v3 i 2).toInt = 2) (by omega)]
   by_cases k3 : n2 = 3
   ·rw [ifT k3, ifT (t2.trans k3)];cases eqC (cl v3 i 3) 0 0 <;> cases eqC (cl v3 i 4) 0 0 <;> simp only [cond_true, cond_false, Bool.not_true, Bool.not_false, Bool.not_not]
   rw [ifF k3, ifF (p := (cl v3 i 2).toInt = 3) (by omega)]
   by_cases k4 : n2 = 4
   ·rw [ifT k4, ifT (t2.trans k4)];cases eqC (cl v3 i 3) 0 0 <;> cases eqC (cl v3 i 4) 0 0 <;> rfl
   rw [ifF k4, ifF (p := (cl v3 i 2).toInt = 4) (by omega)]
   rfl
  rw [h2, h6, h7, h8];exact R
 ·rfl
theorem au (hs : En v3) (hn : len v3 < 1000) (hn1 : len v1 < 1000) (hn2 : len v2 < 1000) {i : Nat} (hi : i < len v3) : RM v0 v1 v2 v3 (.int (i : Nat)) = .row [.int 1, .bool (!Gh v0 v1 v2 v3 i)] := by
 rw [ej, ifF (by omega), ifT (by omega)]
 have a1 := IE (l := v1) (key := cl v3 i 0);have a2 := IE (l := v2) (key := cl v3 i 5);simp only [Ul (v0 := v0) (v1 := v1) (v2 := v2) (v3 := v3) (by omega), TG (v0 := v0) (v1 := v1) (v2 := v2) (v3 := v3) (by omega), AX, AW, Av, AH, decide_true, cond_true, decide_eq_true a2]
 unfold Gh;by_cases c : fd v1 (cl v3 i 0) < 0
 ·rw [ifT c, decide_eq_true c]; rfl
 rw [ifF c, decide_eq_false c, U1 hs hn hn1 hn2 hi (by omega)]
 unfold W0;cases decide (fd v1 (cl v3 i 1) < 0) <;> cases dup v3 i <;> cases Oz v0 v1 v3 i <;> simp only [cond_true, cond_false, Bool.true_or, Bool.false_or, Bool.not_true, Bool.not_false]
 all_goals (repeat' (refine Kv (fun h => ?_) (fun h => ?_))) <;> simp only [*, cond_true, cond_false, Bool.not_true, Bool.not_false, Bool.cond_self]
end
end Ml
namespace Ml
open Go Go.AE
section
variable [An]
variable {v0 v1 v2 v3 : D}
def Jh (v2 : D) : Int := cond (decide (4 < (len v2 : Int))) 4 (fdG (Lx v2) (len v2) 0)
def Hh (v1 : D) : Int := cond (decide ((len v1 : Int) < 1)) 0 (cond (decide (24 < (len v1 : Int))) 24 (fdG (IY v1) (len v1) 0))
def IV (v0 v1 v2 v3 : D) : Int := cond (decide (80 < (len v3 : Int))) 80 (fdG (Gh v0 v1 v2 v3) (len v3) 0)
def rok (v0 v1 v2 v3 : D) : Bool := nm v0 && (decide (Jh v2 < 0) && (decide (Hh v1 < 0) && decide (IV v0 v1 v2 v3 < 0)))
theorem ly (hn : len v2 < 1000) : JO (.int 0) v0 v1 v2 v3 = cond (decide (fdG (Lx v2) (len v2) 0 < 0)) (JO (.int (len v2 : Nat)) v0 v1 v2 v3) (.row [.int 1, .int (fdG (Lx v2) (len v2) 0).toNat, .int 291]) :=
 KH (F := fun j => JO (.int (j : Nat)) v0 v1 v2 v3) (n := len v2) (bad := Lx v2) (B := fun j => .row [.int 1, .int (j : Nat), .int 291]) fun j hj => by
  show JO (.int (j : Nat)) v0 v1 v2 v3 = cond _ _ (JO (.int (j + 1 : Nat)) v0 v1 v2 v3);have a := Kn hj;rw [XT, ifT (by omega), ifF (by omega), BE (by omega)]
  simp only [ND, Ul (v0 := v0) (v1 := v1) (v2 := v2) (v3 := v3) (by omega), AX, AW, Av, AH, decide_true, cond_true]
  unfold Lx;by_cases q : fd v2 (cl v2 j 0) < j
  ·rw [ifF (by omega), decide_eq_true q]
   cases nm (cl v2 j 0) <;> rfl
  ·rw [ifT (by omega), decide_eq_false q]
   cases nm (cl v2 j 0) <;> cases decide ((cl v2 j 1).toInt < 1) <;> cases decide (1000 < (cl v2 j 1).toInt) <;> rfl
theorem ky (hn : len v1 < 1000) : Jn (.int 0) v0 v1 v2 v3 = cond (decide (fdG (IY v1) (len v1) 0 < 0)) (Jn (.int (len v1 : Nat)) v0 v1 v2 v3) (.row [.int 1, .int (fdG (IY v1) (len v1) 0).toNat, .int 292]) :=
 KH (F := fun j => Jn (.int (j : Nat)) v0 v1 v2 v3) (n := len v1) (bad := IY v1) (B := fun j => .row [.int 1, .int (j : Nat), .int 292]) fun j hj => by
  show Jn (.int (j : Nat)) v0 v1 v2 v3 = cond _ _ (Jn (.int (j + 1 : Nat)) v0 v1 v2 v3);have a := Kn hj;rw [Yv, ifT (by omega), ifF (by omega), BE (by omega)]
  simp only [ND, TG (v0 := v0) (v1 := v1) (v2 := v2) (v3 := v3) (by omega), AX, AW, Av, AH, decide_true, cond_true]
  unfold IY;by_cases q : fd v1 (cl v1 j 0) < j
  ·rw [ifF (by omega), decide_eq_true q]
   cases nm (cl v1 j 0) <;> rfl
  ·rw [ifT (by omega), decide_eq_false q]
   cases nm (cl v1 j 0) <;> cases decide ((cl v1 j 2).toInt < 0) <;> cases decide (1048576 < (cl v1 j 2).toInt) <;> rfl
theorem kK (hs : En v3) (hn : len v3 < 1000) (hn1 : len v1 < 1000) (hn2 : len v2 < 1000) : JP (.int 0) v0 v1 v2 v3 = cond (decide (fdG (Gh v0 v1 v2 v3) (len v3) 0 < 0)) (JP (.int (len v3 : Nat)) v0 v1 v2 v3) (.row [.int 1, .int (fdG (Gh v0 v1 v2 v3) (len v3) 0).toNat, .int 293]) :=
 KH (F := fun j => JP (.int (j : Nat)) v0 v1 v2 v3) (n := len v3) (bad := Gh v0 v1 v2 v3) (B := fun j => .row [.int 1, .int (j : Nat), .int 293]) fun j hj => by
  show JP (.int (j : Nat)) v0 v1 v2 v3 = cond _ _ (JP (.int (j + 1 : Nat)) v0 v1 v2 v3);rw [Yk, ifT (by omega), BE (by omega)]
  simp only [au hs hn hn1 hn2 hj, AX, AW, Av, AH, decide_true, cond_true];cases Gh v0 v1 v2 v3 j <;> rfl
end
end Ml
namespace Ml
open Go Go.AE
section
variable [An]
variable {v0 v1 v2 v3 : D}
def Ha (v0 v1 v2 v3 : D) : Int := cond (nm v0) (cond (decide (Jh v2 < 0)) (cond (decide (Hh v1 < 0)) (cond (decide (IV v0 v1 v2 v3 < 0)) 0 293) 292) 291) 290
theorem Uf : decide (Ha v0 v1 v2 v3 = 0) = rok v0 v1 v2 v3 := by
 unfold Ha rok;cases nm v0
 ·rfl
 cases decide (Jh v2 < 0)
 ·rfl
 cases decide (Hh v1 < 0)
 ·rfl
 cases decide (IV v0 v1 v2 v3 < 0) <;> rfl
theorem YD (hs : En v3) (hn : len v3 < 1000) (hn1 : len v1 < 1000) (hn2 : len v2 < 1000) (v0 : D) : ∃ a, V8 v0 v1 v2 v3 = .row [.int 1, .int a, .int (Ha v0 v1 v2 v3)] := by
 rw [lA];simp only [RJ, hJ hn2, j4 hn1, eZ hs hn hn1 hn2, AX, AW, Av, AH, decide_true, cond_true];unfold Ha;cases nm v0
 ·exact ⟨_, rfl⟩
 simp only [cond_true];by_cases c1 : Jh v2 < 0;rotate_left
 ·have c1' := c1;unfold Jh at c1;rw [ifF c1, ifF c1'];exact ⟨_, rfl⟩
 rw [ifT c1];unfold Jh at c1;rw [ifT c1];by_cases c2 : Hh v1 < 0;rotate_left
 ·have c2' := c2;unfold Hh at c2;rw [ifF c2, ifF c2'];exact ⟨_, rfl⟩
 rw [ifT c2];unfold Hh at c2;rw [ifT c2];by_cases c3 : IV v0 v1 v2 v3 < 0;rotate_left
 ·have c3' := c3;unfold IV at c3;rw [ifF c3, ifF c3'];exact ⟨_, rfl⟩
 rw [ifT c3];unfold IV at c3;rw [ifT c3];exact ⟨_, rfl⟩
theorem Pe (hs : En v3) (hn : len v3 < 1000) (hn1 : len v1 < 1000) (hn2 : len v2 < 1000) (v0 : D) : ∃ a, PK v0 v1 v2 v3 = .row [.int 1, .int a, .int (Ha v0 v1 v2 v3)] := by
 rw [aO];simp only [ND, AX, AW, Av, AH, decide_true, cond_true];unfold Ha;cases c0 : nm v0
 ·exact ⟨_, rfl⟩
 simp only [cond_true];by_cases c1 : 4 < (len v2 : Int)
 ·rw [ifT c1, ifF (show ¬ Jh v2 < 0 by unfold Jh; rw [ifT c1]; omega)]
  exact ⟨_, rfl⟩
 rw [ifF c1, ly hn2];by_cases c2 : fdG (Lx v2) (len v2) 0 < 0;rotate_left
 ·rw [ifF c2, ifF (show ¬ Jh v2 < 0 by unfold Jh; rw [ifF c1]; exact c2)]
  exact ⟨_, rfl⟩
 rw [ifT c2, XT, ifF (by omega), ifT (show Jh v2 < 0 by unfold Jh; rw [ifF c1]; exact c2)]
 by_cases c3 : (len v1 : Int) = 0
 ·rw [ifT c3, ifF (show ¬ Hh v1 < 0 by unfold Hh; rw [ifT (by omega)]; omega)]
  exact ⟨_, rfl⟩
 rw [ifF c3];by_cases c4 : 24 < (len v1 : Int)
 ·rw [ifT c4, ifF (show ¬ Hh v1 < 0 by unfold Hh; rw [ifF (by omega), ifT c4]; omega)]
  exact ⟨_, rfl⟩
 rw [ifF c4, ky hn1];by_cases c5 : fdG (IY v1) (len v1) 0 < 0;rotate_left
 ·rw [ifF c5, ifF (show ¬ Hh v1 < 0 by unfold Hh; rw [ifF (by omega), ifF c4]; exact c5)]
  exact ⟨_, rfl⟩
 rw [ifT c5, Yv, ifF (by omega), ifT (show Hh v1 < 0 by unfold Hh; rw [ifF (by omega), ifF c4]; exact c5)]
 by_cases c6 : 80 < (len v3 : Int)
 ·rw [ifT c6, ifF (show ¬ IV v0 v1 v2 v3 < 0 by unfold IV; rw [ifT c6]; omega)]
  exact ⟨_, rfl⟩
 rw [ifF c6, kK hs hn hn1 hn2];by_cases c7 : fdG (Gh v0 v1 v2 v3) (len v3) 0 < 0;rotate_left
 ·rw [ifF c7, ifF (show ¬ IV v0 v1 v2 v3 < 0 by unfold IV; rw [ifF c6]; exact c7)]
  exact ⟨_, rfl⟩
 rw [ifT c7, Yk, ifF (by omega), ifT (show IV v0 v1 v2 v3 < 0 by unfold IV; rw [ifF c6]; exact c7)]
 exact ⟨_, rfl⟩
theorem Uy {v : D} (h : nm v = true) : 1 ≤ A3 v := by
 rcases Nat.lt_or_ge 0 (A3 v) with q | q
 ·exact q
 unfold nm at h;rw [Yx, ifT (by omega)] at h
 cases h
end
structure Rk (S C T : D) : Prop where
 s0 : 0 < len S
 s1 : len S < 1000
 c1 : len C ≤ 4
 t1 : len T ≤ 20
 wt : ∀ i : Nat, i < len S → 0 ≤ (cl S i 2).toInt ∧ (cl S i 2).toInt ≤ 1048576
 tmo : ∀ i : Nat, i < len T → (cl T i 2).toInt = 3 → 0 < (cl S (fd S (cl T i 0)) 2).toInt
 sne : ∀ i : Nat, i < len S → eqC (cl S i 0) 0 0 = false
 sid : ∀ i : Nat, i < len S → fd S (cl S i 0) = i
 cid : ∀ i : Nat, i < len C → fd C (cl C i 0) = i
 lim : ∀ i : Nat, i < len C → 1 ≤ (cl C i 1).toInt ∧ (cl C i 1).toInt ≤ 1000
 cne : ∀ i : Nat, i < len C → eqC (cl C i 0) 0 0 = false
 cI : ∀ i : Nat, i < len C → ∃ m, cl C i 1 = .int m
 tI : En T
 frm : ∀ i : Nat, i < len T → 0 ≤ fd S (cl T i 0)
 to : ∀ i : Nat, i < len T → 0 ≤ fd S (cl T i 1)
 ctr : ∀ i : Nat, i < len T → (eqC (cl T i 5) 0 0 = true ∧ fd C (cl T i 5) = -1) ∨ (eqC (cl T i 5) 0 0 = false ∧ 0 ≤ fd C (cl T i 5) ∧ 0 ≤ (cl T i 6).toInt ∧ (cl T i 6).toInt ≤ (cl T i 7).toInt ∧
  (cl T i 7).toInt ≤ (cl C (fd C (cl T i 5)) 1).toInt ∧ -1000 ≤ (cl T i 8).toInt ∧ (cl T i 8).toInt ≤ 1000 ∧ 0 ≤ (cl T i 6).toInt + (cl T i 8).toInt ∧ (cl T i 7).toInt + (cl T i 8).toInt ≤ (cl C (fd C (cl T i 5)) 1).toInt)
section
variable [An]
theorem YP {v0 S C T : D} (h : rok v0 S C T = true) (hc : ∀ i : Nat, i < len C → ∃ m, cl C i 1 = .int m) (ht : En T) (hS : len S ≤ 8) (hT : len T ≤ 20) : Rk S C T := by
 unfold rok at h;simp only [Bool.and_eq_true] at h;obtain ⟨_, h1, h2, h3⟩ := h;unfold Jh at h1;unfold Hh at h2;unfold IV at h3;by_cases c1 : 4 < (len C : Int)
 ·rw [ifT c1] at h1; cases h1
 rw [ifF c1] at h1;by_cases c2 : (len S : Int) < 1
 ·rw [ifT c2] at h2; cases h2
 rw [ifF c2, ifF (by omega)] at h2
 rw [ifF (by omega)] at h3
 have B1 : ∀ i, i < len C → Lx C i = false := fun i hi => NU (k := len C) (i := 0) (by omega) (.inr ⟨dT h1, by omega⟩)
 have B2 : ∀ i, i < len S → IY S i = false := fun i hi => NU (k := len S) (i := 0) (by omega) (.inr ⟨dT h2, by omega⟩)
 have B3 : ∀ i, i < len T → Gh v0 S C T i = false := fun i hi => NU (k := len T) (i := 0) (by omega) (.inr ⟨dT h3, by omega⟩)
 have E1 : ∀ i, i < len C → nm (cl C i 0) = true ∧ fd C (cl C i 0) = i ∧ 1 ≤ (cl C i 1).toInt ∧ (cl C i 1).toInt ≤ 1000 := fun i hi => by
  have b := B1 i hi;unfold Lx at b;simp only [Bool.or_eq_false_iff, Bool.not_eq_false'] at b;have s := Kn hi;have b2 := dF b.1.1.2;have b3 := dF b.1.2;have b4 := dF b.2;exact ⟨b.1.1.1, by omega, by omega, by omega⟩
 have ne : ∀ i, i < len C → eqC (cl C i 0) 0 0 = false := fun i hi => by
  rw [Ek];have := Uy (E1 i hi).1;exact decide_eq_false (by omega)
 refine ⟨by omega, by omega, by omega, hT, fun i hi => ?_, fun i hi h3 => ?_, fun i hi => ?_, fun i hi => ?_, fun i hi => (E1 i hi).2.1, fun i hi => (E1 i hi).2.2, ne, hc, ht, fun i hi => ?_, fun i hi => ?_, fun i hi => ?_⟩
 ·have b := B2 i hi;unfold IY at b;simp only [Bool.or_eq_false_iff] at b;have b2 := dF b.1.2;have b3 := dF b.2;omega
 ·have b := B3 i hi;unfold Gh at b;simp only [Bool.or_eq_false_iff] at b;have b := b.2.2.2.1;unfold Oz at b;rw [ifF (by omega), ifF (by omega), ifT h3] at b
  cases q1 : eqC (cl T i 3) 0 0
  ·rw [q1] at b; cases b
  cases q2 : eqC (cl T i 4) 0 0
  ·rw [q1, q2] at b; cases b
  rw [q1, q2] at b;simp only [cond_true, Bool.not_eq_false'] at b;exact dT b
 ·have b := B2 i hi;unfold IY at b;simp only [Bool.or_eq_false_iff, Bool.not_eq_false'] at b;rw [Ek];have := Uy b.1.1.1;exact decide_eq_false (by omega)
 ·have b := B2 i hi;unfold IY at b;simp only [Bool.or_eq_false_iff] at b;have s := Kn hi;have b2 := dF b.1.1.2;omega
 ·have b := B3 i hi;unfold Gh at b;simp only [Bool.or_eq_false_iff] at b;exact Int.not_lt.1 (dF b.1)
 ·have b := B3 i hi;unfold Gh at b;simp only [Bool.or_eq_false_iff] at b;exact Int.not_lt.1 (dF b.2.1)
 ·have b := B3 i hi;unfold Gh at b;simp only [Bool.or_eq_false_iff] at b;have b := b.2.2.2.2;unfold W0 at b;cases hz : eqC (cl T i 5) 0 0
  ·right;rw [hz] at b;simp only [cond_false] at b;by_cases d1 : fd C (cl T i 5) < 0
   ·rw [ifT d1] at b; cases b
   rw [ifF d1] at b;by_cases d2 : (cl T i 6).toInt < 0
   ·rw [ifT d2] at b; cases b
   rw [ifF d2] at b;by_cases d3 : (cl T i 7).toInt < (cl T i 6).toInt
   ·rw [ifT d3] at b; cases b
   rw [ifF d3] at b;by_cases d4 : (cl T i 8).toInt < -1000
   ·rw [ifT d4] at b; cases b
   rw [ifF d4] at b;by_cases d5 : 1000 < (cl T i 8).toInt
   ·rw [ifT d5] at b; cases b
   rw [ifF d5] at b;by_cases d6 : (cl C (fd C (cl T i 5)) 1).toInt < (cl T i 7).toInt
   ·rw [ifT d6] at b; cases b
   rw [ifF d6] at b;have lt := IE (l := C) (key := cl T i 5);have l := E1 (fd C (cl T i 5)).toNat (by omega)
   rw [show (((fd C (cl T i 5)).toNat : Nat) : Int) = fd C (cl T i 5) by omega] at l
   rw [AG (by omega) (by omega), AG (by omega) (by omega)] at b
   by_cases d7 : (cl T i 6).toInt + (cl T i 8).toInt < 0
   ·rw [ifT d7] at b; cases b
   rw [ifF d7] at b;by_cases d8 : (cl C (fd C (cl T i 5)) 1).toInt < (cl T i 7).toInt + (cl T i 8).toInt
   ·rw [ifT d8] at b; cases b
   exact ⟨rfl, by omega, by omega, by omega, by omega, by omega, by omega, by omega, by omega⟩
  ·left;refine ⟨rfl, ?_⟩;rcases ju (l := C) (key := cl T i 5) with g | g
   ·exact g
   exfalso
   have lt := IE (l := C) (key := cl T i 5);have s := Ya g
   have e : eqC (cl C (fd C (cl T i 5)) 0) 0 0 = eqC (cl T i 5) 0 0 := by
    rw [Ek, Ek];unfold A3;rw [Em.1 s]
   have l := ne (fd C (cl T i 5)).toNat (by omega)
   rw [show (((fd C (cl T i 5)).toNat : Nat) : Int) = fd C (cl T i 5) by omega] at l
   rw [e, hz] at l;cases l
end
end Ml
namespace Ml
open Go Go.AE
def In2 (h : D) (x y : Int) : Prop := ∃ j : Nat, j < len h ∧ (cl h j 0).toInt = x ∧ (cl h j 1).toInt = y
def swp (h : D) (a b : Int) : D := upd (upd (upd (upd h a 0 (cl h b 0)) a 1 (cl h b 1)) b 0 (cl h a 0)) b 1 (cl h a 1)
theorem GE {h : D} {a b : Int} : len (swp h a b) = len h := by unfold swp; simp only [D0]
theorem UP {h : D} {a b : Int} (w : Wd h 2) : Wd (swp h a b) 2 := by unfold swp; exact Ea (Ea (Ea (Ea w)))
theorem T1 {h : D} {a b k : Int} {c : Nat} (w : Wd h 2) (a0 : 0 ≤ a) (a1 : a < len h) (b0 : 0 ≤ b) (b1 : b < len h) (k0 : 0 ≤ k) (hc : c < 2) : cl (swp h a b) k c = if k = b then cl h a c else if k = a then cl h b c else cl h k c := by
 have w1 : Wd (upd h a 0 (cl h b 0)) 2 := Ea w;have w2 : Wd (upd (upd h a 0 (cl h b 0)) a 1 (cl h b 1)) 2 := Ea w1;have w3 : Wd (upd (upd (upd h a 0 (cl h b 0)) a 1 (cl h b 1)) b 0 (cl h a 0)) 2 := Ea w2;unfold swp;rw [ES w3 (by omega) b0 (by simp only [D0]; exact b1) k0, ES w2 (by omega) b0 (by simp only [D0]; exact b1) k0, ES w1 (by omega) a0 (by simp only [D0]; exact a1) k0, ES w (by omega) a0 a1 k0]
 match c, hc with
 | 0, _ =>
  by_cases q : k = b
  ·rw [if_neg (by omega), if_pos ⟨q, rfl⟩, if_pos q]
  ·rw [if_neg (by omega), if_neg (fun c => q c.1), if_neg (by omega), if_neg q]
   by_cases r : k = a
   ·rw [if_pos ⟨r, rfl⟩, if_pos r]
   ·rw [if_neg (fun c => r c.1), if_neg r]
 | 1, _ =>
  by_cases q : k = b
  ·rw [if_pos ⟨q, rfl⟩, if_pos q]
  ·rw [if_neg (fun c => q c.1), if_neg (by omega), if_neg q]
   by_cases r : k = a
   ·rw [if_pos ⟨r, rfl⟩, if_pos r]
   ·rw [if_neg (fun c => r c.1), if_neg (by omega), if_neg r]
theorem UQ {h : D} {a b : Nat} {x y : Int} (w : Wd h 2) (a1 : a < len h) (b1 : b < len h) (hi : In2 h x y) : In2 (swp h a b) x y := by
 obtain ⟨j, j1, e0, e1⟩ := hi;have C : ∀ (k : Nat) (c : Nat), c < 2 → cl (swp h a b) k c = if (k : Int) = b then cl h a c else if (k : Int) = a then cl h b c else cl h k c := fun k c hc => T1 w (by omega) (by omega) (by omega) (by omega) (by omega) hc
 by_cases q : j = a
 ·subst q;exact ⟨b, by rw [GE]; exact b1, by rw [C b 0 (by omega), if_pos rfl]; exact e0, by rw [C b 1 (by omega), if_pos rfl]; exact e1⟩
 by_cases r : j = b
 ·subst r;refine ⟨a, by rw [GE]; exact a1, ?_, ?_⟩
  ·rw [C a 0 (by omega), if_neg (by omega), if_pos rfl]; exact e0
  ·rw [C a 1 (by omega), if_neg (by omega), if_pos rfl]; exact e1
 refine ⟨j, by rw [GE]; exact j1, ?_, ?_⟩
 ·rw [C j 0 (by omega), if_neg (by omega), if_neg (by omega)]; exact e0
 ·rw [C j 1 (by omega), if_neg (by omega), if_neg (by omega)]; exact e1
def Eo (h : D) : Prop := ∀ j : Nat, j < len h → ∃ x y, cl h j 0 = .int x ∧ cl h j 1 = .int y
theorem R0 {h : D} {a b : Nat} (w : Wd h 2) (a1 : a < len h) (b1 : b < len h) (hi : Eo h) : Eo (swp h a b) := by
 have C : ∀ (k : Nat) (c : Nat), c < 2 → cl (swp h a b) k c = if (k : Int) = b then cl h a c else if (k : Int) = a then cl h b c else cl h k c := fun k c hc => T1 w (by omega) (by omega) (by omega) (by omega) (by omega) hc
 intro j j1;rw [GE] at j1;rw [C j 0 (by omega), C j 1 (by omega)]
 by_cases q : (j : Int) = b
 ·simp only [if_pos q]; exact hi a a1
 ·simp only [if_neg q];by_cases r : (j : Int) = a
  ·simp only [if_pos r]; exact hi b b1
  ·simp only [if_neg r]; exact hi j j1
theorem aD {h : D} {x y : Int} (hi : Eo h) : Eo (ad h (.row [.int x, .int y])) := by
 intro j j1;rw [BZ] at j1;rw [C9 (by omega), C9 (by omega)]
 by_cases q : (j : Int) = len h
 ·simp only [if_pos q]; exact ⟨x, y, rfl, rfl⟩
 ·simp only [if_neg q]; exact hi j (by omega)
theorem fx {a : D} {lo hi : Int} {n : Nat} (h : Wd a n) : Wd (sb a lo hi) n := fun r hr => h r (List.mem_of_mem_drop (List.mem_of_mem_take hr))
theorem w1 : IntKind.wrap .i64 (0 + 1) = 1 := rfl
theorem w2 : IntKind.wrap .i64 (1 + 1) = 2 := rfl
theorem Xx {x : Int} (h0 : 0 ≤ x) (h1 : x < 4611686018427387904) : ari .quo .i64 x 2 = x / 2 := by
 have e : ari .quo .i64 x 2 = IntKind.wrap .i64 (x.tdiv 2) := by unfold ari; rfl
 rw [e, Int.tdiv_eq_ediv_of_nonneg h0, AG (by omega) (by omega)]
section
variable [An]
theorem XY {n i l c1 c2 : Nat} {v4 : Int} {v5 h v8 : D} {b : Bool} (hn : len h = n) (hl : l < n ∨ c2 ≥ n) : ∃ l' : Nat, (l' = l ∨ l' = c2 ∧ c2 < n) ∧ Bz (.int n) (.int i) (.int l) (.int 1) (.int v4) v5 h (.bool b) v8 (.int c1) (.int c2) = Bz (.int n) (.int i) (.int l') (.int 2) (.int v4) v5 h (.bool b) v8 (.int c1) (.int c2) := by
 rw [Rf, ifT (by omega), ifF (by omega), ifT rfl]
 by_cases q : c2 < n
 ·rw [ifT (by omega), ifF (by omega), ifT (by omega), ifF (by omega), ifT (by omega), w2]
  cases decide ((cl h c2 0).toInt < (cl h l 0).toInt) <;> cases decide ((cl h c2 1).toInt < (cl h l 1).toInt) <;> cases decide ((cl h l 1).toInt < (cl h c2 1).toInt) <;> cases decide ((cl h l 0).toInt < (cl h c2 0).toInt) <;>
   first | exact ⟨l, .inl rfl, rfl⟩ | exact ⟨c2, .inr ⟨rfl, q⟩, rfl⟩
 ·rw [ifF (by omega), w2]
  exact ⟨l, .inl rfl, rfl⟩
theorem Yw {n i l c1 c2 : Nat} {v4 : Int} {v5 h v8 : D} {b : Bool} (hn : len h = n) (hl : l < n ∨ c1 ≥ n) : ∃ l' : Nat, (l' = l ∨ l' = c1 ∧ c1 < n) ∧ Bz (.int n) (.int i) (.int l) (.int 0) (.int v4) v5 h (.bool b) v8 (.int c1) (.int c2) = Bz (.int n) (.int i) (.int l') (.int 1) (.int v4) v5 h (.bool b) v8 (.int c1) (.int c2) := by
 rw [Rf, ifT (by omega), ifT rfl]
 by_cases q : c1 < n
 ·rw [ifT (by omega), ifF (by omega), ifT (by omega), ifF (by omega), ifT (by omega), w1]
  cases decide ((cl h c1 0).toInt < (cl h l 0).toInt) <;> cases decide ((cl h c1 1).toInt < (cl h l 1).toInt) <;> cases decide ((cl h l 1).toInt < (cl h c1 1).toInt) <;> cases decide ((cl h l 0).toInt < (cl h c1 0).toInt) <;>
   first | exact ⟨l, .inl rfl, rfl⟩ | exact ⟨c1, .inr ⟨rfl, q⟩, rfl⟩
 ·rw [ifF (by omega), w1]
  exact ⟨l, .inl rfl, rfl⟩
theorem VE {n : Nat} (hn : n < 1000000) {v2 : Int} {v3 v6 : D} {b : Bool} : ∀ (k i : Nat) (h : D), n ≤ i + k → i ≤ n → len h = n → Wd h 2 → ∃ h', RF (.int n) (.int i) (.int v2) v3 h (.bool b) v6 = .row [.int 1, h', .bool b] ∧ Wd h' 2 ∧ len h' = n ∧ (Eo h → Eo h') ∧ ∀ x y, In2 h x y → In2 h' x y := by
 intro k
 induction k with
 | zero =>
  intro i h hk hi hl w;have : i = n := by omega
  subst this;rw [Yl, AG (a := 2 * (i : Int)) (by omega) (by omega), AG (by omega) (by omega), AG (by omega) (by omega)]
  obtain ⟨l1, c1, q1⟩ := Yw (n := i) (i := i) (l := i) (c1 := 2 * i + 1) (c2 := 2 * i + 2) (v4 := v2) (v5 := v3) (h := h) (v8 := v6) (b := b) hl (.inr (by omega))
  have c1 : l1 = i := by omega
  subst c1;obtain ⟨l2, c2, q2⟩ := XY (n := l1) (i := l1) (l := l1) (c1 := 2 * l1 + 1) (c2 := 2 * l1 + 2) (v4 := v2) (v5 := v3) (h := h) (v8 := v6) (b := b) hl (.inr (by omega))
  have c2 : l2 = l1 := by omega
  subst c2;have E := q1.trans q2;refine ⟨h, ?_, w, hl, id, fun _ _ q => q⟩
  show Bz (.int (l2 : Nat)) (.int (l2 : Nat)) (.int (l2 : Nat)) (.int 0) (.int v2) v3 h (.bool b) v6 (.int ((2 * l2 + 1 : Nat) : Int)) (.int ((2 * l2 + 2 : Nat) : Int)) = _;rw [E, Rf, ifF (by omega), ifT rfl]
 | succ k ih =>
  intro i h hk hi hl w;rw [Yl, AG (a := 2 * (i : Int)) (by omega) (by omega), AG (by omega) (by omega), AG (by omega) (by omega)]
  obtain ⟨l1, c1, q1⟩ := Yw (n := n) (i := i) (l := i) (c1 := 2 * i + 1) (c2 := 2 * i + 2) (v4 := v2) (v5 := v3) (h := h) (v8 := v6) (b := b) hl (by omega)
  obtain ⟨l2, c2, q2⟩ := XY (n := n) (i := i) (l := l1) (c1 := 2 * i + 1) (c2 := 2 * i + 2) (v4 := v2) (v5 := v3) (h := h) (v8 := v6) (b := b) hl (by omega)
  have E := q1.trans q2;have E' : Bz (.int (n : Nat)) (.int (i : Nat)) (.int (i : Nat)) (.int 0) (.int v2) v3 h (.bool b) v6 (.int (2 * (i : Int) + 1)) (.int (2 * (i : Int) + 2)) = Bz (.int (n : Nat)) (.int (i : Nat)) (.int (l2 : Nat)) (.int 2) (.int v2) v3 h (.bool b) v6 (.int (2 * i + 1 : Nat)) (.int (2 * i + 2 : Nat)) := E;rw [E', Rf, ifF (by omega)]
  by_cases q : l2 = i
  ·rw [ifT (by omega)]
   exact ⟨h, rfl, w, hl, id, fun _ _ q => q⟩
  ·rw [ifF (by omega), ifF (by omega), ifT (by omega), ifF (by omega), ifT (by omega)]
   obtain ⟨h', r1, r2, r3, r5, r4⟩ := ih l2 (swp h i l2) (by omega) (by omega) (by rw [GE]; exact hl) (UP w)
   exact ⟨h', r1, r2, r3, fun hi => r5 (R0 w (by omega) (by omega) hi), fun x y hi => r4 x y (UQ w (by omega) (by omega) hi)⟩
theorem UO {v0 : Int} {v1 v2 h : D} {b : Bool} (w : Wd h 2) (h0 : 0 < len h) (h1 : len h < 1000000) : ∃ h', FY (.int v0) v1 v2 h (.bool b) = .row [.int 1, h', .bool b] ∧ Wd h' 2 ∧ len h' = len h - 1 ∧ (Eo h → Eo h') ∧ ∀ x y, In2 h x y → ¬ ((cl h 0 0).toInt = x ∧ (cl h 0 1).toInt = y) → In2 h' x y := by
 have e : IntKind.wrap .i64 ((len h : Int) - 1) = ((len h - 1 : Nat) : Int) := by rw [AG (by omega) (by omega)]; omega
 generalize hm : len h - 1 = m at e;rw [i7, e, ifF (by omega), ifT (by omega), ifT (by omega), ifF (by simp only [D0]; omega)]
 have wa : Wd (upd h 0 0 (cl h m 0)) 2 := Ea w;have wb : Wd (upd (upd h 0 0 (cl h m 0)) 0 1 (cl h m 1)) 2 := Ea wa
 have C : ∀ (k c : Nat), c < 2 → cl (upd (upd h 0 0 (cl h m 0)) 0 1 (cl h m 1)) k c = if k = 0 then cl h m c else cl h k c := by
  intro k c hc;rw [ES wa (by omega) (by omega) (by simp only [D0]; omega) (by omega), ES w (by omega) (by omega) (by omega) (by omega)]
  match c, hc with
  | 0, _ =>
   by_cases q : k = 0
   ·rw [if_neg (by omega), if_pos (by omega), if_pos q]
   ·rw [if_neg (by omega), if_neg (by omega), if_neg q]
  | 1, _ =>
   by_cases q : k = 0
   ·rw [if_pos (by omega), if_pos q]
   ·rw [if_neg (by omega), if_neg (by omega), if_neg q]
 have lg : len (upd (upd h 0 0 (cl h m 0)) 0 1 (cl h m 1)) = len h := by simp only [D0]
 generalize upd (upd h 0 0 (cl h m 0)) 0 1 (cl h m 1) = g at wb C lg
 have ls : len (sb g 0 m) = m := by
  have := T7 (a := g) (lo := 0) (hi := (m : Int)) (by omega) (by omega)
  omega
 obtain ⟨h', r1, r2, r3, r5, r4⟩ := VE (n := m) (by omega) (v2 := v0) (v3 := v2) (v6 := v1) (b := b) m 0 (sb g 0 m) (by omega) (by omega) ls (fx wb)
 refine ⟨h', r1, r2, by omega, fun hi => r5 (fun j j1 => ?_), fun x y hi hne => r4 x y ?_⟩
 ·rw [LD (by omega) (by omega), LD (by omega) (by omega), C j 0 (by omega), C j 1 (by omega)]
  by_cases q : j = 0
  ·simp only [if_pos q]; exact hi m (by omega)
  ·simp only [if_neg q]; exact hi j (by omega)
 obtain ⟨j, j1, e0, e1⟩ := hi
 have j0 : j ≠ 0 := fun c => by
  subst c;exact hne ⟨e0, e1⟩
 by_cases q : j = m
 ·subst q;refine ⟨0, by omega, ?_, ?_⟩
  ·rw [LD (by omega) (by omega), C 0 0 (by omega), if_pos rfl]; exact e0
  ·rw [LD (by omega) (by omega), C 0 1 (by omega), if_pos rfl]; exact e1
 ·refine ⟨j, by omega, ?_, ?_⟩
  ·rw [LD (by omega) (by omega), C j 0 (by omega), if_neg j0]; exact e0
  ·rw [LD (by omega) (by omega), C j 1 (by omega), if_neg j0]; exact e1
theorem Yz {h : D} {x y : Int} : (∀ a b, In2 h a b → In2 (ad h (.row [.int x, .int y])) a b) ∧ In2 (ad h (.row [.int x, .int y])) x y := by
 refine ⟨fun a b hi => ?_, len h, by rw [BZ]; omega, ?_, ?_⟩
 ·obtain ⟨j, j1, e0, e1⟩ := hi;refine ⟨j, by rw [BZ]; omega, ?_, ?_⟩
  ·rw [C9 (by omega), if_neg (by omega)]; exact e0
  ·rw [C9 (by omega), if_neg (by omega)]; exact e1
 ·rw [C9 (by omega), if_pos rfl]; rfl
 ·rw [C9 (by omega), if_pos rfl]; rfl
theorem VU {n : Nat} (hn : n < 1000000) {t : Int} {v2 v4 : D} {b : Bool} : ∀ (k i : Nat) (h : D), i ≤ k → i < n → len h = n → Wd h 2 → ∃ h', Jx (.int i) (.int t) v2 h (.bool b) v4 = .row [.int 1, h', .bool b] ∧ Wd h' 2 ∧ len h' = n ∧ (Eo h → Eo h') ∧ ∀ x y, In2 h x y → In2 h' x y := by
 intro k
 induction k with
 | zero =>
  intro i h hk hi hl w;have : i = 0 := by omega
  subst this;rw [X4, ifF (by omega)]
  exact ⟨h, rfl, w, hl, id, fun _ _ q => q⟩
 | succ k ih =>
  intro i h hk hi hl w;rw [X4];by_cases q : 0 < (i : Int)
  ·have e : ari .quo .i64 (IntKind.wrap .i64 ((i : Int) - 1)) 2 = (((i - 1) / 2 : Nat) : Int) := by
    rw [AG (by omega) (by omega), Xx (by omega) (by omega)]; omega
   rw [e];generalize hu : (i - 1) / 2 = u
   have R : ∃ h', Jx (.int u) (.int t) v2 (swp h u i) (.bool b) v4 = .row [.int 1, h', .bool b] ∧ Wd h' 2 ∧ len h' = n ∧ (Eo h → Eo h') ∧ ∀ x y, In2 h x y → In2 h' x y := by
    obtain ⟨h', r1, r2, r3, r5, r4⟩ := ih u (swp h u i) (by omega) (by omega) (by rw [GE]; exact hl) (UP w)
    exact ⟨h', r1, r2, r3, fun hi => r5 (R0 w (by omega) (by omega) hi), fun x y hi => r4 x y (UQ w (by omega) (by omega) hi)⟩
   have S : ∃ h', D.row [.int 1, h, .bool b] = .row [.int 1, h', .bool b] ∧ Wd h' 2 ∧ len h' = n ∧ (Eo h → Eo h') ∧ ∀ x y, In2 h x y → In2 h' x y := ⟨h, rfl, w, hl, id, fun _ _ q => q⟩
   rw [ifT q, ifF (by omega), ifT (by omega), ifT (by omega)]
   cases decide ((cl h u 0).toInt < (cl h i 0).toInt) <;> cases decide ((cl h u 1).toInt < (cl h i 1).toInt) <;> cases decide ((cl h i 1).toInt < (cl h u 1).toInt) <;> cases decide ((cl h i 0).toInt < (cl h u 0).toInt) <;> first | exact S | exact R
  ·rw [ifF q];exact ⟨h, rfl, w, hl, id, fun _ _ q => q⟩
theorem aa {t x y : Int} {v1 v2 : D} {h : D} {b : Bool} (w : Wd h 2) (h1 : len h < 1000) : ∃ h', Ew (.int t) v1 v2 h (.bool b) (.int x) (.int y) = .row [.int 1, h', .bool false] ∧ Wd h' 2 ∧ len h' = len h + 1 ∧ (Eo h → Eo h') ∧ (∀ a b, In2 h a b → In2 h' a b) ∧ In2 h' x y := by
 have e : IntKind.wrap .i64 ((len (ad h (.row [.int x, .int y])) : Int) - 1) = ((len h : Nat) : Int) := by rw [BZ, AG (by omega) (by omega)]; omega
 rw [dI, ifT (by omega), e]
 have hw : Wd (ad h (.row [.int x, .int y])) 2 := Vk w rfl;obtain ⟨h', r1, r2, r3, r5, r4⟩ := VU (n := len h + 1) (by omega) (t := t) (v2 := v2) (v4 := v1) (b := false) (len h) (len h) (ad h (.row [.int x, .int y])) (by omega) (by omega) (by rw [BZ]) hw
 exact ⟨h', r1, r2, by omega, fun hi => r5 (aD hi), fun a b hi => r4 a b (Yz.1 a b hi), r4 x y Yz.2⟩
end
end Ml
namespace Ml
open Go Go.AE
def Dm (due dn : D) : Option Int → Prop
 | none => due.rows = []
 | some d => due.rows = [.row [.int 0, .int d]] ∧ dn.toBool = false
structure CK (due dn hp : D) (b : Bool) (o : Option Int) : Prop where
 dm : Dm due dn o
 wd : Wd hp 2
 al : Eo hp
 nl : b = true → len hp = 0
 inn : ∀ d, o = some d → In2 hp d 0
theorem H7 {a k : D} (h : a.rows = []) : mIx [.int .i64] a k = -1 := by unfold mIx; rw [h]; rfl
theorem PE {a k : D} {d : Int} (h : a.rows = [.row [.int 0, .int d]]) : mIx [.int .i64] a (.row [k]) = if k.toInt = 0 then 0 else -1 := by
 unfold mIx;rw [h]
 show (match ((0 : Int) == k.toInt) && true with
  | true => ((0 : Nat) : Int)
  | false => -1) = _
 by_cases q : k.toInt = 0
 ·rw [if_pos q, q]; rfl
 ·rw [if_neg q]
  have : ((0 : Int) == k.toInt) = false := by
   cases e : ((0 : Int) == k.toInt) with
   | false => rfl
   | true => exact absurd (eq_of_beq e).symm q
  rw [this]; rfl
theorem H4 {a : D} {d : Int} (h : a.rows = [.row [.int 0, .int d]]) : mIx [.int .i64] a (.row [.int 0]) = 0 := (PE h).trans (if_pos rfl)
theorem Vv {a : D} {d t : Int} (h : a.rows = [.row [.int 0, .int d]]) (ht : t ≠ 0) : mIx [.int .i64] a (.row [.int t]) = -1 := (PE h).trans (if_neg ht)
theorem No {a : D} {d : Int} (h : a.rows = [.row [.int 0, .int d]]) : cl a 0 1 = .int d := by
 unfold cl; rw [h]; rfl
theorem KO {a : D} {d : Int} (h : a.rows = [.row [.int 0, .int d]]) : (JU a 0).rows = [] := by
 show a.rows.eraseIdx 0 = [];rw [h]; rfl
section
variable [An]
variable {due dn : D}
theorem K9 {v0 : Int} (hd : due.rows = []) : ∀ (k : Nat) (hp : D) (b : Bool), len hp = k → k < 100000 → Wd hp 2 → Eo hp → (b = true → len hp = 0) → ∃ hp', JL (.int v0) dn hp (.bool b) due = .row [.int 1, .int 0, .int 0, .bool false, hp', .bool b] ∧ Wd hp' 2 ∧ Eo hp' ∧ (b = true → len hp' = 0) ∧ len hp' ≤ k := by
 intro k
 induction k with
 | zero =>
  intro hp b hl hk w a n;rw [UX, ifF (by omega)]
  exact ⟨hp, rfl, w, a, n, by omega⟩
 | succ k ih =>
  intro hp b hl hk w a n;obtain ⟨h', q1, q2, q3, q4, _⟩ := UO (v0 := v0) (v1 := due) (v2 := dn) (b := b) w (by omega) (by omega)
  have hb : b = false := by
   cases b with
   | false => rfl
   | true => have := n rfl; omega
  obtain ⟨h2, r1, r2, r3, r4, r5⟩ := ih h' b (by omega) (by omega) q2 (q4 a) (fun c => by rw [hb] at c; cases c)
  rw [UX, ifT (by omega)]
  simp only [q1, H7 hd, AX, AW, Av, AH, decide_true, cond_true, r1];refine ⟨h2, ?_, r2, r3, r4, by omega⟩
  cases dn.toBool <;> rfl
theorem Qc {v0 d : Int} (hd : due.rows = [.row [.int 0, .int d]]) (hn : dn.toBool = false) : ∀ (k : Nat) (hp : D) (b : Bool), len hp = k → k < 100000 → Wd hp 2 → Eo hp → (b = true → len hp = 0) → In2 hp d 0 → ∃ hp', JL (.int v0) dn hp (.bool b) due = .row [.int 1, .int d, .int 0, .bool true, hp', .bool b] ∧ Wd hp' 2 ∧ Eo hp' ∧ (b = true → len hp' = 0) ∧ len hp' ≤ k ∧ In2 hp' d 0 := by
 intro k
 induction k with
 | zero =>
  intro hp b hl hk w a n i;obtain ⟨j, j1, _⟩ := i;omega
 | succ k ih =>
  intro hp b hl hk w a n i;obtain ⟨h', q1, q2, q3, q4, q5⟩ := UO (v0 := v0) (v1 := due) (v2 := dn) (b := b) w (by omega) (by omega)
  have hb : b = false := by
   cases b with
   | false => rfl
   | true => have := n rfl; omega
  obtain ⟨x, t, ex, et⟩ := a 0 (by omega)
  have ex : cl hp 0 0 = .int x := ex;have et : cl hp 0 1 = .int t := et
  have step : ¬ (x = d ∧ t = 0) → ∃ hp', JL (.int v0) dn h' (.bool b) due = .row [.int 1, .int d, .int 0, .bool true, hp', .bool b] ∧ Wd hp' 2 ∧ Eo hp' ∧ (b = true → len hp' = 0) ∧ len hp' ≤ k + 1 ∧ In2 hp' d 0 := fun hne => by
   obtain ⟨h2, r1, r2, r3, r4, r5, r6⟩ := ih h' b (by omega) (by omega) q2 (q4 a) (fun c => by rw [hb] at c; cases c) (q5 d 0 i (fun c => by
    rw [ex, et] at c;exact hne c))
   exact ⟨h2, r1, r2, r3, r4, by omega, r6⟩
  rw [UX, ifT (by omega), hn]
  simp only [q1, et, ex, AX, AW, Av, AH, decide_true, cond_true, cond_false];by_cases c : t = 0
  ·subst c;rw [H4 hd, ifF (by omega), No hd]
   simp only [Av];by_cases e : d = x
   ·subst e;simp only [eq_self, decide_true, cond_true];exact ⟨hp, rfl, w, a, n, by omega, i⟩
   ·simp only [e, decide_false, cond_false];exact step (fun c => e c.1.symm)
  ·rw [Vv hd c, ifT (by omega)]
   exact step (fun e => c e.2)
theorem CK.none_of {hp : D} {b : Bool} {o : Option Int} (h : CK due dn hp b o) {due' : D} (hd : due'.rows = []) (dn' : D) : CK due' dn' hp b none := ⟨hd, h.wd, h.al, h.nl, fun d c => by cases c⟩
theorem ZD {hp : D} {b : Bool} {o : Option Int} {now t : Int} (h : CK due dn hp b o) (hl : len hp < 100000) (h0 : now ≤ t) (h1 : t ≤ 1099511627776) :
  ∃ (out : D) (on : Bool) (hp' due' : D), LU (.int now) due dn hp (.bool b) (.int t) = .row [.int 1, out, .bool on, .int 0, .int t, hp', .bool b, due'] ∧ len hp' ≤ len hp ∧
   ((∃ d, o = some d ∧ d ≤ t ∧ decide (0 < (len out : Int)) = true ∧ CK due' dn hp' b none) ∨ ((∀ d, o = some d → t < d) ∧ decide (0 < (len out : Int)) = false ∧ CK due' dn hp' b o)) := by
 have F : ∀ {x : D}, (∃ r, Bo (.int t) due dn hp (.bool b) = r ∧ cond (decide ((sl r 0).toInt = 1)) (Lg Ay (.bool true) (sl r 3) (.int t) dn (sl r 4) (sl r 5) due (sl r 1) (sl r 2)) (.row []) = x) → LU (.int now) due dn hp (.bool b) (.int t) = x := by
  intro x hx;obtain ⟨r, r1, r2⟩ := hx;rw [bP, ifF (by omega)]
  by_cases c : now < t
  ·rw [ifT c, r1]; exact r2
  ·have : now = t := by omega
   subst this;rw [ifF c, r1]; exact r2
 cases o with
 | none =>
  obtain ⟨h2, r1, r2, r3, r4, r5⟩ := K9 (dn := dn) (v0 := t) h.dm (len hp) hp b rfl hl h.wd h.al h.nl;refine ⟨Ay, true, h2, due, F ⟨_, (Rg ..).trans r1, ?_⟩, r5, .inr ⟨(fun d c => nomatch c), rfl, h.dm, r2, r3, r4, (fun d c => nomatch c)⟩⟩
  simp only [AX, AW, Av, decide_true, cond_true];rw [Rh]; rfl
 | some d =>
  obtain ⟨h2, r1, r2, r3, r4, r5, r6⟩ := Qc (v0 := t) h.dm.1 h.dm.2 (len hp) hp b rfl hl h.wd h.al h.nl (h.inn d rfl);by_cases c : t < d
  ·refine ⟨Ay, true, h2, due, F ⟨_, (Rg ..).trans r1, ?_⟩, r5, .inr ⟨(fun d' c' => (by cases c'; exact c)), rfl, h.dm, r2, r3, r4, (fun d' c' => (by cases c'; exact r6))⟩⟩
   simp only [AX, AW, Av, decide_true, cond_true];rw [Rh, cT rfl, ifT c]
  ·obtain ⟨h3, s1, s2, s3, s4, s5⟩ := K9 (due := JU due 0) (dn := dn) (v0 := t) (KO h.dm.1) (len h2) h2 b rfl (by omega) r2 r3 r4
   refine ⟨ad Ay (.row [.int 0]), false, h3, JU due 0, F ⟨_, (Rg ..).trans r1, ?_⟩, by omega, .inl ⟨d, rfl, by omega, by rw [BZ]; exact decide_eq_true (by omega), KO h.dm.1, s2, s3, s4, (fun d' c' => nomatch c')⟩⟩
   simp only [AX, AW, Av, decide_true, cond_true];rw [Rh, cT rfl, ifF c, ifT (by rw [BO]; omega), h.dm.2]
   simp only [H4 h.dm.1, cond_false];rw [ifF (by omega), Rg, s1]
   simp only [AX, AW, Av, decide_true, cond_true];rw [Rh]; rfl
theorem XM {hp : D} {b : Bool} {o : Option Int} {now : Int} (h : CK due dn hp b o) : ∃ (e : Int) (due' : D), If (.int now) due dn hp (.bool b) (.int 0) = .row [.int 1, .int e, due'] ∧ CK due' dn hp b none := by
 cases o with
 | none =>
  have hz : due.rows = [] := h.dm
  have g : G1 (.int now) due dn hp (.bool b) (.int 0) = .row [.int 1, .int 0, .int 9] := by
   rw [VS, ifF (by omega), ifT (by omega), H7 hz]
   cases dn.toBool
   ·rw [cF rfl, ifT (by omega)]
   ·rfl
  refine ⟨9, due, ?_, h.none_of hz dn⟩;rw [XS, g];rfl
 | some d =>
  have hd := h.dm.1
  have g : G1 (.int now) due dn hp (.bool b) (.int 0) = .row [.int 1, .int (IntKind.wrap .i64 (d - now)), .int 0] := by
   rw [VS, ifF (by omega), ifT (by omega), h.dm.2, cF rfl]
   simp only [H4 hd];rw [No hd]; rfl
  refine ⟨0, JU due 0, ?_, h.none_of (KO hd) dn⟩;rw [XS, g, h.dm.2, H4 hd];rfl
theorem U6 {hp : D} {b : Bool} {now w : Int} (h : CK due dn hp b none) (hl : len hp < 1000) (n0 : 0 ≤ now) (n1 : now ≤ 1099511627776) (w0 : 0 ≤ w) (w1 : w ≤ 1048576) :
  ∃ (e : Int) (dn' hp' due' : D) (b' : Bool), LE (.int now) due dn hp (.bool b) (.int 0) (.int w) = .row [.int 1, .int e, dn', hp', .bool b', due'] ∧ len hp' ≤ len hp + 1 ∧
   CK due' dn' hp' b' (if now + w ≤ 1099511627776 then some (now + w) else none) := by
 rw [cZ, ifF (by omega), ifT (by omega), ifF (by omega), AG (by omega) (by omega)]
 by_cases c : 1099511627776 - now < w
 ·rw [ifT c, if_neg (by omega)]
  exact ⟨3, dn, hp, due, b, rfl, by omega, h⟩
 rw [ifF c, if_pos (by omega), AG (by omega) (by omega), H7 (show due.rows = [] from h.dm)]
 have R : ∀ (due0 dn0 dn1 : D), due0.rows = [] → dn1.toBool = false → ∃ (e : Int) (dn' hp' due' : D) (b' : Bool), cond (decide ((sl (Ew (.int now) (ad due0 (.row [.int 0, .int (now + w)])) dn0 hp (.bool b) (.int (now + w)) (.int 0)) 0).toInt = 1))
   (D.row [.int 1, .int 0, dn1, sl (Ew (.int now) (ad due0 (.row [.int 0, .int (now + w)])) dn0 hp (.bool b) (.int (now + w)) (.int 0)) 1, sl (Ew (.int now) (ad due0 (.row [.int 0, .int (now + w)])) dn0 hp (.bool b) (.int (now + w)) (.int 0)) 2, ad due0 (D.row [.int 0, .int (now + w)])]) (D.row []) = D.row [.int 1, .int e, dn', hp', .bool b', due'] ∧ len hp' ≤ len hp + 1 ∧ CK due' dn' hp' b' (some (now + w)) := by
  intro due0 dn0 dn1 h0 h1;obtain ⟨h', r1, r2, r3, r4, r5, r6⟩ := aa (t := now) (x := now + w) (y := 0) (v1 := ad due0 (.row [.int 0, .int (now + w)])) (v2 := dn0) (b := b) h.wd hl;simp only [r1, AX, AW, Av, decide_true, cond_true];refine ⟨0, dn1, h', _, false, rfl, by omega, ⟨?_, h1⟩, r2, r4 h.al, fun c => (by cases c), fun d c => by cases c; exact r6⟩
  show due0.rows ++ [_] = _;rw [h0]; rfl
 cases hd : dn.toBool
 ·rw [cF rfl, ifT (by omega)]
  exact R due dn dn h.dm hd
 ·rw [cT rfl];exact R Ax (.bool false) (.bool false) rfl rfl
theorem RT {hp : D} {b : Bool} {o : Option Int} {now : Int} (h : CK due dn hp b o) (hl : len hp < 1000) :
  ∃ (dn' hp' due' : D) (b' : Bool), FM (.int now) due dn hp (.bool b) = .row [.int 1, .int now, dn', hp', .bool b', due'] ∧ len hp' = len hp ∧ CK due' dn' hp' b' o := by
 have g : ∃ (hp' : D) (b' : Bool), JG hp (.bool b) = .row [.int 1, hp', .bool b'] ∧ len hp' = len hp ∧ Wd hp' 2 ∧ Eo hp' ∧ (b' = true → len hp' = 0) ∧ ∀ x y, In2 hp x y → In2 hp' x y := by
  rw [cS];cases b with
  | true =>
   have n := h.nl rfl;exact ⟨Ay, true, rfl, by rw [n]; rfl, Ic, fun j hj => by rw [BO] at hj; omega, fun _ => rfl, fun x y ⟨j, hj, _⟩ => by omega⟩
  | false =>
   rw [cF rfl, ifT (by omega)]
   exact ⟨ct Ax hp, false, rfl, rfl, h.wd, h.al, (fun c => nomatch c), fun x y q => q⟩
 obtain ⟨hp', b', g1, g2, g3, g4, g5, g6⟩ := g;rw [aN];simp only [g1, AX, AW, Av, decide_true, cond_true];cases hd : dn.toBool
 ·exact ⟨.bool false, hp', due, b', rfl, g2, by
   cases o with
   | none => exact h.dm
   | some d => exact ⟨h.dm.1, rfl⟩, g3, g4, g5, fun d c => g6 _ _ (h.inn d c)⟩
 ·refine ⟨.bool true, hp', Ax, b', rfl, g2, ?_, g3, g4, g5, fun d c => g6 _ _ (h.inn d c)⟩
  cases o with
  | none => rfl
  | some d => have := h.dm.2; rw [hd] at this; cases this
end
end Ml

